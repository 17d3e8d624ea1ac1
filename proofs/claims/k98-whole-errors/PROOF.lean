import PyProof.Rows.All
import Wide.All
import OpenK.AllK
import Wide.FinOn
import HandS.ForMost
import HandS.ForExc
import HandS.Wide
import HandS.ExcOwn
import HandS.Deep
import HandS.Style
import HandS.WideBits
import HandS.IsInst
import HandS.NoneIn
import HandS.SortInts
import KE.LtSeq
import HandS.ExcInit
import KE.KExcSuper
import HandS.NamedTupSort
import HandS.ExcField
import HandS.ExcIs
import HandS.Iter
import HandS.Conv
import KE.KExcIs
import HandS.List
import HandS.Ends
import HandS.Words
import HandS.ExcSuper
import HandS.Defaults
import PySem.Challenge.RW_fewforall_k98_whole_errors
set_option Elab.async false
set_option linter.all false
set_option autoImplicit false
set_option maxRecDepth 100000
/-! FA: values of the evaluator as trees, and how they lie in the abstract heap. -/
namespace FF
open PySem PySem.Spec PyProof.Rows L2

abbrev D := PyData

inductive Tr where
  | sh (d : D)
  | lst (ts : List Tr)
  | tup (ts : List Tr)
  | fn (j : Nat)
  | exc (c : Nat) (d : D)
  deriving Inhabited

structure Wd where
  P : Program
  w : World
  K : PySem.W.Frag
  mg : Str → Option Value
  base : Heap
  fa : Nat → Addr
  ca : Nat → Addr
  nc : Nat
  fi : Addr
  fid : FuncData
  fd : Nat → FuncData

/-- an exception object of the class at C with its own dict at dd, at a -/
def XO (C dd a : Addr) : HO := .ext fun h => ∃ (oe : Obj) (vs : Array Value), h.get? a = some oe ∧ oe.cls = .ref C ∧ oe.dict = some dd ∧ oe.data = .fields vs

/-! ### shared data -/
theorem sqL_mono {K : PySem.W.Frag} {G G' : Hp} {a : Addr} {xs : List V} (e : Same G G') (h : SqL K G a xs) : SqL K G' a xs := e.seq h
theorem sqT_mono {K : PySem.W.Frag} {G G' : Hp} {a : Addr} {xs : List V} (e : Same G G') (h : SqT K G a xs) : SqT K G' a xs := by
  rcases h with (h | ⟨o, h⟩) | h
  · exact .inl (.inl (e _ _ h))
  · exact .inl (.inr ⟨o, e _ _ h⟩)
  · exact .inr h
theorem rd_mono {G G' : Hp} {a : Addr} {o : HO} (e : Same G G') (h : Rd G a o) : Rd G' a o := by
  rcases h with h | ⟨u, h⟩
  · exact .inl (e _ _ h)
  · exact .inr ⟨u, e _ _ h⟩
/-! data at any depth; an empty dict -/
mutual
inductive Dp (K : PySem.W.Frag) (H : Hp) : V → PyData → Prop
  | non : Dp K H .non .none
  | bl (b : Bool) : Dp K H (.bl b) (.bool b)
  | int (i : Int) : Dp K H (.int i) (.int i)
  | str (x : Str) : Dp K H (.str x) (.str x)
  | lst {a : Addr} {xs : List V} {ds : List PyData} : SqL K H a xs → DpAll K H xs ds → Dp K H (.ref a) (.list ds)
  | tup {a : Addr} {xs : List V} {ds : List PyData} : SqT K H a xs → DpAll K H xs ds → Dp K H (.ref a) (.tuple ds)
  | dct {a : Addr} : Rd H a (.dK []) → Dp K H (.ref a) (.dict [])
  | dc1 {a : Addr} {s : Str} {i : Int} : Rd H a (.dK [(.inr s, .int i)]) → Dp K H (.ref a) (.dict [(.str s, .int i)])
inductive DpAll (K : PySem.W.Frag) (H : Hp) : List V → List PyData → Prop
  | nil : DpAll K H [] []
  | cons {v : V} {vs : List V} {d : PyData} {ds : List PyData} : Dp K H v d → DpAll K H vs ds → DpAll K H (v :: vs) (d :: ds)
end
mutual
theorem Dp.plain {K : PySem.W.Frag} {H : Hp} : ∀ {v : V} {d : D}, Dp K H v d → d.hasDict = false → L2.Dp K H v d
  | _, _, .non, _ => .non
  | _, _, .bl b, _ => .bl b
  | _, _, .int i, _ => .int i
  | _, _, .str x, _ => .str x
  | _, _, .lst h t, e => .lst h (DpAll.plain t (by rwa [PyData.hasDict] at e))
  | _, _, .tup h t, e => .tup h (DpAll.plain t (by rwa [PyData.hasDict] at e))
  | _, _, .dct _, e => by rw [PyData.hasDict] at e; cases e
  | _, _, .dc1 _, e => by rw [PyData.hasDict] at e; cases e
theorem DpAll.plain {K : PySem.W.Frag} {H : Hp} : ∀ {vs : List V} {ds : List D}, DpAll K H vs ds → PyData.hasDictAll ds = false → L2.DpAll K H vs ds
  | _, _, .nil, _ => .nil
  | _, _, .cons h t, e => by
    rw [PyData.hasDictAll, Bool.or_eq_false_iff] at e
    exact .cons (Dp.plain h e.1) (DpAll.plain t e.2)
end
theorem Dp.shp {K : PySem.W.Frag} {H : Hp} {v : V} {d : D} (h : Dp K H v d) (s : SeqAt.shaped d = true) : L2.Dp K H v d := h.plain (PyData.hasDict_of_canLay d (SeqAt.canLay_of_shaped s))
mutual
theorem dp_mono {K : PySem.W.Frag} {G G' : Hp} (e : Same G G') : ∀ {v : V} {d : D}, Dp K G v d → Dp K G' v d
  | _, _, .non => .non
  | _, _, .bl b => .bl b
  | _, _, .int i => .int i
  | _, _, .str x => .str x
  | _, _, .lst h t => .lst (sqL_mono e h) (dpAll_mono e t)
  | _, _, .tup h t => .tup (sqT_mono e h) (dpAll_mono e t)
  | _, _, .dct h => .dct (rd_mono e h)
  | _, _, .dc1 h => .dc1 (rd_mono e h)
theorem dpAll_mono {K : PySem.W.Frag} {G G' : Hp} (e : Same G G') : ∀ {vs : List V} {ds : List D}, DpAll K G vs ds → DpAll K G' vs ds
  | _, _, .nil => .nil
  | _, _, .cons h t => .cons (dp_mono e h) (dpAll_mono e t)
end
theorem DpAll.len {K : PySem.W.Frag} {G : Hp} : ∀ {vs : List V} {ds : List D}, DpAll K G vs ds → vs.length = ds.length
  | _, _, .nil => rfl
  | _, _, .cons _ t => congrArg (· + 1) (DpAll.len t)
theorem DpAll.get {K : PySem.W.Frag} {G : Hp} : ∀ {vs : List V} {ds : List D} {i : Nat} {d : D}, DpAll K G vs ds → ds[i]? = some d → ∃ v, vs[i]? = some v ∧ Dp K G v d
  | _, _, _, _, .nil, e => by simp at e
  | _, _, 0, _, .cons h _, e => by simp at e; subst e; exact ⟨_, rfl, h⟩
  | _, _, i + 1, _, .cons _ t, e => by
    obtain ⟨v, e1, e2⟩ := DpAll.get (i := i) t (by simpa using e)
    exact ⟨v, by simpa using e1, e2⟩
theorem DpAll.app {K : PySem.W.Frag} {G : Hp} : ∀ {vs : List V} {ds : List D} {ws : List V} {es : List D}, DpAll K G vs ds → DpAll K G ws es → DpAll K G (vs ++ ws) (ds ++ es)
  | _, _, _, _, .nil, s => s
  | _, _, _, _, .cons h t, s => .cons h (DpAll.app t s)

/-! ### trees -/
mutual
inductive TR (Ω : Wd) (G H : Hp) : V → Tr → List Addr → Prop
  | sh {v : V} {d : D} : Dp Ω.K G v d → TR Ω G H v (.sh d) []
  | lst {p : Addr} {vs : List V} {ts : List Tr} {F : List Addr} : H p = some (.lst vs) → G p = none → TRs Ω G H vs ts F → TR Ω G H (.ref p) (.lst ts) (p :: F)
  | tup {p : Addr} {vs : List V} {ts : List Tr} {F : List Addr} : H p = some (.tup vs) → G p = none → TRs Ω G H vs ts F → TR Ω G H (.ref p) (.tup ts) (p :: F)
  | fn {j : Nat} : TR Ω G H (.ref (Ω.fa j)) (.fn j) []
  | exc {a dd : Addr} {c : Nat} {u : V} {d : D} : c < Ω.nc → G a = some (XO (Ω.ca c) dd a) → G dd = some (.xd [("value", u)]) → Dp Ω.K G u d → TR Ω G H (.ref a) (.exc c d) []
inductive TRs (Ω : Wd) (G H : Hp) : List V → List Tr → List Addr → Prop
  | nil : TRs Ω G H [] [] []
  | cons {v : V} {vs : List V} {t : Tr} {ts : List Tr} {F1 F2 : List Addr} : TR Ω G H v t F1 → TRs Ω G H vs ts F2 → TRs Ω G H (v :: vs) (t :: ts) (F1 ++ F2)
end

def Disj (A B : List Addr) : Prop := ∀ p ∈ A, p ∉ B
theorem Disj.symm {A B : List Addr} (h : Disj A B) : Disj B A := fun p hb ha => h p ha hb
theorem Disj.appL {A B C : List Addr} : Disj (A ++ B) C ↔ Disj A C ∧ Disj B C := by
  constructor
  · intro h
    exact ⟨fun p hp => h p (List.mem_append_left _ hp), fun p hp => h p (List.mem_append_right _ hp)⟩
  · rintro ⟨h1, h2⟩ p hp
    rcases List.mem_append.mp hp with q | q
    · exact h1 p q
    · exact h2 p q
theorem Disj.appR {A B C : List Addr} : Disj C (A ++ B) ↔ Disj C A ∧ Disj C B := by
  constructor
  · intro h
    exact ⟨fun p hp q => h p hp (List.mem_append_left _ q), fun p hp q => h p hp (List.mem_append_right _ q)⟩
  · rintro ⟨h1, h2⟩ p hp q
    rcases List.mem_append.mp q with q | q
    · exact h1 p hp q
    · exact h2 p hp q
theorem Disj.nilL {A : List Addr} : Disj [] A := fun _ h => nomatch h
theorem Disj.nilR {A : List Addr} : Disj A [] := fun _ _ h => nomatch h
theorem nodup_app {A B : List Addr} : (A ++ B).Nodup ↔ A.Nodup ∧ B.Nodup ∧ Disj A B := by
  rw [List.nodup_append]
  constructor
  · rintro ⟨h1, h2, h3⟩
    exact ⟨h1, h2, fun p ha hb => h3 p ha p hb rfl⟩
  · rintro ⟨h1, h2, h3⟩
    exact ⟨h1, h2, fun a ha b hb e => h3 a ha (e ▸ hb)⟩

/-- how the heap may go on: what stood and is not ours stays, the shared part grows -/
structure Step (G H : Hp) (F : List Addr) (G' H' : Hp) (F' : List Addr) : Prop where
  g : Same G G'
  new : ∀ p, G p = none → G' p ≠ none → H p = none ∨ p ∈ F
  keep : ∀ p o, H p = some o → p ∉ F → H' p = some o
  own : ∀ p ∈ F', p ∈ F ∨ H p = none

theorem Step.refl {G H : Hp} {F F' : List Addr} (h : ∀ p ∈ F', p ∈ F) : Step G H F G H F' := ⟨Same.refl G, fun p a b => absurd a b, fun _ _ e _ => e, fun p hp => .inl (h p hp)⟩
theorem Step.trans {G H G1 H1 G2 H2 : Hp} {F F1 F2 : List Addr} (a : Step G H F G1 H1 F1) (b : Step G1 H1 F1 G2 H2 F2) : Step G H F G2 H2 F2 where
  g := a.g.trans b.g
  new := fun p h1 h2 => by
    cases e : G1 p with
    | some o => exact a.new p h1 (by rw [e]; simp)
    | none =>
      rcases b.new p e h2 with q | q
      · cases r : H p with
        | none => exact .inl rfl
        | some o =>
          by_cases hp : p ∈ F
          · exact .inr hp
          · rw [a.keep p o r hp] at q; cases q
      · rcases a.own p q with z | z
        · exact .inr z
        · exact .inl z
  keep := fun p o h1 h2 => b.keep p o (a.keep p o h1 h2) fun q => by
    rcases a.own p q with z | z
    · exact h2 z
    · rw [h1] at z; cases z
  own := fun p hp => by
    rcases b.own p hp with q | q
    · exact a.own p q
    · cases r : H p with
      | none => exact .inr rfl
      | some o =>
        by_cases hp : p ∈ F
        · exact .inl hp
        · rw [a.keep p o r hp] at q; cases q
/-- with a part that stands by -/
theorem Step.frame {G H G' H' : Hp} {F F' R : List Addr} (a : Step G H F G' H' F') : Step G H (F ++ R) G' H' (F' ++ R) where
  g := a.g
  new := fun p h1 h2 => (a.new p h1 h2).imp id fun q => List.mem_append_left _ q
  keep := fun p o h1 h2 => a.keep p o h1 fun q => h2 (List.mem_append_left _ q)
  own := fun p hp => by
    rcases List.mem_append.mp hp with q | q
    · rcases a.own p q with z | z
      · exact .inl (List.mem_append_left _ z)
      · exact .inr z
    · exact .inl (List.mem_append_right _ q)
theorem Step.sub {G H G' H' : Hp} {F F' F'' : List Addr} (a : Step G H F G' H' F') (h : ∀ p ∈ F'', p ∈ F') : Step G H F G' H' F'' := ⟨a.g, a.new, a.keep, fun p hp => a.own p (h p hp)⟩
theorem Step.wide {G H G' H' : Hp} {F F' Fb : List Addr} (a : Step G H F G' H' F') (h : ∀ p ∈ F, p ∈ Fb) : Step G H Fb G' H' F' :=
  ⟨a.g, fun p x y => (a.new p x y).imp id (h p), fun p o x y => a.keep p o x fun q => y (h p q), fun p hp => (a.own p hp).imp (h p) id⟩

mutual
theorem TR.there {Ω : Wd} {G H : Hp} : ∀ {v : V} {t : Tr} {F : List Addr}, TR Ω G H v t F → ∀ p ∈ F, H p ≠ none ∧ G p = none
  | _, _, _, .sh _, _, h => nomatch h
  | _, _, _, .lst e g r, q, h => by
    rcases List.mem_cons.mp h with z | z
    · subst z; exact ⟨by rw [e]; simp, g⟩
    · exact TRs.there r q z
  | _, _, _, .tup e g r, q, h => by
    rcases List.mem_cons.mp h with z | z
    · subst z; exact ⟨by rw [e]; simp, g⟩
    · exact TRs.there r q z
  | _, _, _, .fn, _, h => nomatch h
  | _, _, _, .exc _ _ _ _, _, h => nomatch h
theorem TRs.there {Ω : Wd} {G H : Hp} : ∀ {vs : List V} {ts : List Tr} {F : List Addr}, TRs Ω G H vs ts F → ∀ p ∈ F, H p ≠ none ∧ G p = none
  | _, _, _, .nil, _, h => nomatch h
  | _, _, _, .cons a b, q, h => by
    rcases List.mem_append.mp h with z | z
    · exact TR.there a q z
    · exact TRs.there b q z
end
mutual
/-- the tree stands on in another heap -/
theorem TR.to {Ω : Wd} {G H G' H' : Hp} (g : Same G G') : ∀ {v : V} {t : Tr} {F : List Addr}, TR Ω G H v t F → (∀ p ∈ F, ∀ o, H p = some o → H' p = some o) → (∀ p ∈ F, G' p = none) → TR Ω G' H' v t F
  | _, _, _, .sh h, _, _ => .sh (dp_mono g h)
  | _, _, _, .lst e z r, k, n => .lst (k _ (List.mem_cons_self ..) _ e) (n _ (List.mem_cons_self ..)) (TRs.to g r (fun p hp => k p (List.mem_cons_of_mem _ hp)) fun p hp => n p (List.mem_cons_of_mem _ hp))
  | _, _, _, .tup e z r, k, n => .tup (k _ (List.mem_cons_self ..) _ e) (n _ (List.mem_cons_self ..)) (TRs.to g r (fun p hp => k p (List.mem_cons_of_mem _ hp)) fun p hp => n p (List.mem_cons_of_mem _ hp))
  | _, _, _, .fn, _, _ => .fn
  | _, _, _, .exc l a b c, _, _ => .exc l (g _ _ a) (g _ _ b) (dp_mono g c)
theorem TRs.to {Ω : Wd} {G H G' H' : Hp} (g : Same G G') : ∀ {vs : List V} {ts : List Tr} {F : List Addr}, TRs Ω G H vs ts F → (∀ p ∈ F, ∀ o, H p = some o → H' p = some o) → (∀ p ∈ F, G' p = none) → TRs Ω G' H' vs ts F
  | _, _, _, .nil, _, _ => .nil
  | _, _, _, .cons a b, k, n => .cons (TR.to g a (fun p hp => k p (List.mem_append_left _ hp)) fun p hp => n p (List.mem_append_left _ hp)) (TRs.to g b (fun p hp => k p (List.mem_append_right _ hp)) fun p hp => n p (List.mem_append_right _ hp))
end
/-- what a step needs of a part that stands by -/
theorem Step.apart {G H G' H' : Hp} {F F' R : List Addr} (s : Step G H F G' H' F') (hr : ∀ p ∈ R, H p ≠ none ∧ G p = none) (d : Disj R F) :
    (∀ p ∈ R, ∀ o, H p = some o → H' p = some o) ∧ (∀ p ∈ R, G' p = none) ∧ Disj R F' := by
  refine ⟨fun p hp o e => s.keep p o e (d p hp), fun p hp => ?_, fun p hp q => ?_⟩
  · cases e : G' p with
    | none => rfl
    | some o =>
      rcases s.new p (hr p hp).2 (by rw [e]; simp) with z | z
      · exact absurd z (hr p hp).1
      · exact absurd z (d p hp)
  · rcases s.own p q with z | z
    · exact d p hp z
    · exact (hr p hp).1 z
theorem TR.step {Ω : Wd} {G H G' H' : Hp} {F F' R : List Addr} {v : V} {t : Tr} (s : Step G H F G' H' F') (r : TR Ω G H v t R) (d : Disj R F) : TR Ω G' H' v t R ∧ Disj R F' :=
  have a := s.apart r.there d
  ⟨r.to s.g a.1 a.2.1, a.2.2⟩
theorem TRs.step {Ω : Wd} {G H G' H' : Hp} {F F' R : List Addr} {vs : List V} {ts : List Tr} (s : Step G H F G' H' F') (r : TRs Ω G H vs ts R) (d : Disj R F) : TRs Ω G' H' vs ts R ∧ Disj R F' :=
  have a := s.apart r.there d
  ⟨r.to s.g a.1 a.2.1, a.2.2⟩

/-! ### lists of trees -/
theorem TRs.len {Ω : Wd} {G H : Hp} : ∀ {vs : List V} {ts : List Tr} {F : List Addr}, TRs Ω G H vs ts F → vs.length = ts.length
  | _, _, _, .nil => rfl
  | _, _, _, .cons _ t => congrArg (· + 1) (TRs.len t)
theorem TRs.app {Ω : Wd} {G H : Hp} : ∀ {vs : List V} {ts : List Tr} {F : List Addr} {ws : List V} {us : List Tr} {E : List Addr}, TRs Ω G H vs ts F → TRs Ω G H ws us E → TRs Ω G H (vs ++ ws) (ts ++ us) (F ++ E)
  | _, _, _, _, _, _, .nil, s => s
  | _, _, _, _, _, _, .cons h t, s => by rw [List.append_assoc]; exact .cons h (TRs.app t s)
theorem TRs.of_sh {Ω : Wd} {G H : Hp} : ∀ {vs : List V} {ds : List D}, DpAll Ω.K G vs ds → TRs Ω G H vs (ds.map .sh) []
  | _, _, .nil => .nil
  | _, _, .cons h t => .cons (F1 := []) (.sh h) (TRs.of_sh t)
theorem TRs.to_sh {Ω : Wd} {G H : Hp} : ∀ {vs : List V} {ds : List D} {F : List Addr}, TRs Ω G H vs (ds.map .sh) F → DpAll Ω.K G vs ds ∧ F = []
  | [], [], _, .nil => ⟨.nil, rfl⟩
  | _ :: _, d :: ds, _, .cons (.sh h) t => by
    obtain ⟨a, b⟩ := TRs.to_sh t
    exact ⟨.cons h a, by rw [b]; rfl⟩
theorem TRs.split {Ω : Wd} {G H : Hp} : ∀ {ts us : List Tr} {vs : List V} {F : List Addr}, TRs Ω G H vs (ts ++ us) F → ∃ vs1 vs2 F1 F2, vs = vs1 ++ vs2 ∧ F = F1 ++ F2 ∧ TRs Ω G H vs1 ts F1 ∧ TRs Ω G H vs2 us F2
  | [], us, vs, F, h => ⟨[], vs, [], F, rfl, rfl, .nil, h⟩
  | t :: ts, us, _, _, .cons (v := v) (vs := vs) (F1 := F1) (F2 := F2) a b => by
    obtain ⟨vs1, vs2, E1, E2, e1, e2, r1, r2⟩ := TRs.split b
    exact ⟨v :: vs1, vs2, F1 ++ E1, E2, by rw [e1]; rfl, by rw [e2, List.append_assoc], .cons a r1, r2⟩
/-- one place of a list of trees -/
theorem TRs.at {Ω : Wd} {G H : Hp} {vs : List V} {ts : List Tr} {F : List Addr} {i : Nat} {t : Tr} (h : TRs Ω G H vs ts F) (e : ts[i]? = some t) :
    ∃ v F0 F1 F2, vs[i]? = some v ∧ F = F0 ++ (F1 ++ F2) ∧ TR Ω G H v t F1 ∧ TRs Ω G H (vs.take i) (ts.take i) F0 ∧ TRs Ω G H (vs.drop (i + 1)) (ts.drop (i + 1)) F2 := by
  have hi : i < ts.length := (List.getElem?_eq_some_iff.mp e).1
  have es : ts = ts.take i ++ (t :: ts.drop (i + 1)) := by
    have := List.take_append_drop i ts
    rw [List.drop_eq_getElem_cons hi, (List.getElem?_eq_some_iff.mp e).2] at this
    exact this.symm
  rw [es] at h
  obtain ⟨vs1, vs2, F0, F3, e1, e2, r1, r2⟩ := h.split
  have l1 : vs1.length = i := by rw [r1.len, List.length_take]; omega
  cases r2 with
  | cons a b =>
    rename_i v vs3 F1 F2
    have q1 : vs.take i = vs1 := by rw [e1, ← l1, List.take_left]
    have q2 : vs.drop (i + 1) = vs3 := by
      rw [e1, ← l1]
      simp
    refine ⟨v, F0, F1, F2, ?_, e2, a, ?_, ?_⟩
    · rw [e1, List.getElem?_append_right (by omega), l1]; simp
    · rw [q1]; exact r1
    · rw [q2]; exact b

/-! ### freezing -/
mutual
def Tr.toD : Tr → Option D
  | .sh d => some d
  | .lst ts => (Tr.toDs ts).map .list
  | .tup ts => (Tr.toDs ts).map .tuple
  | .fn _ => none
  | .exc _ _ => none
def Tr.toDs : List Tr → Option (List D)
  | [] => some []
  | t :: ts => match t.toD, Tr.toDs ts with
    | some d, some ds => some (d :: ds)
    | _, _ => none
end
theorem toDs_sh : ∀ ds : List D, Tr.toDs (ds.map .sh) = some ds
  | [] => rfl
  | d :: ds => by simp [Tr.toDs, Tr.toD, toDs_sh ds]
theorem toDs_cons {t : Tr} {ts : List Tr} {es : List D} (h : Tr.toDs (t :: ts) = some es) : ∃ d ds, t.toD = some d ∧ Tr.toDs ts = some ds ∧ es = d :: ds := by
  unfold Tr.toDs at h
  split at h
  · rename_i d ds h1 h2; cases h; exact ⟨d, ds, h1, h2, rfl⟩
  · cases h
/-- the shared part with the cells of F -/
def join (G H : Hp) (F : List Addr) : Hp := fun p => if p ∈ F then H p else G p
theorem join_in {G H : Hp} {F : List Addr} {p : Addr} (h : p ∈ F) : join G H F p = H p := if_pos h
theorem join_out {G H : Hp} {F : List Addr} {p : Addr} (h : p ∉ F) : join G H F p = G p := if_neg h
theorem join_same {G H : Hp} {F : List Addr} (hF : ∀ p ∈ F, G p = none) : Same G (join G H F) := fun p o e => by
  rw [join_out fun h => by rw [hF p h] at e; cases e]; exact e
theorem join_sub {G H : Hp} {F : List Addr} (s : Same G H) : Same (join G H F) H := fun p o e => by
  by_cases h : p ∈ F
  · rw [join_in h] at e; exact e
  · rw [join_out h] at e; exact s p o e
mutual
theorem TR.view {Ω : Wd} {G H G' : Hp} (g : Same G G') : ∀ {v : V} {t : Tr} {F : List Addr} {d : D}, TR Ω G H v t F → (∀ p ∈ F, ∀ o, H p = some o → G' p = some o) → t.toD = some d → Dp Ω.K G' v d
  | _, _, _, _, .sh h, _, e => by
    simp only [Tr.toD, Option.some.injEq] at e
    subst e; exact dp_mono g h
  | _, _, _, _, .lst a z r, k, e => by
    simp only [Tr.toD, Option.map_eq_some_iff] at e
    obtain ⟨ds, e1, rfl⟩ := e
    exact .lst (.of (k _ (List.mem_cons_self ..) _ a)) (TRs.view g r (fun p hp => k p (List.mem_cons_of_mem _ hp)) e1)
  | _, _, _, _, .tup a z r, k, e => by
    simp only [Tr.toD, Option.map_eq_some_iff] at e
    obtain ⟨ds, e1, rfl⟩ := e
    exact .tup (.of (k _ (List.mem_cons_self ..) _ a)) (TRs.view g r (fun p hp => k p (List.mem_cons_of_mem _ hp)) e1)
  | _, _, _, _, .fn, _, e => by simp [Tr.toD] at e
  | _, _, _, _, .exc _ _ _ _, _, e => by simp [Tr.toD] at e
theorem TRs.view {Ω : Wd} {G H G' : Hp} (g : Same G G') : ∀ {vs : List V} {ts : List Tr} {F : List Addr} {ds : List D}, TRs Ω G H vs ts F → (∀ p ∈ F, ∀ o, H p = some o → G' p = some o) → Tr.toDs ts = some ds → DpAll Ω.K G' vs ds
  | _, _, _, _, .nil, _, e => by
    simp only [Tr.toDs, Option.some.injEq] at e
    subst e; exact .nil
  | _, _, _, _, .cons a b, k, e => by
    obtain ⟨d, ds, h1, h2, rfl⟩ := toDs_cons e
    exact .cons (TR.view g a (fun p hp => k p (List.mem_append_left _ hp)) h1) (TRs.view g b (fun p hp => k p (List.mem_append_right _ hp)) h2)
end

theorem set_same {α : Type} : ∀ {l : List α} {i : Nat} {x : α}, l[i]? = some x → l.set i x = l
  | [], _, _, h => by simp at h
  | a :: l, 0, x, h => by simp at h; subst h; rfl
  | a :: l, i + 1, x, h => by rw [List.set_cons_succ, set_same (by simpa using h)]

/-! ### slots -/
abbrev Env := List (Option Tr)
inductive SlR (Ω : Wd) (G H : Hp) : L2.St → Env → List Addr → Prop
  | nil : SlR Ω G H [] [] []
  | none {x : Option V} {σ : L2.St} {env : Env} {F : List Addr} : SlR Ω G H σ env F → SlR Ω G H (x :: σ) (Option.none :: env) F
  | some {v : V} {t : Tr} {σ : L2.St} {env : Env} {F1 F2 : List Addr} : TR Ω G H v t F1 → SlR Ω G H σ env F2 → SlR Ω G H (Option.some v :: σ) (Option.some t :: env) (F1 ++ F2)
section
variable {Ω : Wd} {G H G' H' : Hp}
theorem SlR.len : ∀ {σ : L2.St} {env : Env} {F : List Addr}, SlR Ω G H σ env F → σ.length = env.length
  | _, _, _, .nil => rfl
  | _, _, _, .none h => congrArg (· + 1) (SlR.len h)
  | _, _, _, .some _ h => congrArg (· + 1) (SlR.len h)
theorem SlR.there : ∀ {σ : L2.St} {env : Env} {F : List Addr}, SlR Ω G H σ env F → ∀ p ∈ F, H p ≠ Option.none ∧ G p = Option.none
  | _, _, _, .nil, _, h => nomatch h
  | _, _, _, .none h, p, hp => SlR.there h p hp
  | _, _, _, .some a h, p, hp => by
    rcases List.mem_append.mp hp with z | z
    · exact a.there p z
    · exact SlR.there h p z
theorem SlR.to (g : Same G G') : ∀ {σ : L2.St} {env : Env} {F : List Addr}, SlR Ω G H σ env F → (∀ p ∈ F, ∀ o, H p = .some o → H' p = .some o) → (∀ p ∈ F, G' p = .none) → SlR Ω G' H' σ env F
  | _, _, _, .nil, _, _ => .nil
  | _, _, _, .none h, k, n => .none (SlR.to g h k n)
  | _, _, _, .some a h, k, n => .some (a.to g (fun p hp => k p (List.mem_append_left _ hp)) fun p hp => n p (List.mem_append_left _ hp)) (SlR.to g h (fun p hp => k p (List.mem_append_right _ hp)) fun p hp => n p (List.mem_append_right _ hp))
/-- a slot's tree taken out -/
theorem SlR.out : ∀ {σ : L2.St} {env : Env} {F : List Addr} {i : Nat} {t : Tr}, SlR Ω G H σ env F → env[i]? = .some (.some t) →
    ∃ v F1 F2, σ[i]? = .some (.some v) ∧ TR Ω G H v t F1 ∧ SlR Ω G H σ (env.set i .none) F2 ∧ F.Perm (F1 ++ F2)
  | _, _, _, _, _, .nil, e => by simp at e
  | _, _, _, 0, _, .none h, e => by simp at e
  | _, _, _, i + 1, t, .none h, e => by
    obtain ⟨v, F1, F2, a, b, c, d⟩ := SlR.out (i := i) h (by simpa using e)
    exact ⟨v, F1, F2, by simpa using a, b, .none c, d⟩
  | _, _, _, 0, t, .some (F1 := F1) (F2 := F2) r h, e => by
    simp at e
    subst e
    exact ⟨_, F1, F2, rfl, r, .none h, List.Perm.refl _⟩
  | _, _, _, i + 1, t, .some (F1 := A1) (F2 := A2) r h, e => by
    obtain ⟨v, F1, F2, a, b, c, d⟩ := SlR.out (i := i) h (by simpa using e)
    refine ⟨v, F1, A1 ++ F2, by simpa using a, b, .some r c, ?_⟩
    have h1 : (A1 ++ A2).Perm (A1 ++ (F1 ++ F2)) := List.Perm.append_left A1 d
    refine h1.trans ?_
    rw [← List.append_assoc, ← List.append_assoc]
    exact List.Perm.append_right F2 List.perm_append_comm
/-- any slot emptied -/
theorem SlR.clear : ∀ {σ : L2.St} {env : Env} {F : List Addr} (i : Nat), SlR Ω G H σ env F → ∃ F2 F1, SlR Ω G H σ (env.set i .none) F2 ∧ F.Perm (F1 ++ F2)
  | _, _, _, _, .nil => ⟨[], [], .nil, List.Perm.refl _⟩
  | _, _, F, 0, .none h => ⟨F, [], .none h, List.Perm.refl _⟩
  | _, _, _, i + 1, .none h => by
    obtain ⟨F2, F1, a, b⟩ := SlR.clear i h
    exact ⟨F2, F1, .none a, b⟩
  | _, _, _, 0, .some (F1 := F1) (F2 := F2) r h => ⟨F2, F1, .none h, List.Perm.refl _⟩
  | _, _, _, i + 1, .some (F1 := A1) (F2 := A2) r h => by
    obtain ⟨F2, F1, a, b⟩ := SlR.clear i h
    refine ⟨A1 ++ F2, F1, .some r a, ?_⟩
    have h1 : (A1 ++ A2).Perm (A1 ++ (F1 ++ F2)) := List.Perm.append_left A1 b
    refine h1.trans ?_
    rw [← List.append_assoc, ← List.append_assoc]
    exact List.Perm.append_right F2 List.perm_append_comm
/-- an emptied slot stored into, the frame's slot too -/
theorem SlR.put : ∀ {σ : L2.St} {env : Env} {F F1 : List Addr} {i : Nat} {v : V} {t : Tr}, SlR Ω G H σ (env.set i .none) F → i < env.length → TR Ω G H v t F1 →
    ∃ F2, SlR Ω G H (σ.set i (.some v)) (env.set i (.some t)) F2 ∧ F2.Perm (F1 ++ F)
  | _, [], _, _, _, _, _, _, h, _ => by simp at h
  | [], _ :: _, _, _, 0, _, _, h, _, _ => by have := h.len; simp at this
  | [], _ :: _, _, _, _ + 1, _, _, h, _, _ => by have := h.len; simp at this
  | x :: σ, e :: env, F, F1, 0, v, t, h, _, r => by
    cases h with
    | none h => exact ⟨F1 ++ F, .some r h, List.Perm.refl _⟩
  | x :: σ, e :: env, F, F1, i + 1, v, t, h, hi, r => by
    rw [List.set_cons_succ] at h
    cases h with
    | none h =>
      obtain ⟨F2, a, b⟩ := SlR.put h (by simpa using hi) r
      exact ⟨F2, .none a, b⟩
    | some q h =>
      rename_i w t' A1 A2
      obtain ⟨F2, a, b⟩ := SlR.put h (by simpa using hi) r
      refine ⟨A1 ++ F2, .some q a, ?_⟩
      have h1 : (A1 ++ F2).Perm (A1 ++ (F1 ++ A2)) := List.Perm.append_left A1 b
      refine h1.trans ?_
      rw [← List.append_assoc, ← List.append_assoc]
      exact List.Perm.append_right A2 List.perm_append_comm
/-- .. where the slot holds the value already -/
theorem SlR.back {σ : L2.St} {env : Env} {F F1 : List Addr} {i : Nat} {v : V} {t : Tr} (h : SlR Ω G H σ (env.set i .none) F) (hi : i < env.length) (r : TR Ω G H v t F1) (hv : σ[i]? = .some (.some v)) :
    ∃ F2, SlR Ω G H σ (env.set i (.some t)) F2 ∧ F2.Perm (F1 ++ F) := by
  obtain ⟨F2, a, b⟩ := h.put hi r
  rw [set_same hv] at a
  exact ⟨F2, a, b⟩
end

/-- the state: the slots and their trees -/
structure St (Ω : Wd) (G H : Hp) (σ : L2.St) (env : Env) (F : List Addr) : Prop where
  same : Same G H
  sl : SlR Ω G H σ env F
  nd : F.Nodup

/-! ### values of expressions -/
inductive Val where
  | tr (t : Tr)
  | brw (i : Nat)
def VR (Ω : Wd) (G H : Hp) (σ : L2.St) (n : Nat) (v : V) : Val → List Addr → Prop
  | .tr t, F => TR Ω G H v t F
  | .brw i, F => σ[i]? = some (some v) ∧ i < n ∧ F = []
inductive VRs (Ω : Wd) (G H : Hp) (σ : L2.St) (n : Nat) : List V → List Val → List Addr → Prop
  | nil : VRs Ω G H σ n [] [] []
  | cons {v : V} {vs : List V} {x : Val} {xs : List Val} {F1 F2 : List Addr} : VR Ω G H σ n v x F1 → VRs Ω G H σ n vs xs F2 → VRs Ω G H σ n (v :: vs) (x :: xs) (F1 ++ F2)
section
variable {Ω : Wd} {G H G' H' : Hp} {σ : L2.St} {n : Nat}
theorem VR.there {v : V} {x : Val} {F : List Addr} (r : VR Ω G H σ n v x F) : ∀ p ∈ F, H p ≠ none ∧ G p = none := by
  cases x with
  | tr t => exact TR.there r
  | brw i => obtain ⟨_, _, rfl⟩ := r; exact fun _ h => nomatch h
theorem VR.step {F F' R : List Addr} {v : V} {x : Val} (s : Step G H F G' H' F') (r : VR Ω G H σ n v x R) (d : Disj R F) : VR Ω G' H' σ n v x R ∧ Disj R F' := by
  cases x with
  | tr t => exact TR.step s r d
  | brw i => obtain ⟨a, b, rfl⟩ := r; exact ⟨⟨a, b, rfl⟩, Disj.nilL⟩
theorem VRs.there : ∀ {vs : List V} {xs : List Val} {F : List Addr}, VRs Ω G H σ n vs xs F → ∀ p ∈ F, H p ≠ none ∧ G p = none
  | _, _, _, .nil, _, h => nomatch h
  | _, _, _, .cons a b, p, h => by
    rcases List.mem_append.mp h with z | z
    · exact a.there p z
    · exact VRs.there b p z
end
end FF

set_option Elab.async false
set_option linter.all false
set_option autoImplicit false
set_option maxRecDepth 100000
/-! FB: the evaluator over trees. -/
namespace FF
open PySem PySem.Spec PyProof.Rows L2

inductive Bop | add | sub | mul | fdiv | mod | pow
  deriving DecidableEq
inductive Cop | lt | le | gt | ge | eq | ne | isin | notin | is_ | isnot_
  deriving DecidableEq
inductive Bi | len | abs | max | min | int | str | sum | all | any | list | tuple | sorted | repr
  deriving DecidableEq
inductive Ty | int | bool | str | list | tuple | vErr | cls (c : Nat)
  deriving DecidableEq

inductive Tg | name (i : Nat) | tnil | tcons (h t : Tg)

mutual
inductive E
  | var (i : Nat) | mv (i : Nat)
  | int (i : Int) | bl (b : Bool) | non | str (s : Str)
  | glob (k : Nat)
  | fnv (j : Nat)
  | bin (op : Bop) (a b : E)
  | neg (a : E)
  | cmp (op : Cop) (a b : E)
  | chain (o1 o2 : Cop) (a b c : E)
  | and (es : Es) | or (es : Es) | not (a : E)
  | ite (c a b : E)
  | tup (es : Es) | lst (es : Es)
  | idx (a b : E)
  | slc (a : E) (lo hi : Es)
  | call (j : Nat) (es : Es)
  | callk (j : Nat) (es kws : Es) (perm : List Nat)
  | bi (b : Bi) (es : Es)
  | isi (a : E) (ts : List Ty)
  | bits (a : E)
  | lrng (es : Es)
  | fld (a : E)
  | comp (elt : E) (tg : Tg) (src : Src) (test : Es) (own : List (Str × Nat))
  | comp2 (elt : E) (tg : Tg) (src : Src) (test : Es) (tg1 : Tg) (src1 : Src) (test1 : Es) (own : List (Str × Nat)) (vs1 : List Nat)
  | dct
  | oops
  | dc1 (s : Str) (i : Int)
  | exn (c : Nat) (es : Es)
  | exk (c : Nat) (e : E)
inductive Es | nil | cons (e : E) (es : Es)
inductive Src | seq (e : E) | rng (es : Es) | enum (e : E) | zip (a b : E)
end

mutual
inductive S
  | asg (tg : Tg) (e : E)
  | par (is : List Nat) (es : Es)
  | setIx (x : Nat) (ix e : E)
  | app (x : Nat) (e : E)
  | expr (e : E) | ret (e : E) | retN
  | ifs (c : E) (a b : Ss)
  | fors (tg : Tg) (src : Src) (body : Ss)
  | whl (c : E) (body : Ss)
  | rai (c : Nat) (e : E) | brk | cnt | pass
  | tryA (body : Ss) (c ev x : Nat)
  | oops
  | tryR (body : Ss) (c ev : Nat)
inductive Ss | nil | cons (s : S) (ss : Ss)
end

def esLen : Es → Nat
  | .nil => 0
  | .cons _ es => esLen es + 1
/-! ### results -/
inductive R (α : Type) | ok (a : α) | exc (c : Nat) (d : D) (env : Env) | bad
def R.bind {α β : Type} : R α → (α → R β) → R β
  | .ok a, f => f a
  | .exc c d env, _ => .exc c d env
  | .bad, _ => .bad
def R.of {α : Type} : Option α → R α
  | some a => .ok a
  | none => .bad
@[simp] theorem R.bind_ok {α β : Type} (a : α) (f : α → R β) : (R.ok a).bind f = f a := rfl
@[simp] theorem R.bind_bad {α β : Type} (f : α → R β) : (R.bad : R α).bind f = .bad := rfl
@[simp] theorem R.bind_exc {α β : Type} (c : Nat) (d : D) (env : Env) (f : α → R β) : (R.exc c d env : R α).bind f = .exc c d env := rfl
@[simp] theorem R.of_some {α : Type} (a : α) : R.of (some a) = .ok a := rfl
@[simp] theorem R.of_none {α : Type} : R.of (none : Option α) = .bad := rfl
/-- what a call gives: the value, what the slots of its parameters hold at the end -/
inductive FR | ok (t : Tr) (as : List (Option Tr)) | exc (c : Nat) (d : D) (as : List (Option Tr)) | bad
abbrev CF := Nat → List Tr → FR
inductive RS | nx (env : Env) | rt (t : Tr) (env : Env) | bk (env : Env) | ct (env : Env) | ex (c : Nat) (d : D) (env : Env) | bad

/-! ### values -/
/-- what a slot holds -/
def slot (env : Env) (i : Nat) : Option Tr := match env[i]? with
  | some (some t) => some t
  | _ => none
def getV (env : Env) : Val → Option Tr
  | .tr t => some t
  | .brw i => slot env i
def look (env : Env) (v : Val) : Option D := match getV env v with
  | some t => t.toD
  | none => none
/-- a tree without owned cells -/
def frz : Tr → Option Tr
  | .sh d => some (.sh d)
  | .fn j => some (.fn j)
  | .exc c d => some (.exc c d)
  | .lst ts => (Tr.toDs ts).map fun ds => .sh (.list ds)
  | .tup ts => (Tr.toDs ts).map fun ds => .sh (.tuple ds)
def frzs : List Tr → Option (List Tr)
  | [] => some []
  | t :: ts => match frz t, frzs ts with
    | some u, some us => some (u :: us)
    | _, _ => none
/-- a value to be kept: a slot's own cells are given up -/
def take (v : Val) (env : Env) : Option (Tr × Env) := match v with
  | .tr t => some (t, env)
  | .brw i => match slot env i with
    | some t => match frz t with
      | some u => some (u, env.set i (some u))
      | none => none
    | none => none
/-- .. without own cells at all -/
def takeF (v : Val) (env : Env) : Option (Tr × Env) := match v with
  | .tr t => match frz t with
    | some u => some (u, env)
    | none => none
  | .brw i => take (.brw i) env
def takes : List Val → Env → Option (List Tr × Env)
  | [], env => some ([], env)
  | v :: vs, env => match take v env with
    | some (t, env1) => match takes vs env1 with
      | some (ts, env2) => some (t :: ts, env2)
      | none => none
    | none => none
def allSh : List Tr → Option (List D)
  | [] => some []
  | .sh d :: ts => match allSh ts with
    | some ds => some (d :: ds)
    | none => none
  | _ :: _ => none
/-- a written tuple: shared at once where it owns nothing -/
def mkTup (ts : List Tr) : Tr := match allSh ts with
  | some ds => .sh (.tuple ds)
  | none => .tup ts
/-- the items of a list (isL) or of a tuple, to be put elsewhere -/
def seqOf (isL isT : Bool) (v : Val) (env : Env) : Option (List Tr × Env) := match v with
  | .tr (.sh (.list ds)) => if isL then some (ds.map .sh, env) else none
  | .tr (.sh (.tuple ds)) => if isT then some (ds.map .sh, env) else none
  | .tr (.lst ts) => if isL then some (ts, env) else none
  | .tr (.tup ts) => if isT then some (ts, env) else none
  | .tr _ => none
  | .brw i => match slot env i with
    | some (.sh (.list ds)) => if isL then some (ds.map .sh, env) else none
    | some (.sh (.tuple ds)) => if isT then some (ds.map .sh, env) else none
    | some (.lst ts) => if isL then (match frzs ts with
      | some us => some (us, env.set i (some (.lst us)))
      | none => none) else none
    | some (.tup ts) => if isT then (match frzs ts with
      | some us => some (us, env.set i (some (.tup us)))
      | none => none) else none
    | _ => none
/-- one item -/
def idxV (v : Val) (k : Int) (env : Env) : Option (Val × Env) := match v with
  | .tr (.sh (.list ds)) | .tr (.sh (.tuple ds)) => (atI ds k).map fun d => (.tr (.sh d), env)
  | .tr (.lst ts) | .tr (.tup ts) => (atI ts k).map fun t => (.tr t, env)
  | .tr _ => none
  | .brw i => match slot env i with
    | some (.sh (.list ds)) | some (.sh (.tuple ds)) => (atI ds k).map fun d => (.tr (.sh d), env)
    | some (.lst ts) => match ixN ts.length k with
      | some j => match ts[j]? with
        | some (.sh d) => some (.tr (.sh d), env)
        | some t => match frz t with
          | some u => some (.tr u, env.set i (some (.lst (ts.set j u))))
          | none => none
        | none => none
      | none => none
    | some (.tup ts) => match ixN ts.length k with
      | some j => match ts[j]? with
        | some (.sh d) => some (.tr (.sh d), env)
        | some t => match frz t with
          | some u => some (.tr u, env.set i (some (.tup (ts.set j u))))
          | none => none
        | none => none
      | none => none
    | _ => none
def varV (env : Env) (i : Nat) : Option Val := match slot env i with
  | some (.lst _) | some (.tup _) => some (.brw i)
  | some t => some (.tr t)
  | none => none

/-! ### operators -/
def arith : Bop → Int → Int → Option Int
  | .add, i, j => some (i + j)
  | .sub, i, j => some (i - j)
  | .mul, i, j => if i.natAbs.log2 + j.natAbs.log2 < 1000000 then some (i * j) else none
  | .fdiv, i, j => if 0 < j ∧ j.natAbs.log2 < 9000 then some (i / j) else none
  | .mod, i, j => if 0 < j then some (i % j) else none
  | .pow, i, j => if 0 ≤ j ∧ (Builtin.Int.intBits i : Int) * j ≤ 2 ^ 27 then some (i ^ j.toNat) else none
def binV (op : Bop) (va vb : Val) (env : Env) : Option (Val × Env) := match getV env va, getV env vb with
  | some (.sh (.int i)), some (.sh (.int j)) => (arith op i j).map fun k => (.tr (.sh (.int k)), env)
  | some (.sh (.str x)), some (.sh (.str y)) => if op = .add ∧ x.length + y.length ≤ sizeLine then some (.tr (.sh (.str (x ++ y))), env) else none
  | some (.lst _), some (.sh (.int k)) => match op with
    | .mul => match seqOf true false va env with
      | some (ts, env1) => match frzs ts with
        | some us => if -(2 ^ 63) ≤ k ∧ k < 2 ^ 63 ∧ us.length * k.toNat ≤ sizeLine then some (.tr (.lst (List.replicate k.toNat us).flatten), env1) else none
        | none => none
      | none => none
    | _ => none
  | some _, some _ => match op with
    | .add => match seqOf true false va env with
      | some (ts, env1) => match seqOf true false vb env1 with
        | some (us, env2) => if ts.length + us.length ≤ sizeLine then some (.tr (.lst (ts ++ us)), env2) else none
        | none => none
      | none => none
    | _ => none
  | _, _ => none
def intsOf : List D → Option (List Int)
  | [] => some []
  | .int i :: ds => match intsOf ds with
    | some is => some (i :: is)
    | none => none
  | _ :: _ => none
def boolsOf : List D → Option (List Bool)
  | [] => some []
  | .bool i :: ds => match boolsOf ds with
    | some is => some (i :: is)
    | none => none
  | _ :: _ => none
def ltD (x y : D) : Option Bool := match x, y with
  | .int i, .int j => some (decide (i < j))
  | .list xs, .list ys => match intsOf xs, intsOf ys with
    | some is, some js => some (HT.lexLt is js)
    | _, _ => none
  | _, _ => none
def cmpI (op : Cop) (i j : Int) : Option Bool := match op with
  | .lt => some (decide (i < j)) | .le => some (decide (i ≤ j)) | .gt => some (decide (j < i)) | .ge => some (decide (j ≤ i))
  | .eq => some (decide (i = j)) | .ne => some (!decide (i = j)) | _ => none
def cmpD (op : Cop) (x y : D) : Option Bool := match x, y with
  | .int i, .int j => cmpI op i j
  | x, y => match op with
    | .lt => ltD x y
    | .eq => if SeqAt.shaped x = true ∧ SeqAt.shaped y = true then some (PyData.eqv x y) else none
    | .ne => if SeqAt.shaped x = true ∧ SeqAt.shaped y = true then some (!PyData.eqv x y) else none
    | .isin => match y with
      | .list ds => if SeqAt.shaped x = true ∧ SeqAt.shaped (.list ds) = true then some (ds.any fun z => PyData.eqv z x) else none
      | _ => none
    | .notin => match y with
      | .list ds => if SeqAt.shaped x = true ∧ SeqAt.shaped (.list ds) = true then some (!ds.any fun z => PyData.eqv z x) else none
      | _ => none
    | _ => none
/-- is None, is True, is False -/
def isV : Tr → Tr → Option Bool
  | .sh .none, .sh .none => some true
  | _, .sh .none => some false
  | .sh (.bool a), .sh (.bool b) => some (decide (a = b))
  | _, _ => none
def cmpV (op : Cop) (va vb : Val) (env : Env) : Option Bool := match op with
  | .is_ => match getV env va, getV env vb with
    | some x, some y => isV x y
    | _, _ => none
  | .isnot_ => match getV env va, getV env vb with
    | some x, some y => (isV x y).map (!·)
    | _, _ => none
  | op => match look env va, look env vb with
    | some x, some y => cmpD op x y
    | _, _ => none
/-- the ordered list of ints -/
def insI (x : Int) : List Int → List Int
  | [] => [x]
  | y :: ys => if x ≤ y then x :: y :: ys else y :: insI x ys
def sortI : List Int → List Int
  | [] => []
  | x :: xs => insI x (sortI xs)
/-- .. of lists of ints -/
def insL (x : List Int) : List (List Int) → List (List Int)
  | [] => [x]
  | y :: ys => if HT.lexLt y x = true then y :: insL x ys else x :: y :: ys
def sortL : List (List Int) → List (List Int)
  | [] => []
  | x :: xs => insL x (sortL xs)
def listsOf : List D → Option (List (List Int))
  | [] => some []
  | .list ds :: r => match intsOf ds, listsOf r with
    | some is, some iss => some (is :: iss)
    | _, _ => none
  | _ :: _ => none
def maxL : List Int → Option Int
  | [] => none
  | [x] => some x
  | x :: xs => (maxL xs).map fun y => if x ≥ y then x else y
def minL : List Int → Option Int
  | [] => none
  | [x] => some x
  | x :: xs => (minL xs).map fun y => if x ≤ y then x else y
def isSeqD : D → Bool
  | .list _ | .tuple _ => true
  | _ => false
/-- built-ins that give a plain value -/
def biD : Bi → List D → Option D
  | .len, [.list ds] => some (.int ds.length)
  | .len, [.tuple ds] => some (.int ds.length)
  | .len, [.str s] => if s.length ≤ sizeLine then some (.int s.length) else none
  | .abs, [.int i] => some (.int (if i < 0 then -i else i))
  | .max, [.int i, .int j] => some (.int (if j > i then j else i))
  | .min, [.int i, .int j] => some (.int (if j < i then j else i))
  | .max, [.list ds] => match intsOf ds with
    | some is => (maxL is).map .int
    | none => none
  | .min, [.list ds] => match intsOf ds with
    | some is => (minL is).map .int
    | none => none
  | .int, [.int i] => some (.int i)
  | .int, [.bool b] => some (.int (if b then 1 else 0))
  | .str, [.int i] => if i.natAbs.log2 < 1920 then some (.str (toString i)) else none
  | .sum, [.list ds] => match intsOf ds with
    | some is => some (.int is.sum)
    | none => none
  | .all, [.list ds] => match boolsOf ds with
    | some is => some (.bool (is.all id))
    | none => none
  | .any, [.list ds] => match boolsOf ds with
    | some is => some (.bool (is.any id))
    | none => none
  | .repr, [d] => if d.showable = true ∧ d.depth ≤ 100 ∧ d.shown.length ≤ sizeLine then some (.str d.shown) else none
  | _, _ => none
def looks (env : Env) : List Val → Option (List D)
  | [] => some []
  | v :: vs => match look env v, looks env vs with
    | some d, some ds => some (d :: ds)
    | _, _ => none
/-- a list whose items are shared -/
def shD (env : Env) (v : Val) : Option (List D) := match getV env v with
  | some (.sh (.list ds)) => some ds
  | some (.lst ts) => allSh ts
  | _ => none
def biV (b : Bi) (vs : List Val) (env : Env) : Option (Val × Env) := match b, vs with
  | .list, [v] => match seqOf true true v env with
    | some (ts, env1) => some (.tr (.lst ts), env1)
    | none => none
  | .tuple, [v] => match seqOf true false v env with
    | some (ts, env1) => some (.tr (mkTup ts), env1)
    | none => none
  | .sorted, [v] => match look env v with
    | some (.list ds) => match intsOf ds with
      | some is => some (.tr (.lst ((sortI is).map fun i => .sh (.int i))), env)
      | none => match shD env v, listsOf ds with
        | some _, some iss => some (.tr (.lst ((sortL iss).map fun is => .sh (.list (is.map .int)))), env)
        | _, _ => none
    | _ => none
  | b, vs => match looks env vs with
    | some ds => match biD b ds with
      | some d => some (.tr (.sh d), env)
      | none => none
    | none => none
/-- isinstance -/
def isTy (t : Tr) (ty : Ty) : Option Bool := match t with
  | .sh d => some (match d, ty with
    | .int _, .int | .bool _, .int | .bool _, .bool | .str _, .str | .list _, .list | .tuple _, .tuple => true
    | _, _ => false)
  | .lst _ => some (match ty with | .list => true | _ => false)
  | .tup _ => some (match ty with | .tuple => true | _ => false)
  | .exc c _ => some (match ty with | .vErr => true | .cls k => k == 0 || k == c | _ => false)
  | .fn _ => none
def isTys (t : Tr) : List Ty → Option Bool
  | [] => some false
  | ty :: tys => match isTy t ty, isTys t tys with
    | some a, some b => some (a || b)
    | _, _ => none

/-! ### targets -/
def partsOf : Tr → Option (List Tr)
  | .sh (.tuple ds) | .sh (.list ds) => some (ds.map .sh)
  | .tup ts | .lst ts => some ts
  | _ => none
def asgTs (f : Tr → Env → Option Env) : List Tr → Env → Option Env
  | [], env => some env
  | t :: ts, env => match f t env with
    | some env1 => asgTs f ts env1
    | none => none
mutual
def asg : Tg → Tr → Env → Option Env
  | .name i, t, env => if i < env.length then some (env.set i (some t)) else none
  | .tnil, t, env => match partsOf t with
    | some ts => (match ts with | [] => some env | _ => none)
    | none => none
  | .tcons h r, t, env => match partsOf t with
    | some ts => (match ts with
      | [] => none
      | u :: us => match asg h u env with
        | some env1 => asgL r us env1
        | none => none)
    | none => none
def asgL : Tg → List Tr → Env → Option Env
  | .name _, _, _ => none
  | .tnil, ts, env => (match ts with | [] => some env | _ => none)
  | .tcons h r, ts, env => (match ts with
    | [] => none
    | t :: ts => match asg h t env with
      | some env1 => asgL r ts env1
      | none => none)
end

/-! ### calls -/
def prep : List Bool → List Val → Env → Option (List Tr × List (Option Nat) × Env)
  | [], [], env => some ([], [], env)
  | m :: ms, v :: vs, env =>
    match (match m, v with
      | true, .brw i => (match slot env i with
        | some t => some (t, some i, env.set i none)
        | none => none)
      | true, .tr t => some (t, none, env)
      | false, v => (match takeF v env with
        | some (t, env1) => some (t, none, env1)
        | none => none) : Option (Tr × Option Nat × Env)) with
    | some (t, s, env1) => match prep ms vs env1 with
      | some (ts, ss, env2) => some (t :: ts, s :: ss, env2)
      | none => none
    | none => none
  | _, _, _ => none
def putBack : List (Option Nat) → List (Option Tr) → Env → Env
  | some i :: ss, a :: as, env => putBack ss as (env.set i a)
  | none :: ss, _ :: as, env => putBack ss as env
  | _, _, env => env
def callV (modes : Nat → List Bool) (cf : CF) (j : Nat) (vs : List Val) (env : Env) : R (Val × Env) := match prep (modes j) vs env with
  | some (ts, ss, env1) => match cf j ts with
    | .ok t as => .ok (.tr t, putBack ss as env1)
    | .exc c d as => .exc c d (putBack ss as env1)
    | .bad => .bad
  | none => .bad
/-- no cells of its own -/
def noOwn : Val → Bool
  | .brw _ => true
  | .tr (.sh _) => true
  | .tr (.fn _) => true
  | _ => false
/-- keyword values put in the parameters' places -/
def permute {α : Type} (perm : List Nat) (vs : List α) : Option (List α) := perm.foldr (fun i acc => match vs[i]?, acc with
  | some v, some l => some (v :: l)
  | _, _ => none) (some [])

/-! ### loops -/
def wipeE (env : Env) : List Nat → Env
  | [] => env
  | i :: is => (wipeE env is).set i none
def compL (tg : Tg) (test : Env → R (Bool × Env)) (elt : Env → R (Val × Env)) (own : List Nat) : List Tr → Env → R (List Tr × Env)
  | [], env => .ok ([], wipeE env own)
  | t :: ts, env => match asg tg t (wipeE env own) with
    | none => .bad
    | some env1 => (test env1).bind fun (b, env2) => if b = true then (elt env2).bind fun (v, env3) => match take v env3 with
        | none => .bad
        | some (u, env4) => (compL tg test elt own ts env4).bind fun (us, env5) => .ok (u :: us, env5)
      else compL tg test elt own ts env2
/-- two clauses -/
def compL2 (tg : Tg) (test : Env → R (Bool × Env)) (src1 : Env → R (List Tr × Env)) (tg1 : Tg) (test1 : Env → R (Bool × Env)) (elt : Env → R (Val × Env)) (own vs1 : List Nat) : List Tr → Env → R (List Tr × Env)
  | [], env => .ok ([], wipeE env own)
  | t :: ts, env => match asg tg t (wipeE env own) with
    | none => .bad
    | some env1 => (test env1).bind fun (b, env2) => if b = true then (src1 env2).bind fun (us, env3) => (compL tg1 test1 elt vs1 us env3).bind fun (xs, env4) => (compL2 tg test src1 tg1 test1 elt own vs1 ts env4).bind fun (ys, env5) => .ok (xs ++ ys, env5)
      else compL2 tg test src1 tg1 test1 elt own vs1 ts env2
/-- what the slots held ahead of a comprehension that has names of its own there -/
def restore (saved env : Env) : List Nat → Env
  | [] => env
  | i :: is => (restore saved env is).set i (match slot saved i with
    | some (.sh d) => some (.sh d)
    | _ => none)
def noEx {α : Type} : R α → R α
  | .exc _ _ _ => .bad
  | x => x
def forL (tg : Tg) (body : Env → RS) : List Tr → Env → RS
  | [], env => .nx env
  | t :: ts, env => match asg tg t env with
    | none => .bad
    | some env1 => match body env1 with
      | .nx env2 | .ct env2 => forL tg body ts env2
      | .bk env2 => .nx env2
      | r => r
def whileL (c : Env → R (Bool × Env)) (body : Env → RS) : Nat → Env → RS
  | 0, _ => .bad
  | n + 1, env => match c env with
    | .ok (true, env1) => (match body env1 with
      | .nx env2 | .ct env2 => whileL c body n env2
      | .bk env2 => .nx env2
      | r => r)
    | .ok (false, env1) => .nx env1
    | .exc e d env1 => .ex e d env1
    | .bad => .bad
def FU : Nat := 2 ^ 1000000
def rngB (i : Int) : Bool := decide (-(2 ^ 62) ≤ i ∧ i < 2 ^ 62)
def rngItems : List D → Option (List Tr)
  | [.int j] => if rngB j then some ((List.range j.toNat).map fun (k : Nat) => .sh (.int (k : Int))) else none
  | [.int i, .int j] => if rngB i && rngB j then some ((List.range (j - i).toNat).map fun (k : Nat) => .sh (.int (i + (k : Int)))) else none
  | _ => none
def enumT : Nat → List Tr → List Tr
  | _, [] => []
  | k, t :: ts => mkTup [.sh (.int k), t] :: enumT (k + 1) ts
def zipT : List Tr → List Tr → List Tr
  | t :: ts, u :: us => mkTup [t, u] :: zipT ts us
  | _, _ => []
/-- the items of what is walked: a slot's own list is given up -/
def itemsOf (v : Val) (env : Env) : Option (List Tr × Env) := match take v env with
  | some (t, env1) => match partsOf t with
    | some ts => some (ts, env1)
    | none => none
  | none => none

/-- .. of a list alone -/
def itemsL (v : Val) (env : Env) : Option (List Tr × Env) := match take v env with
  | some (t, env1) => (match t with
    | .sh (.list ds) => some (ds.map .sh, env1)
    | .lst ts => some (ts, env1)
    | _ => none)
  | none => none
def rngV (vs : List Val) (env : Env) : R (List Tr × Env) := match looks env vs with
  | some ds => R.of ((rngItems ds).map fun ts => (ts, env))
  | none => .bad

/-- a def of the text: its names by slot, how its parameters are passed (true: by the caller's own cells), which of them are never stored into -/
structure Fn where
  name : Str
  ps : List Str
  N : List Str
  modes : List Bool
  kept : List Nat
  body : Ss
/-- a table: the module's constants, its defs, its exception classes -/
structure Tab where
  con : List (Str × D)
  fns : List Fn
  cls : List Str
  kws : List (Nat × Nat × List Str × List Nat)
def Tab.modes (Θ : Tab) (j : Nat) : List Bool := match Θ.fns[j]? with
  | some F => F.modes
  | none => []

/-- a slice's part -/
def optI (env : Env) (vs : List Val) : Option (Option Int) := match looks env vs with
  | some ds => (match intsOf ds with
    | some [] => some none
    | some [i] => some (some i)
    | _ => none)
  | none => none
def slcV (va : Val) (l : Option Int) (vh : List Val) (env : Env) : R (Val × Env) := match optI env vh, seqOf true false va env with
  | some h, some (ts, env4) => .ok (.tr (.lst ((ts.drop (HT.sIx ts.length 0 l)).take (HT.sIx ts.length ts.length h - HT.sIx ts.length 0 l))), env4)
  | _, _ => .bad
/-- an exception as a value -/
def exnV (Θ : Tab) (c : Nat) (vs : List Val) (env : Env) : R (Val × Env) := if c < Θ.cls.length then (match vs with
  | [] => .ok (.tr (.exc c .none), env)
  | [v] => (match takeF v env with
    | some (.sh d, env1) => .ok (.tr (.exc c d), env1)
    | _ => .bad)
  | _ => .bad) else .bad
section
variable (Θ : Tab) (cf : CF)
def asBool : R (Val × Env) → R (Bool × Env)
  | .ok (v, env) => (match getV env v with
    | some (.sh (.bool b)) => .ok (b, env)
    | _ => .bad)
  | .exc c d env => .exc c d env
  | .bad => .bad
mutual
def evE : E → Env → R (Val × Env)
  | .var i, env => R.of ((varV env i).map fun v => (v, env))
  | .mv i, env => (match slot env i with
    | some t => .ok (.tr t, env.set i none)
    | none => .bad)
  | .int i, env => .ok (.tr (.sh (.int i)), env)
  | .bl b, env => .ok (.tr (.sh (.bool b)), env)
  | .non, env => .ok (.tr (.sh .none), env)
  | .str s, env => .ok (.tr (.sh (.str s)), env)
  | .glob k, env => (match Θ.con[k]? with
    | some c => .ok (.tr (.sh c.2), env)
    | none => .bad)
  | .fnv j, env => .ok (.tr (.fn j), env)
  | .bin op a b, env => (evE a env).bind fun (va, env1) => (evE b env1).bind fun (vb, env2) => R.of (binV op va vb env2)
  | .neg a, env => (evE a env).bind fun (va, env1) => (match getV env1 va with
    | some (.sh (.int i)) => .ok (.tr (.sh (.int (-i))), env1)
    | _ => .bad)
  | .cmp op a b, env => (evE a env).bind fun (va, env1) => (evE b env1).bind fun (vb, env2) => R.of ((cmpV op va vb env2).map fun k => (.tr (.sh (.bool k)), env2))
  | .chain o1 o2 a b c, env => (evE a env).bind fun (va, env1) => (evE b env1).bind fun (vb, env2) => (match cmpV o1 va vb env2 with
    | some true => (evE c env2).bind fun (vc, env3) => R.of ((cmpV o2 vb vc env3).map fun k => (.tr (.sh (.bool k)), env3))
    | some false => .ok (.tr (.sh (.bool false)), env2)
    | none => .bad)
  | .and es, env => (evAnd es env).bind fun (b, env1) => .ok (.tr (.sh (.bool b)), env1)
  | .or es, env => (evOr es env).bind fun (b, env1) => .ok (.tr (.sh (.bool b)), env1)
  | .not a, env => (asBool (evE a env)).bind fun (b, env1) => .ok (.tr (.sh (.bool (!b))), env1)
  | .ite c a b, env => (asBool (evE c env)).bind fun (k, env1) => if k = true then evE a env1 else evE b env1
  | .tup es, env => (evEs es env).bind fun (vs, env1) => (match takes vs env1 with
    | some (ts, env2) => if ts.length ≤ sizeLine then .ok (.tr (mkTup ts), env2) else .bad
    | none => .bad)
  | .lst es, env => (evEs es env).bind fun (vs, env1) => (match takes vs env1 with
    | some (ts, env2) => if ts.length ≤ sizeLine then .ok (.tr (.lst ts), env2) else .bad
    | none => .bad)
  | .idx a b, env => (evE a env).bind fun (va, env1) => (evE b env1).bind fun (vb, env2) => (match getV env2 vb with
    | some (.sh (.int k)) => R.of (idxV va k env2)
    | _ => .bad)
  | .slc a lo hi, env => (evE a env).bind fun (va, env1) => (evEs lo env1).bind fun (vl, env2) => (match optI env2 vl with
    | some l => (evEs hi env2).bind fun (vh, env3) => slcV va l vh env3
    | none => .bad)
  | .call j es, env => (evEs es env).bind fun (vs, env1) => callV Θ.modes cf j vs env1
  | .callk j es kws perm, env => (evEs es env).bind fun (vs, env1) => (evEs kws env1).bind fun (ws, env2) => if (vs ++ ws).all noOwn = true ∧ vs.length = esLen es ∧ ws.length = esLen kws then (match permute perm (vs ++ ws) with
    | some us => callV Θ.modes cf j us env2
    | none => .bad) else .bad
  | .bi b es, env => (evEs es env).bind fun (vs, env1) => R.of (biV b vs env1)
  | .isi a ts, env => (evE a env).bind fun (va, env1) => (match getV env1 va with
    | some t => R.of ((isTys t ts).map fun b => (.tr (.sh (.bool b)), env1))
    | none => .bad)
  | .bits a, env => (evE a env).bind fun (va, env1) => (match getV env1 va with
    | some (.sh (.int i)) => .ok (.tr (.sh (.int (Builtin.Int.intBits i : Nat))), env1)
    | _ => .bad)
  | .lrng es, env => (evEs es env).bind fun (vs, env1) => (match looks env1 vs with
    | some ds => (match rngItems ds with
      | some ts => if ts.length ≤ sizeLine then .ok (.tr (.lst ts), env1) else .bad
      | none => .bad)
    | none => .bad)
  | .fld a, env => (evE a env).bind fun (va, env1) => (match getV env1 va with
    | some (.exc _ d) => .ok (.tr (.sh d), env1)
    | _ => .bad)
  | .comp elt tg src test own, env => (evSrc src env).bind fun (ts, env1) => if ts.length ≤ sizeLine then
      (noEx (compL tg (fun e => evTest test e) (fun e => evE elt e) (own.map (·.2)) ts env1)).bind fun (us, env2) => .ok (.tr (.lst us), restore env1 env2 (own.map (·.2)))
    else .bad
  | .comp2 elt tg src test tg1 src1 test1 own vs1, env => (evSrc src env).bind fun (ts, env1) =>
      (noEx (compL2 tg (fun e => evTest test e) (fun e => evSrc src1 e) tg1 (fun e => evTest test1 e) (fun e => evE elt e) (own.map (·.2)) vs1 ts env1)).bind fun (us, env2) => if us.length ≤ sizeLine then .ok (.tr (.lst us), restore env1 env2 (own.map (·.2))) else .bad
  | .dct, env => .ok (.tr (.sh (.dict [])), env)
  | .oops, _ => .bad
  | .dc1 s i, env => .ok (.tr (.sh (.dict [(.str s, .int i)])), env)
  | .exn c es, env => (evEs es env).bind fun (vs, env1) => exnV Θ c vs env1
  | .exk c e, env => (evE e env).bind fun (v, env1) => exnV Θ c [v] env1
def evEs : Es → Env → R (List Val × Env)
  | .nil, env => .ok ([], env)
  | .cons e es, env => (evE e env).bind fun (v, env1) => (evEs es env1).bind fun (vs, env2) => .ok (v :: vs, env2)
def evAnd : Es → Env → R (Bool × Env)
  | .nil, _ => .bad
  | .cons e es, env => (asBool (evE e env)).bind fun (b, env1) => (match es with
    | .nil => .ok (b, env1)
    | .cons _ _ => if b = true then evAnd es env1 else .ok (false, env1))
def evOr : Es → Env → R (Bool × Env)
  | .nil, _ => .bad
  | .cons e es, env => (asBool (evE e env)).bind fun (b, env1) => (match es with
    | .nil => .ok (b, env1)
    | .cons _ _ => if b = true then .ok (true, env1) else evOr es env1)
def evTest : Es → Env → R (Bool × Env)
  | .nil, env => .ok (true, env)
  | .cons e _, env => asBool (evE e env)
def evSrc : Src → Env → R (List Tr × Env)
  | .seq e, env => (evE e env).bind fun (v, env1) => R.of (itemsOf v env1)
  | .rng es, env => (evEs es env).bind fun (vs, env1) => rngV vs env1
  | .enum e, env => (evE e env).bind fun (v, env1) => (match itemsL v env1 with
    | some (ts, env2) => .ok (enumT 0 ts, env2)
    | none => .bad)
  | .zip a b, env => (evE a env).bind fun (va, env1) => (evE b env1).bind fun (vb, env2) => (match itemsL va env2 with
    | some (ts, env3) => (match itemsL vb env3 with
      | some (us, env4) => if ts.length = us.length then .ok (zipT ts us, env4) else .bad
      | none => .bad)
    | none => .bad)
end

def setNames : List Nat → List Tr → Env → Option Env
  | [], [], env => some env
  | i :: is, t :: ts, env => if i < env.length then setNames is ts (env.set i (some t)) else none
  | _, _, _ => none
mutual
def evS : S → Env → RS
  | .asg tg e, env => (match evE Θ cf e env with
    | .ok (v, env1) => (match take v env1 with
      | some (t, env2) => (match asg tg t env2 with
        | some env3 => .nx env3
        | none => .bad)
      | none => .bad)
    | .exc c d env1 => .ex c d env1
    | .bad => .bad)
  | .par is es, env => (match evEs Θ cf es env with
    | .ok (vs, env1) => (match takes vs env1 with
      | some (ts, env2) => (match setNames is ts env2 with
        | some env3 => .nx env3
        | none => .bad)
      | none => .bad)
    | .exc c d env1 => .ex c d env1
    | .bad => .bad)
  | .setIx x ix e, env => (match evE Θ cf e env with
    | .ok (v, env1) => (match take v env1 with
      | some (t, env2) => (match slot env2 x with
        | some (.lst _) => (match evE Θ cf ix env2 with
          | .ok (vi, env3) => (match getV env3 vi, slot env3 x with
            | some (.sh (.int k)), some (.lst ts) => (match ixN ts.length k with
              | some j => .nx (env3.set x (some (.lst (ts.set j t))))
              | none => .bad)
            | _, _ => .bad)
          | .exc c d env1 => .ex c d env1
          | .bad => .bad)
        | _ => .bad)
      | none => .bad)
    | .exc c d env1 => .ex c d env1
    | .bad => .bad)
  | .app x e, env => (match slot env x with
    | some (.lst _) => (match evE Θ cf e env with
      | .ok (v, env1) => (match take v env1 with
        | some (t, env2) => (match slot env2 x with
          | some (.lst ts) => if ts.length < sizeLine then .nx (env2.set x (some (.lst (ts ++ [t])))) else .bad
          | _ => .bad)
        | none => .bad)
      | .exc c d env1 => .ex c d env1
      | .bad => .bad)
    | _ => .bad)
  | .expr e, env => (match evE Θ cf e env with
    | .ok (_, env1) => .nx env1
    | .exc c d env1 => .ex c d env1
    | .bad => .bad)
  | .ret e, env => (match evE Θ cf e env with
    | .ok (v, env1) => (match take v env1 with
      | some (t, env2) => .rt t env2
      | none => .bad)
    | .exc c d env1 => .ex c d env1
    | .bad => .bad)
  | .retN, env => .rt (.sh .none) env
  | .ifs c a b, env => (match asBool (evE Θ cf c env) with
    | .ok (k, env1) => if k = true then evSs a env1 else evSs b env1
    | .exc c d env1 => .ex c d env1
    | .bad => .bad)
  | .fors tg src body, env => (match evSrc Θ cf src env with
    | .ok (ts, env1) => forL tg (fun e => evSs body e) ts env1
    | .exc c d env1 => .ex c d env1
    | .bad => .bad)
  | .whl c body, env => whileL (fun e => asBool (evE Θ cf c e)) (fun e => evSs body e) FU env
  | .rai c e, env => (match evE Θ cf e env with
    | .ok (v, env1) => (match takeF v env1 with
      | some (.sh d, env2) => .ex c d env2
      | _ => .bad)
    | .exc c d env1 => .ex c d env1
    | .bad => .bad)
  | .brk, env => .bk env
  | .cnt, env => .ct env
  | .pass, env => .nx env
  | .tryA body c ev x, env => (match evSs body env with
    | .ex k d env1 => if c = 0 ∧ k < Θ.cls.length ∧ x < env1.length ∧ ev < env1.length then .nx ((env1.set ev none).set x (some (.exc k d))) else .bad
    | r => r)
  | .oops, _ => .bad
  | .tryR body c ev, env => (match evSs body env with
    | .ex k d env1 => if c = 0 ∧ k < Θ.cls.length ∧ ev < env1.length then .rt (.exc k d) (env1.set ev none) else .bad
    | r => r)
def evSs : Ss → Env → RS
  | .nil, env => .nx env
  | .cons s ss, env => (match evS s env with
    | .nx env1 => evSs ss env1
    | r => r)
end
end

/-! ### defs -/
/-- what the first n slots hold at the end, of those that are never stored into -/
def keepF (p : Nat → Bool) : Nat → Env → List (Option Tr)
  | 0, _ => []
  | n + 1, env => (if p 0 = true then (match env with | t :: _ => t | [] => none) else none) :: keepF (fun i => p (i + 1)) n env.tail
def keptOf (kept : List Nat) (env : Env) (n : Nat) : List (Option Tr) := keepF (fun i => kept.contains i) n env
def callF (Θ : Tab) : Nat → CF
  | 0, _, _ => .bad
  | n + 1, j, ts => match Θ.fns[j]? with
    | none => .bad
    | some F => if ts.length = F.ps.length then (match evSs Θ (callF Θ n) F.body (ts.map some ++ List.replicate (F.N.length - ts.length) none) with
      | .rt t env => .ok t (keptOf F.kept env ts.length)
      | .nx env => .ok (.sh .none) (keptOf F.kept env ts.length)
      | .ex c d env => .exc c d (keptOf F.kept env ts.length)
      | _ => .bad) else .bad
end FF

set_option Elab.async false
set_option linter.all false
set_option autoImplicit false
set_option maxRecDepth 100000
/-! FC: defs and calls where no repr is under way (the stack's guards are known). -/
namespace FF
open PySem PySem.Spec PyProof.Rows L2

/-- a def's promise, for callers whose stack bears no guard -/
structure FnG (Ω : Wd) (k : Nat) (f : Addr) (fd : FuncData) (ps : List Str) (sp : Sp) : Prop where
  len : ∀ vs H Q E, sp vs H Q E → vs.length = ps.length
  run : ∀ (A : Around) (outer : List PySem.Env) (s : Shared) (H : Hp) (args : Args) (us : List Value) (vs : List V) (Q : VK) (E : XK),
    Room k A → A.guards = some [] → Env0 Ω.P Ω.w Ω.K Ω.mg Ω.base A outer s H → BindsTo s fd args (ps.zip us) → Vals vs us → sp vs H Q E →
    codeAny (model Ω.P Ω.w) A (.call (.ref f) args) (CR (CX Ω.P Ω.w) outer Ω.P Ω.w H s Q E) s

theorem deeper_guards (A : Around) (env : PySem.Env) : (A.deeper env).guards = A.guards := rfl

/-- the context of a body -/
abbrev bodyCx (Ω : Wd) (N : List Str) (qual : Str) (scope : Scope) (f : Addr) (cdv : Value) (A : Around) (outer : List PySem.Env) (s : Shared) (H : Hp) (E : XK) : Cx :=
  cxOf (CX Ω.P Ω.w) Ω.P Ω.w Ω.K Ω.mg Ω.base N qual scope f cdv A outer s H E

theorem fnG_of {Ω : Wd} {k : Nat} {f : Addr} {name qual : Str} {params : Arguments} {body : List Stmt} {scope : Scope} {dV kV doc pm cdv ct oc : Value} {an od : Option Addr} {osl : Array (Option Value)} {N ps : List Str} {sp : Sp}
    (lk : Ω.K.lookup f = some ⟨oc, od, .func (PySem.W.fnOf name qual params body scope dV kV doc pm an cdv ct), osl⟩)
    (hcd : PySem.W.codeIn Ω.K cdv qual = true) (S : FnScope N ps scope) (len : ∀ vs H Q E, sp vs H Q E → vs.length = ps.length)
    (hbody : ∀ (A : Around) (outer : List PySem.Env) (s : Shared) (H : Hp) (vs : List V) (Q : VK) (E : XK),
      Room k (A.deeper (envOfC qual scope s.heap.objs.size f cdv)) → A.guards = some [] → sp vs H Q E →
      ∃ t, PSs (bodyCx Ω N qual scope f cdv A outer s H E) body t ∧ t { nx := fun _ H' => Q .non H', rt := Q } (start N vs) H) :
    FnG Ω (k + 1) f (PySem.W.fnOf name qual params body scope dV kV doc pm an cdv ct) ps sp := by
  constructor
  · exact len
  intro A outer s H args us vs Q E room gd e0 bnd rel hsp
  have inK : Ω.K.In s.heap := e0.mod.kin.keeps fun b o e => (e0.bs b o e).1
  have lim : s.heap.NoLimit := e0.mod.nolimit.keeps fun b o e => (e0.bs b o e).1
  have kinds : ∀ y ∈ ps.zip us, scope.names.lookup y.1 = some .local ∨
      (scope.names.lookup y.1 = some .cell ∧ ((cellsFrom (s.heap.objs.size + 1) scope.names []).lookup y.1).isSome = true) := by
    rintro ⟨n, v⟩ hy
    cases S.par n (List.of_mem_zip hy).1 with
    | inl q => exact .inl q
    | inr q => exact .inr ⟨q, PySem.W.cellsFrom_some _ _ _ (.inl q)⟩
  apply codeAny_call_function room.depth (inK _ _ lk) rfl S.co S.gen rfl (PySem.W.codeRec_of inK hcd) (bnd _ _ _ _ ?_)
  apply wpAny_newFunctionEnv_cells S.kind kinds
  intro env he s1 x
  subst he
  refine ⟨lim.keeps x.toInCall.keep, codeAny_func ?_⟩
  obtain ⟨t, ht, hq⟩ := hbody A outer s H vs Q E (room.deeper _) gd hsp
  have inv := inv_start (CX := CX Ω.P Ω.w) (E := E) S room.hd e0 (len _ _ _ _ hsp) rel x
  refine wpAny_mono (ht.run [] s1 _ H _ inv hq) ?_ fun e s' hs => hs
  intro fl s' hs
  cases fl with
  | ret u => obtain ⟨v, σ', H', J, rv, q⟩ := hs; exact ⟨v, H', J.os, J.bare, J.base, J.hok, rv, q⟩
  | next => obtain ⟨σ', H', J, q⟩ := hs; exact ⟨V.non, H', J.os, J.bare, J.base, J.hok, rfl, q⟩
  | brk => exact hs.elim fun _ h => h.elim fun _ h => h.2.elim
  | cont => exact hs.elim fun _ h => h.elim fun _ h => h.2.elim

section
variable {X : Cx} {Ω : Wd} {k : Nat} {f : Addr} {fd : FuncData} {ps : List Str} {sp : Sp} {E : L2.St → XK}

/-- the world of a context -/
structure InW (Ω : Wd) (X : Cx) : Prop where
  P : X.prog = Ω.P
  w : X.w = Ω.w
  K : X.K = Ω.K
  mg : X.mg = Ω.mg
  base : X.base = Ω.base

theorem runG {pins : List (Addr × Obj)} {σ : L2.St} {H : Hp} {s : Shared} {Q : VK} {us : List Value} {vs : List V} {args : Args} (i : InW Ω X)
    (F : FnG Ω k f fd ps sp) (room : Room k X.A) (gd : X.A.guards = some []) (hx : PassesAt (CX X.prog X.w) X σ (E σ))
    (I : Inv X pins σ H s) (bnd : BindsTo s fd args (ps.zip us)) (r : Vals vs us) (h : sp vs H Q (E σ)) :
    codeAny (model X.prog X.w) X.A (.call (.ref f) args) (fun r s' => match r with
      | .error e => X.xe e s'
      | .ok (.ret u) => EP X pins σ Q u s'
      | .ok _ => False) s := by
  obtain ⟨iP, iw, iK, im, ib⟩ := i
  have e0 := I.env0
  rw [iP, iw, iK, im, ib] at e0
  have q := F.run X.A X.stack s H args us vs Q (E σ) room gd e0 bnd r h
  rw [← iP, ← iw] at q
  refine codeAny_mono q fun r s' hq => ?_
  cases r with
  | error e => exact hx pins H s e s' I hq
  | ok fl => cases fl with
    | ret u => exact I.after hq
    | next => exact False.elim hq
    | brk => exact False.elim hq
    | cont => exact False.elim hq

/-- no star among written arguments -/
def plainE : Expr → Bool
  | .Starred .. => false
  | _ => true
theorem starEach_plain {e : Expr} (h : plainE e = true) (es : List Expr) (env : PySem.Env) : starEach (e :: es) env = (false, eval e env) :: starEach es env := by
  cases e <;> first | rfl | cases h
theorem starEach_all {env : PySem.Env} {pos : Pos} : ∀ {es : List Expr}, es.all plainE = true → (backTo pos (starEach es env)).any (·.1) = false
  | [], _ => rfl
  | e :: es, h => by
    rw [List.all_cons, Bool.and_eq_true] at h
    rw [starEach_plain h.1]
    show (false || (backTo pos (starEach es env)).any (·.1)) = false
    rw [starEach_all h.2]; rfl
theorem pa_consP {e : Expr} {es : List Expr} {te : TE} {t : TA} (ha : PE X e te) (hr : PA X es t) (h : plainE e = true) : PA X (e :: es) (tCons te t) := pa_cons ha hr (starEach_plain h es X.env)

def tCallG (sp : Sp) (E : L2.St → XK) (t : TA) : TE := fun σ H Q => t σ H fun vs H1 => sp vs H1 Q (E σ)
theorem pe_callG {x : Str} {p pos : Pos} {es : List Expr} {t : TA} (i : InW Ω X) (F : FnG Ω k f fd ps sp) (room : Room k X.A) (gd : X.A.guards = some [])
    (hg : Gl X x) (hm : X.mg x = some (.ref f)) (hk : PySem.W.keepIn X.K (.ref f) = true) (hb : Binds X.K fd ps []) (hx : ∀ σ, PassesAt (CX X.prog X.w) X σ (E σ))
    (ha : PA X es t) (hp : es.all plainE = true) (hdb : (x == ("__debug__" : Str)) = false) (hnil : es = [] → ∀ σ H Q, t σ H Q → Q [] H) : PE X (.Call (.Name x p) es [] pos) (tCallG sp E t) := by
  have body : ∀ (pins : List (Addr × Obj)) (σ : L2.St) (Q : VK) (us : List Value) (vs : List V) (H1 : Hp) (s1 : Shared), Inv X pins σ H1 s1 → Vals vs us → sp vs H1 Q (E σ) →
      wpAny (model X.prog X.w) X.A (call (.ref f) us) (EP X pins σ Q) X.xe s1 := by
    intro pins σ Q us vs H1 s1 I1 r q
    have l : us.length = ps.length := r.length.symm.trans (F.len _ _ _ _ q)
    have b := hb s1 us I1.kIn (by rw [List.append_nil]; exact l)
    rw [List.append_nil] at b
    refine wpAny_call (codeAny_mono (runG i F room gd (hx σ) I1 b r q) fun r s' hq => ?_)
    cases r with
    | error e => exact hq
    | ok fl => cases fl with
      | ret u => exact hq
      | next => exact False.elim hq
      | brk => exact False.elim hq
      | cont => exact False.elim hq
  constructor
  intro pins s σ H Q I h
  refine wpAny_Call_Name_kw (ld_glob I hg hm ?_ hdb)
  cases es with
  | nil => exact PySem.W.callWith_K0 I.kIn hk (body pins σ Q [] [] H s I .nil (hnil rfl σ H _ h))
  | cons e es =>
    rw [List.all_cons, Bool.and_eq_true] at hp
    refine PySem.W.callWith_K (h₀ := X.base) I.ok.mod.kin hk (thn (ha.run pos pins s σ H _ I h) fun us s1 hq => ?_) (starEach_plain hp.1 es X.env) (starEach_all hp.2)
    obtain ⟨vs, H1, I1, r, q⟩ := hq
    exact ⟨I1.kIn, body pins σ Q us vs H1 s1 I1 r q⟩
/-- f(e, .., k = v, ..) -/
theorem pe_callKG {x : Str} {p pos : Pos} {es : List Expr} {kws : List Keyword} {ks : List Str} {g : List Value → List Value → List Value} {gV : List V → List V → List V} {t tk : TA} (i : InW Ω X) (F : FnG Ω k f fd ps sp) (room : Room k X.A) (gd : X.A.guards = some [])
    (hg : Gl X x) (hm : X.mg x = some (.ref f)) (hk : PySem.W.keepIn X.K (.ref f) = true) (hb : KBinds X.K fd ps ks g gV) (hx : ∀ σ, PassesAt (CX X.prog X.w) X σ (E σ))
    (ha : PA X es t) (hkw : PK X kws tk) (hp : es.all plainE = true) (hn : kws.map (·.arg) = ks.map some) (hdb : (x == ("__debug__" : Str)) = false) (hnil : es = [] → ∀ σ H Q, t σ H Q → Q [] H) :
    PE X (.Call (.Name x p) es kws pos) (fun σ H Q => t σ H fun vs H1 => tk σ H1 fun zs H2 => sp (gV vs zs) H2 Q (E σ)) := by
  have names : ∀ (kws : List Keyword) (ks : List Str), kws.map (·.arg) = ks.map some → (backToKw pos (keywordEach kws X.env)).all (·.1.isSome) = true ∧
      (backToKw pos (keywordEach kws X.env)).filterMap (·.1) = ks ∧ (backToKw pos (keywordEach kws X.env)).any (·.1.isNone) = false := by
    intro kws
    induction kws with
    | nil =>
      intro ks h
      cases ks with
      | nil => exact ⟨rfl, rfl, rfl⟩
      | cons _ _ => cases h
    | cons kw kws ih =>
      intro ks h
      obtain ⟨n, v, q⟩ := kw
      cases ks with
      | nil => cases h
      | cons y ks =>
        rw [List.map_cons, List.map_cons] at h
        obtain ⟨h1, h2⟩ := List.cons.inj h
        obtain ⟨a, b, c⟩ := ih ks h2
        have h1 : n = some y := h1
        subst h1
        refine ⟨?_, ?_, ?_⟩
        · show (true && (backToKw pos (keywordEach kws X.env)).all (·.1.isSome)) = true
          rw [a]; rfl
        · show y :: (backToKw pos (keywordEach kws X.env)).filterMap (·.1) = y :: ks
          rw [b]
        · show (false || (backToKw pos (keywordEach kws X.env)).any (·.1.isNone)) = false
          rw [c]; rfl
  obtain ⟨n1, n2, n3⟩ := names kws ks hn
  have body : ∀ (pins : List (Addr × Obj)) (σ : L2.St) (Q : VK) (us ws : List Value) (vs zs : List V) (H1 : Hp) (s1 : Shared), Inv X pins σ H1 s1 → Vals vs us → Vals zs ws → sp (gV vs zs) H1 Q (E σ) →
      wpAny (model X.prog X.w) X.A (call (.ref f) us (ks.zip ws)) (EP X pins σ Q) X.xe s1 := by
    intro pins σ Q us ws vs zs H1 s1 I1 r rz q
    have r2 := hb.rel r rz
    have l : (g us ws).length = ps.length := r2.length.symm.trans (F.len _ _ _ _ q)
    have b := hb.to s1 us ws I1.kIn l
    refine wpAny_call (codeAny_mono (runG i F room gd (hx σ) I1 b r2 q) fun r s' hq => ?_)
    cases r with
    | error e => exact hq
    | ok fl => cases fl with
      | ret u => exact hq
      | next => exact False.elim hq
      | brk => exact False.elim hq
      | cont => exact False.elim hq
  constructor
  intro pins s σ H Q I h
  refine wpAny_Call_Name_kw (ld_glob I hg hm ?_ hdb)
  cases es with
  | nil =>
    refine PySem.W.callWith_KW0 (h₀ := X.base) I.ok.mod.kin hk n1 ?_ (by show (false || _) = false; rw [n3]; rfl)
    refine thn (hkw.run pos pins s σ H _ I (hnil rfl σ H _ h)) fun ws s2 hq => ?_
    obtain ⟨zs, H2, I2, rz, q2⟩ := hq
    refine ⟨I2.kIn, ?_⟩
    rw [n2]
    exact body pins σ Q [] ws [] zs H2 s2 I2 .nil rz q2
  | cons e es =>
    rw [List.all_cons, Bool.and_eq_true] at hp
    refine PySem.W.callWith_KW (h₀ := X.base) I.ok.mod.kin hk n1 (thn (ha.run pos pins s σ H _ I h) fun us s1 hq => ?_) ?_ (starEach_plain hp.1 es X.env)
    · obtain ⟨vs, H1, I1, r, q⟩ := hq
      refine thn (hkw.run pos pins s1 σ H1 _ I1 q) fun ws s2 hq2 => ?_
      obtain ⟨zs, H2, I2, rz, q2⟩ := hq2
      refine ⟨I2.kIn, ?_⟩
      rw [n2]
      exact body pins σ Q us ws vs zs H2 s2 I2 r rz q2
    · rw [starEach_plain hp.1 es X.env]
      show ((false || (backTo pos (starEach es X.env)).any (·.1)) || _) = false
      rw [starEach_all hp.2, n3]; rfl
end
end FF

set_option Elab.async false
set_option linter.all false
set_option autoImplicit false
set_option maxRecDepth 100000
/-! FD: the evaluator's outcomes as readings of the hand layer. -/
namespace FF
open PySem PySem.Spec PyProof.Rows L2

theorem PE.imp {X : Cx} {e : Expr} {t t' : TE} (h : PE X e t) (i : ∀ σ H Q, t' σ H Q → t σ H Q) : PE X e t' := ⟨fun pins s σ H Q I q => h.run pins s σ H Q I (i σ H Q q)⟩
theorem PT.imp {X : Cx} {e : Expr} {t t' : TT} (h : PT X e t) (i : ∀ σ H Q, t' σ H Q → t σ H Q) : PT X e t' := ⟨fun pins s σ H Q I q => h.run pins s σ H Q I (i σ H Q q)⟩
theorem PW.imp {X : Cx} {e : Expr} {t t' : TT} (h : PW X e t) (i : ∀ σ H Q, t' σ H Q → t σ H Q) : PW X e t' := ⟨fun w pins s σ H Q I q => h.run w pins s σ H Q I (i σ H Q q)⟩
theorem PA.imp {X : Cx} {e : List Expr} {t t' : TA} (h : PA X e t) (i : ∀ σ H Q, t' σ H Q → t σ H Q) : PA X e t' := ⟨fun p pins s σ H Q I q => h.run p pins s σ H Q I (i σ H Q q)⟩
theorem PK.imp {X : Cx} {e : List Keyword} {t t' : TA} (h : PK X e t) (i : ∀ σ H Q, t' σ H Q → t σ H Q) : PK X e t' := ⟨fun p pins s σ H Q I q => h.run p pins s σ H Q I (i σ H Q q)⟩
theorem PS.imp {X : Cx} {e : Stmt} {t t' : TS} (h : PS X e t) (i : ∀ D σ H, t' D σ H → t D σ H) : PS X e t' := ⟨fun pins s σ H D I q => h.run pins s σ H D I (i D σ H q)⟩
theorem PSs.imp {X : Cx} {e : List Stmt} {t t' : TS} (h : PSs X e t) (i : ∀ D σ H, t' D σ H → t D σ H) : PSs X e t' := ⟨fun pins s σ H D I q => h.run pins s σ H D I (i D σ H q)⟩

section
variable (Ω : Wd) (W : WX)

/-- the exception that an evaluation ends with -/
def ExO1 (G H : Hp) (σ : L2.St) (F : List Addr) (c : Nat) (d : D) (env' : Env) : Prop :=
  ∀ dd u G' H' F', Step G H F G' H' F' → St Ω G' H' σ env' F' → G' dd = some (.xd [("value", u)]) → Dp Ω.K G' u d → W (.ref (Ω.ca c)) (some dd) σ H'
/-- how an evaluation ends, from a state with own cells F -/
def OutV (G H : Hp) (σ : L2.St) (F : List Addr) (r : R (Val × Env)) (Q : VK) : Prop := match r with
  | .ok (x, env') => ∀ v G' H' F' Fv, Step G H F G' H' (F' ++ Fv) → St Ω G' H' σ env' F' → VR Ω G' H' σ env'.length v x Fv → (F' ++ Fv).Nodup → Q v H'
  | .exc c d env' => ExO1 Ω W G H σ F c d env'
  | .bad => False
def OutL (G H : Hp) (σ : L2.St) (F : List Addr) (r : R (List Val × Env)) (Q : List V → Hp → Prop) : Prop := match r with
  | .ok (xs, env') => ∀ vs G' H' F' Fv, Step G H F G' H' (F' ++ Fv) → St Ω G' H' σ env' F' → VRs Ω G' H' σ env'.length vs xs Fv → (F' ++ Fv).Nodup → Q vs H'
  | .exc c d env' => ExO1 Ω W G H σ F c d env'
  | .bad => False
def OutB (G H : Hp) (σ : L2.St) (F : List Addr) (r : R (Bool × Env)) (Q : Bool → Hp → Prop) : Prop := match r with
  | .ok (b, env') => ∀ G' H' F', Step G H F G' H' F' → St Ω G' H' σ env' F' → Q b H'
  | .exc c d env' => ExO1 Ω W G H σ F c d env'
  | .bad => False
def tF (f : Env → R (Val × Env)) : TE := fun σ H Q => ∃ G env F, St Ω G H σ env F ∧ OutV Ω W G H σ F (f env) Q
def tL (f : Env → R (List Val × Env)) : TA := fun σ H Q => ∃ G env F, St Ω G H σ env F ∧ OutL Ω W G H σ F (f env) Q
def tB1 (f : Env → R (Bool × Env)) : TT := fun σ H Q => ∃ G env F, St Ω G H σ env F ∧ OutB Ω W G H σ F (f env) Q
end

section
variable {Ω : Wd} {W : WX} {G H G' H' : Hp} {σ : L2.St} {F F' : List Addr}

/-- from a later state -/
theorem ExO1.after {c : Nat} {d : D} {env' : Env} (s : Step G H F G' H' F') (h : ExO1 Ω W G H σ F c d env') : ExO1 Ω W G' H' σ F' c d env' :=
  fun dd u G2 H2 F2 s2 st a b => h dd u G2 H2 F2 (s.trans s2) st a b
theorem OutV.after {r : R (Val × Env)} {Q : VK} (s : Step G H F G' H' F') (h : OutV Ω W G H σ F r Q) : OutV Ω W G' H' σ F' r Q := by
  match r, h with
  | .ok (x, env'), h => exact fun v G2 H2 F2 Fv s2 st vr nd => h v G2 H2 F2 Fv (s.trans s2) st vr nd
  | .exc c d env', h => exact ExO1.after s h
  | .bad, h => exact h
theorem OutL.after {r : R (List Val × Env)} {Q : List V → Hp → Prop} (s : Step G H F G' H' F') (h : OutL Ω W G H σ F r Q) : OutL Ω W G' H' σ F' r Q := by
  match r, h with
  | .ok (x, env'), h => exact fun v G2 H2 F2 Fv s2 st vr nd => h v G2 H2 F2 Fv (s.trans s2) st vr nd
  | .exc c d env', h => exact ExO1.after s h
  | .bad, h => exact h
theorem OutB.after {r : R (Bool × Env)} {Q : Bool → Hp → Prop} (s : Step G H F G' H' F') (h : OutB Ω W G H σ F r Q) : OutB Ω W G' H' σ F' r Q := by
  match r, h with
  | .ok (x, env'), h => exact fun G2 H2 F2 s2 st => h G2 H2 F2 (s.trans s2) st
  | .exc c d env', h => exact ExO1.after s h
  | .bad, h => exact h
theorem OutV.mono {r : R (Val × Env)} {Q Q' : VK} (h : OutV Ω W G H σ F r Q) (i : ∀ v H', Q v H' → Q' v H') : OutV Ω W G H σ F r Q' := by
  match r, h with
  | .ok (x, env'), h => exact fun v G2 H2 F2 Fv s2 st vr nd => i _ _ (h v G2 H2 F2 Fv s2 st vr nd)
  | .exc c d env', h => exact h
  | .bad, h => exact h

/-- a value at once -/
theorem OutV.now {v : V} {x : Val} {env : Env} {Fv : List Addr} {Q : VK} (st : St Ω G H σ env F') (vr : VR Ω G H σ env.length v x Fv) (nd : (F' ++ Fv).Nodup) (sub : ∀ p ∈ F' ++ Fv, p ∈ F)
    (h : OutV Ω W G H σ F (.ok (x, env)) Q) : Q v H := h v G H F' Fv (Step.refl sub) st vr nd

/-- an evaluation, then another: f then g, where what stands behind f is handed on -/
theorem OutV.bindV {f : R (Val × Env)} {g : Val → Env → R (Val × Env)} {Q Q' : VK}
    (h : OutV Ω W G H σ F (f.bind fun p => g p.1 p.2) Q)
    (k : ∀ v x G1 H1 env1 F1 Fv, Step G H F G1 H1 (F1 ++ Fv) → St Ω G1 H1 σ env1 F1 → VR Ω G1 H1 σ env1.length v x Fv → (F1 ++ Fv).Nodup → OutV Ω W G1 H1 σ (F1 ++ Fv) (g x env1) Q → Q' v H1) : OutV Ω W G H σ F f Q' := by
  match f, h with
  | .ok (x, env1), h => exact fun v G1 H1 F1 Fv s st vr nd => k v x G1 H1 env1 F1 Fv s st vr nd (h.after s)
  | .exc c d env', h => exact h
  | .bad, h => exact h
theorem OutL.bindV {f : R (List Val × Env)} {g : List Val → Env → R (Val × Env)} {Q : VK} {Q' : List V → Hp → Prop}
    (h : OutV Ω W G H σ F (f.bind fun p => g p.1 p.2) Q)
    (k : ∀ vs xs G1 H1 env1 F1 Fv, Step G H F G1 H1 (F1 ++ Fv) → St Ω G1 H1 σ env1 F1 → VRs Ω G1 H1 σ env1.length vs xs Fv → (F1 ++ Fv).Nodup → OutV Ω W G1 H1 σ (F1 ++ Fv) (g xs env1) Q → Q' vs H1) : OutL Ω W G H σ F f Q' := by
  match f, h with
  | .ok (x, env1), h => exact fun v G1 H1 F1 Fv s st vr nd => k v x G1 H1 env1 F1 Fv s st vr nd (h.after s)
  | .exc c d env', h => exact h
  | .bad, h => exact h

/-- the next argument, with what stands by -/
theorem tL_cons {f : Env → R (Val × Env)} {fs : Env → R (List Val × Env)} {Q : List V → Hp → Prop}
    (h : tL Ω W (fun env => (f env).bind fun p => (fs p.2).bind fun q => .ok (p.1 :: q.1, q.2)) σ H Q) : tCons (tF Ω W f) (tL Ω W fs) σ H Q := by
  obtain ⟨G, env, F, st, h⟩ := h
  refine ⟨G, env, F, st, ?_⟩
  cases hf : f env with
  | bad => simp only [hf, R.bind_bad] at h; exact h
  | exc c d env' => simp only [hf, R.bind_exc] at h; exact h
  | ok p =>
    obtain ⟨x, env1⟩ := p
    simp only [hf, R.bind_ok] at h
    intro v G1 H1 F1 Fv s1 st1 vr nd
    refine ⟨G1, env1, F1, st1, ?_⟩
    obtain ⟨nd1, nd2, dj⟩ := nodup_app.mp nd
    cases hg : fs env1 with
    | bad => simp only [hg, R.bind_bad] at h; exact h.elim
    | exc c d env' =>
      simp only [hg, R.bind_exc] at h
      intro dd u G2 H2 F2 s2 st2 a b
      exact h dd u G2 H2 F2 (s1.trans ((s2.wide fun p hp => List.mem_append_left _ hp))) st2 a b
    | ok q =>
      obtain ⟨xs, env2⟩ := q
      simp only [hg, R.bind_ok] at h
      intro vs G2 H2 F2 Fs s2 st2 vrs nd'
      have hv := vr.step s2 dj.symm
      have len : env1.length = env2.length := st1.sl.len.symm.trans st2.sl.len
      have d2 := Disj.appR.mp hv.2
      obtain ⟨n1, n2, n3⟩ := nodup_app.mp nd'
      refine h (v :: vs) G2 H2 F2 (Fv ++ Fs) ?_ st2 (.cons (by rw [← len]; exact hv.1) vrs) ?_
      · refine s1.trans ((s2.frame (R := Fv)).sub fun p hp => ?_)
        rcases List.mem_append.mp hp with z | z
        · exact List.mem_append_left _ (List.mem_append_left _ z)
        · rcases List.mem_append.mp z with z | z
          · exact List.mem_append_right _ z
          · exact List.mem_append_left _ (List.mem_append_right _ z)
      · rw [nodup_app]
        exact ⟨n1, nodup_app.mpr ⟨nd2, n2, d2.2⟩, Disj.appR.mpr ⟨d2.1.symm, n3⟩⟩
theorem tL_nil {Q : List V → Hp → Prop} (h : tL Ω W (fun env => .ok ([], env)) σ H Q) : Q [] H := by
  obtain ⟨G, env, F, st, h⟩ := h
  exact h [] G H F [] (Step.refl fun p hp => by simpa using hp) st .nil (by simpa using st.nd)
end
end FF

set_option Elab.async false
set_option linter.all false
set_option autoImplicit false
set_option maxRecDepth 100000
/-! FE: what the evaluator's value operations mean for the heap. -/
namespace FF
open PySem PySem.Spec PyProof.Rows L2
section
variable {Ω : Wd} {W : WX} {G H G' H' : Hp} {σ : L2.St} {F F' : List Addr}

theorem slot_some {env : Env} {i : Nat} {t : Tr} (h : slot env i = some t) : env[i]? = some (some t) := by
  unfold slot at h
  split at h
  · rename_i e; cases h; exact e
  · cases h
theorem slot_lt {env : Env} {i : Nat} {t : Tr} (h : slot env i = some t) : i < env.length := (List.getElem?_eq_some_iff.mp (slot_some h)).1

theorem Step.join {Ft : List Addr} (hF : ∀ p ∈ Ft, p ∈ F) (hG : ∀ p ∈ Ft, G p = none) (h : ∀ p ∈ F', p ∈ F) : Step G H F (join G H Ft) H F' where
  g := join_same hG
  new := fun p e n => by
    by_cases hp : p ∈ Ft
    · exact .inr (hF p hp)
    · rw [join_out hp] at n; exact absurd e n
  keep := fun _ _ e _ => e
  own := fun p hp => .inl (h p hp)

/-- a slot's tree, with what is left -/
theorem St.out {env : Env} {i : Nat} {t : Tr} (st : St Ω G H σ env F) (h : slot env i = some t) :
    ∃ v F1 F2, σ[i]? = some (some v) ∧ TR Ω G H v t F1 ∧ SlR Ω G H σ (env.set i none) F2 ∧ F.Perm (F1 ++ F2) ∧ (F1 ++ F2).Nodup := by
  obtain ⟨v, F1, F2, a, b, c, d⟩ := st.sl.out (slot_some h)
  exact ⟨v, F1, F2, a, b, c, d, d.nodup_iff.mp st.nd⟩
theorem perm_mem {A B : List Addr} (h : A.Perm B) {p : Addr} : p ∈ A ↔ p ∈ B := h.mem_iff

/-! ### looking -/
theorem getV_ok {env : Env} {n : Nat} {v : V} {x : Val} {Fv : List Addr} {t : Tr} (st : St Ω G H σ env F) (vr : VR Ω G H σ n v x Fv) (h : getV env x = some t) : ∃ Ft, TR Ω G H v t Ft ∧ ∀ p ∈ Ft, p ∈ F ++ Fv := by
  cases x with
  | tr u =>
    simp only [getV, Option.some.injEq] at h
    subst h
    exact ⟨Fv, vr, fun p hp => List.mem_append_right _ hp⟩
  | brw i =>
    obtain ⟨w, F1, F2, a, b, c, d, e⟩ := st.out h
    obtain ⟨z, _, _⟩ := vr
    rw [a] at z
    cases z
    exact ⟨F1, b, fun p hp => List.mem_append_left _ (d.mem_iff.mpr (List.mem_append_left _ hp))⟩
theorem look_ok {env : Env} {n : Nat} {v : V} {x : Val} {Fv : List Addr} {d : D} (st : St Ω G H σ env F) (vr : VR Ω G H σ n v x Fv) (h : look env x = some d) : Dp Ω.K H v d := by
  unfold look at h
  split at h
  · rename_i t e
    obtain ⟨Ft, r, _⟩ := getV_ok st vr e
    exact r.view st.same (fun _ _ _ q => q) h
  · cases h
theorem looks_ok {env : Env} {n : Nat} (st : St Ω G H σ env F) : ∀ {vs : List V} {xs : List Val} {Fv : List Addr} {ds : List D}, VRs Ω G H σ n vs xs Fv → looks env xs = some ds → DpAll Ω.K H vs ds
  | _, _, _, _, .nil, h => by
    simp only [looks, Option.some.injEq] at h
    subst h; exact .nil
  | _, _, _, _, .cons a b, h => by
    unfold looks at h
    split at h
    · rename_i d ds e1 e2
      cases h
      exact .cons (look_ok st a e1) (looks_ok st b e2)
    · cases h
theorem getV_atom {env : Env} {n : Nat} {v : V} {x : Val} {Fv : List Addr} {d : D} (st : St Ω G H σ env F) (vr : VR Ω G H σ n v x Fv) (h : getV env x = some (.sh d)) : Dp Ω.K G v d := by
  obtain ⟨Ft, r, _⟩ := getV_ok st vr h
  cases r with
  | sh q => exact q
theorem dp_int {K : PySem.W.Frag} {v : V} {i : Int} (h : Dp K H v (.int i)) : v = .int i := by cases h; rfl
theorem dp_bool {K : PySem.W.Frag} {v : V} {b : Bool} (h : Dp K H v (.bool b)) : v = .bl b := by cases h; rfl
theorem dp_str {K : PySem.W.Frag} {v : V} {s : Str} (h : Dp K H v (.str s)) : v = .str s := by cases h; rfl
theorem dp_none {K : PySem.W.Frag} {v : V} (h : Dp K H v .none) : v = .non := by cases h; rfl
theorem dp_list {K : PySem.W.Frag} {v : V} {ds : List D} (h : Dp K H v (.list ds)) : ∃ a vs, v = .ref a ∧ SqL K H a vs ∧ DpAll K H vs ds := by
  cases h with
  | lst a b => exact ⟨_, _, rfl, a, b⟩
theorem dp_tuple {K : PySem.W.Frag} {v : V} {ds : List D} (h : Dp K H v (.tuple ds)) : ∃ a vs, v = .ref a ∧ SqT K H a vs ∧ DpAll K H vs ds := by
  cases h with
  | tup a b => exact ⟨_, _, rfl, a, b⟩
theorem ints_of {K : PySem.W.Frag} : ∀ {ds : List D} {vs : List V} {is : List Int}, DpAll K H vs ds → intsOf ds = some is → vs = is.map V.int
  | [], _, _, .nil, h => by simp only [intsOf, Option.some.injEq] at h; subst h; rfl
  | d :: ds, _, is, .cons a b, h => by
    cases d with
    | int i =>
      simp only [intsOf] at h
      split at h
      · rename_i js e
        cases h
        rw [dp_int a, ints_of b e]; rfl
      · cases h
    | none => simp [intsOf] at h
    | bool _ => simp [intsOf] at h
    | str _ => simp [intsOf] at h
    | list _ => simp [intsOf] at h
    | tuple _ => simp [intsOf] at h
    | dict _ => simp [intsOf] at h
theorem bools_of {K : PySem.W.Frag} : ∀ {ds : List D} {vs : List V} {is : List Bool}, DpAll K H vs ds → boolsOf ds = some is → vs = is.map V.bl
  | [], _, _, .nil, h => by simp only [boolsOf, Option.some.injEq] at h; subst h; rfl
  | d :: ds, _, is, .cons a b, h => by
    cases d with
    | bool i =>
      simp only [boolsOf] at h
      split at h
      · rename_i js e
        cases h
        rw [dp_bool a, bools_of b e]; rfl
      · cases h
    | none => simp [boolsOf] at h
    | int _ => simp [boolsOf] at h
    | str _ => simp [boolsOf] at h
    | list _ => simp [boolsOf] at h
    | tuple _ => simp [boolsOf] at h
    | dict _ => simp [boolsOf] at h

def ownL (x : Val) (env : Env) : Bool := match getV env x with
  | some (.lst _) => true
  | _ => false

/-! ### giving up cells -/
theorem frz_ok {v : V} {t u : Tr} {Ft : List Addr} (s : Same G H) (r : TR Ω G H v t Ft) (h : frz t = some u) : TR Ω (join G H Ft) H v u [] := by
  have g : Same G (join G H Ft) := join_same fun p hp => (r.there p hp).2
  have k : ∀ p ∈ Ft, ∀ o, H p = some o → join G H Ft p = some o := fun p hp o e => by rw [join_in hp]; exact e
  cases t with
  | sh d =>
    simp only [frz, Option.some.injEq] at h
    subst h
    cases r with
    | sh q => exact .sh (dp_mono g q)
  | fn j =>
    simp only [frz, Option.some.injEq] at h
    subst h
    cases r; exact .fn
  | exc c d =>
    simp only [frz, Option.some.injEq] at h
    subst h
    cases r with
    | exc l a b c => exact .exc l (g _ _ a) (g _ _ b) (dp_mono g c)
  | lst ts =>
    simp only [frz, Option.map_eq_some_iff] at h
    obtain ⟨ds, e, rfl⟩ := h
    exact .sh (r.view g k (by simp [Tr.toD, e]))
  | tup ts =>
    simp only [frz, Option.map_eq_some_iff] at h
    obtain ⟨ds, e, rfl⟩ := h
    exact .sh (r.view g k (by simp [Tr.toD, e]))
theorem frzs_ok : ∀ {ts us : List Tr} {vs : List V} {Ft : List Addr}, Same G H → TRs Ω G H vs ts Ft → frzs ts = some us → TRs Ω (join G H Ft) H vs us []
  | [], _, _, _, s, .nil, h => by simp only [frzs, Option.some.injEq] at h; subst h; exact .nil
  | t :: ts, us, _, _, s, .cons (F1 := F1) (F2 := F2) a b, h => by
    unfold frzs at h
    split at h
    · rename_i u us' e1 e2
      cases h
      have j1 : Same (join G H F1) (join G H (F1 ++ F2)) := fun p o e => by
        by_cases hp : p ∈ F1
        · rw [join_in (List.mem_append_left _ hp)]; rw [join_in hp] at e; exact e
        · rw [join_out hp] at e
          by_cases hq : p ∈ F2
          · rw [(b.there p hq).2] at e; cases e
          · rw [join_out fun q => (List.mem_append.mp q).elim hp hq]; exact e
      have j2 : Same (join G H F2) (join G H (F1 ++ F2)) := fun p o e => by
        by_cases hp : p ∈ F2
        · rw [join_in (List.mem_append_right _ hp)]; rw [join_in hp] at e; exact e
        · rw [join_out hp] at e
          by_cases hq : p ∈ F1
          · rw [(a.there p hq).2] at e; cases e
          · rw [join_out fun q => (List.mem_append.mp q).elim hq hp]; exact e
      have r1 := (frz_ok s a e1).to j1 (fun _ h => nomatch h) (H' := H) (fun _ h => nomatch h)
      have r2 := (frzs_ok s b e2).to j2 (fun _ h => nomatch h) (H' := H) (fun _ h => nomatch h)
      exact .cons (F1 := []) (F2 := []) r1 r2
    · cases h

/-- a slot's tree exchanged for one without cells -/
theorem St.frz {env : Env} {i : Nat} {t u : Tr} (st : St Ω G H σ env F) (h : slot env i = some t) (e : FF.frz t = some u) :
    ∃ v G1 F1, σ[i]? = some (some v) ∧ Step G H F G1 H F1 ∧ St Ω G1 H σ (env.set i (some u)) F1 ∧ TR Ω G1 H v u [] := by
  obtain ⟨v, Ft, F2, a, b, c, d, nd⟩ := st.out h
  obtain ⟨n1, n2, dj⟩ := nodup_app.mp nd
  have r := frz_ok st.same b e
  have hF : ∀ p ∈ F2, p ∈ F := fun p hp => d.mem_iff.mpr (List.mem_append_right _ hp)
  have c' : SlR Ω (join G H Ft) H σ (env.set i none) F2 := c.to (join_same fun p hp => (b.there p hp).2) (fun _ _ _ e => e) fun p hp => by
    rw [join_out (dj.symm p hp)]; exact (c.there p hp).2
  obtain ⟨F3, q1, q2⟩ := c'.back (slot_lt h) r a
  rw [List.nil_append] at q2
  refine ⟨v, join G H Ft, F3, a, Step.join (fun p hp => d.mem_iff.mpr (List.mem_append_left _ hp)) (fun p hp => (b.there p hp).2) fun p hp => hF p (q2.mem_iff.mp hp), ⟨join_sub st.same, q1, q2.nodup_iff.mpr n2⟩, r⟩

theorem Step.app {F1 R : List Addr} (s : Step G H F G' H' F1) : Step G H (F ++ R) G' H' (F1 ++ R) := s.frame

theorem take_ok {env env1 : Env} {n : Nat} {v : V} {x : Val} {t : Tr} {Fv : List Addr} (st : St Ω G H σ env F) (vr : VR Ω G H σ n v x Fv) (nd : (F ++ Fv).Nodup) (h : take x env = some (t, env1)) :
    ∃ G1 F1 Ft, Step G H (F ++ Fv) G1 H (F1 ++ Ft) ∧ St Ω G1 H σ env1 F1 ∧ TR Ω G1 H v t Ft ∧ (F1 ++ Ft).Nodup ∧ env1.length = env.length := by
  cases x with
  | tr u =>
    simp only [take, Option.some.injEq, Prod.mk.injEq] at h
    obtain ⟨rfl, rfl⟩ := h
    exact ⟨G, F, Fv, Step.refl fun _ h => h, st, vr, nd, rfl⟩
  | brw i =>
    obtain ⟨z, _, rfl⟩ := vr
    simp only [take] at h
    split at h
    · rename_i t0 e0
      split at h
      · rename_i u e1
        cases h
        obtain ⟨w, G1, F1, a, s1, st1, r⟩ := st.frz e0 e1
        rw [a] at z; cases z
        refine ⟨G1, F1, [], by simpa using s1, st1, r, by simpa using st1.nd, by simp⟩
      · cases h
    · cases h
theorem takeF_ok {env env1 : Env} {n : Nat} {v : V} {x : Val} {t : Tr} {Fv : List Addr} (st : St Ω G H σ env F) (vr : VR Ω G H σ n v x Fv) (nd : (F ++ Fv).Nodup) (h : takeF x env = some (t, env1)) :
    ∃ G1 F1, Step G H (F ++ Fv) G1 H F1 ∧ St Ω G1 H σ env1 F1 ∧ TR Ω G1 H v t [] ∧ env1.length = env.length := by
  cases x with
  | tr u =>
    simp only [takeF] at h
    split at h
    · rename_i u' e
      cases h
      obtain ⟨n1, n2, dj⟩ := nodup_app.mp nd
      have r := frz_ok st.same vr e
      have rt : ∀ p ∈ Fv, H p ≠ none ∧ G p = none := TR.there vr
      refine ⟨join G H Fv, F, Step.join (fun p hp => List.mem_append_right _ hp) (fun p hp => (rt p hp).2) (fun p hp => List.mem_append_left _ hp), ⟨join_sub st.same, ?_, n1⟩, r, rfl⟩
      exact st.sl.to (join_same fun p hp => (rt p hp).2) (fun _ _ _ e => e) fun p hp => by rw [join_out (dj p hp)]; exact (st.sl.there p hp).2
    · cases h
  | brw i =>
    obtain ⟨z, _, rfl⟩ := vr
    simp only [takeF, take] at h
    split at h
    · rename_i t0 e0
      split at h
      · rename_i u e1
        cases h
        obtain ⟨w, G1, F1, a, s1, st1, r⟩ := st.frz e0 e1
        rw [a] at z; cases z
        exact ⟨G1, F1, by simpa using s1, st1, r, by simp⟩
      · cases h
    · cases h
/-- what stands by, over a ghost step -/
theorem VRs.step {n : Nat} {R : List Addr} (s : Step G H F G' H' F') : ∀ {vs : List V} {xs : List Val} {R : List Addr}, VRs Ω G H σ n vs xs R → Disj R F → VRs Ω G' H' σ n vs xs R ∧ Disj R F'
  | _, _, _, .nil, _ => ⟨.nil, Disj.nilL⟩
  | _, _, _, .cons a b, d => by
    obtain ⟨d1, d2⟩ := Disj.appL.mp d
    obtain ⟨a1, a2⟩ := a.step s d1
    obtain ⟨b1, b2⟩ := VRs.step (R := []) s b d2
    exact ⟨.cons a1 b1, Disj.appL.mpr ⟨a2, b2⟩⟩
theorem takes_ok {n : Nat} : ∀ {xs : List Val} {vs : List V} {env env1 : Env} {ts : List Tr} {G : Hp} {F Fv : List Addr}, St Ω G H σ env F → VRs Ω G H σ n vs xs Fv → (F ++ Fv).Nodup → takes xs env = some (ts, env1) →
    ∃ G1 F1 Ft, Step G H (F ++ Fv) G1 H (F1 ++ Ft) ∧ St Ω G1 H σ env1 F1 ∧ TRs Ω G1 H vs ts Ft ∧ (F1 ++ Ft).Nodup ∧ env1.length = env.length
  | [], _, env, _, _, G, F, _, st, .nil, nd, h => by
    simp only [takes, Option.some.injEq, Prod.mk.injEq] at h
    obtain ⟨rfl, rfl⟩ := h
    exact ⟨G, F, [], Step.refl fun _ h => h, st, .nil, nd, rfl⟩
  | x :: xs, _, env, _, _, G, F, _, st, .cons (v := v) (vs := vs) (F1 := Fa) (F2 := Fb) a b, nd, h => by
    unfold takes at h
    split at h
    · rename_i t env1 e1
      split at h
      · rename_i ts env2 e2
        cases h
        rw [← List.append_assoc] at nd
        obtain ⟨n1, n2, dj⟩ := nodup_app.mp nd
        obtain ⟨G1, F1, Ft, s1, st1, r1, nd1, l1⟩ := take_ok st a n1 e1
        obtain ⟨b1, db⟩ := VRs.step (R := []) s1 b dj.symm
        obtain ⟨db1, db2⟩ := Disj.appR.mp db
        obtain ⟨m1, m2, mj⟩ := nodup_app.mp nd1
        have nd2 : (F1 ++ Fb).Nodup := nodup_app.mpr ⟨m1, n2, db1.symm⟩
        obtain ⟨G2, F2, Fs, s2, st2, r2, nd3, l2⟩ := takes_ok st1 b1 nd2 e2
        have dt : Disj Ft (F1 ++ Fb) := Disj.appR.mpr ⟨mj.symm, db2.symm⟩
        obtain ⟨r1', d1⟩ := r1.step s2 dt
        obtain ⟨d11, d12⟩ := Disj.appR.mp d1
        obtain ⟨k1, k2, kj⟩ := nodup_app.mp nd3
        refine ⟨G2, F2, Ft ++ Fs, ?_, st2, .cons r1' r2, ?_, l2.trans l1⟩
        · rw [← List.append_assoc]
          refine (s1.frame (R := Fb)).trans (((s2.frame (R := Ft)).wide fun p hp => ?_).sub fun p hp => ?_)
          · simp only [List.mem_append] at hp ⊢
            rcases hp with (hp | hp) | hp
            · exact .inl (.inl hp)
            · exact .inr hp
            · exact .inl (.inr hp)
          · simp only [List.mem_append] at hp ⊢
            rcases hp with hp | hp | hp
            · exact .inl (.inl hp)
            · exact .inr hp
            · exact .inl (.inr hp)
        · exact nodup_app.mpr ⟨k1, nodup_app.mpr ⟨m2, k2, d12⟩, Disj.appR.mpr ⟨d11.symm, kj⟩⟩
      · cases h
    · cases h
theorem dpAll_shs {vs : List V} {ds : List D} (h : DpAll Ω.K G vs ds) : TRs Ω G H vs (ds.map .sh) [] := TRs.of_sh h

/-- the items of a sequence, to be put elsewhere; the sequence's own cell p may be given up -/
theorem seqOf_ok {isL isT : Bool} {env env1 : Env} {n : Nat} {v : V} {x : Val} {ts : List Tr} {Fv : List Addr} (st : St Ω G H σ env F) (vr : VR Ω G H σ n v x Fv) (nd : (F ++ Fv).Nodup) (h : seqOf isL isT x env = some (ts, env1)) :
    ∃ a vs G1 F1 Ft, v = .ref a ∧ ((isL = true ∧ SqL Ω.K H a vs) ∨ (isT = true ∧ SqT Ω.K H a vs)) ∧ Step G H (F ++ Fv) G1 H (F1 ++ Ft) ∧ St Ω G1 H σ env1 F1 ∧ TRs Ω G1 H vs ts Ft ∧ (F1 ++ Ft).Nodup ∧ env1.length = env.length ∧ (ownL x env = true → H a = some (.lst vs)) := by
  obtain ⟨n1, n2, dj⟩ := nodup_app.mp nd
  have shL : ∀ {v : V} {ds : List D}, ownL x env = false → isL = true → Dp Ω.K G v (.list ds) → ∃ a vs G1 F1 Ft, v = .ref a ∧ ((isL = true ∧ SqL Ω.K H a vs) ∨ (isT = true ∧ SqT Ω.K H a vs)) ∧ Step G H (F ++ Fv) G1 H (F1 ++ Ft) ∧ St Ω G1 H σ env F1 ∧ TRs Ω G1 H vs (ds.map .sh) Ft ∧ (F1 ++ Ft).Nodup ∧ env.length = env.length ∧ (ownL x env = true → H a = some (.lst vs)) := by
    intro v ds ho hL q
    obtain ⟨a, vs, rfl, q1, q2⟩ := dp_list q
    exact ⟨a, vs, G, F, [], rfl, .inl ⟨hL, sqL_mono st.same q1⟩, Step.refl fun p hp => by simp at hp; exact List.mem_append_left _ hp, st, TRs.of_sh q2, by simpa using st.nd, rfl, fun z => by rw [ho] at z; cases z⟩
  have shT : ∀ {v : V} {ds : List D}, ownL x env = false → isT = true → Dp Ω.K G v (.tuple ds) → ∃ a vs G1 F1 Ft, v = .ref a ∧ ((isL = true ∧ SqL Ω.K H a vs) ∨ (isT = true ∧ SqT Ω.K H a vs)) ∧ Step G H (F ++ Fv) G1 H (F1 ++ Ft) ∧ St Ω G1 H σ env F1 ∧ TRs Ω G1 H vs (ds.map .sh) Ft ∧ (F1 ++ Ft).Nodup ∧ env.length = env.length ∧ (ownL x env = true → H a = some (.lst vs)) := by
    intro v ds ho hT q
    obtain ⟨a, vs, rfl, q1, q2⟩ := dp_tuple q
    exact ⟨a, vs, G, F, [], rfl, .inr ⟨hT, sqT_mono st.same q1⟩, Step.refl fun p hp => by simp at hp; exact List.mem_append_left _ hp, st, TRs.of_sh q2, by simpa using st.nd, rfl, fun z => by rw [ho] at z; cases z⟩
  cases x with
  | tr t =>
    cases t with
    | sh d =>
      cases vr with
      | sh q =>
        cases d with
        | list ds =>
          simp only [seqOf] at h
          split at h
          · cases h; exact shL rfl (by assumption) q
          · cases h
        | tuple ds =>
          simp only [seqOf] at h
          split at h
          · cases h; exact shT rfl (by assumption) q
          · cases h
        | none => simp [seqOf] at h
        | bool _ => simp [seqOf] at h
        | int _ => simp [seqOf] at h
        | str _ => simp [seqOf] at h
        | dict _ => simp [seqOf] at h
    | lst us =>
      simp only [seqOf] at h
      split at h
      · cases h
        cases vr with
        | lst e g r =>
          rename_i hL p vs Ft
          refine ⟨p, vs, G, F, Ft, rfl, .inl ⟨hL, .of e⟩, Step.refl fun q hq => ?_, st, r, ?_, rfl, fun _ => e⟩
          · simp only [List.mem_append, List.mem_cons] at hq ⊢
            exact hq.imp id .inr
          · exact nodup_app.mpr ⟨n1, (List.nodup_cons.mp n2).2, fun q hq h => dj q hq (List.mem_cons_of_mem _ h)⟩
      · cases h
    | tup us =>
      simp only [seqOf] at h
      split at h
      · cases h
        cases vr with
        | tup e g r =>
          rename_i hT p vs Ft
          refine ⟨p, vs, G, F, Ft, rfl, .inr ⟨hT, .of e⟩, Step.refl fun q hq => ?_, st, r, ?_, rfl, fun z => by simp [ownL, getV] at z⟩
          · simp only [List.mem_append, List.mem_cons] at hq ⊢
            exact hq.imp id .inr
          · exact nodup_app.mpr ⟨n1, (List.nodup_cons.mp n2).2, fun q hq h => dj q hq (List.mem_cons_of_mem _ h)⟩
      · cases h
    | fn j => simp [seqOf] at h
    | exc c d => simp [seqOf] at h
  | brw i =>
    obtain ⟨z, _, rfl⟩ := vr
    simp only [seqOf] at h
    split at h
    · rename_i ds e
      obtain ⟨w, F1, F2, a, b, _⟩ := st.out e
      rw [a] at z; cases z
      cases b with
      | sh q =>
        split at h
        · cases h; exact shL (by simp [ownL, getV, e]) (by assumption) q
        · cases h
    · rename_i ds e
      obtain ⟨w, F1, F2, a, b, _⟩ := st.out e
      rw [a] at z; cases z
      cases b with
      | sh q =>
        split at h
        · cases h; exact shT (by simp [ownL, getV, e]) (by assumption) q
        · cases h
    · rename_i us e
      split at h
      · rename_i hL
        split at h
        · rename_i us' e'
          cases h
          obtain ⟨w, F1, F2, a, b, c, d, ndd⟩ := st.out e
          rw [a] at z; cases z
          cases b with
          | lst eH gN r =>
            rename_i p vs Ft
            obtain ⟨k1, k2, kj⟩ := nodup_app.mp ndd
            have hp : p ∉ Ft := (List.nodup_cons.mp k1).1
            have r' := frzs_ok st.same r e'
            have gs : Same G (join G H Ft) := join_same fun q hq => (r.there q hq).2
            have c' : SlR Ω (join G H Ft) H σ (env.set i none) F2 := c.to gs (fun _ _ _ e => e) fun q hq => by
              rw [join_out fun h => kj.symm q hq (List.mem_cons_of_mem _ h)]; exact (c.there q hq).2
            have rl : TR Ω (join G H Ft) H (.ref p) (.lst ts) (p :: []) := .lst eH (by rw [join_out hp]; exact gN) r'
            obtain ⟨F3, q1, q2⟩ := c'.back (slot_lt e) rl a
            have m : ∀ q, q ∈ F3 ↔ q = p ∨ q ∈ F2 := fun q => by rw [q2.mem_iff]; simp
            refine ⟨p, vs, join G H Ft, F3, [], rfl, .inl ⟨hL, .of eH⟩, Step.join (fun q hq => ?_) (fun q hq => (r.there q hq).2) fun q hq => ?_, ⟨join_sub st.same, q1, q2.nodup_iff.mpr ?_⟩, r', ?_, by simp, fun _ => eH⟩
            · rw [List.append_nil]; exact d.mem_iff.mpr (List.mem_append_left _ (List.mem_cons_of_mem _ hq))
            · rw [List.append_nil] at hq ⊢
              rcases (m q).mp hq with rfl | hq
              · exact d.mem_iff.mpr (List.mem_append_left _ (List.mem_cons_self ..))
              · exact d.mem_iff.mpr (List.mem_append_right _ hq)
            · exact nodup_app.mpr ⟨by simp, k2, fun q hq => by
                rw [List.mem_singleton] at hq; subst hq; exact kj _ (List.mem_cons_self ..)⟩
            · rw [List.append_nil]
              exact q2.nodup_iff.mpr (nodup_app.mpr ⟨by simp, k2, fun q hq => by
                rw [List.mem_singleton] at hq; subst hq; exact kj _ (List.mem_cons_self ..)⟩)
        · cases h
      · cases h
    · rename_i us e
      split at h
      · rename_i hT
        split at h
        · rename_i us' e'
          cases h
          obtain ⟨w, F1, F2, a, b, c, d, ndd⟩ := st.out e
          rw [a] at z; cases z
          cases b with
          | tup eH gN r =>
            rename_i p vs Ft
            obtain ⟨k1, k2, kj⟩ := nodup_app.mp ndd
            have hp : p ∉ Ft := (List.nodup_cons.mp k1).1
            have r' := frzs_ok st.same r e'
            have gs : Same G (join G H Ft) := join_same fun q hq => (r.there q hq).2
            have c' : SlR Ω (join G H Ft) H σ (env.set i none) F2 := c.to gs (fun _ _ _ e => e) fun q hq => by
              rw [join_out fun h => kj.symm q hq (List.mem_cons_of_mem _ h)]; exact (c.there q hq).2
            have rl : TR Ω (join G H Ft) H (.ref p) (.tup ts) (p :: []) := .tup eH (by rw [join_out hp]; exact gN) r'
            obtain ⟨F3, q1, q2⟩ := c'.back (slot_lt e) rl a
            have m : ∀ q, q ∈ F3 ↔ q = p ∨ q ∈ F2 := fun q => by rw [q2.mem_iff]; simp
            refine ⟨p, vs, join G H Ft, F3, [], rfl, .inr ⟨hT, .of eH⟩, Step.join (fun q hq => ?_) (fun q hq => (r.there q hq).2) fun q hq => ?_, ⟨join_sub st.same, q1, q2.nodup_iff.mpr ?_⟩, r', ?_, by simp, fun z => by simp [ownL, getV, e] at z⟩
            · rw [List.append_nil]; exact d.mem_iff.mpr (List.mem_append_left _ (List.mem_cons_of_mem _ hq))
            · rw [List.append_nil] at hq ⊢
              rcases (m q).mp hq with rfl | hq
              · exact d.mem_iff.mpr (List.mem_append_left _ (List.mem_cons_self ..))
              · exact d.mem_iff.mpr (List.mem_append_right _ hq)
            · exact nodup_app.mpr ⟨by simp, k2, fun q hq => by
                rw [List.mem_singleton] at hq; subst hq; exact kj _ (List.mem_cons_self ..)⟩
            · rw [List.append_nil]
              exact q2.nodup_iff.mpr (nodup_app.mpr ⟨by simp, k2, fun q hq => by
                rw [List.mem_singleton] at hq; subst hq; exact kj _ (List.mem_cons_self ..)⟩)
        · cases h
      · cases h
    · cases h
end
end FF

set_option Elab.async false
set_option linter.all false
set_option autoImplicit false
set_option maxRecDepth 100000
/-! FG: the operators by values. -/
namespace FF
open PySem PySem.Spec PyProof.Rows L2

def bopOf : Bop → Operator
  | .add => .Add | .sub => .Sub | .mul => .Mult | .fdiv => .FloorDiv | .mod => .Mod | .pow => .Pow
def copOf : Cop → CmpOp
  | .lt => .Lt | .le => .LtE | .gt => .Gt | .ge => .GtE | .eq => .Eq | .ne => .NotEq | .isin => .In | .notin => .NotIn | .is_ => .Is | .isnot_ => .IsNot

section
variable {X : Cx}
theorem OpR.imp {f : Value → Value → Sem Value} {r r' : R2} (h : OpR X f r) (i : ∀ x y H Q, r' x y H Q → r x y H Q) : OpR X f r' :=
  fun pins s σ H x y v u Q I rx ry q => h pins s σ H x y v u Q I rx ry (i _ _ _ _ q)
def rArith (op : Bop) : R2 := fun x y H Q => ∃ i j k, x = .int i ∧ y = .int j ∧ arith op i j = some k ∧ Q (.int k) H
theorem op_arith (op : Bop) : OpR X (binaryOp (bopOf op)) (rArith op) := by
  cases op with
  | add => exact OpR.imp op_add fun x y H Q ⟨i, j, k, a, b, c, q⟩ => ⟨i, j, a, b, by cases c; exact q⟩
  | sub => exact OpR.imp op_sub fun x y H Q ⟨i, j, k, a, b, c, q⟩ => ⟨i, j, a, b, by cases c; exact q⟩
  | mul =>
    refine OpR.imp op_mulW fun x y H Q ⟨i, j, k, a, b, c, q⟩ => ⟨i, j, a, b, ?_⟩
    simp only [arith] at c
    split at c
    · cases c; exact ⟨by assumption, q⟩
    · cases c
  | fdiv =>
    refine OpR.imp op_fdivW fun x y H Q ⟨i, j, k, a, b, c, q⟩ => ⟨i, j, a, b, ?_⟩
    simp only [arith] at c
    split at c
    · cases c; exact ⟨by assumption, q⟩
    · cases c
  | mod =>
    refine OpR.imp op_mod fun x y H Q ⟨i, j, k, a, b, c, q⟩ => ⟨i, j, a, b, ?_⟩
    simp only [arith] at c
    split at c
    · cases c; exact ⟨by assumption, q⟩
    · cases c
  | pow =>
    intro pins s σ H x y v u Q I rx ry ⟨i, j, k, a, b, c, q⟩
    subst a; subst b
    obtain ⟨t, rfl⟩ := rx
    obtain ⟨t', rfl⟩ := ry
    simp only [arith] at c
    split at c
    · rename_i hc
      cases c
      exact pow_int hc.1 hc.2 ⟨.int _, H, I.tok _, ⟨_, rfl⟩, q⟩
    · cases c

def rCatS (K : PySem.W.Frag) : R2 := fun x y H Q => ∃ a b xs ys, x = .ref a ∧ y = .ref b ∧ SqL K H a xs ∧ SqL K H b ys ∧ xs.length + ys.length ≤ sizeLine ∧ ∀ p, H p = none → Q (.ref p) (upd H p (.lst (xs ++ ys)))
theorem op_catS : OpR X (binaryOp .Add) (rCatS X.K) := by
  intro pins s σ H x y v u Q I rx ry h
  obtain ⟨a, b, xs, ys, rfl, rfl, ha, hb, hz, q⟩ := h
  cases rx; cases ry
  obtain ⟨its, r1, p1, _⟩ := I.list ha
  obtain ⟨its2, r2, p2, _⟩ := I.list hb
  obtain ⟨⟨cls, dd, data, sl⟩, n, ho, hc, hd, hs⟩ := p1
  obtain ⟨⟨cls2, dd2, data2, sl2⟩, n2, ho2, hc2, hd2, hs2⟩ := p2
  simp only at hc hd hs hc2 hd2 hs2
  subst hc hd hs hc2 hd2 hs2
  have l1 := r1.length
  have l2 := r2.length
  refine concat_meets ⟨_, ho, rfl⟩ ⟨_, ho2, rfl⟩ noFill_list_add seq_list_add PySem.F.slot_list_add PySem.F.entry_list_add (PySem.F.args_list_add_2 _ _) (list_addW a b its.toArray its2.toArray n n2 none none sl sl2 (by simp; omega)) ⟨ho, ho2, ?_⟩
  have e : its.toArray ++ its2.toArray = (its ++ its2).toArray := by simp
  rw [e]
  exact ⟨.ref _, _, I.lnew (t' := s.toks) (r1.append r2) (by rw [List.length_append]; exact hz), rfl, q _ I.fresh⟩

/-! ### comparisons -/
theorem op_cmpI (op : Cop) (k : Int → Int → Bool) (hk : ∀ i j, cmpI op i j = some (k i j)) : OpR X (compareOp (copOf op)) (rI0 fun i j => .bl (k i j)) := by
  cases op with
  | lt => exact OpR.imp op_lt fun x y H Q ⟨i, j, a, b, q⟩ => ⟨i, j, a, b, by have := hk i j; simp only [cmpI, Option.some.injEq] at this; simp only [this]; exact q⟩
  | le => exact OpR.imp op_le fun x y H Q ⟨i, j, a, b, q⟩ => ⟨i, j, a, b, by have := hk i j; simp only [cmpI, Option.some.injEq] at this; simp only [this]; exact q⟩
  | gt => exact OpR.imp op_gt fun x y H Q ⟨i, j, a, b, q⟩ => ⟨i, j, a, b, by have := hk i j; simp only [cmpI, Option.some.injEq] at this; simp only [this]; exact q⟩
  | ge => exact OpR.imp op_ge fun x y H Q ⟨i, j, a, b, q⟩ => ⟨i, j, a, b, by have := hk i j; simp only [cmpI, Option.some.injEq] at this; simp only [this]; exact q⟩
  | eq => exact OpR.imp op_eq fun x y H Q ⟨i, j, a, b, q⟩ => ⟨by subst a; subst b; rfl, by
      have := hk i j; simp only [cmpI, Option.some.injEq] at this; subst a; subst b; rw [show decide (V.int i = V.int j) = k i j by rw [← this]; simp]; exact q⟩
  | ne => exact OpR.imp op_ne fun x y H Q ⟨i, j, a, b, q⟩ => ⟨by subst a; subst b; rfl, by
      have := hk i j; simp only [cmpI, Option.some.injEq] at this; subst a; subst b; rw [show (!decide (V.int i = V.int j)) = k i j by rw [← this]; simp]; exact q⟩
  | isin => have := hk 0 0; simp [cmpI] at this
  | notin => have := hk 0 0; simp [cmpI] at this
  | is_ => have := hk 0 0; simp [cmpI] at this
  | isnot_ => have := hk 0 0; simp [cmpI] at this
def rLtLI (K : PySem.W.Frag) : R2 := fun x y H Q => ∃ a b ns ms, x = .ref a ∧ y = .ref b ∧ SqL K H a (ns.map V.int) ∧ SqL K H b (ms.map V.int) ∧ Q (.bl (HT.lexLt ns ms)) H
theorem firstLt_lex : ∀ (ns ms : List Int) (k : Nat) (as bs : List Int), as.length = k → bs.length = k →
    SeqAt.firstLt (fun j => (as ++ ns).getD j 0 == (bs ++ ms).getD j 0) (fun j => decide ((as ++ ns).getD j 0 < (bs ++ ms).getD j 0)) (decide ((as ++ ns).length < (bs ++ ms).length)) ((List.range (min ns.length ms.length)).map (· + k)) = HT.lexLt ns ms
  | [], [], k, as, bs, h1, h2 => by
    simp [SeqAt.firstLt, HT.lexLt, h1, h2]
  | [], m :: ms, k, as, bs, h1, h2 => by
    simp [SeqAt.firstLt, HT.lexLt, h1, h2]
  | n :: ns, [], k, as, bs, h1, h2 => by
    simp [SeqAt.firstLt, HT.lexLt, h1, h2]
  | n :: ns, m :: ms, k, as, bs, h1, h2 => by
    have e1 : (as ++ n :: ns).getD k 0 = n := by simp [List.getD, List.getElem?_append_right, h1]
    have e2 : (bs ++ m :: ms).getD k 0 = m := by simp [List.getD, List.getElem?_append_right, h2]
    have ih := firstLt_lex ns ms (k + 1) (as ++ [n]) (bs ++ [m]) (by simp [h1]) (by simp [h2])
    rw [List.append_assoc, List.append_assoc, List.singleton_append, List.singleton_append] at ih
    rw [show min (n :: ns).length (m :: ms).length = min ns.length ms.length + 1 by simp [Nat.succ_min_succ], List.range_succ_eq_map, List.map_cons, List.map_map]
    have em : (List.range (min ns.length ms.length)).map ((· + k) ∘ Nat.succ) = (List.range (min ns.length ms.length)).map (· + (k + 1)) := by
      apply List.map_congr_left
      intro a _
      show Nat.succ a + k = a + (k + 1)
      omega
    rw [em]
    unfold SeqAt.firstLt
    rw [Nat.zero_add, e1, e2, ih, HT.lexLt_cons]
    by_cases e : n = m
    · simp [e]
    · simp [e]
theorem op_ltLI (hu : X.A.units < cLine) : OpR X (compareOp .Lt) (rLtLI X.K) := by
  intro pins s σ H x y v u Q I rx ry h
  obtain ⟨a, b, ns, ms, rfl, rfl, ha, hb, q⟩ := h
  cases rx; cases ry
  obtain ⟨its, r1, p1, _⟩ := I.list ha
  obtain ⟨its2, r2, p2, _⟩ := I.list hb
  have i1 : IntsAre its ns := Vals.ints r1
  have i2 : IntsAre its2 ms := Vals.ints r2
  have l1 : its.length = ns.length := i1.length
  have l2 : its2.length = ms.length := i2.length
  have at1 : ∀ j (h1 : j < its.toArray.size), ∃ t, its.toArray[j] = .int (ns.getD j 0) t := fun j h1 => PyProof.Rows.IntsAre.int_at i1 _ _ (by simp at h1; simp [h1])
  have at2 : ∀ j (h1 : j < its2.toArray.size), ∃ t, its2.toArray[j] = .int (ms.getD j 0) t := fun j h1 => PyProof.Rows.IntsAre.int_at i2 _ _ (by simp at h1; simp [h1])
  have R := SeqAt.RcLt.lists (A := X.A) (s := s) (e := fun j => ns.getD j 0 == ms.getD j 0) (r := fun j => decide (ns.getD j 0 < ms.getD j 0)) p1.isList p2.isList hu
    (fun j h1 h2 => by
      obtain ⟨t, et⟩ := at1 j h1
      obtain ⟨t', et'⟩ := at2 j h2
      rw [et, et']
      exact SeqAt.EqAt.int_int _ _ _ _)
    (fun j h1 h2 _ => by
      obtain ⟨t, et⟩ := at1 j h1
      obtain ⟨t', et'⟩ := at2 j h2
      rw [et, et']
      exact HT.rcLt_int _ _ _ _ _ _)
  have e := firstLt_lex ns ms 0 [] [] rfl rfl
  simp only [List.nil_append] at e
  rw [show ((List.range (min ns.length ms.length)).map (· + 0)) = List.range (min ns.length ms.length) by simp] at e
  rw [List.size_toArray, List.size_toArray, l1, l2, e] at R
  exact R X.prog X.w X.xe (EP X pins σ Q) ⟨.bl _, H, I, rfl, q⟩

def rCmpD (K : PySem.W.Frag) (op : Cop) : R2 := fun x y H Q => ∃ d e k, Dp K H x d ∧ Dp K H y e ∧ cmpD op d e = some k ∧ Q (.bl k) H
theorem cmpD_ii {op : Cop} {i j : Int} : cmpD op (.int i) (.int j) = cmpI op i j := by cases op <;> rfl
theorem cmpD_eq {x y : D} (h : ∀ i j, ¬ (x = .int i ∧ y = .int j)) : cmpD .eq x y = if SeqAt.shaped x = true ∧ SeqAt.shaped y = true then some (PyData.eqv x y) else none := by
  cases x <;> cases y <;> first | rfl | exact absurd ⟨rfl, rfl⟩ (h _ _)
theorem cmpD_ne {x y : D} (h : ∀ i j, ¬ (x = .int i ∧ y = .int j)) : cmpD .ne x y = if SeqAt.shaped x = true ∧ SeqAt.shaped y = true then some (!PyData.eqv x y) else none := by
  cases x <;> cases y <;> first | rfl | exact absurd ⟨rfl, rfl⟩ (h _ _)
theorem op_cmpD (op : Cop) (hu : X.A.units + 65 < cLine) : OpR X (compareOp (copOf op)) (rCmpD X.K op) := by
  intro pins s σ H x y v u Q I rx ry ⟨d, e, k, hd, he, hc, q⟩
  by_cases hi : ∃ i j, d = .int i ∧ e = .int j
  · obtain ⟨i, j, rfl, rfl⟩ := hi
    cases dp_int hd; cases dp_int he
    rw [cmpD_ii] at hc
    obtain ⟨f, hf⟩ : ∃ f : Int → Int → Bool, ∀ i j, cmpI op i j = some (f i j) := by
      cases op <;> first | exact ⟨_, fun _ _ => rfl⟩ | (simp [cmpI] at hc)
    refine op_cmpI op f hf pins s σ H _ _ v u Q I rx ry ⟨i, j, rfl, rfl, ?_⟩
    rw [hf] at hc
    cases hc
    exact q
  · have hi' : ∀ i j, ¬ (d = .int i ∧ e = .int j) := fun i j z => hi ⟨i, j, z⟩
    cases op with
    | eq =>
      rw [cmpD_eq hi'] at hc
      split at hc
      · rename_i hs
        cases hc
        exact op_eqD (by omega) pins s σ H _ _ v u Q I rx ry ⟨d, e, hd.shp hs.1, he.shp hs.2, hs.1, hs.2, q⟩
      · cases hc
    | ne =>
      rw [cmpD_ne hi'] at hc
      split at hc
      · rename_i hs
        cases hc
        exact op_neD (by omega) pins s σ H _ _ v u Q I rx ry ⟨d, e, hd.shp hs.1, he.shp hs.2, hs.1, hs.2, q⟩
      · cases hc
    | lt =>
      cases d with
      | list xs =>
        cases e with
        | list ys =>
          have hc : ltD (.list xs) (.list ys) = some k := hc
          simp only [ltD] at hc
          split at hc
          · rename_i is js e1 e2
            cases hc
            obtain ⟨a, vs, rfl, s1, m1⟩ := dp_list hd
            obtain ⟨b, ws, rfl, s2, m2⟩ := dp_list he
            cases ints_of m1 e1
            cases ints_of m2 e2
            exact op_ltLI (by omega) pins s σ H _ _ v u Q I rx ry ⟨a, b, is, js, rfl, rfl, s1, s2, q⟩
          · cases hc
        | _ => simp [cmpD, ltD] at hc
      | int i =>
        cases e with
        | int j => exact absurd ⟨rfl, rfl⟩ (hi' i j)
        | _ => simp [cmpD, ltD] at hc
      | _ => cases e <;> simp [cmpD, ltD] at hc
    | isin =>
      have hc' : ∃ ds, e = .list ds ∧ SeqAt.shaped d = true ∧ SeqAt.shaped (.list ds) = true ∧ k = ds.any fun z => PyData.eqv z d := by
        cases e with
        | list ds => cases d <;> (simp only [cmpD] at hc; split at hc <;> first | (cases hc; done) | (rename_i hs; cases hc; exact ⟨ds, rfl, hs.1, hs.2, rfl⟩))
        | _ => cases d <;> simp [cmpD, cmpI] at hc
      obtain ⟨ds, rfl, s1, s2, rfl⟩ := hc'
      exact op_inD hu pins s σ H _ _ v u Q I rx ry ⟨d, ds, hd.shp s1, he.shp s2, s1, s2, q⟩
    | notin =>
      have hc' : ∃ ds, e = .list ds ∧ SeqAt.shaped d = true ∧ SeqAt.shaped (.list ds) = true ∧ k = !ds.any fun z => PyData.eqv z d := by
        cases e with
        | list ds => cases d <;> (simp only [cmpD] at hc; split at hc <;> first | (cases hc; done) | (rename_i hs; cases hc; exact ⟨ds, rfl, hs.1, hs.2, rfl⟩))
        | _ => cases d <;> simp [cmpD, cmpI] at hc
      obtain ⟨ds, rfl, s1, s2, rfl⟩ := hc'
      exact op_notInD hu pins s σ H _ _ v u Q I rx ry ⟨d, ds, hd.shp s1, he.shp s2, s1, s2, q⟩
    | le => cases d <;> cases e <;> simp [cmpD, cmpI] at hc <;> exact absurd ⟨rfl, rfl⟩ (hi' _ _)
    | gt => cases d <;> cases e <;> simp [cmpD, cmpI] at hc <;> exact absurd ⟨rfl, rfl⟩ (hi' _ _)
    | ge => cases d <;> cases e <;> simp [cmpD, cmpI] at hc <;> exact absurd ⟨rfl, rfl⟩ (hi' _ _)
    | is_ => cases d <;> cases e <;> simp [cmpD, cmpI] at hc
    | isnot_ => cases d <;> cases e <;> simp [cmpD, cmpI] at hc
end
end FF

set_option Elab.async false
set_option linter.all false
set_option autoImplicit false
set_option maxRecDepth 100000
/-! FH: the check that a piece of the text is what an IR term says; contexts; targets. -/
namespace FF
open PySem PySem.Spec PyProof.Rows L2

def locK (sc : Scope) (x : Str) : Bool := match sc.names.lookup x with
  | some .local => true | some .cell => true | _ => false
def visK (sc : Scope) (x : Str) : Bool := match sc.names.lookup x with
  | some .local => true | some .cell => true | some .free => true | _ => false
def lclK (sc : Scope) (x : Str) : Bool := match sc.names.lookup x with
  | some .local => true | _ => false
def glbK (sc : Scope) (x : Str) : Bool := match sc.names.lookup x with
  | some .globalImplicit => true | _ => false
def plainN (x : Str) : Bool := !(x == ("__debug__" : Str)) && !(x == ("__classdict__" : Str)) && !(x == ("__name__" : Str))
def rdOk (sc : Scope) (N : List Str) (i : Nat) (x : Str) : Bool := decide (N[i]? = some x) && visK sc x && plainN x
/-- stored into: os is the block's scope as it is written -/
def wrOk (sc os : Scope) (N : List Str) (i : Nat) (x : Str) : Bool := decide (N[i]? = some x) && (lclK sc x || (locK sc x && locK os x && !lclK os x))
def glOk (sc : Scope) (x : Str) : Bool := glbK sc x && plainN x
def biNm : Bi → Str
  | .len => "len" | .abs => "abs" | .max => "max" | .min => "min" | .int => "int" | .str => "str" | .sum => "sum" | .all => "all" | .any => "any" | .list => "list" | .tuple => "tuple" | .sorted => "sorted" | .repr => "repr"
def biTy : Bi → Bool
  | .int | .str | .list | .tuple => true
  | _ => false
def biVl (b : Bi) : Value := match b with
  | .len => .builtin "len" | .abs => .builtin "abs" | .max => .builtin "max" | .min => .builtin "min" | .int => .type "int" | .str => .type "str" | .sum => .builtin "sum" | .all => .builtin "all" | .any => .builtin "any"
  | .list => .type "list" | .tuple => .type "tuple" | .sorted => .builtin "sorted" | .repr => .builtin "repr"
def bltNames : List Str := ["len", "abs", "max", "min", "int", "str", "sum", "all", "any", "list", "tuple", "sorted", "repr", "isinstance", "bool", "range", "enumerate", "zip", "ValueError"]

def isNoneE : Expr → Bool
  | .Constant .none _ _ => true
  | _ => false
def isSetE : Expr → Bool
  | .Set .. => true
  | _ => false
def isTupE : Expr → Bool
  | .Tuple .. => true
  | _ => false
def srcTup : Src → Bool
  | .enum _ => true
  | .zip _ _ => true
  | _ => false
def isSliceE : Expr → Bool
  | .Slice .. => true
  | _ => false
def bopB : Bop → Operator → Bool
  | .add, .Add | .sub, .Sub | .mul, .Mult | .fdiv, .FloorDiv | .mod, .Mod | .pow, .Pow => true
  | _, _ => false
def copB : Cop → CmpOp → Bool
  | .lt, .Lt | .le, .LtE | .gt, .Gt | .ge, .GtE | .eq, .Eq | .ne, .NotEq | .isin, .In | .notin, .NotIn | .is_, .Is | .isnot_, .IsNot => true
  | _, _ => false
theorem bopB_eq {op : Bop} {o : Operator} (h : bopB op o = true) : o = bopOf op := by
  cases op <;> cases o <;> first | rfl | cases h
theorem copB_eq {op : Cop} {o : CmpOp} (h : copB op o = true) : o = copOf op := by
  cases op <;> cases o <;> first | rfl | cases h

section
variable (Θ : Tab)
mutual
def chkTg (sc os : Scope) (N : List Str) : Tg → Expr → Bool
  | .name i, e => (match e with
    | .Name x _ => wrOk sc os N i x
    | _ => false)
  | .tnil, e => (match e with
    | .Tuple es _ _ => chkTgs sc os N .tnil es
    | _ => false)
  | .tcons h t, e => (match e with
    | .Tuple es _ _ => (match es with
      | [] => false
      | e1 :: es1 => plainE e1 && chkTg sc os N h e1 && chkTgs sc os N t es1)
    | _ => false)
def chkTgs (sc os : Scope) (N : List Str) : Tg → List Expr → Bool
  | .name _, _ => false
  | .tnil, es => (match es with | [] => true | _ => false)
  | .tcons h t, es => (match es with
    | [] => false
    | e1 :: es1 => plainE e1 && chkTg sc os N h e1 && chkTgs sc os N t es1)
end
def tgSl : Tg → List Nat
  | .name i => [i]
  | .tnil => []
  | .tcons h t => tgSl h ++ tgSl t
def tyNm (Θ : Tab) : Ty → Str
  | .int => "int" | .bool => "bool" | .str => "str" | .list => "list" | .tuple => "tuple" | .vErr => "ValueError"
  | .cls c => Θ.cls.getD c ""
def tyOk (Θ : Tab) : Ty → Bool
  | .cls c => decide (c < Θ.cls.length)
  | _ => true
def chkTy (Θ : Tab) (sc : Scope) (ty : Ty) (e : Expr) : Bool := match e with
  | .Name x _ => decide (x = tyNm Θ ty) && glOk sc x && tyOk Θ ty
  | _ => false
def chkTys (Θ : Tab) (sc : Scope) : List Ty → List Expr → Bool
  | [], [] => true
  | t :: ts, e :: es => plainE e && chkTy Θ sc t e && chkTys Θ sc ts es
  | _, _ => false
mutual
def chkE (sc os : Scope) (N : List Str) : E → Expr → Bool
  | .var i, e => (match e with | .Name x _ => rdOk sc N i x | _ => false)
  | .mv i, e => (match e with | .Name x _ => rdOk sc N i x | _ => false)
  | .int i, e => (match e with | .Constant (.int j) _ _ => decide (i = j) | _ => false)
  | .bl b, e => (match e with | .Constant (.bool c) _ _ => decide (b = c) | _ => false)
  | .non, e => (match e with | .Constant .none _ _ => true | _ => false)
  | .str s, e => (match e with | .Constant (.str x) _ _ => decide (s = x) | _ => false)
  | .glob k, e => (match e with
    | .Name x _ => glOk sc x && (match Θ.con[k]? with | some c => decide (c.1 = x) | none => false)
    | _ => false)
  | .fnv j, e => (match e with
    | .Name x _ => glOk sc x && (match Θ.fns[j]? with | some F => decide (F.name = x) | none => false)
    | _ => false)
  | .bin op a b, e => (match e with | .BinOp l o r _ => bopB op o && chkE sc os N a l && chkE sc os N b r | _ => false)
  | .neg a, e => (match e with | .UnaryOp .USub x _ => chkE sc os N a x | _ => false)
  | .cmp op a b, e => (match e with | .Compare l [o] [r] _ => copB op o && chkE sc os N a l && chkE sc os N b r && !isSetE r | _ => false)
  | .chain o1 o2 a b c, e => (match e with | .Compare l [p1, p2] [r1, r2] _ => copB o1 p1 && copB o2 p2 && chkE sc os N a l && chkE sc os N b r1 && chkE sc os N c r2 && !isSetE r1 && !isSetE r2 | _ => false)
  | .and es, e => (match e with | .BoolOp .And vs _ => chkBs sc os N es vs | _ => false)
  | .or es, e => (match e with | .BoolOp .Or vs _ => chkBs sc os N es vs | _ => false)
  | .not a, e => (match e with | .UnaryOp .Not x _ => chkE sc os N a x | _ => false)
  | .ite c a b, e => (match e with | .IfExp t x y _ => chkE sc os N c t && chkE sc os N a x && chkE sc os N b y | _ => false)
  | .tup es, e => (match e with | .Tuple vs _ _ => chkEs sc os N es vs | _ => false)
  | .lst es, e => (match e with | .List vs _ => chkEs sc os N es vs | _ => false)
  | .idx a b, e => (match e with | .Subscript x y _ => chkE sc os N a x && chkE sc os N b y && !isSliceE y | _ => false)
  | .slc a lo hi, e => (match e with
    | .Subscript x (.Slice l h none _) _ => chkE sc os N a x && chkO sc os N lo l && chkO sc os N hi h
    | _ => false)
  | .call j es, e => (match e with
    | .Call (.Name x _) vs [] _ => glOk sc x && (match Θ.fns[j]? with | some F => decide (F.name = x) | none => false) && chkEs sc os N es vs
    | _ => false)
  | .callk j es kws perm, e => (match e with
    | .Call (.Name x _) vs ks _ => glOk sc x && (match Θ.fns[j]? with | some F => decide (F.name = x) && !F.ps.isEmpty | none => false) && chkEs sc os N es vs && chkKs sc os N kws ks &&
        decide ((j, vs.length, ks.filterMap (·.arg), perm) ∈ Θ.kws)
    | _ => false)
  | .bi b es, e => (match e with
    | .Call (.Name x _) vs [] _ => glOk sc x && decide (x = biNm b) && chkEs sc os N es vs && !vs.isEmpty
    | _ => false)
  | .isi a ts, e => (match e with
    | .Call (.Name x _) [v, t] [] _ => glOk sc x && decide (x = ("isinstance" : Str)) && chkE sc os N a v && plainE v && (match t with
      | .Tuple us _ _ => chkTys Θ sc ts us && decide (us.length ≤ 1000) && !ts.isEmpty
      | t => (match ts with | [ty] => chkTy Θ sc ty t | _ => false))
    | _ => false)
  | .bits a, e => (match e with
    | .Call (.Attribute o m apos) [] [] pos => decide (m = ("bit_length" : Str)) && chkE sc os N a o && (match o with | .Name .. => true | _ => false) && (apos.endLine == pos.line)
    | _ => false)
  | .lrng es, e => (match e with
    | .Call (.Name x _) [.Call (.Name y _) vs [] _] [] _ => glOk sc x && decide (x = ("list" : Str)) && glOk sc y && decide (y = ("range" : Str)) && chkEs sc os N es vs && !vs.isEmpty
    | _ => false)
  | .fld a, e => (match e with
    | .Attribute o m _ => decide (m = ("value" : Str)) && chkE sc os N a o && (match o with | .Name .. => true | _ => false)
    | _ => false)
  | .comp elt tg src test own, e => (match e with
    | .ListComp x [⟨t, it, ifs, 0⟩] scope _ => blkC N sc scope own && chkSrc sc os N src it && !isSetE it && (!srcTup src || isTupE t) &&
        chkTg (relS scope sc) scope N tg t && (tgSl tg).all (fun i => (own.map (·.2)).contains i) && chkTest (relS scope sc) scope N test ifs && chkE (relS scope sc) scope N elt x
    | _ => false)
  | .comp2 elt tg src test tg1 src1 test1 own vs1, e => (match e with
    | .ListComp x [⟨t, it, ifs, 0⟩, ⟨t1, it1, ifs1, 0⟩] scope _ => blkC N sc scope own && chkSrc sc os N src it && !isSetE it && (!srcTup src || isTupE t) &&
        chkTg (relS scope sc) scope N tg t && (tgSl tg).all (fun i => (own.map (·.2)).contains i) && chkTest (relS scope sc) scope N test ifs &&
        chkSrc (relS scope sc) scope N src1 it1 && !isSetE it1 && (!srcTup src1 || isTupE t1) && chkTg (relS scope sc) scope N tg1 t1 && (tgSl tg1).all (fun i => vs1.contains i) && vs1.all (fun i => (own.map (·.2)).contains i) && chkTest (relS scope sc) scope N test1 ifs1 && chkE (relS scope sc) scope N elt x
    | _ => false)
  | .dct, e => (match e with | .Dict [] [] _ => true | _ => false)
  | .oops, _ => true
  | .dc1 s i, e => (match e with | .Dict [some (.Constant (.str x) _ _)] [.Constant (.int j) _ _] _ => decide (s = x) && decide (i = j) | _ => false)
  | .exn c es, e => (match e with
    | .Call (.Name x _) vs [] _ => glOk sc x && decide (Θ.cls[c]? = some x) && chkEs sc os N es vs && decide (vs.length ≤ 1)
    | _ => false)
  | .exk c a, e => (match e with
    | .Call (.Name x _) [] [k] _ => glOk sc x && decide (Θ.cls[c]? = some x) && decide (k.arg = some ("value" : Str)) && chkE sc os N a k.value
    | _ => false)
def chkEs (sc os : Scope) (N : List Str) : Es → List Expr → Bool
  | .nil, vs => (match vs with | [] => true | _ => false)
  | .cons e es, vs => (match vs with | v :: vs => plainE v && chkE sc os N e v && chkEs sc os N es vs | _ => false)
def chkKs (sc os : Scope) (N : List Str) : Es → List Keyword → Bool
  | .nil, ks => (match ks with | [] => true | _ => false)
  | .cons e es, ks => (match ks with
    | k :: ks => k.arg.isSome && chkE sc os N e k.value && chkKs sc os N es ks
    | _ => false)
def chkBs (sc os : Scope) (N : List Str) : Es → List Expr → Bool
  | .nil, _ => false
  | .cons e es, vs => (match vs with
    | v :: vs => chkE sc os N e v && (match es, vs with
      | .nil, [] => true
      | .nil, _ => false
      | .cons e2 es2, vs => chkBs sc os N (.cons e2 es2) vs)
    | _ => false)
def chkO (sc os : Scope) (N : List Str) : Es → Option Expr → Bool
  | .nil, o => (match o with | none => true | _ => false)
  | .cons e es, o => (match o, es with | some v, .nil => chkE sc os N e v | _, _ => false)
def chkTest (sc os : Scope) (N : List Str) : Es → List Expr → Bool
  | .nil, vs => (match vs with | [] => true | _ => false)
  | .cons e es, vs => (match vs, es with | [v], .nil => chkE sc os N e v | _, _ => false)
def chkSrc (sc os : Scope) (N : List Str) : Src → Expr → Bool
  | .seq a, e => chkE sc os N a e
  | .rng es, e => (match e with
    | .Call (.Name x _) vs [] _ => glOk sc x && decide (x = ("range" : Str)) && chkEs sc os N es vs && !vs.isEmpty
    | _ => false)
  | .enum a, e => (match e with
    | .Call (.Name x _) [v] [] _ => glOk sc x && decide (x = ("enumerate" : Str)) && chkE sc os N a v && plainE v
    | _ => false)
  | .zip a b, e => (match e with
    | .Call (.Name x _) [v, w] [] _ => glOk sc x && decide (x = ("zip" : Str)) && chkE sc os N a v && chkE sc os N b w && plainE v && plainE w
    | .Call (.Name x _) [v, w] [⟨some sn, .Constant (.bool true) _ _, _⟩] _ => glOk sc x && decide (x = ("zip" : Str)) && chkE sc os N a v && chkE sc os N b w && plainE v && plainE w && decide (sn = ("strict" : Str))
    | _ => false)
end
end
end FF

set_option Elab.async false
set_option linter.all false
set_option autoImplicit false
set_option maxRecDepth 100000
/-! FI: what is known of a context; targets. -/
namespace FF
open PySem PySem.Spec PyProof.Rows L2

/-- a context of ours: the stack's guards, room, where exceptions go -/
structure GX (Ω : Wd) (n : Nat) (W : WX) (os : Scope) (X : Cx) : Prop where
  w : InW Ω X
  calm : X.calm = true
  room : Room (n + 3) X.A
  gd : X.A.guards = some []
  tk : Takes X W
  nd : X.N.Nodup
  st : ∀ x, lclK os x = false → locK os x = true → X.fn x = true
  kind : X.env.scope.kind = .function
  ps : PassesOwn (model X.prog X.w) X.A X.env X.xe

/-- the promise of a def, by the evaluator -/
def spOf (Ω : Wd) (Θ : Tab) (n j : Nat) : Sp := fun vs H Q E => ∃ G ts F, Same G H ∧ TRs Ω G H vs ts F ∧ F.Nodup ∧ (match callF Θ n j ts with
  | .ok t as => ∀ v G' H' Fv Fa, Step G H F G' H' (Fa ++ Fv) → Same G' H' → SlR Ω G' H' (vs.map some) as Fa → TR Ω G' H' v t Fv → (Fa ++ Fv).Nodup → Q v H'
  | .exc c d as => ∀ dd u G' H' Fa, Step G H F G' H' Fa → Same G' H' → SlR Ω G' H' (vs.map some) as Fa → Fa.Nodup → G' dd = some (.xd [("value", u)]) → Dp Ω.K G' u d → E (.ref (Ω.ca c)) (some dd) H'
  | .bad => False)

def permD (perm : List Nat) (l : List Value) : List Value := perm.map fun i => l.getD i .none
structure KwFact (Ω : Wd) (fd : FuncData) (ps : List Str) (npos : Nat) (ks : List Str) (perm : List Nat) : Prop where
  len : perm.length = ps.length
  lt : ∀ i ∈ perm, i < npos + ks.length
  to : ∀ (s : Shared) (us ws : List Value), us.length = npos → ws.length = ks.length → BindsTo s fd ⟨us, ks.zip ws⟩ (ps.zip (permD perm (us ++ ws)))

/-- what isinstance and a field ask of an own exception class -/
structure ExK (K : PySem.W.Frag) (C : Addr) : Prop where
  cl : (PySem.W.clsIn K C).isSome = true
  ga : PySem.W.findIn K (.ref C) "__getattribute__" = some (some (.builtin "BaseException.__getattribute__"))
  gt : PySem.W.findIn K (.ref C) "__getattr__" = some none
  sb : PySem.W.subIn K (.ref C) (.type "BaseException") = some true
  hd : PySem.W.hasDictIn K C = true
  ac : PySem.W.findIn K (.ref C) "__class__" = some (some (.builtin "object.__class__"))
  sp : PySem.W.specialIn K (.builtin "object.__class__") "__get__" = some (some (.builtin "getset_descriptor.__get__"))
  tk : PySem.W.takesIn K (.builtin "object.__class__") = some true
  mr : PySem.W.mroIn K C (.type "object") = some true
  no : PySem.W.findIn K (.ref C) "value" = some none
/-- what super().__init__ asks of the class C of an object, D the class of the text it stands in -/
structure SupC (K : PySem.W.Frag) (D C : Addr) : Prop where
  mth : PySem.W.ks_superIn K C D "__init__" = some (some (.builtin "ValueError.__init__"))
  sub : PySem.W.mroIn K C (.ref D) = some true
  ve : PySem.W.subIn K (.ref C) (.type "ValueError") = some true
/-- the promise of the exceptions' __init__ -/
def spI (Ω : Wd) : Sp := fun vs H Q _ => ∃ a C v, vs = [.ref a, v] ∧ OexC Ω.K C ∧ SupC Ω.K (Ω.ca 0) C ∧ PySem.W.findIn Ω.K (.ref C) "value" = some none ∧ H a = some (exo a C none) ∧
  ∀ dx, H dx = none → dx ≠ a → Q .non (upd (upd H dx (exd dx [("value", v)])) a (exo a C (some dx)))
def plainTys : List String := ["NoneType", "bool", "int", "str", "list", "tuple", "dict"]
/-- what the module holds, as far as the table says; the defs keep their promises at level n -/
structure TO (Ω : Wd) (Θ : Tab) (n : Nat) : Prop where
  fnm : ∀ j F, Θ.fns[j]? = some F → Ω.mg F.name = some (.ref (Ω.fa j))
  fkp : ∀ j F, Θ.fns[j]? = some F → PySem.W.keepIn Ω.K (.ref (Ω.fa j)) = true
  fbd : ∀ j F, Θ.fns[j]? = some F → Binds Ω.K (Ω.fd j) F.ps []
  fok : ∀ j F, Θ.fns[j]? = some F → FnG Ω (n + 3) (Ω.fa j) (Ω.fd j) F.ps (spOf Ω Θ n j)
  fln : ∀ (j : Nat) (F : Fn), Θ.fns[j]? = some F → F.modes.length = F.ps.length
  kwf : ∀ j npos ks perm, (j, npos, ks, perm) ∈ Θ.kws → ∀ F, Θ.fns[j]? = some F → KwFact Ω (Ω.fd j) F.ps npos ks perm
  con : ∀ (k : Nat) (c : Str × D), Θ.con[k]? = some c → ∃ (u : Value) (v : V), Ω.mg c.1 = some u ∧ RelV v u ∧ ∀ G, Dp Ω.K G v c.2
  blt : ∀ x, x ∈ bltNames → Ω.mg x = none
  ncl : Ω.nc = Θ.cls.length
  rai : ∀ c, c < Ω.nc → OexC Ω.K (Ω.ca c) ∧ SupC Ω.K (Ω.ca 0) (Ω.ca c) ∧ PySem.W.findIn Ω.K (.ref (Ω.ca c)) "__init__" = some (some (.ref Ω.fi))
  tyI : 0 < Ω.nc → PySem.W.typeIn Ω.K (.ref Ω.fi) = some (.type "function")
  fnI : 0 < Ω.nc → FnOk Ω.P Ω.w Ω.K Ω.mg Ω.base (L2.CX Ω.P Ω.w) 1 Ω.fi Ω.fid ["self", "value"] (spI Ω)
  bdI : 0 < Ω.nc → Binds Ω.K Ω.fid ["self", "value"] []
  bdI0 : 0 < Ω.nc → Binds Ω.K Ω.fid ["self", "value"] [.none]
  bdIk : 0 < Ω.nc → ∀ (s : Shared) (u v : Value), Ω.K.In s.heap → BindsTo s Ω.fid ⟨[u], [("value", v)]⟩ [("self", u), ("value", v)]
  exm : ∀ k, k < Ω.nc → PySem.W.exmOne Ω.K (.ref (Ω.ca k)) (.ref (Ω.ca 0)) = some true
  cnm : ∀ (c : Nat) (x : Str), Θ.cls[c]? = some x → Ω.mg x = some (.ref (Ω.ca c))
  cty : ∀ c, c < Ω.nc → ∀ T ∈ plainTys, PySem.W.kitOne Ω.K (.type T) (.ref (Ω.ca c)) = some false
  exk : ∀ c, c < Ω.nc → ExK Ω.K (Ω.ca c)
  exi : ∀ c k, c < Ω.nc → k < Ω.nc → PySem.W.kitOne Ω.K (.ref (Ω.ca c)) (.ref (Ω.ca k)) = some (k == 0 || k == c)
  exb : ∀ c, c < Ω.nc → ∀ T ∈ plainTys, PySem.W.kitOne Ω.K (.ref (Ω.ca c)) (.type T) = some false
  exv : ∀ c, c < Ω.nc → PySem.W.kitOne Ω.K (.ref (Ω.ca c)) (.type "ValueError") = some true

section
variable {Ω : Wd} {Θ : Tab} {n : Nat} {W : WX} {os : Scope} {X : Cx}

theorem vis_of {x : Str} (h : visK X.env.scope x = true) : Vis X.env.scope x := by
  unfold visK at h
  split at h
  · exact .inl (by assumption)
  · exact .inr (.inl (by assumption))
  · exact .inr (.inr (by assumption))
  · cases h
theorem gl_of {x : Str} (h : glbK X.env.scope x = true) : Gl X x := by
  unfold glbK at h
  split at h
  · assumption
  · cases h
theorem lcl_of {sc : Scope} {x : Str} (h : lclK sc x = true) : sc.names.lookup x = some .local := by
  unfold lclK at h
  split at h
  · assumption
  · cases h
theorem loc_of {sc : Scope} {x : Str} (h : locK sc x = true) : sc.names.lookup x = some .local ∨ sc.names.lookup x = some .cell := by
  unfold locK at h
  split at h
  · exact .inl (by assumption)
  · exact .inr (by assumption)
  · cases h
theorem plainN_of {x : Str} (h : plainN x = true) : (x == ("__debug__" : Str)) = false ∧ (x == ("__classdict__" : Str)) = false ∧ x ≠ "__name__" := by
  unfold plainN at h
  simp only [Bool.and_eq_true, Bool.not_eq_true'] at h
  exact ⟨h.1.1, h.1.2, fun e => beq_eq_false_iff_ne.mp h.2 e⟩
theorem wr_of (g : GX Ω n W os X) {i : Nat} {x : Str} (h : wrOk X.env.scope os X.N i x = true) : X.N[i]? = some x ∧ Loc X.env.scope x ∧ (X.fn x = true ∨ X.env.scope.names.lookup x = some .local) := by
  unfold wrOk at h
  simp only [Bool.and_eq_true, Bool.or_eq_true, decide_eq_true_eq, Bool.not_eq_true'] at h
  obtain ⟨h1, h2 | ⟨⟨h2, h3⟩, h4⟩⟩ := h
  · exact ⟨h1, .inl (lcl_of h2), .inr (lcl_of h2)⟩
  · exact ⟨h1, loc_of h2, .inl (g.st x h4 h3)⟩

/-! ### targets -/
/-- a tree put into a target -/
def tgR (Ω : Wd) (f : Tr → FF.Env → Option FF.Env) (sl : List Nat) : TG := fun v σ H Q => ∃ G env F t Ft, St Ω G H σ env F ∧ TR Ω G H v t Ft ∧ (F ++ Ft).Nodup ∧ (match f t env with
  | some env' => ∀ σ' G' F', σ'.length = σ.length → (∀ i, i ∉ sl → σ'[i]? = σ[i]?) → Step G H (F ++ Ft) G' H F' → St Ω G' H σ' env' F' → Q σ' H
  | none => False)
def tgsR (Ω : Wd) (f : List Tr → FF.Env → Option FF.Env) (sl : List Nat) : TGs := fun vs σ H Q => ∃ G env F ts Ft, St Ω G H σ env F ∧ TRs Ω G H vs ts Ft ∧ (F ++ Ft).Nodup ∧ (match f ts env with
  | some env' => ∀ σ' G' F', σ'.length = σ.length → (∀ i, i ∉ sl → σ'[i]? = σ[i]?) → Step G H (F ++ Ft) G' H F' → St Ω G' H σ' env' F' → Q σ' H
  | none => False)
theorem PG.imp {e : Expr} {t t' : TG} (h : PG X e t) (i : ∀ v σ H Q, t' v σ H Q → t v σ H Q) : PG X e t' := ⟨fun pins s σ H v u Q I r q => h.run pins s σ H v u Q I r (i _ _ _ _ q)⟩
theorem PGs.imp {e : List Expr} {t t' : TGs} (h : PGs X e t) (i : ∀ v σ H Q, t' v σ H Q → t v σ H Q) : PGs X e t' := ⟨fun pins s σ H vs us Q I r q => h.run pins s σ H vs us Q I r (i _ _ _ _ q)⟩
theorem PG.or {e : Expr} {t t' : TG} (h : PG X e t) (h' : PG X e t') : PG X e (fun v σ H Q => t v σ H Q ∨ t' v σ H Q) :=
  ⟨fun pins s σ H v u Q I r q => q.elim (h.run pins s σ H v u Q I r) (h'.run pins s σ H v u Q I r)⟩

/-- a tree stored into a slot -/
theorem St.put {G H : Hp} {σ : L2.St} {env : FF.Env} {F Ft : List Addr} {i : Nat} {v : V} {t : Tr} (st : St Ω G H σ env F) (hi : i < env.length) (r : TR Ω G H v t Ft) (nd : (F ++ Ft).Nodup) :
    ∃ F', (∀ p ∈ F', p ∈ F ++ Ft) ∧ St Ω G H (σ.set i (some v)) (env.set i (some t)) F' := by
  obtain ⟨F2, F1, a, b⟩ := st.sl.clear i
  obtain ⟨F3, c, d⟩ := a.put hi r
  obtain ⟨n1, n2, dj⟩ := nodup_app.mp nd
  have n3 := nodup_app.mp (b.nodup_iff.mp n1)
  refine ⟨F3, fun p hp => ?_, ⟨st.same, c, d.nodup_iff.mpr (nodup_app.mpr ⟨n2, n3.2.1, fun p hp hq => ?_⟩)⟩⟩
  · rcases List.mem_append.mp (d.mem_iff.mp hp) with z | z
    · exact List.mem_append_right _ z
    · exact List.mem_append_left _ (b.mem_iff.mpr (List.mem_append_right _ z))
  · exact dj p (b.mem_iff.mpr (List.mem_append_right _ hq)) hp

theorem parts_ok {G H : Hp} {v : V} {t : Tr} {ts : List Tr} {Ft : List Addr} (s : Same G H) (r : TR Ω G H v t Ft) (h : partsOf t = some ts) :
    ∃ a vs Fs, v = .ref a ∧ (SqT Ω.K H a vs ∨ SqL Ω.K H a vs) ∧ TRs Ω G H vs ts Fs ∧ (∀ p ∈ Fs, p ∈ Ft) ∧ (Ft.Nodup → Fs.Nodup) := by
  cases t with
  | sh d =>
    cases r with
    | sh q =>
      cases d with
      | tuple ds =>
        simp only [partsOf, Option.some.injEq] at h
        subst h
        obtain ⟨a, vs, rfl, q1, q2⟩ := dp_tuple q
        exact ⟨a, vs, [], rfl, .inl (sqT_mono s q1), TRs.of_sh q2, fun _ h => (nomatch h), fun _ => List.nodup_nil⟩
      | list ds =>
        simp only [partsOf, Option.some.injEq] at h
        subst h
        obtain ⟨a, vs, rfl, q1, q2⟩ := dp_list q
        exact ⟨a, vs, [], rfl, .inr (sqL_mono s q1), TRs.of_sh q2, fun _ h => (nomatch h), fun _ => List.nodup_nil⟩
      | _ => simp [partsOf] at h
  | tup us =>
    simp only [partsOf, Option.some.injEq] at h
    subst h
    cases r with
    | tup e g r => exact ⟨_, _, _, rfl, .inl (.of e), r, fun p hp => List.mem_cons_of_mem _ hp, fun n => (List.nodup_cons.mp n).2⟩
  | lst us =>
    simp only [partsOf, Option.some.injEq] at h
    subst h
    cases r with
    | lst e g r => exact ⟨_, _, _, rfl, .inr (.of e), r, fun p hp => List.mem_cons_of_mem _ hp, fun n => (List.nodup_cons.mp n).2⟩
  | fn j => simp [partsOf] at h
  | exc c d => simp [partsOf] at h

theorem asg_tup {t : Tg} {u : Tr} {env : FF.Env} (h : ∀ i, t ≠ .name i) : asg t u env = (match partsOf u with | some ts => asgL t ts env | none => none) := by
  cases t with
  | name i => exact absurd rfl (h i)
  | tnil =>
    cases e : partsOf u with
    | none => simp [asg, e]
    | some ts => cases ts <;> simp [asg, asgL, e]
  | tcons a b =>
    cases e : partsOf u with
    | none => simp [asg, e]
    | some ts => cases ts <;> simp [asg, asgL, e]

theorem pg_nil (g : GX Ω n W os X) : PGs X [] (tgsR Ω (asgL .tnil) []) := by
  refine PGs.imp pgs_nil fun vs σ H Q ⟨G, env, F, ts, Ft, st, r, nd, h⟩ => ?_
  cases ts with
  | cons _ _ => simp [asgL] at h
  | nil =>
    cases r
    simp only [asgL] at h
    exact ⟨rfl, h σ G F rfl (fun _ _ => rfl) (Step.refl fun p hp => List.mem_append_left _ hp) st⟩

def tgLen : Tg → Nat
  | .name _ => 0
  | .tnil => 0
  | .tcons _ t => tgLen t + 1
theorem chkTgs_len {sc os : Scope} {N : List Str} : ∀ {t : Tg} {es : List Expr}, chkTgs sc os N t es = true → es.length = tgLen t ∧ es.all plainE = true
  | .name i, es, h => by simp [chkTgs] at h
  | .tnil, es, h => by
    unfold chkTgs at h
    split at h
    · exact ⟨rfl, rfl⟩
    · cases h
  | .tcons a b, es, h => by
    unfold chkTgs at h
    split at h
    · cases h
    · rename_i e1 es1
      simp only [Bool.and_eq_true] at h
      obtain ⟨l, p⟩ := chkTgs_len h.2
      exact ⟨by simp [tgLen, l], by simp only [List.all_cons, Bool.and_eq_true]; exact ⟨h.1.1, p⟩⟩
theorem asgL_len : ∀ {t : Tg} {ts : List Tr} {env env' : FF.Env}, asgL t ts env = some env' → ts.length = tgLen t
  | .name i, ts, env, env', h => by simp [asgL] at h
  | .tnil, ts, env, env', h => by
    cases ts with
    | nil => rfl
    | cons _ _ => simp [asgL] at h
  | .tcons a b, ts, env, env', h => by
    cases ts with
    | nil => simp [asgL] at h
    | cons t ts =>
      simp only [asgL] at h
      split at h
      · have := asgL_len h
        simp [tgLen, this]
      · cases h
theorem assignEach_plain {e : Expr} (h : plainE e = true) (es : List Expr) (env : PySem.Env) : assignEach (e :: es) env = (false, assign e env) :: assignEach es env := by
  cases e <;> first | rfl | cases h
theorem assignEach_all {env : PySem.Env} : ∀ {es : List Expr}, es.all plainE = true → (assignEach es env).length = es.length ∧ (assignEach es env).findIdx? (·.1) = none
  | [], _ => ⟨rfl, rfl⟩
  | e :: es, h => by
    rw [List.all_cons, Bool.and_eq_true] at h
    obtain ⟨a, b⟩ := assignEach_all (env := env) h.2
    rw [assignEach_plain h.1]
    refine ⟨by simp [a], ?_⟩
    rw [List.findIdx?_cons]
    simp [b]
theorem tup_of {t : Tg} {es : List Expr} {k : Nat} {pos : Pos} (g : GX Ω n W os X) (ht : ∀ i, t ≠ .name i) (hl : es.length = tgLen t) (hp : es.all plainE = true) (hs : PGs X es (tgsR Ω (asgL t) (tgSl t))) : PG X (.Tuple es k pos) (tgR Ω (asg t) (tgSl t)) := by
  obtain ⟨l, q⟩ := assignEach_all (env := X.env) hp
  refine PG.imp (PG.or (pg_tup (n := es.length) g.calm hs l q) (pg_unl (n := es.length) g.calm hs l q)) fun v σ H Q ⟨G, env, F, u, Ft, st, r, nd, hh⟩ => ?_
  rw [asg_tup ht] at hh
  split at hh
  · rename_i env' e1
    split at e1
    · rename_i ts e2
      obtain ⟨n1, n2, dj⟩ := nodup_app.mp nd
      obtain ⟨a, vs, Fs, rfl, hq, rs, sub, ndf⟩ := parts_ok st.same r e2
      have len : vs.length = es.length := by rw [rs.len, asgL_len e1, hl]
      have go : tgsR Ω (asgL t) (tgSl t) vs σ H Q := by
        refine ⟨G, env, F, ts, Fs, st, rs, nodup_app.mpr ⟨n1, ndf n2, fun p hp hq => dj p hp (sub p hq)⟩, ?_⟩
        rw [e1]
        intro σ' G' F' l1 l2 s1 st1
        refine hh σ' G' F' l1 l2 (s1.wide fun p hp => ?_) st1
        rcases List.mem_append.mp hp with z | z
        · exact List.mem_append_left _ z
        · exact List.mem_append_right _ (sub p z)
      rw [← g.w.K] at hq
      rcases hq with hq | hq
      · exact .inl ⟨a, vs, rfl, hq, len, go⟩
      · exact .inr ⟨a, vs, rfl, hq, len, go⟩
    · cases e1
  · exact hh.elim
theorem pgs_of {a b : Tg} {e : Expr} {es : List Expr} (g : GX Ω n W os X) (hp : plainE e = true) (h1 : PG X e (tgR Ω (asg a) (tgSl a))) (h2 : PGs X es (tgsR Ω (asgL b) (tgSl b))) : PGs X (e :: es) (tgsR Ω (asgL (.tcons a b)) (tgSl (.tcons a b))) := by
  refine PGs.imp (pgs_cons h1 h2 (by rw [assignEach_plain hp]; rfl)) fun vs σ H Q ⟨G, env, F, ts, Ft, st, r, nd, hh⟩ => ?_
  cases ts with
  | nil => simp [asgL] at hh
  | cons t ts =>
    cases r with
    | @cons v vs _ _ F1 F2 r1 r2 =>
      simp only [asgL] at hh
      split at hh
      · rename_i env' e1
        split at e1
        · rename_i env1 e2
          rw [← List.append_assoc] at nd
          obtain ⟨n1, n2, dj⟩ := nodup_app.mp nd
          refine ⟨v, vs, rfl, G, env, F, t, F1, st, r1, n1, ?_⟩
          rw [e2]
          intro σ1 G1 F' l1 l2 s1 st1
          obtain ⟨r2', d2⟩ := r2.step s1 dj.symm
          refine ⟨G1, env1, F', ts, F2, st1, r2', nodup_app.mpr ⟨st1.nd, n2, d2.symm⟩, ?_⟩
          rw [e1]
          intro σ2 G2 F3 l3 l4 s2 st2
          refine hh σ2 G2 F3 (l3.trans l1) (fun i hi => ?_) ?_ st2
          · rw [l4 i fun z => hi (List.mem_append_right _ z), l2 i fun z => hi (List.mem_append_left _ z)]
          · rw [← List.append_assoc]
            exact (s1.frame (R := F2)).trans s2
        · cases e1
      · exact hh.elim

mutual
theorem soundTg (g : GX Ω n W os X) : ∀ (t : Tg) (e : Expr), chkTg X.env.scope os X.N t e = true → PG X e (tgR Ω (asg t) (tgSl t))
  | .name i, e, h => by
    unfold chkTg at h
    split at h
    · rename_i x pos
      obtain ⟨h1, h2, h3⟩ := wr_of g h
      refine PG.imp (pg_name (i := i) g.nd h1 h2 h3) fun v σ H Q ⟨G, env, F, t, Ft, st, r, nd, hh⟩ => ?_
      simp only [asg] at hh
      split at hh
      · rename_i env' e1
        split at e1
        · rename_i hi
          cases e1
          obtain ⟨F', q1, q2⟩ := st.put hi r nd
          exact hh _ G F' (by simp) (fun j hj => by
            rw [List.getElem?_set_ne]
            intro z; subst z; exact hj (by simp [tgSl])) (Step.refl q1) q2
        · cases e1
      · exact hh.elim
    · cases h
  | .tnil, e, h => by
    unfold chkTg at h
    split at h
    · rename_i es k pos
      have hs := soundTgs g .tnil es h
      obtain ⟨l, p⟩ := chkTgs_len h
      exact tup_of (t := .tnil) g (fun _ z => nomatch z) l p hs
    · cases h
  | .tcons a b, e, h => by
    unfold chkTg at h
    split at h
    · rename_i es k pos
      split at h
      · cases h
      · rename_i e1 es1
        simp only [Bool.and_eq_true] at h
        have hs := pgs_of (b := b) g h.1.1 (soundTg g a e1 h.1.2) (soundTgs g b es1 h.2)
        obtain ⟨l, p⟩ := chkTgs_len h.2
        exact tup_of (t := .tcons a b) g (fun _ z => nomatch z) (by simp [tgLen, l]) (by simp only [List.all_cons, Bool.and_eq_true]; exact ⟨h.1.1, p⟩) hs
    · cases h
theorem soundTgs (g : GX Ω n W os X) : ∀ (t : Tg) (es : List Expr), chkTgs X.env.scope os X.N t es = true → PGs X es (tgsR Ω (asgL t) (tgSl t))
  | .name i, es, h => by simp [chkTgs] at h
  | .tnil, es, h => by
    unfold chkTgs at h
    split at h
    · exact pg_nil g
    · cases h
  | .tcons a b, es, h => by
    unfold chkTgs at h
    split at h
    · cases h
    · rename_i e1 es1
      simp only [Bool.and_eq_true] at h
      exact pgs_of (b := b) g h.1.1 (soundTg g a e1 h.1.2) (soundTgs g b es1 h.2)
end
end
end FF

set_option Elab.async false
set_option linter.all false
set_option autoImplicit false
set_option maxRecDepth 100000
/-! FJ: expressions without calls: each form's reading from the evaluator's outcome. -/
namespace FF
open PySem PySem.Spec PyProof.Rows L2
section
variable {Ω : Wd} {W : WX} {G H : Hp} {σ : L2.St} {F : List Addr} {Θ : Tab} {n : Nat} {os : Scope} {X : Cx}

theorem tF.mono {f : FF.Env → R (Val × FF.Env)} {Q Q' : VK} (h : tF Ω W f σ H Q) (i : ∀ v H', Q v H' → Q' v H') : tF Ω W f σ H Q' := by
  obtain ⟨G, env, F, st, h⟩ := h
  exact ⟨G, env, F, st, h.mono i⟩
theorem _root_.FF.VRs.one {m : Nat} {x : V} {vx : Val} {Fx : List Addr} (h : VRs Ω G H σ m [x] [vx] Fx) : VR Ω G H σ m x vx Fx := by
  cases h with
  | cons a b => cases b; rw [List.append_nil]; exact a
/-- an evaluation while values stand by -/
theorem pend {f : FF.Env → R (Val × FF.Env)} {g : Val → FF.Env → R (Val × FF.Env)} {Q Q' : VK} {env : FF.Env} {ys : List V} {vys : List Val} {Fy : List Addr}
    (st : St Ω G H σ env F) (vr : VRs Ω G H σ env.length ys vys Fy) (nd : (F ++ Fy).Nodup) (h : OutV Ω W G H σ (F ++ Fy) ((f env).bind fun p => g p.1 p.2) Q)
    (k : ∀ w vw G1 H1 env1 F1 Fw, env1.length = env.length → St Ω G1 H1 σ env1 F1 → VRs Ω G1 H1 σ env1.length ys vys Fy → VR Ω G1 H1 σ env1.length w vw Fw → (F1 ++ (Fy ++ Fw)).Nodup → OutV Ω W G1 H1 σ (F1 ++ (Fy ++ Fw)) (g vw env1) Q → Q' w H1) :
    tF Ω W f σ H Q' := by
  refine ⟨G, env, F, st, ?_⟩
  obtain ⟨n1, n2, dj⟩ := nodup_app.mp nd
  cases hf : f env with
  | bad => simp only [hf, R.bind_bad] at h; exact h
  | exc c d env' =>
    simp only [hf, R.bind_exc] at h
    intro dd u G2 H2 F2 s2 st2 a b
    exact h dd u G2 H2 F2 (s2.wide fun p hp => List.mem_append_left _ hp) st2 a b
  | ok p =>
    obtain ⟨w, env1⟩ := p
    simp only [hf, R.bind_ok] at h
    intro v G1 H1 F1 Fw s1 st1 vw nd1
    have len : env1.length = env.length := st1.sl.len.symm.trans st.sl.len
    obtain ⟨v1, d1⟩ := VRs.step (R := []) s1 vr dj.symm
    obtain ⟨d11, d12⟩ := Disj.appR.mp d1
    obtain ⟨k1, k2, kj⟩ := nodup_app.mp nd1
    refine k v w G1 H1 env1 F1 Fw len st1 (by rw [len]; exact v1) vw ?_ (h.after ?_)
    · exact nodup_app.mpr ⟨k1, nodup_app.mpr ⟨n2, k2, d12⟩, Disj.appR.mpr ⟨d11.symm, kj⟩⟩
    · refine (s1.frame (R := Fy)).sub fun p hp => ?_
      simp only [List.mem_append] at hp ⊢
      rcases hp with hp | hp | hp
      · exact .inl (.inl hp)
      · exact .inr hp
      · exact .inl (.inr hp)
/-- one operand -/
theorem one {f : FF.Env → R (Val × FF.Env)} {g : Val → FF.Env → R (Val × FF.Env)} {Q Q' : VK} (h : tF Ω W (fun env => (f env).bind fun p => g p.1 p.2) σ H Q)
    (k : ∀ x vx G1 H1 env1 F1 Fx, St Ω G1 H1 σ env1 F1 → VR Ω G1 H1 σ env1.length x vx Fx → (F1 ++ Fx).Nodup → OutV Ω W G1 H1 σ (F1 ++ Fx) (g vx env1) Q → Q' x H1) : tF Ω W f σ H Q' := by
  obtain ⟨G, env, F, st, h⟩ := h
  exact ⟨G, env, F, st, OutV.bindV h fun v x G1 H1 env1 F1 Fv _ st1 vr nd o => k v x G1 H1 env1 F1 Fv st1 vr nd o⟩
/-- two operands -/
theorem two {fa fb : FF.Env → R (Val × FF.Env)} {g : Val → Val → FF.Env → R (Val × FF.Env)} {Q : VK} {R2 : V → V → Hp → Prop}
    (h : tF Ω W (fun env => (fa env).bind fun p => (fb p.2).bind fun q => g p.1 q.1 q.2) σ H Q)
    (k : ∀ x y vx vy G1 H1 env1 F1 Fx Fy, St Ω G1 H1 σ env1 F1 → VR Ω G1 H1 σ env1.length x vx Fx → VR Ω G1 H1 σ env1.length y vy Fy → (F1 ++ (Fx ++ Fy)).Nodup → OutV Ω W G1 H1 σ (F1 ++ (Fx ++ Fy)) (g vx vy env1) Q → R2 x y H1) :
    tF Ω W fa σ H (fun x H1 => tF Ω W fb σ H1 (fun y H2 => R2 x y H2)) := by
  refine one (g := fun v env => (fb env).bind fun q => g v q.1 q.2) h fun x vx G1 H1 env1 F1 Fx st1 vr nd o => ?_
  refine pend (ys := [x]) (vys := [vx]) (Fy := Fx ++ []) st1 (.cons vr .nil) (by simpa using nd) (by simpa using o) fun y vy G2 H2 env2 F2 Fy _ st2 vrs vy' nd2 o2 => ?_
  have a := vrs.one
  simp only [List.append_nil] at nd2 o2 a
  exact k x y vx vy G2 H2 env2 F2 _ Fy st2 a vy' nd2 o2
/-- a list of operands -/
theorem many {fs : FF.Env → R (List Val × FF.Env)} {g : List Val → FF.Env → R (Val × FF.Env)} {Q : VK} {Q' : List V → Hp → Prop} (h : tF Ω W (fun env => (fs env).bind fun p => g p.1 p.2) σ H Q)
    (k : ∀ xs vxs G1 H1 env1 F1 Fx, St Ω G1 H1 σ env1 F1 → VRs Ω G1 H1 σ env1.length xs vxs Fx → (F1 ++ Fx).Nodup → OutV Ω W G1 H1 σ (F1 ++ Fx) (g vxs env1) Q → Q' xs H1) : tL Ω W fs σ H Q' := by
  obtain ⟨G, env, F, st, h⟩ := h
  exact ⟨G, env, F, st, OutL.bindV h fun v x G1 H1 env1 F1 Fv _ st1 vr nd o => k v x G1 H1 env1 F1 Fv st1 vr nd o⟩

/-! ### giving a plain value -/
theorem OutV.give {v : V} {d : D} {env : FF.Env} {Q : VK} (st : St Ω G H σ env F) {Fb : List Addr} (sub : ∀ p ∈ F, p ∈ Fb) (hd : Dp Ω.K G v d) (h : OutV Ω W G H σ Fb (.ok (.tr (.sh d), env)) Q) : Q v H :=
  h v G H F [] (Step.refl fun p hp => sub p (by simpa using hp)) st (.sh hd) (by simpa using st.nd)
theorem subL {A B : List Addr} : ∀ p ∈ A, p ∈ A ++ B := fun _ h => List.mem_append_left _ h

/-! ### names, constants -/
theorem sE_var (g : GX Ω n W os X) {i : Nat} {x : Str} {pos : Pos} (h : rdOk X.env.scope X.N i x = true) : PE X (.Name x pos) (tF Ω W fun env => R.of ((varV env i).map fun v => (v, env))) := by
  unfold rdOk at h
  simp only [Bool.and_eq_true, decide_eq_true_eq] at h
  obtain ⟨p1, p2, _⟩ := plainN_of h.2
  refine PE.imp (pe_var h.1.1 (vis_of h.1.2) p1 p2) fun σ H Q ⟨G, env, F, st, o⟩ => ?_
  cases e : slot env i with
  | none => simp [varV, e, OutV] at o
  | some t =>
    obtain ⟨v, F1, F2, a, b, c, d, nd⟩ := st.out e
    refine ⟨v, a, ?_⟩
    have brw : OutV Ω W G H σ F (.ok (.brw i, env)) Q → Q v H := fun o => o v G H F [] (Step.refl fun p hp => by simpa using hp) st ⟨a, slot_lt e, rfl⟩ (by simpa using st.nd)
    have at0 : F1 = [] → OutV Ω W G H σ F (.ok (.tr t, env)) Q → Q v H := fun e1 o => by
      subst e1
      exact o v G H F [] (Step.refl fun p hp => by simpa using hp) st b (by simpa using st.nd)
    cases t with
    | sh dd => simp only [varV, e, Option.map_some, R.of_some] at o; cases b; exact at0 rfl o
    | fn j => simp only [varV, e, Option.map_some, R.of_some] at o; cases b; exact at0 rfl o
    | exc c d => simp only [varV, e, Option.map_some, R.of_some] at o; cases b; exact at0 rfl o
    | lst ts => simp only [varV, e, Option.map_some, R.of_some] at o; exact brw o
    | tup ts => simp only [varV, e, Option.map_some, R.of_some] at o; exact brw o
theorem sE_mv (g : GX Ω n W os X) {i : Nat} {x : Str} {pos : Pos} (h : rdOk X.env.scope X.N i x = true) : PE X (.Name x pos) (tF Ω W fun env => (match slot env i with
    | some t => .ok (.tr t, env.set i none)
    | none => .bad)) := by
  unfold rdOk at h
  simp only [Bool.and_eq_true, decide_eq_true_eq] at h
  obtain ⟨p1, p2, _⟩ := plainN_of h.2
  refine PE.imp (pe_var h.1.1 (vis_of h.1.2) p1 p2) fun σ H Q ⟨G, env, F, st, o⟩ => ?_
  cases e : slot env i with
  | none => simp only [e] at o; exact o.elim
  | some t =>
    simp only [e] at o
    obtain ⟨v, F1, F2, a, b, c, d, nd⟩ := st.out e
    obtain ⟨n1, n2, dj⟩ := nodup_app.mp nd
    refine ⟨v, a, o v G H F2 F1 (Step.refl fun p hp => d.mem_iff.mpr ?_) ⟨st.same, c, n2⟩ b (nodup_app.mpr ⟨n2, n1, dj.symm⟩)⟩
    rcases List.mem_append.mp hp with z | z
    · exact List.mem_append_right _ z
    · exact List.mem_append_left _ z
theorem sE_const {e : Expr} {v : V} {d : D} (h : PE X e (tC v)) (hd : ∀ G, Dp Ω.K G v d) : PE X e (tF Ω W fun env => .ok (.tr (.sh d), env)) :=
  PE.imp h fun σ H Q ⟨G, env, F, st, o⟩ => OutV.give st (fun _ h => h) (hd G) o
theorem sE_glob (g : GX Ω n W os X) (T : TO Ω Θ n) {k : Nat} {x : Str} {pos : Pos} (h : glOk X.env.scope x = true) (hc : (match Θ.con[k]? with | some c => decide (c.1 = x) | none => false) = true) :
    PE X (.Name x pos) (tF Ω W fun env => (match Θ.con[k]? with | some c => .ok (.tr (.sh c.2), env) | none => .bad)) := by
  unfold glOk at h
  rw [Bool.and_eq_true] at h
  obtain ⟨p1, _⟩ := plainN_of h.2
  split at hc
  · rename_i c e
    have hx : c.1 = x := of_decide_eq_true hc
    obtain ⟨u, v, hu, r, hd⟩ := T.con k c e
    refine PE.imp (pe_glob (v := v) (gl_of h.1) (by rw [g.w.mg, ← hx]; exact hu) r p1) fun σ H Q ⟨G, env, F, st, o⟩ => ?_
    simp only [e] at o
    exact OutV.give st (fun _ h => h) (hd G) o
  · cases hc
theorem sE_fnv (g : GX Ω n W os X) (T : TO Ω Θ n) {j : Nat} {x : Str} {pos : Pos} (h : glOk X.env.scope x = true) (hc : (match Θ.fns[j]? with | some F => decide (F.name = x) | none => false) = true) :
    PE X (.Name x pos) (tF Ω W fun env => .ok (.tr (.fn j), env)) := by
  unfold glOk at h
  rw [Bool.and_eq_true] at h
  obtain ⟨p1, _⟩ := plainN_of h.2
  split at hc
  · rename_i F e
    have hx : F.name = x := of_decide_eq_true hc
    refine PE.imp (pe_glob (v := .ref (Ω.fa j)) (gl_of h.1) (by rw [g.w.mg, ← hx]; exact T.fnm j F e) rfl p1) fun σ H Q ⟨G, env, F, st, o⟩ => ?_
    exact o (.ref (Ω.fa j)) G H F [] (Step.refl fun p hp => by simpa using hp) st TR.fn (by simpa using st.nd)
  · cases hc

/-! ### new cells -/
theorem Step.alloc {p : Addr} {o : HO} (s : Same G H) (hp : H p = none) (own : Bool) : Step G H F (if own then G else upd G p o) (upd H p o) (if own then F ++ [p] else F) := by
  have gp : G p = none := s.free hp
  cases own with
  | true =>
    refine ⟨Same.refl _, fun q e z => absurd e z, fun q u e _ => by rw [upd_ne (ne_of_none e hp)]; exact e, fun q hq => ?_⟩
    have hq : q ∈ F ++ [p] := hq
    rcases List.mem_append.mp hq with z | z
    · exact .inl z
    · rw [List.mem_singleton] at z; subst z; exact .inr hp
  | false =>
    refine ⟨fun q u e => ?_, fun q e z => ?_, fun q u e _ => by rw [upd_ne (ne_of_none e hp)]; exact e, fun q hq => .inl hq⟩
    · show upd G p o q = some u
      rw [upd_ne (ne_of_none e gp)]; exact e
    · have z : upd G p o q ≠ none := z
      by_cases hq : q = p
      · subst hq; exact .inl hp
      · rw [upd_ne hq] at z; exact absurd e z
theorem same_upd2 {p : Addr} {o : HO} (s : Same G H) : Same (upd G p o) (upd H p o) := fun q u e => by
  by_cases hq : q = p
  · subst hq; rw [upd_same] at e ⊢; exact e
  · rw [upd_ne hq] at e ⊢; exact s q u e
theorem same_updR {p : Addr} {o : HO} (s : Same G H) (hp : H p = none) : Same G (upd H p o) := fun q u e => by
  have := s q u e
  rw [upd_ne (ne_of_none this hp)]; exact this
theorem slR_shared {σ : L2.St} {env : FF.Env} {p : Addr} {o : HO} (s : Same G H) (hp : H p = none) (h : SlR Ω G H σ env F) : SlR Ω (upd G p o) (upd H p o) σ env F := by
  have gp : G p = none := s.free hp
  have ne : ∀ q ∈ F, q ≠ p := fun q hq z => by subst z; exact (h.there q hq).1 hp
  refine h.to (fun q u e => by rw [upd_ne (ne_of_none e gp)]; exact e) (fun q hq u e => by rw [upd_ne (ne q hq)]; exact e) fun q hq => by rw [upd_ne (ne q hq)]; exact (h.there q hq).2
theorem slR_owned {σ : L2.St} {env : FF.Env} {p : Addr} {o : HO} (hp : H p = none) (h : SlR Ω G H σ env F) : SlR Ω G (upd H p o) σ env F := by
  have ne : ∀ q ∈ F, q ≠ p := fun q hq z => by subst z; exact (h.there q hq).1 hp
  exact h.to (Same.refl _) (fun q hq u e => by rw [upd_ne (ne q hq)]; exact e) fun q hq => (h.there q hq).2
theorem trs_owned {vs : List V} {ts : List Tr} {p : Addr} {o : HO} (hp : H p = none) (h : TRs Ω G H vs ts F) : TRs Ω G (upd H p o) vs ts F := by
  have ne : ∀ q ∈ F, q ≠ p := fun q hq z => by subst z; exact (h.there q hq).1 hp
  exact h.to (Same.refl _) (fun q hq u e => by rw [upd_ne (ne q hq)]; exact e) fun q hq => (h.there q hq).2
/-- a new list of trees -/
theorem OutV.newL {env : FF.Env} {Q : VK} {vs : List V} {ts : List Tr} {Ft Fb : List Addr} (st : St Ω G H σ env F) (r : TRs Ω G H vs ts Ft) (nd : (F ++ Ft).Nodup) (sub : ∀ p ∈ F ++ Ft, p ∈ Fb)
    (o : OutV Ω W G H σ Fb (.ok (.tr (.lst ts), env)) Q) {p : Addr} (hp : H p = none) : Q (.ref p) (upd H p (.lst vs)) := by
  obtain ⟨n1, n2, dj⟩ := nodup_app.mp nd
  have npF : p ∉ F := fun z => (st.sl.there p z).1 hp
  have npT : p ∉ Ft := fun z => (r.there p z).1 hp
  refine o (.ref p) G (upd H p (.lst vs)) F (p :: Ft) ?_ ⟨same_updR st.same hp, slR_owned hp st.sl, n1⟩ (.lst upd_same (st.same.free hp) (trs_owned hp r)) ?_
  · have s := (Step.alloc (F := Fb) (o := .lst vs) st.same hp true)
    refine s.sub fun q hq => ?_
    show q ∈ Fb ++ [p]
    simp only [List.mem_append, List.mem_cons, List.mem_singleton] at hq ⊢
    rcases hq with hq | hq | hq
    · exact .inl (sub q (List.mem_append_left _ hq))
    · exact .inr (.inl hq)
    · exact .inl (sub q (List.mem_append_right _ hq))
  · exact nodup_app.mpr ⟨n1, List.nodup_cons.mpr ⟨npT, n2⟩, fun q hq hq2 => by
      rcases List.mem_cons.mp hq2 with z | z
      · subst z; exact npF hq
      · exact dj q hq z⟩
theorem allSh_eq : ∀ {ts : List Tr} {ds : List D}, allSh ts = some ds → ts = ds.map .sh
  | [], ds, h => by simp only [allSh, Option.some.injEq] at h; subst h; rfl
  | t :: ts, ds, h => by
    cases t with
    | sh d =>
      simp only [allSh] at h
      split at h
      · rename_i es e
        cases h
        rw [allSh_eq e]; rfl
      · cases h
    | _ => simp [allSh] at h
/-- a new tuple of trees: its tree in a heap with it -/
theorem mkTup_new {env : FF.Env} {vs : List V} {ts : List Tr} {Ft : List Addr} (st : St Ω G H σ env F) (r : TRs Ω G H vs ts Ft) (nd : (F ++ Ft).Nodup) {p : Addr} (hp : H p = none) :
    ∃ G' Fv, Step G H (F ++ Ft) G' (upd H p (.tup vs)) (F ++ Fv) ∧ St Ω G' (upd H p (.tup vs)) σ env F ∧ TR Ω G' (upd H p (.tup vs)) (.ref p) (mkTup ts) Fv ∧ (F ++ Fv).Nodup := by
  obtain ⟨n1, n2, dj⟩ := nodup_app.mp nd
  unfold mkTup
  split
  · rename_i ds e
    have e := allSh_eq e
    subst e
    obtain ⟨q, rfl⟩ := r.to_sh
    refine ⟨upd G p (.tup vs), [], ?_, ⟨same_upd2 st.same, slR_shared st.same hp st.sl, n1⟩, .sh (.tup (.of upd_same) (dpAll_mono ?_ q)), by simpa using n1⟩
    · have s := (Step.alloc (F := F) (o := .tup vs) st.same hp false)
      simpa using s
    · exact fun a u e => by rw [upd_ne (ne_of_none e (st.same.free hp))]; exact e
  · have npF : p ∉ F := fun z => (st.sl.there p z).1 hp
    have npT : p ∉ Ft := fun z => (r.there p z).1 hp
    refine ⟨G, p :: Ft, ?_, ⟨same_updR st.same hp, slR_owned hp st.sl, n1⟩, .tup upd_same (st.same.free hp) (trs_owned hp r), ?_⟩
    · have s := (Step.alloc (F := F ++ Ft) (o := .tup vs) st.same hp true)
      refine s.sub fun q hq => ?_
      show q ∈ (F ++ Ft) ++ [p]
      simp only [List.mem_append, List.mem_cons, List.mem_singleton] at hq ⊢
      rcases hq with hq | hq | hq
      · exact .inl (.inl hq)
      · exact .inr (.inl hq)
      · exact .inl (.inr hq)
    · exact nodup_app.mpr ⟨n1, List.nodup_cons.mpr ⟨npT, n2⟩, fun q hq hq2 => by
        rcases List.mem_cons.mp hq2 with z | z
        · subst z; exact npF hq
        · exact dj q hq z⟩
theorem sE_lst {es : List Expr} {pos : Pos} {fs : FF.Env → R (List Val × FF.Env)} (h : PA X es (tL Ω W fs)) : PE X (.List es pos) (tF Ω W fun env => (fs env).bind fun p => (match takes p.1 p.2 with
    | some (ts, env2) => if ts.length ≤ sizeLine then .ok (.tr (.lst ts), env2) else .bad
    | none => .bad)) := by
  refine PE.imp (pe_lst h) fun σ H Q hh => many (g := fun vs env => (match takes vs env with
    | some (ts, env2) => if ts.length ≤ sizeLine then .ok (.tr (.lst ts), env2) else .bad
    | none => .bad)) hh fun xs vxs G1 H1 env1 F1 Fx st vrs nd o => ?_
  split at o
  · rename_i ts env2 e
    split at o
    · rename_i hl
      obtain ⟨G2, F2, Ft, s2, st2, r2, nd2, l2⟩ := takes_ok st vrs nd e
      refine ⟨by rw [r2.len]; exact hl, fun p hp => OutV.newL st2 r2 nd2 (fun _ h => h) (o.after s2) hp⟩
    · exact o.elim
  · exact o.elim
theorem sE_tup {es : List Expr} {pos : Pos} {k : Nat} {fs : FF.Env → R (List Val × FF.Env)} (h : PA X es (tL Ω W fs)) : PE X (.Tuple es k pos) (tF Ω W fun env => (fs env).bind fun p => (match takes p.1 p.2 with
    | some (ts, env2) => if ts.length ≤ sizeLine then .ok (.tr (mkTup ts), env2) else .bad
    | none => .bad)) := by
  refine PE.imp (pe_tup h) fun σ H Q hh => many (g := fun vs env => (match takes vs env with
    | some (ts, env2) => if ts.length ≤ sizeLine then .ok (.tr (mkTup ts), env2) else .bad
    | none => .bad)) hh fun xs vxs G1 H1 env1 F1 Fx st vrs nd o => ?_
  split at o
  · rename_i ts env2 e
    split at o
    · rename_i hl
      obtain ⟨G2, F2, Ft, s2, st2, r2, nd2, l2⟩ := takes_ok st vrs nd e
      refine ⟨by rw [r2.len]; exact hl, fun p hp => ?_⟩
      obtain ⟨G3, Fv, s3, st3, r3, nd3⟩ := mkTup_new st2 r2 nd2 hp
      exact (o.after (s2.trans s3)) _ _ _ F2 Fv (Step.refl fun _ h => h) st3 r3 nd3
    · exact o.elim
  · exact o.elim

/-! ### arithmetic and comparisons -/
theorem fst_sub {A B C : List Addr} : ∀ p ∈ A, p ∈ A ++ (B ++ C) := fun _ h => List.mem_append_left _ h
theorem sE_neg {a : Expr} {pos : Pos} {f : FF.Env → R (Val × FF.Env)} (h : PE X a (tF Ω W f)) : PE X (.UnaryOp .USub a pos) (tF Ω W fun env => (f env).bind fun p => (match getV p.2 p.1 with
    | some (.sh (.int i)) => .ok (.tr (.sh (.int (-i))), p.2)
    | _ => .bad)) := by
  refine PE.imp (pe_un un_neg h) fun σ H Q hh => one (g := fun v env => (match getV env v with
    | some (.sh (.int i)) => .ok (.tr (.sh (.int (-i))), env)
    | _ => .bad)) hh fun x vx G1 H1 env1 F1 Fx st vr nd o => ?_
  split at o
  · rename_i i e
    have hd := getV_atom st vr e
    cases dp_int hd
    exact ⟨i, rfl, OutV.give st subL (.int _) o⟩
  · exact o.elim
end
end FF

set_option Elab.async false
set_option linter.all false
set_option autoImplicit false
set_option maxRecDepth 100000
/-! FK: operators, tests, items and slices. -/
namespace FF
open PySem PySem.Spec PyProof.Rows L2
section
variable {Ω : Wd} {W : WX} {G H : Hp} {σ : L2.St} {F : List Addr} {Θ : Tab} {n : Nat} {os : Scope} {X : Cx}

theorem getV_dp {env : FF.Env} {m : Nat} {v : V} {x : Val} {Fv : List Addr} {d : D} (st : St Ω G H σ env F) (vr : VR Ω G H σ m v x Fv) (h : getV env x = some (.sh d)) : Dp Ω.K H v d := dp_mono st.same (getV_atom st vr h)
/-- the items of two sequences, one after the other -/
theorem seqOf2 {env env1 env2 : FF.Env} {m : Nat} {x y : V} {vx vy : Val} {ts us : List Tr} {Fx Fy : List Addr} (st : St Ω G H σ env F) (hx : VR Ω G H σ m x vx Fx) (hy : VR Ω G H σ m y vy Fy) (nd : (F ++ (Fx ++ Fy)).Nodup)
    (e1 : seqOf true false vx env = some (ts, env1)) (e2 : seqOf true false vy env1 = some (us, env2)) :
    ∃ a b vs ws G1 F1 Ft, x = .ref a ∧ y = .ref b ∧ SqL Ω.K H a vs ∧ SqL Ω.K H b ws ∧ Step G H (F ++ (Fx ++ Fy)) G1 H (F1 ++ Ft) ∧ St Ω G1 H σ env2 F1 ∧ TRs Ω G1 H (vs ++ ws) (ts ++ us) Ft ∧ (F1 ++ Ft).Nodup ∧ vs.length = ts.length ∧ ws.length = us.length := by
  rw [← List.append_assoc] at nd
  obtain ⟨n1, n2, dj⟩ := nodup_app.mp nd
  obtain ⟨a, vs, G1, F1, Ft, rfl, hq, s1, st1, r1, nd1, l1, _⟩ := seqOf_ok st hx n1 e1
  obtain ⟨hy1, dy⟩ := hy.step s1 dj.symm
  obtain ⟨dy1, dy2⟩ := Disj.appR.mp dy
  obtain ⟨m1, m2, mj⟩ := nodup_app.mp nd1
  obtain ⟨b, ws, G2, F2, Fu, rfl, hq2, s2, st2, r2, nd2, l2, _⟩ := seqOf_ok st1 hy1 (nodup_app.mpr ⟨m1, n2, dy1.symm⟩) e2
  have dt : Disj Ft (F1 ++ Fy) := Disj.appR.mpr ⟨mj.symm, dy2.symm⟩
  obtain ⟨r1', d1⟩ := r1.step s2 dt
  obtain ⟨d11, d12⟩ := Disj.appR.mp d1
  obtain ⟨k1, k2, kj⟩ := nodup_app.mp nd2
  have hq : SqL Ω.K H a vs := hq.elim (·.2) fun z => by cases z.1
  have hq2 : SqL Ω.K H b ws := hq2.elim (·.2) fun z => by cases z.1
  refine ⟨a, b, vs, ws, G2, F2, Ft ++ Fu, rfl, rfl, hq, hq2, ?_, st2, r1'.app r2, nodup_app.mpr ⟨k1, nodup_app.mpr ⟨m2, k2, d12⟩, Disj.appR.mpr ⟨d11.symm, kj⟩⟩, r1.len, r2.len⟩
  rw [← List.append_assoc]
  refine (s1.frame (R := Fy)).trans (((s2.frame (R := Ft)).wide fun p hp => ?_).sub fun p hp => ?_)
  · simp only [List.mem_append] at hp ⊢
    rcases hp with (hp | hp) | hp
    · exact .inl (.inl hp)
    · exact .inr hp
    · exact .inl (.inr hp)
  · simp only [List.mem_append] at hp ⊢
    rcases hp with hp | hp | hp
    · exact .inl (.inl hp)
    · exact .inr hp
    · exact .inl (.inr hp)
theorem frzs_all {ts us : List Tr} {vs : List V} {Ft : List Addr} {env : FF.Env} (st : St Ω G H σ env F) (r : TRs Ω G H vs ts Ft) (nd : (F ++ Ft).Nodup) (h : frzs ts = some us) :
    ∃ G1, Step G H (F ++ Ft) G1 H F ∧ St Ω G1 H σ env F ∧ TRs Ω G1 H vs us [] := by
  obtain ⟨n1, n2, dj⟩ := nodup_app.mp nd
  refine ⟨join G H Ft, Step.join (fun p hp => List.mem_append_right _ hp) (fun p hp => (r.there p hp).2) (fun p hp => List.mem_append_left _ hp), ⟨join_sub st.same, ?_, n1⟩, frzs_ok st.same r h⟩
  exact st.sl.to (join_same fun p hp => (r.there p hp).2) (fun _ _ _ e => e) fun p hp => by rw [join_out (dj p hp)]; exact (st.sl.there p hp).2
theorem trs_rep {vs : List V} {ts : List Tr} (r : TRs Ω G H vs ts []) : ∀ k : Nat, TRs Ω G H (List.replicate k vs).flatten (List.replicate k ts).flatten []
  | 0 => .nil
  | k + 1 => by
    rw [List.replicate_succ, List.replicate_succ, List.flatten_cons, List.flatten_cons]
    exact TRs.app (F := []) (E := []) r (trs_rep r k)

def rBin (op : Bop) (K : PySem.W.Frag) : R2 := fun x y H Q => rArith op x y H Q ∨ (op = .add ∧ ((∃ i j, x = .str i ∧ y = .str j ∧ i.length + j.length ≤ sizeLine ∧ Q (.str (i ++ j)) H) ∨ rCatS K x y H Q)) ∨ (op = .mul ∧ rRep x y H Q)
theorem op_bin (op : Bop) : OpR X (binaryOp (bopOf op)) (rBin op X.K) := by
  intro pins s σ H x y v u Q I rx ry h
  rcases h with h | ⟨rfl, h | h⟩ | ⟨rfl, h⟩
  · exact op_arith op pins s σ H x y v u Q I rx ry h
  · exact op_add_str pins s σ H x y v u Q I rx ry h
  · exact op_catS pins s σ H x y v u Q I rx ry h
  · exact op_rep pins s σ H x y v u Q I rx ry h
theorem sE_bin (g : GX Ω n W os X) {op : Bop} {a b : Expr} {pos : Pos} {fa fb : FF.Env → R (Val × FF.Env)} (ha : PE X a (tF Ω W fa)) (hb : PE X b (tF Ω W fb)) :
    PE X (.BinOp a (bopOf op) b pos) (tF Ω W fun env => (fa env).bind fun p => (fb p.2).bind fun q => R.of (binV op p.1 q.1 q.2)) := by
  refine PE.imp (pe_op (op_bin op) ha hb) fun σ H Q hh => two (g := fun va vb env => R.of (binV op va vb env)) hh fun x y vx vy G1 H1 env1 F1 Fx Fy st hx hy nd o => ?_
  rw [g.w.K]
  unfold binV at o
  split at o
  · rename_i i j e1 e2
    cases ha' : arith op i j with
    | none => simp [ha'] at o; exact o.elim
    | some k =>
      simp only [ha', Option.map_some, R.of_some] at o
      cases dp_int (getV_atom st hx e1); cases dp_int (getV_atom st hy e2)
      exact .inl ⟨i, j, k, rfl, rfl, ha', OutV.give st fst_sub (.int k) o⟩
  · rename_i i j e1 e2
    split at o
    · rename_i hc
      simp only [R.of_some] at o
      cases dp_str (getV_atom st hx e1); cases dp_str (getV_atom st hy e2)
      exact .inr (.inl ⟨hc.1, .inl ⟨i, j, rfl, rfl, hc.2, OutV.give st fst_sub (.str _) o⟩⟩)
    · simp only [R.of_none] at o; exact o.elim
  · rename_i t k e1 e2
    split at o
    · split at o
      · rename_i ts env2 e3
        split at o
        · rename_i us e4
          split at o
          · rename_i hc
            simp only [R.of_some] at o
            cases dp_int (getV_atom st hy e2)
            rw [← List.append_assoc] at nd o
            obtain ⟨n1, n2, dj⟩ := nodup_app.mp nd
            obtain ⟨a, vs, G2, F2, Ft, rfl, hq, s2, st2, r2, nd2, l2, hown⟩ := seqOf_ok st hx n1 e3
            obtain ⟨G3, s3, st3, r3⟩ := frzs_all st2 r2 nd2 e4
            have sT : Step G1 H1 ((F1 ++ Fx) ++ Fy) G3 H1 F2 := (s2.wide fun p hp => List.mem_append_left _ hp).trans s3
            have lv : vs.length = us.length := r3.len
            refine .inr (.inr ⟨rfl, a, k, vs, rfl, rfl, hown (by simp [ownL, e1]), hc.1, hc.2.1, by rw [lv]; exact hc.2.2, fun p hp => ?_⟩)
            exact OutV.newL st3 (trs_rep r3 k.toNat) (by simpa using st3.nd) (fun _ h => by simpa using h) (o.after sT) hp
          · simp only [R.of_none] at o; exact o.elim
        · simp only [R.of_none] at o; exact o.elim
      · simp only [R.of_none] at o; exact o.elim
    · simp only [R.of_none] at o; exact o.elim
  · split at o
    · split at o
      · rename_i ts env2 e3
        split at o
        · rename_i us env3 e4
          split at o
          · rename_i hc
            simp only [R.of_some] at o
            obtain ⟨a, b, vs, ws, G2, F2, Ft, rfl, rfl, q1, q2, s2, st2, r2, nd2, l1, l2⟩ := seqOf2 st hx hy nd e3 e4
            refine .inr (.inl ⟨rfl, .inr ⟨a, b, vs, ws, rfl, rfl, q1, q2, by rw [l1, l2]; exact hc, fun p hp => ?_⟩⟩)
            exact OutV.newL st2 r2 nd2 (fun _ h => h) (o.after s2) hp
          · simp only [R.of_none] at o; exact o.elim
        · simp only [R.of_none] at o; exact o.elim
      · simp only [R.of_none] at o; exact o.elim
    · simp only [R.of_none] at o; exact o.elim
  · simp only [R.of_none] at o; exact o.elim

/-! ### comparisons -/
theorem noSet {b : Expr} (h : isSetE b = false) (op : CmpOp) : behindInMarks op b = false := by
  cases b <;> first | rfl | cases h
def rIs : R2 := fun x y H Q => (y = .non ∧ Q (.bl (decide (x = .non))) H) ∨ (∃ a b, x = .bl a ∧ y = .bl b ∧ Q (.bl (decide (a = b))) H)
def rNis : R2 := fun x y H Q => (y = .non ∧ Q (.bl (!decide (x = .non))) H) ∨ (∃ a b, x = .bl a ∧ y = .bl b ∧ Q (.bl (!decide (a = b))) H)
def rCmp (op : Cop) (K : PySem.W.Frag) : R2 := fun x y H Q => (op ≠ .is_ ∧ op ≠ .isnot_ ∧ rCmpD K op x y H Q) ∨ (op = .is_ ∧ rIs x y H Q) ∨ (op = .isnot_ ∧ rNis x y H Q)
theorem op_cmp (op : Cop) (hu : X.A.units + 65 < cLine) : OpR X (compareOp (copOf op)) (rCmp op X.K) := by
  intro pins s σ H x y v u Q I rx ry h
  rcases h with ⟨_, _, h⟩ | ⟨rfl, h | h⟩ | ⟨rfl, h | h⟩
  · exact op_cmpD op hu pins s σ H x y v u Q I rx ry h
  · exact op_isN pins s σ H x y v u Q I rx ry h
  · exact op_isBl pins s σ H x y v u Q I rx ry h
  · exact op_notN pins s σ H x y v u Q I rx ry h
  · exact op_notBl pins s σ H x y v u Q I rx ry h
theorem tr_non {v : V} {t : Tr} {Ft : List Addr} (r : TR Ω G H v t Ft) : decide (v = .non) = (match t with | .sh .none => true | _ => false) := by
  cases r with
  | sh q => cases q <;> rfl
  | lst _ _ _ => rfl
  | tup _ _ _ => rfl
  | fn => rfl
  | exc _ _ _ _ => rfl
theorem isV_ok {x y : V} {t u : Tr} {Fx Fy : List Addr} {k : Bool} (rx : TR Ω G H x t Fx) (ry : TR Ω G H y u Fy) (h : isV t u = some k) :
    (y = .non ∧ decide (x = .non) = k) ∨ (∃ a b, x = .bl a ∧ y = .bl b ∧ decide (a = b) = k) := by
  have n := tr_non rx
  unfold isV at h
  split at h
  · cases h
    cases ry with
    | sh q => exact .inl ⟨dp_none q, n⟩
  · rename_i hne
    cases h
    cases ry with
    | sh q =>
      refine .inl ⟨dp_none q, ?_⟩
      rw [n]
      split
      · exact (hne rfl).elim
      · rfl
  · cases h
    cases rx with
    | sh q => cases ry with
      | sh q' => exact .inr ⟨_, _, dp_bool q, dp_bool q', rfl⟩
  · cases h
theorem cmpV_ok {op : Cop} {env : FF.Env} {m : Nat} {x y : V} {vx vy : Val} {Fx Fy : List Addr} {k : Bool} {Q : VK} (st : St Ω G H σ env F) (hx : VR Ω G H σ m x vx Fx) (hy : VR Ω G H σ m y vy Fy)
    (e : cmpV op vx vy env = some k) (q : Q (.bl k) H) : rCmp op Ω.K x y H Q := by
  have gen : op ≠ .is_ → op ≠ .isnot_ → (match look env vx, look env vy with | some x, some y => cmpD op x y | _, _ => none) = some k → rCmp op Ω.K x y H Q := by
    intro h1 h2 e
    split at e
    · rename_i d d' e1 e2
      exact .inl ⟨h1, h2, d, d', k, look_ok st hx e1, look_ok st hy e2, e, q⟩
    · cases e
  cases op with
  | is_ =>
    simp only [cmpV] at e
    split at e
    · rename_i t u e1 e2
      obtain ⟨_, r1, _⟩ := getV_ok st hx e1
      obtain ⟨_, r2, _⟩ := getV_ok st hy e2
      refine .inr (.inl ⟨rfl, ?_⟩)
      rcases isV_ok r1 r2 e with ⟨a, b⟩ | ⟨a, b, c, d, f⟩
      · exact .inl ⟨a, by rw [b]; exact q⟩
      · exact .inr ⟨a, b, c, d, by rw [f]; exact q⟩
    · cases e
  | isnot_ =>
    simp only [cmpV] at e
    split at e
    · rename_i t u e1 e2
      obtain ⟨_, r1, _⟩ := getV_ok st hx e1
      obtain ⟨_, r2, _⟩ := getV_ok st hy e2
      rw [Option.map_eq_some_iff] at e
      obtain ⟨k', e, rfl⟩ := e
      refine .inr (.inr ⟨rfl, ?_⟩)
      rcases isV_ok r1 r2 e with ⟨a, b⟩ | ⟨a, b, c, d, f⟩
      · exact .inl ⟨a, by rw [b]; exact q⟩
      · exact .inr ⟨a, b, c, d, by rw [f]; exact q⟩
    · cases e
  | _ => exact gen (by decide) (by decide) e
theorem rd_cmp {op : Cop} {fa fb : FF.Env → R (Val × FF.Env)} {Q : VK} (h : tF Ω W (fun env => (fa env).bind fun p => (fb p.2).bind fun q => R.of ((cmpV op p.1 q.1 q.2).map fun k => (.tr (.sh (.bool k)), q.2))) σ H Q) :
    tOp (rCmp op Ω.K) (tF Ω W fa) (tF Ω W fb) σ H Q := by
  refine two (g := fun va vb env => R.of ((cmpV op va vb env).map fun k => (.tr (.sh (.bool k)), env))) h fun x y vx vy G1 H1 env1 F1 Fx Fy st hx hy nd o => ?_
  cases e : cmpV op vx vy env1 with
  | none => simp only [e, Option.map_none, R.of_none] at o; exact o.elim
  | some k =>
    simp only [e, Option.map_some, R.of_some] at o
    exact cmpV_ok st hx hy e (OutV.give st fst_sub (.bl k) o)
theorem rd_chain {o1 o2 : Cop} {fa fb fc : FF.Env → R (Val × FF.Env)} {Q : VK} (h : tF Ω W (fun env => (fa env).bind fun p => (fb p.2).bind fun q => (match cmpV o1 p.1 q.1 q.2 with
    | some true => (fc q.2).bind fun r => R.of ((cmpV o2 q.1 r.1 r.2).map fun k => (.tr (.sh (.bool k)), r.2))
    | some false => .ok (.tr (.sh (.bool false)), q.2)
    | none => .bad)) σ H Q) : tChain (rCmp o1 Ω.K) (rCmp o2 Ω.K) (tF Ω W fa) (tF Ω W fb) (tF Ω W fc) σ H Q := by
  refine two (g := fun va vb env => (match cmpV o1 va vb env with
    | some true => (fc env).bind fun r => R.of ((cmpV o2 vb r.1 r.2).map fun k => (.tr (.sh (.bool k)), r.2))
    | some false => .ok (.tr (.sh (.bool false)), env)
    | none => .bad)) h fun x y vx vy G1 H1 env1 F1 Fx Fy st hx hy nd o => ?_
  split at o
  · rename_i e
    refine cmpV_ok st hx hy e ⟨true, rfl, ?_⟩
    rw [if_pos rfl]
    have nd' : (F1 ++ (Fy ++ [])).Nodup := by
      obtain ⟨n1, n2, dj⟩ := nodup_app.mp nd
      obtain ⟨m1, m2, _⟩ := nodup_app.mp n2
      rw [List.append_nil]
      exact nodup_app.mpr ⟨n1, m2, (Disj.appR.mp dj).2⟩
    have o' : OutV Ω W G1 H1 σ (F1 ++ (Fy ++ [])) ((fc env1).bind fun r => R.of ((cmpV o2 vy r.1 r.2).map fun k => (.tr (.sh (.bool k)), r.2))) Q :=
      o.after (Step.refl fun p hp => by
        simp only [List.mem_append, List.not_mem_nil, or_false] at hp ⊢
        exact hp.imp id .inr)
    refine pend (ys := [y]) (vys := [vy]) (g := fun v env => R.of ((cmpV o2 vy v env).map fun k => (.tr (.sh (.bool k)), env))) st (.cons hy .nil) nd' o' fun w vw G2 H2 env2 F2 Fw _ st2 vrs hw nd2 oo => ?_
    cases e2 : cmpV o2 vy vw env2 with
    | none => simp only [e2, Option.map_none, R.of_none] at oo; exact oo.elim
    | some k =>
      simp only [e2, Option.map_some, R.of_some] at oo
      exact cmpV_ok st2 vrs.one hw e2 (OutV.give st2 fst_sub (.bl k) oo)
  · rename_i e
    refine cmpV_ok st hx hy e ⟨false, rfl, ?_⟩
    rw [if_neg Bool.false_ne_true]
    exact OutV.give st fst_sub (.bl false) o
  · exact o.elim

/-! ### tests -/
theorem asB {f : FF.Env → R (Val × FF.Env)} {Q : Bool → Hp → Prop} (h : tB1 Ω W (fun env => asBool (f env)) σ H Q) : tF Ω W f σ H (fun x H' => ∃ k, x = .bl k ∧ Q k H') := by
  obtain ⟨G, env, F, st, o⟩ := h
  refine ⟨G, env, F, st, ?_⟩
  cases e : f env with
  | bad => simp only [e, asBool] at o; exact o
  | exc c d env' => simp only [e, asBool] at o; exact o
  | ok p =>
    obtain ⟨v, env1⟩ := p
    simp only [e, asBool] at o
    intro w G1 H1 F1 Fv s1 st1 vr nd
    split at o
    · rename_i b e1
      cases dp_bool (getV_atom st1 vr e1)
      exact ⟨b, rfl, o G1 H1 F1 (s1.sub subL) st1⟩
    · exact o.elim
/-- an expression as a value and as a test -/
structure PET (Ω : Wd) (W : WX) (X : Cx) (e : Expr) (f : FF.Env → R (Val × FF.Env)) : Prop where
  pe : PE X e (tF Ω W f)
  pt : PT X e (tB1 Ω W fun env => asBool (f env))
def plainT : Expr → Bool
  | .UnaryOp .Not _ _ => false
  | .BoolOp .. => false
  | .IfExp .. => false
  | .Compare .. => false
  | _ => true
theorem isTrue_plain {e : Expr} (h : plainT e = true) (env : PySem.Env) (whole : Sem Value) : isTrue e env whole = (do let v ← whole; standAt e.pos; holding [v] (truthy v)) := by
  cases e with
  | UnaryOp op x p => cases op <;> first | rfl | cases h
  | _ => first | rfl | cases h
theorem PET.of {e : Expr} {f : FF.Env → R (Val × FF.Env)} (h : PE X e (tF Ω W f)) (ht : plainT e = true) : PET Ω W X e f :=
  ⟨h, PT.imp (pt_val h fun whole => isTrue_plain ht X.env whole) fun σ H Q hh => asB hh⟩
theorem room65 (g : GX Ω n W os X) : X.A.units + 65 < cLine := by
  have := g.room.un
  omega
theorem sE_cmp (g : GX Ω n W os X) {op : Cop} {a b : Expr} {pos : Pos} {fa fb : FF.Env → R (Val × FF.Env)} (ha : PE X a (tF Ω W fa)) (hb : PE X b (tF Ω W fb)) (hs : isSetE b = false) :
    PET Ω W X (.Compare a [copOf op] [b] pos) fun env => (fa env).bind fun p => (fb p.2).bind fun q => R.of ((cmpV op p.1 q.1 q.2).map fun k => (.tr (.sh (.bool k)), q.2)) := by
  have r := op_cmp (X := X) op (room65 g)
  rw [g.w.K] at r
  exact ⟨PE.imp (pe_cmpR r ha hb (noSet hs _)) fun σ H Q hh => rd_cmp hh, PT.imp (pt_cmpR r ha hb (noSet hs _)) fun σ H Q hh => rd_cmp (asB hh)⟩
theorem sE_chain (g : GX Ω n W os X) {o1 o2 : Cop} {a b c : Expr} {pos : Pos} {fa fb fc : FF.Env → R (Val × FF.Env)} (ha : PE X a (tF Ω W fa)) (hb : PE X b (tF Ω W fb)) (hc : PE X c (tF Ω W fc)) (hs : isSetE c = false) :
    PET Ω W X (.Compare a [copOf o1, copOf o2] [b, c] pos) fun env => (fa env).bind fun p => (fb p.2).bind fun q => (match cmpV o1 p.1 q.1 q.2 with
    | some true => (fc q.2).bind fun r => R.of ((cmpV o2 q.1 r.1 r.2).map fun k => (.tr (.sh (.bool k)), r.2))
    | some false => .ok (.tr (.sh (.bool false)), q.2)
    | none => .bad) := by
  have r1 := op_cmp (X := X) o1 (room65 g)
  have r2 := op_cmp (X := X) o2 (room65 g)
  rw [g.w.K] at r1 r2
  have hm : lastMarks [copOf o1, copOf o2] [b, c] = false := noSet hs _
  exact ⟨PE.imp (pe_chain r1 r2 ha hb hc hm) fun σ H Q hh => rd_chain hh, PT.imp (pt_chain r1 r2 ha hb hc hm) fun σ H Q hh => rd_chain (asB hh)⟩

/-! ### not, if-expressions, and, or -/
theorem tB1.bindV {f : FF.Env → R (Bool × FF.Env)} {g : Bool → FF.Env → R (Val × FF.Env)} {Q : VK} (h : tF Ω W (fun env => (f env).bind fun p => g p.1 p.2) σ H Q) :
    tB1 Ω W f σ H (fun b H1 => tF Ω W (g b) σ H1 Q) := by
  obtain ⟨G, env, F, st, h⟩ := h
  refine ⟨G, env, F, st, ?_⟩
  cases e : f env with
  | bad => simp only [e, R.bind_bad] at h; exact h
  | exc c d env' => simp only [e, R.bind_exc] at h; exact h
  | ok p =>
    obtain ⟨b, env1⟩ := p
    simp only [e, R.bind_ok] at h
    exact fun G1 H1 F1 s1 st1 => ⟨G1, env1, F1, st1, h.after s1⟩
theorem tB1.bindB {f : FF.Env → R (Bool × FF.Env)} {g : Bool → FF.Env → R (Bool × FF.Env)} {Q : Bool → Hp → Prop} (h : tB1 Ω W (fun env => (f env).bind fun p => g p.1 p.2) σ H Q) :
    tB1 Ω W f σ H (fun b H1 => tB1 Ω W (g b) σ H1 Q) := by
  obtain ⟨G, env, F, st, h⟩ := h
  refine ⟨G, env, F, st, ?_⟩
  cases e : f env with
  | bad => simp only [e, R.bind_bad] at h; exact h
  | exc c d env' => simp only [e, R.bind_exc] at h; exact h
  | ok p =>
    obtain ⟨b, env1⟩ := p
    simp only [e, R.bind_ok] at h
    exact fun G1 H1 F1 s1 st1 => ⟨G1, env1, F1, st1, h.after s1⟩
theorem tF.ok {b : Bool} {Q : VK} (h : tF Ω W (fun env => .ok (.tr (.sh (.bool b)), env)) σ H Q) : Q (.bl b) H := by
  obtain ⟨G, env, F, st, h⟩ := h
  exact OutV.give st (fun _ h => h) (.bl b) h
theorem tB1.ok {b : Bool} {Q : Bool → Hp → Prop} (h : tB1 Ω W (fun env => .ok (b, env)) σ H Q) : Q b H := by
  obtain ⟨G, env, F, st, h⟩ := h
  exact h G H F (Step.refl fun _ h => h) st
theorem asBool_sh (b : Bool) (env : FF.Env) : asBool (.ok (.tr (.sh (.bool b)), env)) = .ok (b, env) := rfl
theorem asBool_bind {α : Type} (x : R α) (f : α → R (Val × FF.Env)) : asBool (x.bind f) = x.bind fun a => asBool (f a) := by cases x <;> rfl
theorem tB1.congr {f f' : FF.Env → R (Bool × FF.Env)} {Q : Bool → Hp → Prop} (e : ∀ env, f env = f' env) (h : tB1 Ω W f σ H Q) : tB1 Ω W f' σ H Q := by
  have : f = f' := funext e
  rw [← this]; exact h
theorem tF.congr {f f' : FF.Env → R (Val × FF.Env)} {Q : VK} (e : ∀ env, f env = f' env) (h : tF Ω W f σ H Q) : tF Ω W f' σ H Q := by
  have : f = f' := funext e
  rw [← this]; exact h
theorem tB1.mono {f : FF.Env → R (Bool × FF.Env)} {Q Q' : Bool → Hp → Prop} (h : tB1 Ω W f σ H Q) (i : ∀ b H', Q b H' → Q' b H') : tB1 Ω W f σ H Q' := by
  obtain ⟨G, env, F, st, o⟩ := h
  refine ⟨G, env, F, st, ?_⟩
  cases e : f env with
  | bad => simp only [e] at o; exact o
  | exc c d env' => simp only [e] at o; exact o
  | ok p => simp only [e] at o; exact fun G1 H1 F1 s1 st1 => i _ _ (o G1 H1 F1 s1 st1)
theorem sE_not {a : Expr} {pos : Pos} {f : FF.Env → R (Val × FF.Env)} (h : PET Ω W X a f) :
    PET Ω W X (.UnaryOp .Not a pos) fun env => (asBool (f env)).bind fun p => .ok (.tr (.sh (.bool (!p.1))), p.2) := by
  constructor
  · refine PE.imp (pe_not h.pe) fun σ H Q hh => ?_
    refine tF.mono (asB (tB1.bindV (g := fun b env => .ok (.tr (.sh (.bool (!b))), env)) hh)) fun x H' hx => ?_
    obtain ⟨k, rfl, q⟩ := hx
    exact ⟨k, rfl, tF.ok q⟩
  · refine PT.imp (pt_not h.pt) fun σ H Q hh => ?_
    have h2 : tB1 Ω W (fun env => (asBool (f env)).bind fun p => .ok (!p.1, p.2)) σ H Q := tB1.congr (fun env => by rw [asBool_bind]; rfl) hh
    exact tB1.mono (tB1.bindB (g := fun b env => .ok (!b, env)) h2) fun b H' q => tB1.ok q
theorem pt_ifExp {c a b : Expr} {tA tb tc : TT} {pos : Pos} (hc : PT X c tA) (ha : PT X a tb) (hb : PT X b tc) : PT X (.IfExp c a b pos) (fun σ H Q => tA σ H fun k H1 => if k = true then tb σ H1 Q else tc σ H1 Q) := by
  constructor
  intro pins s σ H Q I h
  rw [arm_isTrue_IfExp]
  refine wpAny_bind (thn (hc.run pins s σ H _ I h) fun d s1 hq => ?_)
  obtain ⟨H1, I1, q1⟩ := hq
  cases d with
  | true => exact ha.run pins s1 σ H1 Q I1 q1
  | false => exact hb.run pins s1 σ H1 Q I1 q1
theorem sE_ite {c a b : Expr} {pos : Pos} {fc fa fb : FF.Env → R (Val × FF.Env)} (hc : PET Ω W X c fc) (ha : PET Ω W X a fa) (hb : PET Ω W X b fb) :
    PET Ω W X (.IfExp c a b pos) fun env => (asBool (fc env)).bind fun p => if p.1 = true then fa p.2 else fb p.2 := by
  constructor
  · refine PE.imp (pe_ifExp hc.pt ha.pe hb.pe) fun σ H Q hh => ?_
    refine tB1.mono (tB1.bindV (g := fun k env => if k = true then fa env else fb env) hh) fun k H' q => ?_
    cases k with
    | true => rw [if_pos rfl]; simpa using q
    | false => rw [if_neg Bool.false_ne_true]; simpa using q
  · refine PT.imp (pt_ifExp hc.pt ha.pt hb.pt) fun σ H Q hh => ?_
    have h2 : tB1 Ω W (fun env => (asBool (fc env)).bind fun p => if p.1 = true then asBool (fa p.2) else asBool (fb p.2)) σ H Q := tB1.congr (fun env => by
      rw [asBool_bind]; congr 1; funext p; split <;> rfl) hh
    refine tB1.mono (tB1.bindB (g := fun k env => if k = true then asBool (fa env) else asBool (fb env)) h2) fun k H' q => ?_
    cases k with
    | true => rw [if_pos rfl]; simpa using q
    | false => rw [if_neg Bool.false_ne_true]; simpa using q
/-- and, or: as a value and as a test -/
structure PBT (Ω : Wd) (W : WX) (X : Cx) (op : BoolOp) (vs : List Expr) (f : FF.Env → R (Bool × FF.Env)) : Prop where
  pe : ∀ pos, PE X (.BoolOp op vs pos) (tF Ω W fun env => (f env).bind fun p => .ok (.tr (.sh (.bool p.1)), p.2))
  pw : ∀ pos, PW X (.BoolOp op vs pos) (tB1 Ω W f)
theorem tF.asBool {f : FF.Env → R (Val × FF.Env)} {Q : VK} (h : tF Ω W (fun env => (asBool (f env)).bind fun p => .ok (.tr (.sh (.bool p.1)), p.2)) σ H Q) : tF Ω W f σ H Q := by
  refine tF.mono (asB (tB1.bindV (g := fun b env => .ok (.tr (.sh (.bool b)), env)) h)) fun x H' hx => ?_
  obtain ⟨k, rfl, q⟩ := hx
  exact tF.ok q
theorem sB_one {op : BoolOp} {a : Expr} {f : FF.Env → R (Val × FF.Env)} (h : PET Ω W X a f) : PBT Ω W X op [a] fun env => asBool (f env) := by
  constructor
  · intro pos
    exact PE.imp (pe_one h.pe) fun σ H Q hh => tF.asBool hh
  · intro pos
    cases op with
    | And => exact pw_and1 h.pt
    | Or => exact pw_or1 h.pt
theorem sB_cons {op : BoolOp} {a b : Expr} {rest : List Expr} {f : FF.Env → R (Val × FF.Env)} {fr : FF.Env → R (Bool × FF.Env)} (h : PET Ω W X a f) (hr : PBT Ω W X op (b :: rest) fr) (stop : Bool) (hs : stop = (match op with | .And => false | .Or => true)) :
    PBT Ω W X op (a :: b :: rest) fun env => (asBool (f env)).bind fun p => if p.1 = stop then .ok (stop, p.2) else fr p.2 := by
  have key : ∀ {σ : L2.St} {H : Hp} {Q : VK}, tF Ω W (fun env => ((asBool (f env)).bind fun p => if p.1 = stop then .ok (stop, p.2) else fr p.2).bind fun p => .ok (.tr (.sh (.bool p.1)), p.2)) σ H Q →
      tF Ω W f σ H (fun x H1 => ∃ k, x = .bl k ∧ (if k = stop then Q (.bl stop) H1 else tF Ω W (fun env => (fr env).bind fun p => .ok (.tr (.sh (.bool p.1)), p.2)) σ H1 Q)) := by
    intro σ H Q hh
    have h2 : tF Ω W (fun env => (asBool (f env)).bind fun p => (if p.1 = stop then .ok (stop, p.2) else fr p.2 : R (Bool × FF.Env)).bind fun p => .ok (.tr (.sh (.bool p.1)), p.2)) σ H Q := tF.congr (fun env => by cases asBool (f env) <;> rfl) hh
    refine tF.mono (asB (tB1.bindV (g := fun k env => (if k = stop then .ok (stop, env) else fr env : R (Bool × FF.Env)).bind fun p => .ok (.tr (.sh (.bool p.1)), p.2)) h2)) fun x H' hx => ?_
    obtain ⟨k, rfl, q⟩ := hx
    refine ⟨k, rfl, ?_⟩
    by_cases hk : k = stop
    · rw [if_pos hk]; simp only [hk, if_true, R.bind_ok] at q; exact tF.ok q
    · rw [if_neg hk]; simp only [hk, if_false] at q; exact q
  have key2 : ∀ {σ : L2.St} {H : Hp} {Q : Bool → Hp → Prop}, tB1 Ω W (fun env => (asBool (f env)).bind fun p => if p.1 = stop then .ok (stop, p.2) else fr p.2) σ H Q →
      tB1 Ω W (fun env => asBool (f env)) σ H (fun k H1 => if k = stop then Q stop H1 else tB1 Ω W fr σ H1 Q) := by
    intro σ H Q hh
    refine tB1.mono (tB1.bindB (g := fun k env => if k = stop then .ok (stop, env) else fr env) hh) fun k H' q => ?_
    by_cases hk : k = stop
    · rw [if_pos hk]; simp only [hk, if_true] at q; exact tB1.ok q
    · rw [if_neg hk]; simp only [hk, if_false] at q; exact q
  constructor
  · intro pos
    cases op with
    | And =>
      subst hs
      refine PE.imp (pe_and h.pe (hr.pe pos)) fun σ H Q hh => tF.mono (key hh) fun x H' ⟨k, hx, q⟩ => ⟨k, hx, ?_⟩
      cases k <;> simpa using q
    | Or =>
      subst hs
      refine PE.imp (pe_or h.pe (hr.pe pos)) fun σ H Q hh => tF.mono (key hh) fun x H' ⟨k, hx, q⟩ => ⟨k, hx, ?_⟩
      cases k <;> simpa using q
  · intro pos
    cases op with
    | And =>
      subst hs
      refine PW.imp (pw_and h.pt (hr.pw pos)) fun σ H Q hh => tB1.mono (key2 hh) fun k H' q => ?_
      cases k <;> simpa using q
    | Or =>
      subst hs
      refine PW.imp (pw_or h.pt (hr.pw pos)) fun σ H Q hh => tB1.mono (key2 hh) fun k H' q => ?_
      cases k <;> simpa using q
end
end FF

set_option Elab.async false
set_option linter.all false
set_option autoImplicit false
set_option maxRecDepth 100000
/-! FKb: sorted(..) of lists of ints. -/
namespace FF
open PySem PySem.Spec PyProof.Rows L2
/-! ### the order -/
theorem lex_tot : ∀ xs ys : List Int, HT.lexLt xs ys = false → HT.lexLt ys xs = false → xs = ys
  | [], [], _, _ => rfl
  | [], _ :: _, h, _ => by cases h
  | _ :: _, [], _, h => by cases h
  | x :: xs, y :: ys, h1, h2 => by
    rw [HT.lexLt_cons] at h1 h2
    by_cases e : x = y
    · subst e
      rw [if_pos rfl] at h1 h2
      rw [lex_tot xs ys h1 h2]
    · rw [if_neg e] at h1
      rw [if_neg (fun z => e z.symm)] at h2
      have a := of_decide_eq_false h1
      have b := of_decide_eq_false h2
      omega
def SrL (l : List (List Int)) : Prop := l.Pairwise fun p q => HT.lexLt q p = false
theorem srl_uniq : ∀ {a b : List (List Int)}, a.Perm b → SrL a → SrL b → a = b
  | [], b, p, _, _ => (List.nil_perm.mp p).symm ▸ rfl
  | x :: xs, [], p, _, _ => by have := p.length_eq; simp at this
  | x :: xs, y :: ys, p, h1, h2 => by
    have q1 := List.pairwise_cons.mp h1
    have q2 := List.pairwise_cons.mp h2
    have e : x = y := by
      have hx := p.mem_iff.mp (List.mem_cons_self ..)
      have hy := p.mem_iff.mpr (List.mem_cons_self ..)
      rcases List.mem_cons.mp hx with e | hx
      · exact e
      · rcases List.mem_cons.mp hy with e | hy
        · exact e.symm
        · exact lex_tot _ _ (q2.1 _ hx) (q1.1 _ hy)
    subst e
    rw [srl_uniq (List.perm_cons x |>.mp p) q1.2 q2.2]
theorem insL_perm (x : List Int) : ∀ l : List (List Int), (insL x l).Perm (x :: l)
  | [] => List.Perm.refl _
  | y :: ys => by
    unfold insL
    split
    · exact ((insL_perm x ys).cons y).trans (List.Perm.swap x y ys)
    · exact List.Perm.refl _
theorem sortL_perm : ∀ l : List (List Int), (sortL l).Perm l
  | [] => List.Perm.refl _
  | x :: xs => (insL_perm x (sortL xs)).trans ((sortL_perm xs).cons x)
theorem insL_srt (x : List Int) : ∀ {l : List (List Int)}, SrL l → SrL (insL x l)
  | [], _ => List.pairwise_cons.mpr ⟨fun z hz => (nomatch hz), .nil⟩
  | y :: ys, h => by
    have q := List.pairwise_cons.mp h
    unfold insL
    split
    · rename_i hxy
      refine List.pairwise_cons.mpr ⟨fun z hz => ?_, insL_srt x q.2⟩
      rcases List.mem_cons.mp ((insL_perm x ys).mem_iff.mp hz) with rfl | hz
      · exact NtL.lex_asym _ _ hxy
      · exact q.1 z hz
    · rename_i hxy
      have hxy : HT.lexLt y x = false := by simpa using hxy
      refine List.pairwise_cons.mpr ⟨fun z hz => ?_, h⟩
      rcases List.mem_cons.mp hz with rfl | hz
      · exact hxy
      · exact NtL.lex_tr _ _ _ hxy (q.1 z hz)
theorem sortL_srt : ∀ l : List (List Int), SrL (sortL l)
  | [] => List.Pairwise.nil
  | x :: xs => insL_srt x (sortL_srt xs)
/-! ### the call -/
def IsLi (h : Heap) (v : Value) (ns : List Int) : Prop := ∃ a its, v = .ref a ∧ h.IsList a (its : List Value).toArray ∧ IntsAre its ns
theorem intsAre_det : ∀ {its : List Value} {ns ms : List Int}, IntsAre its ns → IntsAre its ms → ns = ms
  | _, _, _, .nil, .nil => rfl
  | _, _, _, .cons n t h, .cons _ _ h' => by rw [intsAre_det h h']
theorem IsLi.det {h : Heap} {v : Value} {ns ms : List Int} (a : IsLi h v ns) (b : IsLi h v ms) : ns = ms := by
  obtain ⟨p, its, rfl, ⟨o, e1, _, n, e2⟩, i1⟩ := a
  obtain ⟨q, its2, e, ⟨o2, e3, _, n2, e4⟩, i2⟩ := b
  cases e
  rw [e1] at e3
  cases e3
  rw [e2] at e4
  cases e4
  exact intsAre_det i1 i2
theorem IsLi.keeps {h h' : Heap} {v : Value} {ns : List Int} (x : IsLi h v ns) (k : ∀ b o, h.get? b = some o → o.cls = .type "list" → v = .ref b → h'.get? b = some o) : IsLi h' v ns := by
  obtain ⟨p, its, rfl, ⟨o, e1, e2, n, e3⟩, i1⟩ := x
  exact ⟨p, its, rfl, ⟨o, k _ _ e1 e2 rfl, e2, n, e3⟩, i1⟩
section
variable {prog : Program} {w : World} {A : Around} {s : Shared} {E : Value → Shared → Prop}
theorem lt_li {v u : Value} {ns ms : List Int} {Q : Bool → Shared → Prop} (hu : A.units + 2 < cLine) (hv : IsLi s.heap v ns) (hw : IsLi s.heap u ms) (h : Q (HT.lexLt ns ms) s) : wpAny (model prog w) A (keyLt' oneType' v u) Q E s := by
  obtain ⟨a, its, rfl, la, i1⟩ := hv
  obtain ⟨b, its2, rfl, lb, i2⟩ := hw
  rw [keyLt'_oneType, oneLt'_eq]
  simp only [if_true]
  refine wpAny_bind (wpAny_cRoomFor (by omega) ?_)
  have l1 : its.length = ns.length := i1.length
  have l2 : its2.length = ms.length := i2.length
  have at1 : ∀ j (h1 : j < its.toArray.size), ∃ t, its.toArray[j] = .int (ns.getD j 0) t := fun j h1 => PyProof.Rows.IntsAre.int_at i1 _ _ (by simp at h1; simp [h1])
  have at2 : ∀ j (h1 : j < its2.toArray.size), ∃ t, its2.toArray[j] = .int (ms.getD j 0) t := fun j h1 => PyProof.Rows.IntsAre.int_at i2 _ _ (by simp at h1; simp [h1])
  have e := firstLt_lex ns ms 0 [] [] rfl rfl
  simp only [List.nil_append] at e
  rw [show ((List.range (min ns.length ms.length)).map (· + 0)) = List.range (min ns.length ms.length) by simp] at e
  have ty : s.TypeIs (.ref a) "list" := by
    obtain ⟨o, e1, e2, _⟩ := la
    exact ⟨o, e1, e2⟩
  refine wpAny_bind (wpAny_callSpecialIfBound?_slot ty F.slot_list_lt (SeqAt.call_list_lt (e := fun j => ns.getD j 0 == ms.getD j 0) (r := fun j => decide (ns.getD j 0 < ms.getD j 0)) la lb
    (fun j h1 h2 => ?_) (fun j h1 h2 _ => ?_) ?_))
  · obtain ⟨t, et⟩ := at1 j h1
    obtain ⟨t', et'⟩ := at2 j h2
    rw [et, et']
    exact SeqAt.EqAt.int_int _ _ _ _
  · obtain ⟨t, et⟩ := at1 j h1
    obtain ⟨t', et'⟩ := at2 j h2
    rw [et, et']
    exact HT.rcLt_int _ _ _ _ _ _
  · rw [List.size_toArray, List.size_toArray, l1, l2, e]
    exact wpAny_truthy_bool h
theorem li_sortable {a : Addr} {vs : List Value} {k : Value → List Int} (h2 : 2 ≤ vs.length) (hu : A.units + 2 < cLine) (hv : ∀ v ∈ vs, IsLi s.heap v (k v)) (ha : ∀ v ∈ vs, v ≠ .ref a) :
    SrtO.SortableO prog w A s a vs fun v u => HT.lexLt (k v) (k u) := by
  intro h' keep
  have hv' : ∀ v ∈ vs, IsLi h' v (k v) := fun v hm => (hv v hm).keeps fun b o e _ ev => keep b o (fun z => ha v hm (by rw [ev, z])) e
  refine ⟨oneType', fun Q E hq => ?_, fun p q hp hq => lt_li (s := { s with heap := h' }) (Q := fun r s' => s' = _ ∧ r = HT.lexLt (k p.1) (k q.1)) hu (hv' p.1 hp) (hv' q.1 hq) ⟨rfl, rfl⟩⟩
  refine PySem.W.kas_kind (s := { s with heap := h' }) (T := .type "list") h2 (fun v hm => ?_) (by rfl) (by rfl) hq
  obtain ⟨p, its, rfl, ⟨o, e1, e2, n, e3⟩, i1⟩ := hv' v hm
  have z : PySem.W.Looks (model prog w) h' (typeOf (.ref p)) o.cls := (PySem.W.Looks.ld e1).andThen .now
  rw [e2] at z
  exact z
end
/-! ### the rule -/
inductive LiAll (K : PySem.W.Frag) (H : Hp) : List V → List (List Int) → Prop
  | nil : LiAll K H [] []
  | cons {t : Addr} {xs : List V} {ks : List Int} {kss : List (List Int)} : SqL K H t (ks.map V.int) → LiAll K H xs kss → LiAll K H (.ref t :: xs) (ks :: kss)
/-- sorted(xs), xs a list of lists of ints -/
def rSortedLi (K : PySem.W.Frag) : List V → Hp → VK → Prop := fun vs H Q => ∃ (a : Addr) (xs : List V) (kss : List (List Int)), vs = [V.ref a] ∧ SqL K H a xs ∧ LiAll K H xs kss ∧
  ∀ zs : List (V × List Int), zs.Perm (xs.zip kss) → SrL (zs.map (·.2)) → ∀ p, H p = none → Q (.ref p) (upd H p (.lst (zs.map (·.1))))
noncomputable def keyV (h : Heap) (v : Value) : List Int := @dite _ (∃ ns, IsLi h v ns) (Classical.propDecidable _) (fun e => Classical.choose e) fun _ => []
theorem keyV_eq {h : Heap} {v : Value} {ns : List Int} (x : IsLi h v ns) : keyV h v = ns := by
  unfold keyV
  have e : ∃ ns, IsLi h v ns := ⟨ns, x⟩
  rw [dif_pos e]
  exact (Classical.choose_spec e).det x
section
variable {X : Cx} {pins : List (Addr × Obj)} {σ : L2.St} {H : Hp} {s : Shared}
theorem li_vals (I : Inv X pins σ H s) {xs : List V} {kss : List (List Int)} (l : LiAll X.K H xs kss) : ∀ {its : List Value}, Vals xs its →
    (∀ v ∈ its, (∃ a, v = Value.ref a) ∧ IsLi s.heap v (keyV s.heap v)) ∧ its.map (fun v => (backV v, keyV s.heap v)) = xs.zip kss := by
  induction l with
  | nil =>
    intro its r
    cases r
    exact ⟨fun _ h => (nomatch h), rfl⟩
  | @cons t xs ks kss hs hr ih =>
    intro its r
    cases r with
    | @cons _ u _ us r rs =>
      obtain rfl : u = Value.ref t := r
      obtain ⟨a, b⟩ := ih rs
      obtain ⟨its2, rv, hl, _⟩ := I.list hs
      have li : IsLi s.heap (.ref t) ks := ⟨t, its2, rfl, hl.isList, Vals.ints rv⟩
      refine ⟨fun v hv => ?_, ?_⟩
      · rcases List.mem_cons.mp hv with rfl | hv
        · exact ⟨⟨t, rfl⟩, by rw [keyV_eq li]; exact li⟩
        · exact a v hv
      · rw [List.map_cons, List.zip_cons_cons, b, keyV_eq li]
        rfl
end
theorem cr_sortedLi {X : Cx} (hu : X.A.units + 65 < cLine) : CallR X (.builtin "sorted") (rSortedLi X.K) := by
  intro pins s σ H vs us Q I r h
  obtain ⟨a, xs, kss, rfl, hs, hx, q⟩ := h
  obtain ⟨its, rv, hl, hz⟩ := I.list hs
  obtain ⟨u, rfl, ru⟩ := vals1 r
  obtain rfl : u = Value.ref a := ru
  obtain ⟨f, ez⟩ := li_vals I hx rv
  refine SrtO.sorted_ord (NtL.swo_lexL (keyV s.heap)) hl.isList (by rw [← rv.length]; exact hz) (fun h2 h₁ b hb kk => ?_) fun out hs' hb => ?_
  · refine li_sortable (s := { s with heap := h₁ }) h2 (by show X.A.units + 1 + 1 + 2 < cLine; omega) (fun v hv => (f v hv).2.keeps fun c o e _ _ => (kk c o e).2) fun v hv z => ?_
    obtain ⟨⟨c, rfl⟩, p, its2, e, ⟨o, e1, _⟩, _⟩ := f v hv
    cases e
    cases z
    exact (kk _ o e1).1 rfl
  · have h3 : ∀ u ∈ out, ∃ a, u = Value.ref a := fun u hu => (f u (hb.perm.mem_iff.mp hu)).1
    have pz : (out.map fun v => (backV v, keyV s.heap v)).Perm (xs.zip kss) := by
      rw [← ez]
      exact hb.perm.map _
    have sz : SrL ((out.map fun v => (backV v, keyV s.heap v)).map (·.2)) := by
      rw [List.map_map]
      exact List.pairwise_map.mpr hs'
    have q1 := q _ pz sz
    rw [List.map_map] at q1
    obtain ⟨n, hn⟩ := sortedAll_at s.heap its out.toArray
    have hd : s.heap.objs.size ≤ s.heap.objs.size + 1 := Nat.le_succ _
    refine ⟨.ref _, upd H _ (.lst (out.map backV)), I.laid (t' := s.toks) (fun b o e => sortedAll_old e) hd ⟨?_, out, n, vals_back h3, hn⟩, rfl, q1 _ (I.hok.fresh hd)⟩
    rw [List.length_map, hb.perm.length_eq, ← rv.length]
    exact hz
end FF

set_option Elab.async false
set_option linter.all false
set_option autoImplicit false
set_option maxRecDepth 100000
/-! FL: items, slices, built-in calls. -/
namespace FF
open PySem PySem.Spec PyProof.Rows L2
section
variable {Ω : Wd} {W : WX} {G H : Hp} {σ : L2.St} {F : List Addr} {Θ : Tab} {n : Nat} {os : Scope} {X : Cx}

theorem atI_some {α : Type} {xs : List α} {k : Int} {v : α} (h : atI xs k = some v) : ∃ j, ixN xs.length k = some j ∧ xs[j]? = some v := by
  unfold atI at h
  cases e : ixN xs.length k with
  | none => rw [e] at h; cases h
  | some j => rw [e] at h; exact ⟨j, rfl, h⟩
theorem atI_mk {α : Type} {xs : List α} {k : Int} {j : Nat} {v : α} (h : ixN xs.length k = some j) (e : xs[j]? = some v) : atI xs k = some v := by
  unfold atI
  rw [h]
  exact e
theorem dp_at {G : Hp} {vs : List V} {ds : List D} {k : Int} {d : D} (h : DpAll Ω.K G vs ds) (e : atI ds k = some d) : ∃ v, atI vs k = some v ∧ Dp Ω.K G v d := by
  obtain ⟨j, e1, e2⟩ := atI_some e
  obtain ⟨v, e3, q⟩ := FF.DpAll.get h e2
  exact ⟨v, atI_mk (by rw [FF.DpAll.len h]; exact e1) e3, q⟩
/-- what an item of a value is -/
def IxG (Ω : Wd) (G H : Hp) (σ : L2.St) (Fb : List Addr) (x : V) (k : Int) (w : Val) (env' : FF.Env) : Prop :=
  ∃ p xs v, x = .ref p ∧ (SqL Ω.K H p xs ∨ SqT Ω.K H p xs) ∧ atI xs k = some v ∧ ∃ G1 F1 Fw, Step G H Fb G1 H (F1 ++ Fw) ∧ St Ω G1 H σ env' F1 ∧ VR Ω G1 H σ env'.length v w Fw ∧ (F1 ++ Fw).Nodup
theorem ixG_sh {env : FF.Env} {Fb : List Addr} {k : Int} {ds : List D} {d : D} {xs : List V} {p : Addr} (st : St Ω G H σ env F) (sub : ∀ q ∈ F, q ∈ Fb) (hs : SqL Ω.K H p xs ∨ SqT Ω.K H p xs) (hd : DpAll Ω.K G xs ds) (e : atI ds k = some d) :
    IxG Ω G H σ Fb (.ref p) k (.tr (.sh d)) env := by
  obtain ⟨v, e1, q⟩ := dp_at hd e
  exact ⟨p, xs, v, rfl, hs, e1, G, F, [], Step.refl fun q hq => sub q (by simpa using hq), st, .sh q, by simpa using st.nd⟩
theorem ixG_own {env : FF.Env} {Fx : List Addr} {k : Int} {ts : List Tr} {t : Tr} {xs : List V} {p : Addr} (st : St Ω G H σ env F) (hs : SqL Ω.K H p xs ∨ SqT Ω.K H p xs) (r : TRs Ω G H xs ts Fx) (nd : (F ++ (p :: Fx)).Nodup) (e : atI ts k = some t) :
    IxG Ω G H σ (F ++ (p :: Fx)) (.ref p) k (.tr t) env := by
  obtain ⟨j, e1, e2⟩ := atI_some e
  obtain ⟨v, F0, F1, F2, e3, rfl, q, _, _⟩ := r.at e2
  obtain ⟨n1, n2, dj⟩ := nodup_app.mp nd
  have n3 := (List.nodup_cons.mp n2).2
  obtain ⟨_, n4, _⟩ := nodup_app.mp n3
  obtain ⟨n5, _, _⟩ := nodup_app.mp n4
  refine ⟨p, xs, v, rfl, hs, atI_mk (by rw [r.len]; exact e1) e3, G, F, F1, Step.refl fun q hq => ?_, st, q, nodup_app.mpr ⟨n1, n5, fun a ha hb => dj a ha ?_⟩⟩
  · simp only [List.mem_append, List.mem_cons] at hq ⊢
    rcases hq with hq | hq
    · exact .inl hq
    · exact .inr (.inr (.inr (.inl hq)))
  · simp only [List.mem_append, List.mem_cons]
    exact .inr (.inr (.inl hb))
theorem set_parts {α : Type} {ts : List α} {j : Nat} {u : α} (h : j < ts.length) : ts.set j u = ts.take j ++ (u :: ts.drop (j + 1)) := by
  rw [List.set_eq_take_append_cons_drop, if_pos h]
/-- one item without cells -/
theorem trs_frzAt {xs : List V} {ts : List Tr} {Ft : List Addr} {j : Nat} {t u : Tr} (s : Same G H) (r : TRs Ω G H xs ts Ft) (nd : Ft.Nodup) (e : ts[j]? = some t) (eu : frz t = some u) :
    ∃ x F0 F1 F2, xs[j]? = some x ∧ Ft = F0 ++ (F1 ++ F2) ∧ TR Ω G H x t F1 ∧ TR Ω (join G H F1) H x u [] ∧ TRs Ω (join G H F1) H xs (ts.set j u) (F0 ++ F2) := by
  obtain ⟨x, F0, F1, F2, e1, rfl, q, q0, q2⟩ := r.at e
  have hj : j < ts.length := (List.getElem?_eq_some_iff.mp e).1
  have hj' : j < xs.length := by rw [r.len]; exact hj
  obtain ⟨n0, n1, d0⟩ := nodup_app.mp nd
  obtain ⟨n2, n3, d1⟩ := nodup_app.mp n1
  have th := q.there
  have gs : Same G (join G H F1) := join_same fun a ha => (th a ha).2
  have hr := frz_ok s q eu
  refine ⟨x, F0, F1, F2, e1, rfl, q, hr, ?_⟩
  have a := q0.to gs (fun _ _ _ e => e) fun p hp => by
    rw [join_out fun hh => d0 p hp (List.mem_append_left _ hh)]; exact (q0.there p hp).2
  have b := q2.to gs (fun _ _ _ e => e) fun p hp => by
    rw [join_out fun hh => d1 p hh hp]; exact (q2.there p hp).2
  have ex : xs = xs.take j ++ (x :: xs.drop (j + 1)) := by rw [← set_parts hj', set_same e1]
  rw [set_parts hj]
  have c := TRs.app a (TRs.cons (F1 := []) hr b)
  rw [← ex] at c
  exact c
/-- a slot's list: an item of it given up -/
theorem ixG_brw {env : FF.Env} {i : Nat} {k : Int} {ts : List Tr} {v : V} {isT : Bool} {w : Val} {env' : FF.Env} (st : St Ω G H σ env F) (e : slot env i = some (if isT then .tup ts else .lst ts)) (hv : σ[i]? = some (some v))
    (h : (match ixN ts.length k with
      | some j => (match ts[j]? with
        | some (.sh d) => some (.tr (.sh d), env)
        | some t => (match frz t with
          | some u => some (.tr u, env.set i (some (if isT then .tup (ts.set j u) else .lst (ts.set j u))))
          | none => none)
        | none => none)
      | none => none) = some (w, env')) : IxG Ω G H σ F v k w env' := by
  obtain ⟨v', Fa, F2, a, b, c, d, nd⟩ := st.out e
  rw [a] at hv; cases hv
  obtain ⟨p, xs, Ft, rfl, rfl, hs, gN, r, hmk⟩ : ∃ p xs Ft, v = .ref p ∧ Fa = p :: Ft ∧ (SqL Ω.K H p xs ∨ SqT Ω.K H p xs) ∧ G p = none ∧ TRs Ω G H xs ts Ft ∧
      (∀ G' us F', G' p = none → TRs Ω G' H xs us F' → TR Ω G' H (.ref p) (if isT then .tup us else .lst us) (p :: F')) := by
    cases isT with
    | true =>
      rw [if_pos rfl] at b
      cases b with
      | tup eH gN r => exact ⟨_, _, _, rfl, rfl, .inr (.of eH), gN, r, fun G' us F' g q => by rw [if_pos rfl]; exact .tup eH g q⟩
    | false =>
      rw [if_neg Bool.false_ne_true] at b
      cases b with
      | lst eH gN r => exact ⟨_, _, _, rfl, rfl, .inl (.of eH), gN, r, fun G' us F' g q => by rw [if_neg Bool.false_ne_true]; exact .lst eH g q⟩
  cases e1 : ixN ts.length k with
  | none => rw [e1] at h; cases h
  | some j =>
    rw [e1] at h
    dsimp only at h
    cases e2 : ts[j]? with
    | none => simp only [e2] at h; cases h
    | some t =>
      by_cases hsh : ∃ dd, t = .sh dd
      · obtain ⟨dd, rfl⟩ := hsh
        simp only [e2] at h
        cases h
        obtain ⟨x, F0, F1, F3, e3, rfl, q, _, _⟩ := r.at e2
        have ei : atI xs k = some x := atI_mk (by rw [r.len]; exact e1) e3
        cases q with
        | sh q => exact ⟨p, xs, x, rfl, hs, ei, G, F, [], Step.refl fun _ h => by simpa using h, st, .sh q, by simpa using st.nd⟩
      · obtain ⟨u, eu, ew⟩ : ∃ u, frz t = some u ∧ (w, env') = (.tr u, env.set i (some (if isT then .tup (ts.set j u) else .lst (ts.set j u)))) := by
          rw [e2] at h
          cases t with
          | sh dd => exact absurd ⟨dd, rfl⟩ hsh
          | _ =>
            simp only at h
            split at h
            · rename_i u eu; exact ⟨u, eu, (Option.some.inj h).symm⟩
            · cases h
        cases ew
        obtain ⟨k1, k2, kj⟩ := nodup_app.mp nd
        have hp := (List.nodup_cons.mp k1).1
        have k3 := (List.nodup_cons.mp k1).2
        obtain ⟨x, F0, F1, F3, e3, rfl, q, hr, qd⟩ := trs_frzAt st.same r k3 e2 eu
        have ei : atI xs k = some x := atI_mk (by rw [r.len]; exact e1) e3
        obtain ⟨m0, m1, mj⟩ := nodup_app.mp k3
        obtain ⟨m2, m3, mj2⟩ := nodup_app.mp m1
        have th := q.there
        have gs : Same G (join G H F1) := join_same fun a ha => (th a ha).2
        have out : ∀ a, a ∉ F1 → G a = none → join G H F1 a = none := fun a h1 h2 => by rw [join_out h1]; exact h2
        have rl := hmk _ _ _ (out p (fun hh => hp (List.mem_append_right _ (List.mem_append_left _ hh))) gN) qd
        have c' : SlR Ω (join G H F1) H σ (env.set i none) F2 := c.to gs (fun _ _ _ e => e) fun a ha => out a (fun hh => kj.symm a ha (List.mem_cons_of_mem _ (List.mem_append_right _ (List.mem_append_left _ hh)))) (c.there a ha).2
        obtain ⟨F4, w1, w2⟩ := c'.back (slot_lt e) rl a
        have mm : ∀ a, a ∈ F4 ↔ (a = p ∨ a ∈ F0 ∨ a ∈ F3) ∨ a ∈ F2 := fun a => by rw [w2.mem_iff]; simp [or_assoc]
        refine ⟨p, xs, x, rfl, hs, ei, join G H F1, F4, [], Step.join (fun a ha => d.mem_iff.mpr ?_) (fun a ha => (th a ha).2) fun a ha => d.mem_iff.mpr ?_, ⟨join_sub st.same, w1, w2.nodup_iff.mpr ?_⟩, hr, ?_⟩
        · simp [ha]
        · rw [List.append_nil] at ha
          rcases (mm a).mp ha with (z | z | z) | z
          · subst z; simp
          · simp [z]
          · simp [z]
          · simp [z]
        · refine nodup_app.mpr ⟨List.nodup_cons.mpr ⟨fun hh => hp ?_, nodup_app.mpr ⟨m0, m3, fun a h1 h2 => mj a h1 (List.mem_append_right _ h2)⟩⟩, k2, fun a ha hb => kj a ?_ hb⟩
          · simp only [List.mem_append] at hh ⊢
            exact hh.imp id .inr
          · simp only [List.mem_cons, List.mem_append] at ha ⊢
            exact ha.imp id fun z => z.imp id .inr
        · rw [List.append_nil]
          refine w2.nodup_iff.mpr (nodup_app.mpr ⟨List.nodup_cons.mpr ⟨fun hh => hp ?_, nodup_app.mpr ⟨m0, m3, fun a h1 h2 => mj a h1 (List.mem_append_right _ h2)⟩⟩, k2, fun a ha hb => kj a ?_ hb⟩)
          · simp only [List.mem_append] at hh ⊢
            exact hh.imp id .inr
          · simp only [List.mem_cons, List.mem_append] at ha ⊢
            exact ha.imp id fun z => z.imp id .inr

theorem idxV_ok {env : FF.Env} {x : V} {va : Val} {Fx : List Addr} {k : Int} {w : Val} {env' : FF.Env} (st : St Ω G H σ env F) (vr : VR Ω G H σ env.length x va Fx) (nd : (F ++ Fx).Nodup) (h : idxV va k env = some (w, env')) : IxG Ω G H σ (F ++ Fx) x k w env' := by
  have shl : ∀ {p : Addr} {ds : List D} {vs : List V} {Fb : List Addr}, (∀ q ∈ F, q ∈ Fb) → (SqL Ω.K H p vs ∨ SqT Ω.K H p vs) → DpAll Ω.K G vs ds → (atI ds k).map (fun d => (Val.tr (.sh d), env)) = some (w, env') → IxG Ω G H σ Fb (.ref p) k w env' := by
    intro p ds vs Fb sub hs hd e
    rw [Option.map_eq_some_iff] at e
    obtain ⟨d, e1, e2⟩ := e
    cases e2
    exact ixG_sh st sub hs hd e1
  have shd : ∀ {d : D} {Fb : List Addr}, (∀ q ∈ F, q ∈ Fb) → Dp Ω.K G x d → (match d with | .list ds | .tuple ds => (atI ds k).map fun d => (Val.tr (.sh d), env) | _ => none) = some (w, env') → IxG Ω G H σ Fb x k w env' := by
    intro d Fb sub q e
    split at e
    · obtain ⟨a, vs, rfl, q1, q2⟩ := dp_list q
      exact shl sub (.inl (sqL_mono st.same q1)) q2 e
    · obtain ⟨a, vs, rfl, q1, q2⟩ := dp_tuple q
      exact shl sub (.inr (sqT_mono st.same q1)) q2 e
    · cases e
  cases va with
  | tr t =>
    cases t with
    | sh d =>
      cases vr with
      | sh q =>
        refine shd (d := d) (fun q hq => List.mem_append_left _ hq) q ?_
        cases d <;> exact h
    | lst ts =>
      simp only [idxV] at h
      rw [Option.map_eq_some_iff] at h
      obtain ⟨t, e1, e2⟩ := h
      cases e2
      cases vr with
      | lst e g r => exact ixG_own st (.inl (.of e)) r nd e1
    | tup ts =>
      simp only [idxV] at h
      rw [Option.map_eq_some_iff] at h
      obtain ⟨t, e1, e2⟩ := h
      cases e2
      cases vr with
      | tup e g r => exact ixG_own st (.inr (.of e)) r nd e1
    | fn j => simp [idxV] at h
    | exc c d => simp [idxV] at h
  | brw i =>
    obtain ⟨z, _, rfl⟩ := vr
    rw [List.append_nil]
    simp only [idxV] at h
    cases e : slot env i with
    | none => simp [e] at h
    | some t =>
      cases t with
      | sh d =>
        obtain ⟨v, F1, F2, a, b, _⟩ := st.out e
        rw [a] at z; cases z
        cases b with
        | sh q =>
          refine shd (d := d) (fun q hq => hq) q ?_
          rw [e] at h
          cases d <;> exact h
      | lst ts =>
        refine ixG_brw (isT := false) (ts := ts) st (by rw [e]; rfl) z ?_
        rw [e] at h
        exact h
      | tup ts =>
        refine ixG_brw (isT := true) (ts := ts) st (by rw [e]; rfl) z ?_
        rw [e] at h
        exact h
      | fn j => simp [e] at h
      | exc c d => simp [e] at h
theorem plain_ix {b : Expr} (h : isSliceE b = false) : PlainIx b := by
  cases b with
  | Slice => cases h
  | _ => intro o i; rfl
theorem sE_idx (g : GX Ω n W os X) {a b : Expr} {pos : Pos} {fa fb : FF.Env → R (Val × FF.Env)} (ha : PE X a (tF Ω W fa)) (hb : PE X b (tF Ω W fb)) (hs : isSliceE b = false) :
    PE X (.Subscript a b pos) (tF Ω W fun env => (fa env).bind fun p => (fb p.2).bind fun q => (match getV q.2 q.1 with
    | some (.sh (.int k)) => R.of (idxV p.1 k q.2)
    | _ => .bad)) := by
  refine PE.imp (pe_ix ix_seq ha hb (plain_ix hs)) fun σ H Q hh => two (g := fun va vb env => (match getV env vb with
    | some (.sh (.int k)) => R.of (idxV va k env)
    | _ => .bad)) hh fun x y vx vy G1 H1 env1 F1 Fx Fy st hx hy nd o => ?_
  rw [g.w.K]
  split at o
  · rename_i k e
    cases dp_int (getV_atom st hy e)
    cases e2 : idxV vx k env1 with
    | none => simp only [e2, R.of_none] at o; exact o.elim
    | some p =>
      obtain ⟨w, env2⟩ := p
      simp only [e2, R.of_some] at o
      rw [← List.append_assoc] at nd o
      obtain ⟨n1, _, _⟩ := nodup_app.mp nd
      obtain ⟨p, xs, v, rfl, hs, e3, G2, F2, Fw, s2, st2, vr2, nd2⟩ := idxV_ok st hx n1 e2
      have q : Q v H1 := (o.after (s2.wide fun q hq => List.mem_append_left _ hq)) v G2 H1 F2 Fw (Step.refl fun _ h => h) st2 vr2 nd2
      rcases hs with hs | hs
      · exact .inl ⟨p, xs, k, v, rfl, rfl, hs, e3, q⟩
      · exact .inr (.inl ⟨p, xs, k, v, rfl, rfl, hs, e3, q⟩)
  · exact o.elim

/-! ### lists of values, by the values alone -/
theorem looks_all {env : FF.Env} {m : Nat} {vs : List V} {xs : List Val} {Fv : List Addr} {ds : List D} (st : St Ω G H σ env F) (vr : VRs Ω G H σ m vs xs Fv) (h : looks env xs = some ds) : DpAll Ω.K H vs ds := looks_ok st vr h
theorem dpAll1 {H : Hp} {vs : List V} {d : D} (h : DpAll Ω.K H vs [d]) : ∃ v, vs = [v] ∧ Dp Ω.K H v d := by
  cases h with
  | cons a b => cases b; exact ⟨_, rfl, a⟩
theorem dpAll2 {H : Hp} {vs : List V} {d e : D} (h : DpAll Ω.K H vs [d, e]) : ∃ v w, vs = [v, w] ∧ Dp Ω.K H v d ∧ Dp Ω.K H w e := by
  cases h with
  | cons a b => cases b with
    | cons c e => cases e; exact ⟨_, _, rfl, a, c⟩

/-! ### built-ins that give plain values -/
theorem maxL_ok : ∀ {is : List Int} {m : Int}, maxL is = some m → m ∈ is ∧ ∀ y ∈ is, y ≤ m
  | [], m, h => by simp [maxL] at h
  | [x], m, h => by simp only [maxL, Option.some.injEq] at h; subst h; simp
  | x :: y :: ys, m, h => by
    simp only [maxL, Option.map_eq_some_iff] at h
    obtain ⟨z, e, rfl⟩ := h
    obtain ⟨a, b⟩ := maxL_ok e
    split
    · refine ⟨List.mem_cons_self .., fun w hw => ?_⟩
      rcases List.mem_cons.mp hw with rfl | hw
      · exact Int.le_refl _
      · have := b w hw; omega
    · refine ⟨List.mem_cons_of_mem _ a, fun w hw => ?_⟩
      rcases List.mem_cons.mp hw with rfl | hw
      · omega
      · exact b w hw
theorem minL_ok : ∀ {is : List Int} {m : Int}, minL is = some m → m ∈ is ∧ ∀ y ∈ is, m ≤ y
  | [], m, h => by simp [minL] at h
  | [x], m, h => by simp only [minL, Option.some.injEq] at h; subst h; simp
  | x :: y :: ys, m, h => by
    simp only [minL, Option.map_eq_some_iff] at h
    obtain ⟨z, e, rfl⟩ := h
    obtain ⟨a, b⟩ := minL_ok e
    split
    · refine ⟨List.mem_cons_self .., fun w hw => ?_⟩
      rcases List.mem_cons.mp hw with rfl | hw
      · exact Int.le_refl _
      · have := b w hw; omega
    · refine ⟨List.mem_cons_of_mem _ a, fun w hw => ?_⟩
      rcases List.mem_cons.mp hw with rfl | hw
      · omega
      · exact b w hw
def rBiD (K : PySem.W.Frag) (b : Bi) : List V → Hp → VK → Prop := fun vs H Q => ∃ ds d, DpAll K H vs ds ∧ biD b ds = some d ∧ ∀ v, (∀ G, Dp K G v d) → Q v H
theorem dp_plain {K : PySem.W.Frag} (i : Int) : ∀ G, Dp K G (.int i) (.int i) := fun _ => .int i
section
variable {X : Cx} {pins : List (Addr × Obj)} {σ : L2.St} {H : Hp} {s : Shared}
/-- what an empty dict is -/
theorem dct_is (I : Inv X pins σ H s) {a : Addr} (h : Rd H a (.dK [])) : ∃ (o : Obj) (n : Nat), s.heap.get? a = some o ∧ o.cls = .type "dict" ∧ o.data = .dict #[] n ∧ (a == sysModules) = false := by
  obtain ⟨_, hS, vs, rel, dd⟩ := dk_rd I.hok h
  cases rel
  obtain ⟨o, es, n, e1, e2, e3, _, e5, _⟩ := dd
  have z : es.toList = [] := by
    generalize es.toList = l at e5
    cases e5
    rfl
  have z2 : es = #[] := by
    cases es
    cases z
    rfl
  subst z2
  exact ⟨o, n, e1, e2.1, e3, hS⟩
/-- what a dict of one text and one number is -/
theorem dc1_is (I : Inv X pins σ H s) {a : Addr} {x : Str} {i : Int} (h : Rd H a (.dK [(.inr x, .int i)])) : ∃ (o : Obj) (es : Array DictEntry) (n : Nat) (e : DictEntry) (t t' : Tok), s.heap.get? a = some o ∧ o.cls = .type "dict" ∧ o.data = .dict es n ∧
    es.toList = [e] ∧ e.key = .str x t ∧ e.val = .int i t' ∧ (a == sysModules) = false := by
  obtain ⟨_, hS, vs, rel, dd⟩ := dk_rd I.hok h
  cases rel with
  | cons hh tt =>
    cases tt
    obtain ⟨k1, k2⟩ := hh
    rename_i q
    obtain ⟨qk, qv⟩ := q
    dsimp only at k1 k2
    subst k1
    obtain ⟨t', rfl⟩ := k2
    obtain ⟨o, es, n, e1, e2, e3, _, e5, _⟩ := dd
    generalize hl : es.toList = l at e5
    cases e5 with
    | cons m1 m2 m3 =>
      cases m3
      rename_i e
      rcases keyIs_shape (k := .inr x) (v := e.key) m1 with ⟨j, t, z, _⟩ | ⟨y, t, z, z2⟩
      · cases z
      · cases z
        exact ⟨o, es, n, e, t, t', e1, e2.1, e3, hl, z2, m2, hS⟩
mutual
/-- data, read and shown -/
theorem Dp.rk (I : Inv X pins σ H s) : ∀ (d : PyData) (v : V) (u : Value), Dp X.K H v d → RelV v u → d.showable = true → d.shown.length ≤ sizeLine → ∃ as, Reads s.heap u d as ∧ ∃ bs, ReadAtMost s.heap d.depth bs ∧ ReprK X.prog X.w bs s.heap d.depth u d.shown
  | .none, _, _, h, r, _, _ => by
    cases h
    cases r
    refine ⟨_, Reads.none, [], (fun _ q => nomatch q), ?_⟩
    rw [PyData.shown]
    exact .of_is ReprIs.none _ _ _
  | .bool b, _, _, h, r, _, _ => by
    cases h
    cases r
    refine ⟨_, Reads.bool b, [], (fun _ q => nomatch q), ?_⟩
    rw [PyData.shown]
    exact .of_is (ReprIs.bool b) _ _ _
  | .int i, _, _, h, r, hs, _ => by
    cases h
    obtain ⟨t, rfl⟩ := r
    refine ⟨_, Reads.int i t, [], (fun _ q => nomatch q), ?_⟩
    rw [PyData.shown]
    rw [PyData.showable] at hs
    exact .of_is (ReprIs.int t (of_decide_eq_true hs)) _ _ _
  | .str x, _, _, h, r, _, hz => by
    cases h
    obtain ⟨t, rfl⟩ := r
    refine ⟨_, Reads.str x t, [], (fun _ q => nomatch q), ?_⟩
    rw [PyData.shown] at hz ⊢
    exact .of_is (ReprIs.str x t hz) _ _ _
  | .list ds, _, _, h, r, hs, hz => by
    cases h with
    | lst hl ha =>
      cases r
      rename_i a vs
      obtain ⟨its, rv, ⟨o, n, ho, hc, _, hd⟩, _⟩ := I.list hl
      rw [PyData.shown] at hz
      rw [PyData.showable] at hs
      obtain ⟨as, hr, bs, hb, hk⟩ := Dp.rks I ds _ its ha rv hs fun t q => Nat.le_trans (listText_mem_le q) hz
      have rd : Reads s.heap (.ref a) (.list ds) (a :: as) := Reads.list ho hc hd hr
      have dl : (PyData.list ds).depth = PyData.depthAll ds + 1 := by rw [PyData.depth]
      refine ⟨_, rd, a :: bs, ReadAtMost.cons rd (by omega) hb, ?_⟩
      have no : a ∉ bs := not_mem_of_deeper rd (by omega) hb
      rw [dl, PyData.shown]
      cases its with
      | nil =>
        cases hr
        rw [PyData.shownAll, listText_nil]
        exact ReprK.listEmpty ho hc hd
      | cons x l => exact ReprK.list ho hc hd no (by simpa using hk.length_eq) fun i y e => hk.item i y (by simpa using e)
  | .tuple ds, _, _, h, r, hs, hz => by
    cases h with
    | tup hl ha =>
      cases r
      rename_i a vs
      obtain ⟨its, rv, ⟨o, ho, hc, n, hd⟩, _⟩ := I.tuple hl
      rw [PyData.shown] at hz
      rw [PyData.showable] at hs
      obtain ⟨as, hr, bs, hb, hk⟩ := Dp.rks I ds _ its ha rv hs fun t q => Nat.le_trans (tupleText_mem_le q) hz
      have rd : Reads s.heap (.ref a) (.tuple ds) as := Reads.tuple ho hc hd hr
      have dl : (PyData.tuple ds).depth = PyData.depthAll ds + 1 := by rw [PyData.depth]
      refine ⟨_, rd, a :: bs, ReadAtMost.cons rd (by omega) hb, ?_⟩
      rw [dl, PyData.shown]
      exact ReprK.tuple ho hc hd (not_mem_of_deeper rd (by omega) hb) hk
  | .dict _, _, _, h, r, hs, hz => by
    cases h with
    | dct hl =>
      cases r
      rename_i a
      obtain ⟨o, n, ho, hc, hd, hS⟩ := dct_is I hl
      have rd : Reads s.heap (.ref a) (.dict []) (a :: [] ++ []) := Reads.dict ho hc hd ReadsAll.nil ReadsAll.nil
      have e : (PyData.dict []).depth = 1 := rfl
      refine ⟨_, rd, [a], fun b hb => ?_, ?_⟩
      · rw [List.mem_singleton] at hb
        subst hb
        exact ⟨_, _, rd, Nat.le_refl _⟩
      · exact ReprK.dict (as := []) (d := 0) (ps := []) ho hc hd hS (fun q => nomatch q) ReprEntriesK.nil
    | dc1 hl =>
      cases r
      rename_i a x i
      obtain ⟨o, es, n, e, t, t', ho, hc, hd, hl1, hk, hv, hS⟩ := dc1_is I hl
      have rd : Reads s.heap (.ref a) (.dict [(.str x, .int i)]) (a :: [] ++ []) := Reads.dict ho hc hd (by rw [hl1, List.map_cons, List.map_nil, hk]; exact .cons (as := []) (.str x t) .nil) (by rw [hl1, List.map_cons, List.map_nil, hv]; exact .cons (as := []) (.int i t') .nil)
      have e0 : (PyData.dict [(.str x, .int i)]).depth = 1 := by simp only [PyData.depth, PyData.depthKv]; rfl
      obtain ⟨hs1, hs2⟩ := PyData.showableKv_split [(.str x, .int i)] (by simpa [PyData.showable] using hs)
      have hi : i.natAbs.log2 < 1920 := by
        simp only [List.map_cons, List.map_nil, PyData.showableAll, PyData.showable, Bool.and_true, decide_eq_true_eq] at hs2
        exact hs2
      rw [PyData.shown] at hz
      have hx : (reprText x).length ≤ sizeLine := by
        obtain ⟨p, hp, hl⟩ := PyData.shownKv_key_le [(.str x, .int i)] (reprText x) (by simp only [List.map_cons, List.map_nil, PyData.shownAll, PyData.shown]; exact List.mem_cons_self ..)
        exact Nat.le_trans hl (Nat.le_trans (dictText_mem_le hp) hz)
      refine ⟨_, rd, [a], fun b hb => ?_, ?_⟩
      · rw [List.mem_singleton] at hb
        subst hb
        exact ⟨_, _, rd, by omega⟩
      · rw [e0, PyData.shown]
        refine ReprK.dict (as := []) (d := 0) ho hc hd hS (fun q => nomatch q) ?_
        rw [hl1]
        simp only [PyData.shownKv, PyData.shown]
        refine .cons ?_ ?_ .nil
        · rw [hk]; exact .of_is (ReprIs.str x t hx) _ _ _
        · rw [hv]; exact .of_is (ReprIs.int t' hi) _ _ _
theorem Dp.rks (I : Inv X pins σ H s) : ∀ (ds : List PyData) (vs : List V) (us : List Value), DpAll X.K H vs ds → Vals vs us → PyData.showableAll ds = true → (∀ t ∈ PyData.shownAll ds, t.length ≤ sizeLine) →
    ∃ as, ReadsAll s.heap us ds as ∧ ∃ bs, ReadAtMost s.heap (PyData.depthAll ds) bs ∧ ReprAllK X.prog X.w bs s.heap (PyData.depthAll ds) us (PyData.shownAll ds)
  | [], _, _, h, r, _, _ => by
    cases h
    cases r
    exact ⟨_, ReadsAll.nil, [], (fun _ q => nomatch q), ReprAllK.nil⟩
  | d :: ds, _, _, h, r, hs, hz => by
    cases h with
    | cons h1 h2 =>
      cases r with
      | cons r1 r2 =>
        rw [PyData.showableAll, Bool.and_eq_true] at hs
        obtain ⟨as, q1, bs, b1, k1⟩ := Dp.rk I d _ _ h1 r1 hs.1 (hz _ (by rw [PyData.shownAll]; exact List.mem_cons_self ..))
        obtain ⟨as2, q2, bs2, b2, k2⟩ := Dp.rks I ds _ _ h2 r2 hs.2 fun t ht => hz t (by rw [PyData.shownAll]; exact List.mem_cons_of_mem _ ht)
        have dl : PyData.depthAll (d :: ds) = max d.depth (PyData.depthAll ds) := by rw [PyData.depthAll]
        refine ⟨_, ReadsAll.cons q1 q2, bs ++ bs2, ?_, ?_⟩
        · rw [dl]
          exact (b1.mono (Nat.le_max_left ..)).append (b2.mono (Nat.le_max_right ..))
        · rw [dl, PyData.shownAll]
          exact .cons ((k1.more fun b q => List.mem_append_left _ q).level_le (Nat.le_max_left ..)) (k2.more_le (fun b q => List.mem_append_right _ q) (Nat.le_max_right ..))
end
end
theorem call_repr {X : Cx} (gd : X.A.guards = some []) (hu : X.A.units + 150 < cLine) : CallR X (.builtin "repr") (fun xs H Q => ∃ x d, xs = [x] ∧ Dp X.K H x d ∧ d.showable = true ∧ d.depth ≤ 100 ∧ d.shown.length ≤ sizeLine ∧ Q (.str d.shown) H) := by
  intro pins s σ H xs us Q I r ⟨x, d, e, hd, h1, h3, h4, q⟩
  subst e
  obtain ⟨u, rfl, rx⟩ := vals1 r
  have fin : ∀ h' u tk, (∀ b o, s.heap.get? b = some o → h'.get? b = some o) → EP X pins σ Q (.str d.shown u) { s with heap := h', toks := tk } := fun h' u tk hk => ⟨.str d.shown, H, I.kept hk, ⟨_, rfl⟩, q⟩
  cases d with
  | none =>
    cases hd
    cases rx
    rw [PyData.shown] at fin
    exact P.repr_of_none (fin s.heap _ _ fun _ _ e => e)
  | bool b =>
    cases hd
    cases rx
    rw [PyData.shown] at fin
    exact P.repr_of_bool (fin s.heap _ _ fun _ _ e => e)
  | int i =>
    cases hd
    obtain ⟨t, rfl⟩ := rx
    rw [PyData.shown] at fin
    rw [PyData.showable] at h1
    exact P.repr_of_int (of_decide_eq_true h1) (fin s.heap _ _ fun _ _ e => e)
  | str x =>
    cases hd
    obtain ⟨t, rfl⟩ := rx
    rw [PyData.shown] at fin h4
    exact P.repr_of_str (fin s.heap _ _ fun _ _ e => e) h4
  | dict kvs =>
    cases hd with
    | dct hl =>
      cases rx
      rename_i a
      obtain ⟨o, n, ho, hc, hd, hS⟩ := dct_is I hl
      have rd : Reads s.heap (.ref a) (.dict []) (a :: [] ++ []) := Reads.dict ho hc hd ReadsAll.nil ReadsAll.nil
      exact repr_of_reads' rd h1 (fun _ q => by
        have : sysModules = a := by simpa using q
        rw [this] at hS
        simp at hS) gd (by omega) (fun _ _ e => e) (fun h' u tk q => fin h' u tk q) h4
    | dc1 hl =>
      cases rx
      rename_i a x i
      obtain ⟨o, es, n, e, t, t', ho, hc, hd, hl1, hk, hv, hS⟩ := dc1_is I hl
      have rd : Reads s.heap (.ref a) (.dict [(.str x, .int i)]) (a :: [] ++ []) := Reads.dict ho hc hd (by rw [hl1, List.map_cons, List.map_nil, hk]; exact .cons (as := []) (.str x t) .nil) (by rw [hl1, List.map_cons, List.map_nil, hv]; exact .cons (as := []) (.int i t') .nil)
      exact repr_of_reads' rd h1 (fun _ q => by
        have : sysModules = a := by simpa using q
        rw [this] at hS
        simp at hS) gd (by omega) (fun _ _ e => e) (fun h' u tk q => fin h' u tk q) h4
  | list ds =>
    cases hd with
    | lst hl ha =>
      cases rx
      rename_i a vs
      obtain ⟨its, rv, ⟨o, n, ho, hc, _, hd⟩, _⟩ := I.list hl
      have dl : (PyData.list ds).depth = PyData.depthAll ds + 1 := by rw [PyData.depth]
      rw [PyData.showable] at h1
      rw [PyData.shown] at h4 fin
      obtain ⟨as, hr, bs, hb, hk⟩ := Dp.rks I ds _ its ha rv h1 fun t q => Nat.le_trans (listText_mem_le q) h4
      have rd : Reads s.heap (.ref a) (.list ds) (a :: as) := Reads.list ho hc hd hr
      refine call_repr_slot (T := "list") (idr := "list.__repr__") (by omega) ⟨o, ho, hc⟩ F.slot_list_repr.toG ?_
      cases its with
      | nil =>
        cases hr
        rw [PyData.shownAll, listText_nil] at fin
        exact call_list_repr_empty ⟨o, ho, hc⟩ ho hd ⟨_, _, rfl, fin s.heap _ _ fun _ _ e => e⟩
      | cons x l =>
        exact call_list_reprK (A := X.A.in1) (d := PyData.depthAll ds) ho hc hd (not_mem_of_deeper rd (by omega) hb) (by simpa using hk.length_eq) (fun i y e => hk.item i y (by simpa using e)) gd (fun b _ => Clear.nil b) (by show X.A.units + 1 + _ < cLine; omega) (fun _ _ e => e) (fun h' u tk q => ⟨_, _, rfl, fin h' u tk q⟩) h4
  | tuple ds =>
    cases hd with
    | tup hl ha =>
      cases rx
      rename_i a vs
      obtain ⟨its, rv, ⟨o, ho, hc, n, hd⟩, _⟩ := I.tuple hl
      have dl : (PyData.tuple ds).depth = PyData.depthAll ds + 1 := by rw [PyData.depth]
      rw [PyData.showable] at h1
      rw [PyData.shown] at h4 fin
      obtain ⟨as, hr, bs, hb, hk⟩ := Dp.rks I ds _ its ha rv h1 fun t q => Nat.le_trans (tupleText_mem_le q) h4
      have rd : Reads s.heap (.ref a) (.tuple ds) as := Reads.tuple ho hc hd hr
      refine call_repr_slot (T := "tuple") (idr := "tuple.__repr__") (by omega) ⟨o, ho, hc⟩ F.slot_tuple_repr ?_
      exact call_tuple_reprK (A := X.A.in1) (d := PyData.depthAll ds) ho hc hd (not_mem_of_deeper rd (by omega) hb) hk gd (fun b _ => Clear.nil b) (by show X.A.units + 1 + _ < cLine; omega) (fun _ _ e => e) (fun h' u tk q => ⟨_, _, rfl, fin h' u tk q⟩) h4
theorem seqD_of {d : D} (h : isSeqD d = true) : (∃ ds, d = .list ds) ∨ ∃ ds, d = .tuple ds := by
  cases d with
  | list ds => exact .inl ⟨ds, rfl⟩
  | tuple ds => exact .inr ⟨ds, rfl⟩
  | _ => cases h
theorem call_biD (g : GX Ω n W os X) (b : Bi) (hb : biTy b = false ∨ b = .int ∨ b = .str) : CallR X (biVl b) (rBiD X.K b) := by
  intro pins s σ H xs us Q I r ⟨ds, d, hd, e, q⟩
  rw [g.w.K] at hd q
  have listI : ∀ {v : V} {zs : List D} {is : List Int}, Dp Ω.K H v (.list zs) → intsOf zs = some is → ∃ a, v = .ref a ∧ SqL X.K H a (is.map V.int) := by
    intro v zs is h1 h2
    obtain ⟨a, vs, rfl, q1, q2⟩ := dp_list h1
    cases ints_of q2 h2
    exact ⟨a, rfl, by rw [g.w.K]; exact q1⟩
  have listB : ∀ {v : V} {zs : List D} {is : List Bool}, Dp Ω.K H v (.list zs) → boolsOf zs = some is → ∃ a, v = .ref a ∧ SqL X.K H a (is.map V.bl) := by
    intro v zs is h1 h2
    obtain ⟨a, vs, rfl, q1, q2⟩ := dp_list h1
    cases bools_of q2 h2
    exact ⟨a, rfl, by rw [g.w.K]; exact q1⟩
  unfold biD at e
  split at e
  · cases e
    obtain ⟨v, rfl, h⟩ := dpAll1 hd
    obtain ⟨a, vs, rfl, q1, q2⟩ := dp_list h
    refine call_len_seq pins s σ H _ us Q I r ⟨a, vs, rfl, .inl (by rw [g.w.K]; exact q1), ?_⟩
    rw [FF.DpAll.len q2]; exact q _ fun _ => .int _
  · cases e
    obtain ⟨v, rfl, h⟩ := dpAll1 hd
    obtain ⟨a, vs, rfl, q1, q2⟩ := dp_tuple h
    refine call_len_seq pins s σ H _ us Q I r ⟨a, vs, rfl, .inr (by rw [g.w.K]; exact q1), ?_⟩
    rw [FF.DpAll.len q2]; exact q _ fun _ => .int _
  · split at e
    · rename_i hl
      cases e
      obtain ⟨v, rfl, h⟩ := dpAll1 hd
      cases dp_str h
      exact call_len_str pins s σ H _ us Q I r ⟨_, rfl, hl, q _ fun _ => .int _⟩
    · cases e
  · cases e
    obtain ⟨v, rfl, h⟩ := dpAll1 hd
    cases dp_int h
    exact call_abs pins s σ H _ us Q I r ⟨_, rfl, q _ fun _ => .int _⟩
  · cases e
    obtain ⟨v, w, rfl, h, h2⟩ := dpAll2 hd
    cases dp_int h
    cases dp_int h2
    exact call_max2 g.calm pins s σ H _ us Q I r ⟨_, _, rfl, q _ fun _ => .int _⟩
  · cases e
    obtain ⟨v, w, rfl, h, h2⟩ := dpAll2 hd
    cases dp_int h
    cases dp_int h2
    exact call_min2 g.calm pins s σ H _ us Q I r ⟨_, _, rfl, q _ fun _ => .int _⟩
  · split at e
    · rename_i is e1
      rw [Option.map_eq_some_iff] at e
      obtain ⟨m, e2, rfl⟩ := e
      obtain ⟨v, rfl, h⟩ := dpAll1 hd
      obtain ⟨a, rfl, hs⟩ := listI h e1
      obtain ⟨m1, m2⟩ := maxL_ok e2
      refine cr_max g.calm pins s σ H _ us Q I r ⟨a, is, rfl, hs, List.length_pos_of_mem m1, fun m' h1 h2 => ?_⟩
      have : m' = m := by have := m2 m' h1; have := h2 m m1; omega
      subst this
      exact q _ fun _ => .int _
    · cases e
  · split at e
    · rename_i is e1
      rw [Option.map_eq_some_iff] at e
      obtain ⟨m, e2, rfl⟩ := e
      obtain ⟨v, rfl, h⟩ := dpAll1 hd
      obtain ⟨a, rfl, hs⟩ := listI h e1
      obtain ⟨m1, m2⟩ := minL_ok e2
      refine cr_min g.calm pins s σ H _ us Q I r ⟨a, is, rfl, hs, List.length_pos_of_mem m1, fun m' h1 h2 => ?_⟩
      have : m' = m := by have := m2 m' h1; have := h2 m m1; omega
      subst this
      exact q _ fun _ => .int _
    · cases e
  · cases e
    obtain ⟨v, rfl, h⟩ := dpAll1 hd
    cases dp_int h
    exact call_int1 pins s σ H _ us Q I r (.inl ⟨_, rfl, q _ fun _ => .int _⟩)
  · cases e
    obtain ⟨v, rfl, h⟩ := dpAll1 hd
    cases dp_bool h
    exact call_int1 pins s σ H _ us Q I r (.inr ⟨_, rfl, q _ fun _ => .int _⟩)
  · split at e
    · rename_i hl
      cases e
      obtain ⟨v, rfl, h⟩ := dpAll1 hd
      cases dp_int h
      exact call_str_int pins s σ H _ us Q I r ⟨_, rfl, hl, q _ fun _ => .str _⟩
    · cases e
  · split at e
    · rename_i is e1
      cases e
      obtain ⟨v, rfl, h⟩ := dpAll1 hd
      obtain ⟨a, rfl, hs⟩ := listI h e1
      exact cr_sum g.calm pins s σ H _ us Q I r ⟨a, is, rfl, hs, q _ fun _ => .int _⟩
    · cases e
  · split at e
    · rename_i is e1
      cases e
      obtain ⟨v, rfl, h⟩ := dpAll1 hd
      obtain ⟨a, rfl, hs⟩ := listB h e1
      exact cr_all g.calm pins s σ H _ us Q I r ⟨a, is, rfl, hs, q _ fun _ => .bl _⟩
    · cases e
  · split at e
    · rename_i is e1
      cases e
      obtain ⟨v, rfl, h⟩ := dpAll1 hd
      obtain ⟨a, rfl, hs⟩ := listB h e1
      exact cr_any g.calm pins s σ H _ us Q I r ⟨a, is, rfl, hs, q _ fun _ => .bl _⟩
    · cases e
  · rename_i dd
    split at e
    · rename_i hc
      cases e
      obtain ⟨v, rfl, h⟩ := dpAll1 hd
      have hu : X.A.units + 150 < cLine := by have := g.room.un; omega
      exact call_repr g.gd hu pins s σ H _ us Q I r ⟨v, dd, rfl, by rw [g.w.K]; exact h, hc.1, hc.2.1, hc.2.2, q _ fun _ => .str _⟩
    · cases e
  · cases e
end
end FF

set_option Elab.async false
set_option linter.all false
set_option autoImplicit false
set_option maxRecDepth 100000
/-! FM: built-in calls, slices, calls of defs. -/
namespace FF
open PySem PySem.Spec PyProof.Rows L2
section
variable {Ω : Wd} {W : WX} {G H : Hp} {σ : L2.St} {F : List Addr} {Θ : Tab} {n : Nat} {os : Scope} {X : Cx}

theorem insI_perm (x : Int) : ∀ l : List Int, (insI x l).Perm (x :: l)
  | [] => List.Perm.refl _
  | y :: ys => by
    unfold insI
    split
    · exact List.Perm.refl _
    · exact ((insI_perm x ys).cons y).trans (List.Perm.swap x y ys)
theorem sortI_perm : ∀ l : List Int, (sortI l).Perm l
  | [] => List.Perm.refl _
  | x :: xs => (insI_perm x (sortI xs)).trans ((sortI_perm xs).cons x)
theorem insI_srt (x : Int) : ∀ {l : List Int}, l.Pairwise (· ≤ ·) → (insI x l).Pairwise (· ≤ ·)
  | [], _ => by simp [insI]
  | y :: ys, h => by
    rw [List.pairwise_cons] at h
    unfold insI
    split
    · rename_i hxy
      refine List.pairwise_cons.mpr ⟨fun z hz => ?_, List.pairwise_cons.mpr h⟩
      rcases List.mem_cons.mp hz with rfl | hz
      · exact hxy
      · exact Int.le_trans hxy (h.1 z hz)
    · rename_i hxy
      refine List.pairwise_cons.mpr ⟨fun z hz => ?_, insI_srt x h.2⟩
      rcases List.mem_cons.mp ((insI_perm x ys).mem_iff.mp hz) with rfl | hz
      · omega
      · exact h.1 z hz
theorem sortI_srt : ∀ l : List Int, (sortI l).Pairwise (· ≤ ·)
  | [] => List.Pairwise.nil
  | x :: xs => insI_srt x (sortI_srt xs)
theorem srt_uniq : ∀ {a b : List Int}, a.Perm b → a.Pairwise (· ≤ ·) → b.Pairwise (· ≤ ·) → a = b
  | [], b, p, _, _ => (List.nil_perm.mp p).symm ▸ rfl
  | x :: xs, [], p, _, _ => by have := p.length_eq; simp at this
  | x :: xs, y :: ys, p, h1, h2 => by
    rw [List.pairwise_cons] at h1 h2
    have e : x = y := by
      have hx := p.mem_iff.mp (List.mem_cons_self ..)
      have hy := p.mem_iff.mpr (List.mem_cons_self ..)
      rcases List.mem_cons.mp hx with e | hx
      · exact e
      · rcases List.mem_cons.mp hy with e | hy
        · exact e.symm
        · exact Int.le_antisymm (h1.1 _ hy) (h2.1 _ hx)
    subst e
    rw [srt_uniq (List.perm_cons x |>.mp p) h1.2 h2.2]
theorem trs_ints : ∀ is : List Int, TRs Ω G H (is.map V.int) (is.map fun i => Tr.sh (.int i)) []
  | [] => .nil
  | i :: is => .cons (F1 := []) (.sh (.int i)) (trs_ints is)

theorem intsOf_eq : ∀ {ds : List D} {is : List Int}, intsOf ds = some is → ds = is.map .int
  | [], is, h => by simp only [intsOf, Option.some.injEq] at h; subst h; rfl
  | d :: ds, is, h => by
    cases d with
    | int i =>
      simp only [intsOf] at h
      split at h
      · rename_i is' e
        cases h
        rw [intsOf_eq e]; rfl
      · cases h
    | _ => simp [intsOf] at h
theorem ints_of' {K : PySem.W.Frag} {G : Hp} {vs : List V} {is : List Int} (h : DpAll K G vs (is.map .int)) : vs = is.map V.int := by
  induction is generalizing vs with
  | nil => cases h; rfl
  | cons i is ih =>
    cases h with
    | cons a b =>
      cases a
      rw [ih b]; rfl
theorem LiAll.len {K : PySem.W.Frag} {G : Hp} {xs : List V} {kss : List (List Int)} (h : LiAll K G xs kss) : xs.length = kss.length := by
  induction h with
  | nil => rfl
  | cons _ _ ih => simp [ih]
theorem li_mono {K : PySem.W.Frag} {G H : Hp} (s : Same G H) {xs : List V} {kss : List (List Int)} (h : LiAll K G xs kss) : LiAll K H xs kss := by
  induction h with
  | nil => exact .nil
  | cons a _ ih => exact .cons (sqL_mono s a) ih
theorem li_of {K : PySem.W.Frag} {G : Hp} : ∀ {ds : List D} {xs : List V} {iss : List (List Int)}, DpAll K G xs ds → listsOf ds = some iss → LiAll K G xs iss ∧ ∀ z ∈ xs.zip iss, Dp K G z.1 (.list (z.2.map .int))
  | [], xs, iss, h, e => by
    simp only [listsOf, Option.some.injEq] at e
    subst e
    cases h
    exact ⟨.nil, fun _ h => (nomatch h)⟩
  | d :: ds, xs, iss, h, e => by
    cases d with
    | list es =>
      simp only [listsOf] at e
      split at e
      · rename_i is iss' e1 e2
        cases e
        cases h with
        | cons a b =>
          obtain ⟨p, q⟩ := li_of b e2
          have ee := intsOf_eq e1
          subst ee
          obtain ⟨t, vs, rfl, q1, q2⟩ := dp_list a
          have ev := ints_of' q2
          subst ev
          refine ⟨.cons q1 p, fun z hz => ?_⟩
          rw [List.zip_cons_cons] at hz
          rcases List.mem_cons.mp hz with rfl | hz
          · exact a
          · exact q z hz
      · cases e
    | _ => simp [listsOf] at e
theorem zs_trs : ∀ zs : List (V × List Int), (∀ z ∈ zs, Dp Ω.K G z.1 (.list (z.2.map .int))) → TRs Ω G H (zs.map (·.1)) ((zs.map (·.2)).map fun is => Tr.sh (.list (is.map .int))) []
  | [], _ => .nil
  | z :: zs, h => .cons (F1 := []) (.sh (h z (List.mem_cons_self ..))) (zs_trs zs fun y hy => h y (List.mem_cons_of_mem _ hy))
theorem shD_ok {env : FF.Env} {m : Nat} {v : V} {x : Val} {Fv : List Addr} {ds ds' : List D} (st : St Ω G H σ env F) (vr : VR Ω G H σ m v x Fv) (h : look env x = some (.list ds)) (h2 : shD env x = some ds') : ∃ a xs, v = .ref a ∧ SqL Ω.K H a xs ∧ DpAll Ω.K G xs ds := by
  have ok : ∀ {t : Tr} {A : List Addr}, TR Ω G H v t A → t.toD = some (.list ds) → (match t with | .sh (.list ds) => some ds | .lst ts => allSh ts | _ => none) = some ds' → ∃ a xs, v = .ref a ∧ SqL Ω.K H a xs ∧ DpAll Ω.K G xs ds := by
    intro t A r e1 e2
    cases r with
    | sh q =>
      simp only [Tr.toD, Option.some.injEq] at e1
      subst e1
      obtain ⟨a, xs, rfl, q1, q2⟩ := dp_list q
      exact ⟨a, xs, rfl, sqL_mono st.same q1, q2⟩
    | lst eH gN r =>
      have e3 := allSh_eq e2
      subst e3
      obtain ⟨q, _⟩ := r.to_sh
      simp only [Tr.toD, Option.map_eq_some_iff] at e1
      obtain ⟨es, e4, e5⟩ := e1
      cases e5
      have e6 : ds' = ds := by
        have z : ∀ l : List D, Tr.toDs (l.map .sh) = some l := fun l => by
          induction l with
          | nil => rfl
          | cons d l ih => rw [List.map_cons, Tr.toDs, ih]; rfl
        rw [z] at e4
        exact Option.some.inj e4
      rw [← e6]
      exact ⟨_, _, rfl, .of eH, q⟩
    | tup _ _ _ => cases e2
    | fn => cases e2
    | exc _ _ _ _ => cases e2
  unfold look at h
  unfold shD at h2
  split at h
  · rename_i t e
    rw [e] at h2
    obtain ⟨Ft, r, _⟩ := getV_ok st vr e
    refine ok r h ?_
    cases t <;> first | exact h2 | (rename_i d; cases d <;> exact h2)
  · cases h
def rBi (Ω : Wd) (b : Bi) : List V → Hp → VK → Prop := fun xs H Q => match b with
  | .list => ∃ p ys, xs = [.ref p] ∧ (SqL Ω.K H p ys ∨ SqT Ω.K H p ys) ∧ ∀ l, H l = none → Q (.ref l) (upd H l (.lst ys))
  | .tuple => ∃ p ys, xs = [.ref p] ∧ SqL Ω.K H p ys ∧ ∀ l, H l = none → Q (.ref l) (upd H l (.tup ys))
  | .sorted => rSortedI Ω.K xs H Q ∨ rSortedLi Ω.K xs H Q
  | b => rBiD Ω.K b xs H Q
theorem call_bi (g : GX Ω n W os X) (b : Bi) : CallR X (biVl b) (rBi Ω b) := by
  have gen : (biTy b = false ∨ b = .int ∨ b = .str) → CallR X (biVl b) (rBiD Ω.K b) := fun h => by
    have q := call_biD g b h
    rw [g.w.K] at q
    exact q
  cases b with
  | list =>
    intro pins s σ H xs us Q I r ⟨p, ys, e, h, q⟩
    rw [← g.w.K] at h
    exact call_list_of pins s σ H xs us Q I r ⟨p, ys, e, h, q⟩
  | tuple =>
    intro pins s σ H xs us Q I r ⟨p, ys, e, h, q⟩
    rw [← g.w.K] at h
    exact call_tuple_of pins s σ H xs us Q I r ⟨p, ys, e, .inl ⟨h, q⟩⟩
  | sorted =>
    intro pins s σ H xs us Q I r h
    have h : rSortedI Ω.K xs H Q ∨ rSortedLi Ω.K xs H Q := h
    rw [← g.w.K] at h
    rcases h with h | h
    · exact cr_sortedI pins s σ H xs us Q I r h
    · exact cr_sortedLi (by have := g.room.un; omega) pins s σ H xs us Q I r h
  | _ => exact gen (by decide)
theorem rBi_of {b : Bi} {xs : List V} {vxs : List Val} {env env' : FF.Env} {Fx : List Addr} {w : Val} {Q : VK} (st : St Ω G H σ env F) (vr : VRs Ω G H σ env.length xs vxs Fx) (nd : (F ++ Fx).Nodup) (e : biV b vxs env = some (w, env'))
    (o : OutV Ω W G H σ (F ++ Fx) (.ok (w, env')) Q) : rBi Ω b xs H Q := by
  have gen : (match looks env vxs with | some ds => (match biD b ds with | some d => some (Val.tr (.sh d), env) | none => none) | none => none) = some (w, env') → rBiD Ω.K b xs H Q := by
    intro e
    split at e
    · rename_i ds e1
      split at e
      · rename_i d e2
        cases e
        exact ⟨ds, d, looks_ok st vr e1, e2, fun v hv => OutV.give st subL (hv G) o⟩
      · cases e
    · cases e
  have one : ∀ {v : Val}, vxs = [v] → ∃ x, xs = [x] ∧ VR Ω G H σ env.length x v Fx := by
    intro v hv
    subst hv
    cases vr with
    | cons a b => cases b; exact ⟨_, rfl, by rw [List.append_nil]; exact a⟩
  cases b with
  | list =>
    match vxs, e with
    | [v], e =>
      simp only [biV] at e
      split at e
      · rename_i ts env1 e1
        cases e
        obtain ⟨x, rfl, hx⟩ := one rfl
        obtain ⟨a, vs, G1, F1, Ft, rfl, hq, s1, st1, r1, nd1, l1, _⟩ := seqOf_ok st hx nd e1
        refine ⟨a, vs, rfl, hq.imp (·.2) (·.2), fun l hl => OutV.newL st1 r1 nd1 (fun _ h => h) (o.after s1) hl⟩
      · cases e
    | [], e => simp [biV, looks, biD] at e
    | a :: b :: c, e =>
      simp only [biV] at e
      split at e
      · simp only [biD] at e; cases e
      · cases e
  | tuple =>
    match vxs, e with
    | [v], e =>
      simp only [biV] at e
      split at e
      · rename_i ts env1 e1
        cases e
        obtain ⟨x, rfl, hx⟩ := one rfl
        obtain ⟨a, vs, G1, F1, Ft, rfl, hq, s1, st1, r1, nd1, l1, _⟩ := seqOf_ok st hx nd e1
        refine ⟨a, vs, rfl, hq.elim (·.2) (fun z => by cases z.1), fun l hl => ?_⟩
        obtain ⟨G3, Fv, s3, st3, r3, nd3⟩ := mkTup_new st1 r1 nd1 hl
        exact (o.after (s1.trans s3)) _ _ _ F1 Fv (Step.refl fun _ h => h) st3 r3 nd3
      · cases e
    | [], e => simp [biV, looks, biD] at e
    | a :: b :: c, e =>
      simp only [biV] at e
      split at e
      · simp only [biD] at e; cases e
      · cases e
  | sorted =>
    match vxs, e with
    | [v], e =>
      simp only [biV] at e
      split at e
      · rename_i ds e1
        split at e
        · rename_i is e2
          cases e
          obtain ⟨x, rfl, hx⟩ := one rfl
          obtain ⟨a, vs, rfl, q1, q2⟩ := dp_list (look_ok st hx e1)
          cases ints_of q2 e2
          refine .inl ⟨a, is, rfl, q1, fun ns' p hp hs hn => ?_⟩
          have ei : ns' = sortI is := srt_uniq (hp.trans (sortI_perm is).symm) hs (sortI_srt is)
          subst ei
          exact OutV.newL st (trs_ints _) (by simpa using st.nd) (fun q hq => List.mem_append_left _ (by simpa using hq)) o hn
        · split at e
          · rename_i ds' iss e3 e4
            cases e
            obtain ⟨x, rfl, hx⟩ := one rfl
            obtain ⟨a, xs, rfl, hs, hd⟩ := shD_ok st hx e1 e3
            have li := li_of hd e4
            refine .inr ⟨a, xs, iss, rfl, hs, li_mono st.same li.1, fun zs hp hsr p hn => ?_⟩
            have ek : zs.map (·.2) = sortL iss := by
              refine srl_uniq (((hp.map (·.2)).trans (List.Perm.of_eq ?_)).trans (sortL_perm iss).symm) hsr (sortL_srt iss)
              exact List.map_snd_zip (Nat.le_of_eq li.1.len.symm)
            have tr := zs_trs (Ω := Ω) (G := G) (H := H) zs fun z hz => li.2 z (hp.mem_iff.mp hz)
            rw [ek] at tr
            exact OutV.newL st tr (by simpa using st.nd) (fun q hq => List.mem_append_left _ (by simpa using hq)) o hn
          · cases e
      · cases e
    | [], e => simp [biV, looks, biD] at e
    | a :: b :: c, e =>
      simp only [biV] at e
      split at e
      · simp only [biD] at e; cases e
      · cases e
  | _ => exact gen e
theorem blt_val (b : Bi) : bootBuiltins (biNm b) = some (biVl b) := by cases b <;> rfl
theorem blt_mem (b : Bi) : biNm b ∈ bltNames := by cases b <;> decide
theorem glOk_of {x : Str} (h : glOk X.env.scope x = true) : Gl X x ∧ (x == ("__debug__" : Str)) = false ∧ x ≠ "__name__" := by
  unfold glOk at h
  rw [Bool.and_eq_true] at h
  obtain ⟨a, _, c⟩ := plainN_of h.2
  exact ⟨gl_of h.1, a, c⟩
theorem sE_bi (g : GX Ω n W os X) (T : TO Ω Θ n) {b : Bi} {e : Expr} {es : List Expr} {p pos : Pos} {fs : FF.Env → R (List Val × FF.Env)} (hg : glOk X.env.scope (biNm b) = true) (ha : PA X (e :: es) (tL Ω W fs)) (hp : (e :: es).all plainE = true) :
    PE X (.Call (.Name (biNm b) p) (e :: es) [] pos) (tF Ω W fun env => (fs env).bind fun q => R.of (biV b q.1 q.2)) := by
  obtain ⟨h1, h2, h3⟩ := glOk_of hg
  have hm : X.mg (biNm b) = none := by rw [g.w.mg]; exact T.blt _ (blt_mem b)
  have pl : plainE e = true ∧ es.all plainE = true := by rw [List.all_cons, Bool.and_eq_true] at hp; exact hp
  have rd : ∀ σ H Q, tF Ω W (fun env => (fs env).bind fun q => R.of (biV b q.1 q.2)) σ H Q → tCB (rBi Ω b) (tL Ω W fs) σ H Q := by
    intro σ H Q hh
    refine many (g := fun vs env => R.of (biV b vs env)) hh fun xs vxs G1 H1 env1 F1 Fx st vrs nd o => ?_
    cases e1 : biV b vxs env1 with
    | none => simp only [e1, R.of_none] at o; exact o.elim
    | some q =>
      obtain ⟨w, env2⟩ := q
      simp only [e1, R.of_some] at o
      exact rBi_of st vrs nd e1 o
  have hs := starEach_plain pl.1 es X.env
  have ht := starEach_all (env := X.env) (pos := pos) pl.2
  have hv := blt_val b
  have hc := call_bi g b
  cases b with
  | int => exact PE.imp (pe_callTy hc h1 hm hv ha h3 h2 hs ht) rd
  | str => exact PE.imp (pe_callTy hc h1 hm hv ha h3 h2 hs ht) rd
  | list => exact PE.imp (pe_callTy hc h1 hm hv ha h3 h2 hs ht) rd
  | tuple => exact PE.imp (pe_callTy hc h1 hm hv ha h3 h2 hs ht) rd
  | _ => exact PE.imp (pe_callB hc h1 hm hv ha h3 h2 hs ht) rd
theorem sE_bits {o : Expr} {m : Str} {apos pos : Pos} {f : FF.Env → R (Val × FF.Env)} (h : PE X o (tF Ω W f)) (hm : m = ("bit_length" : Str)) (hb : attributeBase o "bit_length" X.env (eval o X.env) = eval o X.env) (hl : (apos.endLine == pos.line) = true) :
    PE X (.Call (.Attribute o m apos) [] [] pos) (tF Ω W fun env => (f env).bind fun p => (match getV p.2 p.1 with
    | some (.sh (.int i)) => .ok (.tr (.sh (.int (Builtin.Int.intBits i : Nat))), p.2)
    | _ => .bad)) := by
  subst hm
  refine PE.imp (pe_bits h hb hl) fun σ H Q hh => one (g := fun v env => (match getV env v with
    | some (.sh (.int i)) => .ok (.tr (.sh (.int (Builtin.Int.intBits i : Nat))), env)
    | _ => .bad)) hh fun x vx G1 H1 env1 F1 Fx st vr nd o => ?_
  split at o
  · rename_i i e
    have hd := getV_atom st vr e
    cases dp_int hd
    exact ⟨i, rfl, OutV.give st subL (.int _) o⟩
  · exact o.elim

/-! ### slices -/
theorem tL.mono {f : FF.Env → R (List Val × FF.Env)} {Q Q' : List V → Hp → Prop} (h : tL Ω W f σ H Q) (i : ∀ v H', Q v H' → Q' v H') : tL Ω W f σ H Q' := by
  obtain ⟨G, env, F, st, o⟩ := h
  refine ⟨G, env, F, st, ?_⟩
  cases e : f env with
  | bad => simp only [e] at o; exact o
  | exc c d env' => simp only [e] at o; exact o
  | ok p => simp only [e] at o; exact fun v G1 H1 F1 Fv s1 st1 vr nd => i _ _ (o v G1 H1 F1 Fv s1 st1 vr nd)
theorem tF.congrT {f f' : FF.Env → R (List Val × FF.Env)} {Q : List V → Hp → Prop} (e : ∀ env, f env = f' env) (h : tL Ω W f σ H Q) : tL Ω W f' σ H Q := by
  have : f = f' := funext e
  rw [← this]; exact h
/-- a list of evaluations while values stand by -/
theorem pendL {f : FF.Env → R (List Val × FF.Env)} {g : List Val → FF.Env → R (Val × FF.Env)} {Q : VK} {Q' : List V → Hp → Prop} {env : FF.Env} {ys : List V} {vys : List Val} {Fy : List Addr}
    (st : St Ω G H σ env F) (vr : VRs Ω G H σ env.length ys vys Fy) (nd : (F ++ Fy).Nodup) (h : OutV Ω W G H σ (F ++ Fy) ((f env).bind fun p => g p.1 p.2) Q)
    (k : ∀ w vw G1 H1 env1 F1 Fw, env1.length = env.length → St Ω G1 H1 σ env1 F1 → VRs Ω G1 H1 σ env1.length ys vys Fy → VRs Ω G1 H1 σ env1.length w vw Fw → (F1 ++ (Fy ++ Fw)).Nodup → OutV Ω W G1 H1 σ (F1 ++ (Fy ++ Fw)) (g vw env1) Q → Q' w H1) :
    tL Ω W f σ H Q' := by
  refine ⟨G, env, F, st, ?_⟩
  obtain ⟨n1, n2, dj⟩ := nodup_app.mp nd
  cases hf : f env with
  | bad => simp only [hf, R.bind_bad] at h; exact h
  | exc c d env' =>
    simp only [hf, R.bind_exc] at h
    intro dd u G2 H2 F2 s2 st2 a b
    exact h dd u G2 H2 F2 (s2.wide fun p hp => List.mem_append_left _ hp) st2 a b
  | ok p =>
    obtain ⟨w, env1⟩ := p
    simp only [hf, R.bind_ok] at h
    intro v G1 H1 F1 Fw s1 st1 vw nd1
    have len : env1.length = env.length := st1.sl.len.symm.trans st.sl.len
    obtain ⟨v1, d1⟩ := VRs.step (R := []) s1 vr dj.symm
    obtain ⟨d11, d12⟩ := Disj.appR.mp d1
    obtain ⟨k1, k2, kj⟩ := nodup_app.mp nd1
    refine k v w G1 H1 env1 F1 Fw len st1 (by rw [len]; exact v1) vw ?_ (h.after ?_)
    · exact nodup_app.mpr ⟨k1, nodup_app.mpr ⟨n2, k2, d12⟩, Disj.appR.mpr ⟨d11.symm, kj⟩⟩
    · refine (s1.frame (R := Fy)).sub fun p hp => ?_
      simp only [List.mem_append] at hp ⊢
      rcases hp with hp | hp | hp
      · exact .inl (.inl hp)
      · exact .inr hp
      · exact .inl (.inr hp)
theorem VRs.app {m : Nat} : ∀ {xs : List V} {vxs : List Val} {Fx : List Addr} {ys : List V} {vys : List Val} {Fy : List Addr}, VRs Ω G H σ m xs vxs Fx → VRs Ω G H σ m ys vys Fy → VRs Ω G H σ m (xs ++ ys) (vxs ++ vys) (Fx ++ Fy)
  | _, _, _, _, _, _, .nil, b => b
  | _, _, _, _, _, _, .cons a r, b => by rw [List.append_assoc]; exact .cons a (VRs.app r b)
theorem VRs.split {m : Nat} : ∀ {xs : List V} {vxs vys : List Val} {zs : List V} {Fz : List Addr}, VRs Ω G H σ m zs (vxs ++ vys) Fz → ∃ xs ys Fx Fy, zs = xs ++ ys ∧ Fz = Fx ++ Fy ∧ VRs Ω G H σ m xs vxs Fx ∧ VRs Ω G H σ m ys vys Fy
  | _, [], vys, zs, Fz, h => ⟨[], zs, [], Fz, rfl, rfl, .nil, h⟩
  | _, v :: vxs, vys, _, _, .cons (v := x) (F1 := F1) a r => by
    obtain ⟨xs, ys, Fx, Fy, e1, e2, q1, q2⟩ := VRs.split (xs := []) r
    exact ⟨x :: xs, ys, F1 ++ Fx, Fy, by rw [e1]; rfl, by rw [e2, List.append_assoc], .cons a q1, q2⟩
theorem VRs.cons' {m : Nat} {x : V} {xs : List V} {vx : Val} {vxs : List Val} {Fz : List Addr} (h : VRs Ω G H σ m (x :: xs) (vx :: vxs) Fz) : ∃ F1 F2, Fz = F1 ++ F2 ∧ VR Ω G H σ m x vx F1 ∧ VRs Ω G H σ m xs vxs F2 := by
  cases h with
  | cons a b => exact ⟨_, _, rfl, a, b⟩
/-- a slice's part -/
def tO (Ω : Wd) (W : WX) (fs : FF.Env → R (List Val × FF.Env)) : L2.TO := fun σ H Q => tL Ω W fs σ H fun vs H1 => ∃ o : Option Int, vs = o.toList.map V.int ∧ Q o H1
theorem po_nil : PO X none (tO Ω W fun env => .ok ([], env)) := by
  refine ⟨fun pins s σ H Q I h => po_none.run pins s σ H Q I ?_⟩
  obtain ⟨o, e, q⟩ := tL_nil h
  cases o with
  | none => exact q
  | some i => cases e
theorem po_one {e : Expr} {f : FF.Env → R (Val × FF.Env)} (h : PE X e (tF Ω W f)) : PO X (some e) (tO Ω W fun env => (f env).bind fun p => .ok ([p.1], p.2)) := by
  refine ⟨fun pins s σ H Q I hh => (po_some h).run pins s σ H Q I ?_⟩
  have h2 : tL Ω W (fun env => (f env).bind fun p => (R.ok (([] : List Val), p.2)).bind fun q => .ok (p.1 :: q.1, q.2)) σ H (fun vs H1 => ∃ o : Option Int, vs = o.toList.map V.int ∧ Q o H1) := hh
  refine tF.mono (tL_cons (fs := fun env => .ok ([], env)) h2) fun x H1 hx => ?_
  obtain ⟨o, e, q⟩ := tL_nil hx
  cases o with
  | none => cases e
  | some i =>
    simp only [Option.toList, List.map_cons, List.map_nil, List.cons.injEq, and_true] at e
    exact ⟨i, e, q⟩
theorem cut_map {α β : Type} {xs : List α} {ys : List β} (h : xs.length = ys.length) (P : List α → List β → Prop) (a b : Nat) : P ((xs.drop a).take (b - a)) ((ys.drop a).take (b - a)) → P ((xs.drop a).take (b - a)) ((ys.drop a).take (b - a)) := id
theorem TRs.cut {vs : List V} {ts : List Tr} {Ft : List Addr} (r : TRs Ω G H vs ts Ft) (nd : Ft.Nodup) (a b : Nat) : ∃ Fc, TRs Ω G H ((vs.drop a).take b) ((ts.drop a).take b) Fc ∧ (∀ p ∈ Fc, p ∈ Ft) ∧ Fc.Nodup := by
  have l := r.len
  rw [← List.take_append_drop a ts] at r
  obtain ⟨v1, v2, F1, F2, e1, e2, r1, r2⟩ := r.split
  subst e2
  have d : v2 = vs.drop a := by
    subst e1
    have := r1.len
    rw [List.length_take] at this
    by_cases h : a ≤ ts.length
    · rw [List.drop_append, List.drop_of_length_le (by omega)]
      rw [show a - v1.length = 0 by omega]; simp
    · have l2 := r2.len
      rw [List.length_drop] at l2
      have : v2 = [] := List.eq_nil_of_length_eq_zero (by omega)
      subst this
      rw [List.append_nil, List.drop_of_length_le (by omega)]
  subst d
  rw [← List.take_append_drop b (ts.drop a)] at r2
  obtain ⟨w1, w2, F3, F4, f1, f2, s1, s2⟩ := r2.split
  subst f2
  have d2 : w1 = (vs.drop a).take b := by
    have l1 := s1.len
    have l3 := s2.len
    rw [List.length_take] at l1
    rw [f1]
    by_cases h : b ≤ (ts.drop a).length
    · rw [List.take_append, List.take_of_length_le (by omega), show b - w1.length = 0 by omega]; simp
    · rw [List.length_drop] at l3
      have : w2 = [] := List.eq_nil_of_length_eq_zero (by omega)
      subst this
      rw [List.append_nil, List.take_of_length_le (by omega)]
  subst d2
  obtain ⟨_, m2, _⟩ := nodup_app.mp nd
  obtain ⟨m3, _, _⟩ := nodup_app.mp m2
  exact ⟨F3, s1, fun p hp => List.mem_append_right _ (List.mem_append_left _ hp), m3⟩
theorem part_of {env : FF.Env} {m : Nat} {vs : List V} {vxs : List Val} {Fx : List Addr} {ds : List D} {is : List Int} (st : St Ω G H σ env F) (vr : VRs Ω G H σ m vs vxs Fx) (hl : vs.length ≤ 1) (e1 : looks env vxs = some ds) (e2 : intsOf ds = some is) : vs = is.head?.toList.map V.int := by
  have := ints_of (looks_ok st vr e1) e2
  subst this
  match is, hl with
  | [], _ => rfl
  | [i], _ => rfl
  | _ :: _ :: _, h => simp at h
theorem optI_ok {env : FF.Env} {m : Nat} {vs : List V} {vxs : List Val} {Fx : List Addr} {l : Option Int} (st : St Ω G H σ env F) (vr : VRs Ω G H σ m vs vxs Fx) (e : optI env vxs = some l) : vs = l.toList.map V.int := by
  unfold optI at e
  split at e
  · rename_i ds e1
    split at e
    · rename_i e2
      cases e
      exact ints_of (looks_ok st vr e1) e2
    · rename_i i e2
      cases e
      exact ints_of (looks_ok st vr e1) e2
    · cases e
  · cases e
theorem sE_slc (g : GX Ω n W os X) {a : Expr} {lo hi : Option Expr} {pos p2 : Pos} {fa : FF.Env → R (Val × FF.Env)} {fl fh : FF.Env → R (List Val × FF.Env)} (ha : PE X a (tF Ω W fa)) (hl : PO X lo (tO Ω W fl)) (hh : PO X hi (tO Ω W fh)) :
    PE X (.Subscript a (.Slice lo hi none p2) pos) (tF Ω W fun env => (fa env).bind fun p => (fl p.2).bind fun q => (match optI q.2 q.1 with
    | some l => (fh q.2).bind fun r => slcV p.1 l r.1 r.2
    | none => .bad)) := by
  have sl := sl_list (X := X)
  rw [g.w.K] at sl
  refine PE.imp (pe_slice sl ha hl hh) fun σ H Q hx => ?_
  refine one (g := fun va env => (fl env).bind fun q => (match optI q.2 q.1 with
    | some l => (fh q.2).bind fun r => slcV va l r.1 r.2
    | none => .bad)) hx fun x vx G1 H1 env1 F1 Fx st vr nd o => ?_
  refine pendL (f := fl) (ys := [x]) (vys := [vx]) (Fy := Fx ++ []) (g := fun vl env => (match optI env vl with
    | some l => (fh env).bind fun r => slcV vx l r.1 r.2
    | none => .bad)) st (.cons vr .nil) (by simpa using nd) (by simpa using o) fun wl vwl G2 H2 env2 F2 Fl len2 st2 vrx vrl nd2 o2 => ?_
  split at o2
  · rename_i l el
    refine ⟨l, optI_ok st2 vrl el, ?_⟩
    obtain ⟨n1, n2, dj⟩ := nodup_app.mp nd2
    have nd2' : (F2 ++ (Fx ++ [])).Nodup := nodup_app.mpr ⟨n1, (nodup_app.mp n2).1, (Disj.appR.mp dj).1⟩
    have o2' : OutV Ω W G2 H2 σ (F2 ++ (Fx ++ [])) ((fh env2).bind fun r => slcV vx l r.1 r.2) Q := o2.after (Step.refl fun p hp => by
      simp only [List.mem_append] at hp ⊢
      exact hp.imp id .inl)
    refine pendL (f := fh) (ys := [x]) (vys := [vx]) (Fy := Fx ++ []) (g := fun vh env => slcV vx l vh env) st2 vrx nd2' o2' fun wh vwh G3 H3 env3 F3 Fh len3 st3 vrx3 vrh nd3 o3 => ?_
    unfold slcV at o3
    split at o3
    · rename_i h ts env4 e2 e3
      refine ⟨h, optI_ok st3 vrh e2, ?_⟩
      have vx3 := vrx3.one
      obtain ⟨k1, k2, kj⟩ := nodup_app.mp nd3
      obtain ⟨k3, _, _⟩ := nodup_app.mp k2
      have nd4 : (F3 ++ Fx).Nodup := nodup_app.mpr ⟨k1, by simpa using k3, fun p hp hq => kj p hp (List.mem_append_left _ (List.mem_append_left _ hq))⟩
      have vx3 : VR Ω G3 H3 σ env3.length x vx Fx := by simpa using vx3
      obtain ⟨ad, vs, G4, F4, Ft, rfl, hq, s4, st4, r4, nd5, l4, _⟩ := seqOf_ok st3 vx3 nd4 e3
      have hq : SqL Ω.K H3 ad vs := hq.elim (·.2) fun z => by cases z.1
      refine ⟨ad, vs, rfl, hq, fun p hp => ?_⟩
      obtain ⟨m1, m2, mj⟩ := nodup_app.mp nd5
      obtain ⟨Fc, c1, c2, c3⟩ := r4.cut m2 (HT.sIx ts.length 0 l) (HT.sIx ts.length ts.length h - HT.sIx ts.length 0 l)
      unfold cutV
      rw [r4.len]
      refine OutV.newL st4 c1 (nodup_app.mpr ⟨m1, c3, fun p hp hq => mj p hp (c2 p hq)⟩) (fun _ h => h) (o3.after ((s4.wide fun p hp => ?_).sub fun p hp => ?_)) hp
      · simp only [List.mem_append] at hp ⊢
        exact hp.imp id fun z => .inl (.inl (by simpa using z))
      · simp only [List.mem_append] at hp ⊢
        exact hp.imp id (c2 p)
    · exact o3.elim
  · exact o2.elim

/-! ### calls of defs -/
inductive Backs (σ : L2.St) (m : Nat) : List V → List (Option Nat) → Prop
  | nil : Backs σ m [] []
  | none {v : V} {vs : List V} {ss : List (Option Nat)} : Backs σ m vs ss → Backs σ m (v :: vs) (Option.none :: ss)
  | some {v : V} {vs : List V} {ss : List (Option Nat)} {i : Nat} : σ[i]? = Option.some (Option.some v) → i < m → Backs σ m vs ss → Backs σ m (v :: vs) (Option.some i :: ss)
theorem putBack_ok {G' H' : Hp} : ∀ {vs : List V} {ss : List (Option Nat)} {as : List (Option Tr)} {env : FF.Env} {F Fa : List Addr}, Backs σ env.length vs ss → SlR Ω G' H' (vs.map some) as Fa → St Ω G' H' σ env F → (F ++ Fa).Nodup →
    ∃ F2, St Ω G' H' σ (putBack ss as env) F2 ∧ ∀ p ∈ F2, p ∈ F ++ Fa
  | _, _, as, env, F, Fa, .nil, h, st, nd => by
    cases h
    exact ⟨F, st, fun p hp => List.mem_append_left _ hp⟩
  | _, _, as, env, F, Fa, .none (vs := vs) b, h, st, nd => by
    rw [List.map_cons] at h
    obtain ⟨n1, n2, dj⟩ := nodup_app.mp nd
    cases h with
    | none h =>
      obtain ⟨F3, q1, q2⟩ := putBack_ok b h st nd
      exact ⟨F3, q1, q2⟩
    | some r h =>
      rename_i t env' F1 F2
      obtain ⟨m1, m2, _⟩ := nodup_app.mp n2
      obtain ⟨F3, q1, q2⟩ := putBack_ok (Fa := F2) b h st (nodup_app.mpr ⟨n1, m2, (Disj.appR.mp dj).2⟩)
      exact ⟨F3, q1, fun p hp => by
        rcases List.mem_append.mp (q2 p hp) with z | z
        · exact List.mem_append_left _ z
        · exact List.mem_append_right _ (List.mem_append_right _ z)⟩
  | _, _, as, env, F, Fa, .some (v := v) (vs := vs) (ss := ss) (i := i) hv hi b, h, st, nd => by
    rw [List.map_cons] at h
    obtain ⟨n1, n2, dj⟩ := nodup_app.mp nd
    obtain ⟨F2, F1, c1, c2⟩ := st.sl.clear i
    obtain ⟨k1, k2, kj⟩ := nodup_app.mp (c2.nodup_iff.mp n1)
    have sub2 : ∀ p ∈ F2, p ∈ F := fun p hp => c2.mem_iff.mpr (List.mem_append_right _ hp)
    cases h with
    | none h =>
      obtain ⟨F3, q1, q2⟩ := putBack_ok (env := env.set i none) (F := F2) (by rw [List.length_set]; exact b) h ⟨st.same, c1, k2⟩ (nodup_app.mpr ⟨k2, n2, fun p hp => dj p (sub2 p hp)⟩)
      exact ⟨F3, q1, fun p hp => by
        rcases List.mem_append.mp (q2 p hp) with z | z
        · exact List.mem_append_left _ (sub2 p z)
        · exact List.mem_append_right _ z⟩
    | some r h =>
      rename_i t env' Fr Fs
      obtain ⟨m1, m2, mj⟩ := nodup_app.mp n2
      obtain ⟨d1, d2⟩ := Disj.appR.mp dj
      obtain ⟨F4, e1, e2⟩ := c1.back hi r hv
      have nd4 : F4.Nodup := e2.nodup_iff.mpr (nodup_app.mpr ⟨m1, k2, fun p hp hq => d1 p (sub2 p hq) hp⟩)
      obtain ⟨F3, q1, q2⟩ := putBack_ok (env := env.set i (some t)) (F := F4) (by rw [List.length_set]; exact b) h ⟨st.same, e1, nd4⟩ (nodup_app.mpr ⟨nd4, m2, fun p hp hq => by
        rcases List.mem_append.mp (e2.mem_iff.mp hp) with z | z
        · exact mj p z hq
        · exact d2 p (sub2 p z) hq⟩)
      exact ⟨F3, q1, fun p hp => by
        rcases List.mem_append.mp (q2 p hp) with z | z
        · rcases List.mem_append.mp (e2.mem_iff.mp z) with z | z
          · exact List.mem_append_right _ (List.mem_append_left _ z)
          · exact List.mem_append_left _ (sub2 p z)
        · exact List.mem_append_right _ (List.mem_append_right _ z)⟩
theorem prep_ok : ∀ {ms : List Bool} {xs : List Val} {vs : List V} {env env1 : FF.Env} {ts : List Tr} {ss : List (Option Nat)} {G : Hp} {F Fv : List Addr}, St Ω G H σ env F → VRs Ω G H σ env.length vs xs Fv → (F ++ Fv).Nodup → prep ms xs env = some (ts, ss, env1) →
    ∃ G1 F1 Ft, Step G H (F ++ Fv) G1 H (F1 ++ Ft) ∧ St Ω G1 H σ env1 F1 ∧ TRs Ω G1 H vs ts Ft ∧ (F1 ++ Ft).Nodup ∧ env1.length = env.length ∧ Backs σ env.length vs ss
  | [], [], _, env, _, _, _, G, F, _, st, .nil, nd, h => by
    simp only [prep, Option.some.injEq, Prod.mk.injEq] at h
    obtain ⟨rfl, rfl, rfl⟩ := h
    exact ⟨G, F, [], Step.refl fun _ h => h, st, .nil, nd, rfl, .nil⟩
  | [], _ :: _, _, env, _, _, _, G, F, _, st, _, nd, h => by simp [prep] at h
  | _ :: _, [], _, env, _, _, _, G, F, _, st, _, nd, h => by simp [prep] at h
  | m :: ms, x :: xs, _, env, env', _, _, G, F, _, st, .cons (v := v) (vs := vs) (F1 := Fa) (F2 := Fb) a b, nd, h => by
    rw [← List.append_assoc] at nd
    obtain ⟨n1, n2, dj⟩ := nodup_app.mp nd
    unfold prep at h
    split at h
    · rename_i t s env1 e1
      have first : ∃ G1 F1 Ft, Step G H (F ++ Fa) G1 H (F1 ++ Ft) ∧ St Ω G1 H σ env1 F1 ∧ TR Ω G1 H v t Ft ∧ (F1 ++ Ft).Nodup ∧ env1.length = env.length ∧ (s = none ∨ ∃ i, s = some i ∧ σ[i]? = some (some v) ∧ i < env.length) := by
        split at e1
        · rename_i i
          obtain ⟨z, zi, rfl⟩ := a
          split at e1
          · rename_i t0 e0
            cases e1
            obtain ⟨w, F1, F2, a1, b1, c1, d1, nd1⟩ := st.out e0
            rw [a1] at z; cases z
            obtain ⟨k1, k2, kj⟩ := nodup_app.mp nd1
            refine ⟨G, F2, F1, Step.refl fun p hp => ?_, ⟨st.same, c1, k2⟩, b1, nodup_app.mpr ⟨k2, k1, kj.symm⟩, by simp, .inr ⟨i, rfl, a1, zi⟩⟩
            rw [List.append_nil]
            refine d1.mem_iff.mpr ?_
            rcases List.mem_append.mp hp with z | z
            · exact List.mem_append_right _ z
            · exact List.mem_append_left _ z
          · cases e1
        · rename_i t0
          cases e1
          exact ⟨G, F, Fa, Step.refl fun _ h => h, st, a, n1, rfl, .inl rfl⟩
        · split at e1
          · rename_i t0 env2 e0
            cases e1
            obtain ⟨G1, F1, s1, st1, r1, l1⟩ := takeF_ok st a n1 e0
            exact ⟨G1, F1, [], by simpa using s1, st1, r1, by simpa using st1.nd, l1, .inl rfl⟩
          · cases e1
      obtain ⟨G1, F1, Ft, s1, st1, r1, nd1, l1, hs⟩ := first
      split at h
      · rename_i ts ss env2 e2
        cases h
        obtain ⟨b1, db⟩ := VRs.step (R := []) s1 b dj.symm
        obtain ⟨db1, db2⟩ := Disj.appR.mp db
        obtain ⟨m1, m2, mj⟩ := nodup_app.mp nd1
        have nd2 : (F1 ++ Fb).Nodup := nodup_app.mpr ⟨m1, n2, db1.symm⟩
        obtain ⟨G2, F2, Fs, s2, st2, r2, nd3, l2, bk⟩ := prep_ok st1 (by rw [l1]; exact b1) nd2 e2
        have dt : Disj Ft (F1 ++ Fb) := Disj.appR.mpr ⟨mj.symm, db2.symm⟩
        obtain ⟨r1', d1⟩ := r1.step s2 dt
        obtain ⟨d11, d12⟩ := Disj.appR.mp d1
        obtain ⟨k1, k2, kj⟩ := nodup_app.mp nd3
        refine ⟨G2, F2, Ft ++ Fs, ?_, st2, .cons r1' r2, ?_, l2.trans l1, ?_⟩
        · rw [← List.append_assoc]
          refine (s1.frame (R := Fb)).trans (((s2.frame (R := Ft)).wide fun p hp => ?_).sub fun p hp => ?_)
          · simp only [List.mem_append] at hp ⊢
            rcases hp with (hp | hp) | hp
            · exact .inl (.inl hp)
            · exact .inr hp
            · exact .inl (.inr hp)
          · simp only [List.mem_append] at hp ⊢
            rcases hp with hp | hp | hp
            · exact .inl (.inl hp)
            · exact .inr hp
            · exact .inl (.inr hp)
        · exact nodup_app.mpr ⟨k1, nodup_app.mpr ⟨m2, k2, d12⟩, Disj.appR.mpr ⟨d11.symm, kj⟩⟩
        · rw [l1] at bk
          rcases hs with rfl | ⟨i, rfl, z1, z2⟩
          · exact .none bk
          · exact .some z1 z2 bk
      · cases h
    · cases h
/-- what a call needs of the def's promise -/
theorem call_ok {env : FF.Env} {j : Nat} {xs : List Val} {vs : List V} {Fv : List Addr} {Q : VK} (st : St Ω G H σ env F) (vr : VRs Ω G H σ env.length vs xs Fv) (nd : (F ++ Fv).Nodup)
    (o : OutV Ω W G H σ (F ++ Fv) (callV Θ.modes (callF Θ n) j xs env) Q) : spOf Ω Θ n j vs H Q (WE W σ) := by
  unfold callV at o
  split at o
  · rename_i ts ss env1 e
    obtain ⟨G1, F1, Ft, s1, st1, r1, nd1, l1, bk⟩ := prep_ok st vr nd e
    obtain ⟨n1, n2, dj⟩ := nodup_app.mp nd1
    rw [← l1] at bk
    refine ⟨G1, ts, Ft, st1.same, r1, n2, ?_⟩
    have back : ∀ {G' H' : Hp} {as : List (Option Tr)} {Fa Fv' : List Addr}, Step G1 H Ft G' H' (Fa ++ Fv') → Same G' H' → SlR Ω G' H' (vs.map some) as Fa → (Fa ++ Fv').Nodup →
        ∃ F2, Step G H (F ++ Fv) G' H' (F2 ++ Fv') ∧ St Ω G' H' σ (putBack ss as env1) F2 ∧ (F2 ++ Fv').Nodup := by
      intro G' H' as Fa Fv' s2 sm sl nd2
      have ap := s2.apart (R := F1) (fun p hp => st1.sl.there p hp) dj
      obtain ⟨d1, d2⟩ := Disj.appR.mp ap.2.2
      have st2 : St Ω G' H' σ env1 F1 := ⟨sm, st1.sl.to s2.g ap.1 ap.2.1, n1⟩
      obtain ⟨m1, m2, mj⟩ := nodup_app.mp nd2
      obtain ⟨F2, q1, q2⟩ := putBack_ok bk sl st2 (nodup_app.mpr ⟨n1, m1, d1⟩)
      refine ⟨F2, ?_, q1, nodup_app.mpr ⟨q1.nd, m2, fun p hp hq => ?_⟩⟩
      · have z := (s2.frame (R := F1))
        refine s1.trans ((z.wide fun p hp => ?_).sub fun p hp => ?_)
        · simp only [List.mem_append] at hp ⊢
          exact hp.symm
        · simp only [List.mem_append] at hp ⊢
          rcases hp with hp | hp
          · rcases List.mem_append.mp (q2 p hp) with z | z
            · exact .inr z
            · exact .inl (.inl z)
          · exact .inl (.inr hp)
      · rcases List.mem_append.mp (q2 p hp) with z | z
        · exact d2 p z hq
        · exact mj p z hq
    split at o
    · rename_i t as e2
      try rw [e2]
      intro v G' H' Fv' Fa s2 sm sl tr nd2
      obtain ⟨F2, q1, q2, q3⟩ := back s2 sm sl nd2
      exact o v G' H' F2 Fv' q1 q2 tr q3
    · rename_i c d as e2
      try rw [e2]
      intro dd u G' H' Fa s2 sm sl nd2 h1 h2
      obtain ⟨F2, q1, q2, q3⟩ := back (Fv' := []) (by simpa using s2) sm sl (by simpa using nd2)
      exact o dd u G' H' F2 (by simpa using q1) q2 h1 h2
    · exact o.elim
  · exact o.elim
theorem sE_call (g : GX Ω n W os X) (T : TO Ω Θ n) {j : Nat} {x : Str} {p pos : Pos} {es : List Expr} {fs : FF.Env → R (List Val × FF.Env)} (hg : glOk X.env.scope x = true) (hj : (match Θ.fns[j]? with | some F => decide (F.name = x) | none => false) = true)
    (ha : PA X es (tL Ω W fs)) (hp : es.all plainE = true) (hnil : es = [] → ∀ env, fs env = .ok ([], env)) :
    PE X (.Call (.Name x p) es [] pos) (tF Ω W fun env => (fs env).bind fun q => callV Θ.modes (callF Θ n) j q.1 q.2) := by
  obtain ⟨h1, h2, h3⟩ := glOk_of hg
  split at hj
  · rename_i Fj ej
    have hx : Fj.name = x := of_decide_eq_true hj
    have hm : X.mg x = some (.ref (Ω.fa j)) := by rw [g.w.mg, ← hx]; exact T.fnm j Fj ej
    have hk := T.fkp j Fj ej
    have hb := T.fbd j Fj ej
    rw [← g.w.K] at hk hb
    refine PE.imp (pe_callG (E := WE W) g.w (T.fok j Fj ej) g.room g.gd h1 hm hk hb (fun σ => passAt g.tk σ) ha hp h2 ?_) fun σ H Q hh => ?_
    · intro e0 σ H Q hh
      have : fs = fun env => .ok ([], env) := funext (hnil e0)
      rw [this] at hh
      exact tL_nil hh
    · exact many (g := fun vs env => callV Θ.modes (callF Θ n) j vs env) hh fun xs vxs G1 H1 env1 F1 Fx st vrs nd o => call_ok st vrs nd o
  · cases hj

theorem permute_cons {α : Type} (vs : List α) (i : Nat) (perm : List Nat) : permute (i :: perm) vs = (match vs[i]?, permute perm vs with | some v, some l => some (v :: l) | _, _ => none) := rfl
theorem permute_ok {α : Type} {vs : List α} : ∀ {perm : List Nat} {us : List α}, permute perm vs = some us → us.length = perm.length ∧ ∀ (k i : Nat), perm[k]? = some i → us[k]? = vs[i]? ∧ i < vs.length
  | [], us, h => by
    simp only [permute, List.foldr_nil, Option.some.injEq] at h
    subst h
    exact ⟨rfl, fun k i e => by simp at e⟩
  | i :: perm, us, h => by
    have h : (match vs[i]?, permute perm vs with | some v, some l => some (v :: l) | _, _ => none) = some us := h
    split at h
    · rename_i v l e1 e2
      cases h
      obtain ⟨a, b⟩ := permute_ok e2
      refine ⟨by simp [a], fun k j e => ?_⟩
      cases k with
      | zero =>
        simp only [List.getElem?_cons_zero, Option.some.injEq] at e
        subst e
        exact ⟨by rw [e1]; rfl, (List.getElem?_eq_some_iff.mp e1).1⟩
      | succ k =>
        simp only [List.getElem?_cons_succ] at e ⊢
        exact b k j e
    · cases h
theorem noOwn_ok {m : Nat} {x : V} {vx : Val} {Fx : List Addr} (h : noOwn vx = true) (r : VR Ω G H σ m x vx Fx) : Fx = [] := by
  cases vx with
  | brw i => exact r.2.2
  | tr t =>
    cases t with
    | sh d => cases r; rfl
    | fn j => cases r; rfl
    | lst ts => cases h
    | tup ts => cases h
    | exc c d => cases h
/-- some of the values, in another order -/
theorem VRs.at {m : Nat} : ∀ {xs : List V} {vxs : List Val} {Fz : List Addr} {i : Nat} {w : Val}, VRs Ω G H σ m xs vxs Fz → vxs.all noOwn = true → vxs[i]? = some w → ∃ x, xs[i]? = some x ∧ VR Ω G H σ m x w []
  | _, _, _, i, _, .nil, _, e => by simp at e
  | _, _, _, 0, _, .cons (F1 := F1) (F2 := F2) a b, h, e => by
    simp only [List.getElem?_cons_zero, Option.some.injEq] at e
    subst e
    rw [List.all_cons, Bool.and_eq_true] at h
    have := noOwn_ok h.1 a
    subst this
    exact ⟨_, rfl, a⟩
  | _, _, _, i + 1, _, .cons (F1 := F1) (F2 := F2) a b, h, e => by
    rw [List.all_cons, Bool.and_eq_true] at h
    obtain ⟨x, h1, h2⟩ := VRs.at (i := i) b h.2 (by simpa using e)
    exact ⟨x, by simpa using h1, h2⟩
theorem VRs.perm {m : Nat} {xs : List V} {vxs : List Val} {Fz : List Addr} (r : VRs Ω G H σ m xs vxs Fz) (h : vxs.all noOwn = true) : ∀ {perm : List Nat} {us : List Val}, permute perm vxs = some us → ∀ (d : V), VRs Ω G H σ m (perm.map fun i => xs.getD i d) us []
  | [], us, e, d => by
    simp only [permute, List.foldr_nil, Option.some.injEq] at e
    subst e
    exact .nil
  | i :: perm, us, e, d => by
    rw [permute_cons] at e
    split at e
    · rename_i v l e1 e2
      cases e
      obtain ⟨x, h1, h2⟩ := r.at h e1
      have hx : xs.getD i d = x := by simp [List.getD_eq_getElem?_getD, h1]
      rw [List.map_cons, hx]
      exact .cons (F1 := []) (F2 := []) h2 (VRs.perm r h e2 d)
    · cases e
theorem VRs.len {m : Nat} : ∀ {xs : List V} {vxs : List Val} {Fz : List Addr}, VRs Ω G H σ m xs vxs Fz → xs.length = vxs.length
  | _, _, _, .nil => rfl
  | _, _, _, .cons _ b => congrArg (· + 1) (VRs.len b)
theorem vals_perm {xs : List V} {us : List Value} (r : Vals xs us) : ∀ {perm : List Nat}, (∀ i ∈ perm, i < xs.length) → Vals (perm.map fun i => xs.getD i .non) (permD perm us)
  | [], _ => .nil
  | i :: perm, h => by
    have hi := h i (List.mem_cons_self ..)
    obtain ⟨u, hu, ru⟩ := r.get (List.getElem?_eq_getElem hi)
    refine .cons ?_ (vals_perm r fun j hj => h j (List.mem_cons_of_mem _ hj))
    show L2.RelV (xs.getD i V.non) (us.getD i Value.none)
    rw [List.getD_eq_getElem?_getD, List.getD_eq_getElem?_getD, hu, List.getElem?_eq_getElem hi]
    exact ru
theorem vals_app : ∀ {xs ys : List V} {us ws : List Value}, Vals xs us → Vals ys ws → Vals (xs ++ ys) (us ++ ws)
  | _, _, _, _, .nil, b => b
  | _, _, _, _, .cons r t, b => .cons r (vals_app t b)
theorem pair_len {xs ys : List V} {us ws : List Value} {npos nk : Nat} (r : Vals xs us) (s : Vals ys ws) : (us.length = npos ∧ ws.length = nk) ↔ (xs.length = npos ∧ ys.length = nk) := by
  rw [r.length, s.length]
theorem kbinds_of {K : PySem.W.Frag} {Ω : Wd} {fd : FuncData} {ps ks : List Str} {npos : Nat} {perm : List Nat} (k : KwFact Ω fd ps npos ks perm) (hne : ps ≠ []) :
    KBinds K fd ps ks (fun us ws => if us.length = npos ∧ ws.length = ks.length then permD perm (us ++ ws) else []) (fun vs zs => if vs.length = npos ∧ zs.length = ks.length then perm.map (fun i => (vs ++ zs).getD i .non) else []) where
  to := fun s us ws _ hl => by
    by_cases h : us.length = npos ∧ ws.length = ks.length
    · rw [if_pos h]; exact k.to s us ws h.1 h.2
    · rw [if_neg h] at hl
      exact absurd (List.eq_nil_of_length_eq_zero hl.symm) hne
  rel := fun {vs us zs ws} r rz => by
    by_cases h : us.length = npos ∧ ws.length = ks.length
    · rw [if_pos h, if_pos ((pair_len r rz).mp h)]
      refine vals_perm (vals_app r rz) fun i hi => ?_
      have := k.lt i hi
      rw [List.length_append, ((pair_len r rz).mp h).1, ((pair_len r rz).mp h).2]
      exact this
    · rw [if_neg h, if_neg fun z => h ((pair_len r rz).mpr z)]
      exact .nil
theorem sE_callk (g : GX Ω n W os X) (T : TO Ω Θ n) {j : Nat} {x : Str} {p pos : Pos} {es : List Expr} {kws : List Keyword} {perm : List Nat} {fs fk : FF.Env → R (List Val × FF.Env)} (hg : glOk X.env.scope x = true) (hj : (match Θ.fns[j]? with | some F => decide (F.name = x) && !F.ps.isEmpty | none => false) = true)
    (ha : PA X es (tL Ω W fs)) (hk : PK X kws (tL Ω W fk)) (hp : es.all plainE = true) (hnil : es = [] → ∀ env, fs env = .ok ([], env)) (hK : (j, es.length, kws.filterMap (·.arg), perm) ∈ Θ.kws) (hn : kws.map (·.arg) = (kws.filterMap (·.arg)).map some)
    {np nk : Nat} (ln1 : np = es.length) (ln2 : nk = (kws.filterMap (·.arg)).length) :
    PE X (.Call (.Name x p) es kws pos) (tF Ω W fun env => (fs env).bind fun q => (fk q.2).bind fun r => if (q.1 ++ r.1).all noOwn = true ∧ q.1.length = np ∧ r.1.length = nk then (match permute perm (q.1 ++ r.1) with
      | some us => callV Θ.modes (callF Θ n) j us r.2
      | none => .bad) else .bad) := by
  obtain ⟨h1, h2, h3⟩ := glOk_of hg
  split at hj
  · rename_i Fj ej
    rw [Bool.and_eq_true] at hj
    have hx : Fj.name = x := of_decide_eq_true hj.1
    have hne : Fj.ps ≠ [] := by
      intro z
      rw [z] at hj
      exact absurd hj.2 (by simp)
    have hm : X.mg x = some (.ref (Ω.fa j)) := by rw [g.w.mg, ← hx]; exact T.fnm j Fj ej
    have hkp := T.fkp j Fj ej
    rw [← g.w.K] at hkp
    have kb := kbinds_of (K := X.K) (T.kwf j _ _ _ hK Fj ej) hne
    refine PE.imp (pe_callKG (E := WE W) g.w (T.fok j Fj ej) g.room g.gd h1 hm hkp kb (fun σ => passAt g.tk σ) ha hk hp hn h2 ?_) fun σ H Q hh => ?_
    · intro e0 σ H Q hh
      have : fs = fun env => .ok ([], env) := funext (hnil e0)
      rw [this] at hh
      exact tL_nil hh
    · refine many (g := fun vxs env1 => (fk env1).bind fun r => if (vxs ++ r.1).all noOwn = true ∧ vxs.length = np ∧ r.1.length = nk then (match permute perm (vxs ++ r.1) with
        | some us => callV Θ.modes (callF Θ n) j us r.2
        | none => .bad) else .bad) hh fun xs vxs G1 H1 env1 F1 Fx st1 vr1 nd1 o => ?_
      refine pendL (f := fk) (g := fun ws env2 => if (vxs ++ ws).all noOwn = true ∧ vxs.length = np ∧ ws.length = nk then (match permute perm (vxs ++ ws) with
          | some us => callV Θ.modes (callF Θ n) j us env2
          | none => .bad) else .bad) st1 vr1 nd1 o fun zs vzs G2 H2 env2 F2 Fz len2 st2 vrx vrz nd2 o2 => ?_
      split at o2
      · rename_i hno
        split at o2
        · rename_i us eu
          have vr := (vrx.app vrz).perm hno.1 eu V.non
          have o3 : OutV Ω W G2 H2 σ (F2 ++ []) (callV Θ.modes (callF Θ n) j us env2) Q := o2.after (Step.refl fun p hp => by
            rw [List.append_nil] at hp
            exact List.mem_append_left _ hp)
          rw [if_pos ⟨by rw [vrx.len, hno.2.1, ln1], by rw [vrz.len, hno.2.2, ln2]⟩]
          exact call_ok st2 vr (by simpa using st2.nd) o3
        · exact o2.elim
      · exact o2.elim
  · cases hj
end
end FF

set_option Elab.async false
set_option linter.all false
set_option autoImplicit false
set_option maxRecDepth 100000
/-! FZs: zip(a, b, strict=True) over two lists of one length. -/
namespace PySem
namespace FFZ
open Sem (wp)
abbrev stK : List (Str × Value) := [("strict", .bool true)]
theorem typeCall_zipS (a b : Value) : checkTypeCall "zip" ⟨[a, b], stK⟩ = pure () := by kernel_rfl
theorem newCall_zipS (a b : Value) : checkBuiltinCall "zip.__new__" ⟨[.type "zip", a, b], stK⟩ = pure () := by kernel_rfl
theorem args_object_initS (a b c : Value) : argsOk "object.__init__" ⟨[a, b, c], stK⟩ := by
  unfold argsOk; rw [signature?_of (id := "object.__init__") (n := ['_', '_', 't', 'i', 'n', 'i', '_', '_']) (o := ['t', 'c', 'e', 'j', 'b', 'o']) (by kernel_rfl) F.owner_object]; kernel_rfl
/-- a zip that is strict -/
abbrev IsZipS (h : Heap) (z TI TO : Addr) (f0 : Value) : Prop :=
  h.get? z = some { cls := .type "zip", dict := none, data := .fields #[f0, .bool false, .bool true, .ref TI, .ref TO], slots := #[] }
section
variable {prog : Program} {w : World} {A : Around} {E : Value → Shared → Prop} {s : Shared}
theorem typeMeetsKw {T newId initId : String} {Bn Bi : Builtin} {args : List Value} {kw : List (Str × Value)} {S : Spec} {Q Q₁ : Value → Shared → Prop} (ft : TypeCalled T newId initId)
    (hct : checkTypeCall T ⟨args, kw⟩ = pure ()) (hcn : checkBuiltinCall newId ⟨.type T :: args, kw⟩ = pure ())
    (entryN : entryFor table newId = some Bn) (entryI : entryFor table initId = some Bi) (g : Meets (Bn ⟨.type T :: args, kw⟩) S)
    (h : S A.in1 (wants Q₁ E) s)
    (hnext : ∀ obj s₁, Q₁ obj s₁ → s₁.TypeIs obj T ∧ argsOk initId ⟨obj :: args, kw⟩ ∧ ∃ Si, Meets (Bi ⟨obj :: args, kw⟩) Si ∧ Si A.in1 (wants (fun r s₂ => r = .none ∧ Q obj s₂) E) s₁) :
    wpAny (model prog w) A (call (.type T) args kw) Q E s := by
  obtain ⟨c, tl, hmro⟩ := ft.mro
  have hmade := ft.made
  have hsub := ft.sub
  refine wpAny_call (codeAny_of_tree ?_)
  show wpAny _ _ (callAny (.type T) _) _ _ _
  refine wpAny_pure ⟨Code.quiet_builtin _ (by decide +kernel), codeAny_builtin F.entry_type_call ?_⟩
  rw [Around.under_plain (weight_type_call_type T args kw) (units_type_call_type T args kw)]
  have h1 := ft.notType
  have h2 := ft.canCreate
  repeat (any_goals (first | assumption | wp_step))

  refine codeAny_mono (codeAny_call_builtin ft.plain entryN (wpAny_of_eq hcn (g prog w A.in1 _ s h))) fun r s₁ hr => ?_
  cases r with
  | error e => exact hr
  | ok fl =>
    cases fl with
    | ret obj =>
      obtain ⟨hT, hok, Si, gi, hsi⟩ := hnext _ _ hr
      have hli := ft.init.lookup
      have hbi := ft.init.bind obj
      repeat (any_goals (first | assumption | wp_step))

      refine codeAny_mono (codeAny_call_builtin ft.init.plain entryI (ft.init.check _ _ _ _ _ _ _ _ hT hok (gi prog w A.in1 _ s₁ hsi))) fun r₂ s₂ hr₂ => ?_
      cases r₂ with
      | error e => exact hr₂
      | ok fl₂ =>
        cases fl₂ with
        | ret r =>
          obtain ⟨rfl, hq⟩ := hr₂
          repeat (any_goals (first | assumption | wp_step))
        | _ => exact hr₂.elim
    | _ => exact hr.elim
theorem object_init_kw {T newId : String} {self : Value} {rest : List Value} {kw : List (Str × Value)} (hl : typeLookup (.type T) "__init__" = pure (some (.builtin "object.__init__")))
    (hm : Bind.madeBy (.type T) = pure (some newId)) (hne : (some newId != some "object.__new__") = true) :
    Meets (Builtin.«object.__init__» ⟨self :: rest, kw⟩) (fun _ R s => s.TypeIs self T ∧ R (.ok (.ret .none)) s) := by
  refine Meets.of_wp fun prog w A R s hs => ?_
  obtain ⟨hT, hq⟩ := hs
  cases rest with
  | nil =>
    cases kw with
    | nil => exact wpAny_pure ⟨_, rfl, hq⟩
    | cons a l =>
      repeat (any_goals (first | assumption | wp_step))
      exact ⟨_, rfl, hq⟩
  | cons a rest =>
    repeat (any_goals (first | assumption | wp_step))
    exact ⟨_, rfl, hq⟩

abbrev zipS5 (h : Heap) (l1 l2 : Addr) : Heap := (zipH4 h l1 l2).push { cls := .type "zip", data := .fields #[.none, .bool false, .bool true, .ref (zipH2 h l1 l2).objs.size, .ref (zipH3 h l1 l2).objs.size] }
theorem meets_zip_newS (l1 l2 : Addr) (xs ys : Array Value) :
    Meets (Builtin.«zip.__new__» ⟨[.type "zip", .ref l1, .ref l2], stK⟩) (fun _ R s => s.heap.IsList l1 xs ∧ s.heap.IsList l2 ys ∧
      R (.ok (.ret (.ref (zipH4 s.heap l1 l2).objs.size))) { s with heap := zipS5 s.heap l1 l2 }) :=
  .of_wp fun prog w A R s h => by
    obtain ⟨hp, g, d, tk, os⟩ := s; obtain ⟨hl1, hl2, h⟩ := h
    have hsub := sub_zip
    have hL1 : Heap.IsList (Shared.heap ⟨hp, g, d, tk, os⟩) l1 xs := hl1
    have hL2 : Heap.IsList (Shared.heap ⟨hp.push { cls := .type "list_iterator", data := .fields #[.ref l1, .int 0 0] }, g, d, tk, os⟩) l2 ys := Heap.IsList.push hl2 _
    wp_walk using wpAny_pyIter_list hL1, wpAny_pyIter_list hL2
    exact ⟨_, rfl, h⟩
theorem call_zipS {l1 l2 : Addr} {xs ys : Array Value} {Q : Value → Shared → Prop} (hl1 : s.heap.IsList l1 xs) (hl2 : s.heap.IsList l2 ys)
    (h : ∀ h', IsZipS h' (s.heap.objs.size + 4) (s.heap.objs.size + 2) (s.heap.objs.size + 3) .none → IsPair h' (s.heap.objs.size + 2) (.ref s.heap.objs.size) (.ref (s.heap.objs.size + 1)) →
      IsPair h' (s.heap.objs.size + 3) .none .none → h'.IsListIter s.heap.objs.size l1 0 → h'.IsListIter (s.heap.objs.size + 1) l2 0 → h'.objs.size = s.heap.objs.size + 5 →
      (∀ c o, s.heap.get? c = some o → h'.get? c = some o) → Q (.ref (s.heap.objs.size + 4)) { s with heap := h' }) :
    wpAny (model prog w) A (call (.type "zip") [.ref l1, .ref l2] stK) Q E s := by
  refine typeMeetsKw (Q₁ := fun obj s₁ => s₁.TypeIs obj "zip" ∧ Q obj s₁) F.called_zip (typeCall_zipS _ _) (newCall_zipS _ _) F.entry_zip_new F.entry_object_init
    (meets_zip_newS l1 l2 xs ys) ⟨hl1, hl2, ?_⟩ fun obj _ hq => ⟨hq.1, args_object_initS obj _ _, _, object_init_kw F.called_zip.init.lookup F.called_zip.made (by decide), hq.1, rfl, hq.2⟩
  have z1 : (zipH1 s.heap l1).objs.size = s.heap.objs.size + 1 := Heap.size_push ..
  have z2 : (zipH2 s.heap l1 l2).objs.size = s.heap.objs.size + 2 := by rw [Heap.size_push, z1]
  have z3 : (zipH3 s.heap l1 l2).objs.size = s.heap.objs.size + 3 := by rw [Heap.size_push, z2]
  have z4 : (zipH4 s.heap l1 l2).objs.size = s.heap.objs.size + 4 := by rw [Heap.size_push, z3]
  have z5 : (zipS5 s.heap l1 l2).objs.size = s.heap.objs.size + 5 := by rw [Heap.size_push, z4]
  have g5 : (zipS5 s.heap l1 l2).get? (zipH4 s.heap l1 l2).objs.size = some _ := Heap.get?_push_size _ rfl
  have g4 : (zipS5 s.heap l1 l2).get? (zipH3 s.heap l1 l2).objs.size = some _ := Heap.get?_push_of_some _ (Heap.get?_push_size _ rfl)
  have g3 : (zipS5 s.heap l1 l2).get? (zipH2 s.heap l1 l2).objs.size = some _ := Heap.get?_push_of_some _ (Heap.get?_push_of_some _ (Heap.get?_push_size _ rfl))
  have g2 : (zipS5 s.heap l1 l2).get? (zipH1 s.heap l1).objs.size = some _ := Heap.get?_push_of_some _ (Heap.get?_push_of_some _ (Heap.get?_push_of_some _ (Heap.get?_push_size _ rfl)))
  have g1 : (zipS5 s.heap l1 l2).get? s.heap.objs.size = some _ := Heap.get?_push_of_some _ (Heap.get?_push_of_some _ (Heap.get?_push_of_some _ (Heap.get?_push_of_some _ (Heap.get?_push_size _ rfl))))
  show _ ∧ _
  rw [z2, z3, z4] at g5
  rw [z1, z2] at g3
  rw [z3] at g4
  rw [z1] at g2
  rw [z4]
  exact ⟨⟨_, g5, rfl⟩, h _ g5 g3 g4 ⟨_, g1, rfl, rfl⟩ ⟨_, g2, rfl, rfl⟩ z5 fun c o x =>
    Heap.get?_push_of_some _ (Heap.get?_push_of_some _ (Heap.get?_push_of_some _ (Heap.get?_push_of_some _ (Heap.get?_push_of_some _ x))))⟩
/-! the turns -/
theorem nextOrEnd_item {it l : Addr} {i : Nat} {items} {x : Value} {Q : Option Value → Shared → Prop} (hit : s.heap.IsListIter it l i)
    (hl : s.heap.IsList l items) (hx : items[i]? = some x)
    (hQ : ∀ h', h'.IsListIter it l (i + 1) → Heap.SameBut it s.heap h' → Q (some x) { s with heap := h' }) :
    wpAny (model prog w) A (Builtin.SmallTypes.nextOrEnd (.ref it)) Q E s := by
  unfold Builtin.SmallTypes.nextOrEnd
  exact wpAny_bind (wpAny_attempt (wpAny_nextOf_list_item hit hl hx fun h' a b => wpAny_pure (hQ h' a b)))
theorem nextOrEnd_end {it l : Addr} {i : Nat} {items} {Q : Option Value → Shared → Prop} (hh : A.handled = none)
    (hit : s.heap.IsListIter it l i) (hl : s.heap.IsList l items) (hx : items[i]? = none)
    (hQ : ∀ h', Heap.ExtBut it s.heap h' → Q none { s with heap := h' }) :
    wpAny (model prog w) A (Builtin.SmallTypes.nextOrEnd (.ref it)) Q E s := by
  unfold Builtin.SmallTypes.nextOrEnd
  refine wpAny_bind (wpAny_attempt (wpAny_nextOf_list_end hh hit hl hx fun h' e hk he => ?_))
  obtain ⟨o, ho, hc⟩ := he
  refine wpAny_bind (wpAny_isInstance (T := "StopIteration") (b := true) ⟨o, ho, hc⟩ isSubtype_stop ?_)
  exact wpAny_pure (hQ _ hk)
theorem stop_raise {α : Type} {Q : α → Shared → Prop} (hh : A.handled = none) (fin : ∀ h' e, (∀ c o, s.heap.get? c = some o → h'.get? c = some o) → (∃ o, h'.get? e = some o ∧ o.cls = .type "StopIteration") → E (.ref e) { s with heap := h' }) :
    wpAny (model prog w) A (Builtin.SmallTypes.stopIteration : Sem α) Q E s := by
  show wpAny _ _ (newExc (.type "StopIteration") [] >>= _) _ _ _
  refine wpAny_bind ?_
  simp only [newExc, newTuple]
  refine wpAny_bind (wpAny_newObj_type (wpAny_bind (m := firstArgMember _ _) (wpAny_of_eq (a := Value.none) (by simp only [firstArgMember]; rfl) (wpAny_newObj_type ?_ (by size_fits)))) (by size_fits))
  simp only [raiseNew]
  refine wpAny_bind (wpAny_handled ?_)
  rw [hh]
  exact wpAny_bind (wpAny_pure (wpAny_throw (fin _ _ (fun c o e => Heap.get?_push_of_some _ (Heap.get?_push_of_some _ e)) ⟨_, Heap.get?_push_size _ rfl, rfl⟩)))
/-- one turn of a strict zip, where both lists have an item -/
theorem itemS {z TI TO i1 i2 l1 l2 : Addr} {i : Nat} {xs ys : Array Value} {x y a b : Value} {Q : Value → Shared → Prop} (D : ZipApart z TI TO i1 i2 l1 l2) (hz : IsZipS s.heap z TI TO .none) (hTI : IsPair s.heap TI (.ref i1) (.ref i2)) (hTO : IsPair s.heap TO a b)
    (h1 : s.heap.IsListIter i1 l1 i) (h2 : s.heap.IsListIter i2 l2 i) (hl1 : s.heap.IsList l1 xs) (hl2 : s.heap.IsList l2 ys) (hx : xs[i]? = some x) (hy : ys[i]? = some y)
    (fin : ∀ h', IsZipS h' z TI TO (rawInt s.heap.objs.size) → IsPair h' TO x y → h'.IsListIter i1 l1 (i + 1) → h'.IsListIter i2 l2 (i + 1) → IsPair h' s.heap.objs.size x y → h'.objs.size = s.heap.objs.size + 1 →
      (∀ c o, c ≠ z → c ≠ TO → c ≠ i1 → c ≠ i2 → s.heap.get? c = some o → h'.get? c = some o) → Q (.ref s.heap.objs.size) { s with heap := h' }) :
    wpAny (model prog w) A (Builtin.«zip.__next__» ⟨[.ref z], []⟩) (fun f s' => ∃ v, f = .done (.ret v) ∧ Q v s') E s := by
  show wpAny _ _ (field (.ref z) 2 >>= _) _ _ _
  refine wpAny_bind (wpAny_field hz rfl (x := .bool true) rfl ?_)
  show wpAny _ _ (field (.ref z) 3 >>= _) _ _ _
  refine wpAny_bind (wpAny_field hz rfl (x := .ref TI) rfl (wpAny_bind (wpAny_seqItems hTI rfl ?_)))
  show wpAny _ _ (Builtin.SmallTypes.ownedTupleIsFree (.ref z) >>= _) _ _ _
  refine wpAny_bind ?_
  unfold Builtin.SmallTypes.ownedTupleIsFree
  refine wpAny_bind (wpAny_field hz rfl (x := .none) rfl (wpAny_pure ?_))
  simp only [if_true]
  refine wpAny_bind (wpAny_rule (wpAny_bind (wpAny_field hz rfl (x := .ref TO) rfl (wpAny_bind (wpAny_setField_rec hz (by simp) fun g1 z1 k1 => ?_)))))
  replace z1 : IsZipS g1 z TI TO .ellipsis := z1
  refine wpAny_bind ?_
  simp only [List.zipIdx_cons, List.zipIdx_nil, List.forIn_cons, List.forIn_nil]
  -- the first list
  refine wpAny_bind (wpAny_bind (wpAny_onRaise ?_))
  show wpAny _ _ (Builtin.SmallTypes.nextOrEnd (.ref i1)) _ _ _
  refine nextOrEnd_item (h1.extBut k1.extBut D.i1z) (hl1.extBut k1.extBut D.l1z) hx fun g2 m1 k2 => ?_
  have p2 : IsPair g2 TO a b := k2.extBut _ _ D.TOi1 (k1.extBut _ _ D.TOz hTO)
  refine wpAny_bind (wpAny_seqItems p2 rfl (wpAny_bind (wpAny_updateSeq_pair p2 fun g3 p3 k3 => wpAny_bind (wpAny_letGo (wpAny_pure ?_)))))
  replace p3 : IsPair g3 TO x b := p3
  -- the second list
  refine wpAny_bind (wpAny_bind (wpAny_onRaise ?_))
  show wpAny _ _ (Builtin.SmallTypes.nextOrEnd (.ref i2)) _ _ _
  refine nextOrEnd_item (((h2.extBut k1.extBut D.i2z).extBut k2.extBut D.i12.symm).extBut k3.extBut D.TOi2.symm) (((hl2.extBut k1.extBut D.l2z).extBut k2.extBut D.l2i1).extBut k3.extBut D.l2TO) hy fun g4 m2 k4 => ?_
  have p4 : IsPair g4 TO x b := k4.extBut _ _ D.TOi2 p3
  refine wpAny_bind (wpAny_seqItems p4 rfl (wpAny_bind (wpAny_updateSeq_pair p4 fun g5 p5 k5 => wpAny_bind (wpAny_letGo (wpAny_pure (wpAny_pure ?_))))))
  replace p5 : IsPair g5 TO x y := p5
  refine wpAny_bind (wpAny_seqItems p5 rfl (wpAny_bind (wpAny_newTuple ?_)))
  have size : g5.objs.size = s.heap.objs.size := by rw [k5.1, k4.1, k3.1, k2.1, k1.1]
  have z5 : IsZipS g5 z TI TO .ellipsis := k5.extBut _ _ D.TOz.symm (k4.extBut _ _ D.i2z.symm (k3.extBut _ _ D.TOz.symm (k2.extBut _ _ D.i1z.symm z1)))
  have stay : ∀ c o, c ≠ z → c ≠ TO → c ≠ i1 → c ≠ i2 → s.heap.get? c = some o → g5.get? c = some o := fun c o a1 a2 a3 a4 e => k5.extBut _ _ a2 (k4.extBut _ _ a4 (k3.extBut _ _ a2 (k2.extBut _ _ a3 (k1.extBut _ _ a1 e))))
  have m15 : g5.IsListIter i1 l1 (i + 1) := ((m1.extBut k3.extBut D.TOi1.symm).extBut k4.extBut D.i12).extBut k5.extBut D.TOi1.symm
  have m25 : g5.IsListIter i2 l2 (i + 1) := m2.extBut k5.extBut D.TOi2.symm
  have lz : z < g5.objs.size := Heap.lt_size z5
  show wpAny _ _ (Builtin.SmallTypes.ownedTupleHandOut (.ref z) (.ref g5.objs.size) >>= _) _ _ _
  refine wpAny_bind ?_
  unfold Builtin.SmallTypes.ownedTupleHandOut
  have z6 : IsZipS (g5.push { cls := .type "tuple", data := .seq #[x, y] }) z TI TO .ellipsis := Heap.get?_push_of_some _ z5
  refine wpAny_bind (wpAny_setField_rec z6 (by simp) fun g7 z7 k7 => ?_)
  replace z7 : IsZipS g7 z TI TO (rawInt g5.objs.size) := z7
  refine wpAny_setField_rec z7 (by simp) fun g8 z8 k8 => wpAny_pure ⟨_, rfl, ?_⟩
  replace z8 : IsZipS g8 z TI TO (rawInt g5.objs.size) := z8
  have up : ∀ c o, c ≠ z → g5.get? c = some o → g8.get? c = some o := fun c o a1 e => k8.extBut _ _ a1 (k7.extBut _ _ a1 (Heap.get?_push_of_some _ e))
  have p8 : IsPair g8 g5.objs.size x y := k8.extBut _ _ (Nat.ne_of_gt lz) (k7.extBut _ _ (Nat.ne_of_gt lz) (Heap.get?_push_size _ rfl))
  have s8 : g8.objs.size = g5.objs.size + 1 := by rw [k8.1, k7.1, Heap.size_push]
  show Q (.ref g5.objs.size) _
  rw [size] at z8 p8 s8 ⊢
  exact fin g8 z8 (up _ _ D.TOz p5) (m15.at fun o e => up _ o D.i1z e) (m25.at fun o e => up _ o D.i2z e) p8 s8 fun c o a1 a2 a3 a4 e => up c o a1 (stay c o a1 a2 a3 a4 e)
/-- .. where both are at their end -/
theorem endS {z TI TO i1 i2 l1 l2 : Addr} {i : Nat} {xs ys : Array Value} {a b : Value} {Q : Fin → Shared → Prop} (hh : A.handled = none) (D : ZipApart z TI TO i1 i2 l1 l2) (hz : IsZipS s.heap z TI TO .none) (hTI : IsPair s.heap TI (.ref i1) (.ref i2)) (hTO : IsPair s.heap TO a b)
    (h1 : s.heap.IsListIter i1 l1 i) (h2 : s.heap.IsListIter i2 l2 i) (hl1 : s.heap.IsList l1 xs) (hl2 : s.heap.IsList l2 ys) (hx : xs[i]? = none) (hy : ys[i]? = none)
    (fin : ∀ h' e, (∀ c o, c ≠ z → c ≠ TO → c ≠ i1 → c ≠ i2 → s.heap.get? c = some o → h'.get? c = some o) → (∃ o, h'.get? e = some o ∧ o.cls = .type "StopIteration") → E (.ref e) { s with heap := h' }) :
    wpAny (model prog w) A (Builtin.«zip.__next__» ⟨[.ref z], []⟩) Q E s := by
  show wpAny _ _ (field (.ref z) 2 >>= _) _ _ _
  refine wpAny_bind (wpAny_field hz rfl (x := .bool true) rfl ?_)
  show wpAny _ _ (field (.ref z) 3 >>= _) _ _ _
  refine wpAny_bind (wpAny_field hz rfl (x := .ref TI) rfl (wpAny_bind (wpAny_seqItems hTI rfl ?_)))
  show wpAny _ _ (Builtin.SmallTypes.ownedTupleIsFree (.ref z) >>= _) _ _ _
  refine wpAny_bind ?_
  unfold Builtin.SmallTypes.ownedTupleIsFree
  refine wpAny_bind (wpAny_field hz rfl (x := .none) rfl (wpAny_pure ?_))
  simp only [if_true]
  refine wpAny_bind (wpAny_rule (wpAny_bind (wpAny_field hz rfl (x := .ref TO) rfl (wpAny_bind (wpAny_setField_rec hz (by simp) fun g1 z1 k1 => ?_)))))
  replace z1 : IsZipS g1 z TI TO .ellipsis := z1
  refine wpAny_bind ?_
  simp only [List.zipIdx_cons, List.zipIdx_nil, List.forIn_cons, List.forIn_nil]
  refine wpAny_bind (wpAny_bind (wpAny_onRaise ?_))
  show wpAny _ _ (Builtin.SmallTypes.nextOrEnd (.ref i1)) _ _ _
  refine nextOrEnd_end hh (h1.extBut k1.extBut D.i1z) (hl1.extBut k1.extBut D.l1z) hx fun g2 k2 => ?_
  have z2 : IsZipS g2 z TI TO .ellipsis := k2 _ _ D.i1z.symm z1
  refine wpAny_bind (wpAny_setField_rec z2 (by simp) fun g3 z3 k3 => ?_)
  refine wpAny_bind ?_
  show wpAny _ _ (forIn (List.zipIdx (List.drop 1 [Value.ref i1, Value.ref i2]) 1) _ _ >>= _) _ _ _
  refine wpAny_bind ?_
  simp only [List.drop_succ_cons, List.drop_zero, List.zipIdx_cons, List.zipIdx_nil, List.forIn_cons, List.forIn_nil]
  refine wpAny_bind (wpAny_bind ?_)
  refine nextOrEnd_end hh (((h2.extBut k1.extBut D.i2z).extBut k2 D.i12.symm).extBut k3.extBut D.i2z) (((hl2.extBut k1.extBut D.l2z).extBut k2 D.l2i1).extBut k3.extBut D.l2z) hy fun g4 k4 => ?_
  rw [if_neg (by simp)]
  refine wpAny_pure (wpAny_pure (wpAny_bind (wpAny_rule ?_)))
  exact stop_raise hh fun h' e k5 he => fin h' e (fun c o a1 a2 a3 a4 q => k5 c o (k4 c o a4 (k3.extBut c o a1 (k2 c o a3 (k1.extBut c o a1 q))))) he
theorem nextS {z TI TO i1 i2 l1 l2 : Addr} {i : Nat} {xs ys : Array Value} {x y a b : Value} {Q : Option Value → Shared → Prop} (D : ZipApart z TI TO i1 i2 l1 l2) (hz : IsZipS s.heap z TI TO .none) (hTI : IsPair s.heap TI (.ref i1) (.ref i2)) (hTO : IsPair s.heap TO a b)
    (h1 : s.heap.IsListIter i1 l1 i) (h2 : s.heap.IsListIter i2 l2 i) (hl1 : s.heap.IsList l1 xs) (hl2 : s.heap.IsList l2 ys) (hx : xs[i]? = some x) (hy : ys[i]? = some y)
    (fin : ∀ h', IsZipS h' z TI TO (rawInt s.heap.objs.size) → IsPair h' TO x y → h'.IsListIter i1 l1 (i + 1) → h'.IsListIter i2 l2 (i + 1) → IsPair h' s.heap.objs.size x y → h'.objs.size = s.heap.objs.size + 1 →
      (∀ c o, c ≠ z → c ≠ TO → c ≠ i1 → c ≠ i2 → s.heap.get? c = some o → h'.get? c = some o) → Q (some (.ref s.heap.objs.size)) { s with heap := h' }) : wpAny (model prog w) A (pyNext (.ref z)) Q E s := by
  have T : s.TypeIs (.ref z) "zip" := ⟨_, hz, rfl⟩
  unfold pyNext
  refine wpAny_bind (wpAny_attempt (wpAny_callSpecial?_slot (name := Str.ofString "__next__") T F.slot_zip_next (wpAny_call_entry F.slot_zip_next T F.entry_zip_next ?_ (F.args_zip_next_1 _))))
  exact itemS D hz hTI hTO h1 h2 hl1 hl2 hx hy fun h' a1 a2 a3 a4 a5 a6 a7 => wpAny_pure (fin h' a1 a2 a3 a4 a5 a6 a7)
theorem doneS {z TI TO i1 i2 l1 l2 : Addr} {i : Nat} {xs ys : Array Value} {a b : Value} {Q : Option Value → Shared → Prop} (hh : A.handled = none) (D : ZipApart z TI TO i1 i2 l1 l2) (hz : IsZipS s.heap z TI TO .none) (hTI : IsPair s.heap TI (.ref i1) (.ref i2)) (hTO : IsPair s.heap TO a b)
    (h1 : s.heap.IsListIter i1 l1 i) (h2 : s.heap.IsListIter i2 l2 i) (hl1 : s.heap.IsList l1 xs) (hl2 : s.heap.IsList l2 ys) (hx : xs[i]? = none) (hy : ys[i]? = none)
    (fin : ∀ h', (∀ c o, c ≠ z → c ≠ TO → c ≠ i1 → c ≠ i2 → s.heap.get? c = some o → h'.get? c = some o) → Q none { s with heap := h' }) : wpAny (model prog w) A (pyNext (.ref z)) Q E s := by
  have T : s.TypeIs (.ref z) "zip" := ⟨_, hz, rfl⟩
  unfold pyNext
  refine wpAny_bind (wpAny_attempt (wpAny_callSpecial?_slot (name := Str.ofString "__next__") T F.slot_zip_next (wpAny_call_entry F.slot_zip_next T F.entry_zip_next ?_ (F.args_zip_next_1 _))))
  exact endS hh D hz hTI hTO h1 h2 hl1 hl2 hx hy fun h' e k ⟨o, ho, hc⟩ => wpAny_bind (wpAny_isInstance (T := "StopIteration") (b := true) ⟨o, ho, hc⟩ isSubtype_stop (wpAny_pure (fin _ k)))
theorem goS {elts : List Expr} {x1 : _} {pos : Pos} {z TI TO T : Addr} {Q : Unit → Shared → Prop} (hz : IsZipS s.heap z TI TO (rawInt T)) (fin : ∀ h', IsZipS h' z TI TO .none → Heap.SameBut z s.heap h' → Q () { s with heap := h' }) :
    wpAny (model prog w) A (letOwnedTupleGo (.Tuple elts x1 pos) (.ref z) (.ref T)) Q E s := by
  unfold letOwnedTupleGo
  refine wpAny_bind (wpAny_load hz ?_)
  have c : (["enumerate", "zip", "dict_itemiterator", "dict_reverseitemiterator", "odict_iterator", "itertools.zip_longest", "itertools.pairwise"].contains "zip" && (#[rawInt T, .bool false, .bool true, .ref TI, .ref TO] : Array Value)[0]? == some (rawInt T)) = true := by simp
  show wpAny _ _ (ite (_ = true) _ _) Q E s
  rw [if_pos c]
  refine wpAny_bind (wpAny_rule ?_)
  show wpAny _ _ (setField (.ref z) 0 .none) Q E s
  exact wpAny_setField_rec hz (by simp) fun h' a b => fin h' a b
theorem iterS {z TI TO : Addr} {f0 : Value} {Q : Value → Shared → Prop} (hz : IsZipS s.heap z TI TO f0) (h : Q (.ref z) s) : wpAny (model prog w) A (pyIter (.ref z)) Q E s := by
  have T : s.TypeIs (.ref z) "zip" := ⟨_, hz, rfl⟩
  refine wpAny_pyIter_slot T F.slot_zip_iter (wpAny_call_entry F.slot_zip_iter T F.entry_zip_iter ?_ (F.args_zip_iter_1 _))
  show wpAny _ _ (ret (.ref z)) _ _ s
  exact wpAny_pure ⟨_, rfl, "zip", _, T, F.slot_zip_next.lookup, h⟩
end
end FFZ
end PySem
namespace L2
open PySem PySem.FFZ
/-- the lists at a and b as they stand at each turn; both end at once -/
def ItzS (K : PySem.W.Frag) (a b : Addr) : It where
  go := fun i H => ∃ (xs ys : List V) (x y : V), SqL K H a xs ∧ SqL K H b ys ∧ xs[i]? = some x ∧ ys[i]? = some y
  yld := fun i H v H' => ∃ T x y, v = .ref T ∧ H T = none ∧ H' = upd H T (.tup [x, y]) ∧ (∀ xs, SqL K H a xs → xs[i]? = some x) ∧ ∀ ys, SqL K H b ys → ys[i]? = some y
  stop := fun i H => ∃ xs ys : List V, SqL K H a xs ∧ SqL K H b ys ∧ xs.length ≤ i ∧ ys.length ≤ i
theorem turnS {P : Program} {w : World} {K : PySem.W.Frag} {elts : List Expr} {kk : Nat} {tpos : Pos} {a b z TI TO i1 i2 : Addr} (D : ZipApart z TI TO i1 i2 a b) :
    Turn P w K (.Tuple elts kk tpos) (ItzS K a b) [z, TI, TO, i1, i2] z (fun i h => IsZipS h z TI TO .none ∧ IsPair h TI (.ref i1) (.ref i2) ∧ (∃ x y, IsPair h TO x y) ∧ h.IsListIter i1 a i ∧ h.IsListIter i2 b i) where
  mem := List.mem_cons_self ..
  obj := fun i h ⟨hz, hTI, ⟨x, y, hTO⟩, ⟨o1, e1, _, d1⟩, ⟨o2, e2, _, d2⟩⟩ c hc => by
    simp only [List.mem_cons, List.not_mem_nil, or_false] at hc
    rcases hc with rfl | rfl | rfl | rfl | rfl
    · exact ⟨_, hz, fun v q => nomatch q⟩
    · exact ⟨_, hTI, fun v q => nomatch q⟩
    · exact ⟨_, hTO, fun v q => nomatch q⟩
    · exact ⟨o1, e1, fun v q => by rw [d1] at q; cases q⟩
    · exact ⟨o2, e2, fun v q => by rw [d2] at q; cases q⟩
  keep := fun i h h' ⟨hz, hTI, ⟨x, y, hTO⟩, h1, h2⟩ k => ⟨k z (by simp) _ hz, k TI (by simp) _ hTI, ⟨x, y, k TO (by simp) _ hTO⟩, h1.at fun o q => k i1 (by simp) o q, h2.at fun o q => k i2 (by simp) o q⟩
  item := by
    rintro X rfl rfl rfl hc i pins s σ H E I hf ⟨hz, hTI, ⟨x0, y0, hTO⟩, h1, h2⟩ ⟨xs, ys, x, y, hqx, hqy, hx, hy⟩
    obtain ⟨its, rv, p, _⟩ := I.list hqx
    obtain ⟨its2, rv2, p2, _⟩ := I.list hqy
    obtain ⟨u, hu, ru⟩ := rv.get hx
    obtain ⟨u2, hu2, ru2⟩ := rv2.get hy
    have lz : z < s.heap.objs.size := Heap.lt_size hz
    have nin : ∀ {c : Addr}, c ∉ [z, TI, TO, i1, i2] → c ≠ z ∧ c ≠ TO ∧ c ≠ i1 ∧ c ≠ i2 := fun h => by
      simp only [List.mem_cons, List.not_mem_nil, or_false, not_or] at h
      exact ⟨h.1, h.2.2.1, h.2.2.2.1, h.2.2.2.2⟩
    refine nextS D hz hTI hTO h1 h2 p.isList p2.isList (x := u) (y := u2) (by simpa using hu) (by simpa using hu2) fun g1 z1 t1 m1 m2 new _ k1 => ⟨_, rfl, goS (s := { s with heap := g1 }) z1 fun g2 z2 k2 => ?_⟩
    have new2 : g2.get? s.heap.objs.size = some { cls := .type "tuple", data := .seq #[u, u2] } := (k2.2 _ (Nat.ne_of_gt lz)).trans new
    have I1 : Inv X pins σ (upd H s.heap.objs.size (.tup [x, y])) { s with heap := g2 } :=
      I.turnedNew (t' := s.toks) (ch := [z, TI, TO, i1, i2]) (fun c o hb q => let n := nin hb; (k2.2 c n.1).trans (k1 c o n.1 n.2.1 n.2.2.1 n.2.2.2 q)) hf (Nat.le_refl _) ⟨by show 2 ≤ sizeLine; decide, [u, u2], .cons ru (.cons ru2 .nil), ⟨_, new2, rfl, _, rfl⟩⟩
    refine ⟨.ref s.heap.objs.size, _, I1, rfl, ⟨_, x, y, rfl, I.hok.fresh (Nat.le_refl _), rfl, fun l hl => by rw [I.list_inj hl hqx]; exact hx, fun l hl => by rw [I.list_inj hl hqy]; exact hy⟩,
      ⟨z2, (k2.2 _ D.TIz).trans (k1 _ _ D.TIz D.TITO D.TIi1 D.TIi2 hTI), ⟨u, u2, (k2.2 _ D.TOz).trans t1⟩, m1.at fun o q => (k2.2 _ D.i1z).trans q, m2.at fun o q => (k2.2 _ D.i2z).trans q⟩, fun c hcm => ?_⟩
    have lc : c < s.heap.objs.size := by
      have hcm' := hcm
      simp only [List.mem_cons, List.not_mem_nil, or_false] at hcm'
      rcases hcm' with rfl | rfl | rfl | rfl | rfl
      · exact lz
      · exact Heap.lt_size hTI
      · exact Heap.lt_size hTO
      · obtain ⟨_, e1, _⟩ := h1; exact Heap.lt_size e1
      · obtain ⟨_, e2, _⟩ := h2; exact Heap.lt_size e2
    rw [upd_ne (Nat.ne_of_lt lc)]
    exact (hf c hcm).1
  done := by
    rintro X rfl rfl rfl hc i pins s σ H E I hf ⟨hz, hTI, ⟨x0, y0, hTO⟩, h1, h2⟩ ⟨xs, ys, hqx, hqy, e1, e2⟩
    obtain ⟨its, rv, p, _⟩ := I.list hqx
    obtain ⟨its2, rv2, p2, _⟩ := I.list hqy
    have l1 := rv.length
    have l2 := rv2.length
    refine doneS (I.ok.hd hc) D hz hTI hTO h1 h2 p.isList p2.isList (by simp; omega) (by simp; omega) fun h' hk => ⟨rfl, I.turnedL (t' := s.toks) (ch := [z, TI, TO, i1, i2]) (fun c o hb q => ?_) hf⟩
    simp only [List.mem_cons, List.not_mem_nil, or_false, not_or] at hb
    exact hk c o hb.1 hb.2.2.1 hb.2.2.2.1 hb.2.2.2.2 q
  self := fun A i s Q E st h => iterS st.1 h
def iZipS (K : PySem.W.Frag) (ta : TA) : TI := fun σ H R => ta σ H fun vs H1 => ∃ a b xs ys, vs = [.ref a, .ref b] ∧ SqL K H1 a xs ∧ SqL K H1 b ys ∧ R (ItzS K a b) H1
theorem pi_zipS {X : Cx} {e e2 : Expr} {ta : TA} {p pos tpos kp cp : Pos} {elts : List Expr} {kk ck : Nat} (hg : Gl X "zip") (hm : X.mg "zip" = none) (ha : PA X [e, e2] ta)
    (hs : starEach [e, e2] X.env = (false, eval e X.env) :: starEach [e2] X.env) (hpl : (backTo pos (starEach [e2] X.env)).any (·.1) = false) :
    PI X (.Tuple elts kk tpos) (.Call (.Name "zip" p) [e, e2] [⟨some "strict", .Constant (.bool true) ck cp, kp⟩] pos) (iZipS X.K ta) := by
  refine ⟨fun pins s σ H R I h => ?_⟩
  have pk : PK X [⟨some "strict", .Constant (.bool true) ck cp, kp⟩] (tCons (tC (.bl true)) tNil) := pk_cons pe_bl pk_nil
  refine wpAny_Call_Name_kw (ld_blt I hg hm PyProof.Rows.boot_zip ?_)
  refine PySem.W.callWith_of (P := fun _ => True) (by rw [hs]; show ((false || (backTo pos (starEach [e2] X.env)).any (·.1)) || false) = false; rw [hpl]; rfl) (fun _ _ => ⟨.machine, .inr (.inl rfl), .of_pure rfl⟩) (PyProof.Rows.evalArgs_kw2 rfl (thn (ha.run pos pins s σ H _ I h) fun us s1 ⟨vs, H1, I1, r1, q1⟩ => thn (pk.run pos pins s1 σ H1 (fun zs H2 => zs = [.bl true] ∧ H2 = H1) I1 ⟨rfl, rfl⟩) fun ws s2 ⟨zs, H2, I2, r2, e1, e2⟩ => ⟨trivial, ?_⟩) hs)
  obtain ⟨a, b, xs, ys, rfl, hqx, hqy, q⟩ := q1
  subst e1 e2
  obtain ⟨u, u2, rfl, ra, rb⟩ := vals2 r1
  obtain rfl : u = .ref a := ra
  obtain rfl : u2 = .ref b := rb
  obtain ⟨v, rfl, rv⟩ := vals1 r2
  obtain rfl : v = .bool true := rv
  obtain ⟨its, _, p1, _⟩ := I2.list hqx
  obtain ⟨its2, _, p2, _⟩ := I2.list hqy
  have la : a < s2.heap.objs.size := p1.lt
  have lb : b < s2.heap.objs.size := p2.lt
  show wpAny _ _ (call (.type "zip") [.ref a, .ref b] stK) _ _ _
  refine call_zipS p1.isList p2.isList fun h' hz hTI hTO h1 h2 hsz hk => iterS hz ?_
  refine ⟨s2.heap.objs.size + 4, [s2.heap.objs.size + 4, s2.heap.objs.size + 2, s2.heap.objs.size + 3, s2.heap.objs.size, s2.heap.objs.size + 1], _, _, H2, rfl, I2.kept (t' := s2.toks) hk, turnS (PySem.W.ktu_apart s2.heap.objs.size a b la lb), ⟨hz, hTI, ⟨_, _, hTO⟩, h1, h2⟩, fun c hc => ?_, q⟩
  have le : s2.heap.objs.size ≤ c := by
    simp only [List.mem_cons, List.not_mem_nil, or_false] at hc
    rcases hc with z | z | z | z | z <;> rw [z] <;> first | exact Nat.le_add_right _ _ | exact Nat.le_refl _
  exact I2.fpOk le (I2.hok.fresh le)
end L2

set_option Elab.async false
set_option linter.all false
set_option autoImplicit false
set_option maxRecDepth 100000
/-! FN: what is walked: lists, tuples, ranges, enumerate, zip. -/
namespace FF
open PySem PySem.Spec PyProof.Rows L2
section
variable {Ω : Wd} {W : WX} {G H : Hp} {σ : L2.St} {F : List Addr} {Θ : Tab} {n : Nat} {os : Scope} {X : Cx}

/-- the items that an iterator still gives -/
structure FeedI (Ω : Wd) (J : It) where
  P : Nat → Hp → Hp → List Tr → List Addr → Prop
  there : ∀ {i G H ts Ft}, P i G H ts Ft → ∀ p ∈ Ft, H p ≠ none ∧ G p = none
  step : ∀ {i G H ts Ft G' H' F F'}, P i G H ts Ft → Step G H F G' H' F' → Disj Ft F → P i G' H' ts Ft
  nil : ∀ {i G H Ft}, P i G H [] Ft → Same G H → J.stop i H
  cons : ∀ {i G H t ts Ft}, P i G H (t :: ts) Ft → Same G H → Ft.Nodup → J.go i H ∧ ∀ x H', J.yld i H x H' → ∃ G' Ft1 Ft2, Step G H Ft G' H' (Ft1 ++ Ft2) ∧ Same G' H' ∧ TR Ω G' H' x t Ft1 ∧ P (i + 1) G' H' ts Ft2 ∧ (Ft1 ++ Ft2).Nodup

/-- a list's, a tuple's own cell -/

def PL (Ω : Wd) (a : Addr) (i : Nat) (G H : Hp) (ts : List Tr) (Ft : List Addr) : Prop :=
  ∃ xs F', TRs Ω G H (xs.drop i) ts F' ∧ ((SqL Ω.K G a xs ∧ Ft = F') ∨ (H a = some (.lst xs) ∧ G a = none ∧ Ft = a :: F'))
theorem PL.there {a : Addr} {i : Nat} {ts : List Tr} {Ft : List Addr} (h : PL Ω a i G H ts Ft) : ∀ p ∈ Ft, H p ≠ none ∧ G p = none := by
  obtain ⟨xs, F', r, ⟨_, rfl⟩ | ⟨e, g, rfl⟩⟩ := h
  · exact r.there
  · intro p hp
    rcases List.mem_cons.mp hp with z | z
    · subst z; exact ⟨by rw [e]; simp, g⟩
    · exact r.there p z
theorem PL.step {a : Addr} {i : Nat} {ts : List Tr} {Ft F F' : List Addr} {G' H' : Hp} (h : PL Ω a i G H ts Ft) (s : Step G H F G' H' F') (d : Disj Ft F) : PL Ω a i G' H' ts Ft := by
  have th := h.there
  obtain ⟨xs, Fs, r, ⟨q, rfl⟩ | ⟨e, g, rfl⟩⟩ := h
  · exact ⟨xs, Ft, (r.step s d).1, .inl ⟨sqL_mono s.g q, rfl⟩⟩
  · have ap := s.apart th d
    exact ⟨xs, Fs, (r.step s fun p hp => d p (List.mem_cons_of_mem _ hp)).1, .inr ⟨ap.1 a (List.mem_cons_self ..) _ e, ap.2.1 a (List.mem_cons_self ..), rfl⟩⟩
theorem PL.seq {a : Addr} {i : Nat} {ts : List Tr} {Ft : List Addr} (h : PL Ω a i G H ts Ft) (s : Same G H) : ∃ xs, SqL Ω.K H a xs ∧ xs.length - i = ts.length := by
  obtain ⟨xs, F', r, ⟨q, rfl⟩ | ⟨e, g, rfl⟩⟩ := h
  · exact ⟨xs, sqL_mono s q, by rw [← r.len, List.length_drop]⟩
  · exact ⟨xs, .of e, by rw [← r.len, List.length_drop]⟩
theorem PL.nil {a : Addr} {i : Nat} {Ft : List Addr} (h : PL Ω a i G H [] Ft) (s : Same G H) : ∃ xs, SqL Ω.K H a xs ∧ xs.length ≤ i := by
  obtain ⟨xs, q, l⟩ := h.seq s
  exact ⟨xs, q, by simp only [List.length_nil] at l; omega⟩
theorem PL.cons {a : Addr} {i : Nat} {t : Tr} {ts : List Tr} {Ft : List Addr} (h : PL Ω a i G H (t :: ts) Ft) (s : Same G H) :
    ∃ xs x Ft1 Ft2, SqL Ω.K H a xs ∧ xs[i]? = some x ∧ TR Ω G H x t Ft1 ∧ PL Ω a (i + 1) G H ts Ft2 ∧ (∀ p ∈ Ft1 ++ Ft2, p ∈ Ft) ∧ (Ft.Nodup → (Ft1 ++ Ft2).Nodup) := by
  obtain ⟨xs, F', r, hc⟩ := h
  generalize e : xs.drop i = ys at r
  cases r with
  | @cons v vs _ _ F1 F2 r1 r2 =>
    have hi : i < xs.length := by
      have := congrArg List.length e
      rw [List.length_drop, List.length_cons] at this
      omega
    have e1 : xs[i]? = some v ∧ xs.drop (i + 1) = vs := by
      rw [List.drop_eq_getElem_cons hi] at e
      obtain ⟨a, b⟩ := List.cons.inj e
      exact ⟨by rw [List.getElem?_eq_getElem hi, a], b⟩
    rw [← e1.2] at r2
    rcases hc with ⟨q, rfl⟩ | ⟨eH, g, rfl⟩
    · exact ⟨xs, v, F1, F2, sqL_mono s q, e1.1, r1, ⟨xs, F2, r2, .inl ⟨q, rfl⟩⟩, fun _ h => h, id⟩
    · refine ⟨xs, v, F1, a :: F2, .of eH, e1.1, r1, ⟨xs, F2, r2, .inr ⟨eH, g, rfl⟩⟩, fun p hp => ?_, fun nd => ?_⟩
      · simp only [List.mem_append, List.mem_cons] at hp ⊢
        rcases hp with hp | hp | hp
        · exact .inr (.inl hp)
        · exact .inl hp
        · exact .inr (.inr hp)
      · exact (List.perm_middle (a := a) (l₁ := F1) (l₂ := F2)).symm.nodup_iff.mp (by exact nd)

def PT (Ω : Wd) (a : Addr) (i : Nat) (G H : Hp) (ts : List Tr) (Ft : List Addr) : Prop :=
  ∃ xs F', TRs Ω G H (xs.drop i) ts F' ∧ ((SqT Ω.K G a xs ∧ Ft = F') ∨ (H a = some (.tup xs) ∧ G a = none ∧ Ft = a :: F'))
theorem PT.there {a : Addr} {i : Nat} {ts : List Tr} {Ft : List Addr} (h : PT Ω a i G H ts Ft) : ∀ p ∈ Ft, H p ≠ none ∧ G p = none := by
  obtain ⟨xs, F', r, ⟨_, rfl⟩ | ⟨e, g, rfl⟩⟩ := h
  · exact r.there
  · intro p hp
    rcases List.mem_cons.mp hp with z | z
    · subst z; exact ⟨by rw [e]; simp, g⟩
    · exact r.there p z
theorem PT.step {a : Addr} {i : Nat} {ts : List Tr} {Ft F F' : List Addr} {G' H' : Hp} (h : PT Ω a i G H ts Ft) (s : Step G H F G' H' F') (d : Disj Ft F) : PT Ω a i G' H' ts Ft := by
  have th := h.there
  obtain ⟨xs, Fs, r, ⟨q, rfl⟩ | ⟨e, g, rfl⟩⟩ := h
  · exact ⟨xs, Ft, (r.step s d).1, .inl ⟨sqT_mono s.g q, rfl⟩⟩
  · have ap := s.apart th d
    exact ⟨xs, Fs, (r.step s fun p hp => d p (List.mem_cons_of_mem _ hp)).1, .inr ⟨ap.1 a (List.mem_cons_self ..) _ e, ap.2.1 a (List.mem_cons_self ..), rfl⟩⟩
theorem PT.seq {a : Addr} {i : Nat} {ts : List Tr} {Ft : List Addr} (h : PT Ω a i G H ts Ft) (s : Same G H) : ∃ xs, SqT Ω.K H a xs ∧ xs.length - i = ts.length := by
  obtain ⟨xs, F', r, ⟨q, rfl⟩ | ⟨e, g, rfl⟩⟩ := h
  · exact ⟨xs, sqT_mono s q, by rw [← r.len, List.length_drop]⟩
  · exact ⟨xs, .of e, by rw [← r.len, List.length_drop]⟩
theorem PT.nil {a : Addr} {i : Nat} {Ft : List Addr} (h : PT Ω a i G H [] Ft) (s : Same G H) : ∃ xs, SqT Ω.K H a xs ∧ xs.length ≤ i := by
  obtain ⟨xs, q, l⟩ := h.seq s
  exact ⟨xs, q, by simp only [List.length_nil] at l; omega⟩
theorem PT.cons {a : Addr} {i : Nat} {t : Tr} {ts : List Tr} {Ft : List Addr} (h : PT Ω a i G H (t :: ts) Ft) (s : Same G H) :
    ∃ xs x Ft1 Ft2, SqT Ω.K H a xs ∧ xs[i]? = some x ∧ TR Ω G H x t Ft1 ∧ PT Ω a (i + 1) G H ts Ft2 ∧ (∀ p ∈ Ft1 ++ Ft2, p ∈ Ft) ∧ (Ft.Nodup → (Ft1 ++ Ft2).Nodup) := by
  obtain ⟨xs, F', r, hc⟩ := h
  generalize e : xs.drop i = ys at r
  cases r with
  | @cons v vs _ _ F1 F2 r1 r2 =>
    have hi : i < xs.length := by
      have := congrArg List.length e
      rw [List.length_drop, List.length_cons] at this
      omega
    have e1 : xs[i]? = some v ∧ xs.drop (i + 1) = vs := by
      rw [List.drop_eq_getElem_cons hi] at e
      obtain ⟨a, b⟩ := List.cons.inj e
      exact ⟨by rw [List.getElem?_eq_getElem hi, a], b⟩
    rw [← e1.2] at r2
    rcases hc with ⟨q, rfl⟩ | ⟨eH, g, rfl⟩
    · exact ⟨xs, v, F1, F2, sqT_mono s q, e1.1, r1, ⟨xs, F2, r2, .inl ⟨q, rfl⟩⟩, fun _ h => h, id⟩
    · refine ⟨xs, v, F1, a :: F2, .of eH, e1.1, r1, ⟨xs, F2, r2, .inr ⟨eH, g, rfl⟩⟩, fun p hp => ?_, fun nd => ?_⟩
      · simp only [List.mem_append, List.mem_cons] at hp ⊢
        rcases hp with hp | hp | hp
        · exact .inr (.inl hp)
        · exact .inl hp
        · exact .inr (.inr hp)
      · exact (List.perm_middle (a := a) (l₁ := F1) (l₂ := F2)).symm.nodup_iff.mp (by exact nd)

def feedL (Ω : Wd) (a : Addr) : FeedI Ω (Itl Ω.K a) where
  P := PL Ω a
  there := PL.there
  step := PL.step
  nil := fun h s => PL.nil h s
  cons := fun {i G H t ts Ft} h s nd => by
    obtain ⟨xs, x, F1, F2, q, e, r, h2, sub, nd2⟩ := PL.cons h s
    refine ⟨⟨xs, x, q, e⟩, fun y H' hy => ?_⟩
    obtain ⟨rfl, hy⟩ := hy
    have : x = y := by have := hy xs q; rw [e] at this; exact Option.some.inj this
    subst this
    exact ⟨G, F1, F2, Step.refl sub, s, r, h2, nd2 nd⟩
def feedT (Ω : Wd) (a : Addr) : FeedI Ω (Itt Ω.K a) where
  P := PT Ω a
  there := PT.there
  step := PT.step
  nil := fun h s => PT.nil h s
  cons := fun {i G H t ts Ft} h s nd => by
    obtain ⟨xs, x, F1, F2, q, e, r, h2, sub, nd2⟩ := PT.cons h s
    refine ⟨⟨xs, x, q, e⟩, fun y H' hy => ?_⟩
    obtain ⟨rfl, hy⟩ := hy
    have : x = y := by have := hy xs q; rw [e] at this; exact Option.some.inj this
    subst this
    exact ⟨G, F1, F2, Step.refl sub, s, r, h2, nd2 nd⟩
def rngT (lo : Int) (k : Nat) : Tr := .sh (.int (lo + (k : Int)))
def feedR (Ω : Wd) (lo : Int) (n : Nat) : FeedI Ω (Itr lo n) where
  P := fun i G H ts Ft => i ≤ n ∧ ts = ((List.range n).drop i).map (rngT lo) ∧ Ft = []
  there := fun ⟨_, _, e⟩ => by subst e; exact fun _ h => nomatch h
  step := fun h _ _ => h
  nil := fun {i G H Ft} ⟨a, b, _⟩ _ => by
    have := congrArg List.length b
    rw [List.length_map, List.length_drop, List.length_range, List.length_nil] at this
    show n ≤ i
    omega
  cons := fun {i G H t ts Ft} ⟨a, b, c⟩ s _ => by
    subst c
    have hi : i < n := by
      have := congrArg List.length b
      rw [List.length_map, List.length_drop, List.length_range, List.length_cons] at this
      omega
    rw [List.drop_eq_getElem_cons (by rw [List.length_range]; exact hi), List.map_cons, List.getElem_range] at b
    obtain ⟨b1, b2⟩ := List.cons.inj b
    refine ⟨hi, fun x H' hx => ?_⟩
    obtain ⟨rfl, rfl⟩ := hx
    subst b1
    exact ⟨G, [], [], Step.refl fun _ h => h, s, .sh (.int _), ⟨hi, b2, rfl⟩, List.nodup_nil⟩

/-- a new tuple of trees, no frame in sight -/
theorem mkTup_raw {vs : List V} {ts : List Tr} {Ft : List Addr} (s : Same G H) (r : TRs Ω G H vs ts Ft) (nd : Ft.Nodup) {p : Addr} (hp : H p = none) :
    ∃ G' Fv, Step G H Ft G' (upd H p (.tup vs)) Fv ∧ Same G' (upd H p (.tup vs)) ∧ TR Ω G' (upd H p (.tup vs)) (.ref p) (mkTup ts) Fv ∧ Fv.Nodup := by
  unfold mkTup
  split
  · rename_i ds e
    have e := allSh_eq e
    subst e
    obtain ⟨q, rfl⟩ := r.to_sh
    refine ⟨upd G p (.tup vs), [], ?_, same_upd2 s, .sh (.tup (.of upd_same) (dpAll_mono ?_ q)), List.nodup_nil⟩
    · have z := (Step.alloc (F := []) (o := .tup vs) s hp false)
      simpa using z
    · exact fun a u e => by rw [upd_ne (ne_of_none e (s.free hp))]; exact e
  · have npT : p ∉ Ft := fun z => (r.there p z).1 hp
    refine ⟨G, p :: Ft, ?_, same_updR s hp, .tup upd_same (s.free hp) (trs_owned hp r), List.nodup_cons.mpr ⟨npT, nd⟩⟩
    have z := (Step.alloc (F := Ft) (o := .tup vs) s hp true)
    refine z.sub fun q hq => ?_
    show q ∈ Ft ++ [p]
    simp only [List.mem_append, List.mem_cons, List.mem_singleton] at hq ⊢
    exact hq.symm.imp id fun z => .inl z
/-- an item's new tuple, the other items standing by -/
theorem tup_item {vs : List V} {ts : List Tr} {Ft F1 F2 : List Addr} (s : Same G H) (r : TRs Ω G H vs ts F1) (nd : (F1 ++ F2).Nodup) (sub : ∀ p ∈ F1 ++ F2, p ∈ Ft) (th : ∀ p ∈ F2, H p ≠ none ∧ G p = none) {p : Addr} (hp : H p = none) :
    ∃ G' Fv, Step G H Ft G' (upd H p (.tup vs)) (Fv ++ F2) ∧ Same G' (upd H p (.tup vs)) ∧ TR Ω G' (upd H p (.tup vs)) (.ref p) (mkTup ts) Fv ∧ (Fv ++ F2).Nodup ∧ Step G H F1 G' (upd H p (.tup vs)) Fv := by
  obtain ⟨n1, n2, dj⟩ := nodup_app.mp nd
  obtain ⟨G', Fv, s1, sm, r1, nd1⟩ := mkTup_raw s r n1 hp
  have ap := s1.apart th dj.symm
  exact ⟨G', Fv, (s1.frame (R := F2)).wide sub, sm, r1, nodup_app.mpr ⟨nd1, n2, ap.2.2.symm⟩, s1⟩
def feedE (Ω : Wd) (a : Addr) : FeedI Ω (Ite Ω.K a) where
  P := fun i G H us Ft => ∃ ts, us = enumT i ts ∧ PL Ω a i G H ts Ft
  there := fun ⟨_, _, h⟩ => h.there
  step := fun ⟨ts, e, h⟩ s d => ⟨ts, e, h.step s d⟩
  nil := fun ⟨ts, e, h⟩ s => by
    cases ts with
    | nil => exact PL.nil h s
    | cons t ts => cases e
  cons := fun {i G H t us Ft} ⟨ts, e, h⟩ s nd => by
    cases ts with
    | nil => cases e
    | cons t0 ts =>
      obtain ⟨e1, e2⟩ := List.cons.inj e
      obtain ⟨xs, x, F1, F2, q, ex, r, h2, sub, nd2⟩ := PL.cons h s
      refine ⟨⟨xs, x, q, ex⟩, fun y H' hy => ?_⟩
      obtain ⟨T, x', rfl, hT, rfl, hy⟩ := hy
      have : x' = x := by have := hy xs q; rw [ex] at this; exact (Option.some.inj this).symm
      subst this
      have r2 : TRs Ω G H [.int (i : Nat), x'] [.sh (.int i), t0] F1 := by
        have z : TRs Ω G H [.int (i : Nat), x'] [.sh (.int i), t0] ([] ++ (F1 ++ [])) := .cons (.sh (.int _)) (.cons r .nil)
        simpa using z
      obtain ⟨G', Fv, s1, sm, r1, nd1, s2⟩ := tup_item s r2 (nd2 nd) sub h2.there hT
      subst e1
      exact ⟨G', Fv, F2, s1, sm, r1, ⟨ts, e2, h2.step s2 (nodup_app.mp (nd2 nd)).2.2.symm⟩, nd1⟩
def feedZ (Ω : Wd) (a b : Addr) : FeedI Ω (Itz Ω.K a b) where
  P := fun i G H us Ft => ∃ ts1 ts2 F1 F2, us = zipT ts1 ts2 ∧ ts1.length = ts2.length ∧ PL Ω a i G H ts1 F1 ∧ PL Ω b i G H ts2 F2 ∧ Ft = F1 ++ F2
  there := fun ⟨_, _, _, _, _, _, h1, h2, e⟩ => by
    subst e
    intro p hp
    rcases List.mem_append.mp hp with z | z
    · exact h1.there p z
    · exact h2.there p z
  step := fun ⟨ts1, ts2, F1, F2, e, l, h1, h2, ef⟩ s d => by
    subst ef
    obtain ⟨d1, d2⟩ := Disj.appL.mp d
    exact ⟨ts1, ts2, F1, F2, e, l, h1.step s d1, h2.step s d2, rfl⟩
  nil := fun ⟨ts1, ts2, F1, F2, e, l, h1, h2, ef⟩ s => by
    cases ts1 with
    | nil =>
      obtain ⟨xs, q, k⟩ := PL.nil h1 s
      obtain ⟨ys, q2, _⟩ := h2.seq s
      exact ⟨xs, ys, q, q2, .inl k⟩
    | cons t ts1 =>
      cases ts2 with
      | nil => cases l
      | cons u ts2 => cases e
  cons := fun {i G H t us Ft} ⟨ts1, ts2, F1, F2, e, l, h1, h2, ef⟩ s nd => by
    subst ef
    cases ts1 with
    | nil => cases e
    | cons t1 ts1 =>
      cases ts2 with
      | nil => cases l
      | cons t2 ts2 =>
        obtain ⟨e1, e2⟩ := List.cons.inj e
        obtain ⟨n1, n2, dj⟩ := nodup_app.mp nd
        obtain ⟨xs, x, A1, A2, q, ex, r, k1, sub1, nd1⟩ := PL.cons h1 s
        obtain ⟨ys, y, B1, B2, q2, ey, r2, k2, sub2, nd2⟩ := PL.cons h2 s
        refine ⟨⟨xs, ys, x, y, q, q2, ex, ey⟩, fun v H' hv => ?_⟩
        obtain ⟨T, x', y', rfl, hT, rfl, hx, hy⟩ := hv
        have : x' = x := by have := hx xs q; rw [ex] at this; exact (Option.some.inj this).symm
        subst this
        have : y' = y := by have := hy ys q2; rw [ey] at this; exact (Option.some.inj this).symm
        subst this
        have rr : TRs Ω G H [x', y'] [t1, t2] (A1 ++ B1) := by
          have z : TRs Ω G H [x', y'] [t1, t2] (A1 ++ (B1 ++ [])) := .cons r (.cons r2 .nil)
          simpa using z
        obtain ⟨a1, a2, a3⟩ := nodup_app.mp (nd1 n1)
        obtain ⟨b1, b2, b3⟩ := nodup_app.mp (nd2 n2)
        have dd : ∀ {p : Addr}, p ∈ A1 ++ A2 → p ∈ B1 ++ B2 → False := fun h h' => dj _ (sub1 _ h) (sub2 _ h')
        have ndx : ((A1 ++ B1) ++ (A2 ++ B2)).Nodup := nodup_app.mpr ⟨nodup_app.mpr ⟨a1, b1, fun p h h' => dd (List.mem_append_left _ h) (List.mem_append_left _ h')⟩,
          nodup_app.mpr ⟨a2, b2, fun p h h' => dd (List.mem_append_right _ h) (List.mem_append_right _ h')⟩, Disj.appL.mpr ⟨Disj.appR.mpr ⟨a3, fun p h h' => dd (List.mem_append_left _ h) (List.mem_append_right _ h')⟩,
            Disj.appR.mpr ⟨fun p h h' => dd (List.mem_append_right _ h') (List.mem_append_left _ h), b3⟩⟩⟩
        obtain ⟨G', Fv, s1, sm, r1, nd3, s2⟩ := tup_item (Ft := F1 ++ F2) s rr ndx (fun p hp => by
          simp only [List.mem_append] at hp ⊢
          rcases hp with (hp | hp) | hp | hp
          · exact .inl (sub1 p (List.mem_append_left _ hp))
          · exact .inr (sub2 p (List.mem_append_left _ hp))
          · exact .inl (sub1 p (List.mem_append_right _ hp))
          · exact .inr (sub2 p (List.mem_append_right _ hp))) (fun p hp => by
          rcases List.mem_append.mp hp with z | z
          · exact k1.there p z
          · exact k2.there p z) hT
        obtain ⟨dx, dy⟩ := Disj.appL.mp (nodup_app.mp ndx).2.2.symm
        subst e1
        exact ⟨G', Fv, A2 ++ B2, s1, sm, r1, ⟨ts1, ts2, A2, B2, e2, by simpa using l, k1.step s2 dx, k2.step s2 dy, rfl⟩, nd3⟩

/-! ### readings of what is walked -/
def feedZS (Ω : Wd) (a b : Addr) : FeedI Ω (ItzS Ω.K a b) where
  P := fun i G H us Ft => ∃ ts1 ts2 F1 F2, us = zipT ts1 ts2 ∧ ts1.length = ts2.length ∧ PL Ω a i G H ts1 F1 ∧ PL Ω b i G H ts2 F2 ∧ Ft = F1 ++ F2
  there := fun ⟨_, _, _, _, _, _, h1, h2, e⟩ => by
    subst e
    intro p hp
    rcases List.mem_append.mp hp with z | z
    · exact h1.there p z
    · exact h2.there p z
  step := fun ⟨ts1, ts2, F1, F2, e, l, h1, h2, ef⟩ s d => by
    subst ef
    obtain ⟨d1, d2⟩ := Disj.appL.mp d
    exact ⟨ts1, ts2, F1, F2, e, l, h1.step s d1, h2.step s d2, rfl⟩
  nil := fun ⟨ts1, ts2, F1, F2, e, l, h1, h2, ef⟩ s => by
    cases ts1 with
    | nil =>
      cases ts2 with
      | cons _ _ => cases l
      | nil =>
        obtain ⟨xs, q, k⟩ := PL.nil h1 s
        obtain ⟨ys, q2, k2⟩ := PL.nil h2 s
        exact ⟨xs, ys, q, q2, k, k2⟩
    | cons t ts1 =>
      cases ts2 with
      | nil => cases l
      | cons u ts2 => cases e
  cons := fun {i G H t us Ft} ⟨ts1, ts2, F1, F2, e, l, h1, h2, ef⟩ s nd => by
    subst ef
    cases ts1 with
    | nil => cases e
    | cons t1 ts1 =>
      cases ts2 with
      | nil => cases l
      | cons t2 ts2 =>
        obtain ⟨e1, e2⟩ := List.cons.inj e
        obtain ⟨n1, n2, dj⟩ := nodup_app.mp nd
        obtain ⟨xs, x, A1, A2, q, ex, r, k1, sub1, nd1⟩ := PL.cons h1 s
        obtain ⟨ys, y, B1, B2, q2, ey, r2, k2, sub2, nd2⟩ := PL.cons h2 s
        refine ⟨⟨xs, ys, x, y, q, q2, ex, ey⟩, fun v H' hv => ?_⟩
        obtain ⟨T, x', y', rfl, hT, rfl, hx, hy⟩ := hv
        have : x' = x := by have := hx xs q; rw [ex] at this; exact (Option.some.inj this).symm
        subst this
        have : y' = y := by have := hy ys q2; rw [ey] at this; exact (Option.some.inj this).symm
        subst this
        have rr : TRs Ω G H [x', y'] [t1, t2] (A1 ++ B1) := by
          have z : TRs Ω G H [x', y'] [t1, t2] (A1 ++ (B1 ++ [])) := .cons r (.cons r2 .nil)
          simpa using z
        obtain ⟨a1, a2, a3⟩ := nodup_app.mp (nd1 n1)
        obtain ⟨b1, b2, b3⟩ := nodup_app.mp (nd2 n2)
        have dd : ∀ {p : Addr}, p ∈ A1 ++ A2 → p ∈ B1 ++ B2 → False := fun h h' => dj _ (sub1 _ h) (sub2 _ h')
        have ndx : ((A1 ++ B1) ++ (A2 ++ B2)).Nodup := nodup_app.mpr ⟨nodup_app.mpr ⟨a1, b1, fun p h h' => dd (List.mem_append_left _ h) (List.mem_append_left _ h')⟩,
          nodup_app.mpr ⟨a2, b2, fun p h h' => dd (List.mem_append_right _ h) (List.mem_append_right _ h')⟩, Disj.appL.mpr ⟨Disj.appR.mpr ⟨a3, fun p h h' => dd (List.mem_append_left _ h) (List.mem_append_right _ h')⟩,
            Disj.appR.mpr ⟨fun p h h' => dd (List.mem_append_right _ h') (List.mem_append_left _ h), b3⟩⟩⟩
        obtain ⟨G', Fv, s1, sm, r1, nd3, s2⟩ := tup_item (Ft := F1 ++ F2) s rr ndx (fun p hp => by
          simp only [List.mem_append] at hp ⊢
          rcases hp with (hp | hp) | hp | hp
          · exact .inl (sub1 p (List.mem_append_left _ hp))
          · exact .inr (sub2 p (List.mem_append_left _ hp))
          · exact .inl (sub1 p (List.mem_append_right _ hp))
          · exact .inr (sub2 p (List.mem_append_right _ hp))) (fun p hp => by
          rcases List.mem_append.mp hp with z | z
          · exact k1.there p z
          · exact k2.there p z) hT
        obtain ⟨dx, dy⟩ := Disj.appL.mp (nodup_app.mp ndx).2.2.symm
        subst e1
        exact ⟨G', Fv, A2 ++ B2, s1, sm, r1, ⟨ts1, ts2, A2, B2, e2, by simpa using l, k1.step s2 dx, k2.step s2 dy, rfl⟩, nd3⟩

/-! ### readings of what is walked -/
def OutI (Ω : Wd) (W : WX) (G H : Hp) (σ : L2.St) (F : List Addr) (r : R (List Tr × FF.Env)) (Q : It → Hp → Prop) : Prop := match r with
  | .ok (ts, env') => ∀ J (Φ : FeedI Ω J) G' H' F' Ft, Step G H F G' H' (F' ++ Ft) → St Ω G' H' σ env' F' → Φ.P 0 G' H' ts Ft → (F' ++ Ft).Nodup → Q J H'
  | .exc c d env' => ExO1 Ω W G H σ F c d env'
  | .bad => False
def tI (Ω : Wd) (W : WX) (f : FF.Env → R (List Tr × FF.Env)) : TI := fun σ H Q => ∃ G env F, St Ω G H σ env F ∧ OutI Ω W G H σ F (f env) Q
theorem PI.imp {tg e : Expr} {t t' : TI} (h : PI X tg e t) (i : ∀ σ H Q, t' σ H Q → t σ H Q) : PI X tg e t' := ⟨fun pins s σ H Q I q => h.run pins s σ H Q I (i σ H Q q)⟩
theorem pi_seq {tg l : Expr} {tl : TE} (hl : PE X l tl) : PI X tg l (fun σ H R => tl σ H fun x H1 => ∃ a, x = .ref a ∧ (((∃ xs, SqL X.K H1 a xs) ∧ R (Itl X.K a) H1) ∨ ((∃ xs, SqT X.K H1 a xs) ∧ R (Itt X.K a) H1))) := by
  refine ⟨fun pins s σ H R I h => ?_⟩
  refine thn (hl.run pins s σ H _ I h) fun v s1 ⟨x, H1, I1, r1, a, e, q⟩ => ?_
  subst e
  cases r1
  have fp : ∀ b ∈ [s1.heap.objs.size], FpOk X pins H1 b := fun b hb => by
    rw [List.mem_singleton] at hb
    subst hb
    exact I1.fpOk (Nat.le_refl _) (I1.hok.fresh (Nat.le_refl _))
  rcases q with ⟨⟨xs, hq⟩, q⟩ | ⟨⟨xs, hq⟩, q⟩
  · obtain ⟨its, rv, p, hz⟩ := I1.list hq
    refine wpAny_pyIter_list p.isList ⟨s1.heap.objs.size, [s1.heap.objs.size], _, _, H1, rfl, I1.kept (t' := s1.toks) fun b o e => Heap.get?_push_of_some _ e, turn_list a _, ⟨_, Heap.get?_push_size _ rfl, rfl, rfl⟩, fp, q⟩
  · obtain ⟨its, rv, p, hz⟩ := I1.tuple hq
    refine wpAny_pyIter_tuple (show s1.heap.IsTuple a its.toArray from p) ⟨s1.heap.objs.size, [s1.heap.objs.size], _, _, H1, rfl, I1.kept (t' := s1.toks) fun b o e => Heap.get?_push_of_some _ e, turn_tuple a _, ⟨_, Heap.get?_push_size _ rfl, rfl, rfl⟩, fp, q⟩
theorem itemsOf_ok {env env1 : FF.Env} {m : Nat} {v : V} {x : Val} {ts : List Tr} {Fv : List Addr} (st : St Ω G H σ env F) (vr : VR Ω G H σ m v x Fv) (nd : (F ++ Fv).Nodup) (h : itemsOf x env = some (ts, env1)) :
    ∃ a G1 F1 Ft, v = .ref a ∧ Step G H (F ++ Fv) G1 H (F1 ++ Ft) ∧ St Ω G1 H σ env1 F1 ∧ (F1 ++ Ft).Nodup ∧ env1.length = env.length ∧ (PL Ω a 0 G1 H ts Ft ∨ PT Ω a 0 G1 H ts Ft) := by
  unfold itemsOf at h
  split at h
  · rename_i t env2 e1
    split at h
    · rename_i us e2
      cases h
      obtain ⟨G1, F1, Ft, s1, st1, r1, nd1, l1⟩ := take_ok st vr nd e1
      cases t with
      | sh d =>
        cases r1 with
        | sh q =>
          cases d with
          | list ds =>
            simp only [partsOf, Option.some.injEq] at e2
            subst e2
            obtain ⟨a, vs, rfl, q1, q2⟩ := dp_list q
            exact ⟨a, G1, F1, [], rfl, s1, st1, nd1, l1, .inl ⟨vs, [], TRs.of_sh q2, .inl ⟨q1, rfl⟩⟩⟩
          | tuple ds =>
            simp only [partsOf, Option.some.injEq] at e2
            subst e2
            obtain ⟨a, vs, rfl, q1, q2⟩ := dp_tuple q
            exact ⟨a, G1, F1, [], rfl, s1, st1, nd1, l1, .inr ⟨vs, [], TRs.of_sh q2, .inl ⟨q1, rfl⟩⟩⟩
          | _ => simp [partsOf] at e2
      | lst us =>
        simp only [partsOf, Option.some.injEq] at e2
        subst e2
        cases r1 with
        | lst e g r => exact ⟨_, G1, F1, _, rfl, s1, st1, nd1, l1, .inl ⟨_, _, r, .inr ⟨e, g, rfl⟩⟩⟩
      | tup us =>
        simp only [partsOf, Option.some.injEq] at e2
        subst e2
        cases r1 with
        | tup e g r => exact ⟨_, G1, F1, _, rfl, s1, st1, nd1, l1, .inr ⟨_, _, r, .inr ⟨e, g, rfl⟩⟩⟩
      | fn j => simp [partsOf] at e2
      | exc c d => simp [partsOf] at e2
    · cases h
  · cases h
theorem OutI.after {G' H' : Hp} {F' : List Addr} {r : R (List Tr × FF.Env)} {Q : It → Hp → Prop} (s : Step G H F G' H' F') (h : OutI Ω W G H σ F r Q) : OutI Ω W G' H' σ F' r Q := by
  match r, h with
  | .ok (x, env'), h => exact fun J Φ G2 H2 F2 Ft s2 st vr nd => h J Φ G2 H2 F2 Ft (s.trans s2) st vr nd
  | .exc c d env', h => exact ExO1.after s h
  | .bad, h => exact h
theorem oneI {f : FF.Env → R (Val × FF.Env)} {g : Val → FF.Env → R (List Tr × FF.Env)} {Q : It → Hp → Prop} {Q' : VK} (h : tI Ω W (fun env => (f env).bind fun p => g p.1 p.2) σ H Q)
    (k : ∀ x vx G1 H1 env1 F1 Fx, St Ω G1 H1 σ env1 F1 → VR Ω G1 H1 σ env1.length x vx Fx → (F1 ++ Fx).Nodup → OutI Ω W G1 H1 σ (F1 ++ Fx) (g vx env1) Q → Q' x H1) : tF Ω W f σ H Q' := by
  obtain ⟨G, env, F, st, h⟩ := h
  refine ⟨G, env, F, st, ?_⟩
  cases e : f env with
  | bad => simp only [e, R.bind_bad] at h; exact h
  | exc c d env' => simp only [e, R.bind_exc] at h; exact h
  | ok p =>
    obtain ⟨x, env1⟩ := p
    simp only [e, R.bind_ok] at h
    exact fun v G1 H1 F1 Fv s1 st1 vr nd => k v x G1 H1 env1 F1 Fv st1 vr nd (h.after s1)
theorem manyI {f : FF.Env → R (List Val × FF.Env)} {g : List Val → FF.Env → R (List Tr × FF.Env)} {Q : It → Hp → Prop} {Q' : List V → Hp → Prop} (h : tI Ω W (fun env => (f env).bind fun p => g p.1 p.2) σ H Q)
    (k : ∀ x vx G1 H1 env1 F1 Fx, St Ω G1 H1 σ env1 F1 → VRs Ω G1 H1 σ env1.length x vx Fx → (F1 ++ Fx).Nodup → OutI Ω W G1 H1 σ (F1 ++ Fx) (g vx env1) Q → Q' x H1) : tL Ω W f σ H Q' := by
  obtain ⟨G, env, F, st, h⟩ := h
  refine ⟨G, env, F, st, ?_⟩
  cases e : f env with
  | bad => simp only [e, R.bind_bad] at h; exact h
  | exc c d env' => simp only [e, R.bind_exc] at h; exact h
  | ok p =>
    obtain ⟨x, env1⟩ := p
    simp only [e, R.bind_ok] at h
    exact fun v G1 H1 F1 Fv s1 st1 vr nd => k v x G1 H1 env1 F1 Fv st1 vr nd (h.after s1)
theorem sS_seq (g : GX Ω n W os X) {tg e : Expr} {f : FF.Env → R (Val × FF.Env)} (h : PE X e (tF Ω W f)) : PI X tg e (tI Ω W fun env => (f env).bind fun p => R.of (itemsOf p.1 p.2)) := by
  refine PI.imp (pi_seq h) fun σ H Q hh => oneI (g := fun v env => R.of (itemsOf v env)) hh fun x vx G1 H1 env1 F1 Fx st vr nd o => ?_
  cases e1 : itemsOf vx env1 with
  | none => simp only [e1, R.of_none] at o; exact o.elim
  | some p =>
    obtain ⟨ts, env2⟩ := p
    simp only [e1, R.of_some] at o
    obtain ⟨a, G2, F2, Ft, rfl, s2, st2, nd2, l2, hp⟩ := itemsOf_ok st vr nd e1
    rw [g.w.K]
    rcases hp with hp | hp
    · obtain ⟨xs, q, _⟩ := hp.seq st2.same
      exact ⟨a, rfl, .inl ⟨⟨xs, q⟩, (o.after s2) _ (feedL Ω a) G2 H1 F2 Ft (Step.refl fun _ h => h) st2 hp nd2⟩⟩
    · obtain ⟨xs, q, _⟩ := hp.seq st2.same
      exact ⟨a, rfl, .inr ⟨⟨xs, q⟩, (o.after s2) _ (feedT Ω a) G2 H1 F2 Ft (Step.refl fun _ h => h) st2 hp nd2⟩⟩
theorem rng_mem : ("range" : Str) ∈ bltNames ∧ ("enumerate" : Str) ∈ bltNames ∧ ("zip" : Str) ∈ bltNames := by decide
theorem star1 {e : Expr} {env : PySem.Env} (h : plainE e = true) : starEach [e] env = [(false, eval e env)] := by rw [starEach_plain h]; rfl
theorem PI.or {tg e : Expr} {t t' : TI} (h : PI X tg e t) (h' : PI X tg e t') : PI X tg e (fun σ H Q => t σ H Q ∨ t' σ H Q) := ⟨fun pins s σ H Q I q => q.elim (h.run pins s σ H Q I) (h'.run pins s σ H Q I)⟩
theorem rngB_of {i : Int} (h : rngB i = true) : -(2 ^ 62) ≤ i ∧ i < 2 ^ 62 := of_decide_eq_true h
theorem rngV_ok {env : FF.Env} {m : Nat} {xs : List V} {vxs : List Val} {Fx : List Addr} {Q : It → Hp → Prop} (st : St Ω G H σ env F) (vr : VRs Ω G H σ m xs vxs Fx) (o : OutI Ω W G H σ (F ++ Fx) (rngV vxs env) Q) :
    (∃ j : Int, xs = [.int j] ∧ -(2 ^ 62) ≤ j ∧ j < 2 ^ 62 ∧ Q (Itr 0 j.toNat) H) ∨ (∃ i j : Int, xs = [.int i, .int j] ∧ (-(2 ^ 62) ≤ i ∧ i < 2 ^ 62 ∧ -(2 ^ 62) ≤ j ∧ j < 2 ^ 62) ∧ Q (Itr i (j - i).toNat) H) := by
  unfold rngV at o
  split at o
  · rename_i ds e
    have hd := looks_ok st vr e
    cases e1 : rngItems ds with
    | none => simp only [e1, Option.map_none, R.of_none] at o; exact o.elim
    | some ts =>
      simp only [e1, Option.map_some, R.of_some] at o
      have fin : ∀ (lo : Int) (k : Nat), ts = (List.range k).map (rngT lo) → Q (Itr lo k) H := fun lo k et =>
        o _ (feedR Ω lo k) G H F [] (Step.refl fun p hp => List.mem_append_left _ (by simpa using hp)) st ⟨Nat.zero_le _, by rw [List.drop_zero]; exact et, rfl⟩ (by simpa using st.nd)
      unfold rngItems at e1
      split at e1
      · rename_i j
        split at e1
        · rename_i hb
          cases e1
          obtain ⟨v, rfl, h⟩ := dpAll1 hd
          cases dp_int h
          obtain ⟨b1, b2⟩ := rngB_of hb
          exact .inl ⟨j, rfl, b1, b2, fin 0 _ (List.map_congr_left fun k _ => by unfold rngT; rw [Int.zero_add])⟩
        · cases e1
      · rename_i i j
        split at e1
        · rename_i hb
          rw [Bool.and_eq_true] at hb
          cases e1
          obtain ⟨v, w, rfl, h, h2⟩ := dpAll2 hd
          cases dp_int h
          cases dp_int h2
          obtain ⟨b1, b2⟩ := rngB_of hb.1
          obtain ⟨b3, b4⟩ := rngB_of hb.2
          exact .inr ⟨i, j, rfl, ⟨b1, b2, b3, b4⟩, fin i _ rfl⟩
        · cases e1
      · cases e1
  · exact o.elim
def rRng (vs : List V) (H : Hp) (Q : It → Hp → Prop) : Prop :=
  (∃ j : Int, vs = [.int j] ∧ -(2 ^ 62) ≤ j ∧ j < 2 ^ 62 ∧ Q (Itr 0 j.toNat) H) ∨ (∃ i j : Int, vs = [.int i, .int j] ∧ (-(2 ^ 62) ≤ i ∧ i < 2 ^ 62 ∧ -(2 ^ 62) ≤ j ∧ j < 2 ^ 62) ∧ Q (Itr i (j - i).toNat) H)
/-- range of one or two ints -/
theorem pi_rng {tg e : Expr} {es : List Expr} {ta : TA} {p pos : Pos} (hg : Gl X "range") (hm : X.mg "range" = none) (ha : PA X (e :: es) ta) (hp : plainE e = true) (hps : es.all plainE = true) :
    PI X tg (.Call (.Name "range" p) (e :: es) [] pos) (fun σ H Q => ta σ H fun vs H1 => rRng vs H1 Q) := by
  constructor
  intro pins s σ H Q I h
  refine Call_ (ld_blt I hg hm boot_range (PyProof.Rows.callWith_type1 ?_ (starEach_plain hp es X.env) (starEach_all hps)))
  refine thn (ha.run pos pins s σ H _ I h) fun us s1 ⟨vs, H1, I1, r, q⟩ => ?_
  rcases q with ⟨j, rfl, b1, b2, q⟩ | ⟨i, j, rfl, ⟨b1, b2, b3, b4⟩, q⟩
  · obtain ⟨u, rfl, t, rfl⟩ := vals1 r
    refine call_range_1 (range_it I1 (by omega) (by omega) b1 b2 ?_)
    rw [Int.sub_zero]
    exact q
  · obtain ⟨u, w, rfl, ⟨t, rfl⟩, ⟨t', rfl⟩⟩ := vals2 r
    exact call_range_2 (range_it I1 b1 b2 b3 b4 q)
theorem sS_rng (g : GX Ω n W os X) (T : TO Ω Θ n) {tg : Expr} {x : Str} {p pos : Pos} {e : Expr} {es : List Expr} {fs : FF.Env → R (List Val × FF.Env)} (hg : glOk X.env.scope x = true) (hx : x = ("range" : Str)) (ha : PA X (e :: es) (tL Ω W fs)) (hp : (e :: es).all plainE = true) :
    PI X tg (.Call (.Name x p) (e :: es) [] pos) (tI Ω W fun env => (fs env).bind fun q => rngV q.1 q.2) := by
  subst hx
  obtain ⟨h1, _, _⟩ := glOk_of hg
  rw [List.all_cons, Bool.and_eq_true] at hp
  exact PI.imp (pi_rng h1 (by rw [g.w.mg]; exact T.blt _ rng_mem.1) ha hp.1 hp.2) fun σ H Q hh => manyI (g := rngV) hh fun xs vxs G1 H1 env1 F1 Fx st vr nd o => rngV_ok st vr o
/-- the items of a list alone -/
theorem itemsL_ok {env env1 : FF.Env} {m : Nat} {v : V} {x : Val} {ts : List Tr} {Fv : List Addr} (st : St Ω G H σ env F) (vr : VR Ω G H σ m v x Fv) (nd : (F ++ Fv).Nodup) (h : itemsL x env = some (ts, env1)) :
    ∃ a G1 F1 Ft, v = .ref a ∧ Step G H (F ++ Fv) G1 H (F1 ++ Ft) ∧ St Ω G1 H σ env1 F1 ∧ (F1 ++ Ft).Nodup ∧ env1.length = env.length ∧ PL Ω a 0 G1 H ts Ft := by
  unfold itemsL at h
  split at h
  · rename_i t env2 e1
    obtain ⟨G1, F1, Ft, s1, st1, r1, nd1, l1⟩ := take_ok st vr nd e1
    split at h
    · cases h
      cases r1 with
      | sh q =>
        obtain ⟨a, vs, rfl, q1, q2⟩ := dp_list q
        exact ⟨a, G1, F1, [], rfl, s1, st1, nd1, l1, ⟨vs, [], TRs.of_sh q2, .inl ⟨q1, rfl⟩⟩⟩
    · cases h
      cases r1 with
      | lst e g r => exact ⟨_, G1, F1, _, rfl, s1, st1, nd1, l1, ⟨_, _, r, .inr ⟨e, g, rfl⟩⟩⟩
    · cases h
  · cases h
theorem sS_enum (g : GX Ω n W os X) (T : TO Ω Θ n) {tpos : Pos} {elts : List Expr} {kk : Nat} {x : Str} {p pos : Pos} {e : Expr} {f : FF.Env → R (Val × FF.Env)} (hg : glOk X.env.scope x = true) (hx : x = ("enumerate" : Str)) (ha : PE X e (tF Ω W f)) (hp : plainE e = true) :
    PI X (.Tuple elts kk tpos) (.Call (.Name x p) [e] [] pos) (tI Ω W fun env => (f env).bind fun q => (match itemsL q.1 q.2 with
      | some (ts, env2) => .ok (enumT 0 ts, env2)
      | none => .bad)) := by
  subst hx
  obtain ⟨h1, _, _⟩ := glOk_of hg
  refine PI.imp (pi_enum h1 (by rw [g.w.mg]; exact T.blt _ rng_mem.2.1) (pa_consP ha pa_nil hp) (star1 hp)) fun σ H Q hh => ?_
  refine oneI (g := fun v env => (match itemsL v env with
      | some (ts, env2) => .ok (enumT 0 ts, env2)
      | none => .bad)) hh fun x vx G1 H1 env1 F1 Fx st vr nd o => ?_
  cases e1 : itemsL vx env1 with
  | none => simp only [e1] at o; exact o.elim
  | some q =>
    obtain ⟨ts, env2⟩ := q
    simp only [e1] at o
    obtain ⟨a, G2, F2, Ft, rfl, s2, st2, nd2, l2, hp⟩ := itemsL_ok st vr nd e1
    obtain ⟨xs, q, _⟩ := hp.seq st2.same
    rw [g.w.K]
    exact ⟨a, xs, rfl, q, (o.after s2) _ (feedE Ω a) G2 H1 F2 Ft (Step.refl fun _ h => h) st2 ⟨ts, rfl, hp⟩ nd2⟩
theorem sS_zip (g : GX Ω n W os X) (T : TO Ω Θ n) {tpos : Pos} {elts : List Expr} {kk : Nat} {x : Str} {p pos : Pos} {a b : Expr} {fa fb : FF.Env → R (Val × FF.Env)} (hg : glOk X.env.scope x = true) (hx : x = ("zip" : Str)) (ha : PE X a (tF Ω W fa)) (hb : PE X b (tF Ω W fb)) (hp : plainE a = true) (hq : plainE b = true) :
    PI X (.Tuple elts kk tpos) (.Call (.Name x p) [a, b] [] pos) (tI Ω W fun env => (fa env).bind fun p => (fb p.2).bind fun q => (match itemsL p.1 q.2 with
      | some (ts, env3) => (match itemsL q.1 env3 with
        | some (us, env4) => if ts.length = us.length then .ok (zipT ts us, env4) else .bad
        | none => .bad)
      | none => .bad)) := by
  subst hx
  obtain ⟨h1, _, _⟩ := glOk_of hg
  refine PI.imp (pi_zip h1 (by rw [g.w.mg]; exact T.blt _ rng_mem.2.2) (pa_consP ha (pa_consP hb pa_nil hq) hp) (starEach_plain hp _ _) (starEach_all (by simp [hq]))) fun σ H Q hh => ?_
  refine oneI (g := fun v env => (fb env).bind fun q => (match itemsL v q.2 with
      | some (ts, env3) => (match itemsL q.1 env3 with
        | some (us, env4) => if ts.length = us.length then .ok (zipT ts us, env4) else .bad
        | none => .bad)
      | none => .bad)) hh fun x vx G1 H1 env1 F1 Fx st vr nd o => ?_
  obtain ⟨n1, n2, dj⟩ := nodup_app.mp nd
  refine ⟨G1, env1, F1, st, ?_⟩
  cases e : fb env1 with
  | bad => simp only [e, R.bind_bad] at o; exact o
  | exc c d env' =>
    simp only [e, R.bind_exc] at o
    intro dd u G2 H2 F2 s2 st2 h1 h2
    exact o dd u G2 H2 F2 (s2.wide fun p hp => List.mem_append_left _ hp) st2 h1 h2
  | ok q =>
    obtain ⟨vy, env2⟩ := q
    simp only [e, R.bind_ok] at o
    intro y G2 H2 F2 Fy s2 st2 vy2 nd2
    have len : env2.length = env1.length := st2.sl.len.symm.trans st.sl.len
    obtain ⟨vx2, d1⟩ := vr.step s2 dj.symm
    rw [← len] at vx2
    obtain ⟨d11, d12⟩ := Disj.appR.mp d1
    obtain ⟨k1, k2, kj⟩ := nodup_app.mp nd2
    have o := o.after (F' := (F2 ++ Fx) ++ Fy) ((s2.frame (R := Fx)).sub fun p hp => by
      simp only [List.mem_append] at hp ⊢
      rcases hp with (hp | hp) | hp
      · exact .inl (.inl hp)
      · exact .inr hp
      · exact .inl (.inr hp))
    split at o
    · rename_i ts env3 e1
      obtain ⟨a1, G3, F3, Ft, rfl, s3, st3, nd3, l3, hp1⟩ := itemsL_ok st2 vx2 (nodup_app.mpr ⟨k1, n2, d11.symm⟩) e1
      have dy : Disj Fy (F2 ++ Fx) := Disj.appR.mpr ⟨kj.symm, d12.symm⟩
      obtain ⟨vy3, d3⟩ := vy2.step s3 dy
      obtain ⟨d31, d32⟩ := Disj.appR.mp d3
      obtain ⟨m1, m2, mj⟩ := nodup_app.mp nd3
      split at o
      · rename_i us env4 e2
        obtain ⟨b1, G4, F4, Fu, rfl, s4, st4, nd4, l4, hp2⟩ := itemsL_ok st3 vy3 (nodup_app.mpr ⟨m1, k2, d31.symm⟩) e2
        split at o
        · rename_i hl
          have dt : Disj Ft (F3 ++ Fy) := Disj.appR.mpr ⟨mj.symm, d32.symm⟩
          have hp1' := hp1.step s4 dt
          have ap := s4.apart hp1.there dt
          obtain ⟨t1, t2⟩ := Disj.appR.mp ap.2.2
          obtain ⟨w1, w2, wj⟩ := nodup_app.mp nd4
          obtain ⟨xs, q1, _⟩ := hp1'.seq st4.same
          obtain ⟨ys, q2, _⟩ := hp2.seq st4.same
          rw [g.w.K]
          refine ⟨a1, b1, xs, ys, rfl, q1, q2, o _ (feedZ Ω a1 b1) G4 H2 F4 (Ft ++ Fu) ?_ st4 ⟨ts, us, Ft, Fu, rfl, hl, hp1', hp2, rfl⟩ (nodup_app.mpr ⟨w1, nodup_app.mpr ⟨m2, w2, t2⟩, Disj.appR.mpr ⟨t1.symm, wj⟩⟩)⟩
          refine (s3.frame (R := Fy)).trans (((s4.frame (R := Ft)).wide fun p hp => ?_).sub fun p hp => ?_)
          · simp only [List.mem_append] at hp ⊢
            rcases hp with (hp | hp) | hp
            · exact .inl (.inl hp)
            · exact .inr hp
            · exact .inl (.inr hp)
          · simp only [List.mem_append] at hp ⊢
            rcases hp with hp | hp | hp
            · exact .inl (.inl hp)
            · exact .inr hp
            · exact .inl (.inr hp)
        · exact o.elim
      · exact o.elim
    · exact o.elim
theorem sS_zipS (g : GX Ω n W os X) (T : TO Ω Θ n) {tpos kp cp : Pos} {ck : Nat} {elts : List Expr} {kk : Nat} {x : Str} {p pos : Pos} {a b : Expr} {fa fb : FF.Env → R (Val × FF.Env)} (hg : glOk X.env.scope x = true) (hx : x = ("zip" : Str)) (ha : PE X a (tF Ω W fa)) (hb : PE X b (tF Ω W fb)) (hp : plainE a = true) (hq : plainE b = true) :
    PI X (.Tuple elts kk tpos) (.Call (.Name x p) [a, b] [⟨some "strict", .Constant (.bool true) ck cp, kp⟩] pos) (tI Ω W fun env => (fa env).bind fun p => (fb p.2).bind fun q => (match itemsL p.1 q.2 with
      | some (ts, env3) => (match itemsL q.1 env3 with
        | some (us, env4) => if ts.length = us.length then .ok (zipT ts us, env4) else .bad
        | none => .bad)
      | none => .bad)) := by
  subst hx
  obtain ⟨h1, _, _⟩ := glOk_of hg
  refine PI.imp (pi_zipS h1 (by rw [g.w.mg]; exact T.blt _ rng_mem.2.2) (pa_consP ha (pa_consP hb pa_nil hq) hp) (starEach_plain hp _ _) (starEach_all (by simp [hq]))) fun σ H Q hh => ?_
  refine oneI (g := fun v env => (fb env).bind fun q => (match itemsL v q.2 with
      | some (ts, env3) => (match itemsL q.1 env3 with
        | some (us, env4) => if ts.length = us.length then .ok (zipT ts us, env4) else .bad
        | none => .bad)
      | none => .bad)) hh fun x vx G1 H1 env1 F1 Fx st vr nd o => ?_
  obtain ⟨n1, n2, dj⟩ := nodup_app.mp nd
  refine ⟨G1, env1, F1, st, ?_⟩
  cases e : fb env1 with
  | bad => simp only [e, R.bind_bad] at o; exact o
  | exc c d env' =>
    simp only [e, R.bind_exc] at o
    intro dd u G2 H2 F2 s2 st2 h1 h2
    exact o dd u G2 H2 F2 (s2.wide fun p hp => List.mem_append_left _ hp) st2 h1 h2
  | ok q =>
    obtain ⟨vy, env2⟩ := q
    simp only [e, R.bind_ok] at o
    intro y G2 H2 F2 Fy s2 st2 vy2 nd2
    have len : env2.length = env1.length := st2.sl.len.symm.trans st.sl.len
    obtain ⟨vx2, d1⟩ := vr.step s2 dj.symm
    rw [← len] at vx2
    obtain ⟨d11, d12⟩ := Disj.appR.mp d1
    obtain ⟨k1, k2, kj⟩ := nodup_app.mp nd2
    have o := o.after (F' := (F2 ++ Fx) ++ Fy) ((s2.frame (R := Fx)).sub fun p hp => by
      simp only [List.mem_append] at hp ⊢
      rcases hp with (hp | hp) | hp
      · exact .inl (.inl hp)
      · exact .inr hp
      · exact .inl (.inr hp))
    split at o
    · rename_i ts env3 e1
      obtain ⟨a1, G3, F3, Ft, rfl, s3, st3, nd3, l3, hp1⟩ := itemsL_ok st2 vx2 (nodup_app.mpr ⟨k1, n2, d11.symm⟩) e1
      have dy : Disj Fy (F2 ++ Fx) := Disj.appR.mpr ⟨kj.symm, d12.symm⟩
      obtain ⟨vy3, d3⟩ := vy2.step s3 dy
      obtain ⟨d31, d32⟩ := Disj.appR.mp d3
      obtain ⟨m1, m2, mj⟩ := nodup_app.mp nd3
      split at o
      · rename_i us env4 e2
        obtain ⟨b1, G4, F4, Fu, rfl, s4, st4, nd4, l4, hp2⟩ := itemsL_ok st3 vy3 (nodup_app.mpr ⟨m1, k2, d31.symm⟩) e2
        split at o
        · rename_i hl
          have dt : Disj Ft (F3 ++ Fy) := Disj.appR.mpr ⟨mj.symm, d32.symm⟩
          have hp1' := hp1.step s4 dt
          have ap := s4.apart hp1.there dt
          obtain ⟨t1, t2⟩ := Disj.appR.mp ap.2.2
          obtain ⟨w1, w2, wj⟩ := nodup_app.mp nd4
          obtain ⟨xs, q1, _⟩ := hp1'.seq st4.same
          obtain ⟨ys, q2, _⟩ := hp2.seq st4.same
          rw [g.w.K]
          refine ⟨a1, b1, xs, ys, rfl, q1, q2, o _ (feedZS Ω a1 b1) G4 H2 F4 (Ft ++ Fu) ?_ st4 ⟨ts, us, Ft, Fu, rfl, hl, hp1', hp2, rfl⟩ (nodup_app.mpr ⟨w1, nodup_app.mpr ⟨m2, w2, t2⟩, Disj.appR.mpr ⟨t1.symm, wj⟩⟩)⟩
          refine (s3.frame (R := Fy)).trans (((s4.frame (R := Ft)).wide fun p hp => ?_).sub fun p hp => ?_)
          · simp only [List.mem_append] at hp ⊢
            rcases hp with (hp | hp) | hp
            · exact .inl (.inl hp)
            · exact .inr hp
            · exact .inl (.inr hp)
          · simp only [List.mem_append] at hp ⊢
            rcases hp with hp | hp | hp
            · exact .inl (.inl hp)
            · exact .inr hp
            · exact .inl (.inr hp)
        · exact o.elim
      · exact o.elim
    · exact o.elim
end
end FF

set_option Elab.async false
set_option linter.all false
set_option autoImplicit false
set_option maxRecDepth 100000
/-! FO: list comprehensions. -/
namespace FF
open PySem PySem.Spec PyProof.Rows L2
section
variable {Ω : Wd} {W : WX} {G H : Hp} {σ : L2.St} {F : List Addr} {Θ : Tab} {n : Nat} {os : Scope} {X : Cx}

theorem wipe_get (σ : L2.St) (j : Nat) : ∀ vs : List Nat, (wipe σ vs)[j]? = if j ∈ vs then (if j < σ.length then some none else none) else σ[j]?
  | [] => by simp [wipe]
  | i :: is => by
    show ((wipe σ is).set i none)[j]? = _
    rw [List.getElem?_set, wipe_get σ j is, wipe_length]
    by_cases h : i = j
    · subst h; simp
    · have : ¬ j = i := fun z => h z.symm
      simp [h, this]
theorem wipe_ext {σ σ' : L2.St} {vs : List Nat} (hl : σ'.length = σ.length) (h : ∀ j, j ∉ vs → σ'[j]? = σ[j]?) : wipe σ' vs = wipe σ vs := by
  apply List.ext_getElem?
  intro j
  rw [wipe_get, wipe_get, hl]
  by_cases hj : j ∈ vs
  · simp [hj]
  · simp [hj, h j hj]
theorem wipe_wipe (σ : L2.St) (vs : List Nat) : wipe (wipe σ vs) vs = wipe σ vs := wipe_ext (wipe_length σ vs) fun j hj => by rw [wipe_get, if_neg hj]
theorem SlR.wipe1 : ∀ {σ : L2.St} {env : FF.Env} {F : List Addr} (i : Nat), SlR Ω G H σ env F → ∃ F2, SlR Ω G H (σ.set i Option.none) (env.set i Option.none) F2 ∧ (∀ p ∈ F2, p ∈ F) ∧ (F.Nodup → F2.Nodup)
  | _, _, _, _, .nil => ⟨[], .nil, fun _ h => h, id⟩
  | _, _, F, 0, .none h => ⟨F, .none h, fun _ h => h, id⟩
  | _, _, _, 0, .some (F2 := F2) r h => ⟨F2, .none h, fun p hp => List.mem_append_right _ hp, fun nd => (nodup_app.mp nd).2.1⟩
  | _, _, _, i + 1, .none h => by
    obtain ⟨F2, a, b, c⟩ := SlR.wipe1 i h
    exact ⟨F2, .none a, b, c⟩
  | _, _, _, i + 1, .some (F1 := F1) r h => by
    obtain ⟨F2, a, b, c⟩ := SlR.wipe1 i h
    refine ⟨F1 ++ F2, .some r a, fun p hp => ?_, fun nd => ?_⟩
    · rcases List.mem_append.mp hp with z | z
      · exact List.mem_append_left _ z
      · exact List.mem_append_right _ (b p z)
    · obtain ⟨n1, n2, dj⟩ := nodup_app.mp nd
      exact nodup_app.mpr ⟨n1, c n2, fun p hp hq => dj p hp (b p hq)⟩
theorem SlR.wipes {env : FF.Env} (h : SlR Ω G H σ env F) : ∀ vs : List Nat, ∃ F2, SlR Ω G H (wipe σ vs) (wipeE env vs) F2 ∧ (∀ p ∈ F2, p ∈ F) ∧ (F.Nodup → F2.Nodup)
  | [] => ⟨F, h, fun _ h => h, id⟩
  | i :: is => by
    obtain ⟨F2, a, b, c⟩ := SlR.wipes h is
    obtain ⟨F3, a', b', c'⟩ := SlR.wipe1 i a
    exact ⟨F3, a', fun p hp => b p (b' p hp), fun nd => c' (c nd)⟩
theorem St.wipes {env : FF.Env} (st : St Ω G H σ env F) (vs : List Nat) : ∃ F2, St Ω G H (wipe σ vs) (wipeE env vs) F2 ∧ ∀ p ∈ F2, p ∈ F := by
  obtain ⟨F2, a, b, c⟩ := st.sl.wipes vs
  exact ⟨F2, ⟨st.same, a, c st.nd⟩, b⟩
theorem SlR.unset : ∀ {σ : L2.St} {env : FF.Env} {F : List Addr} {i : Nat}, SlR Ω G H (σ.set i Option.none) env F → slot env i = Option.none → SlR Ω G H σ env F
  | [], env, F, i, h, _ => by simpa using h
  | x :: σ, _, _, 0, h, e => by
    rw [List.set_cons_zero] at h
    cases h with
    | none h => exact .none h
  | x :: σ, _, _, i + 1, h, e => by
    rw [List.set_cons_succ] at h
    cases h with
    | none h => exact .none (SlR.unset (i := i) h (by simpa [slot] using e))
    | some r h => exact .some r (SlR.unset (i := i) h (by simpa [slot] using e))
theorem slot_wipeE {env : FF.Env} {j : Nat} : ∀ {vs : List Nat}, j ∈ vs → slot (wipeE env vs) j = none
  | i :: is, h => by
    show slot ((wipeE env is).set i none) j = none
    unfold slot
    rw [List.getElem?_set]
    by_cases e : i = j
    · subst e
      by_cases hl : i < (wipeE env is).length <;> simp [hl]
    · have : j ∈ is := by
        rcases List.mem_cons.mp h with z | z
        · exact absurd z.symm e
        · exact z
      have := slot_wipeE (env := env) this
      unfold slot at this
      simp only [e, if_false]
      exact this
theorem SlR.unwipe {env : FF.Env} : ∀ {vs : List Nat}, SlR Ω G H (wipe σ vs) env F → (∀ i ∈ vs, slot env i = Option.none) → SlR Ω G H σ env F
  | [], h, _ => h
  | i :: is, h, e => SlR.unwipe (vs := is) (SlR.unset h (e i (List.mem_cons_self ..))) fun j hj => e j (List.mem_cons_of_mem _ hj)
theorem SlR.restore {env sv : FF.Env} (h : SlR Ω G H σ env F) (hs : ∀ i d, slot sv i = Option.some (Tr.sh d) → ∃ v, σ[i]? = Option.some (Option.some v) ∧ Dp Ω.K G v d) : ∀ vs : List Nat, ∃ F2, SlR Ω G H σ (FF.restore sv env vs) F2 ∧ (∀ p ∈ F2, p ∈ F) ∧ (F.Nodup → F2.Nodup)
  | [] => ⟨F, h, fun _ h => h, id⟩
  | i :: is => by
    obtain ⟨F2, a, b, c⟩ := SlR.restore h hs is
    obtain ⟨F3, F1, a3, b3⟩ := a.clear i
    have sub : ∀ p ∈ F3, p ∈ F := fun p hp => b p (b3.mem_iff.mpr (List.mem_append_right _ hp))
    have nd : F.Nodup → F3.Nodup := fun z => (nodup_app.mp (b3.nodup_iff.mp (c z))).2.1
    have base : ∃ F2, SlR Ω G H σ ((FF.restore sv env is).set i Option.none) F2 ∧ (∀ p ∈ F2, p ∈ F) ∧ (F.Nodup → F2.Nodup) := ⟨F3, a3, sub, nd⟩
    show ∃ F2, SlR Ω G H σ ((FF.restore sv env is).set i (match slot sv i with | Option.some (Tr.sh d) => Option.some (Tr.sh d) | _ => Option.none)) F2 ∧ _
    split
    · rename_i d e
      obtain ⟨v, e1, q⟩ := hs i d e
      by_cases hi : i < (FF.restore sv env is).length
      · obtain ⟨F4, a4, b4⟩ := a3.back hi (TR.sh q) e1
        rw [List.nil_append] at b4
        exact ⟨F4, a4, fun p hp => sub p (b4.mem_iff.mp hp), fun z => b4.nodup_iff.mpr (nd z)⟩
      · rw [List.set_eq_of_length_le (by omega)] at a3 ⊢
        exact ⟨F3, a3, sub, nd⟩
    · exact base
theorem St.step {G' H' : Hp} {F0 F0' : List Addr} {env : FF.Env} (st : St Ω G H σ env F) (s : Step G H F0 G' H' F0') (sm : Same G' H') (d : Disj F F0) : St Ω G' H' σ env F ∧ Disj F F0' := by
  have ap := s.apart st.sl.there d
  exact ⟨⟨sm, st.sl.to s.g ap.1 ap.2.1, st.nd⟩, ap.2.2⟩
theorem Step.write {p : Addr} {o : HO} (h : p ∈ F) : Step G H F G (upd H p o) F where
  g := Same.refl G
  new := fun q e z => absurd e z
  keep := fun q u e hq => by rw [upd_ne (fun z => hq (by rw [z]; exact h))]; exact e
  own := fun q hq => .inl hq
theorem same_write {p : Addr} {o : HO} (s : Same G H) (g : G p = none) : Same G (upd H p o) := fun q u e => by
  rw [upd_ne (fun z => by subst z; rw [g] at e; cases e)]; exact s q u e

/-- what stands by while a turn of a comprehension runs: the items to come, the new list -/
structure Pend {J : It} (Φ : FeedI Ω J) (i : Nat) (ts : List Tr) (D : Addr) (acc : List V) (accT : List Tr) (Ft Fa : List Addr) (G0 H0 : Hp) (F0 : List Addr) (G H : Hp) (F : List Addr) : Prop where
  p : Φ.P i G H ts Ft
  d : H D = some (.lst acc)
  g : G D = none
  tr : TRs Ω G H acc accT Fa
  nd : (Ft ++ (D :: Fa)).Nodup
  dj : Disj (Ft ++ (D :: Fa)) F
  st : Step G0 H0 F0 G H (F ++ (Ft ++ (D :: Fa)))
theorem Pend.step {J : It} {Φ : FeedI Ω J} {i : Nat} {ts : List Tr} {D : Addr} {acc : List V} {accT : List Tr} {Ft Fa : List Addr} {G0 H0 G' H' : Hp} {F0 F' : List Addr} (h : Pend Φ i ts D acc accT Ft Fa G0 H0 F0 G H F) (s : Step G H F G' H' F') :
    Pend Φ i ts D acc accT Ft Fa G0 H0 F0 G' H' F' := by
  obtain ⟨d1, d2⟩ := Disj.appL.mp h.dj
  have th : ∀ q ∈ Ft ++ (D :: Fa), H q ≠ none ∧ G q = none := by
    intro q hq
    rcases List.mem_append.mp hq with z | z
    · exact Φ.there h.p q z
    · rcases List.mem_cons.mp z with z | z
      · subst z; exact ⟨by rw [h.d]; simp, h.g⟩
      · exact h.tr.there q z
  have ap := s.apart th h.dj
  have hD : D ∈ Ft ++ (D :: Fa) := List.mem_append_right _ (List.mem_cons_self ..)
  exact ⟨Φ.step h.p s d1, ap.1 D hD _ h.d, ap.2.1 D hD, (h.tr.step s fun q hq => d2 q (List.mem_cons_of_mem _ hq)).1, h.nd, ap.2.2, h.st.trans s.frame⟩

def noW : WX := fun _ _ _ _ => False
/-- the state ahead of a turn -/
def CompI {J : It} (Φ : FeedI Ω J) (vs : List Nat) (σ : L2.St) (run : List Tr → FF.Env → R (List Tr × FF.Env)) (us : List Tr) (env2 : FF.Env) (D : Addr) (G0 H0 : Hp) (F0 : List Addr) (i m : Nat) (H : Hp) : Prop :=
  ∃ G env F ts acc accT Ft Fa us', m = ts.length ∧ St Ω G H (wipe σ vs) (wipeE env vs) F ∧ Pend Φ i ts D acc accT Ft Fa G0 H0 F0 G H F ∧ run ts env = .ok (us', env2) ∧ accT ++ us' = us ∧ accT.length + ts.length ≤ sizeLine
theorem sE_comp {tg : Tg} {ft : FF.Env → R (Bool × FF.Env)} {fe : FF.Env → R (Val × FF.Env)} {fs : FF.Env → R (List Tr × FF.Env)} {vs : List Nat} (hsub : ∀ i ∈ tgSl tg, i ∈ vs) {Q : VK}
    (h : tF Ω W (fun env => (fs env).bind fun p => if p.1.length ≤ sizeLine then (noEx (compL tg ft fe vs p.1 p.2)).bind fun q => .ok (.tr (.lst q.1), restore p.2 q.2 vs) else .bad) σ H Q) :
    tLc (tI Ω W fs) (tgR Ω (asg tg) (tgSl tg)) (tB1 Ω noW ft) (tF Ω noW fe) vs σ H Q := by
  obtain ⟨G, env, F, st, o⟩ := h
  refine ⟨G, env, F, st, ?_⟩
  cases e : fs env with
  | bad => simp only [e, R.bind_bad] at o; exact o
  | exc c d env' => simp only [e, R.bind_exc] at o; exact o
  | ok p =>
    obtain ⟨ts, env1⟩ := p
    simp only [e, R.bind_ok] at o
    intro J Φ G1 H1 F1 Ft s1 st1 hP nd1 D hD
    have o := o.after s1
    split at o
    · rename_i hlen
      cases e2 : compL tg ft fe vs ts env1 with
      | bad => simp only [e2, noEx, R.bind_bad] at o; exact o.elim
      | exc c d env' => simp only [e2, noEx, R.bind_bad] at o; exact o.elim
      | ok q =>
        obtain ⟨us, env2⟩ := q
        simp only [e2, noEx, R.bind_ok] at o
        obtain ⟨m1, m2, mj⟩ := nodup_app.mp nd1
        have gD : G1 D = none := st1.same.free hD
        refine ⟨CompI Φ vs σ (compL tg ft fe vs) us env2 D G1 H1 (F1 ++ Ft), ⟨ts.length, ?_⟩, ?_⟩
        · -- the start
          obtain ⟨F2, stw, sub⟩ := st1.wipes vs
          have sa : Step G1 H1 [] G1 (upd H1 D (.lst [])) [D] := by
            have z := (Step.alloc (F := []) (o := .lst []) st1.same hD true)
            simpa using z
          have nD : D ∉ F1 ++ Ft := fun z => by
            rcases List.mem_append.mp z with z | z
            · exact (st1.sl.there D z).1 hD
            · exact (Φ.there hP D z).1 hD
          have sm : Same G1 (upd H1 D (.lst [])) := same_updR st1.same hD
          refine ⟨G1, env1, F2, ts, [], [], Ft, [], us, rfl, (stw.step sa sm Disj.nilR).1, ⟨Φ.step hP sa Disj.nilR, upd_same, gD, .nil, ?_, ?_, ?_⟩, e2, rfl, by simpa using hlen⟩
          · exact nodup_app.mpr ⟨m2, by simp, fun q hq hq2 => by
              rw [List.mem_singleton] at hq2; subst hq2; exact nD (List.mem_append_right _ hq)⟩
          · refine Disj.appL.mpr ⟨fun q hq hq2 => mj q (sub q hq2) hq, fun q hq hq2 => ?_⟩
            rw [List.mem_singleton] at hq; subst hq
            exact nD (List.mem_append_left _ (sub q hq2))
          · refine (sa.frame (R := F1 ++ Ft)).sub fun q hq => ?_
            simp only [List.mem_append, List.mem_singleton] at hq ⊢
            rcases hq with hq | hq | hq
            · exact .inr (.inl (sub q hq))
            · exact .inr (.inr hq)
            · exact .inl hq
        · rintro i m H2 ⟨G2, ev, F2, tr, acc, accT, Ft2, Fa, us', rfl, st2, pd, er, eu, hsz⟩
          obtain ⟨d1, d2⟩ := Disj.appL.mp pd.dj
          obtain ⟨p1, p2, pj⟩ := nodup_app.mp pd.nd
          cases tr with
          | nil =>
            left
            refine ⟨Φ.nil pd.p st2.same, ?_⟩
            simp only [compL, R.ok.injEq, Prod.mk.injEq] at er
            obtain ⟨rfl, rfl⟩ := er
            rw [List.append_nil] at eu
            subst eu
            have hsl := SlR.unwipe st2.sl fun j hj => slot_wipeE hj
            obtain ⟨F3, q1, q2, q3⟩ := SlR.restore (sv := env1) hsl (fun j d ej => by
              obtain ⟨v, A1, A2, a1, a2, _⟩ := st1.out ej
              cases a2 with
              | sh a2 => exact ⟨v, a1, dp_mono pd.st.g a2⟩) vs
            refine o (.ref D) G2 H2 F3 (D :: Fa) (pd.st.sub fun q hq => ?_) ⟨st2.same, q1, q3 st2.nd⟩ (.lst pd.d pd.g pd.tr) (nodup_app.mpr ⟨q3 st2.nd, p2, fun q hq hq2 => d2 q hq2 (q2 q hq)⟩)
            rcases List.mem_append.mp hq with z | z
            · exact List.mem_append_left _ (q2 q z)
            · exact List.mem_append_right _ (List.mem_append_right _ z)
          | cons t tr =>
            right
            obtain ⟨hgo, hy⟩ := Φ.cons pd.p st2.same p1
            refine ⟨hgo, CompI Φ vs σ (compL tg ft fe vs) us env2 D G1 H1 (F1 ++ Ft) (i + 1) tr.length, fun H' hn => ⟨tr.length, by simp, hn⟩, fun x H3 hx => ?_⟩
            obtain ⟨G3, Fx, Fr, s3, sm3, rx, hP3, nd3⟩ := hy x H3 hx
            have dF2 : Disj F2 Ft2 := d1.symm
            obtain ⟨st3, dF2'⟩ := st2.step s3 sm3 dF2
            obtain ⟨dfx, dfr⟩ := Disj.appR.mp dF2'
            obtain ⟨x1, x2, xj⟩ := nodup_app.mp nd3
            have thD : ∀ q ∈ D :: Fa, H2 q ≠ none ∧ G2 q = none := fun q hq => by
              rcases List.mem_cons.mp hq with z | z
              · subst z; exact ⟨by rw [pd.d]; simp, pd.g⟩
              · exact pd.tr.there q z
            have apD := s3.apart thD pj.symm
            obtain ⟨dDx, dDr⟩ := Disj.appR.mp apD.2.2
            -- the bundle with the rest of the items
            have pd3 : Pend Φ (i + 1) tr D acc accT Fr Fa G1 H1 (F1 ++ Ft) G3 H3 (F2 ++ Fx) := by
              refine ⟨hP3, apD.1 D (List.mem_cons_self ..) _ pd.d, apD.2.1 D (List.mem_cons_self ..), (pd.tr.step s3 fun q hq => pj.symm q (List.mem_cons_of_mem _ hq)).1, nodup_app.mpr ⟨x2, p2, dDr.symm⟩, Disj.appL.mpr ⟨Disj.appR.mpr ⟨dfr.symm, xj.symm⟩, Disj.appR.mpr ⟨d2, dDx⟩⟩, ?_⟩
              refine (pd.st.trans ((s3.frame (R := F2 ++ (D :: Fa))).wide fun q hq => ?_)).sub fun q hq => ?_
              · simp only [List.mem_append] at hq ⊢
                rcases hq with hq | hq | hq
                · exact .inr (.inl hq)
                · exact .inl hq
                · exact .inr (.inr hq)
              · simp only [List.mem_append] at hq ⊢
                rcases hq with (hq | hq) | hq | hq
                · exact .inr (.inl hq)
                · exact .inl (.inl hq)
                · exact .inl (.inr hq)
                · exact .inr (.inr hq)
            unfold compL at er
            split at er
            · cases er
            · rename_i ev1 ea
              refine ⟨G3, wipeE ev vs, F2, t, Fx, st3, rx, nodup_app.mpr ⟨st3.nd, x1, dfx⟩, ?_⟩
              rw [ea]
              intro σ4 G4 F4 l4 k4 s4 st4
              have pd4 := pd3.step s4
              refine ⟨(wipe_ext l4 fun j hj => k4 j fun z => hj (hsub j z)).trans (wipe_wipe σ vs), G4, ev1, F4, st4, ?_⟩
              have hw4 : wipe σ4 vs = wipe σ vs := (wipe_ext l4 fun j hj => k4 j fun z => hj (hsub j z)).trans (wipe_wipe σ vs)
              cases et : ft ev1 with
              | bad => simp only [et, R.bind_bad] at er; cases er
              | exc c d env' => simp only [et, R.bind_exc] at er; cases er
              | ok q =>
                obtain ⟨b, ev2⟩ := q
                simp only [et, R.bind_ok] at er
                intro G5 H5 F5 s5 st5
                have pd5 := pd4.step s5
                cases b with
                | false =>
                  rw [if_neg Bool.false_ne_true] at er ⊢
                  obtain ⟨F6, st6, sub6⟩ := st5.wipes vs
                  rw [hw4] at st6
                  refine ⟨G5, ev2, F6, tr, acc, accT, Fr, Fa, us', rfl, st6, ⟨pd5.p, pd5.d, pd5.g, pd5.tr, pd5.nd, fun q hq hq2 => pd5.dj q hq (sub6 q hq2), pd5.st.sub fun q hq => ?_⟩, er, eu, by simp only [List.length_cons] at hsz; omega⟩
                  rcases List.mem_append.mp hq with z | z
                  · exact List.mem_append_left _ (sub6 q z)
                  · exact List.mem_append_right _ z
                | true =>
                  rw [if_pos rfl] at er ⊢
                  refine ⟨G5, ev2, F5, st5, ?_⟩
                  cases ee : fe ev2 with
                  | bad => simp only [ee, R.bind_bad] at er; cases er
                  | exc c d env' => simp only [ee, R.bind_exc] at er; cases er
                  | ok q =>
                    obtain ⟨v, ev3⟩ := q
                    simp only [ee, R.bind_ok] at er
                    intro y G6 H6 F6 Fv s6 st6 vr6 nd6
                    have pd6 := pd5.step s6
                    split at er
                    · cases er
                    · rename_i u ev4 ek
                      obtain ⟨G7, F7, Fu, s7, st7, r7, nd7, l7⟩ := take_ok st6 vr6 nd6 ek
                      have pd7 := pd6.step s7
                      cases ec : compL tg ft fe vs tr ev4 with
                      | bad => simp only [ec, R.bind_bad] at er; cases er
                      | exc c d env' => simp only [ec, R.bind_exc] at er; cases er
                      | ok q =>
                        obtain ⟨us2, ev5⟩ := q
                        simp only [ec, R.bind_ok, R.ok.injEq, Prod.mk.injEq] at er
                        obtain ⟨rfl, rfl⟩ := er
                        have la : acc.length = accT.length := pd7.tr.len
                        simp only [List.length_cons] at hsz
                        refine ⟨acc, pd7.d, by omega, ?_⟩
                        -- the list grown
                        obtain ⟨y1, y2, yj⟩ := nodup_app.mp nd7
                        obtain ⟨e1, e2'⟩ := Disj.appL.mp pd7.dj
                        obtain ⟨f1, f2, fj⟩ := nodup_app.mp pd7.nd
                        have hDF : D ∉ F7 ++ Fu := e2' D (List.mem_cons_self ..)
                        have hDa := (List.nodup_cons.mp f2).1
                        have sw : Step G7 H6 [D] G7 (upd H6 D (.lst (acc ++ [y]))) [D] := Step.write (List.mem_singleton.mpr rfl)
                        have smw : Same G7 (upd H6 D (.lst (acc ++ [y]))) := same_write st7.same pd7.g
                        have djD : ∀ {A : List Addr}, D ∉ A → Disj A [D] := fun h q hq hq2 => by rw [List.mem_singleton] at hq2; subst hq2; exact h hq
                        obtain ⟨st8, _⟩ := st7.step sw smw (djD fun z => hDF (List.mem_append_left _ z))
                        obtain ⟨F9, st9, sub9⟩ := st8.wipes vs
                        rw [hw4] at st9
                        have r8 := (r7.step sw (djD fun z => hDF (List.mem_append_right _ z))).1
                        have t8 := (pd7.tr.step sw (djD hDa)).1
                        have p8 := Φ.step pd7.p sw (djD fun z => fj D z (List.mem_cons_self ..))
                        have t9 : TRs Ω G7 (upd H6 D (.lst (acc ++ [y]))) (acc ++ [y]) (accT ++ [u]) (Fa ++ Fu) := by
                          have z := t8.app (TRs.cons r8 .nil)
                          simpa using z
                        refine ⟨G7, ev4, F9, tr, acc ++ [y], accT ++ [u], Fr, Fa ++ Fu, us2, rfl, st9, ⟨p8, upd_same, pd7.g, t9, ?_, ?_, ?_⟩, ec, by rw [List.append_assoc]; exact eu, by simp only [List.length_append, List.length_singleton]; omega⟩
                        · refine nodup_app.mpr ⟨f1, List.nodup_cons.mpr ⟨fun z => ?_, nodup_app.mpr ⟨(List.nodup_cons.mp f2).2, y2, fun q hq hq2 => e2' q (List.mem_cons_of_mem _ hq) (List.mem_append_right _ hq2)⟩⟩, fun q hq hq2 => ?_⟩
                          · rcases List.mem_append.mp z with z | z
                            · exact hDa z
                            · exact hDF (List.mem_append_right _ z)
                          · rcases List.mem_cons.mp hq2 with z | z
                            · exact fj q hq (by rw [z]; exact List.mem_cons_self ..)
                            · rcases List.mem_append.mp z with z | z
                              · exact fj q hq (List.mem_cons_of_mem _ z)
                              · exact e1 q hq (List.mem_append_right _ z)
                        · intro q hq hq2
                          have hq2 := sub9 q hq2
                          rcases List.mem_append.mp hq with z | z
                          · exact e1 q z (List.mem_append_left _ hq2)
                          · rcases List.mem_cons.mp z with z | z
                            · subst z; exact hDF (List.mem_append_left _ hq2)
                            · rcases List.mem_append.mp z with z | z
                              · exact e2' q (List.mem_cons_of_mem _ z) (List.mem_append_left _ hq2)
                              · exact yj q hq2 z
                        · refine (pd7.st.trans ((sw.frame (R := (F7 ++ Fu) ++ (Fr ++ Fa))).wide fun q hq => ?_)).sub fun q hq => ?_
                          · simp only [List.mem_append, List.mem_cons, List.not_mem_nil, or_false] at hq ⊢
                            rcases hq with hq | (hq | hq) | hq | hq
                            · exact .inr (.inr (.inl hq))
                            · exact .inl (.inl hq)
                            · exact .inl (.inr hq)
                            · exact .inr (.inl hq)
                            · exact .inr (.inr (.inr hq))
                          · simp only [List.mem_append, List.mem_cons, List.not_mem_nil, or_false] at hq ⊢
                            rcases hq with hq | hq | hq | hq | hq
                            · exact .inr (.inl (.inl (sub9 q hq)))
                            · exact .inr (.inr (.inl hq))
                            · exact .inl hq
                            · exact .inr (.inr (.inr hq))
                            · exact .inr (.inl (.inr hq))
    · exact o.elim
end
end FF

set_option Elab.async false
set_option linter.all false
set_option autoImplicit false
set_option maxRecDepth 100000
/-! FOb: comprehensions of two clauses. -/
namespace FF
open PySem PySem.Spec PyProof.Rows L2
section
variable {Ω : Wd} {W : WX} {G H : Hp} {σ : L2.St} {F : List Addr} {Θ : Tab} {n : Nat} {os : Scope} {X : Cx}
/-- the items to come of an inner walk, with those of the outer one -/
def feedB {J1 J : It} (Φ1 : FeedI Ω J1) (Φ : FeedI Ω J) (i0 : Nat) (tr : List Tr) : FeedI Ω J1 where
  P j G H ts Ft := ∃ A B, Ft = A ++ B ∧ Disj A B ∧ Φ1.P j G H ts A ∧ Φ.P i0 G H tr B
  there := by
    rintro j G H ts Ft ⟨A, B, rfl, d, h1, h2⟩ p hp
    rcases List.mem_append.mp hp with z | z
    · exact Φ1.there h1 p z
    · exact Φ.there h2 p z
  step := by
    rintro j G H ts Ft G' H' F F' ⟨A, B, rfl, d, h1, h2⟩ s dj
    obtain ⟨d1, d2⟩ := Disj.appL.mp dj
    exact ⟨A, B, rfl, d, Φ1.step h1 s d1, Φ.step h2 s d2⟩
  nil := by
    rintro j G H Ft ⟨A, B, rfl, d, h1, h2⟩ sm
    exact Φ1.nil h1 sm
  cons := by
    rintro j G H t ts Ft ⟨A, B, rfl, d, h1, h2⟩ sm nd
    obtain ⟨n1, n2, nj⟩ := nodup_app.mp nd
    obtain ⟨hgo, hy⟩ := Φ1.cons h1 sm n1
    refine ⟨hgo, fun x H' hx => ?_⟩
    obtain ⟨G', F1, F2, s, sm', tr', p', nd'⟩ := hy x H' hx
    have ap := s.apart (R := B) (fun p hp => Φ.there h2 p hp) d.symm
    obtain ⟨m1, m2, mj⟩ := nodup_app.mp nd'
    obtain ⟨b1, b2⟩ := Disj.appR.mp ap.2.2
    refine ⟨G', F1, F2 ++ B, ?_, sm', tr', ⟨F2, B, rfl, b2.symm, p', Φ.step h2 s d.symm⟩, ?_⟩
    · rw [← List.append_assoc]
      exact s.frame
    · rw [← List.append_assoc]
      exact nodup_app.mpr ⟨nd', n2, fun q h1 h2 => ap.2.2 q h2 h1⟩
/-- the state ahead of a turn -/
def CompJ {J : It} (Φ : FeedI Ω J) (vs : List Nat) (σ : L2.St) (run : List Tr → FF.Env → R (List Tr × FF.Env)) (us : List Tr) (env2 : FF.Env) (D : Addr) (G0 H0 : Hp) (F0 : List Addr) (i m : Nat) (H : Hp) : Prop :=
  ∃ G env F ts acc accT Ft Fa us', m = ts.length ∧ St Ω G H (wipe σ vs) (wipeE env vs) F ∧ Pend Φ i ts D acc accT Ft Fa G0 H0 F0 G H F ∧ run ts env = .ok (us', env2) ∧ accT ++ us' = us ∧ us.length ≤ sizeLine
theorem comp_turns {J : It} {Φ : FeedI Ω J} {tg : Tg} {ft : FF.Env → R (Bool × FF.Env)} {fe : FF.Env → R (Val × FF.Env)} {vs : List Nat} (hsub : ∀ i ∈ tgSl tg, i ∈ vs) {ts us0 us : List Tr} {env1 env2 : FF.Env} {D : Addr} {acc0 : List V} {accT0 : List Tr} {Ft0 Fa0 F0 : List Addr} {G0 H0 : Hp} {K : Hp → Prop}
    (e2 : compL tg ft fe vs ts env1 = .ok (us0, env2)) (eus : accT0 ++ us0 = us) (hlen : us.length ≤ sizeLine) (st0 : St Ω G H (wipe σ vs) (wipeE env1 vs) F) (pd0 : Pend Φ 0 ts D acc0 accT0 Ft0 Fa0 G0 H0 F0 G H F)
    (fin : ∀ {i : Nat} {G H : Hp} {F : List Addr} {acc : List V} {Fa Ft : List Addr} {ev : FF.Env}, ev = env2 → St Ω G H (wipe σ vs) ev F → Pend Φ i [] D acc us Ft Fa G0 H0 F0 G H F → K H) :
    ∃ W' : Nat → Nat → Hp → Prop, (∃ m, W' 0 m H) ∧ ∀ i m H, W' i m H → (J.stop i H ∧ K H) ∨ (J.go i H ∧ ∃ Nx : Hp → Prop, (∀ H', Nx H' → ∃ m', m' < m ∧ W' (i + 1) m' H') ∧ ∀ x H', J.yld i H x H' → tgR Ω (asg tg) (tgSl tg) x (wipe σ vs) H' fun σ2 H2 => wipe σ2 vs = wipe σ vs ∧ tB1 Ω noW ft σ2 H2 fun b H3 =>
      if b = true then tF Ω noW fe σ2 H3 fun y H4 => ∃ acc, H4 D = some (.lst acc) ∧ acc.length < sizeLine ∧ Nx (upd H4 D (.lst (acc ++ [y]))) else Nx H3) := by
  refine ⟨CompJ Φ vs σ (compL tg ft fe vs) us env2 D G0 H0 F0, ⟨ts.length, G, env1, F, ts, acc0, accT0, Ft0, Fa0, us0, rfl, st0, pd0, e2, eus, hlen⟩, ?_⟩
  rintro i m H2 ⟨G2, ev, F2, tr, acc, accT, Ft2, Fa, us', rfl, st2, pd, er, eu, hsz⟩
  obtain ⟨d1, d2⟩ := Disj.appL.mp pd.dj
  obtain ⟨p1, p2, pj⟩ := nodup_app.mp pd.nd
  cases tr with
  | nil =>
    left
    refine ⟨Φ.nil pd.p st2.same, ?_⟩
    simp only [compL, R.ok.injEq, Prod.mk.injEq] at er
    obtain ⟨rfl, rfl⟩ := er
    rw [List.append_nil] at eu
    subst eu
    exact fin rfl st2 pd
  | cons t tr =>
    right
    obtain ⟨hgo, hy⟩ := Φ.cons pd.p st2.same p1
    refine ⟨hgo, CompJ Φ vs σ (compL tg ft fe vs) us env2 D G0 H0 F0 (i + 1) tr.length, fun H' hn => ⟨tr.length, by simp, hn⟩, fun x H3 hx => ?_⟩
    obtain ⟨G3, Fx, Fr, s3, sm3, rx, hP3, nd3⟩ := hy x H3 hx
    have dF2 : Disj F2 Ft2 := d1.symm
    obtain ⟨st3, dF2'⟩ := st2.step s3 sm3 dF2
    obtain ⟨dfx, dfr⟩ := Disj.appR.mp dF2'
    obtain ⟨x1, x2, xj⟩ := nodup_app.mp nd3
    have thD : ∀ q ∈ D :: Fa, H2 q ≠ none ∧ G2 q = none := fun q hq => by
      rcases List.mem_cons.mp hq with z | z
      · subst z; exact ⟨by rw [pd.d]; simp, pd.g⟩
      · exact pd.tr.there q z
    have apD := s3.apart thD pj.symm
    obtain ⟨dDx, dDr⟩ := Disj.appR.mp apD.2.2
    -- the bundle with the rest of the items
    have pd3 : Pend Φ (i + 1) tr D acc accT Fr Fa G0 H0 F0 G3 H3 (F2 ++ Fx) := by
      refine ⟨hP3, apD.1 D (List.mem_cons_self ..) _ pd.d, apD.2.1 D (List.mem_cons_self ..), (pd.tr.step s3 fun q hq => pj.symm q (List.mem_cons_of_mem _ hq)).1, nodup_app.mpr ⟨x2, p2, dDr.symm⟩, Disj.appL.mpr ⟨Disj.appR.mpr ⟨dfr.symm, xj.symm⟩, Disj.appR.mpr ⟨d2, dDx⟩⟩, ?_⟩
      refine (pd.st.trans ((s3.frame (R := F2 ++ (D :: Fa))).wide fun q hq => ?_)).sub fun q hq => ?_
      · simp only [List.mem_append] at hq ⊢
        rcases hq with hq | hq | hq
        · exact .inr (.inl hq)
        · exact .inl hq
        · exact .inr (.inr hq)
      · simp only [List.mem_append] at hq ⊢
        rcases hq with (hq | hq) | hq | hq
        · exact .inr (.inl hq)
        · exact .inl (.inl hq)
        · exact .inl (.inr hq)
        · exact .inr (.inr hq)
    unfold compL at er
    split at er
    · cases er
    · rename_i ev1 ea
      refine ⟨G3, wipeE ev vs, F2, t, Fx, st3, rx, nodup_app.mpr ⟨st3.nd, x1, dfx⟩, ?_⟩
      rw [ea]
      intro σ4 G4 F4 l4 k4 s4 st4
      have pd4 := pd3.step s4
      refine ⟨(wipe_ext l4 fun j hj => k4 j fun z => hj (hsub j z)).trans (wipe_wipe σ vs), G4, ev1, F4, st4, ?_⟩
      have hw4 : wipe σ4 vs = wipe σ vs := (wipe_ext l4 fun j hj => k4 j fun z => hj (hsub j z)).trans (wipe_wipe σ vs)
      cases et : ft ev1 with
      | bad => simp only [et, R.bind_bad] at er; cases er
      | exc c d env' => simp only [et, R.bind_exc] at er; cases er
      | ok q =>
        obtain ⟨b, ev2⟩ := q
        simp only [et, R.bind_ok] at er
        intro G5 H5 F5 s5 st5
        have pd5 := pd4.step s5
        cases b with
        | false =>
          rw [if_neg Bool.false_ne_true] at er ⊢
          obtain ⟨F6, st6, sub6⟩ := st5.wipes vs
          rw [hw4] at st6
          refine ⟨G5, ev2, F6, tr, acc, accT, Fr, Fa, us', rfl, st6, ⟨pd5.p, pd5.d, pd5.g, pd5.tr, pd5.nd, fun q hq hq2 => pd5.dj q hq (sub6 q hq2), pd5.st.sub fun q hq => ?_⟩, er, eu, hsz⟩
          rcases List.mem_append.mp hq with z | z
          · exact List.mem_append_left _ (sub6 q z)
          · exact List.mem_append_right _ z
        | true =>
          rw [if_pos rfl] at er ⊢
          refine ⟨G5, ev2, F5, st5, ?_⟩
          cases ee : fe ev2 with
          | bad => simp only [ee, R.bind_bad] at er; cases er
          | exc c d env' => simp only [ee, R.bind_exc] at er; cases er
          | ok q =>
            obtain ⟨v, ev3⟩ := q
            simp only [ee, R.bind_ok] at er
            intro y G6 H6 F6 Fv s6 st6 vr6 nd6
            have pd6 := pd5.step s6
            split at er
            · cases er
            · rename_i u ev4 ek
              obtain ⟨G7, F7, Fu, s7, st7, r7, nd7, l7⟩ := take_ok st6 vr6 nd6 ek
              have pd7 := pd6.step s7
              cases ec : compL tg ft fe vs tr ev4 with
              | bad => simp only [ec, R.bind_bad] at er; cases er
              | exc c d env' => simp only [ec, R.bind_exc] at er; cases er
              | ok q =>
                obtain ⟨us2, ev5⟩ := q
                simp only [ec, R.bind_ok, R.ok.injEq, Prod.mk.injEq] at er
                obtain ⟨rfl, rfl⟩ := er
                have la : acc.length = accT.length := pd7.tr.len
                have hsz2 : accT.length + (us2.length + 1) = us.length := by rw [← eu]; simp
                refine ⟨acc, pd7.d, by omega, ?_⟩
                -- the list grown
                obtain ⟨y1, y2, yj⟩ := nodup_app.mp nd7
                obtain ⟨e1, e2'⟩ := Disj.appL.mp pd7.dj
                obtain ⟨f1, f2, fj⟩ := nodup_app.mp pd7.nd
                have hDF : D ∉ F7 ++ Fu := e2' D (List.mem_cons_self ..)
                have hDa := (List.nodup_cons.mp f2).1
                have sw : Step G7 H6 [D] G7 (upd H6 D (.lst (acc ++ [y]))) [D] := Step.write (List.mem_singleton.mpr rfl)
                have smw : Same G7 (upd H6 D (.lst (acc ++ [y]))) := same_write st7.same pd7.g
                have djD : ∀ {A : List Addr}, D ∉ A → Disj A [D] := fun h q hq hq2 => by rw [List.mem_singleton] at hq2; subst hq2; exact h hq
                obtain ⟨st8, _⟩ := st7.step sw smw (djD fun z => hDF (List.mem_append_left _ z))
                obtain ⟨F9, st9, sub9⟩ := st8.wipes vs
                rw [hw4] at st9
                have r8 := (r7.step sw (djD fun z => hDF (List.mem_append_right _ z))).1
                have t8 := (pd7.tr.step sw (djD hDa)).1
                have p8 := Φ.step pd7.p sw (djD fun z => fj D z (List.mem_cons_self ..))
                have t9 : TRs Ω G7 (upd H6 D (.lst (acc ++ [y]))) (acc ++ [y]) (accT ++ [u]) (Fa ++ Fu) := by
                  have z := t8.app (TRs.cons r8 .nil)
                  simpa using z
                refine ⟨G7, ev4, F9, tr, acc ++ [y], accT ++ [u], Fr, Fa ++ Fu, us2, rfl, st9, ⟨p8, upd_same, pd7.g, t9, ?_, ?_, ?_⟩, ec, by rw [List.append_assoc]; exact eu, hsz⟩
                · refine nodup_app.mpr ⟨f1, List.nodup_cons.mpr ⟨fun z => ?_, nodup_app.mpr ⟨(List.nodup_cons.mp f2).2, y2, fun q hq hq2 => e2' q (List.mem_cons_of_mem _ hq) (List.mem_append_right _ hq2)⟩⟩, fun q hq hq2 => ?_⟩
                  · rcases List.mem_append.mp z with z | z
                    · exact hDa z
                    · exact hDF (List.mem_append_right _ z)
                  · rcases List.mem_cons.mp hq2 with z | z
                    · exact fj q hq (by rw [z]; exact List.mem_cons_self ..)
                    · rcases List.mem_append.mp z with z | z
                      · exact fj q hq (List.mem_cons_of_mem _ z)
                      · exact e1 q hq (List.mem_append_right _ z)
                · intro q hq hq2
                  have hq2 := sub9 q hq2
                  rcases List.mem_append.mp hq with z | z
                  · exact e1 q z (List.mem_append_left _ hq2)
                  · rcases List.mem_cons.mp z with z | z
                    · subst z; exact hDF (List.mem_append_left _ hq2)
                    · rcases List.mem_append.mp z with z | z
                      · exact e2' q (List.mem_cons_of_mem _ z) (List.mem_append_left _ hq2)
                      · exact yj q hq2 z
                · refine (pd7.st.trans ((sw.frame (R := (F7 ++ Fu) ++ (Fr ++ Fa))).wide fun q hq => ?_)).sub fun q hq => ?_
                  · simp only [List.mem_append, List.mem_cons, List.not_mem_nil, or_false] at hq ⊢
                    rcases hq with hq | (hq | hq) | hq | hq
                    · exact .inr (.inr (.inl hq))
                    · exact .inl (.inl hq)
                    · exact .inl (.inr hq)
                    · exact .inr (.inl hq)
                    · exact .inr (.inr (.inr hq))
                  · simp only [List.mem_append, List.mem_cons, List.not_mem_nil, or_false] at hq ⊢
                    rcases hq with hq | hq | hq | hq | hq
                    · exact .inr (.inl (.inl (sub9 q hq)))
                    · exact .inr (.inr (.inl hq))
                    · exact .inl hq
                    · exact .inr (.inr (.inr hq))
                    · exact .inr (.inl (.inr hq))

theorem sE_comp2 {tg tg1 : Tg} {ft ft1 : FF.Env → R (Bool × FF.Env)} {fe : FF.Env → R (Val × FF.Env)} {fs fs1 : FF.Env → R (List Tr × FF.Env)} {vs vs1 : List Nat} (hsub : ∀ i ∈ tgSl tg, i ∈ vs) (hsub1 : ∀ i ∈ tgSl tg1, i ∈ vs1) (hv : ∀ i ∈ vs1, i ∈ vs) {Q : VK}
    (h : tF Ω W (fun env => (fs env).bind fun p => (noEx (compL2 tg ft fs1 tg1 ft1 fe vs vs1 p.1 p.2)).bind fun q => if q.1.length ≤ sizeLine then .ok (.tr (.lst q.1), restore p.2 q.2 vs) else .bad) σ H Q) :
    tLc2 (tI Ω W fs) (tgR Ω (asg tg) (tgSl tg)) (tB1 Ω noW ft) (tI Ω noW fs1) (tgR Ω (asg tg1) (tgSl tg1)) (tB1 Ω noW ft1) (tF Ω noW fe) vs vs1 σ H Q := by
  obtain ⟨G, env, F, st, o⟩ := h
  refine ⟨G, env, F, st, ?_⟩
  cases e : fs env with
  | bad => simp only [e, R.bind_bad] at o; exact o
  | exc c d env' => simp only [e, R.bind_exc] at o; exact o
  | ok p =>
    obtain ⟨ts, env1⟩ := p
    simp only [e, R.bind_ok] at o
    intro J Φ G1 H1 F1 Ft s1 st1 hP nd1 D hD
    have o := o.after s1
    cases e2 : compL2 tg ft fs1 tg1 ft1 fe vs vs1 ts env1 with
    | bad => simp only [e2, noEx, R.bind_bad] at o; exact o.elim
    | exc c d env' => simp only [e2, noEx, R.bind_bad] at o; exact o.elim
    | ok q =>
      obtain ⟨us, env2⟩ := q
      simp only [e2, noEx, R.bind_ok] at o
      split at o
      · rename_i hlen
        obtain ⟨m1, m2, mj⟩ := nodup_app.mp nd1
        have gD : G1 D = none := st1.same.free hD
        refine ⟨CompJ Φ vs σ (compL2 tg ft fs1 tg1 ft1 fe vs vs1) us env2 D G1 H1 (F1 ++ Ft), ⟨ts.length, ?_⟩, ?_⟩
        · -- the start
          obtain ⟨F2, stw, sub⟩ := st1.wipes vs
          have sa : Step G1 H1 [] G1 (upd H1 D (.lst [])) [D] := by
            have z := (Step.alloc (F := []) (o := .lst []) st1.same hD true)
            simpa using z
          have nD : D ∉ F1 ++ Ft := fun z => by
            rcases List.mem_append.mp z with z | z
            · exact (st1.sl.there D z).1 hD
            · exact (Φ.there hP D z).1 hD
          have sm : Same G1 (upd H1 D (.lst [])) := same_updR st1.same hD
          refine ⟨G1, env1, F2, ts, [], [], Ft, [], us, rfl, (stw.step sa sm Disj.nilR).1, ⟨Φ.step hP sa Disj.nilR, upd_same, gD, .nil, ?_, ?_, ?_⟩, e2, rfl, hlen⟩
          · exact nodup_app.mpr ⟨m2, by simp, fun q hq hq2 => by
              rw [List.mem_singleton] at hq2; subst hq2; exact nD (List.mem_append_right _ hq)⟩
          · refine Disj.appL.mpr ⟨fun q hq hq2 => mj q (sub q hq2) hq, fun q hq hq2 => ?_⟩
            rw [List.mem_singleton] at hq; subst hq
            exact nD (List.mem_append_left _ (sub q hq2))
          · refine (sa.frame (R := F1 ++ Ft)).sub fun q hq => ?_
            simp only [List.mem_append, List.mem_singleton] at hq ⊢
            rcases hq with hq | hq | hq
            · exact .inr (.inl (sub q hq))
            · exact .inr (.inr hq)
            · exact .inl hq
        · rintro i m H2 ⟨G2, ev, F2, tr, acc, accT, Ft2, Fa, us', rfl, st2, pd, er, eu, hsz⟩
          obtain ⟨d1, d2⟩ := Disj.appL.mp pd.dj
          obtain ⟨p1, p2, pj⟩ := nodup_app.mp pd.nd
          cases tr with
          | nil =>
            left
            refine ⟨Φ.nil pd.p st2.same, ?_⟩
            simp only [compL2, R.ok.injEq, Prod.mk.injEq] at er
            obtain ⟨rfl, rfl⟩ := er
            rw [List.append_nil] at eu
            subst eu
            have hsl := SlR.unwipe st2.sl fun j hj => slot_wipeE hj
            obtain ⟨F3, q1, q2, q3⟩ := SlR.restore (sv := env1) hsl (fun j d ej => by
              obtain ⟨v, A1, A2, a1, a2, _⟩ := st1.out ej
              cases a2 with
              | sh a2 => exact ⟨v, a1, dp_mono pd.st.g a2⟩) vs
            refine o (.ref D) G2 H2 F3 (D :: Fa) (pd.st.sub fun q hq => ?_) ⟨st2.same, q1, q3 st2.nd⟩ (.lst pd.d pd.g pd.tr) (nodup_app.mpr ⟨q3 st2.nd, p2, fun q hq hq2 => d2 q hq2 (q2 q hq)⟩)
            rcases List.mem_append.mp hq with z | z
            · exact List.mem_append_left _ (q2 q z)
            · exact List.mem_append_right _ (List.mem_append_right _ z)
          | cons t tr =>
            right
            obtain ⟨hgo, hy⟩ := Φ.cons pd.p st2.same p1
            refine ⟨hgo, CompJ Φ vs σ (compL2 tg ft fs1 tg1 ft1 fe vs vs1) us env2 D G1 H1 (F1 ++ Ft) (i + 1) tr.length, fun H' hn => ⟨tr.length, by simp, hn⟩, fun x H3 hx => ?_⟩
            obtain ⟨G3, Fx, Fr, s3, sm3, rx, hP3, nd3⟩ := hy x H3 hx
            have dF2 : Disj F2 Ft2 := d1.symm
            obtain ⟨st3, dF2'⟩ := st2.step s3 sm3 dF2
            obtain ⟨dfx, dfr⟩ := Disj.appR.mp dF2'
            obtain ⟨x1, x2, xj⟩ := nodup_app.mp nd3
            have thD : ∀ q ∈ D :: Fa, H2 q ≠ none ∧ G2 q = none := fun q hq => by
              rcases List.mem_cons.mp hq with z | z
              · subst z; exact ⟨by rw [pd.d]; simp, pd.g⟩
              · exact pd.tr.there q z
            have apD := s3.apart thD pj.symm
            obtain ⟨dDx, dDr⟩ := Disj.appR.mp apD.2.2
            -- the bundle with the rest of the items
            have pd3 : Pend Φ (i + 1) tr D acc accT Fr Fa G1 H1 (F1 ++ Ft) G3 H3 (F2 ++ Fx) := by
              refine ⟨hP3, apD.1 D (List.mem_cons_self ..) _ pd.d, apD.2.1 D (List.mem_cons_self ..), (pd.tr.step s3 fun q hq => pj.symm q (List.mem_cons_of_mem _ hq)).1, nodup_app.mpr ⟨x2, p2, dDr.symm⟩, Disj.appL.mpr ⟨Disj.appR.mpr ⟨dfr.symm, xj.symm⟩, Disj.appR.mpr ⟨d2, dDx⟩⟩, ?_⟩
              refine (pd.st.trans ((s3.frame (R := F2 ++ (D :: Fa))).wide fun q hq => ?_)).sub fun q hq => ?_
              · simp only [List.mem_append] at hq ⊢
                rcases hq with hq | hq | hq
                · exact .inr (.inl hq)
                · exact .inl hq
                · exact .inr (.inr hq)
              · simp only [List.mem_append] at hq ⊢
                rcases hq with (hq | hq) | hq | hq
                · exact .inr (.inl hq)
                · exact .inl (.inl hq)
                · exact .inl (.inr hq)
                · exact .inr (.inr hq)
            unfold compL2 at er
            split at er
            · cases er
            · rename_i ev1 ea
              refine ⟨G3, wipeE ev vs, F2, t, Fx, st3, rx, nodup_app.mpr ⟨st3.nd, x1, dfx⟩, ?_⟩
              rw [ea]
              intro σ4 G4 F4 l4 k4 s4 st4
              have pd4 := pd3.step s4
              refine ⟨(wipe_ext l4 fun j hj => k4 j fun z => hj (hsub j z)).trans (wipe_wipe σ vs), G4, ev1, F4, st4, ?_⟩
              have hw4 : wipe σ4 vs = wipe σ vs := (wipe_ext l4 fun j hj => k4 j fun z => hj (hsub j z)).trans (wipe_wipe σ vs)
              cases et : ft ev1 with
              | bad => simp only [et, R.bind_bad] at er; cases er
              | exc c d env' => simp only [et, R.bind_exc] at er; cases er
              | ok q =>
                obtain ⟨b, ev2⟩ := q
                simp only [et, R.bind_ok] at er
                intro G5 H5 F5 s5 st5
                have pd5 := pd4.step s5
                cases b with
                | false =>
                  rw [if_neg Bool.false_ne_true] at er ⊢
                  obtain ⟨F6, st6, sub6⟩ := st5.wipes vs
                  rw [hw4] at st6
                  refine ⟨G5, ev2, F6, tr, acc, accT, Fr, Fa, us', rfl, st6, ⟨pd5.p, pd5.d, pd5.g, pd5.tr, pd5.nd, fun q hq hq2 => pd5.dj q hq (sub6 q hq2), pd5.st.sub fun q hq => ?_⟩, er, eu, hsz⟩
                  rcases List.mem_append.mp hq with z | z
                  · exact List.mem_append_left _ (sub6 q z)
                  · exact List.mem_append_right _ z
                | true =>
                  rw [if_pos rfl] at er ⊢
                  refine ⟨G5, ev2, F5, st5, ?_⟩
                  cases es : fs1 ev2 with
                  | bad => simp only [es, R.bind_bad] at er; cases er
                  | exc c d env' => simp only [es, R.bind_exc] at er; cases er
                  | ok q =>
                    obtain ⟨ts1, ev3⟩ := q
                    simp only [es, R.bind_ok] at er
                    intro J1 Φ1 G6 H6 F6 Ft1 s6 st6 hP1 nd6
                    have pd6 := pd5.step s6
                    cases ec : compL tg1 ft1 fe vs1 ts1 ev3 with
                    | bad => simp only [ec, R.bind_bad] at er; cases er
                    | exc c d env' => simp only [ec, R.bind_exc] at er; cases er
                    | ok q =>
                      obtain ⟨xs, ev4⟩ := q
                      simp only [ec, R.bind_ok] at er
                      cases ey : compL2 tg ft fs1 tg1 ft1 fe vs vs1 tr ev4 with
                      | bad => simp only [ey, R.bind_bad] at er; cases er
                      | exc c d env' => simp only [ey, R.bind_exc] at er; cases er
                      | ok q =>
                        obtain ⟨ys, ev5⟩ := q
                        simp only [ey, R.bind_ok, R.ok.injEq, Prod.mk.injEq] at er
                        obtain ⟨rfl, rfl⟩ := er
                        obtain ⟨F7, stw, sub7⟩ := st6.wipes vs1
                        obtain ⟨k1, k2, kj⟩ := nodup_app.mp nd6
                        have fr := pd6.dj
                        refine comp_turns (Φ := feedB Φ1 Φ (i + 1) tr) hsub1 ec rfl (by rw [← List.append_assoc] at eu; rw [← eu, List.length_append] at hsz; omega) stw (Ft0 := Ft1 ++ Fr) (Fa0 := Fa) (F0 := F1 ++ Ft) (G0 := G1) (H0 := H1) (acc0 := acc) (accT0 := accT) ⟨⟨Ft1, Fr, rfl, fun q h1 h2 => fr q (List.mem_append_left _ h2) (List.mem_append_right _ h1), hP1, pd6.p⟩, pd6.d, pd6.g, pd6.tr, ?_, ?_, ?_⟩ ?_
                        · rw [List.append_assoc]
                          exact nodup_app.mpr ⟨k2, pd6.nd, fun q h1 h2 => fr q h2 (List.mem_append_right _ h1)⟩
                        · intro q hq hq2
                          have q6 := sub7 q hq2
                          rw [List.append_assoc] at hq
                          rcases List.mem_append.mp hq with z | z
                          · exact kj q q6 z
                          · exact fr q z (List.mem_append_left _ q6)
                        · refine pd6.st.sub fun q hq => ?_
                          simp only [List.mem_append, List.mem_cons] at hq ⊢
                          rcases hq with hq | (hq | hq) | hq
                          · exact .inl (.inl (sub7 q hq))
                          · exact .inl (.inr hq)
                          · exact .inr (.inl hq)
                          · exact .inr (.inr hq)
                        · intro j G7 H7 F8 acc' Fa' Ft' ev hev st7 pd7
                          subst hev
                          obtain ⟨A, B, rfl, dAB, _, pB⟩ := pd7.p
                          obtain ⟨F9, st8, sub8⟩ := st7.wipes vs
                          have hw : wipe (wipe σ4 vs1) vs = wipe σ vs := (wipe_ext (wipe_length σ4 vs1) fun j hj => by rw [wipe_get, if_neg fun z => hj (hv j z)]).trans hw4
                          rw [hw] at st8
                          have nd7 := pd7.nd
                          rw [List.append_assoc] at nd7
                          refine ⟨G7, ev, F9, tr, acc', accT ++ xs, B, Fa', ys, rfl, st8, ⟨pB, pd7.d, pd7.g, pd7.tr, (nodup_app.mp nd7).2.1, fun q hq hq2 => ?_, pd7.st.sub fun q hq => ?_⟩, ey, by rw [List.append_assoc]; exact eu, hsz⟩
                          · refine pd7.dj q ?_ (sub8 q hq2)
                            rw [List.append_assoc]
                            exact List.mem_append_right _ hq
                          · rcases List.mem_append.mp hq with z | z
                            · exact List.mem_append_left _ (sub8 q z)
                            · refine List.mem_append_right _ ?_
                              rw [List.append_assoc]
                              exact List.mem_append_right _ z
      · exact o.elim
end
end FF

set_option Elab.async false
set_option linter.all false
set_option autoImplicit false
set_option maxRecDepth 100000
/-! FOc: an empty dict; list(range(..)). -/
namespace FF
open PySem PySem.Spec PyProof.Rows L2
section
variable {Ω : Wd} {W : WX} {G H : Hp} {σ : L2.St} {F : List Addr} {Θ : Tab} {n : Nat} {os : Scope} {X : Cx}
theorem sE_dct {pos : Pos} : PE X (.Dict [] [] pos) (tF Ω W fun env => .ok (.tr (.sh (.dict [])), env)) :=
  PE.imp pe_dnewK fun σ H Q ⟨G, env, F, st, o⟩ p hp => by
    refine o (.ref p) (upd G p (.dK [])) (upd H p (.dK [])) F [] ?_ ⟨same_upd2 st.same, slR_shared st.same hp st.sl, st.nd⟩ (.sh (.dct (.inl upd_same))) (by simpa using st.nd)
    have s := (Step.alloc (F := F) (o := .dK []) st.same hp false)
    simpa using s
/-- the two shapes of range's arguments -/
def rRg (vs : List V) (H : Hp) (Q : Int → Int → Hp → Prop) : Prop := (∃ j : Int, vs = [.int j] ∧ Q 0 j H) ∨ (∃ i j : Int, vs = [.int i, .int j] ∧ Q i j H)
theorem prg_pa {e : Expr} {es : List Expr} {ta : TA} {p pos : Pos} (hg : Gl X "range") (hm : X.mg "range" = none) (ha : PA X (e :: es) ta) (hp : plainE e = true) (hps : es.all plainE = true) :
    PRg X (.Call (.Name "range" p) (e :: es) [] pos) (fun σ H Q => ta σ H fun vs H1 => rRg vs H1 Q) := by
  intro pins s σ H Q I h
  refine Call_ (ld_blt I hg hm boot_range (PyProof.Rows.callWith_type1 ?_ (starEach_plain hp es X.env) (starEach_all hps)))
  refine thn (ha.run pos pins s σ H _ I h) fun us s1 ⟨vs, H1, I1, r, q⟩ => ?_
  rcases q with ⟨j, rfl, q⟩ | ⟨i, j, rfl, q⟩
  · obtain ⟨u, rfl, t, rfl⟩ := vals1 r
    exact call_range_1 ⟨_, 0, j, _, _, _, H1, rfl, IsRange.new _ _ _ _ _ _ _, I1.kept fun b u e => Heap.get?_push_of_some _ e, q⟩
  · obtain ⟨u, w, rfl, ⟨t, rfl⟩, ⟨t', rfl⟩⟩ := vals2 r
    exact call_range_2 ⟨_, i, j, _, _, _, H1, rfl, IsRange.new _ _ _ _ _ _ _, I1.kept fun b u e => Heap.get?_push_of_some _ e, q⟩
theorem trs_intF {α : Type} (f : α → Int) : ∀ l : List α, TRs Ω G H (l.map fun i => V.int (f i)) (l.map fun i => Tr.sh (.int (f i))) []
  | [] => .nil
  | a :: l => by
    have z := TRs.cons (F1 := []) (F2 := []) (TR.sh (Dp.int (f a))) (trs_intF f l)
    exact z
def lrngK (vs : List Val) (env1 : FF.Env) : R (Val × FF.Env) := match looks env1 vs with
  | some ds => (match rngItems ds with
    | some ts => if ts.length ≤ sizeLine then .ok (.tr (.lst ts), env1) else .bad
    | none => .bad)
  | none => .bad
theorem list_mem : ("list" : Str) ∈ bltNames := by decide
theorem sE_lrng (g : GX Ω n W os X) (T : TO Ω Θ n) {x y : Str} {p p2 pos pos2 : Pos} {e : Expr} {es : List Expr} {fs : FF.Env → R (List Val × FF.Env)} (hg : glOk X.env.scope x = true) (hx : x = ("list" : Str)) (hg2 : glOk X.env.scope y = true) (hy : y = ("range" : Str)) (ha : PA X (e :: es) (tL Ω W fs)) (hp : (e :: es).all plainE = true) :
    PE X (.Call (.Name x p) [.Call (.Name y p2) (e :: es) [] pos2] [] pos) (tF Ω W fun env => (fs env).bind fun q => lrngK q.1 q.2) := by
  subst hx hy
  obtain ⟨h1, _, _⟩ := glOk_of hg
  obtain ⟨h2, _, _⟩ := glOk_of hg2
  rw [List.all_cons, Bool.and_eq_true] at hp
  refine PE.imp (pe_listRg g.calm h1 (by rw [g.w.mg]; exact T.blt _ list_mem) (prg_pa h2 (by rw [g.w.mg]; exact T.blt _ rng_mem.1) ha hp.1 hp.2)) fun σ H Q hh => ?_
  refine many (g := lrngK) hh fun xs vxs G1 H1 env1 F1 Fx st vr nd o => ?_
  unfold lrngK at o
  split at o
  · rename_i ds e
    have hd := looks_ok st vr e
    split at o
    · rename_i ts e1
      split at o
      · rename_i hl
        have fin : ∀ a b : Int, ts = (List.range (b - a).toNat).map (fun k : Nat => Tr.sh (.int (a + (k : Int)))) → ∀ q, H1 q = none → Q (.ref q) (upd H1 q (.lst (rgV a b))) := by
          intro a b et q hq
          subst et
          have tr : TRs Ω G1 H1 (rgV a b) ((List.range (b - a).toNat).map (fun k : Nat => Tr.sh (.int (a + (k : Int))))) [] := trs_intF (fun k : Nat => a + (k : Int)) _
          exact OutV.newL st tr (by simpa using st.nd) (fun p hp => List.mem_append_left _ (by simpa using hp)) o hq
        have small : ∀ a b : Int, ts.length = (b - a).toNat → (b - a).toNat ≤ 2 ^ 24 := fun a b z => by rw [← z]; exact hl
        unfold rngItems at e1
        split at e1
        · rename_i j
          split at e1
          · rename_i hb
            cases e1
            obtain ⟨v, rfl, h⟩ := dpAll1 hd
            cases dp_int h
            obtain ⟨b1, b2⟩ := rngB_of hb
            refine .inl ⟨j, rfl, ⟨by decide, by decide, b1, b2, ?_⟩, fin 0 j ?_⟩
            · exact small 0 j (by rw [List.length_map, List.length_range, Int.sub_zero])
            · rw [Int.sub_zero]
              exact List.map_congr_left fun k _ => by rw [Int.zero_add]
          · cases e1
        · rename_i i j
          split at e1
          · rename_i hb
            rw [Bool.and_eq_true] at hb
            cases e1
            obtain ⟨v, w, rfl, h, h2⟩ := dpAll2 hd
            cases dp_int h
            cases dp_int h2
            obtain ⟨b1, b2⟩ := rngB_of hb.1
            obtain ⟨b3, b4⟩ := rngB_of hb.2
            refine .inr ⟨i, j, rfl, ⟨b1, b2, b3, b4, ?_⟩, fin i j rfl⟩
            exact small i j (by rw [List.length_map, List.length_range])
          · cases e1
        · cases e1
      · exact o.elim
    · exact o.elim
  · exact o.elim
end
end FF

set_option Elab.async false
set_option linter.all false
set_option autoImplicit false
set_option maxRecDepth 100000
/-! FP: isinstance; the field of an exception. -/
namespace FF
open PySem PySem.Spec PyProof.Rows L2
section
variable {Ω : Wd} {W : WX} {G H : Hp} {σ : L2.St} {F : List Addr} {Θ : Tab} {n : Nat} {os : Scope} {X : Cx}

/-- a value's type, an own exception among them -/
def TyY (K : PySem.W.Frag) (H : Hp) (x : V) (t : Value) : Prop := TyX K H x t ∨ ∃ (a C dd : Addr) (fs : List (Str × V)), x = .ref a ∧ H a = some (XO C dd a) ∧ H dd = some (.xd fs) ∧ ExK K C ∧ t = .ref C
theorem exc_inst {pins : List (Addr × Obj)} {s : Shared} {a C dd : Addr} {fs : List (Str × V)} (I : Inv X pins σ H s) (e : H a = some (XO C dd a)) (e2 : H dd = some (.xd fs)) :
    ∃ ox od, PySem.W.InstAt s.heap a ox C (some od) := by
  obtain ⟨⟨oe, vs, h1, h2, h3, h4⟩, _, _⟩ := (show ObjOk X.prog X.w H s.heap a (XO C dd a) from I.hok a _ e)
  obtain ⟨_, ⟨od, _, _, h5, _⟩, _⟩ := (show ObjOk X.prog X.w H s.heap dd (.xd fs) from I.hok dd _ e2)
  exact ⟨oe, od, h1, h2, by unfold PySem.W.notCls; rw [h4] <;> rfl, by rw [h3]; exact h5⟩
theorem kitY {pins : List (Addr × Obj)} {s : Shared} {x : V} {u t : Value} (I : Inv X pins σ H s) (r : RelV x u) (ty : TyY X.K H x t) :
    ∃ P : Heap → Prop, PySem.W.KitX X.K u t P ∧ P s.heap ∧ u ≠ .builtin "__main__.__loader__#opaque" := by
  rcases ty with ty | ⟨a, C, dd, fs, rfl, e, e2, k, rfl⟩
  · exact kit_of I r ty
  · obtain ⟨ox, od, J⟩ := exc_inst I e e2
    obtain rfl : u = Value.ref a := r
    exact ⟨_, PySem.W.kitx_exc k.cl k.ga k.gt k.sb k.ac k.sp k.tk k.mr, J, fun z => nomatch z⟩
def rIsY (K : PySem.W.Frag) : List V → Hp → VK → Prop := fun xs H Q => ∃ (x c : V) (t u : Value) (b : Bool), xs = [x, c] ∧ ClsV c u ∧ TyY K H x t ∧ PySem.W.kitOne K t u = some b ∧ Q (.bl b) H
def rIsYT (K : PySem.W.Frag) : List V → Hp → VK → Prop := fun xs H Q => ∃ (x : V) (tp : Addr) (cs : List V) (t : Value) (us : List Value) (b : Bool), xs = [x, .ref tp] ∧ H tp = some (.tup cs) ∧ Paired ClsV cs us ∧ TyY K H x t ∧ PySem.W.kitAny K t us = some b ∧ Q (.bl b) H
theorem call_isY : CallR X (.builtin "isinstance") (fun xs H Q => rIsY X.K xs H Q ∨ rIsYT X.K xs H Q) := by
  intro pins s σ H xs us Q I r h
  rcases h with ⟨x, c, t, u, b, rfl, k, ty, e, q⟩ | ⟨x, tp, cs, t, ws, b, rfl, hT, k, ty, e, q⟩
  · obtain ⟨u1, u2, rfl, r1, r2⟩ := vals2 r
    cases k.eq r2
    obtain ⟨P, Z, p, hx⟩ := kitY I r1 ty
    exact PySem.W.kia_one Z I.kIn p e hx fun tk => ⟨.bl b, H, I.tok tk, rfl, q⟩
  · obtain ⟨u1, u2, rfl, r1, r2⟩ := vals2 r
    obtain rfl : u2 = Value.ref tp := r2
    obtain ⟨P, Z, p, hx⟩ := kitY I r1 ty
    obtain ⟨_, its, rv, ⟨oc, od, dt, sl⟩, h1, h2, nn, h3⟩ := (show ObjOk X.prog X.w H s.heap tp (.tup cs) from I.hok tp _ hT)
    cases ClsV.all k rv
    dsimp only at h2 h3
    subst h2 h3
    exact PySem.W.kia_tup Z I.kIn p h1 e hx fun tk => ⟨.bl b, H, I.tok tk, rfl, q⟩

/-! ### what the evaluator says of types -/
def tyV (Ω : Wd) : Ty → V
  | .int => .ty "int" | .bool => .ty "bool" | .str => .ty "str" | .list => .ty "list" | .tuple => .ty "tuple" | .vErr => .ty "ValueError" | .cls c => .ref (Ω.ca c)
def tyU (Ω : Wd) : Ty → Value
  | .int => .type "int" | .bool => .type "bool" | .str => .type "str" | .list => .type "list" | .tuple => .type "tuple" | .vErr => .type "ValueError" | .cls c => .ref (Ω.ca c)
theorem tyV_cls (ty : Ty) : ClsV (tyV Ω ty) (tyU Ω ty) := by
  cases ty with
  | cls c => exact .own _
  | _ => exact .ty _
theorem tyX_list {H : Hp} {a : Addr} {xs : List V} (h : SqL Ω.K H a xs) : TyX Ω.K H (.ref a) (.type "list") := by
  rcases h with (h | ⟨o, h⟩) | ⟨o, its, m, h1, h2, _⟩
  · exact .base (.lst h)
  · exact .base (.frz h)
  · exact .kList h1 h2
theorem tyX_tup {H : Hp} {a : Addr} {xs : List V} (h : SqT Ω.K H a xs) : TyX Ω.K H (.ref a) (.type "tuple") := by
  rcases h with (h | ⟨o, h⟩) | ⟨o, its, m, h1, h2, _⟩
  · exact .base (.tup h)
  · exact .fTuple h
  · exact .kTuple h1 h2
theorem tyX_dct {H : Hp} {a : Addr} {kvs : List (Key × V)} (h : Rd H a (.dK kvs)) : TyX Ω.K H (.ref a) (.type "dict") := by
  rcases h with h | ⟨o, h⟩
  · exact .base (.dK h)
  · exact .fDict h
def baseOf : Ty → Option String
  | .int => some "int" | .bool => some "bool" | .str => some "str" | .list => some "list" | .tuple => some "tuple" | .vErr => some "ValueError" | .cls _ => none
theorem isTy_ok (T : TO Ω Θ n) {x : V} {t : Tr} {Ft : List Addr} (s : Same G H) (r : TR Ω G H x t Ft) : (∃ j, t = .fn j) ∨ ∃ tv, TyY Ω.K H x tv ∧ ∀ ty b, tyOk Θ ty = true → isTy t ty = some b → PySem.W.kitOne Ω.K tv (tyU Ω ty) = some b := by
  have plain : ∀ (Tn : String) (b0 : Ty → Bool), Tn ∈ plainTys → (∀ c, b0 (.cls c) = false) → (∀ ty B, baseOf ty = some B → kitB Tn B = some (b0 ty)) → ∀ ty b, tyOk Θ ty = true → some (b0 ty) = some b → PySem.W.kitOne Ω.K (.type Tn) (tyU Ω ty) = some b := by
    intro Tn b0 hm hc hb ty b ho e
    cases e
    cases ty with
    | cls c => rw [hc c]; exact T.cty c (by rw [T.ncl]; exact of_decide_eq_true ho) Tn hm
    | _ => exact kit_ty (hb _ _ rfl)
  cases r with
  | fn => exact .inl ⟨_, rfl⟩
  | sh q =>
    refine .inr ?_
    have qh := dp_mono s q
    cases qh with
    | non => exact ⟨_, .inl (.base .non), fun ty b ho e => plain "NoneType" (fun _ => false) (by decide) (fun _ => rfl) (fun ty B h => by cases ty <;> cases h <;> decide +kernel) ty b ho (by cases ty <;> exact e)⟩
    | bl k => exact ⟨_, .inl (.base (.bl k)), fun ty b ho e => plain "bool" (fun | .int => true | .bool => true | _ => false) (by decide) (fun _ => rfl) (fun ty B h => by cases ty <;> cases h <;> decide +kernel) ty b ho (by cases ty <;> exact e)⟩
    | int i => exact ⟨_, .inl (.base (.int i)), fun ty b ho e => plain "int" (fun | .int => true | _ => false) (by decide) (fun _ => rfl) (fun ty B h => by cases ty <;> cases h <;> decide +kernel) ty b ho (by cases ty <;> exact e)⟩
    | str z => exact ⟨_, .inl (.base (.str z)), fun ty b ho e => plain "str" (fun | .str => true | _ => false) (by decide) (fun _ => rfl) (fun ty B h => by cases ty <;> cases h <;> decide +kernel) ty b ho (by cases ty <;> exact e)⟩
    | lst h1 h2 => exact ⟨_, .inl (tyX_list h1), fun ty b ho e => plain "list" (fun | .list => true | _ => false) (by decide) (fun _ => rfl) (fun ty B h => by cases ty <;> cases h <;> decide +kernel) ty b ho (by cases ty <;> exact e)⟩
    | tup h1 h2 => exact ⟨_, .inl (tyX_tup h1), fun ty b ho e => plain "tuple" (fun | .tuple => true | _ => false) (by decide) (fun _ => rfl) (fun ty B h => by cases ty <;> cases h <;> decide +kernel) ty b ho (by cases ty <;> exact e)⟩
    | dct h1 => exact ⟨_, .inl (tyX_dct h1), fun ty b ho e => plain "dict" (fun _ => false) (by decide) (fun _ => rfl) (fun ty B h => by cases ty <;> cases h <;> decide +kernel) ty b ho (by cases ty <;> exact e)⟩
    | dc1 h1 => exact ⟨_, .inl (tyX_dct h1), fun ty b ho e => plain "dict" (fun _ => false) (by decide) (fun _ => rfl) (fun ty B h => by cases ty <;> cases h <;> decide +kernel) ty b ho (by cases ty <;> exact e)⟩
  | lst eH gN r => exact .inr ⟨_, .inl (.base (.lst eH)), fun ty b ho e => plain "list" (fun | .list => true | _ => false) (by decide) (fun _ => rfl) (fun ty B h => by cases ty <;> cases h <;> decide +kernel) ty b ho (by cases ty <;> exact e)⟩
  | tup eH gN r => exact .inr ⟨_, .inl (.base (.tup eH)), fun ty b ho e => plain "tuple" (fun | .tuple => true | _ => false) (by decide) (fun _ => rfl) (fun ty B h => by cases ty <;> cases h <;> decide +kernel) ty b ho (by cases ty <;> exact e)⟩
  | @exc a dd c u d l h1 h2 h3 =>
    refine .inr ⟨_, .inr ⟨a, Ω.ca c, dd, _, rfl, s _ _ h1, s _ _ h2, T.exk c l, rfl⟩, fun ty b ho e => ?_⟩
    cases ty with
    | cls k =>
      cases e
      exact T.exi c k l (by rw [T.ncl]; exact of_decide_eq_true ho)
    | vErr => cases e; exact T.exv c l
    | int => cases e; exact T.exb c l _ (by decide)
    | bool => cases e; exact T.exb c l _ (by decide)
    | str => cases e; exact T.exb c l _ (by decide)
    | list => cases e; exact T.exb c l _ (by decide)
    | tuple => cases e; exact T.exb c l _ (by decide)
theorem isTys_any {tv : Value} {t : Tr} (hk : ∀ ty b, tyOk Θ ty = true → isTy t ty = some b → PySem.W.kitOne Ω.K tv (tyU Ω ty) = some b) : ∀ {tys : List Ty} {b : Bool}, tys.all (tyOk Θ) = true → isTys t tys = some b → PySem.W.kitAny Ω.K tv (tys.map (tyU Ω)) = some b
  | [], b, _, e => by
    simp only [isTys, Option.some.injEq] at e
    subst e; rfl
  | ty :: tys, b, ho, e => by
    rw [List.all_cons, Bool.and_eq_true] at ho
    unfold isTys at e
    split at e
    · rename_i a c e1 e2
      cases e
      rw [List.map_cons]
      refine kitAny_cons (hk ty a ho.1 e1) (fun ha => ?_) (fun ha => by rw [ha]; rfl)
      rw [ha]
      exact isTys_any hk ho.2 e2
    · cases e

/-! ### the names of types -/
theorem boot_ty : ∀ ty B, baseOf ty = some B → bootBuiltins (B : String) = some (.type B) := by
  intro ty B h
  cases ty <;> cases h <;> rfl
theorem tyNm_mem : ∀ ty B, baseOf ty = some B → tyNm Θ ty ∈ bltNames := by
  intro ty B h
  cases ty <;> cases h <;> (simp only [tyNm]; decide)
theorem pe_tyN (g : GX Ω n W os X) (T : TO Ω Θ n) {ty : Ty} {e : Expr} (h : chkTy Θ X.env.scope ty e = true) : PE X e (tC (tyV Ω ty)) ∧ tyOk Θ ty = true := by
  unfold chkTy at h
  split at h
  · rename_i x pos
    rw [Bool.and_eq_true, Bool.and_eq_true] at h
    obtain ⟨⟨h1, h2⟩, h3⟩ := h
    have hx := of_decide_eq_true h1
    obtain ⟨g1, g2, g3⟩ := glOk_of h2
    refine ⟨?_, h3⟩
    cases hb : baseOf ty with
    | some B =>
      have hm : X.mg x = none := by rw [g.w.mg, hx]; exact T.blt _ (tyNm_mem ty B hb)
      have hv : bootBuiltins x = some (.type B) := by
        rw [hx]
        cases ty <;> cases hb <;> rfl
      have hV : tyV Ω ty = .ty B := by cases ty <;> cases hb <;> rfl
      rw [hV]
      exact pe_bltn g1 hm hv rfl g3 g2
    | none =>
      cases ty with
      | cls c =>
        have hc : c < Θ.cls.length := of_decide_eq_true h3
        have hn : Θ.cls[c]? = some x := by
          rw [hx]
          simp [tyNm, List.getD_eq_getElem?_getD, hc]
        exact pe_glob g1 (by rw [g.w.mg]; exact T.cnm c x hn) rfl g2
      | _ => cases hb
  · cases h
def tTys (vs : List V) : TA := fun _ H Q => Q vs H
theorem pa_tys (g : GX Ω n W os X) (T : TO Ω Θ n) : ∀ {tys : List Ty} {es : List Expr}, chkTys Θ X.env.scope tys es = true → PA X es (tTys (tys.map (tyV Ω))) ∧ tys.all (tyOk Θ) = true ∧ es.length = tys.length
  | [], [], _ => ⟨pa_nil, rfl, rfl⟩
  | [], _ :: _, h => by simp [chkTys] at h
  | _ :: _, [], h => by simp [chkTys] at h
  | ty :: tys, e :: es, h => by
    unfold chkTys at h
    rw [Bool.and_eq_true, Bool.and_eq_true] at h
    obtain ⟨p1, p2⟩ := pe_tyN g T h.1.2
    obtain ⟨q1, q2, q3⟩ := pa_tys g T h.2
    exact ⟨pa_consP p1 q1 h.1.1, by simp [p2, q2], by simp [q3]⟩
theorem plainE_ty {ty : Ty} {sc : Scope} {e : Expr} (h : chkTy Θ sc ty e = true) : plainE e = true := by
  unfold chkTy at h
  split at h
  · rfl
  · cases h
theorem tys_pair : ∀ tys : List Ty, Paired ClsV (tys.map (tyV Ω)) (tys.map (tyU Ω))
  | [] => .nil
  | t :: ts => .cons (tyV_cls t) (tys_pair ts)
theorem isi_mem : ("isinstance" : Str) ∈ bltNames := by decide
theorem Step.grow {p : Addr} {o : HO} (hp : H p = none) : Step G H F G (upd H p o) F where
  g := Same.refl G
  new := fun q e z => absurd e z
  keep := fun q u e _ => by rw [upd_ne (ne_of_none e hp)]; exact e
  own := fun q hq => .inl hq
def isiV (tys : List Ty) (va : Val) (env : FF.Env) : R (Val × FF.Env) := match getV env va with
  | some t => R.of ((isTys t tys).map fun b => (.tr (.sh (.bool b)), env))
  | none => .bad
theorem isTys_fn {j : Nat} {tys : List Ty} {b : Bool} (hne : tys ≠ []) (h : isTys (.fn j) tys = some b) : False := by
  cases tys with
  | nil => exact hne rfl
  | cons ty tys => simp [isTys, isTy] at h
theorem sE_isi1 (g : GX Ω n W os X) (T : TO Ω Θ n) {x : Str} {v t : Expr} {p pos : Pos} {ty : Ty} {f : FF.Env → R (Val × FF.Env)} (hg : glOk X.env.scope x = true) (hx : x = ("isinstance" : Str)) (hv : PE X v (tF Ω W f)) (hp : plainE v = true) (ht : chkTy Θ X.env.scope ty t = true) :
    PE X (.Call (.Name x p) [v, t] [] pos) (tF Ω W fun env => (f env).bind fun q => isiV [ty] q.1 q.2) := by
  subst hx
  obtain ⟨h1, h2, h3⟩ := glOk_of hg
  obtain ⟨pt, ok⟩ := pe_tyN g T ht
  have pl := plainE_ty ht
  refine PE.imp (pe_callB call_isY h1 (by rw [g.w.mg]; exact T.blt _ isi_mem) rfl (pa_consP hv (pa_consP pt pa_nil pl) hp) h3 h2 (starEach_plain hp _ _) (starEach_all (by simp [pl]))) fun σ H Q hh => ?_
  refine one (g := isiV [ty]) hh fun xv vx G1 H1 env1 F1 Fx st vr nd o => ?_
  unfold isiV at o
  split at o
  · rename_i tr e1
    cases e2 : isTys tr [ty] with
    | none => simp only [e2, Option.map_none, R.of_none] at o; exact o.elim
    | some b =>
      simp only [e2, Option.map_some, R.of_some] at o
      obtain ⟨Ft, r, _⟩ := getV_ok st vr e1
      rcases isTy_ok T st.same r with ⟨j, rfl⟩ | ⟨tv, hy, hk⟩
      · exact (isTys_fn (by simp) e2).elim
      · refine .inl ⟨xv, tyV Ω ty, tv, tyU Ω ty, b, rfl, tyV_cls ty, by rw [g.w.K]; exact hy, ?_, OutV.give st subL (.bl b) o⟩
        rw [g.w.K]
        have e3 := e2
        unfold isTys at e3
        split at e3
        · rename_i a c e4 e5
          simp only [isTys, Option.some.injEq] at e5
          subst e5
          rw [Bool.or_false] at e3
          rw [← e3]
          exact hk ty a ok e4
        · cases e3
  · exact o.elim
theorem sE_isiT (g : GX Ω n W os X) (T : TO Ω Θ n) {x : Str} {v : Expr} {us : List Expr} {kk : Nat} {p pos p2 : Pos} {tys : List Ty} {f : FF.Env → R (Val × FF.Env)} (hg : glOk X.env.scope x = true) (hx : x = ("isinstance" : Str)) (hv : PE X v (tF Ω W f)) (hp : plainE v = true) (ht : chkTys Θ X.env.scope tys us = true) (hlen : us.length ≤ 1000) (hne : tys ≠ []) :
    PE X (.Call (.Name x p) [v, .Tuple us kk p2] [] pos) (tF Ω W fun env => (f env).bind fun q => isiV tys q.1 q.2) := by
  subst hx
  obtain ⟨h1, h2, h3⟩ := glOk_of hg
  obtain ⟨pt, ok, len⟩ := pa_tys g T ht
  refine PE.imp (pe_callB call_isY h1 (by rw [g.w.mg]; exact T.blt _ isi_mem) rfl (pa_consP hv (pa_consP (pe_tup pt) pa_nil rfl) hp) h3 h2 (starEach_plain hp _ _) rfl) fun σ H Q hh => ?_
  refine one (g := isiV tys) hh fun xv vx G1 H1 env1 F1 Fx st vr nd o => ?_
  have hz : (tys.map (tyV Ω)).length ≤ sizeLine := by
    rw [List.length_map, ← len, sizeLine_eq]
    omega
  refine ⟨hz, fun tp htp => ?_⟩
  unfold isiV at o
  split at o
  · rename_i tr e1
    cases e2 : isTys tr tys with
    | none => simp only [e2, Option.map_none, R.of_none] at o; exact o.elim
    | some b =>
      simp only [e2, Option.map_some, R.of_some] at o
      obtain ⟨Ft, r, _⟩ := getV_ok st vr e1
      have sg : Step G1 H1 (F1 ++ Fx) G1 (upd H1 tp (.tup (tys.map (tyV Ω)))) (F1 ++ Fx) := Step.grow htp
      have sm : Same G1 (upd H1 tp (.tup (tys.map (tyV Ω)))) := same_updR st.same htp
      have st2 : St Ω G1 (upd H1 tp (.tup (tys.map (tyV Ω)))) σ env1 F1 := ⟨sm, slR_owned htp st.sl, st.nd⟩
      have r2 : TR Ω G1 (upd H1 tp (.tup (tys.map (tyV Ω)))) xv tr Ft := r.to (Same.refl _) (fun q hq u e => by rw [upd_ne (ne_of_none e htp)]; exact e) fun q hq => (r.there q hq).2
      rcases isTy_ok T sm r2 with ⟨j, rfl⟩ | ⟨tv, hy, hk⟩
      · exact (isTys_fn hne e2).elim
      · refine .inr ⟨xv, tp, tys.map (tyV Ω), tv, tys.map (tyU Ω), b, rfl, upd_same, ?_, by rw [g.w.K]; exact hy, by rw [g.w.K]; exact isTys_any hk ok e2, OutV.give st2 subL (.bl b) (o.after sg)⟩
        exact tys_pair tys
  · exact o.elim

/-! ### the field -/
def rFld : V → Hp → VK → Prop := fun x H Q => ∃ (a C dd : Addr) (u : V), x = .ref a ∧ H a = some (XO C dd a) ∧ H dd = some (.xd [("value", u)]) ∧ Q u H
theorem pe_fldX {e : Expr} {te : TE} {pos : Pos} (he : PE X e te) (hb : attributeBase e "value" X.env (eval e X.env) = eval e X.env) :
    PE X (.Attribute e "value" pos) (fun σ H Q => te σ H fun x H1 => ∃ C, ExK X.K C ∧ ∃ (a dd : Addr) (u : V), x = .ref a ∧ H1 a = some (XO C dd a) ∧ H1 dd = some (.xd [("value", u)]) ∧ Q u H1) := by
  constructor
  intro pins s σ H Q I h
  refine attr_of hb (thn (he.run pins s σ H _ I h) fun uv s1 ⟨x, H1, I1, rx, C, k, a, dd, u, ex, e1, e2, q⟩ => ?_)
  subst ex
  obtain rfl : uv = Value.ref a := rx
  obtain ⟨⟨oe, vs, g1, g2, g3, g4⟩, _, _⟩ := (show ObjOk X.prog X.w H1 s1.heap a (XO C dd a) from I1.hok a _ e1)
  obtain ⟨mA, hns, hr⟩ := (show ObjOk X.prog X.w H1 s1.heap dd (.xd [("value", u)]) from I1.hok dd _ e2)
  obtain ⟨od, ho, hl⟩ := lookIn_ns hns
  obtain ⟨w, hw, rw'⟩ := RelO.some_of (v := u) (o := mA "value") (by
    have := hr "value"
    exact this)
  have J : PySem.W.InstAt s1.heap a oe C (some od) := ⟨g1, g2, by unfold PySem.W.notCls; rw [g4] <;> rfl, by rw [g3]; exact ho⟩
  exact PySem.HandSPX.exc_get I1.kIn J k.ga k.gt k.sb (PySem.W.findObj_own k.hd k.no rfl (by rw [hl, hw])) (handed_of rw') ⟨u, H1, I1.tok _, rw', q⟩
theorem sE_fld (g : GX Ω n W os X) (T : TO Ω Θ n) {e : Expr} {m : Str} {pos : Pos} {f : FF.Env → R (Val × FF.Env)} (hm : m = ("value" : Str)) (he : PE X e (tF Ω W f)) (hb : attributeBase e "value" X.env (eval e X.env) = eval e X.env) :
    PE X (.Attribute e m pos) (tF Ω W fun env => (f env).bind fun p => (match getV p.2 p.1 with
    | some (.exc _ d) => .ok (.tr (.sh d), p.2)
    | _ => .bad)) := by
  subst hm
  refine PE.imp (pe_fldX he hb) fun σ H Q hh => one (g := fun v env => (match getV env v with
    | some (.exc _ d) => .ok (.tr (.sh d), env)
    | _ => .bad)) hh fun x vx G1 H1 env1 F1 Fx st vr nd o => ?_
  split at o
  · rename_i c d e1
    obtain ⟨Ft, r, _⟩ := getV_ok st vr e1
    cases r with
    | @exc a dd _ u _ l h1 h2 h3 =>
      exact ⟨Ω.ca c, by rw [g.w.K]; exact T.exk c l, a, dd, u, rfl, st.same _ _ h1, st.same _ _ h2, OutV.give st subL h3 o⟩
  · exact o.elim
end
end FF

set_option Elab.async false
set_option linter.all false
set_option autoImplicit false
set_option maxRecDepth 100000
/-! FSb: an own exception as a value, by position or by name. -/
namespace PySem
namespace FFX
open PySem PySem.HandSPX
section
variable {M : Model} {A : Around} {E : Value → Shared → Prop} {h : Heap} {g : Array GenState} {d : Drawn} {t : Nat} {os : OsState}
variable {nm q : Str} {C N : Addr} {bs bm bmB : List Value} {hdct : Bool} {sn : List Str} {sub : List Value} {ab : Bool} {col : Option Bool} {dd : Option Addr} {k0 k1 k2 k3 k5 : Option Value} {B newId initId : String}
theorem check_call_kw {rest : List Value} {x : Str} {v : Value} {Q : Unit → Shared → Prop} (hC : h.get? C = some (excClassObj nm q C N bs bm hdct sn sub ab col dd k0 k1 k2 k3 k5 newId))
    (hq : Q () ⟨h, g, d, t, os⟩) : wpAny M A (checkBuiltinCall "type.__call__" ⟨.ref C :: rest, [(x, v)]⟩) Q E ⟨h, g, d, t, os⟩ := by
  have f3 := tc_sub
  have hT : (⟨h, g, d, t, os⟩ : Shared).TypeIs (.ref C) "type" := ⟨_, hC, rfl⟩
  simp only [checkBuiltinCall, tc_kind, tc_split]
  repeat (any_goals (first | assumption | with_reducible refine wpAny_loadPart_at hC ?_ | with_reducible refine wpAny_onRaise ?_ | with_reducible refine wpAny_map ?_ | wp_step))
theorem check_new_kw (F : ExcBaseFacts B newId initId bmB) (hT : ∀ X : String, bm.contains (.type X) = bmB.contains (.type X)) {rest : List Value} {x : Str} {v : Value} {Q : Unit → Shared → Prop}
    (hC : h.get? C = some (excClassObj nm q C N bs bm hdct sn sub ab col dd k0 k1 k2 k3 k5 newId)) (hq : Q () ⟨h, g, d, t, os⟩) : wpAny M A (checkBuiltinCall newId ⟨.ref C :: rest, [(x, v)]⟩) Q E ⟨h, g, d, t, os⟩ := by
  have hcont : (Value.ref C :: bm).contains (.type B) = true := by rw [List.contains_cons, hT, F.hasB, Bool.or_true]
  have hstar := F.noStar
  simp only [checkBuiltinCall, F.newKind, F.newSplit, F.newRow]
  repeat (first | refine wpAny_loadPart_at hC ?_ | (refine wpAny_isSubtype_exc hC ?_; rw [hcont]) | refine wpAny_staticBase_exc hC ?_ | refine wpAny_madeBy_exc hC ?_ | simp only [bne_self_eq_false, Bool.false_eq_true, if_false] | wp_step)
  exact hq
end
section
variable {prog : Program} {w : World} {A : Around} {E : Value → Shared → Prop} {R : Result → Shared → Prop} {h : Heap} {g : Array GenState} {d : Drawn} {t : Nat} {os : OsState}
variable {nm q : Str} {C N : Addr} {bs bm bmB : List Value} {hdct : Bool} {sn : List Str} {sub : List Value} {ab : Bool} {col : Option Bool} {dd : Option Addr} {k0 k1 k2 k3 k5 : Option Value} {B newId initId : String}
theorem new_kw (F : ExcBaseFacts B newId initId bmB) (hT : ∀ X : String, bm.contains (.type X) = bmB.contains (.type X)) {rest : List Value} {x : Str} {v : Value}
    (hC : h.get? C = some (excClassObj nm q C N bs bm hdct sn sub ab col dd k0 k1 k2 k3 k5 newId))
    (hq : R (.ok (.ret (.ref (h.objs.size + 1)))) ⟨(h.push { cls := .type "tuple", data := .seq rest.toArray }).push
      { cls := .ref C, data := .fields #[.ref h.objs.size, .none, .none, .none, .bool false, .none] }, g, d, t, os⟩) (hrest : rest.length ≤ sizeLine) :
    codeAny (model prog w) A (.builtin newId ⟨.ref C :: rest, [(x, v)]⟩) R ⟨h, g, d, t, os⟩ := by
  have hends := F.ends
  have hcB : (Value.ref C :: bm).contains (.type B) = true := by rw [List.contains_cons, hT, F.hasB, Bool.or_true]
  have hcA : (Value.ref C :: bm).contains (.type "AttributeError") = false := by rw [List.contains_cons, hT, F.noAttr]; rfl
  have hcN : (Value.ref C :: bm).contains (.type "NameError") = false := by rw [List.contains_cons, hT, F.noName]; rfl
  refine codeAny_builtinAt F.entry ?_
  unfold Builtin.«BaseException.__new__»
  refine wpAt_bind ?_
  show wpAt _ _ _ (stack >>= _) _ _ _
  refine wpAt_bind (wpAt_stack fun p below => wpAt_of_wpAny ?_)
  wp_walk
  refine wpAt_of_wpAny ?_
  rw [F.owner]
  repeat (first | with_reducible refine wpAny_madeHere_exc F.canon hC ?_ | with_reducible refine wpAny_loadPart_at hC ?_ | (with_reducible refine wpAny_isSubtype_exc hC ?_; first | rw [hcB] | rw [hcA] | rw [hcN]) | wp_step)
  show R _ _
  rw [Heap.size_push]
  exact hq
theorem type_call_kw (F : ExcBaseFacts B newId initId bmB) (hT : ∀ X : String, bm.contains (.type X) = bmB.contains (.type X)) {rest : List Value} {x : Str} {v : Value} {fI : Addr} {Q : Fin → Shared → Prop}
    (hC : h.get? C = some (excClassObj nm q C N bs bm hdct sn sub ab col dd k0 k1 k2 k3 k5 newId))
    (hi : W.Looks (model prog w) h (typeLookup (.ref C) "__init__") (some (.ref fI))) (hb : ∀ self, W.Looks (model prog w) h (bindSpecial (.ref fI) self) (.ref fI, [self])) (hrest : rest.length ≤ sizeLine)
    (hq : codeAny (model prog w) A (.call (.ref fI) ⟨.ref (h.objs.size + 1) :: rest, [(x, v)]⟩)
      (fun r s' => match r with | .ok (.ret v) => v = .none ∧ Q (.done (.ret (.ref (h.objs.size + 1)))) s' | .ok _ => False | .error e => E e s')
      ⟨(h.push (W.kdv_tup rest)).push (excO C h.objs.size), g, d, t, os⟩) :
    wpAny (model prog w) A (Builtin.«type.__call__» ⟨.ref C :: rest, [(x, v)]⟩) Q E ⟨h, g, d, t, os⟩ := by
  repeat (first | with_reducible refine wpAny_loadPart_at hC ?_ | with_reducible refine wpAny_madeBy_exc hC ?_ | wp_step)
  refine codeAny_call_builtin_code (Code.quiet_builtin _ F.quiet) (check_new_kw F hT hC ?_)
  refine new_kw F hT hC ?_ hrest
  show wpAny _ _ _ _ _ _
  have k : ∀ b o, h.get? b = some o → ((h.push (W.kdv_tup rest)).push (excO C h.objs.size)).get? b = some o := fun b o e => Heap.get?_push_of_some _ (Heap.get?_push_of_some _ e)
  have hC₁ := k _ _ hC
  have hget : ((h.push (W.kdv_tup rest)).push (excO C h.objs.size)).get? (h.objs.size + 1) = some (excO C h.objs.size) := by heap_get
  have hcC : (Value.ref C :: bm).contains (.ref C) = true := by simp
  have i1 := hi.keeps k
  have b1 := (hb (.ref (h.objs.size + 1))).keeps k
  unfold isInstance
  repeat (first | with_reducible refine wpAny_loadPart_at hget ?_ | (with_reducible refine wpAny_isSubtype_exc hC₁ ?_; rw [hcC]) | wp_step)
  show wpAny _ _ (typeLookup (.ref C) _) _ _ _
  refine i1.at ?_
  refine wpAny_holding (wpAny_bind (b1.at ?_))
  refine wpAny_bind (wpAny_call (codeAny_mono hq fun r s' z => ?_))
  rcases r with e | (v | _ | _ | _) <;> first | exact z | exact z.elim | skip
  obtain ⟨rfl, z⟩ := z
  first
    | exact wpAny_pure (wpAny_pure z)
    | (wp_walk; exact z)
theorem call_kw (F : ExcBaseFacts B newId initId bmB) (hT : ∀ X : String, bm.contains (.type X) = bmB.contains (.type X)) {rest : List Value} {x : Str} {v : Value} {fI : Addr}
    (hC : h.get? C = some (excClassObj nm q C N bs bm hdct sn sub ab col dd k0 k1 k2 k3 k5 newId))
    (hi : W.Looks (model prog w) h (typeLookup (.ref C) "__init__") (some (.ref fI))) (hb : ∀ self, W.Looks (model prog w) h (bindSpecial (.ref fI) self) (.ref fI, [self])) (hrest : rest.length ≤ sizeLine)
    (hq : codeAny (model prog w) (A.under (.builtin "type.__call__" ⟨.ref C :: rest, [(x, v)]⟩)) (.call (.ref fI) ⟨.ref (h.objs.size + 1) :: rest, [(x, v)]⟩) (W.InitBack (h.objs.size + 1) R)
      ⟨(h.push (W.kdv_tup rest)).push (excO C h.objs.size), g, d, t, os⟩) :
    codeAny (model prog w) A (.call (.ref C) ⟨rest, [(x, v)]⟩) R ⟨h, g, d, t, os⟩ := by
  have f1 := tc_lookup
  have f2 := tc_bind (.ref C)
  have hTy : (⟨h, g, d, t, os⟩ : Shared).TypeIs (.ref C) "type" := ⟨_, hC, rfl⟩
  refine codeAny_of_tree ?_
  show wpAny _ _ (callAny (.ref C) _) _ _ _
  repeat (any_goals (first | assumption | with_reducible refine wpAny_loadPart_at hC ?_ | wp_step))
  refine ⟨rfl, ?_⟩
  refine codeAny_call_builtin_at (Code.quiet_builtin _ (by decide +kernel)) entry_typeCall (check_call_kw hC (type_call_kw F hT hC hi hb hrest ?_))
  refine codeAny_mono hq fun r s' z => ?_
  rcases r with e | (v | _ | _ | _) <;> exact z
end
end FFX
end PySem

set_option Elab.async false
set_option linter.all false
set_option autoImplicit false
set_option maxRecDepth 100000
/-! FSc: an own exception as a value. -/
namespace FF
open PySem PySem.Spec PyProof.Rows L2
section
variable {X : Cx} {pins : List (Addr × Obj)} {σ : L2.St} {H : Hp} {s : Shared}
theorem xo_ok {P : Program} {w : World} {H : Hp} {h : Heap} {a C dd : Addr} {ob : Obj} {fv : Array Value} (h1 : h.get? a = some ob) (h2 : ob.cls = .ref C) (h3 : ob.dict = some dd) (h4 : ob.data = .fields fv) : ObjOk P w H h a (XO C dd a) :=
  ⟨⟨ob, fv, h1, h2, h3, h4⟩, ⟨ob, h1⟩, fun _ _ ⟨o, v, q, r⟩ k => ⟨o, v, k o q, r⟩⟩
theorem run_mkv {CX : CXT} {C fI : Addr} {k : Nat} {fd : FuncData} {ps : List Str} {sp : Sp} {us zs : List Value} {kw : List (Str × Value)} {vs : List V} {H1 : Hp} {s1 : Shared} {Q : VK} (T : OexC X.K C) (iC : PySem.W.findIn X.K (.ref C) "__init__" = some (some (.ref fI))) (tI : PySem.W.typeIn X.K (.ref fI) = some (.type "function"))
    (F1 : FnOk X.prog X.w X.K X.mg X.base CX k fI fd ps sp) (hr : Room (k + 1) X.A) (hx : Passes CX X (fun _ _ _ => False)) (I1 : Inv X pins σ H1 s1)
    (hb : ∀ (s : Shared) (u : Value), X.K.In s.heap → BindsTo s fd ⟨u :: us, kw⟩ (ps.zip (u :: zs))) (r : Vals vs zs) (hl : us.length ≤ 1000) (hk : kw = [] ∨ ∃ x v, kw = [(x, v)])
    (q : ∀ a, H1 a = none → sp (.ref a :: vs) (upd H1 a (exo a C none)) (fun v H2 => v = .non ∧ ∃ (d : Addr) (fs : List (Str × V)), H2 a = some (exo a C (some d)) ∧ H2 d = some (exd d fs) ∧ Q (.ref a) (upd (upd H2 d (.xd fs)) a (XO C d a))) (fun _ _ _ => False)) :
    wpAny (model X.prog X.w) X.A (call (.ref C) us kw) (EP X pins σ Q) X.xe s1 := by
  obtain ⟨nm, q', N, bs, bm, sn, sub, ab, col, dd, k0, k1, k2, k3, k5, hC, hbm⟩ := T.cls
  obtain ⟨hp, g, dr, tk, os⟩ := s1
  have hsz : hp.objs.size ≤ hp.objs.size + 1 := Nat.le_succ _
  have hn : H1 (hp.objs.size + 1) = none := I1.hok.fresh hsz
  have hq := q (hp.objs.size + 1) hn
  have kk : ∀ b o, hp.get? b = some o → ((hp.push (PySem.W.kdv_tup us)).push (PySem.HandSPX.excO C hp.objs.size)).get? b = some o := fun b o e => Heap.get?_push_of_some _ (Heap.get?_push_of_some _ e)
  have hget : ((hp.push (PySem.W.kdv_tup us)).push (PySem.HandSPX.excO C hp.objs.size)).get? (hp.objs.size + 1) = some (PySem.HandSPX.excO C hp.objs.size) := by heap_get
  have I2 : Inv X pins σ (upd H1 (hp.objs.size + 1) (exo (hp.objs.size + 1) C none)) ⟨(hp.push (PySem.W.kdv_tup us)).push (PySem.HandSPX.excO C hp.objs.size), g, dr, tk, os⟩ :=
    I1.laid (t' := tk) (a := hp.objs.size + 1) (o := exo (hp.objs.size + 1) C none) (h' := (hp.push (PySem.W.kdv_tup us)).push (PySem.HandSPX.excO C hp.objs.size)) kk hsz (exo_ok hget)
  have r2 : Vals (V.ref (hp.objs.size + 1) :: vs) (Value.ref (hp.objs.size + 1) :: zs) := .cons rfl r
  have hus : us.length ≤ sizeLine := by
    rw [sizeLine_eq]
    omega
  have fin : ∀ (r : Result) (s' : Shared), CR CX X.stack X.prog X.w (upd H1 (hp.objs.size + 1) (exo (hp.objs.size + 1) C none)) ⟨(hp.push (PySem.W.kdv_tup us)).push (PySem.HandSPX.excO C hp.objs.size), g, dr, tk, os⟩ (fun v H2 => v = .non ∧ ∃ (d : Addr) (fs : List (Str × V)), H2 (hp.objs.size + 1) = some (exo (hp.objs.size + 1) C (some d)) ∧ H2 d = some (exd d fs) ∧ Q (.ref (hp.objs.size + 1)) (upd (upd H2 d (.xd fs)) (hp.objs.size + 1) (XO C d (hp.objs.size + 1)))) (fun _ _ _ => False) r s' →
      PySem.W.InitBack (hp.objs.size + 1) (fun r s' => match r with | .error e => X.xe e s' | .ok (.ret v) => EP X pins σ Q v s' | .ok _ => False) r s' := by
    intro r s' hq'
    cases r with
    | error er => exact hx pins σ _ _ er s' I2 hq'
    | ok fl =>
      cases fl with
      | ret u =>
        obtain ⟨v, H2, os2, bare2, un2, hok2, rv, ev, d, fs, ea, ed, q2⟩ := hq'
        subst ev
        obtain ⟨h2, g2, d2, t2, os'⟩ := s'
        have J : Inv X pins σ H2 ⟨h2, g2, d2, t2, os'⟩ := I2.call' (ch := []) os2 un2 hok2 bare2 (fun b z => absurd z (by simp))
        obtain ⟨t0, hoe⟩ := exo_at hok2 ea
        obtain ⟨mA, hns, rel⟩ := exd_at hok2 ed
        have hns' := hns
        obtain ⟨od, es, ep, e1, e2⟩ := hns
        have hda : d ≠ hp.objs.size + 1 := fun z => by
          rw [z, hoe] at e1
          have z2 := Option.some.inj e1
          subst z2
          cases e2.1
        have J2 := J.write (t' := t2) (h' := h2) (x := d) (e := d) (o := .xd fs) (by rw [ed]; exact True.intro) (.inl rfl) (fun _ _ _ z => z) ⟨_, e1⟩ ⟨mA, hns', rel⟩
        have ea2 : upd H2 d (.xd fs) (hp.objs.size + 1) = some (exo (hp.objs.size + 1) C (some d)) := by rw [upd_ne (Ne.symm hda)]; exact ea
        have J3 := J2.write (t' := t2) (h' := h2) (x := hp.objs.size + 1) (e := hp.objs.size + 1) (o := XO C d (hp.objs.size + 1)) (by rw [ea2]; exact True.intro) (.inl rfl) (fun _ _ _ z => z) ⟨_, hoe⟩ (xo_ok hoe rfl rfl rfl)
        exact ⟨rv, .ref (hp.objs.size + 1), _, J3, rfl, q2⟩
      | next => exact False.elim hq'
      | brk => exact False.elim hq'
      | cont => exact False.elim hq'
  have run := F1.run _ X.stack _ _ ⟨Value.ref (hp.objs.size + 1) :: us, kw⟩ (Value.ref (hp.objs.size + 1) :: zs) _ _ (fun _ _ _ => False) (hr.make C us kw) (I2.env0.make C us kw) (hb _ (Value.ref (hp.objs.size + 1)) I2.kIn) r2 hq
  rcases hk with rfl | ⟨x, v, rfl⟩
  · exact wpAny_call (PySem.HandSPX.call_own F.excBase_ValueError (fun Y => PySem.HandSPX.refsVE_contains Y bm hbm) (I1.kIn _ _ hC) (PySem.W.looks_findIn I1.kIn iC) (fun self => PySem.W.bind_fn I1.kIn self tI) hus
      (codeAny_mono run fun r s' hq' => fin r s' hq'))
  · exact wpAny_call (PySem.FFX.call_kw F.excBase_ValueError (fun Y => PySem.HandSPX.refsVE_contains Y bm hbm) (I1.kIn _ _ hC) (PySem.W.looks_findIn I1.kIn iC) (fun self => PySem.W.bind_fn I1.kIn self tI) hus
      (codeAny_mono run fun r s' hq' => fin r s' hq'))
end
section
variable {Ω : Wd} {W : WX} {G H : Hp} {σ : L2.St} {F : List Addr} {Θ : Tab} {n : Nat} {os : Scope} {X : Cx}
/-- the heap behind C(v) -/
theorem fin_heap2 {H1 : Hp} {a dx C : Addr} {v : V} (hne : dx ≠ a) :
    upd (upd (upd (upd (upd H1 a (exo a C none)) dx (exd dx [("value", v)])) a (exo a C (some dx))) dx (.xd [("value", v)])) a (XO C dx a) = upd (upd H1 dx (.xd [("value", v)])) a (XO C dx a) := by
  funext b
  by_cases hb : b = a
  · subst hb; rw [upd_same, upd_same]
  · rw [upd_ne hb, upd_ne hb]
    by_cases hb2 : b = dx
    · subst hb2; rw [upd_same, upd_same]
    · rw [upd_ne hb2, upd_ne hb2, upd_ne hb, upd_ne hb2, upd_ne hb]
/-- what is wished of the value -/
def mkQ (C : Addr) (y : V) (H1 : Hp) (Q : VK) : Prop := ∀ a dx, H1 a = none → H1 dx = none → dx ≠ a → Q (.ref a) (upd (upd H1 dx (.xd [("value", y)])) a (XO C dx a))
theorem run_exn (g : GX Ω n W os X) (T : TO Ω Θ n) {c : Nat} (hlt : c < Ω.nc) {pins : List (Addr × Obj)} {us : List Value} {z : Value} {kw : List (Str × Value)} {y : V} {H1 : Hp} {s1 : Shared} {Q : VK} (I1 : Inv X pins σ H1 s1) (r : RelV y z)
    (hb : ∀ (s : Shared) (u : Value), Ω.K.In s.heap → BindsTo s Ω.fid ⟨u :: us, kw⟩ [("self", u), ("value", z)]) (hl : us.length ≤ 1000) (hk : kw = [] ∨ ∃ x v, kw = [(x, v)]) (q : mkQ (Ω.ca c) y H1 Q) :
    wpAny (model X.prog X.w) X.A (call (.ref (Ω.ca c)) us kw) (EP X pins σ Q) X.xe s1 := by
  have hpos : 0 < Ω.nc := Nat.lt_of_le_of_lt (Nat.zero_le _) hlt
  obtain ⟨ox, sup, ini⟩ := T.rai c hlt
  have k := T.exk c hlt
  have FI := T.fnI hpos
  have tI := T.tyI hpos
  have ox' := ox
  rw [← g.w.P, ← g.w.w, ← g.w.K, ← g.w.mg, ← g.w.base] at FI
  rw [← g.w.K] at tI ini ox'
  refine run_mkv (ps := ["self", "value"]) (zs := [z]) (vs := [y]) ox' ini tI FI (g.room.mono (by omega)) (passes_call g.tk (fun _ _ _ _ h => h.elim)) I1 (fun s u hK => hb s u (by rw [← g.w.K]; exact hK)) (.cons r .nil) hl hk fun a ha => ?_
  refine ⟨a, Ω.ca c, y, rfl, ox, sup, k.no, upd_same, fun dx hdx hne => ⟨rfl, dx, _, upd_same, by rw [upd_ne hne, upd_same], ?_⟩⟩
  rw [fin_heap2 hne]
  exact q a dx ha (by rw [upd_ne hne] at hdx; exact hdx) hne
theorem exn_put {c : Nat} {y : V} {d : D} {env : FF.Env} {Fb : List Addr} {Q : VK} (st : St Ω G H σ env F) (hlt : c < Ω.nc) (q : Dp Ω.K G y d) (sub : ∀ p ∈ F, p ∈ Fb) (o : OutV Ω W G H σ Fb (.ok (.tr (.exc c d), env)) Q) : mkQ (Ω.ca c) y H Q := by
  intro a dx ha hdx hne
  have sa : Step G H F (upd G dx (.xd [("value", y)])) (upd H dx (.xd [("value", y)])) F := by
    have z := (Step.alloc (F := F) (o := .xd [("value", y)]) st.same hdx false)
    simpa using z
  have st3 : St Ω (upd G dx (.xd [("value", y)])) (upd H dx (.xd [("value", y)])) σ env F := ⟨same_upd2 st.same, slR_shared st.same hdx st.sl, st.nd⟩
  have ha2 : upd H dx (.xd [("value", y)]) a = none := by rw [upd_ne (Ne.symm hne)]; exact ha
  have sb := (Step.alloc (F := F) (o := XO (Ω.ca c) dx a) st3.same ha2 false)
  have sb : Step (upd G dx (.xd [("value", y)])) (upd H dx (.xd [("value", y)])) F (upd (upd G dx (.xd [("value", y)])) a (XO (Ω.ca c) dx a)) (upd (upd H dx (.xd [("value", y)])) a (XO (Ω.ca c) dx a)) F := by simpa using sb
  have st4 : St Ω (upd (upd G dx (.xd [("value", y)])) a (XO (Ω.ca c) dx a)) (upd (upd H dx (.xd [("value", y)])) a (XO (Ω.ca c) dx a)) σ env F := ⟨same_upd2 st3.same, slR_shared st3.same ha2 st3.sl, st3.nd⟩
  refine o (.ref a) _ _ F [] (by simpa using ((sa.trans sb).wide sub)) st4 (.exc hlt upd_same (by rw [upd_ne hne]; exact upd_same) (dp_mono sb.g (dp_mono sa.g q))) (by simpa using st4.nd)
theorem exn_out (T : TO Ω Θ n) {c : Nat} {y : V} {vy : Val} {env1 : FF.Env} {Fx : List Addr} {Q : VK} (st : St Ω G H σ env1 F) (vr : VR Ω G H σ env1.length y vy Fx) (nd : (F ++ Fx).Nodup) (o : OutV Ω W G H σ (F ++ Fx) (exnV Θ c [vy] env1) Q) : c < Ω.nc ∧ mkQ (Ω.ca c) y H Q := by
  unfold exnV at o
  split at o
  · rename_i hc
    have hlt : c < Ω.nc := by rw [T.ncl]; exact hc
    simp only at o
    split at o
    · rename_i d env2 e1
      obtain ⟨G2, F2, s2, st2, r2, l2⟩ := takeF_ok st vr nd e1
      cases r2 with
      | sh q => exact ⟨hlt, exn_put st2 hlt q (fun _ h => h) (OutV.after s2 o)⟩
    · exact o.elim
  · exact o.elim
theorem sE_exn1 (g : GX Ω n W os X) (T : TO Ω Θ n) {c : Nat} {x : Str} {v : Expr} {p pos : Pos} {f : FF.Env → R (Val × FF.Env)} (hc : Θ.cls[c]? = some x) (hg : glOk X.env.scope x = true) (hv : PE X v (tF Ω W f)) (hp : plainE v = true) :
    PE X (.Call (.Name x p) [v] [] pos) (tF Ω W fun env => (f env).bind fun q => exnV Θ c [q.1] q.2) := by
  obtain ⟨h1, h2, _⟩ := glOk_of hg
  have hlt : c < Ω.nc := by rw [T.ncl]; exact (List.getElem?_eq_some_iff.mp hc).1
  have hpos : 0 < Ω.nc := Nat.lt_of_le_of_lt (Nat.zero_le _) hlt
  constructor
  intro pins s σ H Q I h
  refine wpAny_Call_Name_kw (ld_glob I h1 (by rw [g.w.mg]; exact T.cnm c x hc) ?_ h2)
  have pa : PA X [v] (tCons (tF Ω W f) tNil) := pa_consP hv pa_nil hp
  refine PySem.W.callWith_K (h₀ := X.base) I.ok.mod.kin (by rw [g.w.K]; exact (T.rai c hlt).1.kC) (thn (pa.run pos pins s σ H (fun vs H1 => ∃ y, vs = [y] ∧ mkQ (Ω.ca c) y H1 Q) I (one (g := fun q env => exnV Θ c [q] env) h fun y vy G1 H1 env1 F1 Fx st vr nd o => ⟨y, rfl, (exn_out T st vr nd o).2⟩)) fun us s1 hq => ?_) (starEach_plain hp _ _) rfl
  obtain ⟨vs, H1, I1, r1, y, rfl, q⟩ := hq
  refine ⟨I1.kIn, ?_⟩
  obtain ⟨u, rfl, ry⟩ := vals1 r1
  exact run_exn g T hlt I1 ry (fun s' w hK => T.bdI hpos s' [w, u] hK rfl) (by show 1 ≤ 1000; omega) (.inl rfl) q
theorem sE_exn0 (g : GX Ω n W os X) (T : TO Ω Θ n) {c : Nat} {x : Str} {p pos : Pos} (hc : Θ.cls[c]? = some x) (hg : glOk X.env.scope x = true) :
    PE X (.Call (.Name x p) [] [] pos) (tF Ω W fun env => exnV Θ c [] env) := by
  obtain ⟨h1, h2, _⟩ := glOk_of hg
  have hlt : c < Ω.nc := by rw [T.ncl]; exact (List.getElem?_eq_some_iff.mp hc).1
  have hpos : 0 < Ω.nc := Nat.lt_of_le_of_lt (Nat.zero_le _) hlt
  constructor
  intro pins s σ H Q I ⟨G, env, F, st, o⟩
  refine wpAny_Call_Name_kw (ld_glob I h1 (by rw [g.w.mg]; exact T.cnm c x hc) ?_ h2)
  refine PySem.W.callWith_K0 I.kIn (by rw [g.w.K]; exact (T.rai c hlt).1.kC) ?_
  have o2 : OutV Ω W G H σ F (.ok (.tr (.exc c .none), env)) Q := by
    have hc' : c < Θ.cls.length := by rw [← T.ncl]; exact hlt
    simp only [exnV, if_pos hc'] at o
    exact o
  exact run_exn (us := []) g T hlt I (y := .non) (z := .none) rfl (fun s' w hK => T.bdI0 hpos s' [w] hK rfl) (by show 0 ≤ 1000; omega) (.inl rfl) (exn_put st hlt .non (fun _ h => h) o2)
theorem sE_exk (g : GX Ω n W os X) (T : TO Ω Θ n) {c : Nat} {x : Str} {v : Expr} {p pos kp : Pos} {f : FF.Env → R (Val × FF.Env)} (hc : Θ.cls[c]? = some x) (hg : glOk X.env.scope x = true) (hv : PE X v (tF Ω W f)) :
    PE X (.Call (.Name x p) [] [⟨some "value", v, kp⟩] pos) (tF Ω W fun env => (f env).bind fun q => exnV Θ c [q.1] q.2) := by
  obtain ⟨h1, h2, _⟩ := glOk_of hg
  have hlt : c < Ω.nc := by rw [T.ncl]; exact (List.getElem?_eq_some_iff.mp hc).1
  have hpos : 0 < Ω.nc := Nat.lt_of_le_of_lt (Nat.zero_le _) hlt
  constructor
  intro pins s σ H Q I h
  refine wpAny_Call_Name_kw (ld_glob I h1 (by rw [g.w.mg]; exact T.cnm c x hc) ?_ h2)
  have pk : PK X [⟨some "value", v, kp⟩] (tCons (tF Ω W f) tNil) := pk_cons hv pk_nil
  refine PySem.W.callWith_KW0 (h₀ := X.base) I.ok.mod.kin (by rw [g.w.K]; exact (T.rai c hlt).1.kC) rfl ?_ rfl
  refine thn (pk.run pos pins s σ H (fun vs H1 => ∃ y, vs = [y] ∧ mkQ (Ω.ca c) y H1 Q) I (one (g := fun q env => exnV Θ c [q] env) h fun y vy G1 H1 env1 F1 Fx st vr nd o => ⟨y, rfl, (exn_out T st vr nd o).2⟩)) fun us s1 hq => ?_
  obtain ⟨vs, H1, I1, r1, y, rfl, q⟩ := hq
  refine ⟨I1.kIn, ?_⟩
  obtain ⟨u, rfl, ry⟩ := vals1 r1
  exact run_exn (us := []) (kw := [("value", u)]) g T hlt I1 ry (fun s' w hK => T.bdIk hpos s' w u hK) (by show 0 ≤ 1000; omega) (.inr ⟨_, _, rfl⟩) q
/-- what is never reached -/
theorem sE_oops {e : Expr} : PE X e (tF Ω W fun _ => .bad) := ⟨fun _ _ _ _ _ _ ⟨_, _, _, _, o⟩ => o.elim⟩
theorem PET.bad (e : Expr) : PET Ω W X e fun _ => .bad := ⟨sE_oops, ⟨fun _ _ _ _ _ _ ⟨_, _, _, _, o⟩ => o.elim⟩⟩
/-- a written dict of one text and one number -/
theorem sE_dc1 {pos p1 p2 : Pos} {a : Str} {i : Int} {j1 j2 : _} : PE X (.Dict [some (.Constant (.str a) j1 p1)] [.Constant (.int i) j2 p2] pos) (tF Ω W fun env => .ok (.tr (.sh (.dict [(.str a, .int i)])), env)) := by
  refine PE.imp (pe_disp (pps_cons pe_str pe_int pps_nil) rfl rfl (by simp) (by show 1 ≤ 15; omega)) fun σ H Q ⟨G, env, F, st, o⟩ p hp => ?_
  refine ⟨upd_same, [(.inr a, .int i)], rfl, by show 1 ≤ 15; omega, ?_⟩
  have e : upd (upd H p (.dK [])) p (.dK (mergeK [] [(.inr a, .int i)])) = upd H p (.dK [(.inr a, .int i)]) := by
    funext b
    by_cases hb : b = p
    · subst hb; rw [upd_same, upd_same]; rfl
    · rw [upd_ne hb, upd_ne hb, upd_ne hb]
  rw [e]
  refine o (.ref p) (upd G p (.dK [(.inr a, .int i)])) (upd H p (.dK [(.inr a, .int i)])) F [] ?_ ⟨same_upd2 st.same, slR_shared st.same hp st.sl, st.nd⟩ (.sh (.dc1 (.inl upd_same))) (by simpa using st.nd)
  have s := (Step.alloc (F := F) (o := .dK [(.inr a, .int i)]) st.same hp false)
  simpa using s
end
end FF

set_option Elab.async false
set_option linter.all false
set_option autoImplicit false
set_option maxRecDepth 100000
/-! FQ: a checked expression is what its IR says. -/
namespace FF
open PySem PySem.Spec PyProof.Rows L2
section
variable {Ω : Wd} {W : WX} {G H : Hp} {σ : L2.St} {F : List Addr} {Θ : Tab} {n : Nat} {os : Scope} {X : Cx}

theorem PET.congr {e : Expr} {f f' : FF.Env → R (Val × FF.Env)} (he : ∀ env, f env = f' env) (h : PET Ω W X e f) : PET Ω W X e f' := by
  have : f = f' := funext he
  rw [← this]; exact h
theorem PI.congr {tg e : Expr} {f f' : FF.Env → R (List Tr × FF.Env)} (he : ∀ env, f env = f' env) (h : PI X tg e (tI Ω W f)) : PI X tg e (tI Ω W f') := by
  have : f = f' := funext he
  rw [← this]; exact h
theorem bind_congr {α β : Type} {x : R α} {f g : α → R β} (h : ∀ a, f a = g a) : x.bind f = x.bind g := by
  have : f = g := funext h
  rw [this]
theorem noSetIt {e : Expr} (h : isSetE e = false) (env : PySem.Env) : ∀ x, foldedSetIterable e env x = pure x := by
  intro x
  cases e with
  | Set => cases h
  | _ => rfl
theorem abase_name {e : Expr} {m : Str} {env : PySem.Env} (h : (match e with | .Name .. => true | _ => false) = true) : attributeBase e m env (eval e env) = eval e env := by
  cases e with
  | Name => rfl
  | _ => cases h
theorem blk_gx (g : GX Ω n W os X) {scope : Scope} {own : List (Str × Nat)} (hb : blkC X.N X.env.scope scope own = true) (s : Shared) (H : Hp) (C : Addr) (cl : List (Str × Addr)) (fp : List Addr) :
    GX Ω n noW scope (X.blk s H scope (compEnvC scope cl C X.env) fp) where
  w := ⟨g.w.P, g.w.w, g.w.K, g.w.mg, g.w.base⟩
  calm := g.calm
  room := g.room
  gd := g.gd
  tk := fun u s' h => by
    obtain ⟨a, B, sI, pins, σ, H, cls, d, e, I, nb, up, sky, na, os, ag, w⟩ := h
    exact w
  nd := g.nd
  st := fun x h1 h2 => by
    show (scope.names.lookup x == some .cell) = true
    rcases loc_of h2 with h | h
    · unfold lclK at h1
      rw [h] at h1
      cases h1
    · rw [h]; rfl
  kind := (blkOk_by hb).kind
  ps := PassesOwn.never
theorem blk_scope (scope : Scope) (cl : List (Str × Addr)) (C : Addr) (env : PySem.Env) : (compEnvC scope cl C env).scope = relS scope env.scope := rfl
theorem chkEs_all {sc : Scope} {N : List Str} : ∀ {es : Es} {vs : List Expr}, chkEs Θ sc os N es vs = true → vs.all plainE = true ∧ vs.length = esLen es
  | .nil, vs, h => by
    cases vs with
    | nil => exact ⟨rfl, rfl⟩
    | cons _ _ => simp [chkEs] at h
  | .cons e es, vs, h => by
    cases vs with
    | nil => simp [chkEs] at h
    | cons v vs =>
      simp only [chkEs, Bool.and_eq_true] at h
      obtain ⟨a, b⟩ := chkEs_all h.2
      exact ⟨by simp [h.1.1, a], by simp [esLen, b]⟩
theorem chkKs_all {sc : Scope} {N : List Str} : ∀ {es : Es} {ks : List Keyword}, chkKs Θ sc os N es ks = true → ks.map (·.arg) = (ks.filterMap (·.arg)).map some ∧ (ks.filterMap (·.arg)).length = esLen es
  | .nil, ks, h => by
    cases ks with
    | nil => exact ⟨rfl, rfl⟩
    | cons _ _ => simp [chkKs] at h
  | .cons e es, ks, h => by
    cases ks with
    | nil => simp [chkKs] at h
    | cons k ks =>
      simp only [chkKs, Bool.and_eq_true] at h
      obtain ⟨a, b⟩ := chkKs_all h.2
      obtain ⟨x, hx⟩ := Option.isSome_iff_exists.mp h.1.1
      exact ⟨by simp [hx, a], by simp [hx, esLen, b]⟩

def andF (f : FF.Env → R (Val × FF.Env)) (fr : FF.Env → R (Bool × FF.Env)) (stop : Bool) (env : FF.Env) : R (Bool × FF.Env) := (asBool (f env)).bind fun p => if p.1 = stop then .ok (stop, p.2) else fr p.2
theorem PBT.congr {op : BoolOp} {vs : List Expr} {f f' : FF.Env → R (Bool × FF.Env)} (he : ∀ env, f env = f' env) (h : PBT Ω W X op vs f) : PBT Ω W X op vs f' := by
  have : f = f' := funext he
  rw [← this]; exact h
theorem PBT.pet {op : BoolOp} {vs : List Expr} {pos : Pos} {f : FF.Env → R (Bool × FF.Env)} (h : PBT Ω W X op vs f) : PET Ω W X (.BoolOp op vs pos) (fun env => (f env).bind fun p => .ok (.tr (.sh (.bool p.1)), p.2)) := by
  refine ⟨h.pe pos, PT.imp (h.pw pos).pt fun σ H Q hh => tB1.congr (fun env => ?_) hh⟩
  cases f env <;> rfl

mutual
theorem soundE (T : TO Ω Θ n) : ∀ (i : E) {W : WX} {os : Scope} {X : Cx} (g : GX Ω n W os X) (e : Expr), chkE Θ X.env.scope os X.N i e = true → PET Ω W X e (evE Θ (callF Θ n) i)
  | .var k, W, os, X, g, e, h => by
    unfold chkE at h
    split at h
    · exact PET.congr (fun env => by simp only [evE] <;> rfl) (PET.of (sE_var g h) rfl)
    · cases h
  | .mv k, W, os, X, g, e, h => by
    unfold chkE at h
    split at h
    · exact PET.congr (fun env => by simp only [evE] <;> rfl) (PET.of (sE_mv g h) rfl)
    · cases h
  | .int k, W, os, X, g, e, h => by
    unfold chkE at h
    split at h
    · cases of_decide_eq_true h
      exact PET.congr (fun env => by simp only [evE] <;> rfl) (PET.of (sE_const pe_int fun G => .int _) rfl)
    · cases h
  | .bl k, W, os, X, g, e, h => by
    unfold chkE at h
    split at h
    · cases of_decide_eq_true h
      exact PET.congr (fun env => by simp only [evE] <;> rfl) (PET.of (sE_const pe_bl fun G => .bl _) rfl)
    · cases h
  | .non, W, os, X, g, e, h => by
    unfold chkE at h
    split at h
    · exact PET.congr (fun env => by simp only [evE] <;> rfl) (PET.of (sE_const pe_non fun G => .non) rfl)
    · cases h
  | .str k, W, os, X, g, e, h => by
    unfold chkE at h
    split at h
    · cases of_decide_eq_true h
      exact PET.congr (fun env => by simp only [evE] <;> rfl) (PET.of (sE_const pe_str fun G => .str _) rfl)
    · cases h
  | .glob k, W, os, X, g, e, h => by
    unfold chkE at h
    split at h
    · rw [Bool.and_eq_true] at h
      exact PET.congr (fun env => by simp only [evE] <;> rfl) (PET.of (sE_glob g T h.1 h.2) rfl)
    · cases h
  | .fnv k, W, os, X, g, e, h => by
    unfold chkE at h
    split at h
    · rw [Bool.and_eq_true] at h
      exact PET.congr (fun env => by simp only [evE] <;> rfl) (PET.of (sE_fnv g T h.1 h.2) rfl)
    · cases h
  | .bin op a b, W, os, X, g, e, h => by
    unfold chkE at h
    split at h
    · simp only [Bool.and_eq_true] at h
      cases bopB_eq h.1.1
      exact PET.congr (fun env => by simp only [evE] <;> rfl) (PET.of (sE_bin g (soundE T a g _ h.1.2).pe (soundE T b g _ h.2).pe) rfl)
    · cases h
  | .neg a, W, os, X, g, e, h => by
    unfold chkE at h
    split at h
    · exact PET.congr (fun env => by simp only [evE] <;> rfl) (PET.of (sE_neg (soundE T a g _ h).pe) rfl)
    · cases h
  | .cmp op a b, W, os, X, g, e, h => by
    unfold chkE at h
    split at h
    · simp only [Bool.and_eq_true, Bool.not_eq_true'] at h
      cases copB_eq h.1.1.1
      exact PET.congr (fun env => by simp only [evE] <;> rfl) (sE_cmp g (soundE T a g _ h.1.1.2).pe (soundE T b g _ h.1.2).pe h.2)
    · cases h
  | .chain o1 o2 a b c, W, os, X, g, e, h => by
    unfold chkE at h
    split at h
    · simp only [Bool.and_eq_true, Bool.not_eq_true'] at h
      obtain ⟨⟨⟨⟨⟨⟨h1, h2⟩, h3⟩, h4⟩, h5⟩, h6⟩, h7⟩ := h
      cases copB_eq h1
      cases copB_eq h2
      exact PET.congr (fun env => by simp only [evE] <;> rfl) (sE_chain g (soundE T a g _ h3).pe (soundE T b g _ h4).pe (soundE T c g _ h5).pe h7)
    · cases h
  | .and es, W, os, X, g, e, h => by
    unfold chkE at h
    split at h
    · exact PET.congr (fun env => by simp only [evE] <;> rfl) (soundAnd T es g _ h).pet
    · cases h
  | .or es, W, os, X, g, e, h => by
    unfold chkE at h
    split at h
    · exact PET.congr (fun env => by simp only [evE] <;> rfl) (soundOr T es g _ h).pet
    · cases h
  | .not a, W, os, X, g, e, h => by
    unfold chkE at h
    split at h
    · exact PET.congr (fun env => by simp only [evE] <;> rfl) (sE_not (soundE T a g _ h))
    · cases h
  | .ite c a b, W, os, X, g, e, h => by
    unfold chkE at h
    split at h
    · simp only [Bool.and_eq_true] at h
      exact PET.congr (fun env => by simp only [evE] <;> rfl) (sE_ite (soundE T c g _ h.1.1) (soundE T a g _ h.1.2) (soundE T b g _ h.2))
    · cases h
  | .tup es, W, os, X, g, e, h => by
    unfold chkE at h
    split at h
    · exact PET.congr (fun env => by simp only [evE] <;> rfl) (PET.of (sE_tup (soundEs T es g _ h)) rfl)
    · cases h
  | .lst es, W, os, X, g, e, h => by
    unfold chkE at h
    split at h
    · exact PET.congr (fun env => by simp only [evE] <;> rfl) (PET.of (sE_lst (soundEs T es g _ h)) rfl)
    · cases h
  | .idx a b, W, os, X, g, e, h => by
    unfold chkE at h
    split at h
    · simp only [Bool.and_eq_true, Bool.not_eq_true'] at h
      exact PET.congr (fun env => by simp only [evE] <;> rfl) (PET.of (sE_idx g (soundE T a g _ h.1.1).pe (soundE T b g _ h.1.2).pe h.2) rfl)
    · cases h
  | .slc a lo hi, W, os, X, g, e, h => by
    unfold chkE at h
    split at h
    · simp only [Bool.and_eq_true] at h
      exact PET.congr (fun env => by simp only [evE] <;> rfl) (PET.of (sE_slc g (soundE T a g _ h.1.1).pe (soundO T lo g _ h.1.2) (soundO T hi g _ h.2)) rfl)
    · cases h
  | .call j es, W, os, X, g, e, h => by
    unfold chkE at h
    split at h
    · simp only [Bool.and_eq_true] at h
      obtain ⟨a, b⟩ := chkEs_all h.2
      refine PET.congr (fun env => by simp only [evE] <;> rfl) (PET.of (sE_call g T h.1.1 h.1.2 (soundEs T es g _ h.2) a ?_) rfl)
      intro e0 env
      subst e0
      cases es with
      | nil => simp only [evEs]
      | cons _ _ => simp [chkEs] at h
    · cases h
  | .callk j es kws perm, W, os, X, g, e, h => by
    unfold chkE at h
    split at h
    · simp only [Bool.and_eq_true] at h
      obtain ⟨⟨⟨⟨h1, h2⟩, h3⟩, h4⟩, h5⟩ := h
      obtain ⟨a, b⟩ := chkEs_all h3
      obtain ⟨c, d⟩ := chkKs_all h4
      refine PET.congr (fun env => by simp only [evE] <;> rfl) (PET.of (sE_callk g T h1 h2 (soundEs T es g _ h3) (soundKs T kws g _ h4) a ?_ (of_decide_eq_true h5) c b.symm d.symm) rfl)
      intro e0 env
      subst e0
      cases es with
      | nil => simp only [evEs]
      | cons _ _ => simp [chkEs] at h3
    · cases h
  | .bi b es, W, os, X, g, e, h => by
    unfold chkE at h
    split at h
    · rename_i x p vs pos
      simp only [Bool.and_eq_true, Bool.not_eq_true'] at h
      obtain ⟨⟨⟨h1, h2⟩, h3⟩, h4⟩ := h
      obtain ⟨a, _⟩ := chkEs_all h3
      have hx := of_decide_eq_true h2
      subst hx
      cases vs with
      | nil => cases h4
      | cons v vs => exact PET.congr (fun env => by simp only [evE] <;> rfl) (PET.of (sE_bi g T h1 (soundEs T es g _ h3) a) rfl)
    · cases h
  | .isi a ts, W, os, X, g, e, h => by
    unfold chkE at h
    split at h
    · rename_i x p v t pos
      simp only [Bool.and_eq_true] at h
      obtain ⟨⟨⟨⟨h1, h2⟩, h3⟩, h4⟩, h5⟩ := h
      have hx := of_decide_eq_true h2
      have one : ∀ {ty : Ty}, ts = [ty] → chkTy Θ X.env.scope ty t = true → PET Ω W X (.Call (.Name x p) [v, t] [] pos) (evE Θ (callF Θ n) (.isi a ts)) := by
        intro ty e1 e2
        subst e1
        exact PET.congr (fun env => by simp only [evE, isiV] <;> rfl) (PET.of (sE_isi1 g T h1 hx (soundE T a g _ h3).pe h4 e2) rfl)
      split at h5
      · simp only [Bool.and_eq_true, Bool.not_eq_true'] at h5
        refine PET.congr (fun env => by simp only [evE, isiV] <;> rfl) (PET.of (sE_isiT g T h1 hx (soundE T a g _ h3).pe h4 h5.1.1 (of_decide_eq_true h5.1.2) ?_) rfl)
        intro z
        subst z
        cases h5.2
      · split at h5
        · exact one rfl h5
        · cases h5
    · cases h
  | .bits a, W, os, X, g, e, h => by
    unfold chkE at h
    split at h
    · simp only [Bool.and_eq_true] at h
      exact PET.congr (fun env => by simp only [evE] <;> rfl) (PET.of (sE_bits (soundE T a g _ h.1.1.2).pe (of_decide_eq_true h.1.1.1) (abase_name h.1.2) h.2) rfl)
    · cases h
  | .lrng es, W, os, X, g, e, h => by
    unfold chkE at h
    split at h
    · rename_i x p y p2 vs pos2 pos
      simp only [Bool.and_eq_true, Bool.not_eq_true'] at h
      obtain ⟨⟨⟨⟨⟨h1, h2⟩, h3⟩, h4⟩, h5⟩, h6⟩ := h
      obtain ⟨a, _⟩ := chkEs_all h5
      cases vs with
      | nil => cases h6
      | cons v vs => exact PET.congr (fun env => by simp only [evE] <;> rfl) (PET.of (sE_lrng g T h1 (of_decide_eq_true h2) h3 (of_decide_eq_true h4) (soundEs T es g _ h5) a) rfl)
    · cases h
  | .fld a, W, os, X, g, e, h => by
    unfold chkE at h
    split at h
    · simp only [Bool.and_eq_true] at h
      exact PET.congr (fun env => by simp only [evE] <;> rfl) (PET.of (sE_fld g T (of_decide_eq_true h.1.1) (soundE T a g _ h.1.2).pe (abase_name h.2)) rfl)
    · cases h
  | .comp elt tg src test own, W, os, X, g, e, h => by
    unfold chkE at h
    split at h
    · rename_i x t it ifs scope pos
      simp only [Bool.and_eq_true, Bool.not_eq_true'] at h
      obtain ⟨⟨⟨⟨⟨⟨⟨h1, h2⟩, h3⟩, h4⟩, h5⟩, h6⟩, h7⟩, h8⟩ := h
      have hsub : ∀ i ∈ tgSl tg, i ∈ own.map (·.2) := fun i hi => by
        have := List.all_eq_true.mp h6 i hi
        simpa using this
      have blk := fun s H C cl fp => blk_gx g h1 s H C cl fp
      refine PET.congr (fun env => by simp only [evE] <;> rfl) (PET.of (PE.imp (pe_lc g.calm g.nd (soundSrc T src g t it h2 (by simpa using h4)) (blkOk_by h1) (fun s H C cl fp => soundTg (blk s H C cl fp) tg t h5)
        (fun s H C cl fp => soundTest T test (blk s H C cl fp) ifs h7) (fun s H C cl fp => (soundE T elt (blk s H C cl fp) x h8).pe) (noSetIt h3 X.env)) fun σ H Q hh => ?_) rfl)
      exact sE_comp hsub hh
    · cases h
  | .comp2 elt tg src test tg1 src1 test1 own vs1, W, os, X, g, e, h => by
    unfold chkE at h
    split at h
    · rename_i x t it ifs t1 it1 ifs1 scope pos
      simp only [Bool.and_eq_true, Bool.not_eq_true'] at h
      obtain ⟨⟨⟨⟨⟨⟨⟨⟨⟨⟨⟨⟨⟨⟨h1, h2⟩, h3⟩, h4⟩, h5⟩, h6⟩, h7⟩, h8⟩, h9⟩, h10⟩, h11⟩, h12⟩, h13⟩, h14⟩, h15⟩ := h
      have hsub : ∀ i ∈ tgSl tg, i ∈ own.map (·.2) := fun i hi => by
        have := List.all_eq_true.mp h6 i hi
        simpa using this
      have hsub1 : ∀ i ∈ tgSl tg1, i ∈ vs1 := fun i hi => by
        have := List.all_eq_true.mp h12 i hi
        simpa using this
      have hv : ∀ i ∈ vs1, i ∈ own.map (·.2) := fun i hi => by
        have := List.all_eq_true.mp h13 i hi
        simpa using this
      have blk := fun s H C cl fp => blk_gx g h1 s H C cl fp
      refine PET.congr (fun env => by simp only [evE] <;> rfl) (PET.of (PE.imp (pe_lc2 g.calm g.nd (soundSrc T src g t it h2 (by simpa using h4)) (blkOk_by h1) hv (fun s H C cl fp => soundTg (blk s H C cl fp) tg t h5)
        (fun s H C cl fp => soundTest T test (blk s H C cl fp) ifs h7) (fun s H C cl fp => soundSrc T src1 (blk s H C cl fp) t1 it1 h8 (by simpa using h10)) (fun s H C cl fp => soundTg (blk s H C cl fp) tg1 t1 h11)
        (fun s H C cl fp => soundTest T test1 (blk s H C cl fp) ifs1 h14) (fun s H C cl fp => (soundE T elt (blk s H C cl fp) x h15).pe) (noSetIt h3 X.env) (fun env => noSetIt h9 env)) fun σ H Q hh => ?_) rfl)
      exact sE_comp2 hsub hsub1 hv hh
    · cases h
  | .dct, W, os, X, g, e, h => by
    unfold chkE at h
    split at h
    · exact PET.congr (fun env => by simp only [evE] <;> rfl) (PET.of sE_dct rfl)
    · cases h
  | .oops, W, os, X, g, e, h => PET.congr (fun env => by simp only [evE] <;> rfl) (PET.bad e)
  | .dc1 s i, W, os, X, g, e, h => by
    unfold chkE at h
    split at h
    · simp only [Bool.and_eq_true, decide_eq_true_eq] at h
      obtain ⟨rfl, rfl⟩ := h
      exact PET.congr (fun env => by simp only [evE] <;> rfl) (PET.of sE_dc1 rfl)
    · cases h
  | .exn c es, W, os, X, g, e, h => by
    unfold chkE at h
    split at h
    · rename_i x p vs pos
      simp only [Bool.and_eq_true, decide_eq_true_eq] at h
      obtain ⟨⟨⟨h1, h2⟩, h3⟩, h4⟩ := h
      match es, vs, h3, h4 with
      | .nil, [], _, _ => exact PET.congr (fun env => by simp only [evE, evEs] <;> rfl) (PET.of (sE_exn0 g T h2 h1) rfl)
      | .cons a .nil, [v], h3, _ =>
        simp only [chkEs, Bool.and_eq_true, and_true] at h3
        refine PET.congr (fun env => ?_) (PET.of (sE_exn1 g T h2 h1 (soundE T a g v h3.2).pe h3.1) rfl)
        simp only [evE, evEs]
        cases evE Θ (callF Θ n) a env <;> rfl
      | .nil, _ :: _, h3, _ => simp [chkEs] at h3
      | .cons _ _, [], h3, _ => simp [chkEs] at h3
      | .cons _ (.cons _ _), [_], h3, _ => simp [chkEs] at h3
      | _, _ :: _ :: _, _, h4 => simp at h4
    · cases h
  | .exk c a, W, os, X, g, e, h => by
    unfold chkE at h
    split at h
    · rename_i x p k pos
      obtain ⟨nm, v, kp⟩ := k
      simp only [Bool.and_eq_true, decide_eq_true_eq] at h
      obtain ⟨⟨⟨h1, h2⟩, h3⟩, h4⟩ := h
      subst h3
      exact PET.congr (fun env => by simp only [evE] <;> rfl) (PET.of (sE_exk g T h2 h1 (soundE T a g v h4).pe) rfl)
    · cases h
theorem soundEs (T : TO Ω Θ n) : ∀ (i : Es) {W : WX} {os : Scope} {X : Cx} (g : GX Ω n W os X) (es : List Expr), chkEs Θ X.env.scope os X.N i es = true → PA X es (tL Ω W (evEs Θ (callF Θ n) i))
  | .nil, W, os, X, g, es, h => by
    unfold chkEs at h
    split at h
    · refine PA.imp pa_nil fun σ H Q hh => tL_nil (Ω := Ω) (W := W) (tF.congrT (fun env => ?_) hh)
      simp only [evEs] <;> rfl
    · cases h
  | .cons e es, W, os, X, g, vs, h => by
    unfold chkEs at h
    split at h
    · simp only [Bool.and_eq_true] at h
      refine PA.imp (pa_consP (soundE T e g _ h.1.2).pe (soundEs T es g _ h.2) h.1.1) fun σ H Q hh => tL_cons (tF.congrT (fun env => by simp only [evEs]) hh)
    · cases h
theorem soundKs (T : TO Ω Θ n) : ∀ (i : Es) {W : WX} {os : Scope} {X : Cx} (g : GX Ω n W os X) (ks : List Keyword), chkKs Θ X.env.scope os X.N i ks = true → PK X ks (tL Ω W (evEs Θ (callF Θ n) i))
  | .nil, W, os, X, g, es, h => by
    unfold chkKs at h
    split at h
    · refine PK.imp pk_nil fun σ H Q hh => tL_nil (Ω := Ω) (W := W) (tF.congrT (fun env => ?_) hh)
      simp only [evEs] <;> rfl
    · cases h
  | .cons e es, W, os, X, g, vs, h => by
    unfold chkKs at h
    split at h
    · rename_i k ks
      obtain ⟨nm, v, kp⟩ := k
      simp only [Bool.and_eq_true] at h
      refine PK.imp (pk_cons (soundE T e g _ h.1.2).pe (soundKs T es g _ h.2)) fun σ H Q hh => tL_cons (tF.congrT (fun env => by simp only [evEs]) hh)
    · cases h
theorem soundAnd (T : TO Ω Θ n) : ∀ (i : Es) {W : WX} {os : Scope} {X : Cx} (g : GX Ω n W os X) (vs : List Expr), chkBs Θ X.env.scope os X.N i vs = true → PBT Ω W X .And vs (evAnd Θ (callF Θ n) i)
  | .nil, W, os, X, g, vs, h => by
    unfold chkBs at h
    cases h
  | .cons e .nil, W, os, X, g, vs, h => by
    cases vs with
    | nil => simp [chkBs] at h
    | cons v vs =>
      cases vs with
      | cons _ _ => simp [chkBs] at h
      | nil =>
        simp only [chkBs, Bool.and_eq_true, and_true] at h
        refine PBT.congr (fun env => ?_) (sB_one (soundE T e g _ h))
        simp only [evAnd]
        cases asBool (evE Θ (callF Θ n) e env) <;> rfl
  | .cons e (.cons e2 es2), W, os, X, g, vs, h => by
    cases vs with
    | nil => simp [chkBs] at h
    | cons v vs =>
      cases vs with
      | nil => simp [chkBs] at h
      | cons v2 vs2 =>
        rw [chkBs] at h
        simp only [Bool.and_eq_true] at h
        refine PBT.congr (fun env => ?_) (sB_cons (soundE T e g _ h.1) (soundAnd T (.cons e2 es2) g _ h.2) false rfl)
        rw [evAnd]
        refine bind_congr fun p => ?_
        obtain ⟨b, env1⟩ := p
        cases b <;> rfl
theorem soundOr (T : TO Ω Θ n) : ∀ (i : Es) {W : WX} {os : Scope} {X : Cx} (g : GX Ω n W os X) (vs : List Expr), chkBs Θ X.env.scope os X.N i vs = true → PBT Ω W X .Or vs (evOr Θ (callF Θ n) i)
  | .nil, W, os, X, g, vs, h => by
    unfold chkBs at h
    cases h
  | .cons e .nil, W, os, X, g, vs, h => by
    cases vs with
    | nil => simp [chkBs] at h
    | cons v vs =>
      cases vs with
      | cons _ _ => simp [chkBs] at h
      | nil =>
        simp only [chkBs, Bool.and_eq_true, and_true] at h
        refine PBT.congr (fun env => ?_) (sB_one (soundE T e g _ h))
        simp only [evOr]
        cases asBool (evE Θ (callF Θ n) e env) <;> rfl
  | .cons e (.cons e2 es2), W, os, X, g, vs, h => by
    cases vs with
    | nil => simp [chkBs] at h
    | cons v vs =>
      cases vs with
      | nil => simp [chkBs] at h
      | cons v2 vs2 =>
        rw [chkBs] at h
        simp only [Bool.and_eq_true] at h
        refine PBT.congr (fun env => ?_) (sB_cons (soundE T e g _ h.1) (soundOr T (.cons e2 es2) g _ h.2) true rfl)
        rw [evOr]
theorem soundO (T : TO Ω Θ n) : ∀ (i : Es) {W : WX} {os : Scope} {X : Cx} (g : GX Ω n W os X) (o : Option Expr), chkO Θ X.env.scope os X.N i o = true → PO X o (tO Ω W (evEs Θ (callF Θ n) i))
  | .nil, W, os, X, g, o, h => by
    unfold chkO at h
    split at h
    · have := po_nil (Ω := Ω) (W := W) (X := X)
      have e : evEs Θ (callF Θ n) .nil = fun env => .ok ([], env) := funext fun env => by simp only [evEs]
      rw [e]; exact this
    · cases h
  | .cons e es, W, os, X, g, o, h => by
    unfold chkO at h
    split at h
    · have := po_one (soundE T e g _ h).pe
      have e1 : evEs Θ (callF Θ n) (.cons e .nil) = fun env => (evE Θ (callF Θ n) e env).bind fun p => .ok ([p.1], p.2) := funext fun env => by
        simp only [evEs] <;> rfl
      rw [e1]; exact this
    · cases h
theorem soundTest (T : TO Ω Θ n) : ∀ (i : Es) {W : WX} {os : Scope} {X : Cx} (g : GX Ω n W os X) (vs : List Expr), chkTest Θ X.env.scope os X.N i vs = true → PTs X vs (tB1 Ω W fun env => evTest Θ (callF Θ n) i env)
  | .nil, W, os, X, g, vs, h => by
    unfold chkTest at h
    split at h
    · refine ⟨fun pins s σ H Q I hh => pts_nil.run pins s σ H Q I ?_⟩
      exact tB1.ok (Ω := Ω) (W := W) (tB1.congr (fun env => by simp only [evTest]) hh)
    · cases h
  | .cons e es, W, os, X, g, vs, h => by
    unfold chkTest at h
    split at h
    · refine ⟨fun pins s σ H Q I hh => (pts_one (soundE T e g _ h).pt).run pins s σ H Q I ?_⟩
      exact tB1.congr (fun env => by simp only [evTest]) hh
    · cases h
theorem soundSrc (T : TO Ω Θ n) : ∀ (i : Src) {W : WX} {os : Scope} {X : Cx} (g : GX Ω n W os X) (tg e : Expr), chkSrc Θ X.env.scope os X.N i e = true → (!srcTup i || isTupE tg) = true → PI X tg e (tI Ω W (evSrc Θ (callF Θ n) i))
  | .seq a, W, os, X, g, tg, e, h, ht => by
    unfold chkSrc at h
    exact PI.congr (fun env => by simp only [evSrc] <;> rfl) (sS_seq g (soundE T a g _ h).pe)
  | .rng es, W, os, X, g, tg, e, h, ht => by
    unfold chkSrc at h
    split at h
    · rename_i x p vs pos
      simp only [Bool.and_eq_true, Bool.not_eq_true'] at h
      obtain ⟨⟨⟨h1, h2⟩, h3⟩, h4⟩ := h
      obtain ⟨a, _⟩ := chkEs_all h3
      cases vs with
      | nil => cases h4
      | cons v vs => exact PI.congr (fun env => by simp only [evSrc] <;> rfl) (sS_rng g T h1 (of_decide_eq_true h2) (soundEs T es g _ h3) a)
    · cases h
  | .enum a, W, os, X, g, tg, e, h, ht => by
    unfold chkSrc at h
    split at h
    · simp only [Bool.and_eq_true] at h
      cases tg with
      | Tuple elts kk tpos => exact PI.congr (fun env => by simp only [evSrc] <;> rfl) (sS_enum g T h.1.1.1 (of_decide_eq_true h.1.1.2) (soundE T a g _ h.1.2).pe h.2)
      | _ => cases ht
    · cases h
  | .zip a b, W, os, X, g, tg, e, h, ht => by
    unfold chkSrc at h
    split at h
    · simp only [Bool.and_eq_true] at h
      obtain ⟨⟨⟨⟨⟨h1, h2⟩, h3⟩, h4⟩, h5⟩, h6⟩ := h
      cases tg with
      | Tuple elts kk tpos => exact PI.congr (fun env => by simp only [evSrc] <;> rfl) (sS_zip g T h1 (of_decide_eq_true h2) (soundE T a g _ h3).pe (soundE T b g _ h4).pe h5 h6)
      | _ => cases ht
    · simp only [Bool.and_eq_true] at h
      obtain ⟨⟨⟨⟨⟨⟨h1, h2⟩, h3⟩, h4⟩, h5⟩, h6⟩, h7⟩ := h
      have h7 := of_decide_eq_true h7
      subst h7
      cases tg with
      | Tuple elts kk tpos => exact PI.congr (fun env => by simp only [evSrc] <;> rfl) (sS_zipS g T h1 (of_decide_eq_true h2) (soundE T a g _ h3).pe (soundE T b g _ h4).pe h5 h6)
      | _ => cases ht
    · cases h
end
end
end FF

set_option Elab.async false
set_option linter.all false
set_option autoImplicit false
set_option maxRecDepth 100000
/-! FR: statements. -/
namespace FF
open PySem PySem.Spec PyProof.Rows L2
section
variable {Ω : Wd} {W : WX} {G H : Hp} {σ : L2.St} {F : List Addr} {Θ : Tab} {n : Nat} {os : Scope} {X : Cx} {Kp : List Nat}

def KpEq (Kp : List Nat) (σ σ' : L2.St) : Prop := ∀ i ∈ Kp, σ'[i]? = σ[i]?
/-- how a statement ends -/
def OutS (Ω : Wd) (W : WX) (Kp : List Nat) (D : Ends) (G H : Hp) (σ : L2.St) (F : List Addr) : RS → Prop
  | .nx env' => ∀ σ' G' H' F', σ'.length = σ.length → KpEq Kp σ σ' → Step G H F G' H' F' → St Ω G' H' σ' env' F' → D.nx σ' H'
  | .bk env' => ∀ σ' G' H' F', σ'.length = σ.length → KpEq Kp σ σ' → Step G H F G' H' F' → St Ω G' H' σ' env' F' → D.bk σ' H'
  | .ct env' => ∀ σ' G' H' F', σ'.length = σ.length → KpEq Kp σ σ' → Step G H F G' H' F' → St Ω G' H' σ' env' F' → D.ct σ' H'
  | .rt t env' => ∀ v σ' G' H' F' Ft, σ'.length = σ.length → KpEq Kp σ σ' → Step G H F G' H' (F' ++ Ft) → St Ω G' H' σ' env' F' → TR Ω G' H' v t Ft → (F' ++ Ft).Nodup → D.rt v H'
  | .ex c d env' => ∀ σ' dd u G' H' F', σ'.length = σ.length → KpEq Kp σ σ' → Step G H F G' H' F' → St Ω G' H' σ' env' F' → G' dd = some (.xd [("value", u)]) → Dp Ω.K G' u d → W (.ref (Ω.ca c)) (some dd) σ' H'
  | .bad => False
theorem KpEq.refl : KpEq Kp σ σ := fun _ _ => rfl
theorem KpEq.trans {σ σ1 σ2 : L2.St} (a : KpEq Kp σ σ1) (b : KpEq Kp σ1 σ2) : KpEq Kp σ σ2 := fun i hi => (b i hi).trans (a i hi)
theorem OutS.after {D : Ends} {G' H' : Hp} {σ' : L2.St} {F' : List Addr} {r : RS} (l : σ'.length = σ.length) (k : KpEq Kp σ σ') (s : Step G H F G' H' F') (h : OutS Ω W Kp D G H σ F r) : OutS Ω W Kp D G' H' σ' F' r := by
  cases r with
  | nx env' => exact fun σ2 G2 H2 F2 l2 k2 s2 st => h σ2 G2 H2 F2 (l2.trans l) (k.trans k2) (s.trans s2) st
  | bk env' => exact fun σ2 G2 H2 F2 l2 k2 s2 st => h σ2 G2 H2 F2 (l2.trans l) (k.trans k2) (s.trans s2) st
  | ct env' => exact fun σ2 G2 H2 F2 l2 k2 s2 st => h σ2 G2 H2 F2 (l2.trans l) (k.trans k2) (s.trans s2) st
  | rt t env' => exact fun v σ2 G2 H2 F2 Ft l2 k2 s2 st r nd => h v σ2 G2 H2 F2 Ft (l2.trans l) (k.trans k2) (s.trans s2) st r nd
  | ex c d env' => exact fun σ2 dd u G2 H2 F2 l2 k2 s2 st a b => h σ2 dd u G2 H2 F2 (l2.trans l) (k.trans k2) (s.trans s2) st a b
  | bad => exact h
def tS (Ω : Wd) (W : WX) (Kp : List Nat) (f : FF.Env → RS) : TS := fun D σ H => ∃ G env F, St Ω G H σ env F ∧ OutS Ω W Kp D G H σ F (f env)
theorem tS.congr {f f' : FF.Env → RS} {D : Ends} (e : ∀ env, f env = f' env) (h : tS Ω W Kp f D σ H) : tS Ω W Kp f' D σ H := by
  have : f = f' := funext e
  rw [← this]; exact h
/-- an expression ahead of what a statement does -/
def after (r : R (Val × FF.Env)) (k : Val → FF.Env → RS) : RS := match r with
  | .ok p => k p.1 p.2
  | .exc c d env => .ex c d env
  | .bad => .bad
theorem exS {c : Nat} {d : PyData} {env' : FF.Env} {De : Ends} (h : OutS Ω W Kp De G H σ F (.ex c d env')) : ExO1 Ω W G H σ F c d env' :=
  fun dd u G' H' F' s st a b => h σ dd u G' H' F' rfl KpEq.refl s st a b
theorem oneS {f : FF.Env → R (Val × FF.Env)} {k : Val → FF.Env → RS} {D : Ends} {Q' : VK} (h : tS Ω W Kp (fun env => after (f env) k) D σ H)
    (j : ∀ x vx G1 H1 env1 F1 Fx, St Ω G1 H1 σ env1 F1 → VR Ω G1 H1 σ env1.length x vx Fx → (F1 ++ Fx).Nodup → OutS Ω W Kp D G1 H1 σ (F1 ++ Fx) (k vx env1) → Q' x H1) : tF Ω W f σ H Q' := by
  obtain ⟨G, env, F, st, h⟩ := h
  refine ⟨G, env, F, st, ?_⟩
  cases e : f env with
  | bad => simp only [e, after] at h; exact h
  | exc c d env' => simp only [e, after] at h; exact fun dd u G' H' F' s st a b => h σ dd u G' H' F' rfl KpEq.refl s st a b
  | ok p =>
    obtain ⟨x, env1⟩ := p
    simp only [e, after] at h
    exact fun v G1 H1 F1 Fv s1 st1 vr nd => j v x G1 H1 env1 F1 Fv st1 vr nd (h.after rfl KpEq.refl s1)
theorem manyS {f : FF.Env → R (List Val × FF.Env)} {k : List Val → FF.Env → RS} {D : Ends} {Q' : List V → Hp → Prop} (h : tS Ω W Kp (fun env => (match f env with | .ok p => k p.1 p.2 | .exc c d env => .ex c d env | .bad => .bad)) D σ H)
    (j : ∀ x vx G1 H1 env1 F1 Fx, St Ω G1 H1 σ env1 F1 → VRs Ω G1 H1 σ env1.length x vx Fx → (F1 ++ Fx).Nodup → OutS Ω W Kp D G1 H1 σ (F1 ++ Fx) (k vx env1) → Q' x H1) : tL Ω W f σ H Q' := by
  obtain ⟨G, env, F, st, h⟩ := h
  refine ⟨G, env, F, st, ?_⟩
  cases e : f env with
  | bad => simp only [e] at h; exact h
  | exc c d env' => simp only [e] at h; exact fun dd u G' H' F' s st a b => h σ dd u G' H' F' rfl KpEq.refl s st a b
  | ok p =>
    obtain ⟨x, env1⟩ := p
    simp only [e] at h
    exact fun v G1 H1 F1 Fv s1 st1 vr nd => j v x G1 H1 env1 F1 Fv st1 vr nd (h.after rfl KpEq.refl s1)
theorem testS {f : FF.Env → R (Bool × FF.Env)} {k : Bool → FF.Env → RS} {D : Ends} {Q' : Bool → Hp → Prop} (h : tS Ω W Kp (fun env => (match f env with | .ok p => k p.1 p.2 | .exc c d env => .ex c d env | .bad => .bad)) D σ H)
    (j : ∀ b G1 H1 env1 F1, St Ω G1 H1 σ env1 F1 → OutS Ω W Kp D G1 H1 σ F1 (k b env1) → Q' b H1) : tB1 Ω W f σ H Q' := by
  obtain ⟨G, env, F, st, h⟩ := h
  refine ⟨G, env, F, st, ?_⟩
  cases e : f env with
  | bad => simp only [e] at h; exact h
  | exc c d env' => simp only [e] at h; exact fun dd u G' H' F' s st a b => h σ dd u G' H' F' rfl KpEq.refl s st a b
  | ok p =>
    obtain ⟨b, env1⟩ := p
    simp only [e] at h
    exact fun G1 H1 F1 s1 st1 => j b G1 H1 env1 F1 st1 (h.after rfl KpEq.refl s1)

/-! ### assignments -/
def asgK (tg : Tg) (v : Val) (env1 : FF.Env) : RS := match take v env1 with
  | some (t, env2) => (match asg tg t env2 with
    | some env3 => .nx env3
    | none => .bad)
  | none => .bad
theorem asgK_ok {tg : Tg} {env : FF.Env} {x : V} {vx : Val} {Fx : List Addr} {D : Ends} (hk : ∀ i ∈ tgSl tg, i ∉ Kp) (st : St Ω G H σ env F) (vr : VR Ω G H σ env.length x vx Fx) (nd : (F ++ Fx).Nodup) (o : OutS Ω W Kp D G H σ (F ++ Fx) (asgK tg vx env)) :
    tgR Ω (asg tg) (tgSl tg) x σ H D.nx := by
  unfold asgK at o
  split at o
  · rename_i t env2 e1
    obtain ⟨G1, F1, Ft, s1, st1, r1, nd1, l1⟩ := take_ok st vr nd e1
    split at o
    · rename_i env3 e2
      refine ⟨G1, env2, F1, t, Ft, st1, r1, nd1, ?_⟩
      rw [e2]
      intro σ' G' F' l' k' s' st'
      exact o σ' G' H F' l' (fun i hi => k' i fun z => hk i z hi) (s1.trans s') st'
    · exact o.elim
  · exact o.elim
theorem plain_sw {e : Expr} (h : (match e with | .ListComp .. => true | .SetComp .. => true | .DictComp .. => true | _ => false) = false) (t : Option Expr) (l : Nat) (env : PySem.Env) : swapsWith e t l env = pure false := by
  cases e <;> first | rfl | cases h
theorem tup_sw {e : Expr} {es : List Expr} {k : Nat} {p : Pos} (l : Nat) (env : PySem.Env) : swapsWithSole [.Tuple es k p] e l env = pure false := by
  cases e <;> rfl
theorem sub_sw {e a b : Expr} {p : Pos} (l : Nat) (env : PySem.Env) : swapsWithSole [.Subscript a b p] e l env = pure false := by
  cases e <;> rfl
theorem name_ss {e : Expr} {x : Str} {p : Pos} (env : PySem.Env) : swappedStores [.Name x p] e env = pure none := by
  cases e <;> rfl
theorem sub_ss {e a b : Expr} {p : Pos} (env : PySem.Env) : swappedStores [.Subscript a b p] e env = pure none := by
  cases e <;> rfl
theorem tup_ss {e : Expr} {es : List Expr} {k : Nat} {p : Pos} (h : isTupE e = false) (env : PySem.Env) : swappedStores [.Tuple es k p] e env = pure none := by
  cases e <;> first | rfl | cases h
/-- a written tuple whose names are stored from the right -/
def starB : Expr → Bool
  | .Starred .. => true
  | _ => false
def nmsOf (sc : Scope) (line : Nat) : List Expr → List Str
  | [] => []
  | .Name x p :: ts => if sc.names.lookup x == some .local && p.line == line then x :: nmsOf sc line ts else nmsOf sc line ts
  | _ :: ts => nmsOf sc line ts
def hdLine : List Expr → Nat
  | t :: _ => t.pos.line
  | [] => 0
def parC (sc : Scope) (ts vs : List Expr) (names : List Str) : Bool :=
  (ts.length == 2 || ts.length == 3) && vs.length == ts.length && !(vs.any starB) && decide (nmsOf sc (hdLine ts) ts = names) && names.length == ts.length && names.eraseDups.length == names.length && !(vs.all (foldedForSure 8)) && !(vs.all (constantsAlone 8))
theorem nms_eq (env : PySem.Env) (line : Nat) : ∀ ts : List Expr, (ts.filterMap fun
    | .Name id pos => if env.kindOf id == some .local && pos.line == line then some id else none
    | _ => none) = nmsOf env.scope line ts
  | [] => rfl
  | t :: ts => by
    have ih := nms_eq env line ts
    cases t with
    | Name x p =>
      rw [List.filterMap_cons]
      unfold nmsOf
      by_cases h : (env.scope.names.lookup x == some .local && p.line == line) = true
      · have h' : (env.kindOf x == some .local && p.line == line) = true := h
        simp only [h, h', if_true]
        rw [ih]
      · have h' : ¬ (env.kindOf x == some .local && p.line == line) = true := h
        simp only [h, h', Bool.false_eq_true, if_false]
        exact ih
    | _ => rw [List.filterMap_cons]; exact ih
theorem blk_fn {env : PySem.Env} (hk : env.scope.kind = .function) : env.blockKind = .function := by
  unfold Env.blockKind
  rw [hk]; rfl
theorem par_ss {ts vs : List Expr} {k k2 : Nat} {p p2 : Pos} {env : PySem.Env} {names : List Str} (hk : env.scope.kind = .function) (h : parC env.scope ts vs names = true) : swappedStores [.Tuple ts k p] (.Tuple vs k2 p2) env = pure (some names) := by
  unfold parC at h
  simp only [Bool.and_eq_true, Bool.not_eq_true', decide_eq_true_eq, beq_iff_eq] at h
  obtain ⟨⟨⟨⟨⟨⟨⟨h1, h2⟩, h3⟩, h4⟩, h5⟩, h6⟩, h7⟩, h8⟩ := h
  have hb := blk_fn hk
  have e1 : (!(ts.length == 2 || ts.length == 3) || vs.length != ts.length || env.blockKind != .function) = false := by
    rw [h1, hb]
    simp [h2]
  have e2 : (vs.any fun | .Starred .. => true | _ => false) = false := by
    refine Eq.trans ?_ h3
    congr 1
  have e4 : ((ts.head?.map (·.pos.line)).getD 0) = hdLine ts := by cases ts <;> rfl
  have e5 : (ts.filterMap fun
    | .Name id pos => if env.kindOf id == some .local && pos.line == ((ts.head?.map (·.pos.line)).getD 0) then some id else none
    | _ => none) = names := by
    rw [e4]
    exact (nms_eq env _ ts).trans h4
  have ne : ∀ {b : Bool}, b = false → ¬ b = true := fun h z => by rw [h] at z; cases z
  unfold swappedStores
  simp only []
  refine (if_neg (ne e1)).trans ?_
  refine (if_neg (ne e2)).trans ?_
  have fin : ∀ l : List Str, l = names → (if (l.length != ts.length || l.eraseDups.length != l.length) = true then (pure none : Sem (Option (List Str))) else if vs.all (foldedForSure 8) = true then pure none else
      if vs.all (constantsAlone 8) = true then (do unsupported "assign.tuple-of-constant-expressions:order-of-the-stores"; return some l) else return some l) = pure (some names) := by
    intro l e
    subst e
    rw [if_neg (by simp [h5, h6]), if_neg (ne h7), if_neg (ne h8)]
  exact fin _ e5
theorem par_none {ts vs : List Expr} {k k2 : Nat} {p p2 : Pos} {env : PySem.Env} (h : (!(ts.length == 2 || ts.length == 3) || vs.all (foldedForSure 8)) = true) : swappedStores [.Tuple ts k p] (.Tuple vs k2 p2) env = pure none := by
  unfold swappedStores
  rw [Bool.or_eq_true] at h
  rcases h with h | h
  · simp only []
    rw [if_pos (by simp only [h, Bool.true_or])]
  · simp only []
    split
    · rfl
    · split
      · rfl
      · split
        · rfl
        · first | rfl | rw [if_pos h]
theorem par_none2 {ts vs : List Expr} {k k2 : Nat} {p p2 : Pos} {env : PySem.Env} (h : ((nmsOf env.scope (hdLine ts) ts).length != ts.length) = true) : swappedStores [.Tuple ts k p] (.Tuple vs k2 p2) env = pure none := by
  have e4 : ((ts.head?.map (·.pos.line)).getD 0) = hdLine ts := by cases ts <;> rfl
  have e5 : (ts.filterMap fun
    | .Name id pos => if env.kindOf id == some .local && pos.line == ((ts.head?.map (·.pos.line)).getD 0) then some id else none
    | _ => none) = nmsOf env.scope (hdLine ts) ts := by
    rw [e4]
    exact nms_eq env _ ts
  unfold swappedStores
  simp only []
  split
  · rfl
  · split
    · rfl
    · have fin : ∀ l : List Str, l = nmsOf env.scope (hdLine ts) ts → (if (l.length != ts.length || l.eraseDups.length != l.length) = true then (pure none : Sem (Option (List Str))) else if vs.all (foldedForSure 8) = true then pure none else
          if vs.all (constantsAlone 8) = true then (do unsupported "assign.tuple-of-constant-expressions:order-of-the-stores"; return some l) else return some l) = pure none := by
        intro l e
        subst e
        rw [if_pos (by rw [h, Bool.true_or])]
      exact fin _ e5
theorem tgPlain {sc os : Scope} {N : List Str} {tg : Tg} {e : Expr} (h : chkTg sc os N tg e = true) : plainE e = true := by
  cases tg with
  | name i =>
    unfold chkTg at h
    split at h
    · rfl
    · cases h
  | tnil =>
    unfold chkTg at h
    split at h
    · rfl
    · cases h
  | tcons a b =>
    unfold chkTg at h
    split at h
    · rfl
    · cases h
theorem sS_asg (g : GX Ω n W os X) {tg : Tg} {te e : Expr} {pos : Pos} {f : FF.Env → R (Val × FF.Env)} (ht : chkTg X.env.scope os X.N tg te = true) (hk : ∀ i ∈ tgSl tg, i ∉ Kp) (he : PE X e (tF Ω W f)) (hs : swapsWithSole [te] e pos.line X.env = pure false) (hw : swappedStores [te] e X.env = pure none) :
    PS X (.Assign [te] e pos) (tS Ω W Kp fun env => after (f env) (asgK tg)) := by
  have h1 : (assignEach [te] X.env).map (·.2) = [assign te X.env] := by
    rw [assignEach_plain (tgPlain ht)]; rfl
  refine PS.imp (ps_asg he (soundTg g tg te ht) hs hw h1) fun D σ H hh => ?_
  exact oneS hh fun x vx G1 H1 env1 F1 Fx st vr nd o => asgK_ok hk st vr nd o
theorem sS_expr {e : Expr} {pos : Pos} {f : FF.Env → R (Val × FF.Env)} (he : PE X e (tF Ω W f)) (hs : swapsWith e none pos.line X.env = pure false) : PS X (.Expr e pos) (tS Ω W Kp fun env => after (f env) fun _ env1 => .nx env1) := by
  refine PS.imp (ps_expr he hs) fun D σ H hh => oneS hh fun x vx G1 H1 env1 F1 Fx st vr nd o => ?_
  exact o σ G1 H1 F1 rfl KpEq.refl (Step.refl subL) st
def retK (v : Val) (env1 : FF.Env) : RS := match take v env1 with
  | some (t, env2) => .rt t env2
  | none => .bad
theorem sS_ret {e : Expr} {pos : Pos} {f : FF.Env → R (Val × FF.Env)} (he : PE X e (tF Ω W f)) : PS X (.Return (some e) pos) (tS Ω W Kp fun env => after (f env) retK) := by
  refine PS.imp (ps_ret he) fun D σ H hh => oneS hh fun x vx G1 H1 env1 F1 Fx st vr nd o => ?_
  unfold retK at o
  split at o
  · rename_i t env2 e1
    obtain ⟨G2, F2, Ft, s1, st1, r1, nd1, l1⟩ := take_ok st vr nd e1
    exact o x σ G2 H1 F2 Ft rfl KpEq.refl s1 st1 r1 nd1
  · exact o.elim
theorem sS_retN {pos : Pos} : PS X (.Return none pos) (tS Ω W Kp fun env => .rt (.sh .none) env) :=
  PS.imp ps_retN fun D σ H ⟨G, env, F, st, o⟩ => o .non σ G H F [] rfl KpEq.refl (Step.refl fun _ h => by simpa using h) st (.sh .non) (by simpa using st.nd)
theorem sS_if {c : Expr} {a b : List Stmt} {pos : Pos} {f : FF.Env → R (Bool × FF.Env)} {fa fb : FF.Env → RS} (hc : L2.PT X c (tB1 Ω W f)) (ha : PSs X a (tS Ω W Kp fa)) (hb : PSs X b (tS Ω W Kp fb)) :
    PS X (.If c a b pos) (tS Ω W Kp fun env => (match f env with | .ok p => (if p.1 = true then fa p.2 else fb p.2) | .exc c d env => .ex c d env | .bad => .bad)) := by
  refine PS.imp (ps_if hc ha hb) fun D σ H hh => testS (k := fun b env => if b = true then fa env else fb env) hh fun b G1 H1 env1 F1 st o => ?_
  cases b with
  | true => rw [if_pos rfl] at o ⊢; exact ⟨G1, env1, F1, st, o⟩
  | false => rw [if_neg Bool.false_ne_true] at o ⊢; exact ⟨G1, env1, F1, st, o⟩
theorem sS_seq1 {st : Stmt} {rest : List Stmt} {f fr : FF.Env → RS} (h1 : PS X st (tS Ω W Kp f)) (h2 : PSs X rest (tS Ω W Kp fr)) : PSs X (st :: rest) (tS Ω W Kp fun env => (match f env with | .nx env1 => fr env1 | r => r)) := by
  refine PSs.imp (pss_cons h1 h2) fun D σ H ⟨G, env, F, st, o⟩ => ⟨G, env, F, st, ?_⟩
  cases e : f env with
  | nx env1 =>
    simp only [e] at o
    exact fun σ' G' H' F' l k s st' => ⟨G', env1, F', st', o.after l k s⟩
  | bk env1 => simp only [e] at o; exact o
  | ct env1 => simp only [e] at o; exact o
  | rt t env1 => simp only [e] at o; exact o
  | ex c d env1 => simp only [e] at o; exact o
  | bad => simp only [e] at o; exact o

/-! ### loops -/
/-- the items to come stand by -/
structure PendF {J : It} (Φ : FeedI Ω J) (i : Nat) (ts : List Tr) (Ft : List Addr) (G H : Hp) (F : List Addr) : Prop where
  p : Φ.P i G H ts Ft
  nd : Ft.Nodup
  dj : Disj Ft F
theorem PendF.step {J : It} {Φ : FeedI Ω J} {i : Nat} {ts : List Tr} {Ft F' : List Addr} {G' H' : Hp} (h : PendF Φ i ts Ft G H F) (s : Step G H F G' H' F') : PendF Φ i ts Ft G' H' F' :=
  ⟨Φ.step h.p s h.dj, h.nd, (s.apart (Φ.there h.p) h.dj).2.2⟩
def ForI {J : It} (Φ : FeedI Ω J) (W : WX) (Kp : List Nat) (D : Ends) (run : List Tr → FF.Env → RS) (i m : Nat) (σ : L2.St) (H : Hp) : Prop :=
  ∃ G env F ts Ft, m = ts.length ∧ St Ω G H σ env F ∧ PendF Φ i ts Ft G H F ∧ OutS Ω W Kp D G H σ (F ++ Ft) (run ts env)
theorem sS_for (g : GX Ω n W os X) {tg : Tg} {te it : Expr} {body : List Stmt} {pos : Pos} {fs : FF.Env → R (List Tr × FF.Env)} {fb : FF.Env → RS} (hi : PI X te it (tI Ω W fs)) (ht : chkTg X.env.scope os X.N tg te = true) (hk : ∀ i ∈ tgSl tg, i ∉ Kp) (hb : PSs X body (tS Ω W Kp fb)) (hs : isSetE it = false) :
    PS X (.For te it body [] pos) (tS Ω W Kp fun env => (match fs env with | .ok p => forL tg fb p.1 p.2 | .exc c d env => .ex c d env | .bad => .bad)) := by
  refine PS.imp (ps_for g.ps g.calm hi (soundTg g tg te ht) hb (noSetIt hs X.env)) fun D σ H ⟨G, env, F, st, o⟩ => ⟨G, env, F, st, ?_⟩
  cases e : fs env with
  | bad => simp only [e] at o; exact o
  | exc c d env' => simp only [e] at o; exact fun dd u G' H' F' s st a b => o σ dd u G' H' F' rfl KpEq.refl s st a b
  | ok p =>
    obtain ⟨ts, env1⟩ := p
    simp only [e] at o
    intro J Φ G1 H1 F1 Ft s1 st1 hP nd1
    obtain ⟨n1, n2, dj⟩ := nodup_app.mp nd1
    refine ⟨ForI Φ W Kp D (forL tg fb), ⟨ts.length, G1, env1, F1, ts, Ft, rfl, st1, ⟨hP, n2, dj.symm⟩, o.after rfl KpEq.refl s1⟩, ?_⟩
    rintro i m σ2 H2 ⟨G2, ev, F2, tr, Fr, rfl, st2, pd, o2⟩
    cases tr with
    | nil =>
      left
      refine ⟨Φ.nil pd.p st2.same, ?_⟩
      simp only [forL] at o2
      exact o2 σ2 G2 H2 F2 rfl KpEq.refl (Step.refl subL) st2
    | cons t tr =>
      right
      obtain ⟨hgo, hy⟩ := Φ.cons pd.p st2.same pd.nd
      refine ⟨hgo, ForI Φ W Kp D (forL tg fb) (i + 1) tr.length, fun σ' H' hn => ⟨tr.length, by simp, hn⟩, fun x H3 hx => ?_⟩
      obtain ⟨G3, Fx, Fr', s3, sm3, rx, hP3, nd3⟩ := hy x H3 hx
      obtain ⟨st3, dF⟩ := st2.step s3 sm3 pd.dj.symm
      obtain ⟨d1, d2⟩ := Disj.appR.mp dF
      obtain ⟨x1, x2, xj⟩ := nodup_app.mp nd3
      have pd3 : PendF Φ (i + 1) tr Fr' G3 H3 (F2 ++ Fx) := ⟨hP3, x2, Disj.appR.mpr ⟨d2.symm, xj.symm⟩⟩
      have o3 : OutS Ω W Kp D G3 H3 σ2 ((F2 ++ Fx) ++ Fr') (forL tg fb (t :: tr) ev) := o2.after rfl KpEq.refl (((s3.frame (R := F2)).wide fun q hq => by
        simp only [List.mem_append] at hq ⊢
        exact hq.symm).sub fun q hq => by
        simp only [List.mem_append] at hq ⊢
        rcases hq with (hq | hq) | hq
        · exact .inr hq
        · exact .inl (.inl hq)
        · exact .inl (.inr hq))
      simp only [forL] at o3
      split at o3
      · exact o3.elim
      · rename_i ev1 ea
        refine ⟨G3, ev, F2, t, Fx, st3, rx, nodup_app.mpr ⟨st3.nd, x1, d1⟩, ?_⟩
        rw [ea]
        intro σ4 G4 F4 l4 k4 s4 st4
        have pd4 := pd3.step s4
        have o4 := o3.after (σ' := σ4) l4 (fun j hj => k4 j fun z => hk j z hj) (s4.frame (R := Fr'))
        refine ⟨G4, ev1, F4, st4, ?_⟩
        cases eb : fb ev1 with
        | nx ev2 =>
          simp only [eb] at o4
          exact fun σ5 G5 H5 F5 l5 k5 s5 st5 => ⟨G5, ev2, F5, tr, Fr', rfl, st5, pd4.step s5, o4.after l5 k5 s5.frame⟩
        | ct ev2 =>
          simp only [eb] at o4
          exact fun σ5 G5 H5 F5 l5 k5 s5 st5 => ⟨G5, ev2, F5, tr, Fr', rfl, st5, pd4.step s5, o4.after l5 k5 s5.frame⟩
        | bk ev2 =>
          simp only [eb] at o4
          exact fun σ5 G5 H5 F5 l5 k5 s5 st5 => o4 σ5 G5 H5 F5 l5 k5 (s5.wide subL) st5
        | rt t' ev2 =>
          simp only [eb] at o4
          exact fun v σ5 G5 H5 F5 Ft5 l5 k5 s5 st5 r5 nd5 => o4 v σ5 G5 H5 F5 Ft5 l5 k5 (s5.wide subL) st5 r5 nd5
        | ex c d ev2 =>
          simp only [eb] at o4
          exact fun σ5 dd u G5 H5 F5 l5 k5 s5 st5 a b => o4 σ5 dd u G5 H5 F5 l5 k5 (s5.wide subL) st5 a b
        | bad =>
          simp only [eb] at o4
          exact o4
theorem sS_whl (g : GX Ω n W os X) {c : Expr} {body : List Stmt} {pos : Pos} {fc : FF.Env → R (Bool × FF.Env)} {fb : FF.Env → RS} (hc : L2.PT X c (tB1 Ω W fc)) (hb : PSs X body (tS Ω W Kp fb)) (N : Nat) :
    PS X (.While c body [] pos) (tS Ω W Kp fun env => whileL fc fb N env) := by
  refine PS.imp (ps_while g.ps hc hb) fun D σ H ⟨G, env, F, st, o⟩ => ?_
  refine ⟨fun m σ H => ∃ G env F, St Ω G H σ env F ∧ OutS Ω W Kp D G H σ F (whileL fc fb m env), ⟨N, G, env, F, st, o⟩, ?_⟩
  rintro m σ1 H1 ⟨G1, ev, F1, st1, o1⟩
  cases m with
  | zero => exact o1.elim
  | succ m =>
    simp only [whileL] at o1
    refine ⟨G1, ev, F1, st1, ?_⟩
    cases e : fc ev with
    | bad => simp only [e] at o1; exact o1
    | exc c d env' => simp only [e] at o1; exact fun dd u G' H' F' s st a b => o1 σ1 dd u G' H' F' rfl KpEq.refl s st a b
    | ok p =>
      obtain ⟨b, ev1⟩ := p
      intro G2 H2 F2 s2 st2
      have o2 := o1.after rfl KpEq.refl s2
      simp only [e] at o2
      cases b with
      | false =>
        rw [if_neg Bool.false_ne_true]
        exact o2 σ1 G2 H2 F2 rfl KpEq.refl (Step.refl fun _ h => h) st2
      | true =>
        rw [if_pos rfl]
        refine ⟨fun σ H => ∃ G env F, St Ω G H σ env F ∧ OutS Ω W Kp D G H σ F (whileL fc fb m env), fun σ' H' hn => ⟨m, Nat.lt_succ_self m, hn⟩, G2, ev1, F2, st2, ?_⟩
        cases eb : fb ev1 with
        | nx ev2 =>
          simp only [eb] at o2
          exact fun σ5 G5 H5 F5 l5 k5 s5 st5 => ⟨G5, ev2, F5, st5, o2.after l5 k5 s5⟩
        | ct ev2 =>
          simp only [eb] at o2
          exact fun σ5 G5 H5 F5 l5 k5 s5 st5 => ⟨G5, ev2, F5, st5, o2.after l5 k5 s5⟩
        | bk ev2 => simp only [eb] at o2; exact o2
        | rt t' ev2 => simp only [eb] at o2; exact o2
        | ex c d ev2 => simp only [eb] at o2; exact o2
        | bad => simp only [eb] at o2; exact o2
end
end FF

set_option Elab.async false
set_option linter.all false
set_option autoImplicit false
set_option maxRecDepth 100000
/-! FS: an own exception raised; a try that keeps what it caught. -/
namespace FF
open PySem PySem.Spec PyProof.Rows L2
section
variable {X : Cx} {pins : List (Addr × Obj)} {σ : L2.St} {H : Hp} {s : Shared}

/-- an exception object that stands by is tracked from here on -/
theorem track {a C dd : Addr} {ob : Obj} {fv : Array Value} (I : Inv X pins σ H s) (h1 : s.heap.get? a = some ob) (h2 : ob.cls = .ref C) (h3 : ob.dict = some dd) (h4 : ob.data = .fields fv) (ha : H a = none) (hL : a ≠ X.env.locals)
    (h0 : X.s_0.heap.get? a = none) (hc : ∀ x c, X.env.cells.lookup x = some c → c ≠ a) (hp : ∀ p ∈ X.pn ++ pins, p.1 ≠ a) : Inv X pins σ (upd H a (XO C dd a)) s where
  ok := I.ok
  os := I.os
  bare := I.bare
  base := {
    keep := I.base.keep
    slot := I.base.slot
    free := fun b o e n x => by
      rw [upd_ne (fun z => by rw [z, h0] at e; cases e)]
      exact I.base.free b o e n x
    there := I.base.there
    tups := fun b xs e => by
      have q := I.base.tups b xs e
      rw [upd_ne (ne_of_none q ha)]
      exact q
    frzs := fun b o u e => by
      have q := I.base.frzs b o u e
      rw [upd_ne (ne_of_none q ha)]
      exact q
    tbls := fun b ps e => by
      obtain ⟨more, q⟩ := I.base.tbls b ps e
      exact ⟨more, by rw [upd_ne (ne_of_none q ha)]; exact q⟩ }
  loc := I.loc
  cell := I.cell
  free := by rw [upd_ne (Ne.symm hL)]; exact I.free
  freeC := fun x c e => by rw [upd_ne (hc x c e)]; exact I.freeC x c e
  pin := fun p hq => by
    obtain ⟨e1, e2, e3, e4, e5⟩ := I.pin p hq
    exact ⟨e1, by rw [upd_ne (hp p hq)]; exact e2, e3, e4, e5⟩
  hok := fun b u e => by
    by_cases hb : b = a
    · subst hb
      rw [upd_same] at e
      cases e
      exact ⟨⟨ob, fv, h1, h2, h3, h4⟩, ⟨ob, h1⟩, fun _ _ ⟨o, v, q, r⟩ k => ⟨o, v, k o q, r⟩⟩
    · rw [upd_ne hb] at e
      exact (I.hok b u e).stay (fun c w _ q => q) (fun c q => by rw [upd_ne (ne_of_none q ha)]; exact q) fun c xs q => by rw [upd_ne (ne_of_none q ha)]; exact q
  len := I.len
end

/-- what the clause wishes of the body's exception; i: the clause's name, j: the name that keeps it -/
def wKeep (K : PySem.W.Frag) (c : Value) (i j : Nat) (D : Ends) : WX := fun cls d σ H =>
  PySem.W.exmOne K cls c = some true ∧ ∃ C dd, cls = .ref C ∧ d = some dd ∧ ∀ a, H a = none → D.nx (((σ.set i (some (.ref a))).set j (some (.ref a))).set i none) (upd H a (XO C dd a))
section
variable {X : Cx} {x nm y : Str} {c : Value} {i j : Nat} {body : List Stmt} {np yp np2 apos pos pos' : Pos} {tb : WX → TS}
theorem ps_tryK (hs : X.stack = X.env :: X.outer) (hf : X.env.frame = some X.env.locals) (hex : X.ex = []) (hN : X.N.Nodup) (hi : X.N[i]? = some nm) (hln : X.env.kindOf nm = some .local) (hj : X.N[j]? = some y) (hly : X.env.kindOf y = some .local)
    (hg : Gl X x) (hdb : (x == ("__debug__" : Str)) = false) (hm : X.mg x = some c) (hnm : (nm == ("__debug__" : Str)) = false ∧ (nm == ("__classdict__" : Str)) = false)
    (hb : ∀ (W : WX) (pn : List (Addr × Obj)) (xe : Value → Shared → Prop), Takes (X.tr pn xe) W → PassesOwn (model X.prog X.w) X.A X.env xe → PSs (X.tr pn xe) body (tb W)) :
    PS X (.Try body [.ExceptHandler (some (.Name x np)) (some nm) [.Assign [.Name y yp] (.Name nm np2) apos] pos'] [] [] pos) (fun D σ H => tb (wKeep X.K c i j D) D σ H) := by
  constructor
  intro pins s σ H D I h
  have okX := I.ok
  have frs2 : X.A.frames = some (X.env :: X.outer) := okX.frames.trans (by rw [hs])
  refine wpAny_Try_except ?_
  have body2 := (hb (wKeep X.K c i j D) (X.pn ++ pins) (fun ex t1 => wpAny (model X.prog X.w) X.A (noteFrame ex X.env) (fun _ t2 => wpAny (model X.prog X.w) X.A (setFlight ex none) (fun _ t3 =>
    wpAny (model X.prog X.w) X.A (handleBy ex X.env [.ExceptHandler (some (.Name x np)) (some nm) [.Assign [.Name y yp] (.Name nm np2) apos] pos']) (SP X pins D) X.xe t3) X.xe t2) X.xe t1) (fun u s' caught => ?_) PassesOwn.looking).run [] s σ H D (I.toTry _) h
  · refine wpAny_mono body2 (fun fl s1 done => ?_) (fun _ _ z => z)
    cases fl with
    | next =>
      obtain ⟨σ1, H1, J1, q1⟩ := done
      exact wpAny_execs_nil ⟨σ1, H1, J1.ofTry okX, q1⟩
    | brk => obtain ⟨σ1, H1, J1, q1⟩ := done; exact ⟨σ1, H1, J1.ofTry okX, q1⟩
    | cont => obtain ⟨σ1, H1, J1, q1⟩ := done; exact ⟨σ1, H1, J1.ofTry okX, q1⟩
    | ret w => obtain ⟨v1, σ1, H1, J1, r1, q1⟩ := done; exact ⟨v1, σ1, H1, J1.ofTry okX, r1, q1⟩
  · obtain ⟨a, B, sI, pl, σ1, H1, cls, dd0, rfl, JT, nb, up, sky, na, os, ag, wish, C, dd, rfl, rfl, fin⟩ := caught
    have J := JT.ofTry (pn' := pl) okX
    rw [hs] at sky nb
    have sky2 : Sky B (X.env :: X.outer) a (Zc (.ref C) (some dd)) X.env.locals s'.heap := sky
    show wpAny (model X.prog X.w) X.A (noteFrame (.ref a) X.env) _ _ _
    refine Sky.land Zc.steady frs2 hf sky2 fun h3 fly up3 => ?_
    have nb2 : ∀ b o, sI.heap.get? b = some o → b ∉ frs X.stack → B.get? b = some o := fun b o e hb => nb b o e (by rw [hs] at hb; exact hb)
    have J3 : Inv X pins σ1 H1 { s' with heap := h3 } := J.landed nb2 fly.1 (up.trans up3) os ag
    obtain ⟨o3, f3, g3, z3, d3⟩ := fly.there
    have apart : a ∉ frs (X.env :: X.outer) := fun mem => by
      obtain ⟨_, o', e', nf⟩ := fly.2.2.1.mem mem
      rw [g3] at e'
      cases e'
      exact nf _ d3
    have hL : a ≠ X.env.locals := fun z => apart (List.mem_filterMap.mpr ⟨X.env, .head _, by rw [hf, z]⟩)
    have hF : a ∉ X.fs := fun mem => by
      obtain ⟨e, he, q⟩ := List.mem_filterMap.mp mem
      exact apart (List.mem_filterMap.mpr ⟨e, .tail _ he, q⟩)
    have newI : sI.heap.get? a = none := by
      cases e : sI.heap.get? a with
      | none => rfl
      | some o =>
        have := nb a o e apart
        rw [fly.2.1] at this
        cases this
    have new0 : X.s_0.heap.get? a = none := by
      cases e : X.s_0.heap.get? a with
      | none => rfl
      | some o =>
        obtain ⟨o', e'⟩ := J.base.there a o e (by rw [hex]; simp)
        rw [newI] at e'
        cases e'
    have cellA : ∀ x c, X.env.cells.lookup x = some c → c ≠ a := fun x c e z => by
      obtain ⟨w, o, e', _⟩ := J.cell x c e
      rw [z, newI] at e'
      cases e'
    have pinA : ∀ p ∈ X.pn ++ pins, p.1 ≠ a := fun p hp z => by
      have e' := (J.pin p hp).1
      rw [z, newI] at e'
      cases e'
    have S3 := J3.suite g3 d3 na hL hF
    refine wpAny_handleBy_cons (codeAny_handlers_test ?_) (by intro q; cases q)
    refine ld_glob (X := X.suite a ((a, o3) :: (X.pn ++ pins))) S3 hg hm ?_ hdb
    have LT : PySem.W.Looks (model X.prog X.w) h3 (typeOf (.ref a)) (.ref C) := fun A' Q' E' t k q => wpAny_typeOf_ref (k _ _ g3) (z3.1 ▸ q)
    refine (PySem.W.exm_one (M := model X.prog X.w) J3.kIn LT wish).here ?_
    refine codeAny_handlers_suite_as ?_
    refine HandSPX.lands_againZ fly fun h4 fly4 up4 => ?_
    have J4 : Inv X pins σ1 H1 { s' with heap := h4 } := J.landed nb2 fly4.1 ((up.trans up3).trans up4) os ag
    obtain ⟨o4, f4, g4, z4, d4⟩ := fly4.there
    have S4 := J4.suite g4 d4 na hL hF
    refine store_ok (X := X.suite a ((a, o4) :: (X.pn ++ pins))) (v := .ref a) S4 hN hi (.inl hln) rfl (fun s5 S5 => ?_) (.inr hln)
    have keepIt : PS (X.suite a ((a, o4) :: (X.pn ++ pins))) (.Assign [.Name y yp] (.Name nm np2) apos) (tAsg (tVar i) (gName j)) :=
      ps_set hN hj (.inl hly) (pe_var hi (.inl hln) hnm.1 hnm.2) rfl (.inr hly)
    have len1 : i < σ1.length := by rw [J.len]; exact (List.getElem?_eq_some_iff.mp hi).1
    refine wpAny_mono ((pss_one keepIt).run [] s5 _ H1 { nx := fun σ' H' => σ' = (σ1.set i (some (.ref a))).set j (some (.ref a)) ∧ H' = H1, rt := fun _ _ => False } S5 ⟨.ref a, List.getElem?_set_self len1, rfl, rfl⟩) (fun fl s6 done => ?_) (fun _ _ z => z.elim)
    cases fl with
    | next =>
      obtain ⟨σ6, H6, S6, rfl, rfl⟩ := done
      have there := (S6.pin (a, o4) (List.mem_append_left _ (.head _))).1
      have T6 : Inv X pins ((σ1.set i (some (.ref a))).set j (some (.ref a))) (upd H6 a (XO C dd a)) s6 := track (S6.unsuite okX) there z4.1 z4.2 d4 na hL new0 cellA pinA
      exact gone_ok T6 hN hi hln fun s7 J7 => ⟨_, _, J7, fin a na⟩
    | brk => obtain ⟨_, _, _, q⟩ := done; exact q.elim
    | cont => obtain ⟨_, _, _, q⟩ := done; exact q.elim
    | ret w => obtain ⟨_, _, _, _, _, q⟩ := done; exact q.elim
/-- what the clause wishes, where it gives the exception back -/
def wBack (K : PySem.W.Frag) (c : Value) (D : Ends) : WX := fun cls d _ H =>
  PySem.W.exmOne K cls c = some true ∧ ∃ C dd, cls = .ref C ∧ d = some dd ∧ ∀ a, H a = none → D.rt (.ref a) (upd H a (XO C dd a))
theorem ps_tryR {rpos : Pos} (hs : X.stack = X.env :: X.outer) (hf : X.env.frame = some X.env.locals) (hex : X.ex = []) (hN : X.N.Nodup) (hi : X.N[i]? = some nm) (hln : X.env.kindOf nm = some .local)
    (hg : Gl X x) (hdb : (x == ("__debug__" : Str)) = false) (hm : X.mg x = some c) (hnm : (nm == ("__debug__" : Str)) = false ∧ (nm == ("__classdict__" : Str)) = false)
    (hb : ∀ (W : WX) (pn : List (Addr × Obj)) (xe : Value → Shared → Prop), Takes (X.tr pn xe) W → PassesOwn (model X.prog X.w) X.A X.env xe → PSs (X.tr pn xe) body (tb W)) :
    PS X (.Try body [.ExceptHandler (some (.Name x np)) (some nm) [.Return (some (.Name nm np2)) rpos] pos'] [] [] pos) (fun D σ H => tb (wBack X.K c D) D σ H) := by
  constructor
  intro pins s σ H D I h
  have okX := I.ok
  have frs2 : X.A.frames = some (X.env :: X.outer) := okX.frames.trans (by rw [hs])
  refine wpAny_Try_except ?_
  have body2 := (hb (wBack X.K c D) (X.pn ++ pins) (fun ex t1 => wpAny (model X.prog X.w) X.A (noteFrame ex X.env) (fun _ t2 => wpAny (model X.prog X.w) X.A (setFlight ex none) (fun _ t3 =>
    wpAny (model X.prog X.w) X.A (handleBy ex X.env [.ExceptHandler (some (.Name x np)) (some nm) [.Return (some (.Name nm np2)) rpos] pos']) (SP X pins D) X.xe t3) X.xe t2) X.xe t1) (fun u s' caught => ?_) PassesOwn.looking).run [] s σ H D (I.toTry _) h
  · refine wpAny_mono body2 (fun fl s1 done => ?_) (fun _ _ z => z)
    cases fl with
    | next =>
      obtain ⟨σ1, H1, J1, q1⟩ := done
      exact wpAny_execs_nil ⟨σ1, H1, J1.ofTry okX, q1⟩
    | brk => obtain ⟨σ1, H1, J1, q1⟩ := done; exact ⟨σ1, H1, J1.ofTry okX, q1⟩
    | cont => obtain ⟨σ1, H1, J1, q1⟩ := done; exact ⟨σ1, H1, J1.ofTry okX, q1⟩
    | ret w => obtain ⟨v1, σ1, H1, J1, r1, q1⟩ := done; exact ⟨v1, σ1, H1, J1.ofTry okX, r1, q1⟩
  · obtain ⟨a, B, sI, pl, σ1, H1, cls, dd0, rfl, JT, nb, up, sky, na, os, ag, wish, C, dd, rfl, rfl, fin⟩ := caught
    have J := JT.ofTry (pn' := pl) okX
    rw [hs] at sky nb
    have sky2 : Sky B (X.env :: X.outer) a (Zc (.ref C) (some dd)) X.env.locals s'.heap := sky
    show wpAny (model X.prog X.w) X.A (noteFrame (.ref a) X.env) _ _ _
    refine Sky.land Zc.steady frs2 hf sky2 fun h3 fly up3 => ?_
    have nb2 : ∀ b o, sI.heap.get? b = some o → b ∉ frs X.stack → B.get? b = some o := fun b o e hb => nb b o e (by rw [hs] at hb; exact hb)
    have J3 : Inv X pins σ1 H1 { s' with heap := h3 } := J.landed nb2 fly.1 (up.trans up3) os ag
    obtain ⟨o3, f3, g3, z3, d3⟩ := fly.there
    have apart : a ∉ frs (X.env :: X.outer) := fun mem => by
      obtain ⟨_, o', e', nf⟩ := fly.2.2.1.mem mem
      rw [g3] at e'
      cases e'
      exact nf _ d3
    have hL : a ≠ X.env.locals := fun z => apart (List.mem_filterMap.mpr ⟨X.env, .head _, by rw [hf, z]⟩)
    have hF : a ∉ X.fs := fun mem => by
      obtain ⟨e, he, q⟩ := List.mem_filterMap.mp mem
      exact apart (List.mem_filterMap.mpr ⟨e, .tail _ he, q⟩)
    have newI : sI.heap.get? a = none := by
      cases e : sI.heap.get? a with
      | none => rfl
      | some o =>
        have := nb a o e apart
        rw [fly.2.1] at this
        cases this
    have new0 : X.s_0.heap.get? a = none := by
      cases e : X.s_0.heap.get? a with
      | none => rfl
      | some o =>
        obtain ⟨o', e'⟩ := J.base.there a o e (by rw [hex]; simp)
        rw [newI] at e'
        cases e'
    have cellA : ∀ x c, X.env.cells.lookup x = some c → c ≠ a := fun x c e z => by
      obtain ⟨w, o, e', _⟩ := J.cell x c e
      rw [z, newI] at e'
      cases e'
    have pinA : ∀ p ∈ X.pn ++ pins, p.1 ≠ a := fun p hp z => by
      have e' := (J.pin p hp).1
      rw [z, newI] at e'
      cases e'
    have S3 := J3.suite g3 d3 na hL hF
    refine wpAny_handleBy_cons (codeAny_handlers_test ?_) (by intro q; cases q)
    refine ld_glob (X := X.suite a ((a, o3) :: (X.pn ++ pins))) S3 hg hm ?_ hdb
    have LT : PySem.W.Looks (model X.prog X.w) h3 (typeOf (.ref a)) (.ref C) := fun A' Q' E' t k q => wpAny_typeOf_ref (k _ _ g3) (z3.1 ▸ q)
    refine (PySem.W.exm_one (M := model X.prog X.w) J3.kIn LT wish).here ?_
    refine codeAny_handlers_suite_as ?_
    refine HandSPX.lands_againZ fly fun h4 fly4 up4 => ?_
    have J4 : Inv X pins σ1 H1 { s' with heap := h4 } := J.landed nb2 fly4.1 ((up.trans up3).trans up4) os ag
    obtain ⟨o4, f4, g4, z4, d4⟩ := fly4.there
    have S4 := J4.suite g4 d4 na hL hF
    refine store_ok (X := X.suite a ((a, o4) :: (X.pn ++ pins))) (v := .ref a) S4 hN hi (.inl hln) rfl (fun s5 S5 => ?_) (.inr hln)
    have back : PS (X.suite a ((a, o4) :: (X.pn ++ pins))) (.Return (some (.Name nm np2)) rpos) (tRet (tVar i)) :=
      ps_ret (pe_var hi (.inl hln) hnm.1 hnm.2)
    have len1 : i < σ1.length := by rw [J.len]; exact (List.getElem?_eq_some_iff.mp hi).1
    refine wpAny_mono ((pss_one back).run [] s5 _ H1 { nx := fun _ _ => False, rt := fun v H' => v = .ref a ∧ H' = H1 } S5 ⟨.ref a, List.getElem?_set_self len1, rfl, rfl⟩) (fun fl s6 done => ?_) (fun _ _ z => z.elim)
    cases fl with
    | next => obtain ⟨_, _, _, q⟩ := done; exact q.elim
    | brk => obtain ⟨_, _, _, q⟩ := done; exact q.elim
    | cont => obtain ⟨_, _, _, q⟩ := done; exact q.elim
    | ret w =>
      obtain ⟨v6, σ6, H6, S6, r6, rfl, rfl⟩ := done
      have there := (S6.pin (a, o4) (List.mem_append_left _ (.head _))).1
      have T6 : Inv X pins σ6 (upd H6 a (XO C dd a)) s6 := track (S6.unsuite okX) there z4.1 z4.2 d4 na hL new0 cellA pinA
      exact gone_ok T6 hN hi hln fun s7 J7 => ⟨.ref a, _, _, J7, r6, fin a na⟩
end
end FF

set_option Elab.async false
set_option linter.all false
set_option autoImplicit false
set_option maxRecDepth 100000
/-! FT: more statements; a checked block is what its IR says. -/
namespace FF
open PySem PySem.Spec PyProof.Rows L2
section
variable {Ω : Wd} {W : WX} {G H : Hp} {σ : L2.St} {F : List Addr} {Θ : Tab} {n : Nat} {os : Scope} {X : Cx} {Kp : List Nat}

def setsV : L2.St → List Nat → List V → L2.St
  | σ, i :: is, v :: vs => setsV (σ.set i (some v)) is vs
  | σ, _, _ => σ
theorem setsV_len : ∀ (is : List Nat) (vs : List V) (σ : L2.St), (setsV σ is vs).length = σ.length
  | [], _, _ => rfl
  | _ :: _, [], _ => rfl
  | i :: is, v :: vs, σ => by
    show (setsV (σ.set i (some v)) is vs).length = _
    rw [setsV_len is vs, List.length_set]
theorem setsV_get : ∀ (is : List Nat) (vs : List V) (σ : L2.St) (j : Nat), j ∉ is → (setsV σ is vs)[j]? = σ[j]?
  | [], _, _, _, _ => rfl
  | _ :: _, [], _, _, _ => rfl
  | i :: is, v :: vs, σ, j, h => by
    show (setsV (σ.set i (some v)) is vs)[j]? = _
    rw [setsV_get is vs _ j fun z => h (List.mem_cons_of_mem _ z), List.getElem?_set_ne fun z => h (by rw [z]; exact List.mem_cons_self ..)]
theorem names_ok : ∀ {is : List Nat} {vs : List V} {ts : List Tr} {env env' : FF.Env} {σ : L2.St} {F Ft : List Addr}, St Ω G H σ env F → TRs Ω G H vs ts Ft → (F ++ Ft).Nodup → setNames is ts env = some env' →
    ∃ F', St Ω G H (setsV σ is vs) env' F' ∧ ∀ p ∈ F', p ∈ F ++ Ft
  | [], _, [], env, env', σ, F, _, st, .nil, nd, h => by
    simp only [setNames, Option.some.injEq] at h
    subst h
    exact ⟨F, st, fun p hp => List.mem_append_left _ hp⟩
  | [], _, _ :: _, env, env', σ, F, Ft, st, r, nd, h => by simp [setNames] at h
  | _ :: _, _, [], env, env', σ, F, Ft, st, r, nd, h => by simp [setNames] at h
  | i :: is, _, t :: ts, env, env', σ, F, _, st, .cons (v := v) (vs := vs) (F1 := F1) (F2 := F2) r1 r2, nd, h => by
    simp only [setNames] at h
    split at h
    · rename_i hi
      rw [← List.append_assoc] at nd
      obtain ⟨n1, n2, dj⟩ := nodup_app.mp nd
      obtain ⟨F3, sub, st3⟩ := st.put hi r1 n1
      obtain ⟨F4, st4, sub4⟩ := names_ok (is := is) st3 r2 (nodup_app.mpr ⟨st3.nd, n2, fun p hp hq => dj p (sub p hp) hq⟩) h
      refine ⟨F4, st4, fun p hp => ?_⟩
      rcases List.mem_append.mp (sub4 p hp) with z | z
      · rcases List.mem_append.mp (sub p z) with z | z
        · exact List.mem_append_left _ z
        · exact List.mem_append_right _ (List.mem_append_left _ z)
      · exact List.mem_append_right _ (List.mem_append_right _ z)
    · cases h
def parK (is : List Nat) (vs : List Val) (env1 : FF.Env) : RS := match takes vs env1 with
  | some (ts, env2) => (match setNames is ts env2 with
    | some env3 => .nx env3
    | none => .bad)
  | none => .bad
theorem setNames_len : ∀ {is : List Nat} {ts : List Tr} {env env' : FF.Env}, setNames is ts env = some env' → ts.length = is.length
  | [], [], _, _, _ => rfl
  | [], _ :: _, _, _, h => by simp [setNames] at h
  | _ :: _, [], _, _, h => by simp [setNames] at h
  | i :: is, t :: ts, env, env', h => by
    simp only [setNames] at h
    split at h
    · simp [setNames_len h]
    · cases h
theorem parK_ok {is : List Nat} {env : FF.Env} {xs : List V} {vxs : List Val} {Fx : List Addr} {D : Ends} (hk : ∀ i ∈ is, i ∉ Kp) (st : St Ω G H σ env F) (vr : VRs Ω G H σ env.length xs vxs Fx) (nd : (F ++ Fx).Nodup) (o : OutS Ω W Kp D G H σ (F ++ Fx) (parK is vxs env)) :
    xs.length = is.length ∧ D.nx (setsV σ is xs) H := by
  unfold parK at o
  split at o
  · rename_i ts env2 e1
    obtain ⟨G1, F1, Ft, s1, st1, r1, nd1, l1⟩ := takes_ok st vr nd e1
    split at o
    · rename_i env3 e2
      obtain ⟨F', st2, sub⟩ := names_ok st1 r1 nd1 e2
      exact ⟨r1.len.trans (setNames_len e2), o _ G1 H F' (setsV_len ..) (fun j hj => setsV_get is xs σ j fun z => hk j z hj) (s1.sub sub) st2⟩
    · exact o.elim
  · exact o.elim
theorem sS_par2 (g : GX Ω n W os X) {i j : Nat} {x y : Str} {a b : Expr} {px py pt pt2 pos : Pos} {k k2 : Nat} {fs : FF.Env → R (List Val × FF.Env)} (hi : X.N[i]? = some x) (hj : X.N[j]? = some y) (hij : i ≠ j) (hx : X.env.scope.names.lookup x = some .local) (hy : X.env.scope.names.lookup y = some .local)
    (ha : PA X [a, b] (tL Ω W fs)) (hw : parC X.env.scope [.Name x px, .Name y py] [a, b] [x, y] = true) (hk : ∀ l ∈ [i, j], l ∉ Kp) :
    PS X (.Assign [.Tuple [.Name x px, .Name y py] k pt] (.Tuple [a, b] k2 pt2) pos) (tS Ω W Kp fun env => (match fs env with | .ok p => parK [i, j] p.1 p.2 | .exc c d env => .ex c d env | .bad => .bad)) := by
  refine PS.imp (ps_par g.calm g.nd hi hj hij hx hy ha (par_ss g.kind hw) (tup_sw _ _)) fun D σ H hh => manyS (k := parK [i, j]) hh fun xs vxs G1 H1 env1 F1 Fx st vr nd o => ?_
  obtain ⟨l, q⟩ := parK_ok hk st vr nd o
  match xs, l with
  | [v, w], _ => exact ⟨v, w, rfl, q⟩
theorem sS_par3 (g : GX Ω n W os X) {i j l : Nat} {x y z : Str} {a b c : Expr} {px py pz pt pt2 pos : Pos} {k k2 : Nat} {fs : FF.Env → R (List Val × FF.Env)} (hi : X.N[i]? = some x) (hj : X.N[j]? = some y) (hl : X.N[l]? = some z) (hij : i ≠ j) (hil : i ≠ l) (hjl : j ≠ l)
    (hx : X.env.scope.names.lookup x = some .local) (hy : X.env.scope.names.lookup y = some .local) (hz : X.env.scope.names.lookup z = some .local)
    (ha : PA X [a, b, c] (tL Ω W fs)) (hw : parC X.env.scope [.Name x px, .Name y py, .Name z pz] [a, b, c] [x, y, z] = true) (hk : ∀ m ∈ [i, j, l], m ∉ Kp) :
    PS X (.Assign [.Tuple [.Name x px, .Name y py, .Name z pz] k pt] (.Tuple [a, b, c] k2 pt2) pos) (tS Ω W Kp fun env => (match fs env with | .ok p => parK [i, j, l] p.1 p.2 | .exc c d env => .ex c d env | .bad => .bad)) := by
  refine PS.imp (ps_par3 g.calm g.nd hi hj hl hij hil hjl hx hy hz ha (par_ss g.kind hw) (tup_sw _ _)) fun D σ H hh => manyS (k := parK [i, j, l]) hh fun xs vxs G1 H1 env1 F1 Fx st vr nd o => ?_
  obtain ⟨l, q⟩ := parK_ok hk st vr nd o
  match xs, l with
  | [u, v, w], _ => exact ⟨u, v, w, rfl, q⟩

/-! ### x[i] = e -/
def setK (fi : FF.Env → R (Val × FF.Env)) (x : Nat) (v : Val) (env1 : FF.Env) : RS := match take v env1 with
  | some (t, env2) => (match slot env2 x with
    | some (.lst _) => (match fi env2 with
      | .ok (vi, env3) => (match getV env3 vi, slot env3 x with
        | some (.sh (.int k)), some (.lst ts) => (match ixN ts.length k with
          | some j => .nx (env3.set x (some (.lst (ts.set j t))))
          | none => .bad)
        | _, _ => .bad)
      | .exc c d env1 => .ex c d env1
      | .bad => .bad)
    | _ => .bad)
  | none => .bad
theorem sS_set (g : GX Ω n W os X) {x : Nat} {nm : Str} {px spos pos : Pos} {ie e : Expr} {fi fe : FF.Env → R (Val × FF.Env)} (hx : rdOk X.env.scope X.N x nm = true) (hi : PE X ie (tF Ω W fi)) (he : PE X e (tF Ω W fe)) (hsl : isSliceE ie = false) (hk : x ∉ Kp ∨ True) :
    PS X (.Assign [.Subscript (.Name nm px) ie spos] e pos) (tS Ω W Kp fun env => after (fe env) (setK fi x)) := by
  unfold rdOk at hx
  simp only [Bool.and_eq_true, decide_eq_true_eq] at hx
  obtain ⟨p1, p2, _⟩ := plainN_of hx.2
  have pg : PG X (.Subscript (.Name nm px) ie spos) (gSub (tVar x) (tF Ω W fi) rSetL) := pg_sub (pe_var hx.1.1 (vis_of hx.1.2) p1 p2) hi set_list (by
    intro v
    cases ie with
    | Slice => cases hsl
    | _ => rfl)
  refine PS.imp (ps_asg he pg (sub_sw _ _) (sub_ss _) rfl) fun D σ H hh => oneS hh fun v vx G1 H1 env1 F1 Fx st vr nd o => ?_
  unfold setK at o
  split at o
  · rename_i t env2 e1
    obtain ⟨G2, F2, Ft, s2, st2, r2, nd2, l2⟩ := take_ok st vr nd e1
    have o := o.after rfl KpEq.refl s2
    split at o
    · rename_i ts0 e2
      obtain ⟨v0, A1, A2, a1, _⟩ := st2.out e2
      refine ⟨v0, a1, G2, env2, F2, st2, ?_⟩
      obtain ⟨n1, n2, dj⟩ := nodup_app.mp nd2
      cases e3 : fi env2 with
      | bad => simp only [e3] at o; exact o
      | exc c d env' =>
        simp only [e3] at o
        exact fun dd u G' H' F' s st a b => o σ dd u G' H' F' rfl KpEq.refl (s.wide subL) st a b
      | ok q =>
        obtain ⟨vi, env3⟩ := q
        simp only [e3] at o
        intro iv G3 H3 F3 Fi s3 st3 vr3 nd3
        obtain ⟨k1, k2, kj⟩ := nodup_app.mp nd3
        obtain ⟨r3, d3⟩ := r2.step s3 dj.symm
        obtain ⟨d31, d32⟩ := Disj.appR.mp d3
        have o := o.after rfl KpEq.refl (s3.frame (R := Ft))
        split at o
        · rename_i k ts e4 e5
          cases dp_int (getV_atom st3 vr3 e4)
          split at o
          · rename_i j e6
            obtain ⟨w, B1, B2, b1, b2, b3, b4, b5⟩ := st3.out e5
            rw [a1] at b1
            cases b1
            cases b2 with
            | @lst p xs _ Fl eH gN rl =>
              have hj : j < ts.length := (ixN_seq e6).2.1
              obtain ⟨tj, etj⟩ : ∃ tj, ts[j]? = some tj := ⟨ts[j], List.getElem?_eq_getElem hj⟩
              obtain ⟨xj, C0, C1, C2, c1, rfl, c3, c4, c5⟩ := rl.at etj
              obtain ⟨m1, m2, mj⟩ := nodup_app.mp b5
              obtain ⟨mp, m3⟩ := List.nodup_cons.mp m1
              obtain ⟨m4, m5, mj2⟩ := nodup_app.mp m3
              obtain ⟨m6, m7, mj3⟩ := nodup_app.mp m5
              have inF : ∀ q, q ∈ p :: (C0 ++ (C1 ++ C2)) ∨ q ∈ B2 → q ∈ F3 := fun q hq => b4.mem_iff.mpr (List.mem_append.mpr hq)
              have dT : ∀ q ∈ Ft, q ∉ F3 := d31
              refine ⟨p, xs, k, j, rfl, rfl, eH, by rw [rl.len]; exact e6, ?_⟩
              have sw : Step G3 H3 [p] G3 (upd H3 p (.lst (xs.set j v))) [p] := Step.write (List.mem_singleton.mpr rfl)
              have smw : Same G3 (upd H3 p (.lst (xs.set j v))) := same_write st3.same gN
              have djp : ∀ {A : List Addr}, p ∉ A → Disj A [p] := fun h q hq hq2 => by rw [List.mem_singleton] at hq2; subst hq2; exact h hq
              have pT : p ∉ Ft := fun z => dT p z (inF p (.inl (List.mem_cons_self ..)))
              have pB : p ∉ B2 := fun z => mj p (List.mem_cons_self ..) z
              have c4' := (c4.step sw (djp fun z => mp (List.mem_append_left _ z))).1
              have c5' := (c5.step sw (djp fun z => mp (List.mem_append_right _ (List.mem_append_right _ z)))).1
              have r3' := (r3.step sw (djp pT)).1
              have hj' : j < xs.length := by rw [rl.len]; exact hj
              have new : TRs Ω G3 (upd H3 p (.lst (xs.set j v))) (xs.set j v) (ts.set j t) (C0 ++ (Ft ++ C2)) := by
                have z := c4'.app (.cons r3' c5')
                rw [← set_parts hj, ← set_parts hj'] at z
                exact z
              have b3' : SlR Ω G3 (upd H3 p (.lst (xs.set j v))) σ (env3.set x none) B2 := b3.to (Same.refl _) (fun q hq u e => by rw [upd_ne (fun z => pB (by rw [← z]; exact hq))]; exact e) fun q hq => (b3.there q hq).2
              obtain ⟨F5, f1, f2⟩ := b3'.back (slot_lt e5) (TR.lst upd_same gN new) a1
              have mm : ∀ q, q ∈ F5 → q ∈ F3 ∨ q ∈ Ft := fun q hq => by
                have z := f2.mem_iff.mp hq
                simp only [List.mem_append, List.mem_cons] at z
                rcases z with (z | z | z | z) | z
                · exact .inl (inF q (.inl (by rw [z]; exact List.mem_cons_self ..)))
                · exact .inl (inF q (.inl (List.mem_cons_of_mem _ (List.mem_append_left _ z))))
                · exact .inr z
                · exact .inl (inF q (.inl (List.mem_cons_of_mem _ (List.mem_append_right _ (List.mem_append_right _ z)))))
                · exact .inl (inF q (.inr z))
              have nd5 : F5.Nodup := f2.nodup_iff.mpr (nodup_app.mpr ⟨List.nodup_cons.mpr ⟨fun z => by
                  simp only [List.mem_append] at z
                  rcases z with z | z | z
                  · exact mp (List.mem_append_left _ z)
                  · exact pT z
                  · exact mp (List.mem_append_right _ (List.mem_append_right _ z)), nodup_app.mpr ⟨m4, nodup_app.mpr ⟨n2, m7, fun q hq hq2 => dT q hq (inF q (.inl (List.mem_cons_of_mem _ (List.mem_append_right _ (List.mem_append_right _ hq2)))))⟩, fun q hq hq2 => by
                  rcases List.mem_append.mp hq2 with z | z
                  · exact dT q z (inF q (.inl (List.mem_cons_of_mem _ (List.mem_append_left _ hq))))
                  · exact mj2 q hq (List.mem_append_right _ z)⟩⟩, m2, fun q hq hq2 => by
                  rcases List.mem_cons.mp hq with z | z
                  · subst z; exact pB hq2
                  · simp only [List.mem_append] at z
                    rcases z with z | z | z
                    · exact mj q (List.mem_cons_of_mem _ (List.mem_append_left _ z)) hq2
                    · exact dT q z (inF q (.inr hq2))
                    · exact mj q (List.mem_cons_of_mem _ (List.mem_append_right _ (List.mem_append_right _ z))) hq2⟩)
              refine o σ G3 _ F5 rfl KpEq.refl (((sw.frame (R := F3 ++ Ft)).wide fun q hq => ?_).sub fun q hq => ?_) ⟨smw, f1, nd5⟩
              · simp only [List.mem_append, List.mem_singleton] at hq ⊢
                rcases hq with hq | hq | hq
                · exact .inl (.inl (inF q (.inl (by rw [hq]; exact List.mem_cons_self ..))))
                · exact .inl (.inl hq)
                · exact .inr hq
              · exact List.mem_append_right _ (List.mem_append.mpr (mm q hq))
          · exact o.elim
        · exact o.elim
    · exact o.elim
  · exact o.elim

/-! ### name = [.. for ..] on one line -/
theorem sS_setLc (g : GX Ω n W X.env.scope X) {i : Nat} {y : Str} {py pos spos : Pos} {elt te it : Expr} {ifs : List Expr} {scope : Scope} {own : List (Str × Nat)} {tg : Tg} {fs : FF.Env → R (List Tr × FF.Env)} {ft : FF.Env → R (Bool × FF.Env)} {fe : FF.Env → R (Val × FF.Env)}
    (hy : X.N[i]? = some y) (hyl : X.env.scope.names.lookup y = some .local) (hl : (py.line == pos.line) = true) (ha : (scope.names.any fun (n, k) => n == y && (k == .local || k == .cell)) = false)
    (hi : PI X te it (tI Ω W fs)) (h1 : blkC X.N X.env.scope scope own = true) (hset : isSetE it = false) (htg : chkTg (relS scope X.env.scope) scope X.N tg te = true) (hsub : ∀ i ∈ tgSl tg, i ∈ own.map (·.2)) (hk : i ∉ Kp)
    (ht : ∀ s H C cl fp, PTs (X.blk s H scope (compEnvC scope cl C X.env) fp) ifs (tB1 Ω noW ft)) (he : ∀ s H C cl fp, PE (X.blk s H scope (compEnvC scope cl C X.env) fp) elt (tF Ω noW fe)) :
    PS X (.Assign [.Name y py] (.ListComp elt [⟨te, it, ifs, 0⟩] scope pos) spos) (tS Ω W Kp fun env => after ((fs env).bind fun p => if p.1.length ≤ sizeLine then (noEx (compL tg ft fe (own.map (·.2)) p.1 p.2)).bind fun q => .ok (.tr (.lst q.1), restore p.2 q.2 (own.map (·.2))) else .bad) (asgK (.name i))) := by
  refine PS.imp (ps_setLc g.calm g.nd hy hyl (sw_true g.kind hyl hl ha) hi (blkOk_by h1) (fun s H C cl fp => soundTg (blk_gx g h1 s H C cl fp) tg te htg) ht he (noSetIt hset X.env)) fun D σ H hh => ?_
  refine sE_comp hsub (oneS hh fun x vx G1 H1 env1 F1 Fx st vr nd o => ?_)
  obtain ⟨G2, env2, F2, t, Ft, st2, r2, nd2, q⟩ := asgK_ok (tg := .name i) (fun j hj => by simp only [tgSl, List.mem_singleton] at hj; subst hj; exact hk) st vr nd o
  show D.nx (σ.set i (some x)) H1
  simp only [asg] at q
  split at q
  · rename_i env' e1
    split at e1
    · rename_i hi
      cases e1
      obtain ⟨F', q1, q2⟩ := st2.put hi r2 nd2
      exact q _ G2 F' (by simp) (fun j hj => by
        rw [List.getElem?_set_ne]
        intro z; subst z; exact hj (by simp [tgSl])) (Step.refl q1) q2
    · cases e1
  · exact q.elim

theorem sS_setLc2 (g : GX Ω n W X.env.scope X) {i : Nat} {y : Str} {py pos spos : Pos} {elt te it te1 it1 : Expr} {ifs ifs1 : List Expr} {scope : Scope} {own : List (Str × Nat)} {tg tg1 : Tg} {vs1 : List Nat} {fs1 : FF.Env → R (List Tr × FF.Env)} {ft1 : FF.Env → R (Bool × FF.Env)} {fs : FF.Env → R (List Tr × FF.Env)} {ft : FF.Env → R (Bool × FF.Env)} {fe : FF.Env → R (Val × FF.Env)}
    (hy : X.N[i]? = some y) (hyl : X.env.scope.names.lookup y = some .local) (hl : (py.line == pos.line) = true) (ha : (scope.names.any fun (n, k) => n == y && (k == .local || k == .cell)) = false)
    (hi : PI X te it (tI Ω W fs)) (h1 : blkC X.N X.env.scope scope own = true) (hset : isSetE it = false) (htg : chkTg (relS scope X.env.scope) scope X.N tg te = true) (hsub : ∀ i ∈ tgSl tg, i ∈ own.map (·.2)) (hk : i ∉ Kp) (hset1 : isSetE it1 = false) (hsub1 : ∀ i ∈ tgSl tg1, i ∈ vs1) (hv : ∀ i ∈ vs1, i ∈ own.map (·.2)) (htg1 : chkTg (relS scope X.env.scope) scope X.N tg1 te1 = true)
    (hi1 : ∀ s H C cl fp, PI (X.blk s H scope (compEnvC scope cl C X.env) fp) te1 it1 (tI Ω noW fs1)) (ht1 : ∀ s H C cl fp, PTs (X.blk s H scope (compEnvC scope cl C X.env) fp) ifs1 (tB1 Ω noW ft1))
    (ht : ∀ s H C cl fp, PTs (X.blk s H scope (compEnvC scope cl C X.env) fp) ifs (tB1 Ω noW ft)) (he : ∀ s H C cl fp, PE (X.blk s H scope (compEnvC scope cl C X.env) fp) elt (tF Ω noW fe)) :
    PS X (.Assign [.Name y py] (.ListComp elt [⟨te, it, ifs, 0⟩, ⟨te1, it1, ifs1, 0⟩] scope pos) spos) (tS Ω W Kp fun env => after ((fs env).bind fun p => (noEx (compL2 tg ft fs1 tg1 ft1 fe (own.map (·.2)) vs1 p.1 p.2)).bind fun q => if q.1.length ≤ sizeLine then .ok (.tr (.lst q.1), restore p.2 q.2 (own.map (·.2))) else .bad) (asgK (.name i))) := by
  refine PS.imp (ps_setLc2 g.calm g.nd hy hyl (sw_true g.kind hyl hl ha) hi (blkOk_by h1) hv (fun s H C cl fp => soundTg (blk_gx g h1 s H C cl fp) tg te htg) ht hi1 (fun s H C cl fp => soundTg (blk_gx g h1 s H C cl fp) tg1 te1 htg1) ht1 he (noSetIt hset X.env) (fun env => noSetIt hset1 env)) fun D σ H hh => ?_
  refine sE_comp2 hsub hsub1 hv (oneS hh fun x vx G1 H1 env1 F1 Fx st vr nd o => ?_)
  obtain ⟨G2, env2, F2, t, Ft, st2, r2, nd2, q⟩ := asgK_ok (tg := .name i) (fun j hj => by simp only [tgSl, List.mem_singleton] at hj; subst hj; exact hk) st vr nd o
  show D.nx (σ.set i (some x)) H1
  simp only [asg] at q
  split at q
  · rename_i env' e1
    split at e1
    · rename_i hi
      cases e1
      obtain ⟨F', q1, q2⟩ := st2.put hi r2 nd2
      exact q _ G2 F' (by simp) (fun j hj => by
        rw [List.getElem?_set_ne]
        intro z; subst z; exact hj (by simp [tgSl])) (Step.refl q1) q2
    · cases e1
  · exact q.elim

/-! ### raise -/
theorem pa_one {v : Expr} {f : FF.Env → R (Val × FF.Env)} (h : PE X v (tF Ω W f)) (hp : plainE v = true) : PA X [v] (tCons (tF Ω W f) tNil) := pa_consP h pa_nil hp
def raiK (c : Nat) (v : Val) (env1 : FF.Env) : RS := match takeF v env1 with
  | some (.sh d, env2) => .ex c d env2
  | _ => .bad
theorem fin_heap {H1 : Hp} {a dx C : Addr} {v : V} (ha : H1 a = none) (hd : H1 dx = none) (hne : dx ≠ a) :
    upd (del (upd (upd (upd H1 a (exo a C none)) dx (exd dx [("value", v)])) a (exo a C (some dx))) a) dx (.xd [("value", v)]) = upd H1 dx (.xd [("value", v)]) := by
  funext b
  by_cases hb : b = dx
  · subst hb; rw [upd_same, upd_same]
  · rw [upd_ne hb, upd_ne hb]
    by_cases hb2 : b = a
    · subst hb2; rw [del_same, ha]
    · rw [del_ne hb2, upd_ne hb2, upd_ne hb, upd_ne hb2]
theorem sS_rai (g : GX Ω n W os X) (T : TO Ω Θ n) {c : Nat} {x : Str} {v : Expr} {p pos pos2 : Pos} {f : FF.Env → R (Val × FF.Env)} (hc : Θ.cls[c]? = some x) (hg : glOk X.env.scope x = true) (hv : PE X v (tF Ω W f)) (hp : plainE v = true) :
    PS X (.Raise (some (.Call (.Name x p) [v] [] pos)) none pos2) (tS Ω W Kp fun env => after (f env) (raiK c)) := by
  obtain ⟨h1, h2, _⟩ := glOk_of hg
  have hlt : c < Ω.nc := by rw [T.ncl]; exact (List.getElem?_eq_some_iff.mp hc).1
  have hpos : 0 < Ω.nc := Nat.lt_of_le_of_lt (Nat.zero_le _) hlt
  obtain ⟨ox, sup, ini⟩ := T.rai c hlt
  have k := T.exk c hlt
  have FI := T.fnI hpos
  have bI := T.bdI hpos
  have tI := T.tyI hpos
  have ox' := ox
  rw [← g.w.P, ← g.w.w, ← g.w.K, ← g.w.mg, ← g.w.base] at FI
  rw [← g.w.K] at bI tI ini ox'
  have mk := pmk_oex (p := p) (pos := pos) (dvs := []) ox' ini tI FI (g.room.mono (by omega)) bI .nil (passes_call g.tk (fun _ _ _ _ h => h.elim)) h1 (by rw [g.w.mg]; exact T.cnm c x hc) (pa_one hv hp) h2 (starEach_plain hp _ _) rfl
  refine PS.imp (ps_raise g.calm g.tk mk) fun D σ H hh => ?_
  refine oneS hh fun y vy G1 H1 env1 F1 Fx st vr nd o => ?_
  refine ⟨by show 1 ≤ 1000; omega, fun a ha => ?_⟩
  unfold raiK at o
  split at o
  · rename_i d env2 e1
    obtain ⟨G2, F2, s2, st2, r2, l2⟩ := takeF_ok st vr nd e1
    cases r2 with
    | sh q =>
      refine ⟨a, Ω.ca c, y, rfl, ox, sup, k.no, upd_same, fun dx hdx hne => ?_⟩
      have hd1 : H1 dx = none := by rw [upd_ne hne] at hdx; exact hdx
      refine ⟨rfl, dx, _, upd_same, by rw [upd_ne hne, upd_same], hd1, ?_⟩
      rw [fin_heap ha hd1 hne]
      have sa : Step G2 H1 F2 (upd G2 dx (.xd [("value", y)])) (upd H1 dx (.xd [("value", y)])) F2 := by
        have z := (Step.alloc (F := F2) (o := .xd [("value", y)]) st2.same hd1 false)
        simpa using z
      exact o σ dx y _ _ F2 rfl KpEq.refl (s2.trans sa) ⟨same_upd2 st2.same, slR_shared st2.same hd1 st2.sl, st2.nd⟩ upd_same (dp_mono sa.g q)
  · exact o.elim
end
end FF

set_option Elab.async false
set_option linter.all false
set_option autoImplicit false
set_option maxRecDepth 100000
/-! FTb: x.append(e). -/
namespace FF
open PySem PySem.Spec PyProof.Rows L2
section
variable {Ω : Wd} {W : WX} {G H : Hp} {σ : L2.St} {F : List Addr} {Θ : Tab} {n : Nat} {os : Scope} {X : Cx} {Kp : List Nat}
def appK (x : Nat) (v : Val) (env1 : FF.Env) : RS := match take v env1 with
  | some (t, env2) => (match slot env2 x with
    | some (.lst ts) => if ts.length < sizeLine then .nx (env2.set x (some (.lst (ts ++ [t])))) else .bad
    | _ => .bad)
  | none => .bad
def appF (fe : FF.Env → R (Val × FF.Env)) (x : Nat) (env : FF.Env) : RS := match slot env x with
  | some (.lst _) => after (fe env) (appK x)
  | _ => .bad
theorem sS_app (g : GX Ω n W os X) {x : Nat} {nm : Str} {px ap cp pos : Pos} {e : Expr} {fe : FF.Env → R (Val × FF.Env)} (hx : rdOk X.env.scope X.N x nm = true) (he : PE X e (tF Ω W fe)) (hp : plainE e = true) (hline : (ap.endLine == cp.line) = true) :
    PS X (.Expr (.Call (.Attribute (.Name nm px) "append" ap) [e] [] cp) pos) (tS Ω W Kp (appF fe x)) := by
  unfold rdOk at hx
  simp only [Bool.and_eq_true, decide_eq_true_eq] at hx
  obtain ⟨p1, p2, _⟩ := plainN_of hx.2
  have pa : PA X [e] (tCons (tF Ω W fe) tNil) := pa_consP he pa_nil hp
  have pe := pe_bm (cpos := cp) (apos := ap) PySem.F.plainAttrs_list PySem.F.slot_list_append PySem.F.type_list_append mt_append (pe_var (pos := px) hx.1.1 (vis_of hx.1.2) p1 p2) pa rfl (by rw [starEach_plain hp]; rfl) hline (starEach_plain hp _ _) rfl
  refine PS.imp (ps_expr pe rfl) fun D σ H hh => ?_
  obtain ⟨G, env, F, st, o⟩ := hh
  unfold appF at o
  split at o
  · rename_i ts0 e0
    obtain ⟨v0, A1, A2, a1, tr0, _⟩ := st.out e0
    cases tr0 with
    | @lst p xs0 _ Fl0 eH0 gN0 rl0 =>
      refine ⟨.ref p, a1, .inl ⟨rfl, _, SqL.of eH0⟩, ?_⟩
      have hh : tS Ω W Kp (fun env => after (fe env) (appK x)) D σ H := ⟨G, env, F, st, o⟩
      refine oneS hh fun v vx G1 H1 env1 F1 Fx st1 vr nd o => ?_
      unfold appK at o
      split at o
      · rename_i t env2 e1
        obtain ⟨G2, F2, Ft, s2, st2, r2, nd2, l2⟩ := take_ok st1 vr nd e1
        have o := o.after rfl KpEq.refl s2
        split at o
        · rename_i ts e2
          split at o
          · rename_i hl
            obtain ⟨w, B1, B2, b1, b2, b3, b4, b5⟩ := st2.out e2
            rw [a1] at b1
            cases b1
            cases b2 with
            | @lst _ xs _ Fl eH gN rl =>
              obtain ⟨n1, n2, dj⟩ := nodup_app.mp nd2
              obtain ⟨m1, m2, mj⟩ := nodup_app.mp b5
              obtain ⟨mp, m3⟩ := List.nodup_cons.mp m1
              have inF : ∀ q, q ∈ p :: Fl ∨ q ∈ B2 → q ∈ F2 := fun q hq => b4.mem_iff.mpr (List.mem_append.mpr hq)
              have pT : p ∉ Ft := fun z => dj p (inF p (.inl (List.mem_cons_self ..))) z
              have pB : p ∉ B2 := fun z => mj p (List.mem_cons_self ..) z
              have djp : ∀ {A : List Addr}, p ∉ A → Disj A [p] := fun h q hq hq2 => by rw [List.mem_singleton] at hq2; subst hq2; exact h hq
              refine ⟨p, xs, v, rfl, rfl, eH, by rw [rl.len]; exact hl, ?_⟩
              have sw : Step G2 H1 [p] G2 (upd H1 p (.lst (xs ++ [v]))) [p] := Step.write (List.mem_singleton.mpr rfl)
              have smw : Same G2 (upd H1 p (.lst (xs ++ [v]))) := same_write st2.same gN
              have new : TRs Ω G2 (upd H1 p (.lst (xs ++ [v]))) (xs ++ [v]) (ts ++ [t]) (Fl ++ (Ft ++ [])) := (rl.step sw (djp mp)).1.app (.cons (r2.step sw (djp pT)).1 .nil)
              rw [List.append_nil] at new
              have b3' : SlR Ω G2 (upd H1 p (.lst (xs ++ [v]))) σ (env2.set x none) B2 := b3.to (Same.refl _) (fun q hq u e => by rw [upd_ne (fun z => pB (by rw [← z]; exact hq))]; exact e) fun q hq => (b3.there q hq).2
              obtain ⟨F5, f1, f2⟩ := b3'.back (slot_lt e2) (TR.lst upd_same gN new) a1
              have mm : ∀ q, q ∈ F5 → q ∈ F2 ∨ q ∈ Ft := fun q hq => by
                have z := f2.mem_iff.mp hq
                simp only [List.mem_append, List.mem_cons] at z
                rcases z with (z | z | z) | z
                · exact .inl (inF q (.inl (by rw [z]; exact List.mem_cons_self ..)))
                · exact .inl (inF q (.inl (List.mem_cons_of_mem _ z)))
                · exact .inr z
                · exact .inl (inF q (.inr z))
              have nd5 : F5.Nodup := f2.nodup_iff.mpr (nodup_app.mpr ⟨List.nodup_cons.mpr ⟨fun z => (List.mem_append.mp z).elim mp pT, nodup_app.mpr ⟨m3, n2, fun q hq hq2 => dj q (inF q (.inl (List.mem_cons_of_mem _ hq))) hq2⟩⟩, m2, fun q hq hq2 => by
                rcases List.mem_cons.mp hq with z | z
                · subst z; exact pB hq2
                · rcases List.mem_append.mp z with z | z
                  · exact mj q (List.mem_cons_of_mem _ z) hq2
                  · exact dj q (inF q (.inr hq2)) z⟩)
              refine o σ G2 _ F5 rfl KpEq.refl (((sw.frame (R := F2 ++ Ft)).wide fun q hq => ?_).sub fun q hq => ?_) ⟨smw, f1, nd5⟩
              · rcases List.mem_append.mp hq with z | z
                · rw [List.mem_singleton.mp z]
                  exact List.mem_append_left _ (inF p (.inl (List.mem_cons_self ..)))
                · exact z
              · exact List.mem_append_right _ (List.mem_append.mpr (mm q hq))
          · exact o.elim
        · exact o.elim
      · exact o.elim
  · exact o.elim
end
end FF

set_option Elab.async false
set_option linter.all false
set_option autoImplicit false
set_option maxRecDepth 100000
/-! FU: a checked block is what its IR says; defs. -/
namespace FF
open PySem PySem.Spec PyProof.Rows L2

/-! ### the check -/
def isCompE : Expr → Bool
  | .ListComp .. => true
  | .SetComp .. => true
  | .DictComp .. => true
  | _ => false
def nmE : Expr → Str
  | .Name x _ => x
  | _ => ""
def lnE : Expr → Nat
  | .Name _ p => p.line
  | _ => 0
def isNameE : Expr → Bool
  | .Name .. => true
  | _ => false
section
variable (Θ : Tab) (Kp : List Nat)
/-- the swapped stores of a written tuple are none -/
def noSwap (sc : Scope) (te e : Expr) : Bool := match te, e with
  | .Tuple ts _ _, .Tuple vs _ _ => (!(ts.length == 2 || ts.length == 3) || vs.all (foldedForSure 8)) || (nmsOf sc (hdLine ts) ts).length != ts.length
  | _, _ => true
/-- a name that is a plain local there -/
def isLoc (sc : Scope) (te : Expr) : Bool := decide (sc.names.lookup (nmE te) = some .local)
def okK (tg : Tg) : Bool := (tgSl tg).all fun i => !Kp.contains i
def chkLc (sc : Scope) (N : List Str) (i : Nat) (e : E) (te v : Expr) : Bool := match e, v with
  | .comp elt tg src test own, .ListComp x [⟨t, it, ifs, 0⟩] scope pos => decide (N[i]? = some (nmE te)) && lclK sc (nmE te) && (lnE te == pos.line) && !(scope.names.any fun (n, k) => n == nmE te && (k == .local || k == .cell)) && isNameE te && !Kp.contains i &&
      blkC N sc scope own && chkSrc Θ sc sc N src it && !isSetE it && (!srcTup src || isTupE t) &&
        chkTg (relS scope sc) scope N tg t && (tgSl tg).all (fun i => (own.map (·.2)).contains i) && chkTest Θ (relS scope sc) scope N test ifs && chkE Θ (relS scope sc) scope N elt x
  | .comp2 elt tg src test tg1 src1 test1 own vs1, .ListComp x [⟨t, it, ifs, 0⟩, ⟨t1, it1, ifs1, 0⟩] scope pos => decide (N[i]? = some (nmE te)) && lclK sc (nmE te) && (lnE te == pos.line) && !(scope.names.any fun (n, k) => n == nmE te && (k == .local || k == .cell)) && isNameE te && !Kp.contains i &&
      blkC N sc scope own && chkSrc Θ sc sc N src it && !isSetE it && (!srcTup src || isTupE t) &&
        chkTg (relS scope sc) scope N tg t && (tgSl tg).all (fun i => (own.map (·.2)).contains i) && chkTest Θ (relS scope sc) scope N test ifs &&
        chkSrc Θ (relS scope sc) scope N src1 it1 && !isSetE it1 && (!srcTup src1 || isTupE t1) && chkTg (relS scope sc) scope N tg1 t1 && (tgSl tg1).all (fun i => vs1.contains i) && vs1.all (fun i => (own.map (·.2)).contains i) && chkTest Θ (relS scope sc) scope N test1 ifs1 && chkE Θ (relS scope sc) scope N elt x
  | _, _ => false
def parNs (sc : Scope) (N : List Str) : List Nat → List Expr → Bool
  | [], [] => true
  | i :: is, t :: ts => isNameE t && decide (N[i]? = some (nmE t)) && lclK sc (nmE t) && !Kp.contains i && parNs sc N is ts
  | _, _ => false
mutual
def chkS (sc : Scope) (N : List Str) : S → Stmt → Bool
  | .asg tg e, st => (match st with
    | .Assign [te] v _ => if isCompE v && isNameE te && isLoc sc te then (match tg with | .name i => chkLc Θ Kp sc N i e te v | _ => false)
      else chkTg sc sc N tg te && okK Kp tg && chkE Θ sc sc N e v && noSwap sc te v && (isNameE te || isTupE te)
    | _ => false)
  | .par is es, st => (match st with
    | .Assign [.Tuple ts _ _] (.Tuple vs _ _) _ => parNs Kp sc N is ts && parC sc ts vs (ts.map nmE) && chkEs Θ sc sc N es vs && decide is.Nodup
    | _ => false)
  | .setIx x ix e, st => (match st with
    | .Assign [.Subscript (.Name nm _) ie _] v _ => rdOk sc N x nm && chkE Θ sc sc N ix ie && chkE Θ sc sc N e v && !isSliceE ie
    | _ => false)
  | .app x e, st => (match st with
    | .Expr (.Call (.Attribute (.Name nm _) m ap) [v] [] cp) _ => decide (m = ("append" : Str)) && rdOk sc N x nm && chkE Θ sc sc N e v && plainE v && (ap.endLine == cp.line)
    | _ => false)
  | .expr e, st => (match st with
    | .Expr v _ => chkE Θ sc sc N e v && !isCompE v
    | _ => false)
  | .ret e, st => (match st with
    | .Return (some v) _ => chkE Θ sc sc N e v
    | _ => false)
  | .retN, st => (match st with
    | .Return none _ => true
    | _ => false)
  | .ifs c a b, st => (match st with
    | .If t x y _ => chkE Θ sc sc N c t && chkSs sc N a x && chkSs sc N b y
    | _ => false)
  | .fors tg src body, st => (match st with
    | .For te it x [] _ => chkTg sc sc N tg te && okK Kp tg && chkSrc Θ sc sc N src it && !isSetE it && (!srcTup src || isTupE te) && chkSs sc N body x
    | _ => false)
  | .whl c body, st => (match st with
    | .While t x [] _ => chkE Θ sc sc N c t && chkSs sc N body x
    | _ => false)
  | .rai c e, st => (match st with
    | .Raise (some (.Call (.Name x _) [v] [] _)) none _ => decide (Θ.cls[c]? = some x) && glOk sc x && chkE Θ sc sc N e v && plainE v
    | _ => false)
  | .brk, st => (match st with | .Break _ => true | _ => false)
  | .cnt, st => (match st with | .Continue _ => true | _ => false)
  | .pass, st => (match st with | .Pass _ => true | _ => false)
  | .tryA body c ev x, st => (match st with
    | .Try b [.ExceptHandler (some (.Name cx _)) (some nm) [.Assign [.Name y _] (.Name n2 _) _] _] [] [] _ => decide (c = 0) && decide (Θ.cls[0]? = some cx) && glOk sc cx && decide (n2 = nm) && decide (N[ev]? = some nm) && decide (N[x]? = some y) &&
        lclK sc nm && lclK sc y && plainN nm && decide (ev ≠ x) && !Kp.contains ev && !Kp.contains x && chkSs sc N body b
    | _ => false)
  | .oops, _ => true
  | .tryR body c ev, st => (match st with
    | .Try b [.ExceptHandler (some (.Name cx _)) (some nm) [.Return (some (.Name n2 _)) _] _] [] [] _ => decide (c = 0) && decide (Θ.cls[0]? = some cx) && glOk sc cx && decide (n2 = nm) && decide (N[ev]? = some nm) &&
        lclK sc nm && plainN nm && !Kp.contains ev && chkSs sc N body b
    | _ => false)
def chkSs (sc : Scope) (N : List Str) : Ss → List Stmt → Bool
  | .nil, l => (match l with | [] => true | _ => false)
  | .cons s ss, l => (match l with | t :: ts => chkS sc N s t && chkSs sc N ss ts | _ => false)
end
end

section
variable {Ω : Wd} {W : WX} {G H : Hp} {σ : L2.St} {F : List Addr} {Θ : Tab} {n : Nat} {os : Scope} {X : Cx} {Kp : List Nat}
/-- a def's body's context -/
structure GS (Ω : Wd) (n : Nat) (W : WX) (X : Cx) : Prop where
  gx : GX Ω n W X.env.scope X
  fr : X.stack = X.env :: X.outer
  fl : X.env.frame = some X.env.locals
  ex : X.ex = []
theorem PS.congr {st : Stmt} {f f' : FF.Env → RS} (e : ∀ env, f env = f' env) (h : PS X st (tS Ω W Kp f)) : PS X st (tS Ω W Kp f') := by
  have : f = f' := funext e
  rw [← this]; exact h
theorem PSs.congr {st : List Stmt} {f f' : FF.Env → RS} (e : ∀ env, f env = f' env) (h : PSs X st (tS Ω W Kp f)) : PSs X st (tS Ω W Kp f') := by
  have : f = f' := funext e
  rw [← this]; exact h
theorem okK_of {tg : Tg} (h : okK Kp tg = true) : ∀ i ∈ tgSl tg, i ∉ Kp := fun i hi => by
  have := List.all_eq_true.mp h i hi
  simpa using this
theorem nmE_eq {e : Expr} (h : isNameE e = true) : ∃ p, e = .Name (nmE e) p ∧ p.line = lnE e := by
  cases e with
  | Name x p => exact ⟨p, rfl, rfl⟩
  | _ => cases h
theorem sw_nl {te : Expr} {env : PySem.Env} (hn : isNameE te = true) (hl : isLoc env.scope te = false) (v : Expr) (l : Nat) : swapsWith v (some te) l env = pure false := by
  obtain ⟨p, e, _⟩ := nmE_eq hn
  have ky : (env.kindOf (nmE te) == some .local) = false := by
    have z := of_decide_eq_false hl
    cases q : (env.kindOf (nmE te) == some .local) with
    | false => rfl
    | true => exact absurd (show env.kindOf (nmE te) = _ by simpa using q) z
  rw [e]
  unfold swapsWith
  cases v <;> first | rfl | (simp only [ky, Bool.and_false, Bool.false_and]; done) | (simp only [ky, Bool.and_false, Bool.false_and]; rfl)
theorem nc_sw {v : Expr} (h : isCompE v = false) (t : Option Expr) (l : Nat) (env : PySem.Env) : swapsWith v t l env = pure false := by
  cases v <;> first | rfl | cases h
theorem nt_sw {te v : Expr} (h : isTupE te = true) (l : Nat) (env : PySem.Env) : swapsWithSole [te] v l env = pure false := by
  cases te with
  | Tuple => exact tup_sw _ _
  | _ => cases h
theorem noSwap_of {te v : Expr} (env : PySem.Env) (h : noSwap env.scope te v = true) (k : (isNameE te || isTupE te) = true) : swappedStores [te] v env = pure none := by
  cases te with
  | Name x p => exact name_ss env
  | Tuple ts kk p =>
    by_cases hv : isTupE v = true
    · cases v with
      | Tuple vs k2 p2 =>
        unfold noSwap at h
        rw [Bool.or_eq_true] at h
        rcases h with h | h
        · exact par_none h
        · exact par_none2 h
      | _ => cases hv
    · exact tup_ss (by simpa using hv) env
  | _ => cases k
/-- a try that keeps what it caught -/
theorem sS_try (T : TO Ω Θ n) (g : GS Ω n W X) {x nm y : Str} {i j : Nat} {body : List Stmt} {np yp np2 apos pos pos' : Pos} {fb : FF.Env → RS} (hx : Θ.cls[0]? = some x) (hg : glOk X.env.scope x = true) (hi : X.N[i]? = some nm) (hj : X.N[j]? = some y)
    (hln : lclK X.env.scope nm = true) (hly : lclK X.env.scope y = true) (hp : plainN nm = true) (hij : i ≠ j) (hki : i ∉ Kp) (hkj : j ∉ Kp)
    (hb : ∀ (W' : WX) (X' : Cx), GS Ω n W' X' → X'.env = X.env → X'.N = X.N → PSs X' body (tS Ω W' Kp fb)) :
    PS X (.Try body [.ExceptHandler (some (.Name x np)) (some nm) [.Assign [.Name y yp] (.Name nm np2) apos] pos'] [] [] pos) (tS Ω W Kp fun env => (match fb env with
      | .ex k d env1 => if k < Θ.cls.length ∧ j < env1.length ∧ i < env1.length then .nx ((env1.set i none).set j (some (.exc k d))) else .bad
      | r => r)) := by
  obtain ⟨h1, h2, h3⟩ := glOk_of hg
  obtain ⟨p1, p2, _⟩ := plainN_of hp
  have hc0 : 0 < Ω.nc := by rw [T.ncl]; exact (List.getElem?_eq_some_iff.mp hx).1
  refine PS.imp (ps_tryK (tb := fun W' => tS Ω W' Kp fb) g.fr g.fl g.ex g.gx.nd hi (lcl_of hln) hj (lcl_of hly) h1 h2 (by rw [g.gx.w.mg]; exact T.cnm 0 x hx) ⟨p1, p2⟩ (fun W' pn xe tk po => hb W' (X.tr pn xe) ⟨⟨⟨g.gx.w.P, g.gx.w.w, g.gx.w.K, g.gx.w.mg, g.gx.w.base⟩, g.gx.calm, g.gx.room, g.gx.gd, tk, g.gx.nd, g.gx.st, g.gx.kind, po⟩, g.fr, g.fl, g.ex⟩ rfl rfl)) fun D σ H ⟨G, env, F, st, o⟩ => ⟨G, env, F, st, ?_⟩
  cases e : fb env with
  | nx env1 => simp only [e] at o; exact o
  | bk env1 => simp only [e] at o; exact o
  | ct env1 => simp only [e] at o; exact o
  | rt t env1 => simp only [e] at o; exact o
  | bad => simp only [e] at o; exact o
  | ex k d env1 =>
    simp only [e] at o
    split at o
    · rename_i hc
      intro σ' dd u G' H' F' l' k' s' st' a b
      have hk : k < Ω.nc := by rw [T.ncl]; exact hc.1
      refine ⟨by rw [g.gx.w.K]; exact T.exm k hk, Ω.ca k, dd, rfl, rfl, fun ad had => ?_⟩
      have gad : G' ad = none := st'.same.free had
      have sa : Step G' H' F' (upd G' ad (XO (Ω.ca k) dd ad)) (upd H' ad (XO (Ω.ca k) dd ad)) F' := by
        have z := (Step.alloc (F := F') (o := XO (Ω.ca k) dd ad) st'.same had false)
        simpa using z
      have hne : dd ≠ ad := fun z => by rw [z, gad] at a; cases a
      have sl := slR_shared (o := XO (Ω.ca k) dd ad) st'.same had st'.sl
      obtain ⟨F2, q1, q2, q3⟩ := SlR.wipe1 i sl
      have tr : TR Ω (upd G' ad (XO (Ω.ca k) dd ad)) (upd H' ad (XO (Ω.ca k) dd ad)) (.ref ad) (.exc k d) [] := .exc hk upd_same (by rw [upd_ne hne]; exact a) (dp_mono sa.g b)
      obtain ⟨F3, sub3, st3⟩ := St.put (i := j) (Ft := []) ⟨same_upd2 st'.same, q1, q3 st'.nd⟩ (by rw [List.length_set]; exact hc.2.1) tr (by simpa using q3 st'.nd)
      have es : ((σ'.set i (some (.ref ad))).set j (some (.ref ad))).set i none = (σ'.set i none).set j (some (.ref ad)) := by
        rw [List.set_comm _ _ (Ne.symm hij), List.set_set]
      rw [es]
      refine o _ _ _ F3 (by simp [l']) (fun m hm => ?_) (s'.trans (sa.sub fun p hp => ?_)) st3
      · have hmi : i ≠ m := fun z => hki (z ▸ hm)
        have hmj : j ≠ m := fun z => hkj (z ▸ hm)
        rw [List.getElem?_set_ne hmj, List.getElem?_set_ne hmi]
        exact k' m hm
      · have := sub3 p hp
        rw [List.append_nil] at this
        exact q2 p this
    · exact o.elim

theorem sS_oops {st : Stmt} : PS X st (tS Ω W Kp fun _ => .bad) := by
  constructor
  intro pins s σ H D I h
  obtain ⟨_, _, _, _, o⟩ := h
  exact o.elim
/-- a try that gives back what it caught -/
theorem sS_tryR (T : TO Ω Θ n) (g : GS Ω n W X) {x nm : Str} {i : Nat} {body : List Stmt} {np np2 rpos pos pos' : Pos} {fb : FF.Env → RS} (hx : Θ.cls[0]? = some x) (hg : glOk X.env.scope x = true) (hi : X.N[i]? = some nm)
    (hln : lclK X.env.scope nm = true) (hp : plainN nm = true) (hki : i ∉ Kp)
    (hb : ∀ (W' : WX) (X' : Cx), GS Ω n W' X' → X'.env = X.env → X'.N = X.N → PSs X' body (tS Ω W' Kp fb)) :
    PS X (.Try body [.ExceptHandler (some (.Name x np)) (some nm) [.Return (some (.Name nm np2)) rpos] pos'] [] [] pos) (tS Ω W Kp fun env => (match fb env with
      | .ex k d env1 => if k < Θ.cls.length ∧ i < env1.length then .rt (.exc k d) (env1.set i none) else .bad
      | r => r)) := by
  obtain ⟨h1, h2, h3⟩ := glOk_of hg
  obtain ⟨p1, p2, _⟩ := plainN_of hp
  have hc0 : 0 < Ω.nc := by rw [T.ncl]; exact (List.getElem?_eq_some_iff.mp hx).1
  refine PS.imp (ps_tryR (tb := fun W' => tS Ω W' Kp fb) g.fr g.fl g.ex g.gx.nd hi (lcl_of hln) h1 h2 (by rw [g.gx.w.mg]; exact T.cnm 0 x hx) ⟨p1, p2⟩ (fun W' pn xe tk po => hb W' (X.tr pn xe) ⟨⟨⟨g.gx.w.P, g.gx.w.w, g.gx.w.K, g.gx.w.mg, g.gx.w.base⟩, g.gx.calm, g.gx.room, g.gx.gd, tk, g.gx.nd, g.gx.st, g.gx.kind, po⟩, g.fr, g.fl, g.ex⟩ rfl rfl)) fun D σ H ⟨G, env, F, st, o⟩ => ⟨G, env, F, st, ?_⟩
  cases e : fb env with
  | nx env1 => simp only [e] at o; exact o
  | bk env1 => simp only [e] at o; exact o
  | ct env1 => simp only [e] at o; exact o
  | rt t env1 => simp only [e] at o; exact o
  | bad => simp only [e] at o; exact o
  | ex k d env1 =>
    simp only [e] at o
    split at o
    · rename_i hc
      intro σ' dd u G' H' F' l' k' s' st' a b
      have hk : k < Ω.nc := by rw [T.ncl]; exact hc.1
      refine ⟨by rw [g.gx.w.K]; exact T.exm k hk, Ω.ca k, dd, rfl, rfl, fun ad had => ?_⟩
      have sa : Step G' H' F' (upd G' ad (XO (Ω.ca k) dd ad)) (upd H' ad (XO (Ω.ca k) dd ad)) F' := by
        have z := (Step.alloc (F := F') (o := XO (Ω.ca k) dd ad) st'.same had false)
        simpa using z
      have hne : dd ≠ ad := fun z => by rw [z, st'.same.free had] at a; cases a
      have tr : TR Ω (upd G' ad (XO (Ω.ca k) dd ad)) (upd H' ad (XO (Ω.ca k) dd ad)) (.ref ad) (.exc k d) [] := .exc hk upd_same (by rw [upd_ne hne]; exact a) (dp_mono sa.g b)
      obtain ⟨F2, q1, q2, q3⟩ := SlR.wipe1 i (slR_shared (o := XO (Ω.ca k) dd ad) st'.same had st'.sl)
      exact o (.ref ad) (σ'.set i none) _ _ F2 [] (by simpa using l') (fun m hm => by
        have hmi : i ≠ m := fun z => hki (z ▸ hm)
        rw [List.getElem?_set_ne hmi]
        exact k' m hm) (s'.trans (sa.sub fun p hp => q2 p (by simpa using hp))) ⟨same_upd2 st'.same, q1, q3 st'.nd⟩ tr (by simpa using q3 st'.nd)
    · exact o.elim

theorem parNs2 {sc : Scope} {N : List Str} {i j : Nat} {ts : List Expr} (h : parNs Kp sc N [i, j] ts = true) : ∃ x y px py, ts = [.Name x px, .Name y py] ∧ N[i]? = some x ∧ N[j]? = some y ∧ lclK sc x = true ∧ lclK sc y = true ∧ i ∉ Kp ∧ j ∉ Kp := by
  match ts, h with
  | [], h => simp [parNs] at h
  | [_], h => simp [parNs] at h
  | [a, b], h =>
    simp only [parNs, Bool.and_eq_true, decide_eq_true_eq, Bool.not_eq_true', and_true] at h
    obtain ⟨⟨⟨⟨h1, h2⟩, h3⟩, h4⟩, ⟨⟨h5, h6⟩, h7⟩, h8⟩ := h
    obtain ⟨p, e1, _⟩ := nmE_eq h1
    obtain ⟨q, e2, _⟩ := nmE_eq h5
    exact ⟨nmE a, nmE b, p, q, by rw [← e1, ← e2], h2, h6, h3, h7, by simpa using h4, by simpa using h8⟩
  | _ :: _ :: _ :: _, h => simp [parNs] at h
theorem parNs3 {sc : Scope} {N : List Str} {i j l : Nat} {ts : List Expr} (h : parNs Kp sc N [i, j, l] ts = true) : ∃ x y z px py pz, ts = [.Name x px, .Name y py, .Name z pz] ∧ N[i]? = some x ∧ N[j]? = some y ∧ N[l]? = some z ∧ lclK sc x = true ∧ lclK sc y = true ∧ lclK sc z = true ∧ i ∉ Kp ∧ j ∉ Kp ∧ l ∉ Kp := by
  match ts, h with
  | [], h => simp [parNs] at h
  | [_], h => simp [parNs] at h
  | [_, _], h => simp [parNs] at h
  | [a, b, c], h =>
    simp only [parNs, Bool.and_eq_true, decide_eq_true_eq, Bool.not_eq_true', and_true] at h
    obtain ⟨⟨⟨⟨h1, h2⟩, h3⟩, h4⟩, ⟨⟨⟨h5, h6⟩, h7⟩, h8⟩, ⟨⟨h9, h10⟩, h11⟩, h12⟩ := h
    obtain ⟨p, e1, _⟩ := nmE_eq h1
    obtain ⟨q, e2, _⟩ := nmE_eq h5
    obtain ⟨r, e3, _⟩ := nmE_eq h9
    exact ⟨nmE a, nmE b, nmE c, p, q, r, by rw [← e1, ← e2, ← e3], h2, h6, h10, h3, h7, h11, by simpa using h4, by simpa using h8, by simpa using h12⟩
  | _ :: _ :: _ :: _ :: _, h => simp [parNs] at h
theorem chk3 {a b c : Expr} {sc : Scope} {ts vs : List Expr} {nms : List Str} (h : parC sc ts vs nms = true) : vs.length = ts.length := by
  unfold parC at h
  simp only [Bool.and_eq_true, beq_iff_eq] at h
  exact h.1.1.1.1.1.1.2

mutual
theorem soundS (T : TO Ω Θ n) : ∀ (i : S) {W : WX} {X : Cx} (g : GS Ω n W X) (st : Stmt), chkS Θ Kp X.env.scope X.N i st = true → PS X st (tS Ω W Kp (evS Θ (callF Θ n) i))
  | .asg tg e, W, X, g, st, h => by
    unfold chkS at h
    split at h
    · rename_i te v pos
      split at h
      · rename_i hc
        rw [Bool.and_eq_true] at hc
        split at h
        · rename_i i
          unfold chkLc at h
          split at h
          · rename_i elt tg2 src test own x t it ifs scope cpos
            simp only [Bool.and_eq_true, Bool.not_eq_true', decide_eq_true_eq] at h
            obtain ⟨⟨⟨⟨⟨⟨⟨⟨⟨⟨⟨⟨⟨h1, h2⟩, h3⟩, h4⟩, h5⟩, h6⟩, h7⟩, h8⟩, h9⟩, h10⟩, h11⟩, h12⟩, h13⟩, h14⟩ := h
            obtain ⟨p, e1, e2⟩ := nmE_eq h5
            have hsub : ∀ i ∈ tgSl tg2, i ∈ own.map (·.2) := fun i hi => by
              have := List.all_eq_true.mp h12 i hi
              simpa using this
            have blk := fun s H C cl fp => blk_gx g.gx h7 s H C cl fp
            rw [e1]
            refine PS.congr (fun env => ?_) (sS_setLc g.gx h1 (lcl_of h2) (by rw [e2]; exact h3) h4 (soundSrc T src g.gx t it h8 (by simpa using h10)) h7 h9 h11 hsub (by simpa using h6)
              (fun s H C cl fp => soundTest T test (blk s H C cl fp) ifs h13) (fun s H C cl fp => (soundE T elt (blk s H C cl fp) x h14).pe))
            simp only [evS, after, asgK]
            have ec : (evSrc Θ (callF Θ n) src env).bind (fun p => if p.1.length ≤ sizeLine then (noEx (compL tg2 (fun env => evTest Θ (callF Θ n) test env) (evE Θ (callF Θ n) elt) (own.map (·.2)) p.1 p.2)).bind fun q => .ok (.tr (.lst q.1), restore p.2 q.2 (own.map (·.2))) else .bad) = evE Θ (callF Θ n) (.comp elt tg2 src test own) env := by simp only [evE] <;> rfl
            rw [ec]
            cases evE Θ (callF Θ n) (.comp elt tg2 src test own) env <;> rfl
          · rename_i elt tg2 src test tg1 src1 test1 own vs1 x t it ifs t1 it1 ifs1 scope cpos
            simp only [Bool.and_eq_true, Bool.not_eq_true', decide_eq_true_eq] at h
            obtain ⟨⟨⟨⟨⟨⟨⟨⟨⟨⟨⟨⟨⟨⟨⟨⟨⟨⟨⟨⟨h1, h2⟩, h3⟩, h4⟩, h5⟩, h6⟩, h7⟩, h8⟩, h9⟩, h10⟩, h11⟩, h12⟩, h13⟩, i1⟩, i2⟩, i3⟩, i4⟩, i5⟩, i6⟩, i7⟩, h14⟩ := h
            obtain ⟨p, e1, e2⟩ := nmE_eq h5
            have hsub : ∀ i ∈ tgSl tg2, i ∈ own.map (·.2) := fun i hi => by
              have := List.all_eq_true.mp h12 i hi
              simpa using this
            have hsub1 : ∀ i ∈ tgSl tg1, i ∈ vs1 := fun i hi => by
              have := List.all_eq_true.mp i5 i hi
              simpa using this
            have hv : ∀ i ∈ vs1, i ∈ own.map (·.2) := fun i hi => by
              have := List.all_eq_true.mp i6 i hi
              simpa using this
            have blk := fun s H C cl fp => blk_gx g.gx h7 s H C cl fp
            rw [e1]
            refine PS.congr (fun env => ?_) (sS_setLc2 g.gx h1 (lcl_of h2) (by rw [e2]; exact h3) h4 (soundSrc T src g.gx t it h8 (by simpa using h10)) h7 h9 h11 hsub (by simpa using h6) i2 hsub1 hv i4
              (fun s H C cl fp => soundSrc T src1 (blk s H C cl fp) t1 it1 i1 (by simpa using i3)) (fun s H C cl fp => soundTest T test1 (blk s H C cl fp) ifs1 i7)
              (fun s H C cl fp => soundTest T test (blk s H C cl fp) ifs h13) (fun s H C cl fp => (soundE T elt (blk s H C cl fp) x h14).pe))
            simp only [evS, after, asgK]
            have ec : (evSrc Θ (callF Θ n) src env).bind (fun p => (noEx (compL2 tg2 (fun env => evTest Θ (callF Θ n) test env) (fun env => evSrc Θ (callF Θ n) src1 env) tg1 (fun env => evTest Θ (callF Θ n) test1 env) (evE Θ (callF Θ n) elt) (own.map (·.2)) vs1 p.1 p.2)).bind fun q => if q.1.length ≤ sizeLine then .ok (.tr (.lst q.1), restore p.2 q.2 (own.map (·.2))) else .bad) = evE Θ (callF Θ n) (.comp2 elt tg2 src test tg1 src1 test1 own vs1) env := by simp only [evE] <;> rfl
            rw [ec]
            cases evE Θ (callF Θ n) (.comp2 elt tg2 src test tg1 src1 test1 own vs1) env <;> rfl
          · cases h
        · cases h
      · rename_i hc
        simp only [Bool.and_eq_true] at h
        obtain ⟨⟨⟨⟨h1, h2⟩, h3⟩, h4⟩, h5⟩ := h
        have hs : swapsWithSole [te] v pos.line X.env = pure false := by
          rw [Bool.or_eq_true] at h5
          rcases h5 with h5 | h5
          · cases hv : isCompE v with
            | false => exact nc_sw hv _ _ _
            | true =>
              rw [hv, h5] at hc
              exact sw_nl h5 (by simpa using hc) _ _
          · exact nt_sw h5 _ _
        refine PS.congr (fun env => ?_) (sS_asg g.gx h1 (okK_of h2) (soundE T e g.gx v h3).pe hs (noSwap_of _ h4 h5))
        simp only [evS, after, asgK]
        cases evE Θ (callF Θ n) e env <;> rfl
    · cases h
  | .par is es, W, X, g, st, h => by
    unfold chkS at h
    split at h
    · rename_i ts k p1 vs k2 p2 pos
      simp only [Bool.and_eq_true, decide_eq_true_eq] at h
      obtain ⟨⟨⟨h1, h2⟩, h3⟩, h4⟩ := h
      have he := soundEs T es g.gx vs h3
      have lv := chk3 (a := .Constant .none 0 p1) (b := .Constant .none 0 p1) (c := .Constant .none 0 p1) h2
      match is, h1, h4 with
      | [], h1, _ =>
        cases ts with
        | nil => simp [parC] at h2
        | cons _ _ => simp [parNs] at h1
      | [i], h1, _ =>
        match ts, h1 with
        | [a], _ => simp [parC] at h2
        | [], h1 => simp [parNs] at h1
        | _ :: _ :: _, h1 => simp [parNs] at h1
      | [i, j], h1, h4 =>
        obtain ⟨x, y, px, py, rfl, a1, a2, a3, a4, a5, a6⟩ := parNs2 h1
        match vs, lv with
        | [v1, v2], _ =>
          refine PS.congr (fun env => ?_) (sS_par2 g.gx a1 a2 (by simp at h4; exact h4) (lcl_of a3) (lcl_of a4) he h2 (fun l hl => by
            simp only [List.mem_cons, List.not_mem_nil, or_false] at hl
            rcases hl with rfl | rfl
            · exact a5
            · exact a6))
          simp only [evS, parK]
          cases evEs Θ (callF Θ n) es env <;> rfl
      | [i, j, l], h1, h4 =>
        obtain ⟨x, y, z, px, py, pz, rfl, a1, a2, a3, a4, a5, a6, a7, a8, a9⟩ := parNs3 h1
        match vs, lv with
        | [v1, v2, v3], _ =>
          have nd : i ≠ j ∧ i ≠ l ∧ j ≠ l := by
            simp at h4
            exact ⟨h4.1.1, h4.1.2, h4.2⟩
          refine PS.congr (fun env => ?_) (sS_par3 g.gx a1 a2 a3 nd.1 nd.2.1 nd.2.2 (lcl_of a4) (lcl_of a5) (lcl_of a6) he h2 (fun m hm => by
            simp only [List.mem_cons, List.not_mem_nil, or_false] at hm
            rcases hm with rfl | rfl | rfl
            · exact a7
            · exact a8
            · exact a9))
          simp only [evS, parK]
          cases evEs Θ (callF Θ n) es env <;> rfl
      | i :: j :: l :: m :: r, h1, _ =>
        exfalso
        match ts, h1 with
        | a :: b :: c :: d :: r2, _ => simp [parC] at h2
        | [], h1 => simp [parNs] at h1
        | [_], h1 => simp [parNs] at h1
        | [_, _], h1 => simp [parNs] at h1
        | [_, _, _], h1 => simp [parNs] at h1
    · cases h
  | .setIx x ix e, W, X, g, st, h => by
    unfold chkS at h
    split at h
    · simp only [Bool.and_eq_true, Bool.not_eq_true'] at h
      refine PS.congr (fun env => ?_) (sS_set g.gx h.1.1.1 (soundE T ix g.gx _ h.1.1.2).pe (soundE T e g.gx _ h.1.2).pe h.2 (.inr trivial))
      simp only [evS, after, setK]
      cases evE Θ (callF Θ n) e env <;> rfl
    · cases h
  | .app x e, W, X, g, st, h => by
    unfold chkS at h
    split at h
    · simp only [Bool.and_eq_true, decide_eq_true_eq] at h
      obtain ⟨⟨⟨⟨h1, h2⟩, h3⟩, h4⟩, h5⟩ := h
      subst h1
      refine PS.congr (fun env => ?_) (sS_app g.gx h2 (soundE T e g.gx _ h3).pe h4 h5)
      simp only [evS, appF, after, appK]
      cases slot env x with
      | none => rfl
      | some t => cases t <;> first | rfl | (cases evE Θ (callF Θ n) e env <;> rfl)
    · cases h
  | .expr e, W, X, g, st, h => by
    unfold chkS at h
    split at h
    · simp only [Bool.and_eq_true, Bool.not_eq_true'] at h
      refine PS.congr (fun env => ?_) (sS_expr (soundE T e g.gx _ h.1).pe (nc_sw h.2 _ _ _))
      simp only [evS, after]
      cases evE Θ (callF Θ n) e env <;> rfl
    · cases h
  | .ret e, W, X, g, st, h => by
    unfold chkS at h
    split at h
    · refine PS.congr (fun env => ?_) (sS_ret (soundE T e g.gx _ h).pe)
      simp only [evS, after, retK]
      cases evE Θ (callF Θ n) e env <;> rfl
    · cases h
  | .retN, W, X, g, st, h => by
    unfold chkS at h
    split at h
    · exact PS.congr (fun env => by simp only [evS]) sS_retN
    · cases h
  | .ifs c a b, W, X, g, st, h => by
    unfold chkS at h
    split at h
    · simp only [Bool.and_eq_true] at h
      refine PS.congr (fun env => ?_) (sS_if (soundE T c g.gx _ h.1.1).pt (soundSs T a g _ h.1.2) (soundSs T b g _ h.2))
      simp only [evS]
      cases asBool (evE Θ (callF Θ n) c env) <;> rfl
    · cases h
  | .fors tg src body, W, X, g, st, h => by
    unfold chkS at h
    split at h
    · simp only [Bool.and_eq_true, Bool.not_eq_true'] at h
      obtain ⟨⟨⟨⟨⟨h1, h2⟩, h3⟩, h4⟩, h5⟩, h6⟩ := h
      refine PS.congr (fun env => ?_) (sS_for g.gx (soundSrc T src g.gx _ _ h3 (by simpa using h5)) h1 (okK_of h2) (soundSs T body g _ h6) h4)
      simp only [evS]
      cases evSrc Θ (callF Θ n) src env <;> rfl
    · cases h
  | .whl c body, W, X, g, st, h => by
    unfold chkS at h
    split at h
    · rw [Bool.and_eq_true] at h
      refine PS.congr (fun env => ?_) (sS_whl g.gx (soundE T c g.gx _ h.1).pt (soundSs T body g _ h.2) FU)
      rw [evS]
    · cases h
  | .rai c e, W, X, g, st, h => by
    unfold chkS at h
    split at h
    · simp only [Bool.and_eq_true, decide_eq_true_eq] at h
      refine PS.congr (fun env => ?_) (sS_rai g.gx T h.1.1.1 h.1.1.2 (soundE T e g.gx _ h.1.2).pe h.2)
      simp only [evS, after, raiK]
      cases evE Θ (callF Θ n) e env <;> rfl
    · cases h
  | .brk, W, X, g, st, h => by
    unfold chkS at h
    split at h
    · refine PS.imp ps_break fun D σ H ⟨G, env, F, st, o⟩ => ?_
      simp only [evS] at o
      exact o σ G H F rfl KpEq.refl (Step.refl fun _ h => h) st
    · cases h
  | .cnt, W, X, g, st, h => by
    unfold chkS at h
    split at h
    · refine PS.imp ps_continue fun D σ H ⟨G, env, F, st, o⟩ => ?_
      simp only [evS] at o
      exact o σ G H F rfl KpEq.refl (Step.refl fun _ h => h) st
    · cases h
  | .pass, W, X, g, st, h => by
    unfold chkS at h
    split at h
    · refine PS.imp ps_pass fun D σ H ⟨G, env, F, st, o⟩ => ?_
      simp only [evS] at o
      exact o σ G H F rfl KpEq.refl (Step.refl fun _ h => h) st
    · cases h
  | .tryA body c ev x, W, X, g, st, h => by
    unfold chkS at h
    split at h
    · simp only [Bool.and_eq_true, Bool.not_eq_true', decide_eq_true_eq] at h
      obtain ⟨⟨⟨⟨⟨⟨⟨⟨⟨⟨⟨⟨h1, h2⟩, h3⟩, h4⟩, h5⟩, h6⟩, h7⟩, h8⟩, h9⟩, h10⟩, h11⟩, h12⟩, h13⟩ := h
      subst h1 h4
      refine PS.congr (fun env => ?_) (sS_try T g h2 h3 h5 h6 h7 h8 h9 h10 (by simpa using h11) (by simpa using h12) (fb := evSs Θ (callF Θ n) body) fun W' X' g' e1 e2 => soundSs T body g' _ (by rw [e1, e2]; exact h13))
      simp only [evS, true_and]
      try (cases evSs Θ (callF Θ n) body env <;> rfl)
    · cases h
  | .oops, W, X, g, st, h => PS.congr (fun env => by simp only [evS] <;> rfl) sS_oops
  | .tryR body c ev, W, X, g, st, h => by
    unfold chkS at h
    split at h
    · simp only [Bool.and_eq_true, Bool.not_eq_true', decide_eq_true_eq] at h
      obtain ⟨⟨⟨⟨⟨⟨⟨⟨h1, h2⟩, h3⟩, h4⟩, h5⟩, h6⟩, h7⟩, h8⟩, h9⟩ := h
      subst h1 h4
      refine PS.congr (fun env => ?_) (sS_tryR T g h2 h3 h5 h6 h7 (by simpa using h8) (fb := evSs Θ (callF Θ n) body) fun W' X' g' e1 e2 => soundSs T body g' _ (by rw [e1, e2]; exact h9))
      simp only [evS, true_and]
      try (cases evSs Θ (callF Θ n) body env <;> rfl)
    · cases h
theorem soundSs (T : TO Ω Θ n) : ∀ (i : Ss) {W : WX} {X : Cx} (g : GS Ω n W X) (l : List Stmt), chkSs Θ Kp X.env.scope X.N i l = true → PSs X l (tS Ω W Kp (evSs Θ (callF Θ n) i))
  | .nil, W, X, g, l, h => by
    unfold chkSs at h
    split at h
    · refine PSs.imp pss_nil fun D σ H ⟨G, env, F, st, o⟩ => ?_
      simp only [evSs] at o
      exact o σ G H F rfl KpEq.refl (Step.refl fun _ h => h) st
    · cases h
  | .cons s ss, W, X, g, l, h => by
    unfold chkSs at h
    split at h
    · rw [Bool.and_eq_true] at h
      refine PSs.congr (fun env => ?_) (sS_seq1 (soundS T s g _ h.1) (soundSs T ss g _ h.2))
      simp only [evSs] <;> rfl
    · cases h
end
end
end FF

set_option Elab.async false
set_option linter.all false
set_option autoImplicit false
set_option maxRecDepth 100000
/-! FV: defs keep their promises. -/
namespace FF
open PySem PySem.Spec PyProof.Rows L2
section
variable {Ω : Wd} {W : WX} {G H : Hp} {σ : L2.St} {F : List Addr} {Θ : Tab} {n : Nat}

theorem slR_none : ∀ k : Nat, SlR Ω G H (List.replicate k none) (List.replicate k none) []
  | 0 => .nil
  | k + 1 => .none (slR_none k)
theorem slR_start {k : Nat} : ∀ {vs : List V} {ts : List Tr} {F : List Addr}, TRs Ω G H vs ts F → SlR Ω G H (vs.map some ++ List.replicate k none) (ts.map some ++ List.replicate k none) F
  | _, _, _, .nil => slR_none k
  | _, _, _, .cons a b => .some a (slR_start b)
theorem kept_ok : ∀ (vs : List V) {σ : L2.St} {env : FF.Env} {F : List Addr} (p : Nat → Bool), SlR Ω G H σ env F → (∀ i, p i = true → i < vs.length → σ[i]? = vs[i]?.map some) →
    ∃ Fa, SlR Ω G H (vs.map some) (keepF p vs.length env) Fa ∧ (∀ q ∈ Fa, q ∈ F) ∧ (F.Nodup → Fa.Nodup)
  | [], σ, env, F, p, h, k => ⟨[], .nil, fun _ h => (nomatch h), fun _ => List.nodup_nil⟩
  | v :: vs, _, _, _, p, .nil, k => by
    obtain ⟨Fa, a, b, c⟩ := kept_ok vs (fun i => p (i + 1)) (.nil (Ω := Ω) (G := G) (H := H)) (fun i hp hi => by
      have := k (i + 1) hp (by simpa using hi)
      simpa using this)
    refine ⟨Fa, ?_, b, c⟩
    show SlR Ω G H (some v :: vs.map some) ((if p 0 = true then none else none) :: keepF (fun i => p (i + 1)) vs.length []) Fa
    rw [ite_self]
    exact .none a
  | v :: vs, _, _, _, p, .none h, k => by
    obtain ⟨Fa, a, b, c⟩ := kept_ok vs (fun i => p (i + 1)) h (fun i hp hi => by
      have := k (i + 1) hp (by simpa using hi)
      simpa using this)
    refine ⟨Fa, ?_, b, c⟩
    show SlR Ω G H (some v :: vs.map some) ((if p 0 = true then none else none) :: keepF (fun i => p (i + 1)) vs.length _) Fa
    rw [ite_self]
    exact .none a
  | v :: vs, _, _, _, p, .some (v := w) (t := t) (F1 := F1) (F2 := F2) r h, k => by
    obtain ⟨Fa, a, b, c⟩ := kept_ok vs (fun i => p (i + 1)) h (fun i hp hi => by
      have := k (i + 1) hp (by simpa using hi)
      simpa using this)
    by_cases hp : p 0 = true
    · have e : w = v := by
        have := k 0 hp (by simp)
        simpa using this
      subst e
      refine ⟨F1 ++ Fa, ?_, fun q hq => ?_, fun nd => ?_⟩
      · show SlR Ω G H (some w :: vs.map some) ((if p 0 = true then some t else none) :: keepF (fun i => p (i + 1)) vs.length _) _
        rw [if_pos hp]
        exact .some r a
      · rcases List.mem_append.mp hq with z | z
        · exact List.mem_append_left _ z
        · exact List.mem_append_right _ (b q z)
      · obtain ⟨n1, n2, dj⟩ := nodup_app.mp nd
        exact nodup_app.mpr ⟨n1, c n2, fun q h1 h2 => dj q h1 (b q h2)⟩
    · refine ⟨Fa, ?_, fun q hq => List.mem_append_right _ (b q hq), fun nd => c (nodup_app.mp nd).2.1⟩
      show SlR Ω G H (some v :: vs.map some) ((if p 0 = true then some t else none) :: keepF (fun i => p (i + 1)) vs.length _) _
      rw [if_neg hp]
      exact .none a

/-- a def of the text, as the table has it -/
structure FunF (Ω : Wd) (Θ : Tab) (j : Nat) (F : Fn) (qual : Str) (params : Arguments) (body : List Stmt) (scope : Scope) (dV kV doc pm : Value) (an : Option Addr) (cdv ct oc : Value) (od : Option Addr) (osl : Array (Option Value)) : Prop where
  lk : Ω.K.lookup (Ω.fa j) = some ⟨oc, od, .func (PySem.W.fnOf F.name qual params body scope dV kV doc pm an cdv ct), osl⟩
  fd : Ω.fd j = PySem.W.fnOf F.name qual params body scope dV kV doc pm an cdv ct
  cd : PySem.W.codeIn Ω.K cdv qual = true
  sc : FnScope F.N F.ps scope
  chk : chkSs Θ F.kept scope F.N F.body body = true
theorem spOf_len {j : Nat} {F : Fn} (hj : Θ.fns[j]? = some F) {vs : List V} {H : Hp} {Q : VK} {E : XK} (h : spOf Ω Θ n j vs H Q E) : vs.length = F.ps.length := by
  obtain ⟨G, ts, Ft, sm, r, nd, h⟩ := h
  cases n with
  | zero => exact h.elim
  | succ n =>
    unfold callF at h
    rw [hj] at h
    dsimp only at h
    by_cases hl : ts.length = F.ps.length
    · rw [r.len, hl]
    · rw [if_neg hl] at h
      exact h.elim
theorem bodyGS {N : List Str} {qual : Str} {scope : Scope} {f : Addr} {cdv : Value} {A : Around} {outer : List PySem.Env} {s : Shared} {H : Hp} {E : XK} (hN : N.Nodup) (hk : scope.kind = .function) (room : Room (n + 3) (A.deeper (envOfC qual scope s.heap.objs.size f cdv))) (gd : A.guards = some []) :
    GS Ω n (fun cls d _ H => E cls d H) (bodyCx Ω N qual scope f cdv A outer s H E) where
  gx := {
    w := ⟨rfl, rfl, rfl, rfl, rfl⟩
    calm := rfl
    room := room
    gd := gd
    tk := takes_of (E := E) rfl rfl rfl rfl
    nd := hN
    st := fun _ _ _ => rfl
    kind := hk
    ps := passes_of rfl }
  fr := rfl
  fl := rfl
  ex := rfl
theorem fn_ok (T : TO Ω Θ n) {j : Nat} {F : Fn} (hj : Θ.fns[j]? = some F) {qual : Str} {params : Arguments} {body : List Stmt} {scope : Scope} {dV kV doc pm : Value} {an : Option Addr} {cdv ct oc : Value} {od : Option Addr} {osl : Array (Option Value)}
    (ff : FunF Ω Θ j F qual params body scope dV kV doc pm an cdv ct oc od osl) : FnG Ω (n + 1 + 3) (Ω.fa j) (Ω.fd j) F.ps (spOf Ω Θ (n + 1) j) := by
  rw [ff.fd]
  refine fnG_of (k := n + 3) ff.lk ff.cd ff.sc (fun vs H Q E h => spOf_len hj h) fun A outer s H vs Q E room gd h => ?_
  have gs : GS Ω n (fun cls d _ H => E cls d H) (bodyCx Ω F.N qual scope (Ω.fa j) cdv A outer s H E) := bodyGS ff.sc.nd ff.sc.kind room gd
  refine ⟨_, soundSs (Kp := F.kept) T F.body gs body ff.chk, ?_⟩
  have hl := spOf_len hj h
  obtain ⟨G, ts, Ft, sm, r, nd, h⟩ := h
  unfold callF at h
  rw [hj] at h
  dsimp only at h
  have lt : ts.length = F.ps.length := by rw [← r.len, hl]
  rw [if_pos lt] at h
  have lv : vs.length = ts.length := r.len
  refine ⟨G, ts.map some ++ List.replicate (F.N.length - ts.length) none, Ft, ⟨sm, ?_, nd⟩, ?_⟩
  · unfold L2.start
    rw [lv]
    exact slR_start r
  · have keep : ∀ {σ' : L2.St} {env' : FF.Env} {G' H' : Hp} {F' : List Addr}, KpEq F.kept (L2.start F.N vs) σ' → St Ω G' H' σ' env' F' → ∃ Fa, SlR Ω G' H' (vs.map some) (keptOf F.kept env' ts.length) Fa ∧ (∀ q ∈ Fa, q ∈ F') ∧ Fa.Nodup := by
      intro σ' env' G' H' F' k' st'
      obtain ⟨Fa, a, b, c⟩ := kept_ok vs (fun i => F.kept.contains i) st'.sl (fun i hp hi => by
        rw [k' i (by simpa using hp)]
        unfold L2.start
        rw [List.getElem?_append_left (by simpa using hi), List.getElem?_map])
      exact ⟨Fa, by unfold keptOf; rw [← lv]; exact a, b, c st'.nd⟩
    generalize er : evSs Θ (callF Θ n) F.body (ts.map some ++ List.replicate (F.N.length - ts.length) none) = res at h ⊢
    cases res with
    | nx env' =>
      intro σ' G' H' F' l' k' s' st'
      obtain ⟨Fa, a, b, c⟩ := keep k' st'
      exact h .non G' H' [] Fa (s'.sub fun q hq => b q (by simpa using hq)) st'.same a (.sh .non) (by simpa using c)
    | rt t env' =>
      intro v σ' G' H' F' Fv l' k' s' st' tr nd'
      obtain ⟨Fa, a, b, c⟩ := keep k' st'
      obtain ⟨n1, n2, dj⟩ := nodup_app.mp nd'
      exact h v G' H' Fv Fa (s'.sub fun q hq => by
        rcases List.mem_append.mp hq with z | z
        · exact List.mem_append_left _ (b q z)
        · exact List.mem_append_right _ z) st'.same a tr (nodup_app.mpr ⟨c, n2, fun q h1 h2 => dj q (b q h1) h2⟩)
    | ex c d env' =>
      intro σ' dd u G' H' F' l' k' s' st' x1 x2
      obtain ⟨Fa, a, b, c'⟩ := keep k' st'
      exact h dd u G' H' Fa (s'.sub b) st'.same a c' x1 x2
    | bk env' => exact h.elim
    | ct env' => exact h.elim
    | bad => exact h.elim
theorem fn_zero {j : Nat} {F : Fn} : FnG Ω 3 (Ω.fa j) (Ω.fd j) F.ps (spOf Ω Θ 0 j) where
  len := fun vs H Q E h => by
    obtain ⟨G, ts, Ft, sm, r, nd, h⟩ := h
    exact h.elim
  run := fun A outer s H args us vs Q E room gd e0 b r h => by
    obtain ⟨G, ts, Ft, sm, r, nd, h⟩ := h
    exact h.elim
theorem to_all (mk : ∀ n, (∀ j F, Θ.fns[j]? = some F → FnG Ω (n + 3) (Ω.fa j) (Ω.fd j) F.ps (spOf Ω Θ n j)) → TO Ω Θ n)
    (ff : ∀ j F, Θ.fns[j]? = some F → ∃ qual params body scope dV kV doc pm an cdv ct oc od osl, FunF Ω Θ j F qual params body scope dV kV doc pm an cdv ct oc od osl) : ∀ n, TO Ω Θ n
  | 0 => mk 0 fun j F hj => fn_zero
  | n + 1 => mk (n + 1) fun j F hj => by
    obtain ⟨qual, params, body, scope, dV, kV, doc, pm, an, cdv, ct, oc, od, osl, f⟩ := ff j F hj
    exact fn_ok (to_all mk ff n) hj f
end
end FF

set_option Elab.async false
set_option linter.all false
set_option autoImplicit false
set_option maxRecDepth 100000
/-! FW: the law's def called behind the top. -/
namespace FF
open PySem PySem.Spec PyProof.Rows L2

/-- the script alone is tracked (or it is one of the module's own lists) -/
theorem behind_top {P : Program} {w : World} {K : PySem.W.Frag} {mg mb : Str → Option Value} {k : Nat} {fa a : Addr} {fd : FuncData} {x : Str} {s₁ : Shared} {vs : List Value} {ns : List Int} {Ω : Heap → Wd} {sp : Heap → Sp}
    (hΩ : ∀ b, (Ω b).P = P ∧ (Ω b).w = w ∧ (Ω b).K = K ∧ (Ω b).mg = mg ∧ (Ω b).base = b)
    (inK : K.In s₁.heap) (nsG : s₁.heap.Ns mainGlobals mg) (nsB : s₁.heap.Ns builtinsNs mb) (boot : ∀ x : Str, x ≠ "__name__" → mb x = bootBuiltins x) (noLim : s₁.heap.NoLimit) (gens : s₁.gens = #[])
    (scr : s₁.heap.get? a = some { cls := .type "list", data := .seq vs.toArray }) (areI : IntsAre vs ns) (few : ns.length ≤ sizeLine) (room : Room k callerA)
    (FN : ∀ b : Heap, K.In b → b.Ns mainGlobals mg → FnG (Ω b) k fa fd [x] (sp b)) (bnd : ∀ (s : Shared) (u : Value), BindsTo s fd ⟨[u], []⟩ [(x, u)])
    (law : ∀ (b : Heap) (H : Hp), K.In b → b.Ns mainGlobals mg → SqL K H a (ns.map V.int) → sp b [.ref a] H (fun v _ => v = .bl true) fun _ _ _ => False) :
    codeAny (model P w) callerA (.call (.ref fa) ⟨[.ref a], []⟩) (fun r s' => r = .ok (.ret (.bool true)) ∧ OldK s₁.heap s'.heap ∧ s'.os = s₁.os ∧ AllBare s'.gens) s₁ := by
  have vals := vals_ints areI
  have same := areI.length
  have run : ∀ H : Hp, (∀ b, H b = none ∨ ∃ o xs, H b = some (.frz o (.lst xs))) → SqL K H a (ns.map V.int) → HOk P w H s₁.heap → (∀ b, H b ≠ none → b = a ∧ K.lookup a = none) →
      codeAny (model P w) callerA (.call (.ref fa) ⟨[.ref a], []⟩) (fun r s' => r = .ok (.ret (.bool true)) ∧ OldK s₁.heap s'.heap ∧ s'.os = s₁.os ∧ AllBare s'.gens) s₁ := by
    intro H one seq good only
    have at_ : ∀ {b : Addr} {o : Obj}, s₁.heap.get? b = some o → H b = none → (hidT s₁.heap H).get? b = some o := fun {b o} e n => hidT_get e n
    have free : ∀ {b : Addr} {o : Obj}, s₁.heap.get? b = some o → (∀ ys m, o.data ≠ .seq ys m) → H b = none := by
      intro b o e d
      cases q : H b with
      | none => rfl
      | some u =>
        obtain ⟨rfl, _⟩ := only b (by rw [q]; simp)
        rw [scr] at e
        cases e
        exact absurd rfl (d _ _)
    have nsT : ∀ {b : Addr} {m : Str → Option Value}, s₁.heap.Ns b m → (hidT s₁.heap H).Ns b m := by
      rintro b m ⟨o, es, ep, e, d, r⟩
      exact ⟨o, es, ep, at_ e (free e fun ys m z => by rw [d] at z; cases z), d, r⟩
    have inT : K.In (hidT s₁.heap H) := by
      intro b o e
      refine at_ (inK b o e) ?_
      cases q : H b with
      | none => rfl
      | some u =>
        obtain ⟨rfl, z⟩ := only b (by rw [q]; simp)
        rw [z] at e
        cases e
    obtain ⟨ml, l1, l2⟩ := noLim
    have modT : Mod K mg (hidT s₁.heap H) := ⟨inT, nsT nsG, ⟨mb, nsT nsB, boot⟩, ⟨ml, nsT l1, l2⟩⟩
    have env0 : Env0 P w K mg (hidT s₁.heap H) callerA [] s₁ H := ⟨rfl, modT, fun b o e => of_hidT e, Nat.le_of_eq (hidT_size _ _), trivial, fun b z => absurd z (List.not_mem_nil), good, .of_eq gens⟩
    obtain ⟨e1, e2, e3, e4, e5⟩ := hΩ (hidT s₁.heap H)
    rw [← e1, ← e2, ← e3, ← e4] at env0
    have q := (FN _ inT (nsT nsG)).run callerA [] s₁ H ⟨[.ref a], []⟩ [.ref a] [.ref a] _ _ room rfl (by rw [e5]; exact env0) (bnd s₁ (.ref a)) (.cons rfl .nil) (law _ H inT (nsT nsG) seq)
    rw [e1, e2] at q
    refine codeAny_mono q fun r s' out => ?_
    cases r with
    | error er =>
      obtain ⟨_, _, _, _, _, _, _, _, _, _, _, _, never⟩ := out
      exact never.elim
    | ok fl =>
      cases fl with
      | next => exact out.elim
      | brk => exact out.elim
      | cont => exact out.elim
      | ret u =>
        obtain ⟨v, H', os', bare', un', ok', rv, rfl⟩ := out
        obtain rfl : u = Value.bool true := rv
        refine ⟨rfl, OldK.of_keep fun b o e => ?_, os', bare'⟩
        rcases one b with z | ⟨ob, xs, z⟩
        · exact un'.keep b o e z (List.not_mem_nil) (List.not_mem_nil)
        · obtain ⟨g1, _⟩ := good b _ z
          obtain ⟨g2, _⟩ := ok' b _ (un'.frzs b ob _ z)
          rw [e] at g1
          cases g1
          exact g2
  cases own : K.lookup a with
  | some o =>
    have e := inK a o own
    rw [scr] at e
    cases e
    exact run (fun _ => none) (fun _ => .inl rfl) (.inr ⟨_, vs.toArray, _, own, rfl, rfl, rfl, by rw [List.size_toArray, same]; exact few, by simpa using vals⟩) (fun b u z => nomatch z) fun b z => absurd rfl z
  | none =>
    have here : ∀ b u, upd (fun _ => none) a (.frz { cls := .type "list", data := .seq vs.toArray } (.lst (ns.map V.int))) b = some u → b = a ∧ u = .frz { cls := .type "list", data := .seq vs.toArray } (.lst (ns.map V.int)) := by
      intro b u e
      by_cases hb : b = a
      · subst hb
        rw [upd_same] at e
        cases e
        exact ⟨rfl, rfl⟩
      · rw [upd_ne hb] at e
        cases e
    refine run (upd (fun _ => none) a (.frz { cls := .type "list", data := .seq vs.toArray } (.lst (ns.map V.int)))) (fun b => ?_) (.inl (.inr ⟨_, upd_same⟩)) (fun b u e => ?_) fun b z => ?_
    · cases q : upd (fun _ => none) a (.frz { cls := .type "list", data := .seq vs.toArray } (.lst (ns.map V.int))) b with
      | none => exact .inl rfl
      | some u => obtain ⟨_, rfl⟩ := here b u q; exact .inr ⟨_, _, rfl⟩
    · obtain ⟨rfl, rfl⟩ := here b u e
      exact ⟨scr, by rw [List.length_map]; exact few, vs, _, vals, scr⟩
    · cases q : upd (fun _ => none) a (.frz { cls := .type "list", data := .seq vs.toArray } (.lst (ns.map V.int))) b with
      | none => exact absurd q z
      | some u => exact ⟨(here b u q).1, own⟩

theorem dp_ints {K : PySem.W.Frag} {H : Hp} : ∀ ns : List Int, DpAll K H (ns.map V.int) (ns.map PyData.int)
  | [] => .nil
  | n :: ns => .cons (.int n) (dp_ints ns)
/-- the law's promise from what the evaluator answers -/
theorem law_sp {Ω : Wd} {Θ : Tab} {n j : Nat} {H : Hp} {a : Addr} {ns : List Int} {as : List (Option Tr)} (hs : SqL Ω.K H a (ns.map V.int)) (h : callF Θ n j [.sh (.list (ns.map PyData.int))] = .ok (.sh (.bool true)) as) :
    spOf Ω Θ n j [.ref a] H (fun v _ => v = .bl true) fun _ _ _ => False := by
  refine ⟨H, _, [], Same.refl H, .cons (F1 := []) (.sh (.lst hs (dp_ints ns))) .nil, List.nodup_nil, ?_⟩
  rw [h]
  intro v G' H' Fv Fa _ _ _ tr _
  cases tr with
  | sh q => exact dp_bool q
/-- THE END: WalkO from the defs' facts and the evaluator's answers -/
theorem walk_top {l : PySem.W.OpenLaw} {m N jl : Nat} {q : Program} {loose : List Str} {XP : (Str → Option Value) → Heap → Prop} {YP : World → Heap → Prop} {d : DefRec} {K : Params → PySem.W.Frag} {x : Str} {Θ : Tab}
    (hn : l.most = some m) (hm : m ≤ sizeLine) (hdf : d.params.defaults = []) (room : Room (N + 3) callerA)
    (hY : ∀ (w : World) (h : Heap), YP w h → (K w.params).In h)
    (FN : ∀ (w : World) (mg : Str → Option Value) (fa : Addr) (h : Heap), (K w.params).In h → h.Ns mainGlobals mg → mg d.name = some (.ref fa) →
      ∃ (fd : FuncData) (Ω : Heap → Wd), (∀ (s : Shared) (u : Value), BindsTo s fd ⟨[u], []⟩ [(x, u)]) ∧ (∀ b, (Ω b).P = l.prog ∧ (Ω b).w = w ∧ (Ω b).K = K w.params ∧ (Ω b).mg = mg ∧ (Ω b).base = b) ∧
        ∀ b : Heap, (K w.params).In b → b.Ns mainGlobals mg → FnG (Ω b) (N + 3) fa fd [x] (spOf (Ω b) Θ N jl))
    (law : ∀ ns : List Int, ns.length ≤ m → ∃ as, callF Θ N jl [.sh (.list (ns.map PyData.int))] = .ok (.sh (.bool true)) as) :
    PySem.W.WalkO q loose XP YP l.row.toRowW d [] (fun f vs => PySem.call f vs) := by
  refine Att.attach_call hn hdf fun w s₀ s₁ mg mb fa o pm cd doc a vs ns GR Y ho hd hcd hmg hobj hints hlen hg => ?_
  have inK := hY w _ Y
  obtain ⟨fd, Ω, hb, hΩ, hF⟩ := FN w mg fa _ inK GR.T.g hmg
  obtain ⟨as, hc⟩ := law ns hlen
  exact behind_top hΩ inK GR.T.g GR.T.b GR.T.builtins GR.T.nolimit hg hobj hints (Nat.le_trans hlen hm) room hF hb fun b H _ _ hs => law_sp (by rw [(hΩ b).2.2.1]; exact hs) hc
/-- the facts of a list of defs, one by one -/
def Each {α : Type} (P : Nat → α → Prop) : Nat → List α → Prop
  | _, [] => True
  | k, x :: xs => P k x ∧ Each P (k + 1) xs
theorem Each.get {α : Type} {P : Nat → α → Prop} : ∀ {k : Nat} {xs : List α} {j : Nat} {x : α}, Each P k xs → xs[j]? = some x → P (k + j) x
  | k, [], j, x, _, e => by simp at e
  | k, y :: ys, 0, x, h, e => by
    simp only [List.getElem?_cons_zero, Option.some.injEq] at e
    subst e
    exact h.1
  | k, y :: ys, j + 1, x, h, e => by
    have := Each.get (j := j) h.2 (by simpa using e)
    rw [show k + (j + 1) = k + 1 + j by omega]
    exact this
theorem Each.all {α : Type} {P : Nat → α → Prop} {xs : List α} (h : Each P 0 xs) {j : Nat} {x : α} (e : xs[j]? = some x) : P j x := by
  have := h.get e
  rwa [Nat.zero_add] at this
/-- one def's facts -/
structure DefF (Ω : Wd) (Θ : Tab) (st : Nat → Stmt) (j : Nat) (F : Fn) : Prop where
  fn : L2.Fun Ω.K F.name F.name (st j) (Ω.fa j) (Ω.fd j)
  nm : Ω.mg F.name = some (.ref (Ω.fa j))
  bd : Binds Ω.K (Ω.fd j) F.ps []
  sc : FnScope F.N F.ps (defScope (st j))
  md : F.modes.length = F.ps.length
  ck : chkSs Θ F.kept (defScope (st j)) F.N F.body (defBody (st j)) = true
theorem DefF.fun {Ω : Wd} {Θ : Tab} {st : Nat → Stmt} {j : Nat} {F : Fn} (h : DefF Ω Θ st j F) : ∃ qual params body scope dV kV doc pm an cdv ct oc od osl, FunF Ω Θ j F qual params body scope dV kV doc pm an cdv ct oc od osl := by
  obtain ⟨oc, od, kV, doc, pm, an, cdv, ct, osl, e, lk, cd⟩ := h.fn.ex
  exact ⟨_, _, _, _, _, _, _, _, _, _, _, _, _, _, ⟨by rw [e] at lk; exact lk, e, cd, h.sc, h.ck⟩⟩
/-- an own exception class's facts -/
structure ClsF (Ω : Wd) (Θ : Tab) (c : Nat) (x : Str) : Prop where
  nm : Ω.mg x = some (.ref (Ω.ca c))
  ty : ∀ T ∈ plainTys, PySem.W.kitOne Ω.K (.type T) (.ref (Ω.ca c)) = some false
  ek : ExK Ω.K (Ω.ca c)
  ib : ∀ T ∈ plainTys, PySem.W.kitOne Ω.K (.ref (Ω.ca c)) (.type T) = some false
  iv : PySem.W.kitOne Ω.K (.ref (Ω.ca c)) (.type "ValueError") = some true
  ox : OexC Ω.K (Ω.ca c)
  su : SupC Ω.K (Ω.ca 0) (Ω.ca c)
  ii : PySem.W.findIn Ω.K (.ref (Ω.ca c)) "__init__" = some (some (.ref Ω.fi))
  em : PySem.W.exmOne Ω.K (.ref (Ω.ca c)) (.ref (Ω.ca 0)) = some true
  is : ∀ k, k < Ω.nc → PySem.W.kitOne Ω.K (.ref (Ω.ca c)) (.ref (Ω.ca k)) = some (k == 0 || k == c)
theorem to_mk {Ω : Wd} {Θ : Tab} {st : Nat → Stmt} (df : Each (DefF Ω Θ st) 0 Θ.fns) (cf : Each (ClsF Ω Θ) 0 Θ.cls) (nc : Ω.nc = Θ.cls.length)
    (kw : ∀ j npos ks perm, (j, npos, ks, perm) ∈ Θ.kws → ∀ F, Θ.fns[j]? = some F → KwFact Ω (Ω.fd j) F.ps npos ks perm)
    (con : ∀ (k : Nat) (c : Str × D), Θ.con[k]? = some c → ∃ (u : Value) (v : V), Ω.mg c.1 = some u ∧ RelV v u ∧ ∀ G, Dp Ω.K G v c.2)
    (blt : ∀ x, x ∈ bltNames → Ω.mg x = none)
    (tyI : 0 < Ω.nc → PySem.W.typeIn Ω.K (.ref Ω.fi) = some (.type "function"))
    (fnI : 0 < Ω.nc → FnOk Ω.P Ω.w Ω.K Ω.mg Ω.base (L2.CX Ω.P Ω.w) 1 Ω.fi Ω.fid ["self", "value"] (spI Ω))
    (bdI : 0 < Ω.nc → Binds Ω.K Ω.fid ["self", "value"] [])
    (bdI0 : 0 < Ω.nc → Binds Ω.K Ω.fid ["self", "value"] [.none])
    (bdIk : 0 < Ω.nc → ∀ (s : Shared) (u v : Value), Ω.K.In s.heap → BindsTo s Ω.fid ⟨[u], [("value", v)]⟩ [("self", u), ("value", v)]) : ∀ n, TO Ω Θ n := by
  have cls : ∀ c, c < Ω.nc → ∃ x, Θ.cls[c]? = some x ∧ ClsF Ω Θ c x := fun c h => by
    rw [nc] at h
    exact ⟨_, List.getElem?_eq_getElem h, cf.all (List.getElem?_eq_getElem h)⟩
  refine to_all (fun n fok => ?_) fun j F hj => (df.all hj).fun
  exact {
    fnm := fun j F hj => (df.all hj).nm
    fkp := fun j F hj => (df.all hj).fn.kp
    fbd := fun j F hj => (df.all hj).bd
    fok := fok
    fln := fun j F hj => (df.all hj).md
    kwf := kw
    con := con
    blt := blt
    ncl := nc
    rai := fun c h => let ⟨_, _, q⟩ := cls c h; ⟨q.ox, q.su, q.ii⟩
    tyI := tyI
    fnI := fnI
    bdI := bdI
    bdI0 := bdI0
    bdIk := bdIk
    exm := fun c h => let ⟨_, _, q⟩ := cls c h; q.em
    cnm := fun c x e => (cf.all e).nm
    cty := fun c h => let ⟨_, _, q⟩ := cls c h; q.ty
    exk := fun c h => let ⟨_, _, q⟩ := cls c h; q.ek
    exi := fun c k h hk => let ⟨_, _, q⟩ := cls c h; q.is k hk
    exb := fun c h => let ⟨_, _, q⟩ := cls c h; q.ib
    exv := fun c h => let ⟨_, _, q⟩ := cls c h; q.iv }
end FF

set_option Elab.async false
set_option linter.all false
set_option autoImplicit false
set_option maxRecDepth 100000
/-! FX: the exceptions' own __init__: super().__init__(value), self.value = value. -/
namespace FF
open PySem PySem.Spec PyProof.Rows L2

/-- the text of that __init__ -/
abbrev iniBody (p1 p2 p3 p4 p5 p6 p7 p8 p9 p10 : Pos) : List Stmt :=
  [.Expr (.Call (.Attribute (.Call (.Name "super" p1) [] [] p2) "__init__" p3) [.Name "value" p4] [] p5) p6, .Assign [.Attribute (.Name "self" p7) "value" p8] (.Name "value" p9) p10]
abbrev iniScope : Scope := { kind := .function, names := [("self", .local), ("value", .local), ("__class__", .free), ("super", .globalImplicit)], isGenerator := false, isCoroutine := false, more := [] }
abbrev bareScope : Scope := { kind := .function, names := [("self", .local), ("value", .local)], isGenerator := false, isCoroutine := false, more := [] }
theorem bare_fn : FnScope ["self", "value"] ["self", "value"] bareScope := ⟨rfl, rfl, rfl, by decide, rfl, by decide, by decide⟩
section
variable {prog : Program} {w : World} {A : Around} {E : Value → Shared → Prop} {h : Heap} {g : Array GenState} {d : Drawn} {t : Nat} {os : OsState}
/-- the method-wrapper of ValueError.__init__ called -/
theorem call_mw {nm q : Str} {C N : Addr} {bs bm : List Value} {hdct : Bool} {sn : List Str} {sub : List Value} {ab : Bool} {col : Option Bool} {dd : Option Addr} {k0 k1 k2 k3 k5 : Option Value} {u e t0 : Addr} {rest : List Value} {Q : Value → Shared → Prop}
    (hC : h.get? C = some (excClassObj nm q C N bs bm hdct sn sub ab col dd k0 k1 k2 k3 k5 "ValueError.__new__")) (he : h.get? e = some (PySem.W.excRec (.ref C) t0 none .none .none (.bool false))) (hu : h.get? u = some (PySem.W.kxs_mw "ValueError.__init__" e)) (hz : rest.length ≤ sizeLine)
    (hq : ∀ h' t1, (∀ b o, b ≠ e → h.get? b = some o → h'.get? b = some o) → h'.get? e = some (PySem.W.excRec (.ref C) t1 none .none .none (.bool false)) → Q .none ⟨h', g, d, t, os⟩) :
    wpAny (model prog w) A (call (.ref u) rest) Q E ⟨h, g, d, t, os⟩ := by
  refine wpAny_call (codeAny_of_tree ?_)
  show wpAny _ A.in1 (callAny (.ref u) ⟨rest, []⟩) _ _ _
  simp only [callAny]
  refine wpAny_bind (wpAny_load hu ?_)
  have c1 : (Value.type "method-wrapper" == Value.type "method" || Value.type "method-wrapper" == Value.type "builtin_function_or_method" || Value.type "method-wrapper" == Value.type "method-wrapper") = true := by decide
  simp only [PySem.W.kxs_mw, c1, if_true]
  refine PySem.W.KFB.if_so (by decide) (wpAny_bind (PySem.W.check_bound_init F.excBase_ValueError.toExcCallFacts hC he rfl ?_))
  refine wpAny_bind (wpAny_pure (wpAny_pure ⟨plainId_quiet F.excBase_ValueError.init.plain _, codeAny_builtin F.excBase_ValueError.initEntry ?_⟩))
  exact PySem.W.exc_init_tree he hz fun h' k e' _ => hq h' _ k e'
end
section
variable {P : Program} {w : World} {K : PySem.W.Frag} {mg : Str → Option Value} {base : Heap} {H : Hp} {s : Shared} {outer : List PySem.Env} {A A1 : Around} {a C D : Addr} {v : V} {uv : Value} {L : Addr}
/-- super() in the exceptions' __init__ -/
theorem super_obj {X : Cx} {pins : List (Addr × Obj)} {σ : L2.St} {H : Hp} {s : Shared} {env : PySem.Env} {body : List Stmt} {p0 p1 : Pos} {whole : Sem Value} {f cda cc : Addr} {of : Obj} {fdd : FuncData} {ar : Arg} {fvs : Array Value} {file : Str} {tf : Tok} {m : Str → Option Value} {ox ocd occ : Obj} {cdD : ClassData} {Q : Value → Shared → Prop} {E : Value → Shared → Prop}
    (I : Inv X pins σ H s) (hks : env.scope.names.lookup ("super" : Str) = some .globalImplicit) (hkc : env.scope.names.lookup ("__class__" : Str) = some .free) (hkl : env.scope.names.lookup ("self" : Str) = some .local) (hk : env.scope.kind = .function) (hfu : env.func = some f) (hf : s.heap.get? f = some of) (hfd : of.data = .func fdd)
    (hp : (fdd.params.posonlyargs ++ fdd.params.args).head? = some ar) (har : ar.arg = ("self" : Str)) (hco : env.code = .ref cda) (hcc : s.heap.get? cda = some ocd) (hoc : ocd.data = .fields fvs) (hvs : fvs[2]? = some (.str file tf))
    (hfile : ((X.prog.main.file : Str) == file) = true) (htop : (X.prog.main.scope.names.lookup ("super" : Str)).isSome = false) (hsup : X.mg "super" = none) (hgl : env.globals = mainGlobals) (hbl : env.builtins = builtinsNs)
    (hcl : env.cells.lookup ("__class__" : Str) = some cc) (hcell : s.heap.get? cc = some occ) (hcd : occ.data = .cell (some (.ref D))) (hns : s.heap.Ns env.locals m) (hm : m "self" = some (.ref a)) (hD : PySem.W.clsIn X.K D = some cdD) (hx : s.heap.get? a = some ox) (hxc : ox.cls = .ref C) (hnc : ∀ c, ox.data ≠ .cls c)
    (hsub : PySem.W.mroIn X.K C (.ref D) = some true)
    (hq : ∀ so h', h'.get? so = some { cls := .type "super", dict := none, data := .fields #[.ref D, .ref a, .ref C], slots := #[] } → (∀ y o, s.heap.get? y = some o → h'.get? y = some o) → Q (.ref so) { s with heap := h' }) :
    _root_.PySem.wpAt (model X.prog X.w) A (.func body env) (attributeBase (.Call (.Name "super" p0) [] [] p1) "__init__" env whole) Q E s := by
  have kin := I.kIn
  obtain ⟨oD, hD1, hD2⟩ : ∃ oD, s.heap.get? D = some oD ∧ oD.data = .cls cdD := by
    unfold PySem.W.clsIn at hD
    split at hD
    · rename_i c d cd' sl ho
      cases hD
      exact ⟨_, kin _ _ ho, rfl⟩
    · cases hD
  refine ks_wpAt_super_base hks hkc (by decide) hfu hf hfd hp hco hcc hoc hvs hfile htop ?_
  have mod := I.mod
  obtain ⟨mb, nb, hb⟩ := mod.blt
  have gl : s.heap.Ns env.globals X.mg := by rw [hgl]; exact mod.glob.keeps I.bk
  have bl : s.heap.Ns env.builtins mb := by rw [hbl]; exact nb.keeps I.bk
  refine PySem.W.ks_loadName_global hk hks (Calls.loadGlobal_builtin gl hsup bl ((hb _ (by decide)).trans (show bootBuiltins "super" = some (.type "super") from rfl)) ⟨rfl, ?_⟩)
  refine wpAny_loadName_free hk hkc hcl ⟨_, hcell, hcd⟩ ?_
  rw [har]
  refine wpAny_loadName_local hk hkl hns hm ?_
  refine ks_wpAny_isType_cls hD1 hD2 ⟨rfl, ?_⟩
  obtain ⟨hh, g, dr, tk, os⟩ := s
  exact ks_wpAny_call_super hD1 hD2 hx hxc hnc (PySem.W.looks_mroIn kin hsub) fun h' e k => hq _ h' e k
end
theorem two_binds (ua uv : Value) (sc : Scope) (h1 : sc.names.lookup ("self" : Str) = some .local) (h2 : sc.names.lookup ("value" : Str) = some .local) (L f : Addr) (qual : Str) (cd : Value) :
    (fun x => [(("self" : Str), ua), ("value", uv)].reverse.lookup x) = bindL (envOfC qual sc L f cd).kindOf [("self", ua), ("value", uv)] fun _ => none := by
  funext x
  have k1 : (envOfC qual sc L f cd).kindOf "self" = some .local := h1
  have k2 : (envOfC qual sc L f cd).kindOf "value" = some .local := h2
  simp only [bindL, k1, k2, if_true, List.reverse_cons, List.reverse_nil, List.nil_append, List.cons_append, List.lookup]
  by_cases e1 : x = "value"
  · subst e1; simp
  · have b1 : (x == ("value" : Str)) = false := beq_eq_false_iff_ne.mpr e1
    rw [b1, if_neg e1]
    by_cases e2 : x = "self"
    · subst e2; simp
    · have b2 : (x == ("self" : Str)) = false := beq_eq_false_iff_ne.mpr e2
      rw [b2, if_neg e2]
section
variable {P : Program} {w : World} {K : PySem.W.Frag} {mg : Str → Option Value} {base : Heap}
/-- the value that a slot of that def holds -/
theorem slot_val {X : Cx} {σ : L2.St} {H : Hp} {s : Shared} (I : Inv X [] σ H s) {i : Nat} {x : Str} {v : V} (hN : X.N[i]? = some x) (hσ : σ[i]? = some (some v)) (hl : X.env.scope.names.lookup x = some .local) : ∃ m u, s.heap.Ns X.env.locals m ∧ m x = some u ∧ RelV v u := by
  obtain ⟨m, hn, hl2⟩ := I.loc
  obtain ⟨u, r, l⟩ := hl2 i x v hN hσ (.inl hl)
  rcases l with ⟨_, hm⟩ | ⟨hk, _⟩
  · exact ⟨m, u, hn, hm, r⟩
  · rcases hk with hk | hk
    · have : X.env.scope.names.lookup x = some .cell := hk
      rw [hl] at this; cases this
    · have : X.env.scope.names.lookup x = some .free := hk
      rw [hl] at this; cases this
theorem ini_run {f cc cda D : Addr} {params : Arguments} {oc dV kV doc pm ct : Value} {an od : Option Addr} {osl : Array (Option Value)} {file : Str} {p1 p2 p3 p4 p5 p6 p7 p8 p9 p10 : Pos}
    (lk : K.lookup f = some ⟨oc, od, .func (PySem.W.ksFn "__init__" "DrawError.__init__" params (iniBody p1 p2 p3 p4 p5 p6 p7 p8 p9 p10) iniScope dV kV doc pm an (.ref cda) ct cc), osl⟩)
    (cd : PySem.W.codeIn K (.ref cda) "DrawError.__init__" = true) (par : ∃ ar, (params.posonlyargs ++ params.args).head? = some ar ∧ ar.arg = ("self" : Str))
    (code : ∃ ccl cdd fvs ccs tf, K.lookup cda = some ⟨ccl, cdd, .fields fvs, ccs⟩ ∧ fvs[2]? = some (.str file tf)) (fl : ((P.main.file : Str) == file) = true)
    (cell : ∃ cl cld csl, K.lookup cc = some ⟨cl, cld, .cell (some (.ref D)), csl⟩) (cls : ∃ cdD, PySem.W.clsIn K D = some cdD) (sup : mg "super" = none) (top : (P.main.scope.names.lookup ("super" : Str)).isSome = false)
    (opq : PySem.W.nsIn K cStatics "thirdparty.any" = some none)
    (ev : ∃ pl : Sem Bool, ∀ env : PySem.Env, eval (.Call (.Attribute (.Call (.Name "super" p1) [] [] p2) "__init__" p3) [.Name "value" p4] [] p5) env = (do
      let ov ← attributeBase (.Call (.Name "super" p1) [] [] p2) "__init__" env (eval (.Call (.Name "super" p1) [] [] p2) env)
      standAt p3.atName
      let (f, first) ← holding [ov] (getMethod ov "__init__" pl)
      callWith p5 f first (backTo p5 (starEach [.Name "value" p4] env)) []))
    (sp : Sp) (hsp : ∀ vs H Q E, sp vs H Q E → ∃ a C v, vs = [.ref a, v] ∧ OexC K C ∧ SupC K D C ∧ PySem.W.findIn K (.ref C) "value" = some none ∧ H a = some (exo a C none) ∧
      ∀ dx, H dx = none → dx ≠ a → Q .non (upd (upd H dx (exd dx [("value", v)])) a (exo a C (some dx)))) :
    FnOk P w K mg base (L2.CX P w) 1 f (PySem.W.ksFn "__init__" "DrawError.__init__" params (iniBody p1 p2 p3 p4 p5 p6 p7 p8 p9 p10) iniScope dV kV doc pm an (.ref cda) ct cc) ["self", "value"] sp := by
  constructor
  · intro vs H Q E h
    obtain ⟨a, C, v, rfl, _⟩ := hsp vs H Q E h
    rfl
  intro A outer s H args us vs Q E room e0 bnd rel h
  obtain ⟨a, C, v, rfl, ox, sc, no, ea, fin⟩ := hsp vs H Q E h
  obtain ⟨ua, uv, rfl, ra, rv⟩ := vals2 rel
  obtain rfl : ua = Value.ref a := ra
  have inK : K.In s.heap := e0.mod.kin.keeps fun b o e => (e0.bs b o e).1
  obtain ⟨ar, har, hself⟩ := par
  obtain ⟨ccl, cdd, fvs, ccs, tf, hcode, hvs⟩ := code
  obtain ⟨cl, cld, csl, hcell⟩ := cell
  obtain ⟨cdD, hD⟩ := cls
  refine ks_codeAny_call_defAt (body := iniBody p1 p2 p3 p4 p5 p6 p7 p8 p9 p10) (binds := [("self", .ref a), ("value", uv)]) room.depth (inK _ _ lk) rfl (e0.mod.nolimit.keeps fun b o e => (e0.bs b o e).1) (PySem.W.codeRec_of inK cd) rfl bnd (show ∀ x ∈ iniScope.names, x.2 ≠ .cell by decide) (fun x hx => by
    simp only [List.mem_cons, List.not_mem_nil, or_false] at hx
    rcases hx with rfl | rfl <;> rfl) (fun h0 ns0 k0 => ?_)
  generalize hX : cxOf (L2.CX P w) P w K mg base ["self", "value"] "DrawError.__init__" bareScope f (.ref cda) A outer s H E = X
  have I0 : Inv X [] (L2.start ["self", "value"] [.ref a, v]) H { s with heap := h0, toks := s.toks + 2 } := by
    rw [← hX]
    refine inv_start bare_fn room.hd e0 rfl rel ⟨⟨⟨_, _, rfl⟩, ?_, k0, Nat.le_refl _⟩, fun n c e => (nomatch e), List.Pairwise.nil, fun n c e => (nomatch e)⟩
    have z := ns0
    rw [two_binds _ _ bareScope rfl rfl s.heap.objs.size f "DrawError.__init__" (.ref cda)] at z
    exact z
  have eP : X.prog = P := by subst hX; rfl
  have eW : X.w = w := by subst hX; rfl
  have eK : X.K = K := by subst hX; rfl
  have eM : X.mg = mg := by subst hX; rfl
  have eN : X.N = (["self", "value"] : List Str) := by subst hX; rfl
  have eL : X.env.locals = s.heap.objs.size := by rw [← hX]; rfl
  have eS : X.env.scope = bareScope := by rw [← hX]; rfl
  have val : ∀ {s' : Shared} {H' : Hp}, Inv X [] (L2.start ["self", "value"] [.ref a, v]) H' s' → ∃ m u, s'.heap.Ns s.heap.objs.size m ∧ m "value" = some u ∧ RelV v u := fun I => by
    have z := slot_val I (i := 1) (x := "value") (v := v) (by rw [eN]; rfl) rfl (by rw [eS]; rfl)
    rw [eL] at z; exact z
  have slf : ∀ {s' : Shared} {H' : Hp}, Inv X [] (L2.start ["self", "value"] [.ref a, v]) H' s' → ∃ m, s'.heap.Ns s.heap.objs.size m ∧ m "self" = some (.ref a) := fun I => by
    obtain ⟨m, u, z1, z2, z3⟩ := slot_val I (i := 0) (x := "self") (v := .ref a) (by rw [eN]; rfl) rfl (by rw [eS]; rfl)
    obtain rfl : u = Value.ref a := z3
    rw [eL] at z1; exact ⟨m, z1, z2⟩
  have fin2 : ∀ {s' : Shared} {dx : Addr}, H dx = none → dx ≠ a → Inv X [] (L2.start ["self", "value"] [.ref a, v]) (upd (upd H dx (exd dx [("value", v)])) a (exo a C (some dx))) s' → CR (L2.CX P w) outer P w H s Q E (.ok (.ret .none)) s' := fun {s' dx} n1 n2 J => by
    rw [← hX] at J
    exact ⟨.non, _, J.os, J.bare, J.base, J.hok, rfl, fin dx n1 n2⟩
  subst eP eW eK
  have kinX := I0.kIn
  have hC2 : ∃ cdC, PySem.W.clsIn X.K C = some cdC ∧ PySem.W.alongIn X.K "__init__" ((cdC.mro.dropWhile (· != .ref D)).drop 1) = some (some (.builtin "ValueError.__init__")) := by
    have z := sc.mth
    unfold PySem.W.ks_superIn at z
    cases e : PySem.W.clsIn X.K C with
    | none => rw [e] at z; cases z
    | some cdC => rw [e] at z; exact ⟨cdC, rfl, z⟩
  obtain ⟨cdC, hcC, halong⟩ := hC2
  obtain ⟨t0, hoe⟩ := exo_at I0.hok ea
  obtain ⟨pl, ev⟩ := ev
  refine ks_wpAt_execs_cons (ks_wpAt_Expr_any (ks_wpAt_MethodCall ?_ (ev _)) rfl rfl)
  · obtain ⟨ms, nsS, hmS⟩ := slf I0
    refine super_obj (X := X) (a := a) (C := C) (D := D) I0 rfl rfl rfl rfl rfl (kinX _ _ lk) rfl har hself rfl (kinX _ _ hcode) rfl hvs fl top (by rw [eM]; exact sup) rfl rfl rfl (kinX _ _ hcell) rfl nsS hmS hD hoe rfl (fun c z => nomatch z) sc.sub fun so h1 eso k1 => ?_
    have I1 : Inv X [] (L2.start ["self", "value"] [.ref a, v]) H { s with heap := h1, toks := s.toks + 2 } := I0.kept k1
    obtain ⟨t1, hoe1⟩ := exo_at I1.hok ea
    have J1 : PySem.W.InstAt h1 a _ C none := ⟨hoe1, rfl, rfl, trivial⟩
    refine PySem.W.kxs_getMethod PySem.W.kxs_ValueError eso (PySem.W.looks_opaque I1.kIn opq) (l₀ := cdC.mro) (fun A Q E s k q => wpAny_bind ((PySem.W.looks_clsIn I1.kIn hcC) A _ E s k (wpAny_pure q))) rfl I1.kIn halong (J1.type.andThen (PySem.W.looks_subIn I1.kIn sc.ve)) (PySem.W.ks_ne I1.kIn J1 hcC) (by decide) ?_
    have I2 : Inv X [] (L2.start ["self", "value"] [.ref a, v]) H { s with heap := h1.push (PySem.W.kxs_mw "ValueError.__init__" a), toks := s.toks + 2 + 1 } := I1.kept fun b o e => Heap.get?_push_of_some _ e
    refine PySem.W.kxs_callWith (i := "ValueError.__init__") (x := a) rfl (Calls.evalArgs_plain (Calls.spliced_cons ?_))
    obtain ⟨mv, u1, nsV, hmV, rV⟩ := val I2
    refine PySem.ESX.ldL nsV hmV (Calls.spliced_nil ?_) rfl rfl (by decide)
    refine ⟨Heap.get?_push_size _ rfl, ?_⟩
    obtain ⟨nm, q, N, bs, bm, sn, sub, ab, col, dd, k0', k1', k2', k3', k5', hCo, hbm⟩ := ox.cls
    obtain ⟨t2, hoe2⟩ := exo_at I2.hok ea
    refine call_mw (I2.kIn _ _ hCo) hoe2 (Heap.get?_push_size _ rfl) (by show 1 ≤ sizeLine; rw [sizeLine_eq]; omega) fun h3 t3 k3 e3 => ?_
    have I3 : Inv X [] (L2.start ["self", "value"] [.ref a, v]) H { s with heap := h3, toks := s.toks + 2 + 1 } := by
      have z := I2.write (t' := s.toks + 2 + 1) (x := a) (e := a) (o := exo a C none) (by rw [ea]; exact True.intro) (.inl rfl) k3 ⟨_, e3⟩ (exo_ok e3)
      have eu : upd H a (exo a C none) = H := by
        funext b
        by_cases hb : b = a
        · subst hb; rw [upd_same, ea]
        · rw [upd_ne hb]
      rw [eu] at z
      exact z
    refine wpAt_of_wpAny (wpAny_execs_cons (plainObj_wpAny_Assign_Attribute ?_ rfl))
    obtain ⟨m4, u4, ns4, hm4, r4⟩ := val I3
    refine PySem.ESX.ldL ns4 hm4 ?_ rfl rfl (by decide)
    obtain ⟨m5, ns5, hm5⟩ := slf I3
    refine PySem.ESX.ldL ns5 hm5 ?_ rfl rfl (by decide)
    refine ost_new ox I3 ea no r4 fun dx s' n1 n2 J => ?_
    exact wpAny_execs_nil (fin2 n1 n2 J)
end
end FF

set_option Elab.async false
set_option linter.all false
set_option autoImplicit false
set_option maxRecDepth 100000
/-! FY: texts of small data. -/
namespace FF
open PySem PySem.Spec PyProof.Rows L2
/-- small data of at most k floors -/
def sm : Nat → D → Bool
  | _, .none => true
  | _, .bool _ => true
  | _, .int i => decide (i.natAbs < 2 ^ 1000)
  | _, .str x => PyData.strOk (reprText x) && decide ((reprText x).length ≤ 1001)
  | k + 1, .list xs => decide (xs.length ≤ 8) && xs.all fun x => sm k x
  | k + 1, .tuple xs => decide (xs.length ≤ 8) && xs.all fun x => sm k x
  | _ + 1, .dict [] => true
  | _, _ => false
theorem ok_app {x y : Str} (h1 : PyData.strOk x = true) (h2 : PyData.strOk y = true) : PyData.strOk (x ++ y) = true := by
  show ((x.cps ++ y.cps).all _) = true
  rw [Array.all_append]
  exact Bool.and_eq_true_iff.mpr ⟨h1, h2⟩
theorem ok_of (s : String) : PyData.strOk (Str.ofString s) = true := by
  rw [Str.ofString_eq_toList]
  unfold PyData.strOk
  rw [List.all_toArray, List.all_map, List.all_eq_true]
  intro c _
  have v : c.val.toNat < 1114112 := by
    rcases c.valid with h | h
    · exact Nat.lt_trans h (by decide)
    · exact h.2
  exact decide_eq_true v
theorem ok_text : ∀ (ts : List Str) (k : Nat) (acc : Str), PyData.strOk acc = true → (∀ t ∈ ts, PyData.strOk t = true) → PyData.strOk (textFrom k acc ts) = true
  | [], _, _, h, _ => h
  | t :: ts, k, acc, h, hs => ok_text ts (k + 1) _ (ok_app (ok_app h (ok_of _)) (hs t (List.mem_cons_self ..))) (fun x hx => hs x (List.mem_cons_of_mem _ hx))
theorem ok_join {s : Str} (h : PyData.strOk s = true) : ∀ ts : List Str, (∀ t ∈ ts, PyData.strOk t = true) → PyData.strOk (Str.join s ts) = true
  | [], _ => by show PyData.strOk Str.empty = true; decide +kernel
  | [x], hs => hs x (List.mem_cons_self ..)
  | x :: y :: r, hs => ok_app (ok_app (hs x (List.mem_cons_self ..)) h) (ok_join h (y :: r) (fun z hz => hs z (List.mem_cons_of_mem _ hz)))
theorem len_of (s : String) : (Str.ofString s).length = s.length := PySem.ofString_length s
theorem len_app (x y : Str) : (x ++ y).length = x.length + y.length := Array.size_append ..
theorem len_text : ∀ (ts : List Str) (k : Nat) (acc : Str) (b : Nat), (∀ t ∈ ts, t.length ≤ b) → (textFrom k acc ts).length ≤ acc.length + ts.length * (b + 2)
  | [], _, acc, b, _ => by show acc.length ≤ _; omega
  | t :: ts, k, acc, b, h => by
    have ih := len_text ts (k + 1) (acc ++ (if k > 0 then ", " else "" : String) ++ t) b (fun x hx => h x (List.mem_cons_of_mem _ hx))
    have e := h t (List.mem_cons_self ..)
    have e2 : ((if k > 0 then ", " else "" : String)).length ≤ 2 := by split <;> decide
    rw [len_app, len_app, len_of] at ih
    show (textFrom (k + 1) _ ts).length ≤ _
    rw [List.length_cons, Nat.succ_mul]
    omega
theorem len_join : ∀ (ts : List Str) (b : Nat), (∀ t ∈ ts, t.length ≤ b) → (Str.join ", " ts).length ≤ ts.length * (b + 2)
  | [], _, _ => by show (0 : Nat) ≤ _; omega
  | [x], b, h => by
    have := h x (List.mem_cons_self ..)
    show x.length ≤ _
    simp only [List.length_cons, List.length_nil]; omega
  | x :: y :: r, b, h => by
    have ih := len_join (y :: r) b (fun z hz => h z (List.mem_cons_of_mem _ hz))
    have e := h x (List.mem_cons_self ..)
    show (x ++ Str.ofString ", " ++ Str.join ", " (y :: r)).length ≤ _
    rw [len_app, len_app, len_of, List.length_cons, Nat.succ_mul]
    have e2 : (", " : String).length = 2 := by decide
    omega
def smB : Nat → Nat
  | 0 => 1010
  | k + 1 => 8 * (smB k + 2) + 10
theorem smB_le : ∀ k, 1010 ≤ smB k
  | 0 => Nat.le_refl _
  | k + 1 => by have := smB_le k; show _ ≤ 8 * (smB k + 2) + 10; omega
structure SmF (k : Nat) (d : D) : Prop where
  sh : d.showable = true
  dp : d.depth ≤ k
  ok : PyData.strOk d.shown = true
  ln : d.shown.length ≤ smB k
theorem shownAll_map : ∀ xs : List D, PyData.shownAll xs = xs.map PyData.shown
  | [] => rfl
  | x :: xs => by rw [PyData.shownAll, shownAll_map xs]; rfl
theorem all_sm {k : Nat} {xs : List D} (h : ∀ x ∈ xs, SmF k x) : PyData.showableAll xs = true ∧ PyData.depthAll xs ≤ k := by
  induction xs with
  | nil => exact ⟨rfl, Nat.zero_le _⟩
  | cons x xs ih =>
    have a := h x (List.mem_cons_self ..)
    obtain ⟨b, e⟩ := ih (fun y hy => h y (List.mem_cons_of_mem _ hy))
    refine ⟨?_, ?_⟩
    · rw [PyData.showableAll, a.sh, b]; rfl
    · rw [PyData.depthAll]; have := a.dp; omega
theorem sm_f : ∀ (k : Nat) (d : D), sm k d = true → SmF k d
  | k, .none, _ => ⟨rfl, Nat.zero_le _, ok_of _, by rw [PyData.shown, len_of]; exact Nat.le_trans (by decide) (smB_le k)⟩
  | k, .bool b, _ => ⟨rfl, Nat.zero_le _, by cases b <;> (rw [PyData.shown]; exact ok_of _), by cases b <;> (rw [PyData.shown]; exact Nat.le_trans (by decide) (smB_le k))⟩
  | k, .int i, h => by
    have hb : i.natAbs < 2 ^ 1000 := by unfold sm at h; exact of_decide_eq_true h
    have hl : i.natAbs.log2 < 1000 := by
      by_cases z : i.natAbs = 0
      · rw [z]; decide
      · exact (Nat.log2_lt z).mpr hb
    refine ⟨decide_eq_true (by omega), Nat.zero_le _, ok_of _, ?_⟩
    rw [PyData.shown, len_of]
    have := int_text_length_le (a := i) (k := 1000) (by decide) hl
    have := smB_le k
    omega
  | k, .str x, h => by
    have h' : PyData.strOk (reprText x) = true ∧ (reprText x).length ≤ 1001 := by
      unfold sm at h
      rw [Bool.and_eq_true, decide_eq_true_eq] at h
      exact h
    exact ⟨rfl, Nat.zero_le _, h'.1, by rw [PyData.shown]; have := smB_le k; have := h'.2; omega⟩
  | k + 1, .list xs, h => by
    have h' : xs.length ≤ 8 ∧ ∀ x ∈ xs, sm k x = true := by
      unfold sm at h
      rw [Bool.and_eq_true, decide_eq_true_eq, List.all_eq_true] at h
      exact h
    have ih : ∀ x ∈ xs, SmF k x := fun x hx => sm_f k x (h'.2 x hx)
    obtain ⟨a, c⟩ := all_sm ih
    refine ⟨by rw [PyData.showable]; exact a, by rw [PyData.depth]; omega, ?_, ?_⟩
    · rw [PyData.shown, shownAll_map]
      refine ok_app (ok_text _ _ _ (ok_of _) ?_) (ok_of _)
      intro t ht
      obtain ⟨x, hx, rfl⟩ := List.mem_map.mp ht
      exact (ih x hx).ok
    · rw [PyData.shown, shownAll_map]
      have l := len_text (xs.map PyData.shown) 0 "[" (smB k) (by
        intro t ht
        obtain ⟨x, hx, rfl⟩ := List.mem_map.mp ht
        exact (ih x hx).ln)
      unfold listText
      rw [len_app, len_of]
      rw [List.length_map, len_of] at l
      have e : ("[" : String).length = 1 := by decide
      have e2 : ("]" : String).length = 1 := by decide
      have m : xs.length * (smB k + 2) ≤ 8 * (smB k + 2) := Nat.mul_le_mul_right _ h'.1
      show _ ≤ 8 * (smB k + 2) + 10
      omega
  | k + 1, .tuple xs, h => by
    have h' : xs.length ≤ 8 ∧ ∀ x ∈ xs, sm k x = true := by
      unfold sm at h
      rw [Bool.and_eq_true, decide_eq_true_eq, List.all_eq_true] at h
      exact h
    have ih : ∀ x ∈ xs, SmF k x := fun x hx => sm_f k x (h'.2 x hx)
    obtain ⟨a, c⟩ := all_sm ih
    refine ⟨by rw [PyData.showable]; exact a, by rw [PyData.depth]; omega, ?_, ?_⟩
    · rw [PyData.shown, shownAll_map]
      refine ok_app (ok_app (ok_of _) (ok_join (ok_of _) _ ?_)) (ok_of _)
      intro t ht
      obtain ⟨x, hx, rfl⟩ := List.mem_map.mp ht
      exact (ih x hx).ok
    · rw [PyData.shown, shownAll_map]
      have l := len_join (xs.map PyData.shown) (smB k) (by
        intro t ht
        obtain ⟨x, hx, rfl⟩ := List.mem_map.mp ht
        exact (ih x hx).ln)
      unfold tupleText
      rw [len_app, len_app, len_of, len_of]
      rw [List.length_map] at l
      have e : ("(" : String).length = 1 := by decide
      have e2 : ((if (xs.map PyData.shown).length == 1 then ",)" else ")" : String)).length ≤ 2 := by split <;> decide
      have m : xs.length * (smB k + 2) ≤ 8 * (smB k + 2) := Nat.mul_le_mul_right _ h'.1
      show _ ≤ 8 * (smB k + 2) + 10
      omega
  | 0, .list _, h => by unfold sm at h; cases h
  | 0, .tuple _, h => by unfold sm at h; cases h
  | 0, .dict [], h => by unfold sm at h; cases h
  | 0, .dict (_ :: _), h => by unfold sm at h; cases h
  | k + 1, .dict [], _ => ⟨rfl, by show 1 ≤ k + 1; omega, by rw [PyData.shown]; decide +kernel, by
    have z : (PyData.dict []).shown.length = 2 := by decide +kernel
    rw [z]
    exact Nat.le_trans (by decide) (smB_le (k + 1))⟩
  | k + 1, .dict (_ :: _), h => by unfold sm at h; cases h
theorem repr_sm {d : D} (h : sm 4 d = true) : biD .repr [d] = some (.str d.shown) := by
  have f := sm_f 4 d h
  have b : smB 4 ≤ sizeLine := by decide +kernel
  have c : d.showable = true ∧ d.depth ≤ 100 ∧ d.shown.length ≤ sizeLine :=
    ⟨f.sh, by have := f.dp; omega, Nat.le_trans f.ln b⟩
  unfold biD
  exact if_pos c
theorem shaped_str {s : Str} (h : PyData.strOk s = true) : SeqAt.shaped (.str s) = true := by
  unfold SeqAt.shaped
  rw [PyData.canLay0, h]
  rfl
theorem eqv_str (s : Str) : PyData.eqv (.str s) (.str s) = true := by
  rw [PyData.eqv]
  exact beq_self_eq_true s
end FF

set_option Elab.async false
set_option linter.all false
set_option autoImplicit false
set_option maxRecDepth 100000
namespace K98
open PySem PySem.Spec PyProof.Rows L2 FF
def f0 : Fn :=
  { name := "is_whole", ps := ["value"], N := ["value"], modes := [false], kept := [],
    body := (.cons (.ret (.and (.cons (.isi (.var 0) [.int]) (.cons (.not (.isi (.var 0) [.bool])) .nil)))) .nil) }
def f1 : Fn :=
  { name := "is_count", ps := ["value"], N := ["value"], modes := [false], kept := [],
    body := (.cons (.ret (.and (.cons (.call 0 (.cons (.var 0) .nil)) (.cons (.cmp .ge (.var 0) (.int 0)) .nil)))) .nil) }
def f2_c0 : E := (.cmp .gt (.var 1) (.int 0))
def f2_b0 : Ss := (.cons (.par [0, 1] (.cons (.var 1) (.cons (.bin .mod (.var 0) (.var 1)) .nil))) .nil)
def f2 : Fn :=
  { name := "common_divisor", ps := ["one", "other"], N := ["one", "other"], modes := [false, false], kept := [],
    body := (.cons (.par [0, 1] (.cons (.bi .abs (.cons (.var 0) .nil)) (.cons (.bi .abs (.cons (.var 1) .nil)) .nil))) (.cons (.whl f2_c0 f2_b0) (.cons (.ret (.var 0)) .nil))) }
def f3 : Fn :=
  { name := "lowest", ps := ["top", "under"], N := ["top", "under", "common"], modes := [false, false], kept := [],
    body := (.cons (.ifs (.cmp .lt (.var 1) (.int 0)) (.cons (.par [0, 1] (.cons (.neg (.var 0)) (.cons (.neg (.var 1)) .nil))) .nil) .nil) (.cons (.asg (.name 2) (.call 2 (.cons (.var 0) (.cons (.var 1) .nil)))) (.cons (.ret (.tup (.cons (.bin .fdiv (.var 0) (.var 2)) (.cons (.bin .fdiv (.var 1) (.var 2)) .nil)))) .nil))) }
def f4 : Fn :=
  { name := "is_fraction", ps := ["value"], N := ["value"], modes := [false], kept := [],
    body := (.cons (.ifs (.or (.cons (.not (.isi (.var 0) [.tuple])) (.cons (.cmp .ne (.bi .len (.cons (.var 0) .nil)) (.int 2)) (.cons (.not (.call 0 (.cons (.idx (.var 0) (.int 0)) .nil))) (.cons (.not (.call 0 (.cons (.idx (.var 0) (.int 1)) .nil))) .nil))))) (.cons (.ret (.bl false)) .nil) .nil) (.cons (.ret (.and (.cons (.cmp .gt (.idx (.var 0) (.int 1)) (.int 0)) (.cons (.cmp .eq (.call 2 (.cons (.idx (.var 0) (.int 0)) (.cons (.idx (.var 0) (.int 1)) .nil))) (.int 1)) .nil)))) .nil)) }
def f5 : Fn :=
  { name := "is_amount", ps := ["value"], N := ["value"], modes := [false], kept := [],
    body := (.cons (.ret (.and (.cons (.call 4 (.cons (.var 0) .nil)) (.cons (.cmp .ge (.idx (.var 0) (.int 0)) (.int 0)) .nil)))) .nil) }
def f6_e0 : E := (.call 4 (.cons (.var 2) .nil))
def f6 : Fn :=
  { name := "are_fractions", ps := ["value", "many"], N := ["value", "many", "one"], modes := [false, false], kept := [],
    body := (.cons (.ret (.and (.cons (.isi (.var 0) [.list]) (.cons (.cmp .eq (.bi .len (.cons (.var 0) .nil)) (.var 1)) (.cons (.bi .all (.cons (.comp f6_e0 (.name 2) (.seq (.var 0)) .nil [("one", 2)]) .nil)) .nil))))) .nil) }
def f7_e0 : E := (.call 5 (.cons (.var 2) .nil))
def f7 : Fn :=
  { name := "are_amounts", ps := ["value", "many"], N := ["value", "many", "one"], modes := [false, false], kept := [],
    body := (.cons (.ret (.and (.cons (.isi (.var 0) [.list]) (.cons (.cmp .eq (.bi .len (.cons (.var 0) .nil)) (.var 1)) (.cons (.bi .all (.cons (.comp f7_e0 (.name 2) (.seq (.var 0)) .nil [("one", 2)]) .nil)) .nil))))) .nil) }
def f8 : Fn :=
  { name := "plus", ps := ["one", "other"], N := ["one", "other"], modes := [false, false], kept := [],
    body := (.cons (.ret (.call 3 (.cons (.bin .add (.bin .mul (.idx (.var 0) (.int 0)) (.idx (.var 1) (.int 1))) (.bin .mul (.idx (.var 1) (.int 0)) (.idx (.var 0) (.int 1)))) (.cons (.bin .mul (.idx (.var 0) (.int 1)) (.idx (.var 1) (.int 1))) .nil)))) .nil) }
def f9 : Fn :=
  { name := "less", ps := ["one", "other"], N := ["one", "other"], modes := [false, false], kept := [],
    body := (.cons (.ret (.call 3 (.cons (.bin .sub (.bin .mul (.idx (.var 0) (.int 0)) (.idx (.var 1) (.int 1))) (.bin .mul (.idx (.var 1) (.int 0)) (.idx (.var 0) (.int 1)))) (.cons (.bin .mul (.idx (.var 0) (.int 1)) (.idx (.var 1) (.int 1))) .nil)))) .nil) }
def f10 : Fn :=
  { name := "times", ps := ["one", "other"], N := ["one", "other"], modes := [false, false], kept := [],
    body := (.cons (.ret (.call 3 (.cons (.bin .mul (.idx (.var 0) (.int 0)) (.idx (.var 1) (.int 0))) (.cons (.bin .mul (.idx (.var 0) (.int 1)) (.idx (.var 1) (.int 1))) .nil)))) .nil) }
def f11 : Fn :=
  { name := "over", ps := ["one", "other"], N := ["one", "other"], modes := [false, false], kept := [],
    body := (.cons (.ret (.call 3 (.cons (.bin .mul (.idx (.var 0) (.int 0)) (.idx (.var 1) (.int 1))) (.cons (.bin .mul (.idx (.var 0) (.int 1)) (.idx (.var 1) (.int 0))) .nil)))) .nil) }
def f12 : Fn :=
  { name := "is_less", ps := ["one", "other"], N := ["one", "other"], modes := [false, false], kept := [],
    body := (.cons (.ret (.cmp .lt (.bin .mul (.idx (.var 0) (.int 0)) (.idx (.var 1) (.int 1))) (.bin .mul (.idx (.var 1) (.int 0)) (.idx (.var 0) (.int 1))))) .nil) }
def f13_b0 : Ss := (.cons (.asg (.name 1) (.call 8 (.cons (.var 1) (.cons (.var 2) .nil)))) .nil)
def f13 : Fn :=
  { name := "summed", ps := ["some"], N := ["some", "found", "one"], modes := [false], kept := [],
    body := (.cons (.asg (.name 1) (.tup (.cons (.int 0) (.cons (.int 1) .nil)))) (.cons (.fors (.name 2) (.seq (.var 0)) f13_b0) (.cons (.ret (.var 1)) .nil))) }
def f14_e0 : E := (.call 10 (.cons (.var 2) (.cons (.var 3) .nil)))
def f14 : Fn :=
  { name := "product", ps := ["weights", "numbers"], N := ["weights", "numbers", "weight", "number"], modes := [false, false], kept := [],
    body := (.cons (.ret (.call 13 (.cons (.comp f14_e0 (.tcons (.name 2) (.tcons (.name 3) .tnil)) (.zip (.var 0) (.var 1)) .nil [("weight", 2), ("number", 3)]) .nil))) .nil) }
def f15 : Fn :=
  { name := "is_many", ps := ["value"], N := ["value"], modes := [false], kept := [],
    body := (.cons (.ret (.and (.cons (.call 0 (.cons (.var 0) .nil)) (.cons (.chain .le .le (.int 1) (.var 0) (.glob 2)) .nil)))) .nil) }
def f16 : Fn :=
  { name := "check_many", ps := ["many"], N := ["many"], modes := [false], kept := [],
    body := (.cons (.ifs (.not (.call 15 (.cons (.var 0) .nil))) (.cons (.rai 10 (.var 0)) .nil) .nil) .nil) }
def f17_e0 : E := (.cmp .lt (.idx (.var 1) (.bin .sub (.var 2) (.int 1))) (.idx (.var 1) (.var 2)))
def f17_e1 : E := (.and (.cons (.call 0 (.cons (.var 3) .nil)) (.cons (.chain .le .lt (.int 0) (.var 3) (.var 0)) .nil)))
def f17 : Fn :=
  { name := "is_lot_by", ps := ["many", "value"], N := ["many", "value", "at", "one"], modes := [false, false], kept := [],
    body := (.cons (.ifs (.or (.cons (.not (.isi (.var 1) [.list])) (.cons (.not (.bi .all (.cons (.comp f17_e1 (.name 3) (.seq (.var 1)) .nil [("one", 3)]) .nil))) .nil))) (.cons (.ret (.bl false)) .nil) .nil) (.cons (.ret (.bi .all (.cons (.comp f17_e0 (.name 2) (.rng (.cons (.int 1) (.cons (.bi .len (.cons (.var 1) .nil)) .nil))) .nil [("at", 2)]) .nil))) .nil)) }
def f18 : Fn :=
  { name := "check_lot", ps := ["many", "lot"], N := ["many", "lot"], modes := [false, false], kept := [],
    body := (.cons (.ifs (.not (.call 17 (.cons (.var 0) (.cons (.var 1) .nil)))) (.cons (.rai 3 (.var 1)) .nil) .nil) .nil) }
def f19 : Fn :=
  { name := "is_row_of", ps := ["value", "many"], N := ["value", "many"], modes := [false, false], kept := [],
    body := (.cons (.ifs (.or (.cons (.not (.isi (.var 0) [.tuple])) (.cons (.cmp .ne (.bi .len (.cons (.var 0) .nil)) (.int 2)) (.cons (.not (.call 17 (.cons (.var 1) (.cons (.idx (.var 0) (.int 0)) .nil)))) .nil)))) (.cons (.ret (.bl false)) .nil) .nil) (.cons (.ret (.and (.cons (.call 5 (.cons (.idx (.var 0) (.int 1)) .nil)) (.cons (.cmp .ne (.idx (.var 0) (.int 1)) (.glob 0)) .nil)))) .nil)) }
def f20_e0 : E := (.var 5)
def f20_e1 : E := (.cmp .lt (.idx (.idx (.var 1) (.bin .sub (.var 3) (.int 1))) (.int 0)) (.idx (.idx (.var 1) (.var 3)) (.int 0)))
def f20_e2 : E := (.call 19 (.cons (.var 2) (.cons (.idx (.var 0) (.int 1)) .nil)))
def f20 : Fn :=
  { name := "is_design_by", ps := ["value"], N := ["value", "rows", "row", "at", "_", "chance"], modes := [false], kept := [],
    body := (.cons (.ifs (.or (.cons (.not (.isi (.var 0) [.tuple])) (.cons (.cmp .ne (.bi .len (.cons (.var 0) .nil)) (.int 3)) (.cons (.not (.isi (.idx (.var 0) (.int 0)) [.str])) (.cons (.cmp .ne (.idx (.var 0) (.int 0)) (.str "design")) .nil))))) (.cons (.ret (.bl false)) .nil) .nil) (.cons (.ifs (.or (.cons (.not (.call 15 (.cons (.idx (.var 0) (.int 1)) .nil))) (.cons (.not (.isi (.idx (.var 0) (.int 2)) [.list])) (.cons (.cmp .eq (.idx (.var 0) (.int 2)) (.lst .nil)) .nil)))) (.cons (.ret (.bl false)) .nil) .nil) (.cons (.asg (.name 1) (.idx (.var 0) (.int 2))) (.cons (.ifs (.not (.bi .all (.cons (.comp f20_e2 (.name 2) (.seq (.var 1)) .nil [("row", 2)]) .nil))) (.cons (.ret (.bl false)) .nil) .nil) (.cons (.ifs (.not (.bi .all (.cons (.comp f20_e1 (.name 3) (.rng (.cons (.int 1) (.cons (.bi .len (.cons (.var 1) .nil)) .nil))) .nil [("at", 3)]) .nil))) (.cons (.ret (.bl false)) .nil) .nil) (.cons (.ret (.cmp .eq (.call 13 (.cons (.comp f20_e0 (.tcons (.name 4) (.tcons (.name 5) .tnil)) (.seq (.var 1)) .nil [("_", 4), ("chance", 5)]) .nil)) (.glob 1))) .nil)))))) }
def f21 : Fn :=
  { name := "check_design", ps := ["design"], N := ["design"], modes := [false], kept := [],
    body := (.cons (.ifs (.not (.call 20 (.cons (.var 0) .nil))) (.cons (.rai 1 (.var 0)) .nil) .nil) .nil) }
def f22 : Fn :=
  { name := "many_in", ps := ["design"], N := ["design"], modes := [false], kept := [],
    body := (.cons (.ret (.idx (.var 0) (.int 1))) .nil) }
def f23 : Fn :=
  { name := "rows_in", ps := ["design"], N := ["design"], modes := [false], kept := [],
    body := (.cons (.ret (.idx (.var 0) (.int 2))) .nil) }
def f24_e0 : E := (.bin .add (.var 5) (.lst (.cons (.var 6) .nil)))
def f24_b0 : Ss := (.cons (.asg (.name 4) (.bin .add (.var 4) (.comp f24_e0 (.name 6) (.rng (.cons (.ite (.cmp .ne (.var 5) (.lst .nil)) (.bin .add (.idx (.var 5) (.neg (.int 1))) (.int 1)) (.int 0)) (.cons (.var 0) .nil))) .nil [("unit", 6)]))) .nil)
def f24_b1 : Ss := (.cons (.asg (.name 4) (.lst .nil)) (.cons (.fors (.name 5) (.seq (.var 2)) f24_b0) (.cons (.asg (.name 2) (.var 4)) .nil)))
def f24 : Fn :=
  { name := "lots_sized", ps := ["many", "size"], N := ["many", "size", "found", "_", "longer", "lot", "unit"], modes := [false, false], kept := [],
    body := (.cons (.asg (.name 2) (.lst (.cons (.lst .nil) .nil))) (.cons (.fors (.name 3) (.rng (.cons (.var 1) .nil)) f24_b1) (.cons (.ret (.var 2)) .nil))) }
def f25_b0 : Ss := (.cons (.asg (.name 1) (.bin .add (.var 1) (.call 24 (.cons (.var 0) (.cons (.var 2) .nil))))) .nil)
def f25 : Fn :=
  { name := "lots_of", ps := ["many"], N := ["many", "found", "size"], modes := [false], kept := [],
    body := (.cons (.asg (.name 1) (.lst .nil)) (.cons (.fors (.name 2) (.rng (.cons (.bin .add (.var 0) (.int 1)) .nil)) f25_b0) (.cons (.ret (.var 1)) .nil))) }
def f26_e0 : E := (.tup (.cons (.var 3) (.cons (.var 4) .nil)))
def f26_t0 : Es := (.cons (.cmp .ne (.var 4) (.glob 0)) .nil)
def f26 : Fn :=
  { name := "design_of", ps := ["many", "rows"], N := ["many", "rows", "found", "lot", "chance"], modes := [false, false], kept := [],
    body := (.cons (.asg (.name 2) (.lst .nil)) (.cons .oops (.cons (.ret (.tup (.cons (.str "design") (.cons (.var 0) (.cons (.comp f26_e0 (.tcons (.name 3) (.tcons (.name 4) .tnil)) (.seq (.var 2)) f26_t0 [("lot", 3), ("chance", 4)]) .nil))))) .nil))) }
def f27 : Fn :=
  { name := "first_of", ps := ["row"], N := ["row"], modes := [false], kept := [],
    body := (.cons (.ret (.idx (.var 0) (.int 0))) .nil) }
def f28_e0 : E := (.var 4)
def f28_t0 : Es := (.cons (.cmp .isin (.var 2) (.var 3)) .nil)
def f28_b0 : Ss := (.cons (.app 1 (.call 13 (.cons (.comp f28_e0 (.tcons (.name 3) (.tcons (.name 4) .tnil)) (.seq (.call 23 (.cons (.var 0) .nil))) f28_t0 [("lot", 3), ("chance", 4)]) .nil))) .nil)
def f28 : Fn :=
  { name := "unit_chances", ps := ["design"], N := ["design", "found", "unit", "lot", "chance"], modes := [false], kept := [],
    body := (.cons (.asg (.name 1) (.lst .nil)) (.cons (.fors (.name 2) (.rng (.cons (.call 22 (.cons (.var 0) .nil)) .nil)) f28_b0) (.cons (.ret (.var 1)) .nil))) }
def f29 : Fn :=
  { name := "are_values_by", ps := ["many", "value"], N := ["many", "value"], modes := [false, false], kept := [],
    body := (.cons (.ret (.call 6 (.cons (.var 1) (.cons (.var 0) .nil)))) .nil) }
def f30 : Fn :=
  { name := "check_values", ps := ["many", "values"], N := ["many", "values"], modes := [false, false], kept := [],
    body := (.cons (.ifs (.not (.call 29 (.cons (.var 0) (.cons (.var 1) .nil)))) (.cons (.rai 4 (.var 1)) .nil) .nil) .nil) }
def f31_b0 : Ss := (.cons (.ifs (.or (.cons (.not (.isi (.var 2) [.tuple])) (.cons (.cmp .ne (.bi .len (.cons (.var 2) .nil)) (.int 2)) (.cons (.not (.call 17 (.cons (.idx (.var 1) (.int 1)) (.cons (.idx (.var 2) (.int 0)) .nil)))) (.cons (.cmp .ne (.idx (.var 2) (.int 0)) (.var 3)) .nil))))) (.cons (.ret (.bl false)) .nil) .nil) (.cons (.ifs (.not (.call 6 (.cons (.idx (.var 2) (.int 1)) (.cons (.bi .len (.cons (.var 3) .nil)) .nil)))) (.cons (.ret (.bl false)) .nil) .nil) .nil))
def f31 : Fn :=
  { name := "is_rule_by", ps := ["design", "value"], N := ["design", "value", "row", "lot", "_"], modes := [false, false], kept := [],
    body := (.cons (.ifs (.or (.cons (.not (.isi (.var 1) [.tuple])) (.cons (.cmp .ne (.bi .len (.cons (.var 1) .nil)) (.int 3)) (.cons (.not (.isi (.idx (.var 1) (.int 0)) [.str])) (.cons (.cmp .ne (.idx (.var 1) (.int 0)) (.str "rule")) .nil))))) (.cons (.ret (.bl false)) .nil) .nil) (.cons (.ifs (.or (.cons (.not (.call 0 (.cons (.idx (.var 1) (.int 1)) .nil))) (.cons (.cmp .ne (.idx (.var 1) (.int 1)) (.call 22 (.cons (.var 0) .nil))) (.cons (.not (.isi (.idx (.var 1) (.int 2)) [.list])) .nil)))) (.cons (.ret (.bl false)) .nil) .nil) (.cons (.ifs (.cmp .ne (.bi .len (.cons (.idx (.var 1) (.int 2)) .nil)) (.bi .len (.cons (.call 23 (.cons (.var 0) .nil)) .nil))) (.cons (.ret (.bl false)) .nil) .nil) (.cons (.fors (.tcons (.name 2) (.tcons (.tcons (.name 3) (.tcons (.name 4) .tnil)) .tnil)) (.zip (.idx (.var 1) (.int 2)) (.call 23 (.cons (.var 0) .nil))) f31_b0) (.cons (.ret (.bl true)) .nil))))) }
def f32 : Fn :=
  { name := "check_rule", ps := ["design", "rule"], N := ["design", "rule"], modes := [false, false], kept := [],
    body := (.cons (.ifs (.not (.call 31 (.cons (.var 0) (.cons (.var 1) .nil)))) (.cons (.rai 7 (.var 1)) .nil) .nil) .nil) }
def f33_e0 : E := (.idx (.var 1) (.var 2))
def f33 : Fn :=
  { name := "told_by", ps := ["row", "values"], N := ["row", "values", "unit"], modes := [false, false], kept := [],
    body := (.cons (.ret (.call 14 (.cons (.idx (.var 0) (.int 1)) (.cons (.comp f33_e0 (.name 2) (.seq (.idx (.var 0) (.int 0))) .nil [("unit", 2)]) .nil)))) .nil) }
def f34 : Fn :=
  { name := "chances_of_units", ps := ["design"], N := ["design"], modes := [false], kept := [],
    body := (.cons (.expr (.call 21 (.cons (.var 0) .nil))) (.cons (.ret (.call 28 (.cons (.var 0) .nil))) .nil)) }
def f35 : Fn :=
  { name := "check_drawn", ps := ["design", "lot"], N := ["design", "lot"], modes := [false, false], kept := [],
    body := (.cons (.expr (.call 21 (.cons (.var 0) .nil))) (.cons (.expr (.call 18 (.cons (.call 22 (.cons (.var 0) .nil)) (.cons (.var 1) .nil)))) .nil)) }
def f36_e0 : E := (.cmp .isin (.var 2) (.var 1))
def f36 : Fn :=
  { name := "all_in", ps := ["lot", "late"], N := ["lot", "late", "unit"], modes := [false, false], kept := [],
    body := (.cons (.ret (.bi .all (.cons (.comp f36_e0 (.name 2) (.seq (.var 0)) .nil [("unit", 2)]) .nil))) .nil) }
def f37_e0 : E := (.tup (.cons (.var 3) (.cons (.call 3 (.cons (.int 1) (.cons (.bi .len (.cons (.var 2) .nil)) .nil))) .nil)))
def f37 : Fn :=
  { name := "even_design", ps := ["many", "size"], N := ["many", "size", "lots", "lot"], modes := [false, false], kept := [],
    body := (.cons (.expr (.call 16 (.cons (.var 0) .nil))) (.cons (.ifs (.or (.cons (.not (.call 1 (.cons (.var 1) .nil))) (.cons (.cmp .gt (.var 1) (.var 0)) .nil))) (.cons (.rai 10 (.var 1)) .nil) .nil) (.cons (.asg (.name 2) (.call 24 (.cons (.var 0) (.cons (.var 1) .nil)))) (.cons (.ret (.tup (.cons (.str "design") (.cons (.var 0) (.cons (.comp f37_e0 (.name 3) (.seq (.var 2)) .nil [("lot", 3)]) .nil))))) .nil)))) }
def f38_e0 : E := (.call 12 (.cons (.glob 1) (.cons (.var 1) .nil)))
def f38 : Fn :=
  { name := "are_parts", ps := ["value"], N := ["value", "one"], modes := [false], kept := [],
    body := (.cons (.ifs (.or (.cons (.not (.isi (.var 0) [.list])) (.cons (.not (.chain .le .le (.int 1) (.bi .len (.cons (.var 0) .nil)) (.glob 2))) (.cons (.not (.call 7 (.cons (.var 0) (.cons (.bi .len (.cons (.var 0) .nil)) .nil)))) .nil)))) (.cons (.ret (.bl false)) .nil) .nil) (.cons (.ret (.not (.bi .any (.cons (.comp f38_e0 (.name 1) (.seq (.var 0)) .nil [("one", 1)]) .nil)))) .nil)) }
def f39_b0 : Ss := (.cons (.asg (.name 3) (.call 10 (.cons (.var 3) (.cons (.ite (.cmp .isin (.var 4) (.var 2)) (.var 5) (.call 9 (.cons (.glob 1) (.cons (.var 5) .nil)))) .nil)))) .nil)
def f39_b1 : Ss := (.cons (.asg (.name 3) (.glob 1)) (.cons (.fors (.tcons (.name 4) (.tcons (.name 5) .tnil)) (.enum (.var 0)) f39_b0) (.cons (.app 1 (.tup (.cons (.var 2) (.cons (.var 3) .nil)))) .nil)))
def f39 : Fn :=
  { name := "apart_design", ps := ["chances"], N := ["chances", "rows", "lot", "part", "unit", "chance"], modes := [false], kept := [],
    body := (.cons (.ifs (.not (.call 38 (.cons (.var 0) .nil))) (.cons (.rai 5 (.var 0)) .nil) .nil) (.cons (.asg (.name 1) (.lst .nil)) (.cons (.fors (.name 2) (.seq (.call 25 (.cons (.bi .len (.cons (.var 0) .nil)) .nil))) f39_b1) (.cons (.ret (.call 26 (.cons (.bi .len (.cons (.var 0) .nil)) (.cons (.var 1) .nil)))) .nil)))) }
def f40_e0 : E := (.tup (.cons (.var 6) (.cons (.call 11 (.cons (.var 5) (.cons (.var 3) .nil))) .nil)))
def f40_e1 : E := (.var 5)
def f40 : Fn :=
  { name := "given_by", ps := ["design", "rows", "lot"], N := ["design", "rows", "lot", "whole", "_", "chance", "late"], modes := [false, false, false], kept := [],
    body := (.cons (.asg (.name 3) (.call 13 (.cons (.comp f40_e1 (.tcons (.name 4) (.tcons (.name 5) .tnil)) (.seq (.var 1)) .nil [("_", 4), ("chance", 5)]) .nil))) (.cons (.ifs (.cmp .eq (.var 3) (.glob 0)) (.cons (.rai 16 (.var 2)) .nil) .nil) (.cons (.ret (.call 26 (.cons (.call 22 (.cons (.var 0) .nil)) (.cons (.comp f40_e0 (.tcons (.name 6) (.tcons (.name 5) .tnil)) (.seq (.var 1)) .nil [("late", 6), ("chance", 5)]) .nil)))) .nil))) }
def f41_e0 : E := (.tup (.cons (.var 2) (.cons (.var 3) .nil)))
def f41_t0 : Es := (.cons (.call 36 (.cons (.var 1) (.cons (.var 2) .nil))) .nil)
def f41 : Fn :=
  { name := "given_in", ps := ["design", "lot"], N := ["design", "lot", "late", "chance"], modes := [false, false], kept := [],
    body := (.cons (.expr (.call 35 (.cons (.var 0) (.cons (.var 1) .nil)))) (.cons (.ret (.call 40 (.cons (.var 0) (.cons (.comp f41_e0 (.tcons (.name 2) (.tcons (.name 3) .tnil)) (.seq (.call 23 (.cons (.var 0) .nil))) f41_t0 [("late", 2), ("chance", 3)]) (.cons (.var 1) .nil))))) .nil)) }
def f42_e0 : E := (.bin .add (.var 8) (.call 22 (.cons (.var 0) .nil)))
def f42_b0 : Ss := (.cons (.app 3 (.tup (.cons (.bin .add (.var 4) (.comp f42_e0 (.name 8) (.seq (.var 6)) .nil [("unit", 8)])) (.cons (.call 10 (.cons (.var 5) (.cons (.var 7) .nil))) .nil)))) .nil)
def f42_b1 : Ss := (.cons (.fors (.tcons (.name 6) (.tcons (.name 7) .tnil)) (.seq (.call 23 (.cons (.var 1) .nil))) f42_b0) .nil)
def f42 : Fn :=
  { name := "beside", ps := ["one", "other"], N := ["one", "other", "many", "rows", "lot", "chance", "late", "part", "unit"], modes := [false, false], kept := [],
    body := (.cons (.expr (.call 21 (.cons (.var 0) .nil))) (.cons (.expr (.call 21 (.cons (.var 1) .nil))) (.cons (.asg (.name 2) (.bin .add (.call 22 (.cons (.var 0) .nil)) (.call 22 (.cons (.var 1) .nil)))) (.cons (.ifs (.cmp .gt (.var 2) (.glob 2)) (.cons (.rai 17 (.var 2)) .nil) .nil) (.cons (.asg (.name 3) (.lst .nil)) (.cons (.fors (.tcons (.name 4) (.tcons (.name 5) .tnil)) (.seq (.call 23 (.cons (.var 0) .nil))) f42_b1) (.cons (.ret (.call 26 (.cons (.var 2) (.cons (.var 3) .nil)))) .nil))))))) }
def f43 : Fn :=
  { name := "check_both", ps := ["design", "rule"], N := ["design", "rule"], modes := [false, false], kept := [],
    body := (.cons (.expr (.call 21 (.cons (.var 0) .nil))) (.cons (.expr (.call 32 (.cons (.var 0) (.cons (.var 1) .nil)))) .nil)) }
def f44 : Fn :=
  { name := "check_told", ps := ["design", "rule", "values"], N := ["design", "rule", "values"], modes := [false, false, false], kept := [],
    body := (.cons (.expr (.call 43 (.cons (.var 0) (.cons (.var 1) .nil)))) (.cons (.expr (.call 30 (.cons (.call 22 (.cons (.var 0) .nil)) (.cons (.var 2) .nil)))) .nil)) }
def f45_e0 : E := (.call 33 (.cons (.var 2) (.cons (.var 1) .nil)))
def f45 : Fn :=
  { name := "told_for", ps := ["rule", "values"], N := ["rule", "values", "row"], modes := [false, false], kept := [],
    body := (.cons (.ret (.comp f45_e0 (.name 2) (.seq (.idx (.var 0) (.int 2))) .nil [("row", 2)])) .nil) }
def f46 : Fn :=
  { name := "told_sums", ps := ["design", "rule", "values"], N := ["design", "rule", "values"], modes := [false, false, false], kept := [],
    body := (.cons (.expr (.call 44 (.cons (.var 0) (.cons (.var 1) (.cons (.var 2) .nil))))) (.cons (.ret (.call 45 (.cons (.var 1) (.cons (.var 2) .nil)))) .nil)) }
def f47_e0 : E := (.var 1)
def f47_t0 : Es := (.cons (.cmp .eq (.var 2) (.glob 0)) .nil)
def f47 : Fn :=
  { name := "never_drawn", ps := ["design"], N := ["design", "unit", "chance"], modes := [false], kept := [],
    body := (.cons (.ret (.comp f47_e0 (.tcons (.name 1) (.tcons (.name 2) .tnil)) (.enum (.call 28 (.cons (.var 0) .nil))) f47_t0 [("unit", 1), ("chance", 2)])) .nil) }
def f48_e0 : E := (.call 11 (.cons (.glob 1) (.cons (.idx (.var 1) (.var 5)) .nil)))
def f48_e1 : E := (.tup (.cons (.bi .list (.cons (.var 3) .nil)) (.cons (.comp f48_e0 (.name 5) (.seq (.var 3)) .nil [("unit", 5)]) .nil)))
def f48 : Fn :=
  { name := "even_by", ps := ["design"], N := ["design", "chances", "rows", "lot", "_", "unit"], modes := [false], kept := [],
    body := (.cons (.asg (.name 1) (.call 28 (.cons (.var 0) .nil))) (.cons (.asg (.name 2) (.comp f48_e1 (.tcons (.name 3) (.tcons (.name 4) .tnil)) (.seq (.call 23 (.cons (.var 0) .nil))) .nil [("lot", 3), ("_", 4)])) (.cons (.ret (.tup (.cons (.str "rule") (.cons (.call 22 (.cons (.var 0) .nil)) (.cons (.var 2) .nil))))) .nil))) }
def f49 : Fn :=
  { name := "check_all_drawn", ps := ["design"], N := ["design", "missed"], modes := [false], kept := [],
    body := (.cons (.asg (.name 1) (.call 47 (.cons (.var 0) .nil))) (.cons (.ifs (.cmp .ne (.var 1) (.lst .nil)) (.cons (.rai 16 (.idx (.var 1) (.int 0))) .nil) .nil) .nil)) }
def f50 : Fn :=
  { name := "even_rule", ps := ["design"], N := ["design"], modes := [false], kept := [],
    body := (.cons (.expr (.call 21 (.cons (.var 0) .nil))) (.cons (.expr (.call 49 (.cons (.var 0) .nil))) (.cons (.ret (.call 48 (.cons (.var 0) .nil))) .nil))) }
def f51 : Fn :=
  { name := "_law_hash", ps := ["seed", "index"], N := ["seed", "index", "mixed"], modes := [false, false], kept := [],
    body := (.cons (.asg (.name 2) (.bin .mod (.bi .int (.cons (.bin .add (.bin .add (.bin .add (.bin .mul (.var 0) (.int 1220147)) (.bin .mul (.bin .mul (.int 16777903) (.var 1)) (.var 1))) (.bin .mul (.int 223) (.var 1))) (.int 97)) .nil)) (.int 2147483629))) (.cons (.asg (.name 2) (.bin .mod (.bi .int (.cons (.bin .add (.bin .add (.bin .mul (.var 2) (.var 2)) (.bin .mul (.int 69019) (.var 1))) (.int 32416187)) .nil)) (.int 2147483587))) (.cons (.ret (.bin .mod (.bi .int (.cons (.bin .mul (.var 2) (.int 48271)) .nil)) (.int 2147483647))) .nil))) }
def f52_b0 : Ss := (.cons (.setIx 0 (.int 2) (.bin .add (.idx (.var 0) (.int 2)) (.int 1))) (.cons (.asg (.name 2) (.bin .add (.bin .mul (.var 2) (.int 2147483587)) (.call 51 (.cons (.idx (.var 0) (.int 1)) (.cons (.idx (.var 0) (.int 2)) .nil))))) .nil))
def f52 : Fn :=
  { name := "_law_random", ps := ["generator", "bound"], N := ["generator", "bound", "drawn", "turn"], modes := [true, false], kept := [0],
    body := (.cons (.ifs (.cmp .gt (.idx (.var 0) (.int 0)) (.int 0)) (.cons (.asg (.name 2) (.bin .mod (.bi .int (.cons (.idx (.var 0) (.int 0)) .nil)) (.var 1))) (.cons (.setIx 0 (.int 0) (.bin .fdiv (.idx (.var 0) (.int 0)) (.var 1))) (.cons (.ret (.var 2)) .nil))) .nil) (.cons (.asg (.name 2) (.int 0)) (.cons (.fors (.name 3) (.rng (.cons (.bin .add (.int 1) (.bin .fdiv (.bits (.var 1)) (.int 30))) .nil)) f52_b0) (.cons (.ret (.bin .mod (.bi .int (.cons (.var 2) .nil)) (.var 1))) .nil)))) }
def f53 : Fn :=
  { name := "_law_cell", ps := ["script", "index"], N := ["script", "index"], modes := [false, false], kept := [],
    body := (.cons (.ifs (.cmp .lt (.var 1) (.bi .len (.cons (.var 0) .nil))) (.cons (.ret (.idx (.var 0) (.var 1))) .nil) .nil) (.cons (.ret (.bin .mod (.bi .sum (.cons (.slc (.var 0) .nil (.cons (.int 1) .nil)) .nil)) (.int 1000003))) .nil)) }
def f54 : Fn :=
  { name := "_law_generator", ps := ["script", "index"], N := ["script", "index", "seed"], modes := [false, false], kept := [],
    body := (.cons (.asg (.name 2) (.call 53 (.cons (.var 0) (.cons (.var 1) .nil)))) (.cons (.ret (.lst (.cons (.bin .mod (.bi .int (.cons (.bi .max (.cons (.bin .sub (.var 2) (.bin .pow (.int 10) (.int 18))) (.cons (.int 0) .nil))) .nil)) (.bin .pow (.bin .pow (.int 10) (.int 60)) (.int 10))) (.cons (.bin .mod (.bi .int (.cons (.var 2) .nil)) (.int 2147483647)) (.cons (.bin .mul (.int 1000) (.var 1)) .nil))))) .nil)) }
def f55 : Fn :=
  { name := "_law_pick", ps := ["generator", "things"], N := ["generator", "things"], modes := [true, false], kept := [0],
    body := (.cons (.ret (.idx (.var 1) (.call 52 (.cons (.var 0) (.cons (.bi .len (.cons (.var 1) .nil)) .nil))))) .nil) }
def f56 : Fn :=
  { name := "_law_made", ps := ["number", "given"], N := ["number", "given"], modes := [false, false], kept := [],
    body := (.cons (.ifs (.cmp .eq (.var 0) (.int 0)) (.cons (.ret (.ite (.cmp .eq (.bi .len (.cons (.var 1) .nil)) (.int 1)) (.exn 11 (.cons (.idx (.var 1) (.int 0)) .nil)) (.ite (.cmp .eq (.bi .len (.cons (.var 1) .nil)) (.int 2)) (.exk 11 (.idx (.var 1) (.int 0))) (.exn 11 .nil)))) .nil) .nil) (.cons (.ifs (.cmp .eq (.var 0) (.int 1)) (.cons (.ret (.ite (.cmp .eq (.bi .len (.cons (.var 1) .nil)) (.int 1)) (.exn 8 (.cons (.idx (.var 1) (.int 0)) .nil)) (.ite (.cmp .eq (.bi .len (.cons (.var 1) .nil)) (.int 2)) (.exk 8 (.idx (.var 1) (.int 0))) (.exn 8 .nil)))) .nil) .nil) (.cons (.ifs (.cmp .eq (.var 0) (.int 2)) (.cons (.ret (.ite (.cmp .eq (.bi .len (.cons (.var 1) .nil)) (.int 1)) (.exn 5 (.cons (.idx (.var 1) (.int 0)) .nil)) (.ite (.cmp .eq (.bi .len (.cons (.var 1) .nil)) (.int 2)) (.exk 5 (.idx (.var 1) (.int 0))) (.exn 5 .nil)))) .nil) .nil) (.cons (.ifs (.cmp .eq (.var 0) (.int 3)) (.cons (.ret (.ite (.cmp .eq (.bi .len (.cons (.var 1) .nil)) (.int 1)) (.exn 15 (.cons (.idx (.var 1) (.int 0)) .nil)) (.ite (.cmp .eq (.bi .len (.cons (.var 1) .nil)) (.int 2)) (.exk 15 (.idx (.var 1) (.int 0))) (.exn 15 .nil)))) .nil) .nil) (.cons (.ifs (.cmp .eq (.var 0) (.int 4)) (.cons (.ret (.ite (.cmp .eq (.bi .len (.cons (.var 1) .nil)) (.int 1)) (.exn 1 (.cons (.idx (.var 1) (.int 0)) .nil)) (.ite (.cmp .eq (.bi .len (.cons (.var 1) .nil)) (.int 2)) (.exk 1 (.idx (.var 1) (.int 0))) (.exn 1 .nil)))) .nil) .nil) (.cons (.ifs (.cmp .eq (.var 0) (.int 5)) (.cons (.ret (.ite (.cmp .eq (.bi .len (.cons (.var 1) .nil)) (.int 1)) (.exn 14 (.cons (.idx (.var 1) (.int 0)) .nil)) (.ite (.cmp .eq (.bi .len (.cons (.var 1) .nil)) (.int 2)) (.exk 14 (.idx (.var 1) (.int 0))) (.exn 14 .nil)))) .nil) .nil) (.cons (.ifs (.cmp .eq (.var 0) (.int 6)) (.cons (.ret (.ite (.cmp .eq (.bi .len (.cons (.var 1) .nil)) (.int 1)) (.exn 12 (.cons (.idx (.var 1) (.int 0)) .nil)) (.ite (.cmp .eq (.bi .len (.cons (.var 1) .nil)) (.int 2)) (.exk 12 (.idx (.var 1) (.int 0))) (.exn 12 .nil)))) .nil) .nil) (.cons (.ifs (.cmp .eq (.var 0) (.int 7)) (.cons (.ret (.ite (.cmp .eq (.bi .len (.cons (.var 1) .nil)) (.int 1)) (.exn 3 (.cons (.idx (.var 1) (.int 0)) .nil)) (.ite (.cmp .eq (.bi .len (.cons (.var 1) .nil)) (.int 2)) (.exk 3 (.idx (.var 1) (.int 0))) (.exn 3 .nil)))) .nil) .nil) (.cons (.ifs (.cmp .eq (.var 0) (.int 8)) (.cons (.ret (.ite (.cmp .eq (.bi .len (.cons (.var 1) .nil)) (.int 1)) (.exn 10 (.cons (.idx (.var 1) (.int 0)) .nil)) (.ite (.cmp .eq (.bi .len (.cons (.var 1) .nil)) (.int 2)) (.exk 10 (.idx (.var 1) (.int 0))) (.exn 10 .nil)))) .nil) .nil) (.cons (.ifs (.cmp .eq (.var 0) (.int 9)) (.cons (.ret (.ite (.cmp .eq (.bi .len (.cons (.var 1) .nil)) (.int 1)) (.exn 6 (.cons (.idx (.var 1) (.int 0)) .nil)) (.ite (.cmp .eq (.bi .len (.cons (.var 1) .nil)) (.int 2)) (.exk 6 (.idx (.var 1) (.int 0))) (.exn 6 .nil)))) .nil) .nil) (.cons (.ifs (.cmp .eq (.var 0) (.int 10)) (.cons (.ret (.ite (.cmp .eq (.bi .len (.cons (.var 1) .nil)) (.int 1)) (.exn 7 (.cons (.idx (.var 1) (.int 0)) .nil)) (.ite (.cmp .eq (.bi .len (.cons (.var 1) .nil)) (.int 2)) (.exk 7 (.idx (.var 1) (.int 0))) (.exn 7 .nil)))) .nil) .nil) (.cons (.ifs (.cmp .eq (.var 0) (.int 11)) (.cons (.ret (.ite (.cmp .eq (.bi .len (.cons (.var 1) .nil)) (.int 1)) (.exn 9 (.cons (.idx (.var 1) (.int 0)) .nil)) (.ite (.cmp .eq (.bi .len (.cons (.var 1) .nil)) (.int 2)) (.exk 9 (.idx (.var 1) (.int 0))) (.exn 9 .nil)))) .nil) .nil) (.cons (.ifs (.cmp .eq (.var 0) (.int 12)) (.cons (.ret (.ite (.cmp .eq (.bi .len (.cons (.var 1) .nil)) (.int 1)) (.exn 13 (.cons (.idx (.var 1) (.int 0)) .nil)) (.ite (.cmp .eq (.bi .len (.cons (.var 1) .nil)) (.int 2)) (.exk 13 (.idx (.var 1) (.int 0))) (.exn 13 .nil)))) .nil) .nil) (.cons (.ifs (.cmp .eq (.var 0) (.int 13)) (.cons (.ret (.ite (.cmp .eq (.bi .len (.cons (.var 1) .nil)) (.int 1)) (.exn 2 (.cons (.idx (.var 1) (.int 0)) .nil)) (.ite (.cmp .eq (.bi .len (.cons (.var 1) .nil)) (.int 2)) (.exk 2 (.idx (.var 1) (.int 0))) (.exn 2 .nil)))) .nil) .nil) (.cons (.ifs (.cmp .eq (.var 0) (.int 14)) (.cons (.ret (.ite (.cmp .eq (.bi .len (.cons (.var 1) .nil)) (.int 1)) (.exn 4 (.cons (.idx (.var 1) (.int 0)) .nil)) (.ite (.cmp .eq (.bi .len (.cons (.var 1) .nil)) (.int 2)) (.exk 4 (.idx (.var 1) (.int 0))) (.exn 4 .nil)))) .nil) .nil) (.cons (.ifs (.cmp .eq (.var 0) (.int 15)) (.cons (.ret (.ite (.cmp .eq (.bi .len (.cons (.var 1) .nil)) (.int 1)) (.exn 19 (.cons (.idx (.var 1) (.int 0)) .nil)) (.ite (.cmp .eq (.bi .len (.cons (.var 1) .nil)) (.int 2)) (.exk 19 (.idx (.var 1) (.int 0))) (.exn 19 .nil)))) .nil) .nil) (.cons (.ifs (.cmp .eq (.var 0) (.int 16)) (.cons (.ret (.ite (.cmp .eq (.bi .len (.cons (.var 1) .nil)) (.int 1)) (.exn 18 (.cons (.idx (.var 1) (.int 0)) .nil)) (.ite (.cmp .eq (.bi .len (.cons (.var 1) .nil)) (.int 2)) (.exk 18 (.idx (.var 1) (.int 0))) (.exn 18 .nil)))) .nil) .nil) (.cons (.ifs (.cmp .eq (.var 0) (.int 17)) (.cons (.ret (.ite (.cmp .eq (.bi .len (.cons (.var 1) .nil)) (.int 1)) (.exn 17 (.cons (.idx (.var 1) (.int 0)) .nil)) (.ite (.cmp .eq (.bi .len (.cons (.var 1) .nil)) (.int 2)) (.exk 17 (.idx (.var 1) (.int 0))) (.exn 17 .nil)))) .nil) .nil) (.cons (.ifs (.cmp .eq (.var 0) (.int 18)) (.cons (.ret (.ite (.cmp .eq (.bi .len (.cons (.var 1) .nil)) (.int 1)) (.exn 16 (.cons (.idx (.var 1) (.int 0)) .nil)) (.ite (.cmp .eq (.bi .len (.cons (.var 1) .nil)) (.int 2)) (.exk 16 (.idx (.var 1) (.int 0))) (.exn 16 .nil)))) .nil) .nil) (.cons (.ret (.ite (.cmp .eq (.bi .len (.cons (.var 1) .nil)) (.int 1)) (.exn 0 (.cons (.idx (.var 1) (.int 0)) .nil)) (.ite (.cmp .eq (.bi .len (.cons (.var 1) .nil)) (.int 2)) (.exk 0 (.idx (.var 1) (.int 0))) (.exn 0 .nil)))) .nil)))))))))))))))))))) }
def f57 : Fn :=
  { name := "_law_kinds", ps := ["error"], N := ["error", "found"], modes := [false], kept := [],
    body := (.cons (.asg (.name 1) (.lst (.cons (.isi (.var 0) [(.cls 11)]) (.cons (.isi (.var 0) [(.cls 8)]) (.cons (.isi (.var 0) [(.cls 5)]) (.cons (.isi (.var 0) [(.cls 15)]) (.cons (.isi (.var 0) [(.cls 1)]) .nil))))))) (.cons (.asg (.name 1) (.bin .add (.var 1) (.lst (.cons (.isi (.var 0) [(.cls 14)]) (.cons (.isi (.var 0) [(.cls 12)]) (.cons (.isi (.var 0) [(.cls 3)]) (.cons (.isi (.var 0) [(.cls 10)]) (.cons (.isi (.var 0) [(.cls 6)]) .nil)))))))) (.cons (.asg (.name 1) (.bin .add (.var 1) (.lst (.cons (.isi (.var 0) [(.cls 7)]) (.cons (.isi (.var 0) [(.cls 9)]) (.cons (.isi (.var 0) [(.cls 13)]) (.cons (.isi (.var 0) [(.cls 2)]) (.cons (.isi (.var 0) [(.cls 4)]) .nil)))))))) (.cons (.ret (.bin .add (.var 1) (.lst (.cons (.isi (.var 0) [(.cls 19)]) (.cons (.isi (.var 0) [(.cls 18)]) (.cons (.isi (.var 0) [(.cls 17)]) (.cons (.isi (.var 0) [(.cls 16)]) .nil))))))) .nil)))) }
def f58 : Fn :=
  { name := "_law_raised", ps := ["door", "value"], N := ["door", "value", "design", "error"], modes := [false, false], kept := [],
    body := (.cons (.asg (.name 2) (.tup (.cons (.str "design") (.cons (.int 2) (.cons (.lst (.cons (.tup (.cons (.lst (.cons (.int 0) .nil)) (.cons (.tup (.cons (.int 1) (.cons (.int 1) .nil))) .nil))) .nil)) .nil))))) (.cons (.tryR (.cons (.ifs (.cmp .eq (.var 0) (.int 0)) (.cons (.expr (.call 34 (.cons (.var 1) .nil))) .nil) .nil) (.cons (.ifs (.cmp .eq (.var 0) (.int 1)) (.cons (.expr (.call 37 (.cons (.var 1) (.cons (.int 0) .nil)))) .nil) .nil) (.cons (.ifs (.cmp .eq (.var 0) (.int 2)) (.cons (.expr (.call 39 (.cons (.var 1) .nil))) .nil) .nil) (.cons (.ifs (.cmp .eq (.var 0) (.int 3)) (.cons (.expr (.call 46 (.cons (.var 2) (.cons (.var 1) (.cons (.lst (.cons (.tup (.cons (.int 0) (.cons (.int 1) .nil))) (.cons (.tup (.cons (.int 0) (.cons (.int 1) .nil))) .nil))) .nil))))) .nil) .nil) (.cons (.ifs (.cmp .eq (.var 0) (.int 4)) (.cons (.expr (.call 46 (.cons (.var 2) (.cons (.tup (.cons (.str "rule") (.cons (.int 2) (.cons (.lst (.cons (.tup (.cons (.lst (.cons (.int 0) .nil)) (.cons (.lst (.cons (.tup (.cons (.int 1) (.cons (.int 1) .nil))) .nil)) .nil))) .nil)) .nil)))) (.cons (.var 1) .nil))))) .nil) .nil) (.cons (.ifs (.cmp .eq (.var 0) (.int 5)) (.cons (.expr (.call 41 (.cons (.var 2) (.cons (.var 1) .nil)))) .nil) .nil) (.cons (.ifs (.cmp .eq (.var 0) (.int 6)) (.cons (.expr (.call 50 (.cons (.var 2) .nil))) .nil) .nil) (.cons (.ifs (.cmp .eq (.var 0) (.int 7)) (.cons (.expr (.call 42 (.cons (.call 37 (.cons (.int 4) (.cons (.int 1) .nil))) (.cons (.call 37 (.cons (.int 3) (.cons (.int 1) .nil))) .nil)))) .nil) .nil) .nil)))))))) 0 3) (.cons (.ret .non) .nil))) }
def f59_e0 : E := (.cmp .eq (.var 10) (.var 4))
def f59_b0 : Ss := (.cons (.asg (.name 9) (.call 55 (.cons (.var 2) (.cons (.lst (.cons .non (.cons (.int 75) (.cons (.str "x") (.cons (.tup (.cons (.str "x") .nil)) (.cons .dct (.cons (.lst (.cons .non .nil)) (.cons (.lst (.cons (.lst .nil) (.cons (.str "y") .nil))) .nil)))))))) .nil)))) (.cons (.asg (.name 5) (.call 58 (.cons (.var 8) (.cons (.var 9) .nil)))) (.cons (.ifs (.or (.cons (.cmp .is_ (.var 5) .non) (.cons (.cmp .ne (.call 57 (.cons (.var 5) .nil)) (.comp f59_e0 (.name 10) (.rng (.cons (.int 19) .nil)) .nil [("late", 10)])) (.cons (.cmp .ne (.bi .repr (.cons (.fld (.var 5)) .nil)) (.bi .repr (.cons (.var 9) .nil))) .nil)))) (.cons (.ret (.bl false)) .nil) .nil) .nil)))
def f59_e1 : E := (.cmp .eq (.var 10) (.var 4))
def f59_b1 : Ss := (.cons (.asg (.name 5) (.call 56 (.cons (.var 4) (.cons (.var 7) .nil)))) (.cons (.ifs (.or (.cons (.not (.isi (.var 5) [(.cls 0)])) (.cons (.not (.isi (.var 5) [.vErr])) (.cons (.cmp .ne (.call 57 (.cons (.var 5) .nil)) (.comp f59_e1 (.name 10) (.rng (.cons (.int 19) .nil)) .nil [("late", 10)])) .nil)))) (.cons (.ret (.bl false)) .nil) .nil) (.cons (.ifs (.cmp .ne (.bi .repr (.cons (.fld (.var 5)) .nil)) (.bi .repr (.cons (.ite (.cmp .lt (.bi .len (.cons (.var 7) .nil)) (.int 3)) (.var 3) .non) .nil))) (.cons (.ret (.bl false)) .nil) .nil) .nil)))
def f59_b2 : Ss := (.cons (.fors (.name 7) (.seq (.lst (.cons (.tup (.cons (.var 3) .nil)) (.cons (.tup (.cons (.var 3) (.cons (.int 1) .nil))) (.cons (.tup (.cons (.var 3) (.cons (.int 1) (.cons (.int 2) .nil)))) .nil))))) f59_b1) .nil)
def f59_b3 : Ss := (.cons (.asg (.name 2) (.call 54 (.cons (.var 0) (.cons (.var 1) .nil)))) (.cons (.asg (.name 3) (.call 55 (.cons (.var 2) (.cons (.lst (.cons .non (.cons (.int 0) (.cons (.tup (.cons (.int 1) (.cons (.int 2) .nil))) (.cons (.str "text") (.cons (.lst (.cons (.int 1) (.cons (.lst (.cons (.int 2) .nil)) .nil))) (.cons (.dc1 "a" 1) (.cons (.int 35) (.cons (.bl true) .nil))))))))) .nil)))) (.cons (.fors (.name 4) (.rng (.cons (.int 20) .nil)) f59_b2) (.cons (.fors (.tcons (.name 8) (.tcons (.name 4) .tnil)) (.enum (.lst (.cons (.int 4) (.cons (.int 8) (.cons (.int 2) (.cons (.int 10) (.cons (.int 14) (.cons (.int 7) .nil)))))))) f59_b0) .nil))))
def f59 : Fn :=
  { name := "law", ps := ["script"], N := ["script", "index", "generator", "value", "number", "error", "more", "given", "door", "wrong", "late"], modes := [false], kept := [],
    body := (.cons (.fors (.name 1) (.rng (.cons (.int 3) .nil)) f59_b3) (.cons (.par [5, 6] (.cons (.call 58 (.cons (.int 6) (.cons .non .nil))) (.cons (.call 58 (.cons (.int 7) (.cons .non .nil))) .nil))) (.cons (.ret (.and (.cons (.isi (.var 5) [(.cls 16)]) (.cons (.cmp .eq (.fld (.var 5)) (.int 1)) (.cons (.isi (.var 6) [(.cls 17)]) (.cons (.cmp .eq (.fld (.var 6)) (.int 7)) .nil)))))) .nil))) }
def tab : Tab where
  con := [("NOUGHT", (.tuple [(.int 0), (.int 1)])), ("WHOLE", (.tuple [(.int 1), (.int 1)])), ("MOST_UNITS", (.int 6))]
  fns := [f0, f1, f2, f3, f4, f5, f6, f7, f8, f9, f10, f11, f12, f13, f14, f15, f16, f17, f18, f19, f20, f21, f22, f23, f24, f25, f26, f27, f28, f29, f30, f31, f32, f33, f34, f35, f36, f37, f38, f39, f40, f41, f42, f43, f44, f45, f46, f47, f48, f49, f50, f51, f52, f53, f54, f55, f56, f57, f58, f59]
  cls := ["DrawError", "InvalidDesign", "InvalidUnit", "InvalidLot", "InvalidValues", "InvalidChances", "InvalidPairs", "InvalidRule", "InvalidBelief", "InvalidStrata", "InvalidNumber", "InvalidAmount", "InvalidList", "InvalidText", "InvalidLine", "InvalidDeed", "Unlike", "TooMany", "NothingToUndo", "NothingToRedo"]
  kws := []
def places : List Nat := [22, 23, 24, 25, 26, 27, 28, 29, 30, 31, 32, 33, 34, 35, 36, 41, 42, 43, 44, 45, 46, 47, 48, 49, 50, 51, 52, 53, 54, 55, 56, 57, 58, 59, 61, 62, 63, 65, 66, 67, 68, 69, 70, 72, 73, 74, 75, 76, 77, 78, 79, 81, 82, 83, 84, 85, 87, 88, 89, 90]
end K98

set_option Elab.async false
set_option linter.all false
set_option autoImplicit false
set_option maxRecDepth 100000
namespace K98
open PySem PySem.Spec PyProof.Rows L2 FF
def prog : Program := PySem.Challenge.pw_fewforall_k98_whole_errors
def st (j : Nat) : Stmt := prog.main.body.getD (places.getD j 0) (.Pass ⟨0, 0, 0, 0⟩)
def s0 : Stmt := prog.main.body.getD 22 (.Pass ⟨0, 0, 0, 0⟩)
def s1 : Stmt := prog.main.body.getD 23 (.Pass ⟨0, 0, 0, 0⟩)
def s2 : Stmt := prog.main.body.getD 24 (.Pass ⟨0, 0, 0, 0⟩)
def s3 : Stmt := prog.main.body.getD 25 (.Pass ⟨0, 0, 0, 0⟩)
def s4 : Stmt := prog.main.body.getD 26 (.Pass ⟨0, 0, 0, 0⟩)
def s5 : Stmt := prog.main.body.getD 27 (.Pass ⟨0, 0, 0, 0⟩)
def s6 : Stmt := prog.main.body.getD 28 (.Pass ⟨0, 0, 0, 0⟩)
def s7 : Stmt := prog.main.body.getD 29 (.Pass ⟨0, 0, 0, 0⟩)
def s8 : Stmt := prog.main.body.getD 30 (.Pass ⟨0, 0, 0, 0⟩)
def s9 : Stmt := prog.main.body.getD 31 (.Pass ⟨0, 0, 0, 0⟩)
def s10 : Stmt := prog.main.body.getD 32 (.Pass ⟨0, 0, 0, 0⟩)
def s11 : Stmt := prog.main.body.getD 33 (.Pass ⟨0, 0, 0, 0⟩)
def s12 : Stmt := prog.main.body.getD 34 (.Pass ⟨0, 0, 0, 0⟩)
def s13 : Stmt := prog.main.body.getD 35 (.Pass ⟨0, 0, 0, 0⟩)
def s14 : Stmt := prog.main.body.getD 36 (.Pass ⟨0, 0, 0, 0⟩)
def s15 : Stmt := prog.main.body.getD 41 (.Pass ⟨0, 0, 0, 0⟩)
def s16 : Stmt := prog.main.body.getD 42 (.Pass ⟨0, 0, 0, 0⟩)
def s17 : Stmt := prog.main.body.getD 43 (.Pass ⟨0, 0, 0, 0⟩)
def s18 : Stmt := prog.main.body.getD 44 (.Pass ⟨0, 0, 0, 0⟩)
def s19 : Stmt := prog.main.body.getD 45 (.Pass ⟨0, 0, 0, 0⟩)
def s20 : Stmt := prog.main.body.getD 46 (.Pass ⟨0, 0, 0, 0⟩)
def s21 : Stmt := prog.main.body.getD 47 (.Pass ⟨0, 0, 0, 0⟩)
def s22 : Stmt := prog.main.body.getD 48 (.Pass ⟨0, 0, 0, 0⟩)
def s23 : Stmt := prog.main.body.getD 49 (.Pass ⟨0, 0, 0, 0⟩)
def s24 : Stmt := prog.main.body.getD 50 (.Pass ⟨0, 0, 0, 0⟩)
def s25 : Stmt := prog.main.body.getD 51 (.Pass ⟨0, 0, 0, 0⟩)
def s26 : Stmt := prog.main.body.getD 52 (.Pass ⟨0, 0, 0, 0⟩)
def s27 : Stmt := prog.main.body.getD 53 (.Pass ⟨0, 0, 0, 0⟩)
def s28 : Stmt := prog.main.body.getD 54 (.Pass ⟨0, 0, 0, 0⟩)
def s29 : Stmt := prog.main.body.getD 55 (.Pass ⟨0, 0, 0, 0⟩)
def s30 : Stmt := prog.main.body.getD 56 (.Pass ⟨0, 0, 0, 0⟩)
def s31 : Stmt := prog.main.body.getD 57 (.Pass ⟨0, 0, 0, 0⟩)
def s32 : Stmt := prog.main.body.getD 58 (.Pass ⟨0, 0, 0, 0⟩)
def s33 : Stmt := prog.main.body.getD 59 (.Pass ⟨0, 0, 0, 0⟩)
def s34 : Stmt := prog.main.body.getD 61 (.Pass ⟨0, 0, 0, 0⟩)
def s35 : Stmt := prog.main.body.getD 62 (.Pass ⟨0, 0, 0, 0⟩)
def s36 : Stmt := prog.main.body.getD 63 (.Pass ⟨0, 0, 0, 0⟩)
def s37 : Stmt := prog.main.body.getD 65 (.Pass ⟨0, 0, 0, 0⟩)
def s38 : Stmt := prog.main.body.getD 66 (.Pass ⟨0, 0, 0, 0⟩)
def s39 : Stmt := prog.main.body.getD 67 (.Pass ⟨0, 0, 0, 0⟩)
def s40 : Stmt := prog.main.body.getD 68 (.Pass ⟨0, 0, 0, 0⟩)
def s41 : Stmt := prog.main.body.getD 69 (.Pass ⟨0, 0, 0, 0⟩)
def s42 : Stmt := prog.main.body.getD 70 (.Pass ⟨0, 0, 0, 0⟩)
def s43 : Stmt := prog.main.body.getD 72 (.Pass ⟨0, 0, 0, 0⟩)
def s44 : Stmt := prog.main.body.getD 73 (.Pass ⟨0, 0, 0, 0⟩)
def s45 : Stmt := prog.main.body.getD 74 (.Pass ⟨0, 0, 0, 0⟩)
def s46 : Stmt := prog.main.body.getD 75 (.Pass ⟨0, 0, 0, 0⟩)
def s47 : Stmt := prog.main.body.getD 76 (.Pass ⟨0, 0, 0, 0⟩)
def s48 : Stmt := prog.main.body.getD 77 (.Pass ⟨0, 0, 0, 0⟩)
def s49 : Stmt := prog.main.body.getD 78 (.Pass ⟨0, 0, 0, 0⟩)
def s50 : Stmt := prog.main.body.getD 79 (.Pass ⟨0, 0, 0, 0⟩)
def s51 : Stmt := prog.main.body.getD 81 (.Pass ⟨0, 0, 0, 0⟩)
def s52 : Stmt := prog.main.body.getD 82 (.Pass ⟨0, 0, 0, 0⟩)
def s53 : Stmt := prog.main.body.getD 83 (.Pass ⟨0, 0, 0, 0⟩)
def s54 : Stmt := prog.main.body.getD 84 (.Pass ⟨0, 0, 0, 0⟩)
def s55 : Stmt := prog.main.body.getD 85 (.Pass ⟨0, 0, 0, 0⟩)
def s56 : Stmt := prog.main.body.getD 87 (.Pass ⟨0, 0, 0, 0⟩)
def s57 : Stmt := prog.main.body.getD 88 (.Pass ⟨0, 0, 0, 0⟩)
def s58 : Stmt := prog.main.body.getD 89 (.Pass ⟨0, 0, 0, 0⟩)
def s59 : Stmt := prog.main.body.getD 90 (.Pass ⟨0, 0, 0, 0⟩)
def sI : Stmt := L2.inClass (prog.main.body.getD 1 (.Pass ⟨0, 0, 0, 0⟩)) 0
abbrev iB : List Stmt := iniBody ⟨5, 8, 5, 13⟩ ⟨5, 8, 5, 15⟩ ⟨5, 8, 5, 24⟩ ⟨5, 25, 5, 30⟩ ⟨5, 8, 5, 31⟩ ⟨5, 8, 5, 31⟩ ⟨6, 8, 6, 12⟩ ⟨6, 8, 6, 18⟩ ⟨6, 21, 6, 26⟩ ⟨6, 8, 6, 26⟩
def okF (j : Nat) (F : Fn) : Bool := chkSs tab F.kept (defScope (st j)) F.N F.body (defBody (st j))
def scB (sc : Scope) (N ps : List Str) : Bool := (match sc.kind with | .function => true | _ => false) && !sc.isCoroutine && !sc.isGenerator && decide N.Nodup && decide (N.take ps.length = ps) && ps.all (locK sc) && sc.names.all fun y => (match y.2 with | .free => false | _ => true)
theorem sc_of {sc : Scope} {N ps : List Str} (h : scB sc N ps = true) : FnScope N ps sc := by
  unfold scB at h
  simp only [Bool.and_eq_true, Bool.not_eq_true', decide_eq_true_eq] at h
  obtain ⟨⟨⟨⟨⟨⟨h1, h2⟩, h3⟩, h4⟩, h5⟩, h6⟩, h7⟩ := h
  refine ⟨?_, h2, h3, h4, h5, fun x hx => loc_of (List.all_eq_true.mp h6 x hx), fun y hy e => ?_⟩
  · split at h1
    · assumption
    · cases h1
  · have := List.all_eq_true.mp h7 y hy
    rw [e] at this
    cases this
theorem ck0 : chkSs tab f0.kept (defScope s0) f0.N f0.body (defBody s0) = true := by decide +kernel
theorem sc0 : FnScope f0.N f0.ps (defScope s0) := sc_of (by decide +kernel)
theorem ck1 : chkSs tab f1.kept (defScope s1) f1.N f1.body (defBody s1) = true := by decide +kernel
theorem sc1 : FnScope f1.N f1.ps (defScope s1) := sc_of (by decide +kernel)
theorem ck2 : chkSs tab f2.kept (defScope s2) f2.N f2.body (defBody s2) = true := by decide +kernel
theorem sc2 : FnScope f2.N f2.ps (defScope s2) := sc_of (by decide +kernel)
theorem ck3 : chkSs tab f3.kept (defScope s3) f3.N f3.body (defBody s3) = true := by decide +kernel
theorem sc3 : FnScope f3.N f3.ps (defScope s3) := sc_of (by decide +kernel)
theorem ck4 : chkSs tab f4.kept (defScope s4) f4.N f4.body (defBody s4) = true := by decide +kernel
theorem sc4 : FnScope f4.N f4.ps (defScope s4) := sc_of (by decide +kernel)
theorem ck5 : chkSs tab f5.kept (defScope s5) f5.N f5.body (defBody s5) = true := by decide +kernel
theorem sc5 : FnScope f5.N f5.ps (defScope s5) := sc_of (by decide +kernel)
theorem ck6 : chkSs tab f6.kept (defScope s6) f6.N f6.body (defBody s6) = true := by decide +kernel
theorem sc6 : FnScope f6.N f6.ps (defScope s6) := sc_of (by decide +kernel)
theorem ck7 : chkSs tab f7.kept (defScope s7) f7.N f7.body (defBody s7) = true := by decide +kernel
theorem sc7 : FnScope f7.N f7.ps (defScope s7) := sc_of (by decide +kernel)
theorem ck8 : chkSs tab f8.kept (defScope s8) f8.N f8.body (defBody s8) = true := by decide +kernel
theorem sc8 : FnScope f8.N f8.ps (defScope s8) := sc_of (by decide +kernel)
theorem ck9 : chkSs tab f9.kept (defScope s9) f9.N f9.body (defBody s9) = true := by decide +kernel
theorem sc9 : FnScope f9.N f9.ps (defScope s9) := sc_of (by decide +kernel)
theorem ck10 : chkSs tab f10.kept (defScope s10) f10.N f10.body (defBody s10) = true := by decide +kernel
theorem sc10 : FnScope f10.N f10.ps (defScope s10) := sc_of (by decide +kernel)
theorem ck11 : chkSs tab f11.kept (defScope s11) f11.N f11.body (defBody s11) = true := by decide +kernel
theorem sc11 : FnScope f11.N f11.ps (defScope s11) := sc_of (by decide +kernel)
theorem ck12 : chkSs tab f12.kept (defScope s12) f12.N f12.body (defBody s12) = true := by decide +kernel
theorem sc12 : FnScope f12.N f12.ps (defScope s12) := sc_of (by decide +kernel)
theorem ck13 : chkSs tab f13.kept (defScope s13) f13.N f13.body (defBody s13) = true := by decide +kernel
theorem sc13 : FnScope f13.N f13.ps (defScope s13) := sc_of (by decide +kernel)
theorem ck14 : chkSs tab f14.kept (defScope s14) f14.N f14.body (defBody s14) = true := by decide +kernel
theorem sc14 : FnScope f14.N f14.ps (defScope s14) := sc_of (by decide +kernel)
theorem ck15 : chkSs tab f15.kept (defScope s15) f15.N f15.body (defBody s15) = true := by decide +kernel
theorem sc15 : FnScope f15.N f15.ps (defScope s15) := sc_of (by decide +kernel)
theorem ck16 : chkSs tab f16.kept (defScope s16) f16.N f16.body (defBody s16) = true := by decide +kernel
theorem sc16 : FnScope f16.N f16.ps (defScope s16) := sc_of (by decide +kernel)
theorem ck17 : chkSs tab f17.kept (defScope s17) f17.N f17.body (defBody s17) = true := by decide +kernel
theorem sc17 : FnScope f17.N f17.ps (defScope s17) := sc_of (by decide +kernel)
theorem ck18 : chkSs tab f18.kept (defScope s18) f18.N f18.body (defBody s18) = true := by decide +kernel
theorem sc18 : FnScope f18.N f18.ps (defScope s18) := sc_of (by decide +kernel)
theorem ck19 : chkSs tab f19.kept (defScope s19) f19.N f19.body (defBody s19) = true := by decide +kernel
theorem sc19 : FnScope f19.N f19.ps (defScope s19) := sc_of (by decide +kernel)
theorem ck20 : chkSs tab f20.kept (defScope s20) f20.N f20.body (defBody s20) = true := by decide +kernel
theorem sc20 : FnScope f20.N f20.ps (defScope s20) := sc_of (by decide +kernel)
theorem ck21 : chkSs tab f21.kept (defScope s21) f21.N f21.body (defBody s21) = true := by decide +kernel
theorem sc21 : FnScope f21.N f21.ps (defScope s21) := sc_of (by decide +kernel)
theorem ck22 : chkSs tab f22.kept (defScope s22) f22.N f22.body (defBody s22) = true := by decide +kernel
theorem sc22 : FnScope f22.N f22.ps (defScope s22) := sc_of (by decide +kernel)
theorem ck23 : chkSs tab f23.kept (defScope s23) f23.N f23.body (defBody s23) = true := by decide +kernel
theorem sc23 : FnScope f23.N f23.ps (defScope s23) := sc_of (by decide +kernel)
theorem ck24 : chkSs tab f24.kept (defScope s24) f24.N f24.body (defBody s24) = true := by decide +kernel
theorem sc24 : FnScope f24.N f24.ps (defScope s24) := sc_of (by decide +kernel)
theorem ck25 : chkSs tab f25.kept (defScope s25) f25.N f25.body (defBody s25) = true := by decide +kernel
theorem sc25 : FnScope f25.N f25.ps (defScope s25) := sc_of (by decide +kernel)
theorem ck26 : chkSs tab f26.kept (defScope s26) f26.N f26.body (defBody s26) = true := by decide +kernel
theorem sc26 : FnScope f26.N f26.ps (defScope s26) := sc_of (by decide +kernel)
theorem ck27 : chkSs tab f27.kept (defScope s27) f27.N f27.body (defBody s27) = true := by decide +kernel
theorem sc27 : FnScope f27.N f27.ps (defScope s27) := sc_of (by decide +kernel)
theorem ck28 : chkSs tab f28.kept (defScope s28) f28.N f28.body (defBody s28) = true := by decide +kernel
theorem sc28 : FnScope f28.N f28.ps (defScope s28) := sc_of (by decide +kernel)
theorem ck29 : chkSs tab f29.kept (defScope s29) f29.N f29.body (defBody s29) = true := by decide +kernel
theorem sc29 : FnScope f29.N f29.ps (defScope s29) := sc_of (by decide +kernel)
theorem ck30 : chkSs tab f30.kept (defScope s30) f30.N f30.body (defBody s30) = true := by decide +kernel
theorem sc30 : FnScope f30.N f30.ps (defScope s30) := sc_of (by decide +kernel)
theorem ck31 : chkSs tab f31.kept (defScope s31) f31.N f31.body (defBody s31) = true := by decide +kernel
theorem sc31 : FnScope f31.N f31.ps (defScope s31) := sc_of (by decide +kernel)
theorem ck32 : chkSs tab f32.kept (defScope s32) f32.N f32.body (defBody s32) = true := by decide +kernel
theorem sc32 : FnScope f32.N f32.ps (defScope s32) := sc_of (by decide +kernel)
theorem ck33 : chkSs tab f33.kept (defScope s33) f33.N f33.body (defBody s33) = true := by decide +kernel
theorem sc33 : FnScope f33.N f33.ps (defScope s33) := sc_of (by decide +kernel)
theorem ck34 : chkSs tab f34.kept (defScope s34) f34.N f34.body (defBody s34) = true := by decide +kernel
theorem sc34 : FnScope f34.N f34.ps (defScope s34) := sc_of (by decide +kernel)
theorem ck35 : chkSs tab f35.kept (defScope s35) f35.N f35.body (defBody s35) = true := by decide +kernel
theorem sc35 : FnScope f35.N f35.ps (defScope s35) := sc_of (by decide +kernel)
theorem ck36 : chkSs tab f36.kept (defScope s36) f36.N f36.body (defBody s36) = true := by decide +kernel
theorem sc36 : FnScope f36.N f36.ps (defScope s36) := sc_of (by decide +kernel)
theorem ck37 : chkSs tab f37.kept (defScope s37) f37.N f37.body (defBody s37) = true := by decide +kernel
theorem sc37 : FnScope f37.N f37.ps (defScope s37) := sc_of (by decide +kernel)
theorem ck38 : chkSs tab f38.kept (defScope s38) f38.N f38.body (defBody s38) = true := by decide +kernel
theorem sc38 : FnScope f38.N f38.ps (defScope s38) := sc_of (by decide +kernel)
theorem ck39 : chkSs tab f39.kept (defScope s39) f39.N f39.body (defBody s39) = true := by decide +kernel
theorem sc39 : FnScope f39.N f39.ps (defScope s39) := sc_of (by decide +kernel)
theorem ck40 : chkSs tab f40.kept (defScope s40) f40.N f40.body (defBody s40) = true := by decide +kernel
theorem sc40 : FnScope f40.N f40.ps (defScope s40) := sc_of (by decide +kernel)
theorem ck41 : chkSs tab f41.kept (defScope s41) f41.N f41.body (defBody s41) = true := by decide +kernel
theorem sc41 : FnScope f41.N f41.ps (defScope s41) := sc_of (by decide +kernel)
theorem ck42 : chkSs tab f42.kept (defScope s42) f42.N f42.body (defBody s42) = true := by decide +kernel
theorem sc42 : FnScope f42.N f42.ps (defScope s42) := sc_of (by decide +kernel)
theorem ck43 : chkSs tab f43.kept (defScope s43) f43.N f43.body (defBody s43) = true := by decide +kernel
theorem sc43 : FnScope f43.N f43.ps (defScope s43) := sc_of (by decide +kernel)
theorem ck44 : chkSs tab f44.kept (defScope s44) f44.N f44.body (defBody s44) = true := by decide +kernel
theorem sc44 : FnScope f44.N f44.ps (defScope s44) := sc_of (by decide +kernel)
theorem ck45 : chkSs tab f45.kept (defScope s45) f45.N f45.body (defBody s45) = true := by decide +kernel
theorem sc45 : FnScope f45.N f45.ps (defScope s45) := sc_of (by decide +kernel)
theorem ck46 : chkSs tab f46.kept (defScope s46) f46.N f46.body (defBody s46) = true := by decide +kernel
theorem sc46 : FnScope f46.N f46.ps (defScope s46) := sc_of (by decide +kernel)
theorem ck47 : chkSs tab f47.kept (defScope s47) f47.N f47.body (defBody s47) = true := by decide +kernel
theorem sc47 : FnScope f47.N f47.ps (defScope s47) := sc_of (by decide +kernel)
theorem ck48 : chkSs tab f48.kept (defScope s48) f48.N f48.body (defBody s48) = true := by decide +kernel
theorem sc48 : FnScope f48.N f48.ps (defScope s48) := sc_of (by decide +kernel)
theorem ck49 : chkSs tab f49.kept (defScope s49) f49.N f49.body (defBody s49) = true := by decide +kernel
theorem sc49 : FnScope f49.N f49.ps (defScope s49) := sc_of (by decide +kernel)
theorem ck50 : chkSs tab f50.kept (defScope s50) f50.N f50.body (defBody s50) = true := by decide +kernel
theorem sc50 : FnScope f50.N f50.ps (defScope s50) := sc_of (by decide +kernel)
theorem ck51 : chkSs tab f51.kept (defScope s51) f51.N f51.body (defBody s51) = true := by decide +kernel
theorem sc51 : FnScope f51.N f51.ps (defScope s51) := sc_of (by decide +kernel)
theorem ck52 : chkSs tab f52.kept (defScope s52) f52.N f52.body (defBody s52) = true := by decide +kernel
theorem sc52 : FnScope f52.N f52.ps (defScope s52) := sc_of (by decide +kernel)
theorem ck53 : chkSs tab f53.kept (defScope s53) f53.N f53.body (defBody s53) = true := by decide +kernel
theorem sc53 : FnScope f53.N f53.ps (defScope s53) := sc_of (by decide +kernel)
theorem ck54 : chkSs tab f54.kept (defScope s54) f54.N f54.body (defBody s54) = true := by decide +kernel
theorem sc54 : FnScope f54.N f54.ps (defScope s54) := sc_of (by decide +kernel)
theorem ck55 : chkSs tab f55.kept (defScope s55) f55.N f55.body (defBody s55) = true := by decide +kernel
theorem sc55 : FnScope f55.N f55.ps (defScope s55) := sc_of (by decide +kernel)
theorem ck56 : chkSs tab f56.kept (defScope s56) f56.N f56.body (defBody s56) = true := by decide +kernel
theorem sc56 : FnScope f56.N f56.ps (defScope s56) := sc_of (by decide +kernel)
theorem ck57 : chkSs tab f57.kept (defScope s57) f57.N f57.body (defBody s57) = true := by decide +kernel
theorem sc57 : FnScope f57.N f57.ps (defScope s57) := sc_of (by decide +kernel)
theorem ck58 : chkSs tab f58.kept (defScope s58) f58.N f58.body (defBody s58) = true := by decide +kernel
theorem sc58 : FnScope f58.N f58.ps (defScope s58) := sc_of (by decide +kernel)
theorem ck59 : chkSs tab f59.kept (defScope s59) f59.N f59.body (defBody s59) = true := by decide +kernel
theorem sc59 : FnScope f59.N f59.ps (defScope s59) := sc_of (by decide +kernel)
def om (w : World) (K : PySem.W.Frag) (mg : Str → Option Value) (fs cs : List Addr) (fds : List FuncData) (fi : Addr) (fid : FuncData) (base : Heap) : Wd where
  P := prog
  w := w
  K := K
  mg := mg
  base := base
  fa := fun j => fs.getD j 0
  ca := fun c => cs.getD c 0
  fd := fun j => fds.getD j fid
  nc := 20
  fi := fi
  fid := fid
def sts (j : Nat) : Stmt := [s0, s1, s2, s3, s4, s5, s6, s7, s8, s9, s10, s11, s12, s13, s14, s15, s16, s17, s18, s19, s20, s21, s22, s23, s24, s25, s26, s27, s28, s29, s30, s31, s32, s33, s34, s35, s36, s37, s38, s39, s40, s41, s42, s43, s44, s45, s46, s47, s48, s49, s50, s51, s52, s53, s54, s55, s56, s57, s58, s59].getD j s0
def OexX (K : PySem.W.Frag) (C : Addr) : Prop := ∃ nm q N bs bm sn sub ab col dd k0 k1 k2 k3 k5, K.lookup C = some (excClassObj nm q C N bs bm true sn sub ab col dd k0 k1 k2 k3 k5 "ValueError.__new__") ∧ PySem.HandSPX.refsVE bm = true
theorem tys_mk {K : PySem.W.Frag} {f : String → Option Bool} (h1 : f "NoneType" = some false) (h2 : f "bool" = some false) (h3 : f "int" = some false) (h4 : f "str" = some false) (h5 : f "list" = some false) (h6 : f "tuple" = some false) (h7 : f "dict" = some false) : ∀ T ∈ plainTys, f T = some false := by
  intro T hT
  simp only [plainTys, List.mem_cons, List.not_mem_nil, or_false] at hT
  rcases hT with rfl | rfl | rfl | rfl | rfl | rfl | rfl <;> assumption
theorem emx {K : PySem.W.Frag} {C : Addr} {cls : Value} (h1 : PySem.W.subIn K (.ref C) (.type "BaseException") = some true) (h2 : PySem.W.isClsIn K C = true) (h3 : PySem.W.typeIn K (.ref C) = some (.type "type")) (h4 : PySem.W.subIn K cls (.ref C) = some true) : PySem.W.exmOne K cls (.ref C) = some true := by
  have e1 : (PySem.W.subIn K (.ref C) (.type "BaseException") == some true) = true := by rw [h1]; rfl
  have e2 : ((PySem.W.clsIn K C).isSome && PySem.W.typeIn K (.ref C) == some (.type "type")) = true := by
    have h2' : (PySem.W.clsIn K C).isSome = true := h2
    rw [h2', h3]; rfl
  show (if _ then (if _ then PySem.W.subIn K cls (.ref C) else none) else none) = some true
  rw [if_pos e1, if_pos e2]
  exact h4
theorem kit_ref {K : PySem.W.Frag} {C : Addr} {t : Value} {b : Bool} (h : PySem.W.subIn K t (.ref C) = some b) (hs : PySem.W.subIn K (.ref C) (.ref C) = some true) (hc : PySem.W.isClsIn K C = true) (ht : PySem.W.typeIn K (.ref C) = some (.type "type")) : PySem.W.kitOne K t (.ref C) = some b := by
  unfold PySem.W.kitOne
  split
  · rename_i e
    have e := beq_iff_eq.mp e
    subst e
    rw [hs] at h
    cases h
    rfl
  · have e2 : ((PySem.W.clsIn K C).isSome && PySem.W.typeIn K (.ref C) == some (.type "type")) = true := by
      have h2' : (PySem.W.clsIn K C).isSome = true := hc
      rw [h2', ht]; rfl
    show (if _ then PySem.W.subIn K t (.ref C) else none) = some b
    rw [if_pos e2]
    exact h
theorem kit_typ {K : PySem.W.Frag} {C : Addr} {T : String} {b : Bool} (hm : PySem.W.kitMeta T = true) (h : PySem.W.subIn K (.ref C) (.type T) = some b) : PySem.W.kitOne K (.ref C) (.type T) = some b := by
  unfold PySem.W.kitOne
  rw [if_neg (by intro z; exact absurd (beq_iff_eq.mp z) (fun q => nomatch q))]
  show (if PySem.W.kitMeta T = true then PySem.W.subIn K (.ref C) (.type T) else none) = some b
  rw [if_pos hm]
  exact h
theorem along_ve (K : PySem.W.Frag) : PySem.W.alongIn K "__init__" [.type "ValueError", .type "Exception", .type "BaseException", .type "object"] = some (some (.builtin "ValueError.__init__")) := by kernel_rfl
theorem su_mk {K : PySem.W.Frag} {C D N : Addr} {nm q : Str} {bs sb : List Value} {bm : List Value} {sn : List Str} {ab : Bool} {co : Option Bool} {dd : Option Addr} {k0 k1 k2 k3 k5 : Option Value}
    (x : K.lookup C = some (excClassObj nm q C N bs bm true sn sb ab co dd k0 k1 k2 k3 k5 "ValueError.__new__")) (h : (((.ref C :: bm : List Value).dropWhile (· != .ref D)).drop 1) = [.type "ValueError", .type "Exception", .type "BaseException", .type "object"]) : PySem.W.ks_superIn K C D "__init__" = some (some (.builtin "ValueError.__init__")) := by
  have hc : PySem.W.clsIn K C = some { name := nm, bases := bs, mro := .ref C :: bm, ns := N, qualname := q, hasDict := true, slotNames := sn, subclasses := sb, abstract := ab, collection := co, hasDel := false } := by
    unfold PySem.W.clsIn
    rw [x]
  unfold PySem.W.ks_superIn
  rw [hc]
  show PySem.W.alongIn K "__init__" (((.ref C :: bm : List Value).dropWhile (· != .ref D)).drop 1) = _
  rw [h]
  exact along_ve K
theorem dw_own (C : Addr) (l : List Value) : (((.ref C :: l : List Value).dropWhile (· != .ref C)).drop 1) = l := by simp [List.dropWhile_cons]
theorem dw_two {C D : Addr} (h : C ≠ D) (l : List Value) : (((.ref C :: .ref D :: l : List Value).dropWhile (· != .ref D)).drop 1) = l := by
  simp [List.dropWhile_cons, h]
theorem cls_ne {K : PySem.W.Frag} {C D N N' : Addr} {nm q nm' q' : Str} {bs sb bs' sb' : List Value} {bm bm' : List Value} {sn sn' : List Str} {ab ab' : Bool} {co co' : Option Bool} {dd dd' : Option Addr} {k0 k1 k2 k3 k5 l0 l1 l2 l3 l5 : Option Value}
    (x : K.lookup C = some (excClassObj nm q C N bs bm true sn sb ab co dd k0 k1 k2 k3 k5 "ValueError.__new__")) (y : K.lookup D = some (excClassObj nm' q' D N' bs' bm' true sn' sb' ab' co' dd' l0 l1 l2 l3 l5 "ValueError.__new__")) (h : bm ≠ bm') : C ≠ D := by
  intro e
  subst e
  rw [x] at y
  have z : (.ref C :: bm : List Value) = .ref C :: bm' := congrArg (fun o : Option Obj => match o with | some o => (match o.data with | .cls cd => cd.mro | _ => []) | none => []) y
  exact h (List.cons.inj z).2
set_option maxHeartbeats 8000000 in
theorem all_mk {P : Program} {w : World} {K : PySem.W.Frag} {h : Heap} {mg : Str → Option Value} {fa : Addr} {g0 g1 g2 g3 g4 g5 g6 g7 g8 g9 g10 g11 g12 g13 g14 g15 g16 g17 g18 g19 g20 g21 g22 g23 g24 g25 g26 g27 g28 g29 g30 g31 g32 g33 g34 g35 g36 g37 g38 g39 g40 g41 g42 g43 g44 g45 g46 g47 g48 g49 g50 g51 g52 g53 g54 g55 g56 g57 g58 g59 : Addr} {oc0 kV0 dc0 pm0 cd0 ct0 oc1 kV1 dc1 pm1 cd1 ct1 oc2 kV2 dc2 pm2 cd2 ct2 oc3 kV3 dc3 pm3 cd3 ct3 oc4 kV4 dc4 pm4 cd4 ct4 oc5 kV5 dc5 pm5 cd5 ct5 oc6 kV6 dc6 pm6 cd6 ct6 oc7 kV7 dc7 pm7 cd7 ct7 oc8 kV8 dc8 pm8 cd8 ct8 oc9 kV9 dc9 pm9 cd9 ct9 oc10 kV10 dc10 pm10 cd10 ct10 oc11 kV11 dc11 pm11 cd11 ct11 oc12 kV12 dc12 pm12 cd12 ct12 oc13 kV13 dc13 pm13 cd13 ct13 oc14 kV14 dc14 pm14 cd14 ct14 oc15 kV15 dc15 pm15 cd15 ct15 oc16 kV16 dc16 pm16 cd16 ct16 oc17 kV17 dc17 pm17 cd17 ct17 oc18 kV18 dc18 pm18 cd18 ct18 oc19 kV19 dc19 pm19 cd19 ct19 oc20 kV20 dc20 pm20 cd20 ct20 oc21 kV21 dc21 pm21 cd21 ct21 oc22 kV22 dc22 pm22 cd22 ct22 oc23 kV23 dc23 pm23 cd23 ct23 oc24 kV24 dc24 pm24 cd24 ct24 oc25 kV25 dc25 pm25 cd25 ct25 oc26 kV26 dc26 pm26 cd26 ct26 oc27 kV27 dc27 pm27 cd27 ct27 oc28 kV28 dc28 pm28 cd28 ct28 oc29 kV29 dc29 pm29 cd29 ct29 oc30 kV30 dc30 pm30 cd30 ct30 oc31 kV31 dc31 pm31 cd31 ct31 oc32 kV32 dc32 pm32 cd32 ct32 oc33 kV33 dc33 pm33 cd33 ct33 oc34 kV34 dc34 pm34 cd34 ct34 oc35 kV35 dc35 pm35 cd35 ct35 oc36 kV36 dc36 pm36 cd36 ct36 oc37 kV37 dc37 pm37 cd37 ct37 oc38 kV38 dc38 pm38 cd38 ct38 oc39 kV39 dc39 pm39 cd39 ct39 oc40 kV40 dc40 pm40 cd40 ct40 oc41 kV41 dc41 pm41 cd41 ct41 oc42 kV42 dc42 pm42 cd42 ct42 oc43 kV43 dc43 pm43 cd43 ct43 oc44 kV44 dc44 pm44 cd44 ct44 oc45 kV45 dc45 pm45 cd45 ct45 oc46 kV46 dc46 pm46 cd46 ct46 oc47 kV47 dc47 pm47 cd47 ct47 oc48 kV48 dc48 pm48 cd48 ct48 oc49 kV49 dc49 pm49 cd49 ct49 oc50 kV50 dc50 pm50 cd50 ct50 oc51 kV51 dc51 pm51 cd51 ct51 oc52 kV52 dc52 pm52 cd52 ct52 oc53 kV53 dc53 pm53 cd53 ct53 oc54 kV54 dc54 pm54 cd54 ct54 oc55 kV55 dc55 pm55 cd55 ct55 oc56 kV56 dc56 pm56 cd56 ct56 oc57 kV57 dc57 pm57 cd57 ct57 oc58 kV58 dc58 pm58 cd58 ct58 oc59 kV59 dc59 pm59 cd59 ct59 : Value} {od0 an0 od1 an1 od2 an2 od3 an3 od4 an4 od5 an5 od6 an6 od7 an7 od8 an8 od9 an9 od10 an10 od11 an11 od12 an12 od13 an13 od14 an14 od15 an15 od16 an16 od17 an17 od18 an18 od19 an19 od20 an20 od21 an21 od22 an22 od23 an23 od24 an24 od25 an25 od26 an26 od27 an27 od28 an28 od29 an29 od30 an30 od31 an31 od32 an32 od33 an33 od34 an34 od35 an35 od36 an36 od37 an37 od38 an38 od39 an39 od40 an40 od41 an41 od42 an42 od43 an43 od44 an44 od45 an45 od46 an46 od47 an47 od48 an48 od49 an49 od50 an50 od51 an51 od52 an52 od53 an53 od54 an54 od55 an55 od56 an56 od57 an57 od58 an58 od59 an59 : Option Addr} {sl0 sl1 sl2 sl3 sl4 sl5 sl6 sl7 sl8 sl9 sl10 sl11 sl12 sl13 sl14 sl15 sl16 sl17 sl18 sl19 sl20 sl21 sl22 sl23 sl24 sl25 sl26 sl27 sl28 sl29 sl30 sl31 sl32 sl33 sl34 sl35 sl36 sl37 sl38 sl39 sl40 sl41 sl42 sl43 sl44 sl45 sl46 sl47 sl48 sl49 sl50 sl51 sl52 sl53 sl54 sl55 sl56 sl57 sl58 sl59 : Array (Option Value)} {C0 N0 C1 N1 C2 N2 C3 N3 C4 N4 C5 N5 C6 N6 C7 N7 C8 N8 C9 N9 C10 N10 C11 N11 C12 N12 C13 N13 C14 N14 C15 N15 C16 N16 C17 N17 C18 N18 C19 N19 gI cda ccI dVI : Addr} {nm0 qn0 nm1 qn1 nm2 qn2 nm3 qn3 nm4 qn4 nm5 qn5 nm6 qn6 nm7 qn7 nm8 qn8 nm9 qn9 nm10 qn10 nm11 qn11 nm12 qn12 nm13 qn13 nm14 qn14 nm15 qn15 nm16 qn16 nm17 qn17 nm18 qn18 nm19 qn19 : Str} {bs0 sb0 bs1 sb1 bs2 sb2 bs3 sb3 bs4 sb4 bs5 sb5 bs6 sb6 bs7 sb7 bs8 sb8 bs9 sb9 bs10 sb10 bs11 sb11 bs12 sb12 bs13 sb13 bs14 sb14 bs15 sb15 bs16 sb16 bs17 sb17 bs18 sb18 bs19 sb19 : List Value} {sn0 sn1 sn2 sn3 sn4 sn5 sn6 sn7 sn8 sn9 sn10 sn11 sn12 sn13 sn14 sn15 sn16 sn17 sn18 sn19 : List Str} {ab0 ab1 ab2 ab3 ab4 ab5 ab6 ab7 ab8 ab9 ab10 ab11 ab12 ab13 ab14 ab15 ab16 ab17 ab18 ab19 : Bool} {co0 co1 co2 co3 co4 co5 co6 co7 co8 co9 co10 co11 co12 co13 co14 co15 co16 co17 co18 co19 : Option Bool} {dd0 dd1 dd2 dd3 dd4 dd5 dd6 dd7 dd8 dd9 dd10 dd11 dd12 dd13 dd14 dd15 dd16 dd17 dd18 dd19 odI anI odD cdd cld : Option Addr} {ka0 kb0 kc0 kd0 ke0 ka1 kb1 kc1 kd1 ke1 ka2 kb2 kc2 kd2 ke2 ka3 kb3 kc3 kd3 ke3 ka4 kb4 kc4 kd4 ke4 ka5 kb5 kc5 kd5 ke5 ka6 kb6 kc6 kd6 ke6 ka7 kb7 kc7 kd7 ke7 ka8 kb8 kc8 kd8 ke8 ka9 kb9 kc9 kd9 ke9 ka10 kb10 kc10 kd10 ke10 ka11 kb11 kc11 kd11 ke11 ka12 kb12 kc12 kd12 ke12 ka13 kb13 kc13 kd13 ke13 ka14 kb14 kc14 kd14 ke14 ka15 kb15 kc15 kd15 ke15 ka16 kb16 kc16 kd16 ke16 ka17 kb17 kc17 kd17 ke17 ka18 kb18 kc18 kd18 ke18 ka19 kb19 kc19 kd19 ke19 : Option Value} {ocI kVI dcI pmI ctI ocD ccl cl1 : Value} {slI slD ccs csl : Array (Option Value)} {nD : Nat} {fvs : Array Value} {file : Str} {tf : Tok} {tk2 : Tok} {ta0 : Addr} {to0 : Option Addr} {tn0 : Nat} {ts0 : Array (Option Value)} {tz0_0 tz0_1 : Tok} {ta1 : Addr} {to1 : Option Addr} {tn1 : Nat} {ts1 : Array (Option Value)} {tz1_0 tz1_1 : Tok} (X : K.In h) (G : h.Ns mainGlobals mg) (hfa : mg "law" = some (.ref fa))
    (a0 : PySem.W.nsIn K mainGlobals "is_whole" = some (some (.ref g0)))
    (l0 : K.lookup g0 = some ⟨oc0, od0, .func (PySem.W.fnOf "is_whole" "is_whole" (defArgs s0) (defBody s0) (defScope s0) .none kV0 dc0 pm0 an0 cd0 ct0), sl0⟩)
    (c0 : PySem.W.codeIn K cd0 "is_whole" = true)
    (k0 : PySem.W.keepIn K (.ref g0) = true)
    (a1 : PySem.W.nsIn K mainGlobals "is_count" = some (some (.ref g1)))
    (l1 : K.lookup g1 = some ⟨oc1, od1, .func (PySem.W.fnOf "is_count" "is_count" (defArgs s1) (defBody s1) (defScope s1) .none kV1 dc1 pm1 an1 cd1 ct1), sl1⟩)
    (c1 : PySem.W.codeIn K cd1 "is_count" = true)
    (k1 : PySem.W.keepIn K (.ref g1) = true)
    (a2 : PySem.W.nsIn K mainGlobals "common_divisor" = some (some (.ref g2)))
    (l2 : K.lookup g2 = some ⟨oc2, od2, .func (PySem.W.fnOf "common_divisor" "common_divisor" (defArgs s2) (defBody s2) (defScope s2) .none kV2 dc2 pm2 an2 cd2 ct2), sl2⟩)
    (c2 : PySem.W.codeIn K cd2 "common_divisor" = true)
    (k2 : PySem.W.keepIn K (.ref g2) = true)
    (a3 : PySem.W.nsIn K mainGlobals "lowest" = some (some (.ref g3)))
    (l3 : K.lookup g3 = some ⟨oc3, od3, .func (PySem.W.fnOf "lowest" "lowest" (defArgs s3) (defBody s3) (defScope s3) .none kV3 dc3 pm3 an3 cd3 ct3), sl3⟩)
    (c3 : PySem.W.codeIn K cd3 "lowest" = true)
    (k3 : PySem.W.keepIn K (.ref g3) = true)
    (a4 : PySem.W.nsIn K mainGlobals "is_fraction" = some (some (.ref g4)))
    (l4 : K.lookup g4 = some ⟨oc4, od4, .func (PySem.W.fnOf "is_fraction" "is_fraction" (defArgs s4) (defBody s4) (defScope s4) .none kV4 dc4 pm4 an4 cd4 ct4), sl4⟩)
    (c4 : PySem.W.codeIn K cd4 "is_fraction" = true)
    (k4 : PySem.W.keepIn K (.ref g4) = true)
    (a5 : PySem.W.nsIn K mainGlobals "is_amount" = some (some (.ref g5)))
    (l5 : K.lookup g5 = some ⟨oc5, od5, .func (PySem.W.fnOf "is_amount" "is_amount" (defArgs s5) (defBody s5) (defScope s5) .none kV5 dc5 pm5 an5 cd5 ct5), sl5⟩)
    (c5 : PySem.W.codeIn K cd5 "is_amount" = true)
    (k5 : PySem.W.keepIn K (.ref g5) = true)
    (a6 : PySem.W.nsIn K mainGlobals "are_fractions" = some (some (.ref g6)))
    (l6 : K.lookup g6 = some ⟨oc6, od6, .func (PySem.W.fnOf "are_fractions" "are_fractions" (defArgs s6) (defBody s6) (defScope s6) .none kV6 dc6 pm6 an6 cd6 ct6), sl6⟩)
    (c6 : PySem.W.codeIn K cd6 "are_fractions" = true)
    (k6 : PySem.W.keepIn K (.ref g6) = true)
    (a7 : PySem.W.nsIn K mainGlobals "are_amounts" = some (some (.ref g7)))
    (l7 : K.lookup g7 = some ⟨oc7, od7, .func (PySem.W.fnOf "are_amounts" "are_amounts" (defArgs s7) (defBody s7) (defScope s7) .none kV7 dc7 pm7 an7 cd7 ct7), sl7⟩)
    (c7 : PySem.W.codeIn K cd7 "are_amounts" = true)
    (k7 : PySem.W.keepIn K (.ref g7) = true)
    (a8 : PySem.W.nsIn K mainGlobals "plus" = some (some (.ref g8)))
    (l8 : K.lookup g8 = some ⟨oc8, od8, .func (PySem.W.fnOf "plus" "plus" (defArgs s8) (defBody s8) (defScope s8) .none kV8 dc8 pm8 an8 cd8 ct8), sl8⟩)
    (c8 : PySem.W.codeIn K cd8 "plus" = true)
    (k8 : PySem.W.keepIn K (.ref g8) = true)
    (a9 : PySem.W.nsIn K mainGlobals "less" = some (some (.ref g9)))
    (l9 : K.lookup g9 = some ⟨oc9, od9, .func (PySem.W.fnOf "less" "less" (defArgs s9) (defBody s9) (defScope s9) .none kV9 dc9 pm9 an9 cd9 ct9), sl9⟩)
    (c9 : PySem.W.codeIn K cd9 "less" = true)
    (k9 : PySem.W.keepIn K (.ref g9) = true)
    (a10 : PySem.W.nsIn K mainGlobals "times" = some (some (.ref g10)))
    (l10 : K.lookup g10 = some ⟨oc10, od10, .func (PySem.W.fnOf "times" "times" (defArgs s10) (defBody s10) (defScope s10) .none kV10 dc10 pm10 an10 cd10 ct10), sl10⟩)
    (c10 : PySem.W.codeIn K cd10 "times" = true)
    (k10 : PySem.W.keepIn K (.ref g10) = true)
    (a11 : PySem.W.nsIn K mainGlobals "over" = some (some (.ref g11)))
    (l11 : K.lookup g11 = some ⟨oc11, od11, .func (PySem.W.fnOf "over" "over" (defArgs s11) (defBody s11) (defScope s11) .none kV11 dc11 pm11 an11 cd11 ct11), sl11⟩)
    (c11 : PySem.W.codeIn K cd11 "over" = true)
    (k11 : PySem.W.keepIn K (.ref g11) = true)
    (a12 : PySem.W.nsIn K mainGlobals "is_less" = some (some (.ref g12)))
    (l12 : K.lookup g12 = some ⟨oc12, od12, .func (PySem.W.fnOf "is_less" "is_less" (defArgs s12) (defBody s12) (defScope s12) .none kV12 dc12 pm12 an12 cd12 ct12), sl12⟩)
    (c12 : PySem.W.codeIn K cd12 "is_less" = true)
    (k12 : PySem.W.keepIn K (.ref g12) = true)
    (a13 : PySem.W.nsIn K mainGlobals "summed" = some (some (.ref g13)))
    (l13 : K.lookup g13 = some ⟨oc13, od13, .func (PySem.W.fnOf "summed" "summed" (defArgs s13) (defBody s13) (defScope s13) .none kV13 dc13 pm13 an13 cd13 ct13), sl13⟩)
    (c13 : PySem.W.codeIn K cd13 "summed" = true)
    (k13 : PySem.W.keepIn K (.ref g13) = true)
    (a14 : PySem.W.nsIn K mainGlobals "product" = some (some (.ref g14)))
    (l14 : K.lookup g14 = some ⟨oc14, od14, .func (PySem.W.fnOf "product" "product" (defArgs s14) (defBody s14) (defScope s14) .none kV14 dc14 pm14 an14 cd14 ct14), sl14⟩)
    (c14 : PySem.W.codeIn K cd14 "product" = true)
    (k14 : PySem.W.keepIn K (.ref g14) = true)
    (a15 : PySem.W.nsIn K mainGlobals "is_many" = some (some (.ref g15)))
    (l15 : K.lookup g15 = some ⟨oc15, od15, .func (PySem.W.fnOf "is_many" "is_many" (defArgs s15) (defBody s15) (defScope s15) .none kV15 dc15 pm15 an15 cd15 ct15), sl15⟩)
    (c15 : PySem.W.codeIn K cd15 "is_many" = true)
    (k15 : PySem.W.keepIn K (.ref g15) = true)
    (a16 : PySem.W.nsIn K mainGlobals "check_many" = some (some (.ref g16)))
    (l16 : K.lookup g16 = some ⟨oc16, od16, .func (PySem.W.fnOf "check_many" "check_many" (defArgs s16) (defBody s16) (defScope s16) .none kV16 dc16 pm16 an16 cd16 ct16), sl16⟩)
    (c16 : PySem.W.codeIn K cd16 "check_many" = true)
    (k16 : PySem.W.keepIn K (.ref g16) = true)
    (a17 : PySem.W.nsIn K mainGlobals "is_lot_by" = some (some (.ref g17)))
    (l17 : K.lookup g17 = some ⟨oc17, od17, .func (PySem.W.fnOf "is_lot_by" "is_lot_by" (defArgs s17) (defBody s17) (defScope s17) .none kV17 dc17 pm17 an17 cd17 ct17), sl17⟩)
    (c17 : PySem.W.codeIn K cd17 "is_lot_by" = true)
    (k17 : PySem.W.keepIn K (.ref g17) = true)
    (a18 : PySem.W.nsIn K mainGlobals "check_lot" = some (some (.ref g18)))
    (l18 : K.lookup g18 = some ⟨oc18, od18, .func (PySem.W.fnOf "check_lot" "check_lot" (defArgs s18) (defBody s18) (defScope s18) .none kV18 dc18 pm18 an18 cd18 ct18), sl18⟩)
    (c18 : PySem.W.codeIn K cd18 "check_lot" = true)
    (k18 : PySem.W.keepIn K (.ref g18) = true)
    (a19 : PySem.W.nsIn K mainGlobals "is_row_of" = some (some (.ref g19)))
    (l19 : K.lookup g19 = some ⟨oc19, od19, .func (PySem.W.fnOf "is_row_of" "is_row_of" (defArgs s19) (defBody s19) (defScope s19) .none kV19 dc19 pm19 an19 cd19 ct19), sl19⟩)
    (c19 : PySem.W.codeIn K cd19 "is_row_of" = true)
    (k19 : PySem.W.keepIn K (.ref g19) = true)
    (a20 : PySem.W.nsIn K mainGlobals "is_design_by" = some (some (.ref g20)))
    (l20 : K.lookup g20 = some ⟨oc20, od20, .func (PySem.W.fnOf "is_design_by" "is_design_by" (defArgs s20) (defBody s20) (defScope s20) .none kV20 dc20 pm20 an20 cd20 ct20), sl20⟩)
    (c20 : PySem.W.codeIn K cd20 "is_design_by" = true)
    (k20 : PySem.W.keepIn K (.ref g20) = true)
    (a21 : PySem.W.nsIn K mainGlobals "check_design" = some (some (.ref g21)))
    (l21 : K.lookup g21 = some ⟨oc21, od21, .func (PySem.W.fnOf "check_design" "check_design" (defArgs s21) (defBody s21) (defScope s21) .none kV21 dc21 pm21 an21 cd21 ct21), sl21⟩)
    (c21 : PySem.W.codeIn K cd21 "check_design" = true)
    (k21 : PySem.W.keepIn K (.ref g21) = true)
    (a22 : PySem.W.nsIn K mainGlobals "many_in" = some (some (.ref g22)))
    (l22 : K.lookup g22 = some ⟨oc22, od22, .func (PySem.W.fnOf "many_in" "many_in" (defArgs s22) (defBody s22) (defScope s22) .none kV22 dc22 pm22 an22 cd22 ct22), sl22⟩)
    (c22 : PySem.W.codeIn K cd22 "many_in" = true)
    (k22 : PySem.W.keepIn K (.ref g22) = true)
    (a23 : PySem.W.nsIn K mainGlobals "rows_in" = some (some (.ref g23)))
    (l23 : K.lookup g23 = some ⟨oc23, od23, .func (PySem.W.fnOf "rows_in" "rows_in" (defArgs s23) (defBody s23) (defScope s23) .none kV23 dc23 pm23 an23 cd23 ct23), sl23⟩)
    (c23 : PySem.W.codeIn K cd23 "rows_in" = true)
    (k23 : PySem.W.keepIn K (.ref g23) = true)
    (a24 : PySem.W.nsIn K mainGlobals "lots_sized" = some (some (.ref g24)))
    (l24 : K.lookup g24 = some ⟨oc24, od24, .func (PySem.W.fnOf "lots_sized" "lots_sized" (defArgs s24) (defBody s24) (defScope s24) .none kV24 dc24 pm24 an24 cd24 ct24), sl24⟩)
    (c24 : PySem.W.codeIn K cd24 "lots_sized" = true)
    (k24 : PySem.W.keepIn K (.ref g24) = true)
    (a25 : PySem.W.nsIn K mainGlobals "lots_of" = some (some (.ref g25)))
    (l25 : K.lookup g25 = some ⟨oc25, od25, .func (PySem.W.fnOf "lots_of" "lots_of" (defArgs s25) (defBody s25) (defScope s25) .none kV25 dc25 pm25 an25 cd25 ct25), sl25⟩)
    (c25 : PySem.W.codeIn K cd25 "lots_of" = true)
    (k25 : PySem.W.keepIn K (.ref g25) = true)
    (a26 : PySem.W.nsIn K mainGlobals "design_of" = some (some (.ref g26)))
    (l26 : K.lookup g26 = some ⟨oc26, od26, .func (PySem.W.fnOf "design_of" "design_of" (defArgs s26) (defBody s26) (defScope s26) .none kV26 dc26 pm26 an26 cd26 ct26), sl26⟩)
    (c26 : PySem.W.codeIn K cd26 "design_of" = true)
    (k26 : PySem.W.keepIn K (.ref g26) = true)
    (a27 : PySem.W.nsIn K mainGlobals "first_of" = some (some (.ref g27)))
    (l27 : K.lookup g27 = some ⟨oc27, od27, .func (PySem.W.fnOf "first_of" "first_of" (defArgs s27) (defBody s27) (defScope s27) .none kV27 dc27 pm27 an27 cd27 ct27), sl27⟩)
    (c27 : PySem.W.codeIn K cd27 "first_of" = true)
    (k27 : PySem.W.keepIn K (.ref g27) = true)
    (a28 : PySem.W.nsIn K mainGlobals "unit_chances" = some (some (.ref g28)))
    (l28 : K.lookup g28 = some ⟨oc28, od28, .func (PySem.W.fnOf "unit_chances" "unit_chances" (defArgs s28) (defBody s28) (defScope s28) .none kV28 dc28 pm28 an28 cd28 ct28), sl28⟩)
    (c28 : PySem.W.codeIn K cd28 "unit_chances" = true)
    (k28 : PySem.W.keepIn K (.ref g28) = true)
    (a29 : PySem.W.nsIn K mainGlobals "are_values_by" = some (some (.ref g29)))
    (l29 : K.lookup g29 = some ⟨oc29, od29, .func (PySem.W.fnOf "are_values_by" "are_values_by" (defArgs s29) (defBody s29) (defScope s29) .none kV29 dc29 pm29 an29 cd29 ct29), sl29⟩)
    (c29 : PySem.W.codeIn K cd29 "are_values_by" = true)
    (k29 : PySem.W.keepIn K (.ref g29) = true)
    (a30 : PySem.W.nsIn K mainGlobals "check_values" = some (some (.ref g30)))
    (l30 : K.lookup g30 = some ⟨oc30, od30, .func (PySem.W.fnOf "check_values" "check_values" (defArgs s30) (defBody s30) (defScope s30) .none kV30 dc30 pm30 an30 cd30 ct30), sl30⟩)
    (c30 : PySem.W.codeIn K cd30 "check_values" = true)
    (k30 : PySem.W.keepIn K (.ref g30) = true)
    (a31 : PySem.W.nsIn K mainGlobals "is_rule_by" = some (some (.ref g31)))
    (l31 : K.lookup g31 = some ⟨oc31, od31, .func (PySem.W.fnOf "is_rule_by" "is_rule_by" (defArgs s31) (defBody s31) (defScope s31) .none kV31 dc31 pm31 an31 cd31 ct31), sl31⟩)
    (c31 : PySem.W.codeIn K cd31 "is_rule_by" = true)
    (k31 : PySem.W.keepIn K (.ref g31) = true)
    (a32 : PySem.W.nsIn K mainGlobals "check_rule" = some (some (.ref g32)))
    (l32 : K.lookup g32 = some ⟨oc32, od32, .func (PySem.W.fnOf "check_rule" "check_rule" (defArgs s32) (defBody s32) (defScope s32) .none kV32 dc32 pm32 an32 cd32 ct32), sl32⟩)
    (c32 : PySem.W.codeIn K cd32 "check_rule" = true)
    (k32 : PySem.W.keepIn K (.ref g32) = true)
    (a33 : PySem.W.nsIn K mainGlobals "told_by" = some (some (.ref g33)))
    (l33 : K.lookup g33 = some ⟨oc33, od33, .func (PySem.W.fnOf "told_by" "told_by" (defArgs s33) (defBody s33) (defScope s33) .none kV33 dc33 pm33 an33 cd33 ct33), sl33⟩)
    (c33 : PySem.W.codeIn K cd33 "told_by" = true)
    (k33 : PySem.W.keepIn K (.ref g33) = true)
    (a34 : PySem.W.nsIn K mainGlobals "chances_of_units" = some (some (.ref g34)))
    (l34 : K.lookup g34 = some ⟨oc34, od34, .func (PySem.W.fnOf "chances_of_units" "chances_of_units" (defArgs s34) (defBody s34) (defScope s34) .none kV34 dc34 pm34 an34 cd34 ct34), sl34⟩)
    (c34 : PySem.W.codeIn K cd34 "chances_of_units" = true)
    (k34 : PySem.W.keepIn K (.ref g34) = true)
    (a35 : PySem.W.nsIn K mainGlobals "check_drawn" = some (some (.ref g35)))
    (l35 : K.lookup g35 = some ⟨oc35, od35, .func (PySem.W.fnOf "check_drawn" "check_drawn" (defArgs s35) (defBody s35) (defScope s35) .none kV35 dc35 pm35 an35 cd35 ct35), sl35⟩)
    (c35 : PySem.W.codeIn K cd35 "check_drawn" = true)
    (k35 : PySem.W.keepIn K (.ref g35) = true)
    (a36 : PySem.W.nsIn K mainGlobals "all_in" = some (some (.ref g36)))
    (l36 : K.lookup g36 = some ⟨oc36, od36, .func (PySem.W.fnOf "all_in" "all_in" (defArgs s36) (defBody s36) (defScope s36) .none kV36 dc36 pm36 an36 cd36 ct36), sl36⟩)
    (c36 : PySem.W.codeIn K cd36 "all_in" = true)
    (k36 : PySem.W.keepIn K (.ref g36) = true)
    (a37 : PySem.W.nsIn K mainGlobals "even_design" = some (some (.ref g37)))
    (l37 : K.lookup g37 = some ⟨oc37, od37, .func (PySem.W.fnOf "even_design" "even_design" (defArgs s37) (defBody s37) (defScope s37) .none kV37 dc37 pm37 an37 cd37 ct37), sl37⟩)
    (c37 : PySem.W.codeIn K cd37 "even_design" = true)
    (k37 : PySem.W.keepIn K (.ref g37) = true)
    (a38 : PySem.W.nsIn K mainGlobals "are_parts" = some (some (.ref g38)))
    (l38 : K.lookup g38 = some ⟨oc38, od38, .func (PySem.W.fnOf "are_parts" "are_parts" (defArgs s38) (defBody s38) (defScope s38) .none kV38 dc38 pm38 an38 cd38 ct38), sl38⟩)
    (c38 : PySem.W.codeIn K cd38 "are_parts" = true)
    (k38 : PySem.W.keepIn K (.ref g38) = true)
    (a39 : PySem.W.nsIn K mainGlobals "apart_design" = some (some (.ref g39)))
    (l39 : K.lookup g39 = some ⟨oc39, od39, .func (PySem.W.fnOf "apart_design" "apart_design" (defArgs s39) (defBody s39) (defScope s39) .none kV39 dc39 pm39 an39 cd39 ct39), sl39⟩)
    (c39 : PySem.W.codeIn K cd39 "apart_design" = true)
    (k39 : PySem.W.keepIn K (.ref g39) = true)
    (a40 : PySem.W.nsIn K mainGlobals "given_by" = some (some (.ref g40)))
    (l40 : K.lookup g40 = some ⟨oc40, od40, .func (PySem.W.fnOf "given_by" "given_by" (defArgs s40) (defBody s40) (defScope s40) .none kV40 dc40 pm40 an40 cd40 ct40), sl40⟩)
    (c40 : PySem.W.codeIn K cd40 "given_by" = true)
    (k40 : PySem.W.keepIn K (.ref g40) = true)
    (a41 : PySem.W.nsIn K mainGlobals "given_in" = some (some (.ref g41)))
    (l41 : K.lookup g41 = some ⟨oc41, od41, .func (PySem.W.fnOf "given_in" "given_in" (defArgs s41) (defBody s41) (defScope s41) .none kV41 dc41 pm41 an41 cd41 ct41), sl41⟩)
    (c41 : PySem.W.codeIn K cd41 "given_in" = true)
    (k41 : PySem.W.keepIn K (.ref g41) = true)
    (a42 : PySem.W.nsIn K mainGlobals "beside" = some (some (.ref g42)))
    (l42 : K.lookup g42 = some ⟨oc42, od42, .func (PySem.W.fnOf "beside" "beside" (defArgs s42) (defBody s42) (defScope s42) .none kV42 dc42 pm42 an42 cd42 ct42), sl42⟩)
    (c42 : PySem.W.codeIn K cd42 "beside" = true)
    (k42 : PySem.W.keepIn K (.ref g42) = true)
    (a43 : PySem.W.nsIn K mainGlobals "check_both" = some (some (.ref g43)))
    (l43 : K.lookup g43 = some ⟨oc43, od43, .func (PySem.W.fnOf "check_both" "check_both" (defArgs s43) (defBody s43) (defScope s43) .none kV43 dc43 pm43 an43 cd43 ct43), sl43⟩)
    (c43 : PySem.W.codeIn K cd43 "check_both" = true)
    (k43 : PySem.W.keepIn K (.ref g43) = true)
    (a44 : PySem.W.nsIn K mainGlobals "check_told" = some (some (.ref g44)))
    (l44 : K.lookup g44 = some ⟨oc44, od44, .func (PySem.W.fnOf "check_told" "check_told" (defArgs s44) (defBody s44) (defScope s44) .none kV44 dc44 pm44 an44 cd44 ct44), sl44⟩)
    (c44 : PySem.W.codeIn K cd44 "check_told" = true)
    (k44 : PySem.W.keepIn K (.ref g44) = true)
    (a45 : PySem.W.nsIn K mainGlobals "told_for" = some (some (.ref g45)))
    (l45 : K.lookup g45 = some ⟨oc45, od45, .func (PySem.W.fnOf "told_for" "told_for" (defArgs s45) (defBody s45) (defScope s45) .none kV45 dc45 pm45 an45 cd45 ct45), sl45⟩)
    (c45 : PySem.W.codeIn K cd45 "told_for" = true)
    (k45 : PySem.W.keepIn K (.ref g45) = true)
    (a46 : PySem.W.nsIn K mainGlobals "told_sums" = some (some (.ref g46)))
    (l46 : K.lookup g46 = some ⟨oc46, od46, .func (PySem.W.fnOf "told_sums" "told_sums" (defArgs s46) (defBody s46) (defScope s46) .none kV46 dc46 pm46 an46 cd46 ct46), sl46⟩)
    (c46 : PySem.W.codeIn K cd46 "told_sums" = true)
    (k46 : PySem.W.keepIn K (.ref g46) = true)
    (a47 : PySem.W.nsIn K mainGlobals "never_drawn" = some (some (.ref g47)))
    (l47 : K.lookup g47 = some ⟨oc47, od47, .func (PySem.W.fnOf "never_drawn" "never_drawn" (defArgs s47) (defBody s47) (defScope s47) .none kV47 dc47 pm47 an47 cd47 ct47), sl47⟩)
    (c47 : PySem.W.codeIn K cd47 "never_drawn" = true)
    (k47 : PySem.W.keepIn K (.ref g47) = true)
    (a48 : PySem.W.nsIn K mainGlobals "even_by" = some (some (.ref g48)))
    (l48 : K.lookup g48 = some ⟨oc48, od48, .func (PySem.W.fnOf "even_by" "even_by" (defArgs s48) (defBody s48) (defScope s48) .none kV48 dc48 pm48 an48 cd48 ct48), sl48⟩)
    (c48 : PySem.W.codeIn K cd48 "even_by" = true)
    (k48 : PySem.W.keepIn K (.ref g48) = true)
    (a49 : PySem.W.nsIn K mainGlobals "check_all_drawn" = some (some (.ref g49)))
    (l49 : K.lookup g49 = some ⟨oc49, od49, .func (PySem.W.fnOf "check_all_drawn" "check_all_drawn" (defArgs s49) (defBody s49) (defScope s49) .none kV49 dc49 pm49 an49 cd49 ct49), sl49⟩)
    (c49 : PySem.W.codeIn K cd49 "check_all_drawn" = true)
    (k49 : PySem.W.keepIn K (.ref g49) = true)
    (a50 : PySem.W.nsIn K mainGlobals "even_rule" = some (some (.ref g50)))
    (l50 : K.lookup g50 = some ⟨oc50, od50, .func (PySem.W.fnOf "even_rule" "even_rule" (defArgs s50) (defBody s50) (defScope s50) .none kV50 dc50 pm50 an50 cd50 ct50), sl50⟩)
    (c50 : PySem.W.codeIn K cd50 "even_rule" = true)
    (k50 : PySem.W.keepIn K (.ref g50) = true)
    (a51 : PySem.W.nsIn K mainGlobals "_law_hash" = some (some (.ref g51)))
    (l51 : K.lookup g51 = some ⟨oc51, od51, .func (PySem.W.fnOf "_law_hash" "_law_hash" (defArgs s51) (defBody s51) (defScope s51) .none kV51 dc51 pm51 an51 cd51 ct51), sl51⟩)
    (c51 : PySem.W.codeIn K cd51 "_law_hash" = true)
    (k51 : PySem.W.keepIn K (.ref g51) = true)
    (a52 : PySem.W.nsIn K mainGlobals "_law_random" = some (some (.ref g52)))
    (l52 : K.lookup g52 = some ⟨oc52, od52, .func (PySem.W.fnOf "_law_random" "_law_random" (defArgs s52) (defBody s52) (defScope s52) .none kV52 dc52 pm52 an52 cd52 ct52), sl52⟩)
    (c52 : PySem.W.codeIn K cd52 "_law_random" = true)
    (k52 : PySem.W.keepIn K (.ref g52) = true)
    (a53 : PySem.W.nsIn K mainGlobals "_law_cell" = some (some (.ref g53)))
    (l53 : K.lookup g53 = some ⟨oc53, od53, .func (PySem.W.fnOf "_law_cell" "_law_cell" (defArgs s53) (defBody s53) (defScope s53) .none kV53 dc53 pm53 an53 cd53 ct53), sl53⟩)
    (c53 : PySem.W.codeIn K cd53 "_law_cell" = true)
    (k53 : PySem.W.keepIn K (.ref g53) = true)
    (a54 : PySem.W.nsIn K mainGlobals "_law_generator" = some (some (.ref g54)))
    (l54 : K.lookup g54 = some ⟨oc54, od54, .func (PySem.W.fnOf "_law_generator" "_law_generator" (defArgs s54) (defBody s54) (defScope s54) .none kV54 dc54 pm54 an54 cd54 ct54), sl54⟩)
    (c54 : PySem.W.codeIn K cd54 "_law_generator" = true)
    (k54 : PySem.W.keepIn K (.ref g54) = true)
    (a55 : PySem.W.nsIn K mainGlobals "_law_pick" = some (some (.ref g55)))
    (l55 : K.lookup g55 = some ⟨oc55, od55, .func (PySem.W.fnOf "_law_pick" "_law_pick" (defArgs s55) (defBody s55) (defScope s55) .none kV55 dc55 pm55 an55 cd55 ct55), sl55⟩)
    (c55 : PySem.W.codeIn K cd55 "_law_pick" = true)
    (k55 : PySem.W.keepIn K (.ref g55) = true)
    (a56 : PySem.W.nsIn K mainGlobals "_law_made" = some (some (.ref g56)))
    (l56 : K.lookup g56 = some ⟨oc56, od56, .func (PySem.W.fnOf "_law_made" "_law_made" (defArgs s56) (defBody s56) (defScope s56) .none kV56 dc56 pm56 an56 cd56 ct56), sl56⟩)
    (c56 : PySem.W.codeIn K cd56 "_law_made" = true)
    (k56 : PySem.W.keepIn K (.ref g56) = true)
    (a57 : PySem.W.nsIn K mainGlobals "_law_kinds" = some (some (.ref g57)))
    (l57 : K.lookup g57 = some ⟨oc57, od57, .func (PySem.W.fnOf "_law_kinds" "_law_kinds" (defArgs s57) (defBody s57) (defScope s57) .none kV57 dc57 pm57 an57 cd57 ct57), sl57⟩)
    (c57 : PySem.W.codeIn K cd57 "_law_kinds" = true)
    (k57 : PySem.W.keepIn K (.ref g57) = true)
    (a58 : PySem.W.nsIn K mainGlobals "_law_raised" = some (some (.ref g58)))
    (l58 : K.lookup g58 = some ⟨oc58, od58, .func (PySem.W.fnOf "_law_raised" "_law_raised" (defArgs s58) (defBody s58) (defScope s58) .none kV58 dc58 pm58 an58 cd58 ct58), sl58⟩)
    (c58 : PySem.W.codeIn K cd58 "_law_raised" = true)
    (k58 : PySem.W.keepIn K (.ref g58) = true)
    (a59 : PySem.W.nsIn K mainGlobals "law" = some (some (.ref g59)))
    (l59 : K.lookup g59 = some ⟨oc59, od59, .func (PySem.W.fnOf "law" "law" (defArgs s59) (defBody s59) (defScope s59) .none kV59 dc59 pm59 an59 cd59 ct59), sl59⟩)
    (c59 : PySem.W.codeIn K cd59 "law" = true)
    (k59 : PySem.W.keepIn K (.ref g59) = true)
    (b0 : PySem.W.nsIn K mainGlobals "DrawError" = some (some (.ref C0)))
    (x0 : K.lookup C0 = some (excClassObj nm0 qn0 C0 N0 bs0 [.type "ValueError", .type "Exception", .type "BaseException", .type "object"] true sn0 sb0 ab0 co0 dd0 ka0 kb0 kc0 kd0 ke0 "ValueError.__new__"))
    (y0sa : PySem.W.findIn K (.ref C0) "__setattr__" = some (some (.builtin "object.__setattr__")))
    (y0eb : PySem.W.subIn K (.ref C0) (.type "BaseException") = some true)
    (y0ty : PySem.W.typeIn K (.ref C0) = some (.type "type"))
    (y0kp : PySem.W.keepIn K (.ref C0) = true)
    (y0cl : PySem.W.isClsIn K C0 = true)
    (y0ga : PySem.W.findIn K (.ref C0) "__getattribute__" = some (some (.builtin "BaseException.__getattribute__")))
    (y0gt : PySem.W.findIn K (.ref C0) "__getattr__" = some none)
    (y0hd : PySem.W.hasDictIn K C0 = true)
    (y0ac : PySem.W.findIn K (.ref C0) "__class__" = some (some (.builtin "object.__class__")))
    (y0sp : PySem.W.specialIn K (.builtin "object.__class__") "__get__" = some (some (.builtin "getset_descriptor.__get__")))
    (y0tk : PySem.W.takesIn K (.builtin "object.__class__") = some true)
    (y0mr : PySem.W.mroIn K C0 (.type "object") = some true)
    (y0no : PySem.W.findIn K (.ref C0) "value" = some none)
    (y0mz : PySem.W.mroIn K C0 (.ref C0) = some true)
    (y0ve : PySem.W.subIn K (.ref C0) (.type "ValueError") = some true)
    (y0ii : PySem.W.findIn K (.ref C0) "__init__" = some (some (.ref gI)))
    (y0s0 : PySem.W.subIn K (.ref C0) (.ref C0) = some true)
    (y0kv : PySem.W.subIn K (.ref C0) (.type "ValueError") = some true)
    (y0p0 : PySem.W.subIn K (.type "NoneType") (.ref C0) = some false)
    (y0p1 : PySem.W.subIn K (.type "bool") (.ref C0) = some false)
    (y0p2 : PySem.W.subIn K (.type "int") (.ref C0) = some false)
    (y0p3 : PySem.W.subIn K (.type "str") (.ref C0) = some false)
    (y0p4 : PySem.W.subIn K (.type "list") (.ref C0) = some false)
    (y0p5 : PySem.W.subIn K (.type "tuple") (.ref C0) = some false)
    (y0p6 : PySem.W.subIn K (.type "dict") (.ref C0) = some false)
    (y0q0 : PySem.W.subIn K (.ref C0) (.type "NoneType") = some false)
    (y0q1 : PySem.W.subIn K (.ref C0) (.type "bool") = some false)
    (y0q2 : PySem.W.subIn K (.ref C0) (.type "int") = some false)
    (y0q3 : PySem.W.subIn K (.ref C0) (.type "str") = some false)
    (y0q4 : PySem.W.subIn K (.ref C0) (.type "list") = some false)
    (y0q5 : PySem.W.subIn K (.ref C0) (.type "tuple") = some false)
    (y0q6 : PySem.W.subIn K (.ref C0) (.type "dict") = some false)
    (y0i0 : PySem.W.subIn K (.ref C0) (.ref C0) = some true)
    (y0i1 : PySem.W.subIn K (.ref C0) (.ref C1) = some false)
    (y0i2 : PySem.W.subIn K (.ref C0) (.ref C2) = some false)
    (y0i3 : PySem.W.subIn K (.ref C0) (.ref C3) = some false)
    (y0i4 : PySem.W.subIn K (.ref C0) (.ref C4) = some false)
    (y0i5 : PySem.W.subIn K (.ref C0) (.ref C5) = some false)
    (y0i6 : PySem.W.subIn K (.ref C0) (.ref C6) = some false)
    (y0i7 : PySem.W.subIn K (.ref C0) (.ref C7) = some false)
    (y0i8 : PySem.W.subIn K (.ref C0) (.ref C8) = some false)
    (y0i9 : PySem.W.subIn K (.ref C0) (.ref C9) = some false)
    (y0i10 : PySem.W.subIn K (.ref C0) (.ref C10) = some false)
    (y0i11 : PySem.W.subIn K (.ref C0) (.ref C11) = some false)
    (y0i12 : PySem.W.subIn K (.ref C0) (.ref C12) = some false)
    (y0i13 : PySem.W.subIn K (.ref C0) (.ref C13) = some false)
    (y0i14 : PySem.W.subIn K (.ref C0) (.ref C14) = some false)
    (y0i15 : PySem.W.subIn K (.ref C0) (.ref C15) = some false)
    (y0i16 : PySem.W.subIn K (.ref C0) (.ref C16) = some false)
    (y0i17 : PySem.W.subIn K (.ref C0) (.ref C17) = some false)
    (y0i18 : PySem.W.subIn K (.ref C0) (.ref C18) = some false)
    (y0i19 : PySem.W.subIn K (.ref C0) (.ref C19) = some false)
    (b1 : PySem.W.nsIn K mainGlobals "InvalidDesign" = some (some (.ref C1)))
    (x1 : K.lookup C1 = some (excClassObj nm1 qn1 C1 N1 bs1 [.ref C0, .type "ValueError", .type "Exception", .type "BaseException", .type "object"] true sn1 sb1 ab1 co1 dd1 ka1 kb1 kc1 kd1 ke1 "ValueError.__new__"))
    (y1sa : PySem.W.findIn K (.ref C1) "__setattr__" = some (some (.builtin "object.__setattr__")))
    (y1eb : PySem.W.subIn K (.ref C1) (.type "BaseException") = some true)
    (y1ty : PySem.W.typeIn K (.ref C1) = some (.type "type"))
    (y1kp : PySem.W.keepIn K (.ref C1) = true)
    (y1cl : PySem.W.isClsIn K C1 = true)
    (y1ga : PySem.W.findIn K (.ref C1) "__getattribute__" = some (some (.builtin "BaseException.__getattribute__")))
    (y1gt : PySem.W.findIn K (.ref C1) "__getattr__" = some none)
    (y1hd : PySem.W.hasDictIn K C1 = true)
    (y1ac : PySem.W.findIn K (.ref C1) "__class__" = some (some (.builtin "object.__class__")))
    (y1sp : PySem.W.specialIn K (.builtin "object.__class__") "__get__" = some (some (.builtin "getset_descriptor.__get__")))
    (y1tk : PySem.W.takesIn K (.builtin "object.__class__") = some true)
    (y1mr : PySem.W.mroIn K C1 (.type "object") = some true)
    (y1no : PySem.W.findIn K (.ref C1) "value" = some none)
    (y1mz : PySem.W.mroIn K C1 (.ref C0) = some true)
    (y1ve : PySem.W.subIn K (.ref C1) (.type "ValueError") = some true)
    (y1ii : PySem.W.findIn K (.ref C1) "__init__" = some (some (.ref gI)))
    (y1s0 : PySem.W.subIn K (.ref C1) (.ref C0) = some true)
    (y1kv : PySem.W.subIn K (.ref C1) (.type "ValueError") = some true)
    (y1p0 : PySem.W.subIn K (.type "NoneType") (.ref C1) = some false)
    (y1p1 : PySem.W.subIn K (.type "bool") (.ref C1) = some false)
    (y1p2 : PySem.W.subIn K (.type "int") (.ref C1) = some false)
    (y1p3 : PySem.W.subIn K (.type "str") (.ref C1) = some false)
    (y1p4 : PySem.W.subIn K (.type "list") (.ref C1) = some false)
    (y1p5 : PySem.W.subIn K (.type "tuple") (.ref C1) = some false)
    (y1p6 : PySem.W.subIn K (.type "dict") (.ref C1) = some false)
    (y1q0 : PySem.W.subIn K (.ref C1) (.type "NoneType") = some false)
    (y1q1 : PySem.W.subIn K (.ref C1) (.type "bool") = some false)
    (y1q2 : PySem.W.subIn K (.ref C1) (.type "int") = some false)
    (y1q3 : PySem.W.subIn K (.ref C1) (.type "str") = some false)
    (y1q4 : PySem.W.subIn K (.ref C1) (.type "list") = some false)
    (y1q5 : PySem.W.subIn K (.ref C1) (.type "tuple") = some false)
    (y1q6 : PySem.W.subIn K (.ref C1) (.type "dict") = some false)
    (y1i0 : PySem.W.subIn K (.ref C1) (.ref C0) = some true)
    (y1i1 : PySem.W.subIn K (.ref C1) (.ref C1) = some true)
    (y1i2 : PySem.W.subIn K (.ref C1) (.ref C2) = some false)
    (y1i3 : PySem.W.subIn K (.ref C1) (.ref C3) = some false)
    (y1i4 : PySem.W.subIn K (.ref C1) (.ref C4) = some false)
    (y1i5 : PySem.W.subIn K (.ref C1) (.ref C5) = some false)
    (y1i6 : PySem.W.subIn K (.ref C1) (.ref C6) = some false)
    (y1i7 : PySem.W.subIn K (.ref C1) (.ref C7) = some false)
    (y1i8 : PySem.W.subIn K (.ref C1) (.ref C8) = some false)
    (y1i9 : PySem.W.subIn K (.ref C1) (.ref C9) = some false)
    (y1i10 : PySem.W.subIn K (.ref C1) (.ref C10) = some false)
    (y1i11 : PySem.W.subIn K (.ref C1) (.ref C11) = some false)
    (y1i12 : PySem.W.subIn K (.ref C1) (.ref C12) = some false)
    (y1i13 : PySem.W.subIn K (.ref C1) (.ref C13) = some false)
    (y1i14 : PySem.W.subIn K (.ref C1) (.ref C14) = some false)
    (y1i15 : PySem.W.subIn K (.ref C1) (.ref C15) = some false)
    (y1i16 : PySem.W.subIn K (.ref C1) (.ref C16) = some false)
    (y1i17 : PySem.W.subIn K (.ref C1) (.ref C17) = some false)
    (y1i18 : PySem.W.subIn K (.ref C1) (.ref C18) = some false)
    (y1i19 : PySem.W.subIn K (.ref C1) (.ref C19) = some false)
    (b2 : PySem.W.nsIn K mainGlobals "InvalidUnit" = some (some (.ref C2)))
    (x2 : K.lookup C2 = some (excClassObj nm2 qn2 C2 N2 bs2 [.ref C0, .type "ValueError", .type "Exception", .type "BaseException", .type "object"] true sn2 sb2 ab2 co2 dd2 ka2 kb2 kc2 kd2 ke2 "ValueError.__new__"))
    (y2sa : PySem.W.findIn K (.ref C2) "__setattr__" = some (some (.builtin "object.__setattr__")))
    (y2eb : PySem.W.subIn K (.ref C2) (.type "BaseException") = some true)
    (y2ty : PySem.W.typeIn K (.ref C2) = some (.type "type"))
    (y2kp : PySem.W.keepIn K (.ref C2) = true)
    (y2cl : PySem.W.isClsIn K C2 = true)
    (y2ga : PySem.W.findIn K (.ref C2) "__getattribute__" = some (some (.builtin "BaseException.__getattribute__")))
    (y2gt : PySem.W.findIn K (.ref C2) "__getattr__" = some none)
    (y2hd : PySem.W.hasDictIn K C2 = true)
    (y2ac : PySem.W.findIn K (.ref C2) "__class__" = some (some (.builtin "object.__class__")))
    (y2sp : PySem.W.specialIn K (.builtin "object.__class__") "__get__" = some (some (.builtin "getset_descriptor.__get__")))
    (y2tk : PySem.W.takesIn K (.builtin "object.__class__") = some true)
    (y2mr : PySem.W.mroIn K C2 (.type "object") = some true)
    (y2no : PySem.W.findIn K (.ref C2) "value" = some none)
    (y2mz : PySem.W.mroIn K C2 (.ref C0) = some true)
    (y2ve : PySem.W.subIn K (.ref C2) (.type "ValueError") = some true)
    (y2ii : PySem.W.findIn K (.ref C2) "__init__" = some (some (.ref gI)))
    (y2s0 : PySem.W.subIn K (.ref C2) (.ref C0) = some true)
    (y2kv : PySem.W.subIn K (.ref C2) (.type "ValueError") = some true)
    (y2p0 : PySem.W.subIn K (.type "NoneType") (.ref C2) = some false)
    (y2p1 : PySem.W.subIn K (.type "bool") (.ref C2) = some false)
    (y2p2 : PySem.W.subIn K (.type "int") (.ref C2) = some false)
    (y2p3 : PySem.W.subIn K (.type "str") (.ref C2) = some false)
    (y2p4 : PySem.W.subIn K (.type "list") (.ref C2) = some false)
    (y2p5 : PySem.W.subIn K (.type "tuple") (.ref C2) = some false)
    (y2p6 : PySem.W.subIn K (.type "dict") (.ref C2) = some false)
    (y2q0 : PySem.W.subIn K (.ref C2) (.type "NoneType") = some false)
    (y2q1 : PySem.W.subIn K (.ref C2) (.type "bool") = some false)
    (y2q2 : PySem.W.subIn K (.ref C2) (.type "int") = some false)
    (y2q3 : PySem.W.subIn K (.ref C2) (.type "str") = some false)
    (y2q4 : PySem.W.subIn K (.ref C2) (.type "list") = some false)
    (y2q5 : PySem.W.subIn K (.ref C2) (.type "tuple") = some false)
    (y2q6 : PySem.W.subIn K (.ref C2) (.type "dict") = some false)
    (y2i0 : PySem.W.subIn K (.ref C2) (.ref C0) = some true)
    (y2i1 : PySem.W.subIn K (.ref C2) (.ref C1) = some false)
    (y2i2 : PySem.W.subIn K (.ref C2) (.ref C2) = some true)
    (y2i3 : PySem.W.subIn K (.ref C2) (.ref C3) = some false)
    (y2i4 : PySem.W.subIn K (.ref C2) (.ref C4) = some false)
    (y2i5 : PySem.W.subIn K (.ref C2) (.ref C5) = some false)
    (y2i6 : PySem.W.subIn K (.ref C2) (.ref C6) = some false)
    (y2i7 : PySem.W.subIn K (.ref C2) (.ref C7) = some false)
    (y2i8 : PySem.W.subIn K (.ref C2) (.ref C8) = some false)
    (y2i9 : PySem.W.subIn K (.ref C2) (.ref C9) = some false)
    (y2i10 : PySem.W.subIn K (.ref C2) (.ref C10) = some false)
    (y2i11 : PySem.W.subIn K (.ref C2) (.ref C11) = some false)
    (y2i12 : PySem.W.subIn K (.ref C2) (.ref C12) = some false)
    (y2i13 : PySem.W.subIn K (.ref C2) (.ref C13) = some false)
    (y2i14 : PySem.W.subIn K (.ref C2) (.ref C14) = some false)
    (y2i15 : PySem.W.subIn K (.ref C2) (.ref C15) = some false)
    (y2i16 : PySem.W.subIn K (.ref C2) (.ref C16) = some false)
    (y2i17 : PySem.W.subIn K (.ref C2) (.ref C17) = some false)
    (y2i18 : PySem.W.subIn K (.ref C2) (.ref C18) = some false)
    (y2i19 : PySem.W.subIn K (.ref C2) (.ref C19) = some false)
    (b3 : PySem.W.nsIn K mainGlobals "InvalidLot" = some (some (.ref C3)))
    (x3 : K.lookup C3 = some (excClassObj nm3 qn3 C3 N3 bs3 [.ref C0, .type "ValueError", .type "Exception", .type "BaseException", .type "object"] true sn3 sb3 ab3 co3 dd3 ka3 kb3 kc3 kd3 ke3 "ValueError.__new__"))
    (y3sa : PySem.W.findIn K (.ref C3) "__setattr__" = some (some (.builtin "object.__setattr__")))
    (y3eb : PySem.W.subIn K (.ref C3) (.type "BaseException") = some true)
    (y3ty : PySem.W.typeIn K (.ref C3) = some (.type "type"))
    (y3kp : PySem.W.keepIn K (.ref C3) = true)
    (y3cl : PySem.W.isClsIn K C3 = true)
    (y3ga : PySem.W.findIn K (.ref C3) "__getattribute__" = some (some (.builtin "BaseException.__getattribute__")))
    (y3gt : PySem.W.findIn K (.ref C3) "__getattr__" = some none)
    (y3hd : PySem.W.hasDictIn K C3 = true)
    (y3ac : PySem.W.findIn K (.ref C3) "__class__" = some (some (.builtin "object.__class__")))
    (y3sp : PySem.W.specialIn K (.builtin "object.__class__") "__get__" = some (some (.builtin "getset_descriptor.__get__")))
    (y3tk : PySem.W.takesIn K (.builtin "object.__class__") = some true)
    (y3mr : PySem.W.mroIn K C3 (.type "object") = some true)
    (y3no : PySem.W.findIn K (.ref C3) "value" = some none)
    (y3mz : PySem.W.mroIn K C3 (.ref C0) = some true)
    (y3ve : PySem.W.subIn K (.ref C3) (.type "ValueError") = some true)
    (y3ii : PySem.W.findIn K (.ref C3) "__init__" = some (some (.ref gI)))
    (y3s0 : PySem.W.subIn K (.ref C3) (.ref C0) = some true)
    (y3kv : PySem.W.subIn K (.ref C3) (.type "ValueError") = some true)
    (y3p0 : PySem.W.subIn K (.type "NoneType") (.ref C3) = some false)
    (y3p1 : PySem.W.subIn K (.type "bool") (.ref C3) = some false)
    (y3p2 : PySem.W.subIn K (.type "int") (.ref C3) = some false)
    (y3p3 : PySem.W.subIn K (.type "str") (.ref C3) = some false)
    (y3p4 : PySem.W.subIn K (.type "list") (.ref C3) = some false)
    (y3p5 : PySem.W.subIn K (.type "tuple") (.ref C3) = some false)
    (y3p6 : PySem.W.subIn K (.type "dict") (.ref C3) = some false)
    (y3q0 : PySem.W.subIn K (.ref C3) (.type "NoneType") = some false)
    (y3q1 : PySem.W.subIn K (.ref C3) (.type "bool") = some false)
    (y3q2 : PySem.W.subIn K (.ref C3) (.type "int") = some false)
    (y3q3 : PySem.W.subIn K (.ref C3) (.type "str") = some false)
    (y3q4 : PySem.W.subIn K (.ref C3) (.type "list") = some false)
    (y3q5 : PySem.W.subIn K (.ref C3) (.type "tuple") = some false)
    (y3q6 : PySem.W.subIn K (.ref C3) (.type "dict") = some false)
    (y3i0 : PySem.W.subIn K (.ref C3) (.ref C0) = some true)
    (y3i1 : PySem.W.subIn K (.ref C3) (.ref C1) = some false)
    (y3i2 : PySem.W.subIn K (.ref C3) (.ref C2) = some false)
    (y3i3 : PySem.W.subIn K (.ref C3) (.ref C3) = some true)
    (y3i4 : PySem.W.subIn K (.ref C3) (.ref C4) = some false)
    (y3i5 : PySem.W.subIn K (.ref C3) (.ref C5) = some false)
    (y3i6 : PySem.W.subIn K (.ref C3) (.ref C6) = some false)
    (y3i7 : PySem.W.subIn K (.ref C3) (.ref C7) = some false)
    (y3i8 : PySem.W.subIn K (.ref C3) (.ref C8) = some false)
    (y3i9 : PySem.W.subIn K (.ref C3) (.ref C9) = some false)
    (y3i10 : PySem.W.subIn K (.ref C3) (.ref C10) = some false)
    (y3i11 : PySem.W.subIn K (.ref C3) (.ref C11) = some false)
    (y3i12 : PySem.W.subIn K (.ref C3) (.ref C12) = some false)
    (y3i13 : PySem.W.subIn K (.ref C3) (.ref C13) = some false)
    (y3i14 : PySem.W.subIn K (.ref C3) (.ref C14) = some false)
    (y3i15 : PySem.W.subIn K (.ref C3) (.ref C15) = some false)
    (y3i16 : PySem.W.subIn K (.ref C3) (.ref C16) = some false)
    (y3i17 : PySem.W.subIn K (.ref C3) (.ref C17) = some false)
    (y3i18 : PySem.W.subIn K (.ref C3) (.ref C18) = some false)
    (y3i19 : PySem.W.subIn K (.ref C3) (.ref C19) = some false)
    (b4 : PySem.W.nsIn K mainGlobals "InvalidValues" = some (some (.ref C4)))
    (x4 : K.lookup C4 = some (excClassObj nm4 qn4 C4 N4 bs4 [.ref C0, .type "ValueError", .type "Exception", .type "BaseException", .type "object"] true sn4 sb4 ab4 co4 dd4 ka4 kb4 kc4 kd4 ke4 "ValueError.__new__"))
    (y4sa : PySem.W.findIn K (.ref C4) "__setattr__" = some (some (.builtin "object.__setattr__")))
    (y4eb : PySem.W.subIn K (.ref C4) (.type "BaseException") = some true)
    (y4ty : PySem.W.typeIn K (.ref C4) = some (.type "type"))
    (y4kp : PySem.W.keepIn K (.ref C4) = true)
    (y4cl : PySem.W.isClsIn K C4 = true)
    (y4ga : PySem.W.findIn K (.ref C4) "__getattribute__" = some (some (.builtin "BaseException.__getattribute__")))
    (y4gt : PySem.W.findIn K (.ref C4) "__getattr__" = some none)
    (y4hd : PySem.W.hasDictIn K C4 = true)
    (y4ac : PySem.W.findIn K (.ref C4) "__class__" = some (some (.builtin "object.__class__")))
    (y4sp : PySem.W.specialIn K (.builtin "object.__class__") "__get__" = some (some (.builtin "getset_descriptor.__get__")))
    (y4tk : PySem.W.takesIn K (.builtin "object.__class__") = some true)
    (y4mr : PySem.W.mroIn K C4 (.type "object") = some true)
    (y4no : PySem.W.findIn K (.ref C4) "value" = some none)
    (y4mz : PySem.W.mroIn K C4 (.ref C0) = some true)
    (y4ve : PySem.W.subIn K (.ref C4) (.type "ValueError") = some true)
    (y4ii : PySem.W.findIn K (.ref C4) "__init__" = some (some (.ref gI)))
    (y4s0 : PySem.W.subIn K (.ref C4) (.ref C0) = some true)
    (y4kv : PySem.W.subIn K (.ref C4) (.type "ValueError") = some true)
    (y4p0 : PySem.W.subIn K (.type "NoneType") (.ref C4) = some false)
    (y4p1 : PySem.W.subIn K (.type "bool") (.ref C4) = some false)
    (y4p2 : PySem.W.subIn K (.type "int") (.ref C4) = some false)
    (y4p3 : PySem.W.subIn K (.type "str") (.ref C4) = some false)
    (y4p4 : PySem.W.subIn K (.type "list") (.ref C4) = some false)
    (y4p5 : PySem.W.subIn K (.type "tuple") (.ref C4) = some false)
    (y4p6 : PySem.W.subIn K (.type "dict") (.ref C4) = some false)
    (y4q0 : PySem.W.subIn K (.ref C4) (.type "NoneType") = some false)
    (y4q1 : PySem.W.subIn K (.ref C4) (.type "bool") = some false)
    (y4q2 : PySem.W.subIn K (.ref C4) (.type "int") = some false)
    (y4q3 : PySem.W.subIn K (.ref C4) (.type "str") = some false)
    (y4q4 : PySem.W.subIn K (.ref C4) (.type "list") = some false)
    (y4q5 : PySem.W.subIn K (.ref C4) (.type "tuple") = some false)
    (y4q6 : PySem.W.subIn K (.ref C4) (.type "dict") = some false)
    (y4i0 : PySem.W.subIn K (.ref C4) (.ref C0) = some true)
    (y4i1 : PySem.W.subIn K (.ref C4) (.ref C1) = some false)
    (y4i2 : PySem.W.subIn K (.ref C4) (.ref C2) = some false)
    (y4i3 : PySem.W.subIn K (.ref C4) (.ref C3) = some false)
    (y4i4 : PySem.W.subIn K (.ref C4) (.ref C4) = some true)
    (y4i5 : PySem.W.subIn K (.ref C4) (.ref C5) = some false)
    (y4i6 : PySem.W.subIn K (.ref C4) (.ref C6) = some false)
    (y4i7 : PySem.W.subIn K (.ref C4) (.ref C7) = some false)
    (y4i8 : PySem.W.subIn K (.ref C4) (.ref C8) = some false)
    (y4i9 : PySem.W.subIn K (.ref C4) (.ref C9) = some false)
    (y4i10 : PySem.W.subIn K (.ref C4) (.ref C10) = some false)
    (y4i11 : PySem.W.subIn K (.ref C4) (.ref C11) = some false)
    (y4i12 : PySem.W.subIn K (.ref C4) (.ref C12) = some false)
    (y4i13 : PySem.W.subIn K (.ref C4) (.ref C13) = some false)
    (y4i14 : PySem.W.subIn K (.ref C4) (.ref C14) = some false)
    (y4i15 : PySem.W.subIn K (.ref C4) (.ref C15) = some false)
    (y4i16 : PySem.W.subIn K (.ref C4) (.ref C16) = some false)
    (y4i17 : PySem.W.subIn K (.ref C4) (.ref C17) = some false)
    (y4i18 : PySem.W.subIn K (.ref C4) (.ref C18) = some false)
    (y4i19 : PySem.W.subIn K (.ref C4) (.ref C19) = some false)
    (b5 : PySem.W.nsIn K mainGlobals "InvalidChances" = some (some (.ref C5)))
    (x5 : K.lookup C5 = some (excClassObj nm5 qn5 C5 N5 bs5 [.ref C0, .type "ValueError", .type "Exception", .type "BaseException", .type "object"] true sn5 sb5 ab5 co5 dd5 ka5 kb5 kc5 kd5 ke5 "ValueError.__new__"))
    (y5sa : PySem.W.findIn K (.ref C5) "__setattr__" = some (some (.builtin "object.__setattr__")))
    (y5eb : PySem.W.subIn K (.ref C5) (.type "BaseException") = some true)
    (y5ty : PySem.W.typeIn K (.ref C5) = some (.type "type"))
    (y5kp : PySem.W.keepIn K (.ref C5) = true)
    (y5cl : PySem.W.isClsIn K C5 = true)
    (y5ga : PySem.W.findIn K (.ref C5) "__getattribute__" = some (some (.builtin "BaseException.__getattribute__")))
    (y5gt : PySem.W.findIn K (.ref C5) "__getattr__" = some none)
    (y5hd : PySem.W.hasDictIn K C5 = true)
    (y5ac : PySem.W.findIn K (.ref C5) "__class__" = some (some (.builtin "object.__class__")))
    (y5sp : PySem.W.specialIn K (.builtin "object.__class__") "__get__" = some (some (.builtin "getset_descriptor.__get__")))
    (y5tk : PySem.W.takesIn K (.builtin "object.__class__") = some true)
    (y5mr : PySem.W.mroIn K C5 (.type "object") = some true)
    (y5no : PySem.W.findIn K (.ref C5) "value" = some none)
    (y5mz : PySem.W.mroIn K C5 (.ref C0) = some true)
    (y5ve : PySem.W.subIn K (.ref C5) (.type "ValueError") = some true)
    (y5ii : PySem.W.findIn K (.ref C5) "__init__" = some (some (.ref gI)))
    (y5s0 : PySem.W.subIn K (.ref C5) (.ref C0) = some true)
    (y5kv : PySem.W.subIn K (.ref C5) (.type "ValueError") = some true)
    (y5p0 : PySem.W.subIn K (.type "NoneType") (.ref C5) = some false)
    (y5p1 : PySem.W.subIn K (.type "bool") (.ref C5) = some false)
    (y5p2 : PySem.W.subIn K (.type "int") (.ref C5) = some false)
    (y5p3 : PySem.W.subIn K (.type "str") (.ref C5) = some false)
    (y5p4 : PySem.W.subIn K (.type "list") (.ref C5) = some false)
    (y5p5 : PySem.W.subIn K (.type "tuple") (.ref C5) = some false)
    (y5p6 : PySem.W.subIn K (.type "dict") (.ref C5) = some false)
    (y5q0 : PySem.W.subIn K (.ref C5) (.type "NoneType") = some false)
    (y5q1 : PySem.W.subIn K (.ref C5) (.type "bool") = some false)
    (y5q2 : PySem.W.subIn K (.ref C5) (.type "int") = some false)
    (y5q3 : PySem.W.subIn K (.ref C5) (.type "str") = some false)
    (y5q4 : PySem.W.subIn K (.ref C5) (.type "list") = some false)
    (y5q5 : PySem.W.subIn K (.ref C5) (.type "tuple") = some false)
    (y5q6 : PySem.W.subIn K (.ref C5) (.type "dict") = some false)
    (y5i0 : PySem.W.subIn K (.ref C5) (.ref C0) = some true)
    (y5i1 : PySem.W.subIn K (.ref C5) (.ref C1) = some false)
    (y5i2 : PySem.W.subIn K (.ref C5) (.ref C2) = some false)
    (y5i3 : PySem.W.subIn K (.ref C5) (.ref C3) = some false)
    (y5i4 : PySem.W.subIn K (.ref C5) (.ref C4) = some false)
    (y5i5 : PySem.W.subIn K (.ref C5) (.ref C5) = some true)
    (y5i6 : PySem.W.subIn K (.ref C5) (.ref C6) = some false)
    (y5i7 : PySem.W.subIn K (.ref C5) (.ref C7) = some false)
    (y5i8 : PySem.W.subIn K (.ref C5) (.ref C8) = some false)
    (y5i9 : PySem.W.subIn K (.ref C5) (.ref C9) = some false)
    (y5i10 : PySem.W.subIn K (.ref C5) (.ref C10) = some false)
    (y5i11 : PySem.W.subIn K (.ref C5) (.ref C11) = some false)
    (y5i12 : PySem.W.subIn K (.ref C5) (.ref C12) = some false)
    (y5i13 : PySem.W.subIn K (.ref C5) (.ref C13) = some false)
    (y5i14 : PySem.W.subIn K (.ref C5) (.ref C14) = some false)
    (y5i15 : PySem.W.subIn K (.ref C5) (.ref C15) = some false)
    (y5i16 : PySem.W.subIn K (.ref C5) (.ref C16) = some false)
    (y5i17 : PySem.W.subIn K (.ref C5) (.ref C17) = some false)
    (y5i18 : PySem.W.subIn K (.ref C5) (.ref C18) = some false)
    (y5i19 : PySem.W.subIn K (.ref C5) (.ref C19) = some false)
    (b6 : PySem.W.nsIn K mainGlobals "InvalidPairs" = some (some (.ref C6)))
    (x6 : K.lookup C6 = some (excClassObj nm6 qn6 C6 N6 bs6 [.ref C0, .type "ValueError", .type "Exception", .type "BaseException", .type "object"] true sn6 sb6 ab6 co6 dd6 ka6 kb6 kc6 kd6 ke6 "ValueError.__new__"))
    (y6sa : PySem.W.findIn K (.ref C6) "__setattr__" = some (some (.builtin "object.__setattr__")))
    (y6eb : PySem.W.subIn K (.ref C6) (.type "BaseException") = some true)
    (y6ty : PySem.W.typeIn K (.ref C6) = some (.type "type"))
    (y6kp : PySem.W.keepIn K (.ref C6) = true)
    (y6cl : PySem.W.isClsIn K C6 = true)
    (y6ga : PySem.W.findIn K (.ref C6) "__getattribute__" = some (some (.builtin "BaseException.__getattribute__")))
    (y6gt : PySem.W.findIn K (.ref C6) "__getattr__" = some none)
    (y6hd : PySem.W.hasDictIn K C6 = true)
    (y6ac : PySem.W.findIn K (.ref C6) "__class__" = some (some (.builtin "object.__class__")))
    (y6sp : PySem.W.specialIn K (.builtin "object.__class__") "__get__" = some (some (.builtin "getset_descriptor.__get__")))
    (y6tk : PySem.W.takesIn K (.builtin "object.__class__") = some true)
    (y6mr : PySem.W.mroIn K C6 (.type "object") = some true)
    (y6no : PySem.W.findIn K (.ref C6) "value" = some none)
    (y6mz : PySem.W.mroIn K C6 (.ref C0) = some true)
    (y6ve : PySem.W.subIn K (.ref C6) (.type "ValueError") = some true)
    (y6ii : PySem.W.findIn K (.ref C6) "__init__" = some (some (.ref gI)))
    (y6s0 : PySem.W.subIn K (.ref C6) (.ref C0) = some true)
    (y6kv : PySem.W.subIn K (.ref C6) (.type "ValueError") = some true)
    (y6p0 : PySem.W.subIn K (.type "NoneType") (.ref C6) = some false)
    (y6p1 : PySem.W.subIn K (.type "bool") (.ref C6) = some false)
    (y6p2 : PySem.W.subIn K (.type "int") (.ref C6) = some false)
    (y6p3 : PySem.W.subIn K (.type "str") (.ref C6) = some false)
    (y6p4 : PySem.W.subIn K (.type "list") (.ref C6) = some false)
    (y6p5 : PySem.W.subIn K (.type "tuple") (.ref C6) = some false)
    (y6p6 : PySem.W.subIn K (.type "dict") (.ref C6) = some false)
    (y6q0 : PySem.W.subIn K (.ref C6) (.type "NoneType") = some false)
    (y6q1 : PySem.W.subIn K (.ref C6) (.type "bool") = some false)
    (y6q2 : PySem.W.subIn K (.ref C6) (.type "int") = some false)
    (y6q3 : PySem.W.subIn K (.ref C6) (.type "str") = some false)
    (y6q4 : PySem.W.subIn K (.ref C6) (.type "list") = some false)
    (y6q5 : PySem.W.subIn K (.ref C6) (.type "tuple") = some false)
    (y6q6 : PySem.W.subIn K (.ref C6) (.type "dict") = some false)
    (y6i0 : PySem.W.subIn K (.ref C6) (.ref C0) = some true)
    (y6i1 : PySem.W.subIn K (.ref C6) (.ref C1) = some false)
    (y6i2 : PySem.W.subIn K (.ref C6) (.ref C2) = some false)
    (y6i3 : PySem.W.subIn K (.ref C6) (.ref C3) = some false)
    (y6i4 : PySem.W.subIn K (.ref C6) (.ref C4) = some false)
    (y6i5 : PySem.W.subIn K (.ref C6) (.ref C5) = some false)
    (y6i6 : PySem.W.subIn K (.ref C6) (.ref C6) = some true)
    (y6i7 : PySem.W.subIn K (.ref C6) (.ref C7) = some false)
    (y6i8 : PySem.W.subIn K (.ref C6) (.ref C8) = some false)
    (y6i9 : PySem.W.subIn K (.ref C6) (.ref C9) = some false)
    (y6i10 : PySem.W.subIn K (.ref C6) (.ref C10) = some false)
    (y6i11 : PySem.W.subIn K (.ref C6) (.ref C11) = some false)
    (y6i12 : PySem.W.subIn K (.ref C6) (.ref C12) = some false)
    (y6i13 : PySem.W.subIn K (.ref C6) (.ref C13) = some false)
    (y6i14 : PySem.W.subIn K (.ref C6) (.ref C14) = some false)
    (y6i15 : PySem.W.subIn K (.ref C6) (.ref C15) = some false)
    (y6i16 : PySem.W.subIn K (.ref C6) (.ref C16) = some false)
    (y6i17 : PySem.W.subIn K (.ref C6) (.ref C17) = some false)
    (y6i18 : PySem.W.subIn K (.ref C6) (.ref C18) = some false)
    (y6i19 : PySem.W.subIn K (.ref C6) (.ref C19) = some false)
    (b7 : PySem.W.nsIn K mainGlobals "InvalidRule" = some (some (.ref C7)))
    (x7 : K.lookup C7 = some (excClassObj nm7 qn7 C7 N7 bs7 [.ref C0, .type "ValueError", .type "Exception", .type "BaseException", .type "object"] true sn7 sb7 ab7 co7 dd7 ka7 kb7 kc7 kd7 ke7 "ValueError.__new__"))
    (y7sa : PySem.W.findIn K (.ref C7) "__setattr__" = some (some (.builtin "object.__setattr__")))
    (y7eb : PySem.W.subIn K (.ref C7) (.type "BaseException") = some true)
    (y7ty : PySem.W.typeIn K (.ref C7) = some (.type "type"))
    (y7kp : PySem.W.keepIn K (.ref C7) = true)
    (y7cl : PySem.W.isClsIn K C7 = true)
    (y7ga : PySem.W.findIn K (.ref C7) "__getattribute__" = some (some (.builtin "BaseException.__getattribute__")))
    (y7gt : PySem.W.findIn K (.ref C7) "__getattr__" = some none)
    (y7hd : PySem.W.hasDictIn K C7 = true)
    (y7ac : PySem.W.findIn K (.ref C7) "__class__" = some (some (.builtin "object.__class__")))
    (y7sp : PySem.W.specialIn K (.builtin "object.__class__") "__get__" = some (some (.builtin "getset_descriptor.__get__")))
    (y7tk : PySem.W.takesIn K (.builtin "object.__class__") = some true)
    (y7mr : PySem.W.mroIn K C7 (.type "object") = some true)
    (y7no : PySem.W.findIn K (.ref C7) "value" = some none)
    (y7mz : PySem.W.mroIn K C7 (.ref C0) = some true)
    (y7ve : PySem.W.subIn K (.ref C7) (.type "ValueError") = some true)
    (y7ii : PySem.W.findIn K (.ref C7) "__init__" = some (some (.ref gI)))
    (y7s0 : PySem.W.subIn K (.ref C7) (.ref C0) = some true)
    (y7kv : PySem.W.subIn K (.ref C7) (.type "ValueError") = some true)
    (y7p0 : PySem.W.subIn K (.type "NoneType") (.ref C7) = some false)
    (y7p1 : PySem.W.subIn K (.type "bool") (.ref C7) = some false)
    (y7p2 : PySem.W.subIn K (.type "int") (.ref C7) = some false)
    (y7p3 : PySem.W.subIn K (.type "str") (.ref C7) = some false)
    (y7p4 : PySem.W.subIn K (.type "list") (.ref C7) = some false)
    (y7p5 : PySem.W.subIn K (.type "tuple") (.ref C7) = some false)
    (y7p6 : PySem.W.subIn K (.type "dict") (.ref C7) = some false)
    (y7q0 : PySem.W.subIn K (.ref C7) (.type "NoneType") = some false)
    (y7q1 : PySem.W.subIn K (.ref C7) (.type "bool") = some false)
    (y7q2 : PySem.W.subIn K (.ref C7) (.type "int") = some false)
    (y7q3 : PySem.W.subIn K (.ref C7) (.type "str") = some false)
    (y7q4 : PySem.W.subIn K (.ref C7) (.type "list") = some false)
    (y7q5 : PySem.W.subIn K (.ref C7) (.type "tuple") = some false)
    (y7q6 : PySem.W.subIn K (.ref C7) (.type "dict") = some false)
    (y7i0 : PySem.W.subIn K (.ref C7) (.ref C0) = some true)
    (y7i1 : PySem.W.subIn K (.ref C7) (.ref C1) = some false)
    (y7i2 : PySem.W.subIn K (.ref C7) (.ref C2) = some false)
    (y7i3 : PySem.W.subIn K (.ref C7) (.ref C3) = some false)
    (y7i4 : PySem.W.subIn K (.ref C7) (.ref C4) = some false)
    (y7i5 : PySem.W.subIn K (.ref C7) (.ref C5) = some false)
    (y7i6 : PySem.W.subIn K (.ref C7) (.ref C6) = some false)
    (y7i7 : PySem.W.subIn K (.ref C7) (.ref C7) = some true)
    (y7i8 : PySem.W.subIn K (.ref C7) (.ref C8) = some false)
    (y7i9 : PySem.W.subIn K (.ref C7) (.ref C9) = some false)
    (y7i10 : PySem.W.subIn K (.ref C7) (.ref C10) = some false)
    (y7i11 : PySem.W.subIn K (.ref C7) (.ref C11) = some false)
    (y7i12 : PySem.W.subIn K (.ref C7) (.ref C12) = some false)
    (y7i13 : PySem.W.subIn K (.ref C7) (.ref C13) = some false)
    (y7i14 : PySem.W.subIn K (.ref C7) (.ref C14) = some false)
    (y7i15 : PySem.W.subIn K (.ref C7) (.ref C15) = some false)
    (y7i16 : PySem.W.subIn K (.ref C7) (.ref C16) = some false)
    (y7i17 : PySem.W.subIn K (.ref C7) (.ref C17) = some false)
    (y7i18 : PySem.W.subIn K (.ref C7) (.ref C18) = some false)
    (y7i19 : PySem.W.subIn K (.ref C7) (.ref C19) = some false)
    (b8 : PySem.W.nsIn K mainGlobals "InvalidBelief" = some (some (.ref C8)))
    (x8 : K.lookup C8 = some (excClassObj nm8 qn8 C8 N8 bs8 [.ref C0, .type "ValueError", .type "Exception", .type "BaseException", .type "object"] true sn8 sb8 ab8 co8 dd8 ka8 kb8 kc8 kd8 ke8 "ValueError.__new__"))
    (y8sa : PySem.W.findIn K (.ref C8) "__setattr__" = some (some (.builtin "object.__setattr__")))
    (y8eb : PySem.W.subIn K (.ref C8) (.type "BaseException") = some true)
    (y8ty : PySem.W.typeIn K (.ref C8) = some (.type "type"))
    (y8kp : PySem.W.keepIn K (.ref C8) = true)
    (y8cl : PySem.W.isClsIn K C8 = true)
    (y8ga : PySem.W.findIn K (.ref C8) "__getattribute__" = some (some (.builtin "BaseException.__getattribute__")))
    (y8gt : PySem.W.findIn K (.ref C8) "__getattr__" = some none)
    (y8hd : PySem.W.hasDictIn K C8 = true)
    (y8ac : PySem.W.findIn K (.ref C8) "__class__" = some (some (.builtin "object.__class__")))
    (y8sp : PySem.W.specialIn K (.builtin "object.__class__") "__get__" = some (some (.builtin "getset_descriptor.__get__")))
    (y8tk : PySem.W.takesIn K (.builtin "object.__class__") = some true)
    (y8mr : PySem.W.mroIn K C8 (.type "object") = some true)
    (y8no : PySem.W.findIn K (.ref C8) "value" = some none)
    (y8mz : PySem.W.mroIn K C8 (.ref C0) = some true)
    (y8ve : PySem.W.subIn K (.ref C8) (.type "ValueError") = some true)
    (y8ii : PySem.W.findIn K (.ref C8) "__init__" = some (some (.ref gI)))
    (y8s0 : PySem.W.subIn K (.ref C8) (.ref C0) = some true)
    (y8kv : PySem.W.subIn K (.ref C8) (.type "ValueError") = some true)
    (y8p0 : PySem.W.subIn K (.type "NoneType") (.ref C8) = some false)
    (y8p1 : PySem.W.subIn K (.type "bool") (.ref C8) = some false)
    (y8p2 : PySem.W.subIn K (.type "int") (.ref C8) = some false)
    (y8p3 : PySem.W.subIn K (.type "str") (.ref C8) = some false)
    (y8p4 : PySem.W.subIn K (.type "list") (.ref C8) = some false)
    (y8p5 : PySem.W.subIn K (.type "tuple") (.ref C8) = some false)
    (y8p6 : PySem.W.subIn K (.type "dict") (.ref C8) = some false)
    (y8q0 : PySem.W.subIn K (.ref C8) (.type "NoneType") = some false)
    (y8q1 : PySem.W.subIn K (.ref C8) (.type "bool") = some false)
    (y8q2 : PySem.W.subIn K (.ref C8) (.type "int") = some false)
    (y8q3 : PySem.W.subIn K (.ref C8) (.type "str") = some false)
    (y8q4 : PySem.W.subIn K (.ref C8) (.type "list") = some false)
    (y8q5 : PySem.W.subIn K (.ref C8) (.type "tuple") = some false)
    (y8q6 : PySem.W.subIn K (.ref C8) (.type "dict") = some false)
    (y8i0 : PySem.W.subIn K (.ref C8) (.ref C0) = some true)
    (y8i1 : PySem.W.subIn K (.ref C8) (.ref C1) = some false)
    (y8i2 : PySem.W.subIn K (.ref C8) (.ref C2) = some false)
    (y8i3 : PySem.W.subIn K (.ref C8) (.ref C3) = some false)
    (y8i4 : PySem.W.subIn K (.ref C8) (.ref C4) = some false)
    (y8i5 : PySem.W.subIn K (.ref C8) (.ref C5) = some false)
    (y8i6 : PySem.W.subIn K (.ref C8) (.ref C6) = some false)
    (y8i7 : PySem.W.subIn K (.ref C8) (.ref C7) = some false)
    (y8i8 : PySem.W.subIn K (.ref C8) (.ref C8) = some true)
    (y8i9 : PySem.W.subIn K (.ref C8) (.ref C9) = some false)
    (y8i10 : PySem.W.subIn K (.ref C8) (.ref C10) = some false)
    (y8i11 : PySem.W.subIn K (.ref C8) (.ref C11) = some false)
    (y8i12 : PySem.W.subIn K (.ref C8) (.ref C12) = some false)
    (y8i13 : PySem.W.subIn K (.ref C8) (.ref C13) = some false)
    (y8i14 : PySem.W.subIn K (.ref C8) (.ref C14) = some false)
    (y8i15 : PySem.W.subIn K (.ref C8) (.ref C15) = some false)
    (y8i16 : PySem.W.subIn K (.ref C8) (.ref C16) = some false)
    (y8i17 : PySem.W.subIn K (.ref C8) (.ref C17) = some false)
    (y8i18 : PySem.W.subIn K (.ref C8) (.ref C18) = some false)
    (y8i19 : PySem.W.subIn K (.ref C8) (.ref C19) = some false)
    (b9 : PySem.W.nsIn K mainGlobals "InvalidStrata" = some (some (.ref C9)))
    (x9 : K.lookup C9 = some (excClassObj nm9 qn9 C9 N9 bs9 [.ref C0, .type "ValueError", .type "Exception", .type "BaseException", .type "object"] true sn9 sb9 ab9 co9 dd9 ka9 kb9 kc9 kd9 ke9 "ValueError.__new__"))
    (y9sa : PySem.W.findIn K (.ref C9) "__setattr__" = some (some (.builtin "object.__setattr__")))
    (y9eb : PySem.W.subIn K (.ref C9) (.type "BaseException") = some true)
    (y9ty : PySem.W.typeIn K (.ref C9) = some (.type "type"))
    (y9kp : PySem.W.keepIn K (.ref C9) = true)
    (y9cl : PySem.W.isClsIn K C9 = true)
    (y9ga : PySem.W.findIn K (.ref C9) "__getattribute__" = some (some (.builtin "BaseException.__getattribute__")))
    (y9gt : PySem.W.findIn K (.ref C9) "__getattr__" = some none)
    (y9hd : PySem.W.hasDictIn K C9 = true)
    (y9ac : PySem.W.findIn K (.ref C9) "__class__" = some (some (.builtin "object.__class__")))
    (y9sp : PySem.W.specialIn K (.builtin "object.__class__") "__get__" = some (some (.builtin "getset_descriptor.__get__")))
    (y9tk : PySem.W.takesIn K (.builtin "object.__class__") = some true)
    (y9mr : PySem.W.mroIn K C9 (.type "object") = some true)
    (y9no : PySem.W.findIn K (.ref C9) "value" = some none)
    (y9mz : PySem.W.mroIn K C9 (.ref C0) = some true)
    (y9ve : PySem.W.subIn K (.ref C9) (.type "ValueError") = some true)
    (y9ii : PySem.W.findIn K (.ref C9) "__init__" = some (some (.ref gI)))
    (y9s0 : PySem.W.subIn K (.ref C9) (.ref C0) = some true)
    (y9kv : PySem.W.subIn K (.ref C9) (.type "ValueError") = some true)
    (y9p0 : PySem.W.subIn K (.type "NoneType") (.ref C9) = some false)
    (y9p1 : PySem.W.subIn K (.type "bool") (.ref C9) = some false)
    (y9p2 : PySem.W.subIn K (.type "int") (.ref C9) = some false)
    (y9p3 : PySem.W.subIn K (.type "str") (.ref C9) = some false)
    (y9p4 : PySem.W.subIn K (.type "list") (.ref C9) = some false)
    (y9p5 : PySem.W.subIn K (.type "tuple") (.ref C9) = some false)
    (y9p6 : PySem.W.subIn K (.type "dict") (.ref C9) = some false)
    (y9q0 : PySem.W.subIn K (.ref C9) (.type "NoneType") = some false)
    (y9q1 : PySem.W.subIn K (.ref C9) (.type "bool") = some false)
    (y9q2 : PySem.W.subIn K (.ref C9) (.type "int") = some false)
    (y9q3 : PySem.W.subIn K (.ref C9) (.type "str") = some false)
    (y9q4 : PySem.W.subIn K (.ref C9) (.type "list") = some false)
    (y9q5 : PySem.W.subIn K (.ref C9) (.type "tuple") = some false)
    (y9q6 : PySem.W.subIn K (.ref C9) (.type "dict") = some false)
    (y9i0 : PySem.W.subIn K (.ref C9) (.ref C0) = some true)
    (y9i1 : PySem.W.subIn K (.ref C9) (.ref C1) = some false)
    (y9i2 : PySem.W.subIn K (.ref C9) (.ref C2) = some false)
    (y9i3 : PySem.W.subIn K (.ref C9) (.ref C3) = some false)
    (y9i4 : PySem.W.subIn K (.ref C9) (.ref C4) = some false)
    (y9i5 : PySem.W.subIn K (.ref C9) (.ref C5) = some false)
    (y9i6 : PySem.W.subIn K (.ref C9) (.ref C6) = some false)
    (y9i7 : PySem.W.subIn K (.ref C9) (.ref C7) = some false)
    (y9i8 : PySem.W.subIn K (.ref C9) (.ref C8) = some false)
    (y9i9 : PySem.W.subIn K (.ref C9) (.ref C9) = some true)
    (y9i10 : PySem.W.subIn K (.ref C9) (.ref C10) = some false)
    (y9i11 : PySem.W.subIn K (.ref C9) (.ref C11) = some false)
    (y9i12 : PySem.W.subIn K (.ref C9) (.ref C12) = some false)
    (y9i13 : PySem.W.subIn K (.ref C9) (.ref C13) = some false)
    (y9i14 : PySem.W.subIn K (.ref C9) (.ref C14) = some false)
    (y9i15 : PySem.W.subIn K (.ref C9) (.ref C15) = some false)
    (y9i16 : PySem.W.subIn K (.ref C9) (.ref C16) = some false)
    (y9i17 : PySem.W.subIn K (.ref C9) (.ref C17) = some false)
    (y9i18 : PySem.W.subIn K (.ref C9) (.ref C18) = some false)
    (y9i19 : PySem.W.subIn K (.ref C9) (.ref C19) = some false)
    (b10 : PySem.W.nsIn K mainGlobals "InvalidNumber" = some (some (.ref C10)))
    (x10 : K.lookup C10 = some (excClassObj nm10 qn10 C10 N10 bs10 [.ref C0, .type "ValueError", .type "Exception", .type "BaseException", .type "object"] true sn10 sb10 ab10 co10 dd10 ka10 kb10 kc10 kd10 ke10 "ValueError.__new__"))
    (y10sa : PySem.W.findIn K (.ref C10) "__setattr__" = some (some (.builtin "object.__setattr__")))
    (y10eb : PySem.W.subIn K (.ref C10) (.type "BaseException") = some true)
    (y10ty : PySem.W.typeIn K (.ref C10) = some (.type "type"))
    (y10kp : PySem.W.keepIn K (.ref C10) = true)
    (y10cl : PySem.W.isClsIn K C10 = true)
    (y10ga : PySem.W.findIn K (.ref C10) "__getattribute__" = some (some (.builtin "BaseException.__getattribute__")))
    (y10gt : PySem.W.findIn K (.ref C10) "__getattr__" = some none)
    (y10hd : PySem.W.hasDictIn K C10 = true)
    (y10ac : PySem.W.findIn K (.ref C10) "__class__" = some (some (.builtin "object.__class__")))
    (y10sp : PySem.W.specialIn K (.builtin "object.__class__") "__get__" = some (some (.builtin "getset_descriptor.__get__")))
    (y10tk : PySem.W.takesIn K (.builtin "object.__class__") = some true)
    (y10mr : PySem.W.mroIn K C10 (.type "object") = some true)
    (y10no : PySem.W.findIn K (.ref C10) "value" = some none)
    (y10mz : PySem.W.mroIn K C10 (.ref C0) = some true)
    (y10ve : PySem.W.subIn K (.ref C10) (.type "ValueError") = some true)
    (y10ii : PySem.W.findIn K (.ref C10) "__init__" = some (some (.ref gI)))
    (y10s0 : PySem.W.subIn K (.ref C10) (.ref C0) = some true)
    (y10kv : PySem.W.subIn K (.ref C10) (.type "ValueError") = some true)
    (y10p0 : PySem.W.subIn K (.type "NoneType") (.ref C10) = some false)
    (y10p1 : PySem.W.subIn K (.type "bool") (.ref C10) = some false)
    (y10p2 : PySem.W.subIn K (.type "int") (.ref C10) = some false)
    (y10p3 : PySem.W.subIn K (.type "str") (.ref C10) = some false)
    (y10p4 : PySem.W.subIn K (.type "list") (.ref C10) = some false)
    (y10p5 : PySem.W.subIn K (.type "tuple") (.ref C10) = some false)
    (y10p6 : PySem.W.subIn K (.type "dict") (.ref C10) = some false)
    (y10q0 : PySem.W.subIn K (.ref C10) (.type "NoneType") = some false)
    (y10q1 : PySem.W.subIn K (.ref C10) (.type "bool") = some false)
    (y10q2 : PySem.W.subIn K (.ref C10) (.type "int") = some false)
    (y10q3 : PySem.W.subIn K (.ref C10) (.type "str") = some false)
    (y10q4 : PySem.W.subIn K (.ref C10) (.type "list") = some false)
    (y10q5 : PySem.W.subIn K (.ref C10) (.type "tuple") = some false)
    (y10q6 : PySem.W.subIn K (.ref C10) (.type "dict") = some false)
    (y10i0 : PySem.W.subIn K (.ref C10) (.ref C0) = some true)
    (y10i1 : PySem.W.subIn K (.ref C10) (.ref C1) = some false)
    (y10i2 : PySem.W.subIn K (.ref C10) (.ref C2) = some false)
    (y10i3 : PySem.W.subIn K (.ref C10) (.ref C3) = some false)
    (y10i4 : PySem.W.subIn K (.ref C10) (.ref C4) = some false)
    (y10i5 : PySem.W.subIn K (.ref C10) (.ref C5) = some false)
    (y10i6 : PySem.W.subIn K (.ref C10) (.ref C6) = some false)
    (y10i7 : PySem.W.subIn K (.ref C10) (.ref C7) = some false)
    (y10i8 : PySem.W.subIn K (.ref C10) (.ref C8) = some false)
    (y10i9 : PySem.W.subIn K (.ref C10) (.ref C9) = some false)
    (y10i10 : PySem.W.subIn K (.ref C10) (.ref C10) = some true)
    (y10i11 : PySem.W.subIn K (.ref C10) (.ref C11) = some false)
    (y10i12 : PySem.W.subIn K (.ref C10) (.ref C12) = some false)
    (y10i13 : PySem.W.subIn K (.ref C10) (.ref C13) = some false)
    (y10i14 : PySem.W.subIn K (.ref C10) (.ref C14) = some false)
    (y10i15 : PySem.W.subIn K (.ref C10) (.ref C15) = some false)
    (y10i16 : PySem.W.subIn K (.ref C10) (.ref C16) = some false)
    (y10i17 : PySem.W.subIn K (.ref C10) (.ref C17) = some false)
    (y10i18 : PySem.W.subIn K (.ref C10) (.ref C18) = some false)
    (y10i19 : PySem.W.subIn K (.ref C10) (.ref C19) = some false)
    (b11 : PySem.W.nsIn K mainGlobals "InvalidAmount" = some (some (.ref C11)))
    (x11 : K.lookup C11 = some (excClassObj nm11 qn11 C11 N11 bs11 [.ref C0, .type "ValueError", .type "Exception", .type "BaseException", .type "object"] true sn11 sb11 ab11 co11 dd11 ka11 kb11 kc11 kd11 ke11 "ValueError.__new__"))
    (y11sa : PySem.W.findIn K (.ref C11) "__setattr__" = some (some (.builtin "object.__setattr__")))
    (y11eb : PySem.W.subIn K (.ref C11) (.type "BaseException") = some true)
    (y11ty : PySem.W.typeIn K (.ref C11) = some (.type "type"))
    (y11kp : PySem.W.keepIn K (.ref C11) = true)
    (y11cl : PySem.W.isClsIn K C11 = true)
    (y11ga : PySem.W.findIn K (.ref C11) "__getattribute__" = some (some (.builtin "BaseException.__getattribute__")))
    (y11gt : PySem.W.findIn K (.ref C11) "__getattr__" = some none)
    (y11hd : PySem.W.hasDictIn K C11 = true)
    (y11ac : PySem.W.findIn K (.ref C11) "__class__" = some (some (.builtin "object.__class__")))
    (y11sp : PySem.W.specialIn K (.builtin "object.__class__") "__get__" = some (some (.builtin "getset_descriptor.__get__")))
    (y11tk : PySem.W.takesIn K (.builtin "object.__class__") = some true)
    (y11mr : PySem.W.mroIn K C11 (.type "object") = some true)
    (y11no : PySem.W.findIn K (.ref C11) "value" = some none)
    (y11mz : PySem.W.mroIn K C11 (.ref C0) = some true)
    (y11ve : PySem.W.subIn K (.ref C11) (.type "ValueError") = some true)
    (y11ii : PySem.W.findIn K (.ref C11) "__init__" = some (some (.ref gI)))
    (y11s0 : PySem.W.subIn K (.ref C11) (.ref C0) = some true)
    (y11kv : PySem.W.subIn K (.ref C11) (.type "ValueError") = some true)
    (y11p0 : PySem.W.subIn K (.type "NoneType") (.ref C11) = some false)
    (y11p1 : PySem.W.subIn K (.type "bool") (.ref C11) = some false)
    (y11p2 : PySem.W.subIn K (.type "int") (.ref C11) = some false)
    (y11p3 : PySem.W.subIn K (.type "str") (.ref C11) = some false)
    (y11p4 : PySem.W.subIn K (.type "list") (.ref C11) = some false)
    (y11p5 : PySem.W.subIn K (.type "tuple") (.ref C11) = some false)
    (y11p6 : PySem.W.subIn K (.type "dict") (.ref C11) = some false)
    (y11q0 : PySem.W.subIn K (.ref C11) (.type "NoneType") = some false)
    (y11q1 : PySem.W.subIn K (.ref C11) (.type "bool") = some false)
    (y11q2 : PySem.W.subIn K (.ref C11) (.type "int") = some false)
    (y11q3 : PySem.W.subIn K (.ref C11) (.type "str") = some false)
    (y11q4 : PySem.W.subIn K (.ref C11) (.type "list") = some false)
    (y11q5 : PySem.W.subIn K (.ref C11) (.type "tuple") = some false)
    (y11q6 : PySem.W.subIn K (.ref C11) (.type "dict") = some false)
    (y11i0 : PySem.W.subIn K (.ref C11) (.ref C0) = some true)
    (y11i1 : PySem.W.subIn K (.ref C11) (.ref C1) = some false)
    (y11i2 : PySem.W.subIn K (.ref C11) (.ref C2) = some false)
    (y11i3 : PySem.W.subIn K (.ref C11) (.ref C3) = some false)
    (y11i4 : PySem.W.subIn K (.ref C11) (.ref C4) = some false)
    (y11i5 : PySem.W.subIn K (.ref C11) (.ref C5) = some false)
    (y11i6 : PySem.W.subIn K (.ref C11) (.ref C6) = some false)
    (y11i7 : PySem.W.subIn K (.ref C11) (.ref C7) = some false)
    (y11i8 : PySem.W.subIn K (.ref C11) (.ref C8) = some false)
    (y11i9 : PySem.W.subIn K (.ref C11) (.ref C9) = some false)
    (y11i10 : PySem.W.subIn K (.ref C11) (.ref C10) = some false)
    (y11i11 : PySem.W.subIn K (.ref C11) (.ref C11) = some true)
    (y11i12 : PySem.W.subIn K (.ref C11) (.ref C12) = some false)
    (y11i13 : PySem.W.subIn K (.ref C11) (.ref C13) = some false)
    (y11i14 : PySem.W.subIn K (.ref C11) (.ref C14) = some false)
    (y11i15 : PySem.W.subIn K (.ref C11) (.ref C15) = some false)
    (y11i16 : PySem.W.subIn K (.ref C11) (.ref C16) = some false)
    (y11i17 : PySem.W.subIn K (.ref C11) (.ref C17) = some false)
    (y11i18 : PySem.W.subIn K (.ref C11) (.ref C18) = some false)
    (y11i19 : PySem.W.subIn K (.ref C11) (.ref C19) = some false)
    (b12 : PySem.W.nsIn K mainGlobals "InvalidList" = some (some (.ref C12)))
    (x12 : K.lookup C12 = some (excClassObj nm12 qn12 C12 N12 bs12 [.ref C0, .type "ValueError", .type "Exception", .type "BaseException", .type "object"] true sn12 sb12 ab12 co12 dd12 ka12 kb12 kc12 kd12 ke12 "ValueError.__new__"))
    (y12sa : PySem.W.findIn K (.ref C12) "__setattr__" = some (some (.builtin "object.__setattr__")))
    (y12eb : PySem.W.subIn K (.ref C12) (.type "BaseException") = some true)
    (y12ty : PySem.W.typeIn K (.ref C12) = some (.type "type"))
    (y12kp : PySem.W.keepIn K (.ref C12) = true)
    (y12cl : PySem.W.isClsIn K C12 = true)
    (y12ga : PySem.W.findIn K (.ref C12) "__getattribute__" = some (some (.builtin "BaseException.__getattribute__")))
    (y12gt : PySem.W.findIn K (.ref C12) "__getattr__" = some none)
    (y12hd : PySem.W.hasDictIn K C12 = true)
    (y12ac : PySem.W.findIn K (.ref C12) "__class__" = some (some (.builtin "object.__class__")))
    (y12sp : PySem.W.specialIn K (.builtin "object.__class__") "__get__" = some (some (.builtin "getset_descriptor.__get__")))
    (y12tk : PySem.W.takesIn K (.builtin "object.__class__") = some true)
    (y12mr : PySem.W.mroIn K C12 (.type "object") = some true)
    (y12no : PySem.W.findIn K (.ref C12) "value" = some none)
    (y12mz : PySem.W.mroIn K C12 (.ref C0) = some true)
    (y12ve : PySem.W.subIn K (.ref C12) (.type "ValueError") = some true)
    (y12ii : PySem.W.findIn K (.ref C12) "__init__" = some (some (.ref gI)))
    (y12s0 : PySem.W.subIn K (.ref C12) (.ref C0) = some true)
    (y12kv : PySem.W.subIn K (.ref C12) (.type "ValueError") = some true)
    (y12p0 : PySem.W.subIn K (.type "NoneType") (.ref C12) = some false)
    (y12p1 : PySem.W.subIn K (.type "bool") (.ref C12) = some false)
    (y12p2 : PySem.W.subIn K (.type "int") (.ref C12) = some false)
    (y12p3 : PySem.W.subIn K (.type "str") (.ref C12) = some false)
    (y12p4 : PySem.W.subIn K (.type "list") (.ref C12) = some false)
    (y12p5 : PySem.W.subIn K (.type "tuple") (.ref C12) = some false)
    (y12p6 : PySem.W.subIn K (.type "dict") (.ref C12) = some false)
    (y12q0 : PySem.W.subIn K (.ref C12) (.type "NoneType") = some false)
    (y12q1 : PySem.W.subIn K (.ref C12) (.type "bool") = some false)
    (y12q2 : PySem.W.subIn K (.ref C12) (.type "int") = some false)
    (y12q3 : PySem.W.subIn K (.ref C12) (.type "str") = some false)
    (y12q4 : PySem.W.subIn K (.ref C12) (.type "list") = some false)
    (y12q5 : PySem.W.subIn K (.ref C12) (.type "tuple") = some false)
    (y12q6 : PySem.W.subIn K (.ref C12) (.type "dict") = some false)
    (y12i0 : PySem.W.subIn K (.ref C12) (.ref C0) = some true)
    (y12i1 : PySem.W.subIn K (.ref C12) (.ref C1) = some false)
    (y12i2 : PySem.W.subIn K (.ref C12) (.ref C2) = some false)
    (y12i3 : PySem.W.subIn K (.ref C12) (.ref C3) = some false)
    (y12i4 : PySem.W.subIn K (.ref C12) (.ref C4) = some false)
    (y12i5 : PySem.W.subIn K (.ref C12) (.ref C5) = some false)
    (y12i6 : PySem.W.subIn K (.ref C12) (.ref C6) = some false)
    (y12i7 : PySem.W.subIn K (.ref C12) (.ref C7) = some false)
    (y12i8 : PySem.W.subIn K (.ref C12) (.ref C8) = some false)
    (y12i9 : PySem.W.subIn K (.ref C12) (.ref C9) = some false)
    (y12i10 : PySem.W.subIn K (.ref C12) (.ref C10) = some false)
    (y12i11 : PySem.W.subIn K (.ref C12) (.ref C11) = some false)
    (y12i12 : PySem.W.subIn K (.ref C12) (.ref C12) = some true)
    (y12i13 : PySem.W.subIn K (.ref C12) (.ref C13) = some false)
    (y12i14 : PySem.W.subIn K (.ref C12) (.ref C14) = some false)
    (y12i15 : PySem.W.subIn K (.ref C12) (.ref C15) = some false)
    (y12i16 : PySem.W.subIn K (.ref C12) (.ref C16) = some false)
    (y12i17 : PySem.W.subIn K (.ref C12) (.ref C17) = some false)
    (y12i18 : PySem.W.subIn K (.ref C12) (.ref C18) = some false)
    (y12i19 : PySem.W.subIn K (.ref C12) (.ref C19) = some false)
    (b13 : PySem.W.nsIn K mainGlobals "InvalidText" = some (some (.ref C13)))
    (x13 : K.lookup C13 = some (excClassObj nm13 qn13 C13 N13 bs13 [.ref C0, .type "ValueError", .type "Exception", .type "BaseException", .type "object"] true sn13 sb13 ab13 co13 dd13 ka13 kb13 kc13 kd13 ke13 "ValueError.__new__"))
    (y13sa : PySem.W.findIn K (.ref C13) "__setattr__" = some (some (.builtin "object.__setattr__")))
    (y13eb : PySem.W.subIn K (.ref C13) (.type "BaseException") = some true)
    (y13ty : PySem.W.typeIn K (.ref C13) = some (.type "type"))
    (y13kp : PySem.W.keepIn K (.ref C13) = true)
    (y13cl : PySem.W.isClsIn K C13 = true)
    (y13ga : PySem.W.findIn K (.ref C13) "__getattribute__" = some (some (.builtin "BaseException.__getattribute__")))
    (y13gt : PySem.W.findIn K (.ref C13) "__getattr__" = some none)
    (y13hd : PySem.W.hasDictIn K C13 = true)
    (y13ac : PySem.W.findIn K (.ref C13) "__class__" = some (some (.builtin "object.__class__")))
    (y13sp : PySem.W.specialIn K (.builtin "object.__class__") "__get__" = some (some (.builtin "getset_descriptor.__get__")))
    (y13tk : PySem.W.takesIn K (.builtin "object.__class__") = some true)
    (y13mr : PySem.W.mroIn K C13 (.type "object") = some true)
    (y13no : PySem.W.findIn K (.ref C13) "value" = some none)
    (y13mz : PySem.W.mroIn K C13 (.ref C0) = some true)
    (y13ve : PySem.W.subIn K (.ref C13) (.type "ValueError") = some true)
    (y13ii : PySem.W.findIn K (.ref C13) "__init__" = some (some (.ref gI)))
    (y13s0 : PySem.W.subIn K (.ref C13) (.ref C0) = some true)
    (y13kv : PySem.W.subIn K (.ref C13) (.type "ValueError") = some true)
    (y13p0 : PySem.W.subIn K (.type "NoneType") (.ref C13) = some false)
    (y13p1 : PySem.W.subIn K (.type "bool") (.ref C13) = some false)
    (y13p2 : PySem.W.subIn K (.type "int") (.ref C13) = some false)
    (y13p3 : PySem.W.subIn K (.type "str") (.ref C13) = some false)
    (y13p4 : PySem.W.subIn K (.type "list") (.ref C13) = some false)
    (y13p5 : PySem.W.subIn K (.type "tuple") (.ref C13) = some false)
    (y13p6 : PySem.W.subIn K (.type "dict") (.ref C13) = some false)
    (y13q0 : PySem.W.subIn K (.ref C13) (.type "NoneType") = some false)
    (y13q1 : PySem.W.subIn K (.ref C13) (.type "bool") = some false)
    (y13q2 : PySem.W.subIn K (.ref C13) (.type "int") = some false)
    (y13q3 : PySem.W.subIn K (.ref C13) (.type "str") = some false)
    (y13q4 : PySem.W.subIn K (.ref C13) (.type "list") = some false)
    (y13q5 : PySem.W.subIn K (.ref C13) (.type "tuple") = some false)
    (y13q6 : PySem.W.subIn K (.ref C13) (.type "dict") = some false)
    (y13i0 : PySem.W.subIn K (.ref C13) (.ref C0) = some true)
    (y13i1 : PySem.W.subIn K (.ref C13) (.ref C1) = some false)
    (y13i2 : PySem.W.subIn K (.ref C13) (.ref C2) = some false)
    (y13i3 : PySem.W.subIn K (.ref C13) (.ref C3) = some false)
    (y13i4 : PySem.W.subIn K (.ref C13) (.ref C4) = some false)
    (y13i5 : PySem.W.subIn K (.ref C13) (.ref C5) = some false)
    (y13i6 : PySem.W.subIn K (.ref C13) (.ref C6) = some false)
    (y13i7 : PySem.W.subIn K (.ref C13) (.ref C7) = some false)
    (y13i8 : PySem.W.subIn K (.ref C13) (.ref C8) = some false)
    (y13i9 : PySem.W.subIn K (.ref C13) (.ref C9) = some false)
    (y13i10 : PySem.W.subIn K (.ref C13) (.ref C10) = some false)
    (y13i11 : PySem.W.subIn K (.ref C13) (.ref C11) = some false)
    (y13i12 : PySem.W.subIn K (.ref C13) (.ref C12) = some false)
    (y13i13 : PySem.W.subIn K (.ref C13) (.ref C13) = some true)
    (y13i14 : PySem.W.subIn K (.ref C13) (.ref C14) = some false)
    (y13i15 : PySem.W.subIn K (.ref C13) (.ref C15) = some false)
    (y13i16 : PySem.W.subIn K (.ref C13) (.ref C16) = some false)
    (y13i17 : PySem.W.subIn K (.ref C13) (.ref C17) = some false)
    (y13i18 : PySem.W.subIn K (.ref C13) (.ref C18) = some false)
    (y13i19 : PySem.W.subIn K (.ref C13) (.ref C19) = some false)
    (b14 : PySem.W.nsIn K mainGlobals "InvalidLine" = some (some (.ref C14)))
    (x14 : K.lookup C14 = some (excClassObj nm14 qn14 C14 N14 bs14 [.ref C0, .type "ValueError", .type "Exception", .type "BaseException", .type "object"] true sn14 sb14 ab14 co14 dd14 ka14 kb14 kc14 kd14 ke14 "ValueError.__new__"))
    (y14sa : PySem.W.findIn K (.ref C14) "__setattr__" = some (some (.builtin "object.__setattr__")))
    (y14eb : PySem.W.subIn K (.ref C14) (.type "BaseException") = some true)
    (y14ty : PySem.W.typeIn K (.ref C14) = some (.type "type"))
    (y14kp : PySem.W.keepIn K (.ref C14) = true)
    (y14cl : PySem.W.isClsIn K C14 = true)
    (y14ga : PySem.W.findIn K (.ref C14) "__getattribute__" = some (some (.builtin "BaseException.__getattribute__")))
    (y14gt : PySem.W.findIn K (.ref C14) "__getattr__" = some none)
    (y14hd : PySem.W.hasDictIn K C14 = true)
    (y14ac : PySem.W.findIn K (.ref C14) "__class__" = some (some (.builtin "object.__class__")))
    (y14sp : PySem.W.specialIn K (.builtin "object.__class__") "__get__" = some (some (.builtin "getset_descriptor.__get__")))
    (y14tk : PySem.W.takesIn K (.builtin "object.__class__") = some true)
    (y14mr : PySem.W.mroIn K C14 (.type "object") = some true)
    (y14no : PySem.W.findIn K (.ref C14) "value" = some none)
    (y14mz : PySem.W.mroIn K C14 (.ref C0) = some true)
    (y14ve : PySem.W.subIn K (.ref C14) (.type "ValueError") = some true)
    (y14ii : PySem.W.findIn K (.ref C14) "__init__" = some (some (.ref gI)))
    (y14s0 : PySem.W.subIn K (.ref C14) (.ref C0) = some true)
    (y14kv : PySem.W.subIn K (.ref C14) (.type "ValueError") = some true)
    (y14p0 : PySem.W.subIn K (.type "NoneType") (.ref C14) = some false)
    (y14p1 : PySem.W.subIn K (.type "bool") (.ref C14) = some false)
    (y14p2 : PySem.W.subIn K (.type "int") (.ref C14) = some false)
    (y14p3 : PySem.W.subIn K (.type "str") (.ref C14) = some false)
    (y14p4 : PySem.W.subIn K (.type "list") (.ref C14) = some false)
    (y14p5 : PySem.W.subIn K (.type "tuple") (.ref C14) = some false)
    (y14p6 : PySem.W.subIn K (.type "dict") (.ref C14) = some false)
    (y14q0 : PySem.W.subIn K (.ref C14) (.type "NoneType") = some false)
    (y14q1 : PySem.W.subIn K (.ref C14) (.type "bool") = some false)
    (y14q2 : PySem.W.subIn K (.ref C14) (.type "int") = some false)
    (y14q3 : PySem.W.subIn K (.ref C14) (.type "str") = some false)
    (y14q4 : PySem.W.subIn K (.ref C14) (.type "list") = some false)
    (y14q5 : PySem.W.subIn K (.ref C14) (.type "tuple") = some false)
    (y14q6 : PySem.W.subIn K (.ref C14) (.type "dict") = some false)
    (y14i0 : PySem.W.subIn K (.ref C14) (.ref C0) = some true)
    (y14i1 : PySem.W.subIn K (.ref C14) (.ref C1) = some false)
    (y14i2 : PySem.W.subIn K (.ref C14) (.ref C2) = some false)
    (y14i3 : PySem.W.subIn K (.ref C14) (.ref C3) = some false)
    (y14i4 : PySem.W.subIn K (.ref C14) (.ref C4) = some false)
    (y14i5 : PySem.W.subIn K (.ref C14) (.ref C5) = some false)
    (y14i6 : PySem.W.subIn K (.ref C14) (.ref C6) = some false)
    (y14i7 : PySem.W.subIn K (.ref C14) (.ref C7) = some false)
    (y14i8 : PySem.W.subIn K (.ref C14) (.ref C8) = some false)
    (y14i9 : PySem.W.subIn K (.ref C14) (.ref C9) = some false)
    (y14i10 : PySem.W.subIn K (.ref C14) (.ref C10) = some false)
    (y14i11 : PySem.W.subIn K (.ref C14) (.ref C11) = some false)
    (y14i12 : PySem.W.subIn K (.ref C14) (.ref C12) = some false)
    (y14i13 : PySem.W.subIn K (.ref C14) (.ref C13) = some false)
    (y14i14 : PySem.W.subIn K (.ref C14) (.ref C14) = some true)
    (y14i15 : PySem.W.subIn K (.ref C14) (.ref C15) = some false)
    (y14i16 : PySem.W.subIn K (.ref C14) (.ref C16) = some false)
    (y14i17 : PySem.W.subIn K (.ref C14) (.ref C17) = some false)
    (y14i18 : PySem.W.subIn K (.ref C14) (.ref C18) = some false)
    (y14i19 : PySem.W.subIn K (.ref C14) (.ref C19) = some false)
    (b15 : PySem.W.nsIn K mainGlobals "InvalidDeed" = some (some (.ref C15)))
    (x15 : K.lookup C15 = some (excClassObj nm15 qn15 C15 N15 bs15 [.ref C0, .type "ValueError", .type "Exception", .type "BaseException", .type "object"] true sn15 sb15 ab15 co15 dd15 ka15 kb15 kc15 kd15 ke15 "ValueError.__new__"))
    (y15sa : PySem.W.findIn K (.ref C15) "__setattr__" = some (some (.builtin "object.__setattr__")))
    (y15eb : PySem.W.subIn K (.ref C15) (.type "BaseException") = some true)
    (y15ty : PySem.W.typeIn K (.ref C15) = some (.type "type"))
    (y15kp : PySem.W.keepIn K (.ref C15) = true)
    (y15cl : PySem.W.isClsIn K C15 = true)
    (y15ga : PySem.W.findIn K (.ref C15) "__getattribute__" = some (some (.builtin "BaseException.__getattribute__")))
    (y15gt : PySem.W.findIn K (.ref C15) "__getattr__" = some none)
    (y15hd : PySem.W.hasDictIn K C15 = true)
    (y15ac : PySem.W.findIn K (.ref C15) "__class__" = some (some (.builtin "object.__class__")))
    (y15sp : PySem.W.specialIn K (.builtin "object.__class__") "__get__" = some (some (.builtin "getset_descriptor.__get__")))
    (y15tk : PySem.W.takesIn K (.builtin "object.__class__") = some true)
    (y15mr : PySem.W.mroIn K C15 (.type "object") = some true)
    (y15no : PySem.W.findIn K (.ref C15) "value" = some none)
    (y15mz : PySem.W.mroIn K C15 (.ref C0) = some true)
    (y15ve : PySem.W.subIn K (.ref C15) (.type "ValueError") = some true)
    (y15ii : PySem.W.findIn K (.ref C15) "__init__" = some (some (.ref gI)))
    (y15s0 : PySem.W.subIn K (.ref C15) (.ref C0) = some true)
    (y15kv : PySem.W.subIn K (.ref C15) (.type "ValueError") = some true)
    (y15p0 : PySem.W.subIn K (.type "NoneType") (.ref C15) = some false)
    (y15p1 : PySem.W.subIn K (.type "bool") (.ref C15) = some false)
    (y15p2 : PySem.W.subIn K (.type "int") (.ref C15) = some false)
    (y15p3 : PySem.W.subIn K (.type "str") (.ref C15) = some false)
    (y15p4 : PySem.W.subIn K (.type "list") (.ref C15) = some false)
    (y15p5 : PySem.W.subIn K (.type "tuple") (.ref C15) = some false)
    (y15p6 : PySem.W.subIn K (.type "dict") (.ref C15) = some false)
    (y15q0 : PySem.W.subIn K (.ref C15) (.type "NoneType") = some false)
    (y15q1 : PySem.W.subIn K (.ref C15) (.type "bool") = some false)
    (y15q2 : PySem.W.subIn K (.ref C15) (.type "int") = some false)
    (y15q3 : PySem.W.subIn K (.ref C15) (.type "str") = some false)
    (y15q4 : PySem.W.subIn K (.ref C15) (.type "list") = some false)
    (y15q5 : PySem.W.subIn K (.ref C15) (.type "tuple") = some false)
    (y15q6 : PySem.W.subIn K (.ref C15) (.type "dict") = some false)
    (y15i0 : PySem.W.subIn K (.ref C15) (.ref C0) = some true)
    (y15i1 : PySem.W.subIn K (.ref C15) (.ref C1) = some false)
    (y15i2 : PySem.W.subIn K (.ref C15) (.ref C2) = some false)
    (y15i3 : PySem.W.subIn K (.ref C15) (.ref C3) = some false)
    (y15i4 : PySem.W.subIn K (.ref C15) (.ref C4) = some false)
    (y15i5 : PySem.W.subIn K (.ref C15) (.ref C5) = some false)
    (y15i6 : PySem.W.subIn K (.ref C15) (.ref C6) = some false)
    (y15i7 : PySem.W.subIn K (.ref C15) (.ref C7) = some false)
    (y15i8 : PySem.W.subIn K (.ref C15) (.ref C8) = some false)
    (y15i9 : PySem.W.subIn K (.ref C15) (.ref C9) = some false)
    (y15i10 : PySem.W.subIn K (.ref C15) (.ref C10) = some false)
    (y15i11 : PySem.W.subIn K (.ref C15) (.ref C11) = some false)
    (y15i12 : PySem.W.subIn K (.ref C15) (.ref C12) = some false)
    (y15i13 : PySem.W.subIn K (.ref C15) (.ref C13) = some false)
    (y15i14 : PySem.W.subIn K (.ref C15) (.ref C14) = some false)
    (y15i15 : PySem.W.subIn K (.ref C15) (.ref C15) = some true)
    (y15i16 : PySem.W.subIn K (.ref C15) (.ref C16) = some false)
    (y15i17 : PySem.W.subIn K (.ref C15) (.ref C17) = some false)
    (y15i18 : PySem.W.subIn K (.ref C15) (.ref C18) = some false)
    (y15i19 : PySem.W.subIn K (.ref C15) (.ref C19) = some false)
    (b16 : PySem.W.nsIn K mainGlobals "Unlike" = some (some (.ref C16)))
    (x16 : K.lookup C16 = some (excClassObj nm16 qn16 C16 N16 bs16 [.ref C0, .type "ValueError", .type "Exception", .type "BaseException", .type "object"] true sn16 sb16 ab16 co16 dd16 ka16 kb16 kc16 kd16 ke16 "ValueError.__new__"))
    (y16sa : PySem.W.findIn K (.ref C16) "__setattr__" = some (some (.builtin "object.__setattr__")))
    (y16eb : PySem.W.subIn K (.ref C16) (.type "BaseException") = some true)
    (y16ty : PySem.W.typeIn K (.ref C16) = some (.type "type"))
    (y16kp : PySem.W.keepIn K (.ref C16) = true)
    (y16cl : PySem.W.isClsIn K C16 = true)
    (y16ga : PySem.W.findIn K (.ref C16) "__getattribute__" = some (some (.builtin "BaseException.__getattribute__")))
    (y16gt : PySem.W.findIn K (.ref C16) "__getattr__" = some none)
    (y16hd : PySem.W.hasDictIn K C16 = true)
    (y16ac : PySem.W.findIn K (.ref C16) "__class__" = some (some (.builtin "object.__class__")))
    (y16sp : PySem.W.specialIn K (.builtin "object.__class__") "__get__" = some (some (.builtin "getset_descriptor.__get__")))
    (y16tk : PySem.W.takesIn K (.builtin "object.__class__") = some true)
    (y16mr : PySem.W.mroIn K C16 (.type "object") = some true)
    (y16no : PySem.W.findIn K (.ref C16) "value" = some none)
    (y16mz : PySem.W.mroIn K C16 (.ref C0) = some true)
    (y16ve : PySem.W.subIn K (.ref C16) (.type "ValueError") = some true)
    (y16ii : PySem.W.findIn K (.ref C16) "__init__" = some (some (.ref gI)))
    (y16s0 : PySem.W.subIn K (.ref C16) (.ref C0) = some true)
    (y16kv : PySem.W.subIn K (.ref C16) (.type "ValueError") = some true)
    (y16p0 : PySem.W.subIn K (.type "NoneType") (.ref C16) = some false)
    (y16p1 : PySem.W.subIn K (.type "bool") (.ref C16) = some false)
    (y16p2 : PySem.W.subIn K (.type "int") (.ref C16) = some false)
    (y16p3 : PySem.W.subIn K (.type "str") (.ref C16) = some false)
    (y16p4 : PySem.W.subIn K (.type "list") (.ref C16) = some false)
    (y16p5 : PySem.W.subIn K (.type "tuple") (.ref C16) = some false)
    (y16p6 : PySem.W.subIn K (.type "dict") (.ref C16) = some false)
    (y16q0 : PySem.W.subIn K (.ref C16) (.type "NoneType") = some false)
    (y16q1 : PySem.W.subIn K (.ref C16) (.type "bool") = some false)
    (y16q2 : PySem.W.subIn K (.ref C16) (.type "int") = some false)
    (y16q3 : PySem.W.subIn K (.ref C16) (.type "str") = some false)
    (y16q4 : PySem.W.subIn K (.ref C16) (.type "list") = some false)
    (y16q5 : PySem.W.subIn K (.ref C16) (.type "tuple") = some false)
    (y16q6 : PySem.W.subIn K (.ref C16) (.type "dict") = some false)
    (y16i0 : PySem.W.subIn K (.ref C16) (.ref C0) = some true)
    (y16i1 : PySem.W.subIn K (.ref C16) (.ref C1) = some false)
    (y16i2 : PySem.W.subIn K (.ref C16) (.ref C2) = some false)
    (y16i3 : PySem.W.subIn K (.ref C16) (.ref C3) = some false)
    (y16i4 : PySem.W.subIn K (.ref C16) (.ref C4) = some false)
    (y16i5 : PySem.W.subIn K (.ref C16) (.ref C5) = some false)
    (y16i6 : PySem.W.subIn K (.ref C16) (.ref C6) = some false)
    (y16i7 : PySem.W.subIn K (.ref C16) (.ref C7) = some false)
    (y16i8 : PySem.W.subIn K (.ref C16) (.ref C8) = some false)
    (y16i9 : PySem.W.subIn K (.ref C16) (.ref C9) = some false)
    (y16i10 : PySem.W.subIn K (.ref C16) (.ref C10) = some false)
    (y16i11 : PySem.W.subIn K (.ref C16) (.ref C11) = some false)
    (y16i12 : PySem.W.subIn K (.ref C16) (.ref C12) = some false)
    (y16i13 : PySem.W.subIn K (.ref C16) (.ref C13) = some false)
    (y16i14 : PySem.W.subIn K (.ref C16) (.ref C14) = some false)
    (y16i15 : PySem.W.subIn K (.ref C16) (.ref C15) = some false)
    (y16i16 : PySem.W.subIn K (.ref C16) (.ref C16) = some true)
    (y16i17 : PySem.W.subIn K (.ref C16) (.ref C17) = some false)
    (y16i18 : PySem.W.subIn K (.ref C16) (.ref C18) = some false)
    (y16i19 : PySem.W.subIn K (.ref C16) (.ref C19) = some false)
    (b17 : PySem.W.nsIn K mainGlobals "TooMany" = some (some (.ref C17)))
    (x17 : K.lookup C17 = some (excClassObj nm17 qn17 C17 N17 bs17 [.ref C0, .type "ValueError", .type "Exception", .type "BaseException", .type "object"] true sn17 sb17 ab17 co17 dd17 ka17 kb17 kc17 kd17 ke17 "ValueError.__new__"))
    (y17sa : PySem.W.findIn K (.ref C17) "__setattr__" = some (some (.builtin "object.__setattr__")))
    (y17eb : PySem.W.subIn K (.ref C17) (.type "BaseException") = some true)
    (y17ty : PySem.W.typeIn K (.ref C17) = some (.type "type"))
    (y17kp : PySem.W.keepIn K (.ref C17) = true)
    (y17cl : PySem.W.isClsIn K C17 = true)
    (y17ga : PySem.W.findIn K (.ref C17) "__getattribute__" = some (some (.builtin "BaseException.__getattribute__")))
    (y17gt : PySem.W.findIn K (.ref C17) "__getattr__" = some none)
    (y17hd : PySem.W.hasDictIn K C17 = true)
    (y17ac : PySem.W.findIn K (.ref C17) "__class__" = some (some (.builtin "object.__class__")))
    (y17sp : PySem.W.specialIn K (.builtin "object.__class__") "__get__" = some (some (.builtin "getset_descriptor.__get__")))
    (y17tk : PySem.W.takesIn K (.builtin "object.__class__") = some true)
    (y17mr : PySem.W.mroIn K C17 (.type "object") = some true)
    (y17no : PySem.W.findIn K (.ref C17) "value" = some none)
    (y17mz : PySem.W.mroIn K C17 (.ref C0) = some true)
    (y17ve : PySem.W.subIn K (.ref C17) (.type "ValueError") = some true)
    (y17ii : PySem.W.findIn K (.ref C17) "__init__" = some (some (.ref gI)))
    (y17s0 : PySem.W.subIn K (.ref C17) (.ref C0) = some true)
    (y17kv : PySem.W.subIn K (.ref C17) (.type "ValueError") = some true)
    (y17p0 : PySem.W.subIn K (.type "NoneType") (.ref C17) = some false)
    (y17p1 : PySem.W.subIn K (.type "bool") (.ref C17) = some false)
    (y17p2 : PySem.W.subIn K (.type "int") (.ref C17) = some false)
    (y17p3 : PySem.W.subIn K (.type "str") (.ref C17) = some false)
    (y17p4 : PySem.W.subIn K (.type "list") (.ref C17) = some false)
    (y17p5 : PySem.W.subIn K (.type "tuple") (.ref C17) = some false)
    (y17p6 : PySem.W.subIn K (.type "dict") (.ref C17) = some false)
    (y17q0 : PySem.W.subIn K (.ref C17) (.type "NoneType") = some false)
    (y17q1 : PySem.W.subIn K (.ref C17) (.type "bool") = some false)
    (y17q2 : PySem.W.subIn K (.ref C17) (.type "int") = some false)
    (y17q3 : PySem.W.subIn K (.ref C17) (.type "str") = some false)
    (y17q4 : PySem.W.subIn K (.ref C17) (.type "list") = some false)
    (y17q5 : PySem.W.subIn K (.ref C17) (.type "tuple") = some false)
    (y17q6 : PySem.W.subIn K (.ref C17) (.type "dict") = some false)
    (y17i0 : PySem.W.subIn K (.ref C17) (.ref C0) = some true)
    (y17i1 : PySem.W.subIn K (.ref C17) (.ref C1) = some false)
    (y17i2 : PySem.W.subIn K (.ref C17) (.ref C2) = some false)
    (y17i3 : PySem.W.subIn K (.ref C17) (.ref C3) = some false)
    (y17i4 : PySem.W.subIn K (.ref C17) (.ref C4) = some false)
    (y17i5 : PySem.W.subIn K (.ref C17) (.ref C5) = some false)
    (y17i6 : PySem.W.subIn K (.ref C17) (.ref C6) = some false)
    (y17i7 : PySem.W.subIn K (.ref C17) (.ref C7) = some false)
    (y17i8 : PySem.W.subIn K (.ref C17) (.ref C8) = some false)
    (y17i9 : PySem.W.subIn K (.ref C17) (.ref C9) = some false)
    (y17i10 : PySem.W.subIn K (.ref C17) (.ref C10) = some false)
    (y17i11 : PySem.W.subIn K (.ref C17) (.ref C11) = some false)
    (y17i12 : PySem.W.subIn K (.ref C17) (.ref C12) = some false)
    (y17i13 : PySem.W.subIn K (.ref C17) (.ref C13) = some false)
    (y17i14 : PySem.W.subIn K (.ref C17) (.ref C14) = some false)
    (y17i15 : PySem.W.subIn K (.ref C17) (.ref C15) = some false)
    (y17i16 : PySem.W.subIn K (.ref C17) (.ref C16) = some false)
    (y17i17 : PySem.W.subIn K (.ref C17) (.ref C17) = some true)
    (y17i18 : PySem.W.subIn K (.ref C17) (.ref C18) = some false)
    (y17i19 : PySem.W.subIn K (.ref C17) (.ref C19) = some false)
    (b18 : PySem.W.nsIn K mainGlobals "NothingToUndo" = some (some (.ref C18)))
    (x18 : K.lookup C18 = some (excClassObj nm18 qn18 C18 N18 bs18 [.ref C0, .type "ValueError", .type "Exception", .type "BaseException", .type "object"] true sn18 sb18 ab18 co18 dd18 ka18 kb18 kc18 kd18 ke18 "ValueError.__new__"))
    (y18sa : PySem.W.findIn K (.ref C18) "__setattr__" = some (some (.builtin "object.__setattr__")))
    (y18eb : PySem.W.subIn K (.ref C18) (.type "BaseException") = some true)
    (y18ty : PySem.W.typeIn K (.ref C18) = some (.type "type"))
    (y18kp : PySem.W.keepIn K (.ref C18) = true)
    (y18cl : PySem.W.isClsIn K C18 = true)
    (y18ga : PySem.W.findIn K (.ref C18) "__getattribute__" = some (some (.builtin "BaseException.__getattribute__")))
    (y18gt : PySem.W.findIn K (.ref C18) "__getattr__" = some none)
    (y18hd : PySem.W.hasDictIn K C18 = true)
    (y18ac : PySem.W.findIn K (.ref C18) "__class__" = some (some (.builtin "object.__class__")))
    (y18sp : PySem.W.specialIn K (.builtin "object.__class__") "__get__" = some (some (.builtin "getset_descriptor.__get__")))
    (y18tk : PySem.W.takesIn K (.builtin "object.__class__") = some true)
    (y18mr : PySem.W.mroIn K C18 (.type "object") = some true)
    (y18no : PySem.W.findIn K (.ref C18) "value" = some none)
    (y18mz : PySem.W.mroIn K C18 (.ref C0) = some true)
    (y18ve : PySem.W.subIn K (.ref C18) (.type "ValueError") = some true)
    (y18ii : PySem.W.findIn K (.ref C18) "__init__" = some (some (.ref gI)))
    (y18s0 : PySem.W.subIn K (.ref C18) (.ref C0) = some true)
    (y18kv : PySem.W.subIn K (.ref C18) (.type "ValueError") = some true)
    (y18p0 : PySem.W.subIn K (.type "NoneType") (.ref C18) = some false)
    (y18p1 : PySem.W.subIn K (.type "bool") (.ref C18) = some false)
    (y18p2 : PySem.W.subIn K (.type "int") (.ref C18) = some false)
    (y18p3 : PySem.W.subIn K (.type "str") (.ref C18) = some false)
    (y18p4 : PySem.W.subIn K (.type "list") (.ref C18) = some false)
    (y18p5 : PySem.W.subIn K (.type "tuple") (.ref C18) = some false)
    (y18p6 : PySem.W.subIn K (.type "dict") (.ref C18) = some false)
    (y18q0 : PySem.W.subIn K (.ref C18) (.type "NoneType") = some false)
    (y18q1 : PySem.W.subIn K (.ref C18) (.type "bool") = some false)
    (y18q2 : PySem.W.subIn K (.ref C18) (.type "int") = some false)
    (y18q3 : PySem.W.subIn K (.ref C18) (.type "str") = some false)
    (y18q4 : PySem.W.subIn K (.ref C18) (.type "list") = some false)
    (y18q5 : PySem.W.subIn K (.ref C18) (.type "tuple") = some false)
    (y18q6 : PySem.W.subIn K (.ref C18) (.type "dict") = some false)
    (y18i0 : PySem.W.subIn K (.ref C18) (.ref C0) = some true)
    (y18i1 : PySem.W.subIn K (.ref C18) (.ref C1) = some false)
    (y18i2 : PySem.W.subIn K (.ref C18) (.ref C2) = some false)
    (y18i3 : PySem.W.subIn K (.ref C18) (.ref C3) = some false)
    (y18i4 : PySem.W.subIn K (.ref C18) (.ref C4) = some false)
    (y18i5 : PySem.W.subIn K (.ref C18) (.ref C5) = some false)
    (y18i6 : PySem.W.subIn K (.ref C18) (.ref C6) = some false)
    (y18i7 : PySem.W.subIn K (.ref C18) (.ref C7) = some false)
    (y18i8 : PySem.W.subIn K (.ref C18) (.ref C8) = some false)
    (y18i9 : PySem.W.subIn K (.ref C18) (.ref C9) = some false)
    (y18i10 : PySem.W.subIn K (.ref C18) (.ref C10) = some false)
    (y18i11 : PySem.W.subIn K (.ref C18) (.ref C11) = some false)
    (y18i12 : PySem.W.subIn K (.ref C18) (.ref C12) = some false)
    (y18i13 : PySem.W.subIn K (.ref C18) (.ref C13) = some false)
    (y18i14 : PySem.W.subIn K (.ref C18) (.ref C14) = some false)
    (y18i15 : PySem.W.subIn K (.ref C18) (.ref C15) = some false)
    (y18i16 : PySem.W.subIn K (.ref C18) (.ref C16) = some false)
    (y18i17 : PySem.W.subIn K (.ref C18) (.ref C17) = some false)
    (y18i18 : PySem.W.subIn K (.ref C18) (.ref C18) = some true)
    (y18i19 : PySem.W.subIn K (.ref C18) (.ref C19) = some false)
    (b19 : PySem.W.nsIn K mainGlobals "NothingToRedo" = some (some (.ref C19)))
    (x19 : K.lookup C19 = some (excClassObj nm19 qn19 C19 N19 bs19 [.ref C0, .type "ValueError", .type "Exception", .type "BaseException", .type "object"] true sn19 sb19 ab19 co19 dd19 ka19 kb19 kc19 kd19 ke19 "ValueError.__new__"))
    (y19sa : PySem.W.findIn K (.ref C19) "__setattr__" = some (some (.builtin "object.__setattr__")))
    (y19eb : PySem.W.subIn K (.ref C19) (.type "BaseException") = some true)
    (y19ty : PySem.W.typeIn K (.ref C19) = some (.type "type"))
    (y19kp : PySem.W.keepIn K (.ref C19) = true)
    (y19cl : PySem.W.isClsIn K C19 = true)
    (y19ga : PySem.W.findIn K (.ref C19) "__getattribute__" = some (some (.builtin "BaseException.__getattribute__")))
    (y19gt : PySem.W.findIn K (.ref C19) "__getattr__" = some none)
    (y19hd : PySem.W.hasDictIn K C19 = true)
    (y19ac : PySem.W.findIn K (.ref C19) "__class__" = some (some (.builtin "object.__class__")))
    (y19sp : PySem.W.specialIn K (.builtin "object.__class__") "__get__" = some (some (.builtin "getset_descriptor.__get__")))
    (y19tk : PySem.W.takesIn K (.builtin "object.__class__") = some true)
    (y19mr : PySem.W.mroIn K C19 (.type "object") = some true)
    (y19no : PySem.W.findIn K (.ref C19) "value" = some none)
    (y19mz : PySem.W.mroIn K C19 (.ref C0) = some true)
    (y19ve : PySem.W.subIn K (.ref C19) (.type "ValueError") = some true)
    (y19ii : PySem.W.findIn K (.ref C19) "__init__" = some (some (.ref gI)))
    (y19s0 : PySem.W.subIn K (.ref C19) (.ref C0) = some true)
    (y19kv : PySem.W.subIn K (.ref C19) (.type "ValueError") = some true)
    (y19p0 : PySem.W.subIn K (.type "NoneType") (.ref C19) = some false)
    (y19p1 : PySem.W.subIn K (.type "bool") (.ref C19) = some false)
    (y19p2 : PySem.W.subIn K (.type "int") (.ref C19) = some false)
    (y19p3 : PySem.W.subIn K (.type "str") (.ref C19) = some false)
    (y19p4 : PySem.W.subIn K (.type "list") (.ref C19) = some false)
    (y19p5 : PySem.W.subIn K (.type "tuple") (.ref C19) = some false)
    (y19p6 : PySem.W.subIn K (.type "dict") (.ref C19) = some false)
    (y19q0 : PySem.W.subIn K (.ref C19) (.type "NoneType") = some false)
    (y19q1 : PySem.W.subIn K (.ref C19) (.type "bool") = some false)
    (y19q2 : PySem.W.subIn K (.ref C19) (.type "int") = some false)
    (y19q3 : PySem.W.subIn K (.ref C19) (.type "str") = some false)
    (y19q4 : PySem.W.subIn K (.ref C19) (.type "list") = some false)
    (y19q5 : PySem.W.subIn K (.ref C19) (.type "tuple") = some false)
    (y19q6 : PySem.W.subIn K (.ref C19) (.type "dict") = some false)
    (y19i0 : PySem.W.subIn K (.ref C19) (.ref C0) = some true)
    (y19i1 : PySem.W.subIn K (.ref C19) (.ref C1) = some false)
    (y19i2 : PySem.W.subIn K (.ref C19) (.ref C2) = some false)
    (y19i3 : PySem.W.subIn K (.ref C19) (.ref C3) = some false)
    (y19i4 : PySem.W.subIn K (.ref C19) (.ref C4) = some false)
    (y19i5 : PySem.W.subIn K (.ref C19) (.ref C5) = some false)
    (y19i6 : PySem.W.subIn K (.ref C19) (.ref C6) = some false)
    (y19i7 : PySem.W.subIn K (.ref C19) (.ref C7) = some false)
    (y19i8 : PySem.W.subIn K (.ref C19) (.ref C8) = some false)
    (y19i9 : PySem.W.subIn K (.ref C19) (.ref C9) = some false)
    (y19i10 : PySem.W.subIn K (.ref C19) (.ref C10) = some false)
    (y19i11 : PySem.W.subIn K (.ref C19) (.ref C11) = some false)
    (y19i12 : PySem.W.subIn K (.ref C19) (.ref C12) = some false)
    (y19i13 : PySem.W.subIn K (.ref C19) (.ref C13) = some false)
    (y19i14 : PySem.W.subIn K (.ref C19) (.ref C14) = some false)
    (y19i15 : PySem.W.subIn K (.ref C19) (.ref C15) = some false)
    (y19i16 : PySem.W.subIn K (.ref C19) (.ref C16) = some false)
    (y19i17 : PySem.W.subIn K (.ref C19) (.ref C17) = some false)
    (y19i18 : PySem.W.subIn K (.ref C19) (.ref C18) = some false)
    (y19i19 : PySem.W.subIn K (.ref C19) (.ref C19) = some true)
    (tI : PySem.W.typeIn K (.ref gI) = some (.type "function"))
    (lI : K.lookup gI = some ⟨ocI, odI, .func (PySem.W.ksFn "__init__" "DrawError.__init__" (defArgs sI) iB iniScope (.ref dVI) kVI dcI pmI anI (.ref cda) ctI ccI), slI⟩)
    (lD : K.lookup dVI = some ⟨ocD, odD, .seq (#[.none]) nD, slD⟩)
    (cI : PySem.W.codeIn K (.ref cda) "DrawError.__init__" = true)
    (eI : K.lookup cda = some ⟨ccl, cdd, .fields fvs, ccs⟩)
    (vI : fvs[2]? = some (.str file tf))
    (fI : ((prog.main.file : Str) == file) = true)
    (kI : K.lookup ccI = some ⟨cl1, cld, .cell (some (.ref C0)), csl⟩)
    (oI : PySem.W.nsIn K cStatics "thirdparty.any" = some none)
    (uI : PySem.W.nsIn K mainGlobals "super" = some none)
    (d0 : PySem.W.nsIn K mainGlobals "NOUGHT" = some (some (.ref ta0)))
    (dl0 : K.lookup ta0 = some ⟨.type "tuple", to0, .seq (#[.int 0 tz0_0, .int 1 tz0_1]) tn0, ts0⟩)
    (d1 : PySem.W.nsIn K mainGlobals "WHOLE" = some (some (.ref ta1)))
    (dl1 : K.lookup ta1 = some ⟨.type "tuple", to1, .seq (#[.int 1 tz1_0, .int 1 tz1_1]) tn1, ts1⟩)
    (d2 : PySem.W.nsIn K mainGlobals "MOST_UNITS" = some (some (.int 6 tk2)))
    (bl0 : PySem.W.nsIn K mainGlobals "len" = some none)
    (bl1 : PySem.W.nsIn K mainGlobals "abs" = some none)
    (bl2 : PySem.W.nsIn K mainGlobals "max" = some none)
    (bl3 : PySem.W.nsIn K mainGlobals "min" = some none)
    (bl4 : PySem.W.nsIn K mainGlobals "int" = some none)
    (bl5 : PySem.W.nsIn K mainGlobals "str" = some none)
    (bl6 : PySem.W.nsIn K mainGlobals "sum" = some none)
    (bl7 : PySem.W.nsIn K mainGlobals "all" = some none)
    (bl8 : PySem.W.nsIn K mainGlobals "any" = some none)
    (bl9 : PySem.W.nsIn K mainGlobals "list" = some none)
    (bl10 : PySem.W.nsIn K mainGlobals "tuple" = some none)
    (bl11 : PySem.W.nsIn K mainGlobals "sorted" = some none)
    (bl12 : PySem.W.nsIn K mainGlobals "repr" = some none)
    (bl13 : PySem.W.nsIn K mainGlobals "isinstance" = some none)
    (bl14 : PySem.W.nsIn K mainGlobals "bool" = some none)
    (bl15 : PySem.W.nsIn K mainGlobals "range" = some none)
    (bl16 : PySem.W.nsIn K mainGlobals "enumerate" = some none)
    (bl17 : PySem.W.nsIn K mainGlobals "zip" = some none)
    (bl18 : PySem.W.nsIn K mainGlobals "ValueError" = some none) :
    ∃ (fd : FuncData) (Ω : Heap → Wd), (∀ (s : Shared) (u : Value), BindsTo s fd ⟨[u], []⟩ [("script", u)]) ∧ (∀ b, (Ω b).P = prog ∧ (Ω b).w = w ∧ (Ω b).K = K ∧ (Ω b).mg = mg ∧ (Ω b).base = b) ∧
      ∀ b : Heap, K.In b → b.Ns mainGlobals mg → FnG (Ω b) (40 + 3) fa fd ["script"] (spOf (Ω b) tab 40 59) := by
  have e := hfa.symm.trans (PySem.W.mg_of X G a59)
  cases e
  have F0 := fun_mk (st := s0) l0 c0 k0
  have B0 := F0.binds (ps := f0.ps) fun _ _ _ _ _ _ us hl => match us, hl with | [_], _ => rfl
  have F1 := fun_mk (st := s1) l1 c1 k1
  have B1 := F1.binds (ps := f1.ps) fun _ _ _ _ _ _ us hl => match us, hl with | [_], _ => rfl
  have F2 := fun_mk (st := s2) l2 c2 k2
  have B2 := F2.binds (ps := f2.ps) fun _ _ _ _ _ _ us hl => match us, hl with | [_, _], _ => rfl
  have F3 := fun_mk (st := s3) l3 c3 k3
  have B3 := F3.binds (ps := f3.ps) fun _ _ _ _ _ _ us hl => match us, hl with | [_, _], _ => rfl
  have F4 := fun_mk (st := s4) l4 c4 k4
  have B4 := F4.binds (ps := f4.ps) fun _ _ _ _ _ _ us hl => match us, hl with | [_], _ => rfl
  have F5 := fun_mk (st := s5) l5 c5 k5
  have B5 := F5.binds (ps := f5.ps) fun _ _ _ _ _ _ us hl => match us, hl with | [_], _ => rfl
  have F6 := fun_mk (st := s6) l6 c6 k6
  have B6 := F6.binds (ps := f6.ps) fun _ _ _ _ _ _ us hl => match us, hl with | [_, _], _ => rfl
  have F7 := fun_mk (st := s7) l7 c7 k7
  have B7 := F7.binds (ps := f7.ps) fun _ _ _ _ _ _ us hl => match us, hl with | [_, _], _ => rfl
  have F8 := fun_mk (st := s8) l8 c8 k8
  have B8 := F8.binds (ps := f8.ps) fun _ _ _ _ _ _ us hl => match us, hl with | [_, _], _ => rfl
  have F9 := fun_mk (st := s9) l9 c9 k9
  have B9 := F9.binds (ps := f9.ps) fun _ _ _ _ _ _ us hl => match us, hl with | [_, _], _ => rfl
  have F10 := fun_mk (st := s10) l10 c10 k10
  have B10 := F10.binds (ps := f10.ps) fun _ _ _ _ _ _ us hl => match us, hl with | [_, _], _ => rfl
  have F11 := fun_mk (st := s11) l11 c11 k11
  have B11 := F11.binds (ps := f11.ps) fun _ _ _ _ _ _ us hl => match us, hl with | [_, _], _ => rfl
  have F12 := fun_mk (st := s12) l12 c12 k12
  have B12 := F12.binds (ps := f12.ps) fun _ _ _ _ _ _ us hl => match us, hl with | [_, _], _ => rfl
  have F13 := fun_mk (st := s13) l13 c13 k13
  have B13 := F13.binds (ps := f13.ps) fun _ _ _ _ _ _ us hl => match us, hl with | [_], _ => rfl
  have F14 := fun_mk (st := s14) l14 c14 k14
  have B14 := F14.binds (ps := f14.ps) fun _ _ _ _ _ _ us hl => match us, hl with | [_, _], _ => rfl
  have F15 := fun_mk (st := s15) l15 c15 k15
  have B15 := F15.binds (ps := f15.ps) fun _ _ _ _ _ _ us hl => match us, hl with | [_], _ => rfl
  have F16 := fun_mk (st := s16) l16 c16 k16
  have B16 := F16.binds (ps := f16.ps) fun _ _ _ _ _ _ us hl => match us, hl with | [_], _ => rfl
  have F17 := fun_mk (st := s17) l17 c17 k17
  have B17 := F17.binds (ps := f17.ps) fun _ _ _ _ _ _ us hl => match us, hl with | [_, _], _ => rfl
  have F18 := fun_mk (st := s18) l18 c18 k18
  have B18 := F18.binds (ps := f18.ps) fun _ _ _ _ _ _ us hl => match us, hl with | [_, _], _ => rfl
  have F19 := fun_mk (st := s19) l19 c19 k19
  have B19 := F19.binds (ps := f19.ps) fun _ _ _ _ _ _ us hl => match us, hl with | [_, _], _ => rfl
  have F20 := fun_mk (st := s20) l20 c20 k20
  have B20 := F20.binds (ps := f20.ps) fun _ _ _ _ _ _ us hl => match us, hl with | [_], _ => rfl
  have F21 := fun_mk (st := s21) l21 c21 k21
  have B21 := F21.binds (ps := f21.ps) fun _ _ _ _ _ _ us hl => match us, hl with | [_], _ => rfl
  have F22 := fun_mk (st := s22) l22 c22 k22
  have B22 := F22.binds (ps := f22.ps) fun _ _ _ _ _ _ us hl => match us, hl with | [_], _ => rfl
  have F23 := fun_mk (st := s23) l23 c23 k23
  have B23 := F23.binds (ps := f23.ps) fun _ _ _ _ _ _ us hl => match us, hl with | [_], _ => rfl
  have F24 := fun_mk (st := s24) l24 c24 k24
  have B24 := F24.binds (ps := f24.ps) fun _ _ _ _ _ _ us hl => match us, hl with | [_, _], _ => rfl
  have F25 := fun_mk (st := s25) l25 c25 k25
  have B25 := F25.binds (ps := f25.ps) fun _ _ _ _ _ _ us hl => match us, hl with | [_], _ => rfl
  have F26 := fun_mk (st := s26) l26 c26 k26
  have B26 := F26.binds (ps := f26.ps) fun _ _ _ _ _ _ us hl => match us, hl with | [_, _], _ => rfl
  have F27 := fun_mk (st := s27) l27 c27 k27
  have B27 := F27.binds (ps := f27.ps) fun _ _ _ _ _ _ us hl => match us, hl with | [_], _ => rfl
  have F28 := fun_mk (st := s28) l28 c28 k28
  have B28 := F28.binds (ps := f28.ps) fun _ _ _ _ _ _ us hl => match us, hl with | [_], _ => rfl
  have F29 := fun_mk (st := s29) l29 c29 k29
  have B29 := F29.binds (ps := f29.ps) fun _ _ _ _ _ _ us hl => match us, hl with | [_, _], _ => rfl
  have F30 := fun_mk (st := s30) l30 c30 k30
  have B30 := F30.binds (ps := f30.ps) fun _ _ _ _ _ _ us hl => match us, hl with | [_, _], _ => rfl
  have F31 := fun_mk (st := s31) l31 c31 k31
  have B31 := F31.binds (ps := f31.ps) fun _ _ _ _ _ _ us hl => match us, hl with | [_, _], _ => rfl
  have F32 := fun_mk (st := s32) l32 c32 k32
  have B32 := F32.binds (ps := f32.ps) fun _ _ _ _ _ _ us hl => match us, hl with | [_, _], _ => rfl
  have F33 := fun_mk (st := s33) l33 c33 k33
  have B33 := F33.binds (ps := f33.ps) fun _ _ _ _ _ _ us hl => match us, hl with | [_, _], _ => rfl
  have F34 := fun_mk (st := s34) l34 c34 k34
  have B34 := F34.binds (ps := f34.ps) fun _ _ _ _ _ _ us hl => match us, hl with | [_], _ => rfl
  have F35 := fun_mk (st := s35) l35 c35 k35
  have B35 := F35.binds (ps := f35.ps) fun _ _ _ _ _ _ us hl => match us, hl with | [_, _], _ => rfl
  have F36 := fun_mk (st := s36) l36 c36 k36
  have B36 := F36.binds (ps := f36.ps) fun _ _ _ _ _ _ us hl => match us, hl with | [_, _], _ => rfl
  have F37 := fun_mk (st := s37) l37 c37 k37
  have B37 := F37.binds (ps := f37.ps) fun _ _ _ _ _ _ us hl => match us, hl with | [_, _], _ => rfl
  have F38 := fun_mk (st := s38) l38 c38 k38
  have B38 := F38.binds (ps := f38.ps) fun _ _ _ _ _ _ us hl => match us, hl with | [_], _ => rfl
  have F39 := fun_mk (st := s39) l39 c39 k39
  have B39 := F39.binds (ps := f39.ps) fun _ _ _ _ _ _ us hl => match us, hl with | [_], _ => rfl
  have F40 := fun_mk (st := s40) l40 c40 k40
  have B40 := F40.binds (ps := f40.ps) fun _ _ _ _ _ _ us hl => match us, hl with | [_, _, _], _ => rfl
  have F41 := fun_mk (st := s41) l41 c41 k41
  have B41 := F41.binds (ps := f41.ps) fun _ _ _ _ _ _ us hl => match us, hl with | [_, _], _ => rfl
  have F42 := fun_mk (st := s42) l42 c42 k42
  have B42 := F42.binds (ps := f42.ps) fun _ _ _ _ _ _ us hl => match us, hl with | [_, _], _ => rfl
  have F43 := fun_mk (st := s43) l43 c43 k43
  have B43 := F43.binds (ps := f43.ps) fun _ _ _ _ _ _ us hl => match us, hl with | [_, _], _ => rfl
  have F44 := fun_mk (st := s44) l44 c44 k44
  have B44 := F44.binds (ps := f44.ps) fun _ _ _ _ _ _ us hl => match us, hl with | [_, _, _], _ => rfl
  have F45 := fun_mk (st := s45) l45 c45 k45
  have B45 := F45.binds (ps := f45.ps) fun _ _ _ _ _ _ us hl => match us, hl with | [_, _], _ => rfl
  have F46 := fun_mk (st := s46) l46 c46 k46
  have B46 := F46.binds (ps := f46.ps) fun _ _ _ _ _ _ us hl => match us, hl with | [_, _, _], _ => rfl
  have F47 := fun_mk (st := s47) l47 c47 k47
  have B47 := F47.binds (ps := f47.ps) fun _ _ _ _ _ _ us hl => match us, hl with | [_], _ => rfl
  have F48 := fun_mk (st := s48) l48 c48 k48
  have B48 := F48.binds (ps := f48.ps) fun _ _ _ _ _ _ us hl => match us, hl with | [_], _ => rfl
  have F49 := fun_mk (st := s49) l49 c49 k49
  have B49 := F49.binds (ps := f49.ps) fun _ _ _ _ _ _ us hl => match us, hl with | [_], _ => rfl
  have F50 := fun_mk (st := s50) l50 c50 k50
  have B50 := F50.binds (ps := f50.ps) fun _ _ _ _ _ _ us hl => match us, hl with | [_], _ => rfl
  have F51 := fun_mk (st := s51) l51 c51 k51
  have B51 := F51.binds (ps := f51.ps) fun _ _ _ _ _ _ us hl => match us, hl with | [_, _], _ => rfl
  have F52 := fun_mk (st := s52) l52 c52 k52
  have B52 := F52.binds (ps := f52.ps) fun _ _ _ _ _ _ us hl => match us, hl with | [_, _], _ => rfl
  have F53 := fun_mk (st := s53) l53 c53 k53
  have B53 := F53.binds (ps := f53.ps) fun _ _ _ _ _ _ us hl => match us, hl with | [_, _], _ => rfl
  have F54 := fun_mk (st := s54) l54 c54 k54
  have B54 := F54.binds (ps := f54.ps) fun _ _ _ _ _ _ us hl => match us, hl with | [_, _], _ => rfl
  have F55 := fun_mk (st := s55) l55 c55 k55
  have B55 := F55.binds (ps := f55.ps) fun _ _ _ _ _ _ us hl => match us, hl with | [_, _], _ => rfl
  have F56 := fun_mk (st := s56) l56 c56 k56
  have B56 := F56.binds (ps := f56.ps) fun _ _ _ _ _ _ us hl => match us, hl with | [_, _], _ => rfl
  have F57 := fun_mk (st := s57) l57 c57 k57
  have B57 := F57.binds (ps := f57.ps) fun _ _ _ _ _ _ us hl => match us, hl with | [_], _ => rfl
  have F58 := fun_mk (st := s58) l58 c58 k58
  have B58 := F58.binds (ps := f58.ps) fun _ _ _ _ _ _ us hl => match us, hl with | [_, _], _ => rfl
  have F59 := fun_mk (st := s59) l59 c59 k59
  have B59 := F59.binds (ps := f59.ps) fun _ _ _ _ _ _ us hl => match us, hl with | [_], _ => rfl
  let Ω : Heap → Wd := om w K mg [g0, g1, g2, g3, g4, g5, g6, g7, g8, g9, g10, g11, g12, g13, g14, g15, g16, g17, g18, g19, g20, g21, g22, g23, g24, g25, g26, g27, g28, g29, g30, g31, g32, g33, g34, g35, g36, g37, g38, g39, g40, g41, g42, g43, g44, g45, g46, g47, g48, g49, g50, g51, g52, g53, g54, g55, g56, g57, g58, fa] [C0, C1, C2, C3, C4, C5, C6, C7, C8, C9, C10, C11, C12, C13, C14, C15, C16, C17, C18, C19] [PySem.W.fnOf "is_whole" "is_whole" (defArgs s0) (defBody s0) (defScope s0) .none kV0 dc0 pm0 an0 cd0 ct0, PySem.W.fnOf "is_count" "is_count" (defArgs s1) (defBody s1) (defScope s1) .none kV1 dc1 pm1 an1 cd1 ct1, PySem.W.fnOf "common_divisor" "common_divisor" (defArgs s2) (defBody s2) (defScope s2) .none kV2 dc2 pm2 an2 cd2 ct2, PySem.W.fnOf "lowest" "lowest" (defArgs s3) (defBody s3) (defScope s3) .none kV3 dc3 pm3 an3 cd3 ct3, PySem.W.fnOf "is_fraction" "is_fraction" (defArgs s4) (defBody s4) (defScope s4) .none kV4 dc4 pm4 an4 cd4 ct4, PySem.W.fnOf "is_amount" "is_amount" (defArgs s5) (defBody s5) (defScope s5) .none kV5 dc5 pm5 an5 cd5 ct5, PySem.W.fnOf "are_fractions" "are_fractions" (defArgs s6) (defBody s6) (defScope s6) .none kV6 dc6 pm6 an6 cd6 ct6, PySem.W.fnOf "are_amounts" "are_amounts" (defArgs s7) (defBody s7) (defScope s7) .none kV7 dc7 pm7 an7 cd7 ct7, PySem.W.fnOf "plus" "plus" (defArgs s8) (defBody s8) (defScope s8) .none kV8 dc8 pm8 an8 cd8 ct8, PySem.W.fnOf "less" "less" (defArgs s9) (defBody s9) (defScope s9) .none kV9 dc9 pm9 an9 cd9 ct9, PySem.W.fnOf "times" "times" (defArgs s10) (defBody s10) (defScope s10) .none kV10 dc10 pm10 an10 cd10 ct10, PySem.W.fnOf "over" "over" (defArgs s11) (defBody s11) (defScope s11) .none kV11 dc11 pm11 an11 cd11 ct11, PySem.W.fnOf "is_less" "is_less" (defArgs s12) (defBody s12) (defScope s12) .none kV12 dc12 pm12 an12 cd12 ct12, PySem.W.fnOf "summed" "summed" (defArgs s13) (defBody s13) (defScope s13) .none kV13 dc13 pm13 an13 cd13 ct13, PySem.W.fnOf "product" "product" (defArgs s14) (defBody s14) (defScope s14) .none kV14 dc14 pm14 an14 cd14 ct14, PySem.W.fnOf "is_many" "is_many" (defArgs s15) (defBody s15) (defScope s15) .none kV15 dc15 pm15 an15 cd15 ct15, PySem.W.fnOf "check_many" "check_many" (defArgs s16) (defBody s16) (defScope s16) .none kV16 dc16 pm16 an16 cd16 ct16, PySem.W.fnOf "is_lot_by" "is_lot_by" (defArgs s17) (defBody s17) (defScope s17) .none kV17 dc17 pm17 an17 cd17 ct17, PySem.W.fnOf "check_lot" "check_lot" (defArgs s18) (defBody s18) (defScope s18) .none kV18 dc18 pm18 an18 cd18 ct18, PySem.W.fnOf "is_row_of" "is_row_of" (defArgs s19) (defBody s19) (defScope s19) .none kV19 dc19 pm19 an19 cd19 ct19, PySem.W.fnOf "is_design_by" "is_design_by" (defArgs s20) (defBody s20) (defScope s20) .none kV20 dc20 pm20 an20 cd20 ct20, PySem.W.fnOf "check_design" "check_design" (defArgs s21) (defBody s21) (defScope s21) .none kV21 dc21 pm21 an21 cd21 ct21, PySem.W.fnOf "many_in" "many_in" (defArgs s22) (defBody s22) (defScope s22) .none kV22 dc22 pm22 an22 cd22 ct22, PySem.W.fnOf "rows_in" "rows_in" (defArgs s23) (defBody s23) (defScope s23) .none kV23 dc23 pm23 an23 cd23 ct23, PySem.W.fnOf "lots_sized" "lots_sized" (defArgs s24) (defBody s24) (defScope s24) .none kV24 dc24 pm24 an24 cd24 ct24, PySem.W.fnOf "lots_of" "lots_of" (defArgs s25) (defBody s25) (defScope s25) .none kV25 dc25 pm25 an25 cd25 ct25, PySem.W.fnOf "design_of" "design_of" (defArgs s26) (defBody s26) (defScope s26) .none kV26 dc26 pm26 an26 cd26 ct26, PySem.W.fnOf "first_of" "first_of" (defArgs s27) (defBody s27) (defScope s27) .none kV27 dc27 pm27 an27 cd27 ct27, PySem.W.fnOf "unit_chances" "unit_chances" (defArgs s28) (defBody s28) (defScope s28) .none kV28 dc28 pm28 an28 cd28 ct28, PySem.W.fnOf "are_values_by" "are_values_by" (defArgs s29) (defBody s29) (defScope s29) .none kV29 dc29 pm29 an29 cd29 ct29, PySem.W.fnOf "check_values" "check_values" (defArgs s30) (defBody s30) (defScope s30) .none kV30 dc30 pm30 an30 cd30 ct30, PySem.W.fnOf "is_rule_by" "is_rule_by" (defArgs s31) (defBody s31) (defScope s31) .none kV31 dc31 pm31 an31 cd31 ct31, PySem.W.fnOf "check_rule" "check_rule" (defArgs s32) (defBody s32) (defScope s32) .none kV32 dc32 pm32 an32 cd32 ct32, PySem.W.fnOf "told_by" "told_by" (defArgs s33) (defBody s33) (defScope s33) .none kV33 dc33 pm33 an33 cd33 ct33, PySem.W.fnOf "chances_of_units" "chances_of_units" (defArgs s34) (defBody s34) (defScope s34) .none kV34 dc34 pm34 an34 cd34 ct34, PySem.W.fnOf "check_drawn" "check_drawn" (defArgs s35) (defBody s35) (defScope s35) .none kV35 dc35 pm35 an35 cd35 ct35, PySem.W.fnOf "all_in" "all_in" (defArgs s36) (defBody s36) (defScope s36) .none kV36 dc36 pm36 an36 cd36 ct36, PySem.W.fnOf "even_design" "even_design" (defArgs s37) (defBody s37) (defScope s37) .none kV37 dc37 pm37 an37 cd37 ct37, PySem.W.fnOf "are_parts" "are_parts" (defArgs s38) (defBody s38) (defScope s38) .none kV38 dc38 pm38 an38 cd38 ct38, PySem.W.fnOf "apart_design" "apart_design" (defArgs s39) (defBody s39) (defScope s39) .none kV39 dc39 pm39 an39 cd39 ct39, PySem.W.fnOf "given_by" "given_by" (defArgs s40) (defBody s40) (defScope s40) .none kV40 dc40 pm40 an40 cd40 ct40, PySem.W.fnOf "given_in" "given_in" (defArgs s41) (defBody s41) (defScope s41) .none kV41 dc41 pm41 an41 cd41 ct41, PySem.W.fnOf "beside" "beside" (defArgs s42) (defBody s42) (defScope s42) .none kV42 dc42 pm42 an42 cd42 ct42, PySem.W.fnOf "check_both" "check_both" (defArgs s43) (defBody s43) (defScope s43) .none kV43 dc43 pm43 an43 cd43 ct43, PySem.W.fnOf "check_told" "check_told" (defArgs s44) (defBody s44) (defScope s44) .none kV44 dc44 pm44 an44 cd44 ct44, PySem.W.fnOf "told_for" "told_for" (defArgs s45) (defBody s45) (defScope s45) .none kV45 dc45 pm45 an45 cd45 ct45, PySem.W.fnOf "told_sums" "told_sums" (defArgs s46) (defBody s46) (defScope s46) .none kV46 dc46 pm46 an46 cd46 ct46, PySem.W.fnOf "never_drawn" "never_drawn" (defArgs s47) (defBody s47) (defScope s47) .none kV47 dc47 pm47 an47 cd47 ct47, PySem.W.fnOf "even_by" "even_by" (defArgs s48) (defBody s48) (defScope s48) .none kV48 dc48 pm48 an48 cd48 ct48, PySem.W.fnOf "check_all_drawn" "check_all_drawn" (defArgs s49) (defBody s49) (defScope s49) .none kV49 dc49 pm49 an49 cd49 ct49, PySem.W.fnOf "even_rule" "even_rule" (defArgs s50) (defBody s50) (defScope s50) .none kV50 dc50 pm50 an50 cd50 ct50, PySem.W.fnOf "_law_hash" "_law_hash" (defArgs s51) (defBody s51) (defScope s51) .none kV51 dc51 pm51 an51 cd51 ct51, PySem.W.fnOf "_law_random" "_law_random" (defArgs s52) (defBody s52) (defScope s52) .none kV52 dc52 pm52 an52 cd52 ct52, PySem.W.fnOf "_law_cell" "_law_cell" (defArgs s53) (defBody s53) (defScope s53) .none kV53 dc53 pm53 an53 cd53 ct53, PySem.W.fnOf "_law_generator" "_law_generator" (defArgs s54) (defBody s54) (defScope s54) .none kV54 dc54 pm54 an54 cd54 ct54, PySem.W.fnOf "_law_pick" "_law_pick" (defArgs s55) (defBody s55) (defScope s55) .none kV55 dc55 pm55 an55 cd55 ct55, PySem.W.fnOf "_law_made" "_law_made" (defArgs s56) (defBody s56) (defScope s56) .none kV56 dc56 pm56 an56 cd56 ct56, PySem.W.fnOf "_law_kinds" "_law_kinds" (defArgs s57) (defBody s57) (defScope s57) .none kV57 dc57 pm57 an57 cd57 ct57, PySem.W.fnOf "_law_raised" "_law_raised" (defArgs s58) (defBody s58) (defScope s58) .none kV58 dc58 pm58 an58 cd58 ct58, PySem.W.fnOf "law" "law" (defArgs s59) (defBody s59) (defScope s59) .none kV59 dc59 pm59 an59 cd59 ct59] gI (PySem.W.ksFn "__init__" "DrawError.__init__" (defArgs sI) iB iniScope (.ref dVI) kVI dcI pmI anI (.ref cda) ctI ccI)
  have tos : ∀ b : Heap, K.In b → b.Ns mainGlobals mg → ∀ n, TO (Ω b) tab n := by
    intro b kb gb
    refine to_mk (Ω := Ω b) (Θ := tab) (st := sts) ?_ ?_ rfl ?_ ?_ ?_ ?_ ?_ ?_ ?_ ?_
    · exact ⟨⟨F0, PySem.W.mg_of X G a0, B0, sc0, rfl, ck0⟩, ⟨F1, PySem.W.mg_of X G a1, B1, sc1, rfl, ck1⟩, ⟨F2, PySem.W.mg_of X G a2, B2, sc2, rfl, ck2⟩, ⟨F3, PySem.W.mg_of X G a3, B3, sc3, rfl, ck3⟩, ⟨F4, PySem.W.mg_of X G a4, B4, sc4, rfl, ck4⟩, ⟨F5, PySem.W.mg_of X G a5, B5, sc5, rfl, ck5⟩, ⟨F6, PySem.W.mg_of X G a6, B6, sc6, rfl, ck6⟩, ⟨F7, PySem.W.mg_of X G a7, B7, sc7, rfl, ck7⟩, ⟨F8, PySem.W.mg_of X G a8, B8, sc8, rfl, ck8⟩, ⟨F9, PySem.W.mg_of X G a9, B9, sc9, rfl, ck9⟩, ⟨F10, PySem.W.mg_of X G a10, B10, sc10, rfl, ck10⟩, ⟨F11, PySem.W.mg_of X G a11, B11, sc11, rfl, ck11⟩, ⟨F12, PySem.W.mg_of X G a12, B12, sc12, rfl, ck12⟩, ⟨F13, PySem.W.mg_of X G a13, B13, sc13, rfl, ck13⟩, ⟨F14, PySem.W.mg_of X G a14, B14, sc14, rfl, ck14⟩, ⟨F15, PySem.W.mg_of X G a15, B15, sc15, rfl, ck15⟩, ⟨F16, PySem.W.mg_of X G a16, B16, sc16, rfl, ck16⟩, ⟨F17, PySem.W.mg_of X G a17, B17, sc17, rfl, ck17⟩, ⟨F18, PySem.W.mg_of X G a18, B18, sc18, rfl, ck18⟩, ⟨F19, PySem.W.mg_of X G a19, B19, sc19, rfl, ck19⟩, ⟨F20, PySem.W.mg_of X G a20, B20, sc20, rfl, ck20⟩, ⟨F21, PySem.W.mg_of X G a21, B21, sc21, rfl, ck21⟩, ⟨F22, PySem.W.mg_of X G a22, B22, sc22, rfl, ck22⟩, ⟨F23, PySem.W.mg_of X G a23, B23, sc23, rfl, ck23⟩, ⟨F24, PySem.W.mg_of X G a24, B24, sc24, rfl, ck24⟩, ⟨F25, PySem.W.mg_of X G a25, B25, sc25, rfl, ck25⟩, ⟨F26, PySem.W.mg_of X G a26, B26, sc26, rfl, ck26⟩, ⟨F27, PySem.W.mg_of X G a27, B27, sc27, rfl, ck27⟩, ⟨F28, PySem.W.mg_of X G a28, B28, sc28, rfl, ck28⟩, ⟨F29, PySem.W.mg_of X G a29, B29, sc29, rfl, ck29⟩, ⟨F30, PySem.W.mg_of X G a30, B30, sc30, rfl, ck30⟩, ⟨F31, PySem.W.mg_of X G a31, B31, sc31, rfl, ck31⟩, ⟨F32, PySem.W.mg_of X G a32, B32, sc32, rfl, ck32⟩, ⟨F33, PySem.W.mg_of X G a33, B33, sc33, rfl, ck33⟩, ⟨F34, PySem.W.mg_of X G a34, B34, sc34, rfl, ck34⟩, ⟨F35, PySem.W.mg_of X G a35, B35, sc35, rfl, ck35⟩, ⟨F36, PySem.W.mg_of X G a36, B36, sc36, rfl, ck36⟩, ⟨F37, PySem.W.mg_of X G a37, B37, sc37, rfl, ck37⟩, ⟨F38, PySem.W.mg_of X G a38, B38, sc38, rfl, ck38⟩, ⟨F39, PySem.W.mg_of X G a39, B39, sc39, rfl, ck39⟩, ⟨F40, PySem.W.mg_of X G a40, B40, sc40, rfl, ck40⟩, ⟨F41, PySem.W.mg_of X G a41, B41, sc41, rfl, ck41⟩, ⟨F42, PySem.W.mg_of X G a42, B42, sc42, rfl, ck42⟩, ⟨F43, PySem.W.mg_of X G a43, B43, sc43, rfl, ck43⟩, ⟨F44, PySem.W.mg_of X G a44, B44, sc44, rfl, ck44⟩, ⟨F45, PySem.W.mg_of X G a45, B45, sc45, rfl, ck45⟩, ⟨F46, PySem.W.mg_of X G a46, B46, sc46, rfl, ck46⟩, ⟨F47, PySem.W.mg_of X G a47, B47, sc47, rfl, ck47⟩, ⟨F48, PySem.W.mg_of X G a48, B48, sc48, rfl, ck48⟩, ⟨F49, PySem.W.mg_of X G a49, B49, sc49, rfl, ck49⟩, ⟨F50, PySem.W.mg_of X G a50, B50, sc50, rfl, ck50⟩, ⟨F51, PySem.W.mg_of X G a51, B51, sc51, rfl, ck51⟩, ⟨F52, PySem.W.mg_of X G a52, B52, sc52, rfl, ck52⟩, ⟨F53, PySem.W.mg_of X G a53, B53, sc53, rfl, ck53⟩, ⟨F54, PySem.W.mg_of X G a54, B54, sc54, rfl, ck54⟩, ⟨F55, PySem.W.mg_of X G a55, B55, sc55, rfl, ck55⟩, ⟨F56, PySem.W.mg_of X G a56, B56, sc56, rfl, ck56⟩, ⟨F57, PySem.W.mg_of X G a57, B57, sc57, rfl, ck57⟩, ⟨F58, PySem.W.mg_of X G a58, B58, sc58, rfl, ck58⟩, ⟨F59, PySem.W.mg_of X G a59, B59, sc59, rfl, ck59⟩, trivial⟩
    · exact ⟨{ nm := PySem.W.mg_of X G b0, ty := tys_mk (K := K) (kit_ref y0p0 y0i0 y0cl y0ty) (kit_ref y0p1 y0i0 y0cl y0ty) (kit_ref y0p2 y0i0 y0cl y0ty) (kit_ref y0p3 y0i0 y0cl y0ty) (kit_ref y0p4 y0i0 y0cl y0ty) (kit_ref y0p5 y0i0 y0cl y0ty) (kit_ref y0p6 y0i0 y0cl y0ty), ek := ⟨y0cl, y0ga, y0gt, y0eb, y0hd, y0ac, y0sp, y0tk, y0mr, y0no⟩, ib := tys_mk (K := K) (kit_typ (by decide +kernel) y0q0) (kit_typ (by decide +kernel) y0q1) (kit_typ (by decide +kernel) y0q2) (kit_typ (by decide +kernel) y0q3) (kit_typ (by decide +kernel) y0q4) (kit_typ (by decide +kernel) y0q5) (kit_typ (by decide +kernel) y0q6), iv := (kit_typ (by decide +kernel) y0kv), ox := ⟨⟨_, _, _, _, _, _, _, _, _, _, _, _, _, _, _, x0, rfl⟩, y0sa, y0eb, y0ty, y0kp⟩, su := ⟨(su_mk x0 (dw_own _ _)), y0mz, y0ve⟩, ii := y0ii, em := emx y0eb y0cl y0ty y0s0, is := fun k hk => match k, hk with | 0, _ => (kit_ref y0i0 y0i0 y0cl y0ty) | 1, _ => (kit_ref y0i1 y1i1 y1cl y1ty) | 2, _ => (kit_ref y0i2 y2i2 y2cl y2ty) | 3, _ => (kit_ref y0i3 y3i3 y3cl y3ty) | 4, _ => (kit_ref y0i4 y4i4 y4cl y4ty) | 5, _ => (kit_ref y0i5 y5i5 y5cl y5ty) | 6, _ => (kit_ref y0i6 y6i6 y6cl y6ty) | 7, _ => (kit_ref y0i7 y7i7 y7cl y7ty) | 8, _ => (kit_ref y0i8 y8i8 y8cl y8ty) | 9, _ => (kit_ref y0i9 y9i9 y9cl y9ty) | 10, _ => (kit_ref y0i10 y10i10 y10cl y10ty) | 11, _ => (kit_ref y0i11 y11i11 y11cl y11ty) | 12, _ => (kit_ref y0i12 y12i12 y12cl y12ty) | 13, _ => (kit_ref y0i13 y13i13 y13cl y13ty) | 14, _ => (kit_ref y0i14 y14i14 y14cl y14ty) | 15, _ => (kit_ref y0i15 y15i15 y15cl y15ty) | 16, _ => (kit_ref y0i16 y16i16 y16cl y16ty) | 17, _ => (kit_ref y0i17 y17i17 y17cl y17ty) | 18, _ => (kit_ref y0i18 y18i18 y18cl y18ty) | 19, _ => (kit_ref y0i19 y19i19 y19cl y19ty) | k + 20, hk => absurd hk (by show ¬ (k + 20 < 20); omega) }, { nm := PySem.W.mg_of X G b1, ty := tys_mk (K := K) (kit_ref y1p0 y1i1 y1cl y1ty) (kit_ref y1p1 y1i1 y1cl y1ty) (kit_ref y1p2 y1i1 y1cl y1ty) (kit_ref y1p3 y1i1 y1cl y1ty) (kit_ref y1p4 y1i1 y1cl y1ty) (kit_ref y1p5 y1i1 y1cl y1ty) (kit_ref y1p6 y1i1 y1cl y1ty), ek := ⟨y1cl, y1ga, y1gt, y1eb, y1hd, y1ac, y1sp, y1tk, y1mr, y1no⟩, ib := tys_mk (K := K) (kit_typ (by decide +kernel) y1q0) (kit_typ (by decide +kernel) y1q1) (kit_typ (by decide +kernel) y1q2) (kit_typ (by decide +kernel) y1q3) (kit_typ (by decide +kernel) y1q4) (kit_typ (by decide +kernel) y1q5) (kit_typ (by decide +kernel) y1q6), iv := (kit_typ (by decide +kernel) y1kv), ox := ⟨⟨_, _, _, _, _, _, _, _, _, _, _, _, _, _, _, x1, rfl⟩, y1sa, y1eb, y1ty, y1kp⟩, su := ⟨(su_mk x1 (dw_two (cls_ne x1 x0 (by intro z; cases z)) _)), y1mz, y1ve⟩, ii := y1ii, em := emx y0eb y0cl y0ty y1s0, is := fun k hk => match k, hk with | 0, _ => (kit_ref y1i0 y0i0 y0cl y0ty) | 1, _ => (kit_ref y1i1 y1i1 y1cl y1ty) | 2, _ => (kit_ref y1i2 y2i2 y2cl y2ty) | 3, _ => (kit_ref y1i3 y3i3 y3cl y3ty) | 4, _ => (kit_ref y1i4 y4i4 y4cl y4ty) | 5, _ => (kit_ref y1i5 y5i5 y5cl y5ty) | 6, _ => (kit_ref y1i6 y6i6 y6cl y6ty) | 7, _ => (kit_ref y1i7 y7i7 y7cl y7ty) | 8, _ => (kit_ref y1i8 y8i8 y8cl y8ty) | 9, _ => (kit_ref y1i9 y9i9 y9cl y9ty) | 10, _ => (kit_ref y1i10 y10i10 y10cl y10ty) | 11, _ => (kit_ref y1i11 y11i11 y11cl y11ty) | 12, _ => (kit_ref y1i12 y12i12 y12cl y12ty) | 13, _ => (kit_ref y1i13 y13i13 y13cl y13ty) | 14, _ => (kit_ref y1i14 y14i14 y14cl y14ty) | 15, _ => (kit_ref y1i15 y15i15 y15cl y15ty) | 16, _ => (kit_ref y1i16 y16i16 y16cl y16ty) | 17, _ => (kit_ref y1i17 y17i17 y17cl y17ty) | 18, _ => (kit_ref y1i18 y18i18 y18cl y18ty) | 19, _ => (kit_ref y1i19 y19i19 y19cl y19ty) | k + 20, hk => absurd hk (by show ¬ (k + 20 < 20); omega) }, { nm := PySem.W.mg_of X G b2, ty := tys_mk (K := K) (kit_ref y2p0 y2i2 y2cl y2ty) (kit_ref y2p1 y2i2 y2cl y2ty) (kit_ref y2p2 y2i2 y2cl y2ty) (kit_ref y2p3 y2i2 y2cl y2ty) (kit_ref y2p4 y2i2 y2cl y2ty) (kit_ref y2p5 y2i2 y2cl y2ty) (kit_ref y2p6 y2i2 y2cl y2ty), ek := ⟨y2cl, y2ga, y2gt, y2eb, y2hd, y2ac, y2sp, y2tk, y2mr, y2no⟩, ib := tys_mk (K := K) (kit_typ (by decide +kernel) y2q0) (kit_typ (by decide +kernel) y2q1) (kit_typ (by decide +kernel) y2q2) (kit_typ (by decide +kernel) y2q3) (kit_typ (by decide +kernel) y2q4) (kit_typ (by decide +kernel) y2q5) (kit_typ (by decide +kernel) y2q6), iv := (kit_typ (by decide +kernel) y2kv), ox := ⟨⟨_, _, _, _, _, _, _, _, _, _, _, _, _, _, _, x2, rfl⟩, y2sa, y2eb, y2ty, y2kp⟩, su := ⟨(su_mk x2 (dw_two (cls_ne x2 x0 (by intro z; cases z)) _)), y2mz, y2ve⟩, ii := y2ii, em := emx y0eb y0cl y0ty y2s0, is := fun k hk => match k, hk with | 0, _ => (kit_ref y2i0 y0i0 y0cl y0ty) | 1, _ => (kit_ref y2i1 y1i1 y1cl y1ty) | 2, _ => (kit_ref y2i2 y2i2 y2cl y2ty) | 3, _ => (kit_ref y2i3 y3i3 y3cl y3ty) | 4, _ => (kit_ref y2i4 y4i4 y4cl y4ty) | 5, _ => (kit_ref y2i5 y5i5 y5cl y5ty) | 6, _ => (kit_ref y2i6 y6i6 y6cl y6ty) | 7, _ => (kit_ref y2i7 y7i7 y7cl y7ty) | 8, _ => (kit_ref y2i8 y8i8 y8cl y8ty) | 9, _ => (kit_ref y2i9 y9i9 y9cl y9ty) | 10, _ => (kit_ref y2i10 y10i10 y10cl y10ty) | 11, _ => (kit_ref y2i11 y11i11 y11cl y11ty) | 12, _ => (kit_ref y2i12 y12i12 y12cl y12ty) | 13, _ => (kit_ref y2i13 y13i13 y13cl y13ty) | 14, _ => (kit_ref y2i14 y14i14 y14cl y14ty) | 15, _ => (kit_ref y2i15 y15i15 y15cl y15ty) | 16, _ => (kit_ref y2i16 y16i16 y16cl y16ty) | 17, _ => (kit_ref y2i17 y17i17 y17cl y17ty) | 18, _ => (kit_ref y2i18 y18i18 y18cl y18ty) | 19, _ => (kit_ref y2i19 y19i19 y19cl y19ty) | k + 20, hk => absurd hk (by show ¬ (k + 20 < 20); omega) }, { nm := PySem.W.mg_of X G b3, ty := tys_mk (K := K) (kit_ref y3p0 y3i3 y3cl y3ty) (kit_ref y3p1 y3i3 y3cl y3ty) (kit_ref y3p2 y3i3 y3cl y3ty) (kit_ref y3p3 y3i3 y3cl y3ty) (kit_ref y3p4 y3i3 y3cl y3ty) (kit_ref y3p5 y3i3 y3cl y3ty) (kit_ref y3p6 y3i3 y3cl y3ty), ek := ⟨y3cl, y3ga, y3gt, y3eb, y3hd, y3ac, y3sp, y3tk, y3mr, y3no⟩, ib := tys_mk (K := K) (kit_typ (by decide +kernel) y3q0) (kit_typ (by decide +kernel) y3q1) (kit_typ (by decide +kernel) y3q2) (kit_typ (by decide +kernel) y3q3) (kit_typ (by decide +kernel) y3q4) (kit_typ (by decide +kernel) y3q5) (kit_typ (by decide +kernel) y3q6), iv := (kit_typ (by decide +kernel) y3kv), ox := ⟨⟨_, _, _, _, _, _, _, _, _, _, _, _, _, _, _, x3, rfl⟩, y3sa, y3eb, y3ty, y3kp⟩, su := ⟨(su_mk x3 (dw_two (cls_ne x3 x0 (by intro z; cases z)) _)), y3mz, y3ve⟩, ii := y3ii, em := emx y0eb y0cl y0ty y3s0, is := fun k hk => match k, hk with | 0, _ => (kit_ref y3i0 y0i0 y0cl y0ty) | 1, _ => (kit_ref y3i1 y1i1 y1cl y1ty) | 2, _ => (kit_ref y3i2 y2i2 y2cl y2ty) | 3, _ => (kit_ref y3i3 y3i3 y3cl y3ty) | 4, _ => (kit_ref y3i4 y4i4 y4cl y4ty) | 5, _ => (kit_ref y3i5 y5i5 y5cl y5ty) | 6, _ => (kit_ref y3i6 y6i6 y6cl y6ty) | 7, _ => (kit_ref y3i7 y7i7 y7cl y7ty) | 8, _ => (kit_ref y3i8 y8i8 y8cl y8ty) | 9, _ => (kit_ref y3i9 y9i9 y9cl y9ty) | 10, _ => (kit_ref y3i10 y10i10 y10cl y10ty) | 11, _ => (kit_ref y3i11 y11i11 y11cl y11ty) | 12, _ => (kit_ref y3i12 y12i12 y12cl y12ty) | 13, _ => (kit_ref y3i13 y13i13 y13cl y13ty) | 14, _ => (kit_ref y3i14 y14i14 y14cl y14ty) | 15, _ => (kit_ref y3i15 y15i15 y15cl y15ty) | 16, _ => (kit_ref y3i16 y16i16 y16cl y16ty) | 17, _ => (kit_ref y3i17 y17i17 y17cl y17ty) | 18, _ => (kit_ref y3i18 y18i18 y18cl y18ty) | 19, _ => (kit_ref y3i19 y19i19 y19cl y19ty) | k + 20, hk => absurd hk (by show ¬ (k + 20 < 20); omega) }, { nm := PySem.W.mg_of X G b4, ty := tys_mk (K := K) (kit_ref y4p0 y4i4 y4cl y4ty) (kit_ref y4p1 y4i4 y4cl y4ty) (kit_ref y4p2 y4i4 y4cl y4ty) (kit_ref y4p3 y4i4 y4cl y4ty) (kit_ref y4p4 y4i4 y4cl y4ty) (kit_ref y4p5 y4i4 y4cl y4ty) (kit_ref y4p6 y4i4 y4cl y4ty), ek := ⟨y4cl, y4ga, y4gt, y4eb, y4hd, y4ac, y4sp, y4tk, y4mr, y4no⟩, ib := tys_mk (K := K) (kit_typ (by decide +kernel) y4q0) (kit_typ (by decide +kernel) y4q1) (kit_typ (by decide +kernel) y4q2) (kit_typ (by decide +kernel) y4q3) (kit_typ (by decide +kernel) y4q4) (kit_typ (by decide +kernel) y4q5) (kit_typ (by decide +kernel) y4q6), iv := (kit_typ (by decide +kernel) y4kv), ox := ⟨⟨_, _, _, _, _, _, _, _, _, _, _, _, _, _, _, x4, rfl⟩, y4sa, y4eb, y4ty, y4kp⟩, su := ⟨(su_mk x4 (dw_two (cls_ne x4 x0 (by intro z; cases z)) _)), y4mz, y4ve⟩, ii := y4ii, em := emx y0eb y0cl y0ty y4s0, is := fun k hk => match k, hk with | 0, _ => (kit_ref y4i0 y0i0 y0cl y0ty) | 1, _ => (kit_ref y4i1 y1i1 y1cl y1ty) | 2, _ => (kit_ref y4i2 y2i2 y2cl y2ty) | 3, _ => (kit_ref y4i3 y3i3 y3cl y3ty) | 4, _ => (kit_ref y4i4 y4i4 y4cl y4ty) | 5, _ => (kit_ref y4i5 y5i5 y5cl y5ty) | 6, _ => (kit_ref y4i6 y6i6 y6cl y6ty) | 7, _ => (kit_ref y4i7 y7i7 y7cl y7ty) | 8, _ => (kit_ref y4i8 y8i8 y8cl y8ty) | 9, _ => (kit_ref y4i9 y9i9 y9cl y9ty) | 10, _ => (kit_ref y4i10 y10i10 y10cl y10ty) | 11, _ => (kit_ref y4i11 y11i11 y11cl y11ty) | 12, _ => (kit_ref y4i12 y12i12 y12cl y12ty) | 13, _ => (kit_ref y4i13 y13i13 y13cl y13ty) | 14, _ => (kit_ref y4i14 y14i14 y14cl y14ty) | 15, _ => (kit_ref y4i15 y15i15 y15cl y15ty) | 16, _ => (kit_ref y4i16 y16i16 y16cl y16ty) | 17, _ => (kit_ref y4i17 y17i17 y17cl y17ty) | 18, _ => (kit_ref y4i18 y18i18 y18cl y18ty) | 19, _ => (kit_ref y4i19 y19i19 y19cl y19ty) | k + 20, hk => absurd hk (by show ¬ (k + 20 < 20); omega) }, { nm := PySem.W.mg_of X G b5, ty := tys_mk (K := K) (kit_ref y5p0 y5i5 y5cl y5ty) (kit_ref y5p1 y5i5 y5cl y5ty) (kit_ref y5p2 y5i5 y5cl y5ty) (kit_ref y5p3 y5i5 y5cl y5ty) (kit_ref y5p4 y5i5 y5cl y5ty) (kit_ref y5p5 y5i5 y5cl y5ty) (kit_ref y5p6 y5i5 y5cl y5ty), ek := ⟨y5cl, y5ga, y5gt, y5eb, y5hd, y5ac, y5sp, y5tk, y5mr, y5no⟩, ib := tys_mk (K := K) (kit_typ (by decide +kernel) y5q0) (kit_typ (by decide +kernel) y5q1) (kit_typ (by decide +kernel) y5q2) (kit_typ (by decide +kernel) y5q3) (kit_typ (by decide +kernel) y5q4) (kit_typ (by decide +kernel) y5q5) (kit_typ (by decide +kernel) y5q6), iv := (kit_typ (by decide +kernel) y5kv), ox := ⟨⟨_, _, _, _, _, _, _, _, _, _, _, _, _, _, _, x5, rfl⟩, y5sa, y5eb, y5ty, y5kp⟩, su := ⟨(su_mk x5 (dw_two (cls_ne x5 x0 (by intro z; cases z)) _)), y5mz, y5ve⟩, ii := y5ii, em := emx y0eb y0cl y0ty y5s0, is := fun k hk => match k, hk with | 0, _ => (kit_ref y5i0 y0i0 y0cl y0ty) | 1, _ => (kit_ref y5i1 y1i1 y1cl y1ty) | 2, _ => (kit_ref y5i2 y2i2 y2cl y2ty) | 3, _ => (kit_ref y5i3 y3i3 y3cl y3ty) | 4, _ => (kit_ref y5i4 y4i4 y4cl y4ty) | 5, _ => (kit_ref y5i5 y5i5 y5cl y5ty) | 6, _ => (kit_ref y5i6 y6i6 y6cl y6ty) | 7, _ => (kit_ref y5i7 y7i7 y7cl y7ty) | 8, _ => (kit_ref y5i8 y8i8 y8cl y8ty) | 9, _ => (kit_ref y5i9 y9i9 y9cl y9ty) | 10, _ => (kit_ref y5i10 y10i10 y10cl y10ty) | 11, _ => (kit_ref y5i11 y11i11 y11cl y11ty) | 12, _ => (kit_ref y5i12 y12i12 y12cl y12ty) | 13, _ => (kit_ref y5i13 y13i13 y13cl y13ty) | 14, _ => (kit_ref y5i14 y14i14 y14cl y14ty) | 15, _ => (kit_ref y5i15 y15i15 y15cl y15ty) | 16, _ => (kit_ref y5i16 y16i16 y16cl y16ty) | 17, _ => (kit_ref y5i17 y17i17 y17cl y17ty) | 18, _ => (kit_ref y5i18 y18i18 y18cl y18ty) | 19, _ => (kit_ref y5i19 y19i19 y19cl y19ty) | k + 20, hk => absurd hk (by show ¬ (k + 20 < 20); omega) }, { nm := PySem.W.mg_of X G b6, ty := tys_mk (K := K) (kit_ref y6p0 y6i6 y6cl y6ty) (kit_ref y6p1 y6i6 y6cl y6ty) (kit_ref y6p2 y6i6 y6cl y6ty) (kit_ref y6p3 y6i6 y6cl y6ty) (kit_ref y6p4 y6i6 y6cl y6ty) (kit_ref y6p5 y6i6 y6cl y6ty) (kit_ref y6p6 y6i6 y6cl y6ty), ek := ⟨y6cl, y6ga, y6gt, y6eb, y6hd, y6ac, y6sp, y6tk, y6mr, y6no⟩, ib := tys_mk (K := K) (kit_typ (by decide +kernel) y6q0) (kit_typ (by decide +kernel) y6q1) (kit_typ (by decide +kernel) y6q2) (kit_typ (by decide +kernel) y6q3) (kit_typ (by decide +kernel) y6q4) (kit_typ (by decide +kernel) y6q5) (kit_typ (by decide +kernel) y6q6), iv := (kit_typ (by decide +kernel) y6kv), ox := ⟨⟨_, _, _, _, _, _, _, _, _, _, _, _, _, _, _, x6, rfl⟩, y6sa, y6eb, y6ty, y6kp⟩, su := ⟨(su_mk x6 (dw_two (cls_ne x6 x0 (by intro z; cases z)) _)), y6mz, y6ve⟩, ii := y6ii, em := emx y0eb y0cl y0ty y6s0, is := fun k hk => match k, hk with | 0, _ => (kit_ref y6i0 y0i0 y0cl y0ty) | 1, _ => (kit_ref y6i1 y1i1 y1cl y1ty) | 2, _ => (kit_ref y6i2 y2i2 y2cl y2ty) | 3, _ => (kit_ref y6i3 y3i3 y3cl y3ty) | 4, _ => (kit_ref y6i4 y4i4 y4cl y4ty) | 5, _ => (kit_ref y6i5 y5i5 y5cl y5ty) | 6, _ => (kit_ref y6i6 y6i6 y6cl y6ty) | 7, _ => (kit_ref y6i7 y7i7 y7cl y7ty) | 8, _ => (kit_ref y6i8 y8i8 y8cl y8ty) | 9, _ => (kit_ref y6i9 y9i9 y9cl y9ty) | 10, _ => (kit_ref y6i10 y10i10 y10cl y10ty) | 11, _ => (kit_ref y6i11 y11i11 y11cl y11ty) | 12, _ => (kit_ref y6i12 y12i12 y12cl y12ty) | 13, _ => (kit_ref y6i13 y13i13 y13cl y13ty) | 14, _ => (kit_ref y6i14 y14i14 y14cl y14ty) | 15, _ => (kit_ref y6i15 y15i15 y15cl y15ty) | 16, _ => (kit_ref y6i16 y16i16 y16cl y16ty) | 17, _ => (kit_ref y6i17 y17i17 y17cl y17ty) | 18, _ => (kit_ref y6i18 y18i18 y18cl y18ty) | 19, _ => (kit_ref y6i19 y19i19 y19cl y19ty) | k + 20, hk => absurd hk (by show ¬ (k + 20 < 20); omega) }, { nm := PySem.W.mg_of X G b7, ty := tys_mk (K := K) (kit_ref y7p0 y7i7 y7cl y7ty) (kit_ref y7p1 y7i7 y7cl y7ty) (kit_ref y7p2 y7i7 y7cl y7ty) (kit_ref y7p3 y7i7 y7cl y7ty) (kit_ref y7p4 y7i7 y7cl y7ty) (kit_ref y7p5 y7i7 y7cl y7ty) (kit_ref y7p6 y7i7 y7cl y7ty), ek := ⟨y7cl, y7ga, y7gt, y7eb, y7hd, y7ac, y7sp, y7tk, y7mr, y7no⟩, ib := tys_mk (K := K) (kit_typ (by decide +kernel) y7q0) (kit_typ (by decide +kernel) y7q1) (kit_typ (by decide +kernel) y7q2) (kit_typ (by decide +kernel) y7q3) (kit_typ (by decide +kernel) y7q4) (kit_typ (by decide +kernel) y7q5) (kit_typ (by decide +kernel) y7q6), iv := (kit_typ (by decide +kernel) y7kv), ox := ⟨⟨_, _, _, _, _, _, _, _, _, _, _, _, _, _, _, x7, rfl⟩, y7sa, y7eb, y7ty, y7kp⟩, su := ⟨(su_mk x7 (dw_two (cls_ne x7 x0 (by intro z; cases z)) _)), y7mz, y7ve⟩, ii := y7ii, em := emx y0eb y0cl y0ty y7s0, is := fun k hk => match k, hk with | 0, _ => (kit_ref y7i0 y0i0 y0cl y0ty) | 1, _ => (kit_ref y7i1 y1i1 y1cl y1ty) | 2, _ => (kit_ref y7i2 y2i2 y2cl y2ty) | 3, _ => (kit_ref y7i3 y3i3 y3cl y3ty) | 4, _ => (kit_ref y7i4 y4i4 y4cl y4ty) | 5, _ => (kit_ref y7i5 y5i5 y5cl y5ty) | 6, _ => (kit_ref y7i6 y6i6 y6cl y6ty) | 7, _ => (kit_ref y7i7 y7i7 y7cl y7ty) | 8, _ => (kit_ref y7i8 y8i8 y8cl y8ty) | 9, _ => (kit_ref y7i9 y9i9 y9cl y9ty) | 10, _ => (kit_ref y7i10 y10i10 y10cl y10ty) | 11, _ => (kit_ref y7i11 y11i11 y11cl y11ty) | 12, _ => (kit_ref y7i12 y12i12 y12cl y12ty) | 13, _ => (kit_ref y7i13 y13i13 y13cl y13ty) | 14, _ => (kit_ref y7i14 y14i14 y14cl y14ty) | 15, _ => (kit_ref y7i15 y15i15 y15cl y15ty) | 16, _ => (kit_ref y7i16 y16i16 y16cl y16ty) | 17, _ => (kit_ref y7i17 y17i17 y17cl y17ty) | 18, _ => (kit_ref y7i18 y18i18 y18cl y18ty) | 19, _ => (kit_ref y7i19 y19i19 y19cl y19ty) | k + 20, hk => absurd hk (by show ¬ (k + 20 < 20); omega) }, { nm := PySem.W.mg_of X G b8, ty := tys_mk (K := K) (kit_ref y8p0 y8i8 y8cl y8ty) (kit_ref y8p1 y8i8 y8cl y8ty) (kit_ref y8p2 y8i8 y8cl y8ty) (kit_ref y8p3 y8i8 y8cl y8ty) (kit_ref y8p4 y8i8 y8cl y8ty) (kit_ref y8p5 y8i8 y8cl y8ty) (kit_ref y8p6 y8i8 y8cl y8ty), ek := ⟨y8cl, y8ga, y8gt, y8eb, y8hd, y8ac, y8sp, y8tk, y8mr, y8no⟩, ib := tys_mk (K := K) (kit_typ (by decide +kernel) y8q0) (kit_typ (by decide +kernel) y8q1) (kit_typ (by decide +kernel) y8q2) (kit_typ (by decide +kernel) y8q3) (kit_typ (by decide +kernel) y8q4) (kit_typ (by decide +kernel) y8q5) (kit_typ (by decide +kernel) y8q6), iv := (kit_typ (by decide +kernel) y8kv), ox := ⟨⟨_, _, _, _, _, _, _, _, _, _, _, _, _, _, _, x8, rfl⟩, y8sa, y8eb, y8ty, y8kp⟩, su := ⟨(su_mk x8 (dw_two (cls_ne x8 x0 (by intro z; cases z)) _)), y8mz, y8ve⟩, ii := y8ii, em := emx y0eb y0cl y0ty y8s0, is := fun k hk => match k, hk with | 0, _ => (kit_ref y8i0 y0i0 y0cl y0ty) | 1, _ => (kit_ref y8i1 y1i1 y1cl y1ty) | 2, _ => (kit_ref y8i2 y2i2 y2cl y2ty) | 3, _ => (kit_ref y8i3 y3i3 y3cl y3ty) | 4, _ => (kit_ref y8i4 y4i4 y4cl y4ty) | 5, _ => (kit_ref y8i5 y5i5 y5cl y5ty) | 6, _ => (kit_ref y8i6 y6i6 y6cl y6ty) | 7, _ => (kit_ref y8i7 y7i7 y7cl y7ty) | 8, _ => (kit_ref y8i8 y8i8 y8cl y8ty) | 9, _ => (kit_ref y8i9 y9i9 y9cl y9ty) | 10, _ => (kit_ref y8i10 y10i10 y10cl y10ty) | 11, _ => (kit_ref y8i11 y11i11 y11cl y11ty) | 12, _ => (kit_ref y8i12 y12i12 y12cl y12ty) | 13, _ => (kit_ref y8i13 y13i13 y13cl y13ty) | 14, _ => (kit_ref y8i14 y14i14 y14cl y14ty) | 15, _ => (kit_ref y8i15 y15i15 y15cl y15ty) | 16, _ => (kit_ref y8i16 y16i16 y16cl y16ty) | 17, _ => (kit_ref y8i17 y17i17 y17cl y17ty) | 18, _ => (kit_ref y8i18 y18i18 y18cl y18ty) | 19, _ => (kit_ref y8i19 y19i19 y19cl y19ty) | k + 20, hk => absurd hk (by show ¬ (k + 20 < 20); omega) }, { nm := PySem.W.mg_of X G b9, ty := tys_mk (K := K) (kit_ref y9p0 y9i9 y9cl y9ty) (kit_ref y9p1 y9i9 y9cl y9ty) (kit_ref y9p2 y9i9 y9cl y9ty) (kit_ref y9p3 y9i9 y9cl y9ty) (kit_ref y9p4 y9i9 y9cl y9ty) (kit_ref y9p5 y9i9 y9cl y9ty) (kit_ref y9p6 y9i9 y9cl y9ty), ek := ⟨y9cl, y9ga, y9gt, y9eb, y9hd, y9ac, y9sp, y9tk, y9mr, y9no⟩, ib := tys_mk (K := K) (kit_typ (by decide +kernel) y9q0) (kit_typ (by decide +kernel) y9q1) (kit_typ (by decide +kernel) y9q2) (kit_typ (by decide +kernel) y9q3) (kit_typ (by decide +kernel) y9q4) (kit_typ (by decide +kernel) y9q5) (kit_typ (by decide +kernel) y9q6), iv := (kit_typ (by decide +kernel) y9kv), ox := ⟨⟨_, _, _, _, _, _, _, _, _, _, _, _, _, _, _, x9, rfl⟩, y9sa, y9eb, y9ty, y9kp⟩, su := ⟨(su_mk x9 (dw_two (cls_ne x9 x0 (by intro z; cases z)) _)), y9mz, y9ve⟩, ii := y9ii, em := emx y0eb y0cl y0ty y9s0, is := fun k hk => match k, hk with | 0, _ => (kit_ref y9i0 y0i0 y0cl y0ty) | 1, _ => (kit_ref y9i1 y1i1 y1cl y1ty) | 2, _ => (kit_ref y9i2 y2i2 y2cl y2ty) | 3, _ => (kit_ref y9i3 y3i3 y3cl y3ty) | 4, _ => (kit_ref y9i4 y4i4 y4cl y4ty) | 5, _ => (kit_ref y9i5 y5i5 y5cl y5ty) | 6, _ => (kit_ref y9i6 y6i6 y6cl y6ty) | 7, _ => (kit_ref y9i7 y7i7 y7cl y7ty) | 8, _ => (kit_ref y9i8 y8i8 y8cl y8ty) | 9, _ => (kit_ref y9i9 y9i9 y9cl y9ty) | 10, _ => (kit_ref y9i10 y10i10 y10cl y10ty) | 11, _ => (kit_ref y9i11 y11i11 y11cl y11ty) | 12, _ => (kit_ref y9i12 y12i12 y12cl y12ty) | 13, _ => (kit_ref y9i13 y13i13 y13cl y13ty) | 14, _ => (kit_ref y9i14 y14i14 y14cl y14ty) | 15, _ => (kit_ref y9i15 y15i15 y15cl y15ty) | 16, _ => (kit_ref y9i16 y16i16 y16cl y16ty) | 17, _ => (kit_ref y9i17 y17i17 y17cl y17ty) | 18, _ => (kit_ref y9i18 y18i18 y18cl y18ty) | 19, _ => (kit_ref y9i19 y19i19 y19cl y19ty) | k + 20, hk => absurd hk (by show ¬ (k + 20 < 20); omega) }, { nm := PySem.W.mg_of X G b10, ty := tys_mk (K := K) (kit_ref y10p0 y10i10 y10cl y10ty) (kit_ref y10p1 y10i10 y10cl y10ty) (kit_ref y10p2 y10i10 y10cl y10ty) (kit_ref y10p3 y10i10 y10cl y10ty) (kit_ref y10p4 y10i10 y10cl y10ty) (kit_ref y10p5 y10i10 y10cl y10ty) (kit_ref y10p6 y10i10 y10cl y10ty), ek := ⟨y10cl, y10ga, y10gt, y10eb, y10hd, y10ac, y10sp, y10tk, y10mr, y10no⟩, ib := tys_mk (K := K) (kit_typ (by decide +kernel) y10q0) (kit_typ (by decide +kernel) y10q1) (kit_typ (by decide +kernel) y10q2) (kit_typ (by decide +kernel) y10q3) (kit_typ (by decide +kernel) y10q4) (kit_typ (by decide +kernel) y10q5) (kit_typ (by decide +kernel) y10q6), iv := (kit_typ (by decide +kernel) y10kv), ox := ⟨⟨_, _, _, _, _, _, _, _, _, _, _, _, _, _, _, x10, rfl⟩, y10sa, y10eb, y10ty, y10kp⟩, su := ⟨(su_mk x10 (dw_two (cls_ne x10 x0 (by intro z; cases z)) _)), y10mz, y10ve⟩, ii := y10ii, em := emx y0eb y0cl y0ty y10s0, is := fun k hk => match k, hk with | 0, _ => (kit_ref y10i0 y0i0 y0cl y0ty) | 1, _ => (kit_ref y10i1 y1i1 y1cl y1ty) | 2, _ => (kit_ref y10i2 y2i2 y2cl y2ty) | 3, _ => (kit_ref y10i3 y3i3 y3cl y3ty) | 4, _ => (kit_ref y10i4 y4i4 y4cl y4ty) | 5, _ => (kit_ref y10i5 y5i5 y5cl y5ty) | 6, _ => (kit_ref y10i6 y6i6 y6cl y6ty) | 7, _ => (kit_ref y10i7 y7i7 y7cl y7ty) | 8, _ => (kit_ref y10i8 y8i8 y8cl y8ty) | 9, _ => (kit_ref y10i9 y9i9 y9cl y9ty) | 10, _ => (kit_ref y10i10 y10i10 y10cl y10ty) | 11, _ => (kit_ref y10i11 y11i11 y11cl y11ty) | 12, _ => (kit_ref y10i12 y12i12 y12cl y12ty) | 13, _ => (kit_ref y10i13 y13i13 y13cl y13ty) | 14, _ => (kit_ref y10i14 y14i14 y14cl y14ty) | 15, _ => (kit_ref y10i15 y15i15 y15cl y15ty) | 16, _ => (kit_ref y10i16 y16i16 y16cl y16ty) | 17, _ => (kit_ref y10i17 y17i17 y17cl y17ty) | 18, _ => (kit_ref y10i18 y18i18 y18cl y18ty) | 19, _ => (kit_ref y10i19 y19i19 y19cl y19ty) | k + 20, hk => absurd hk (by show ¬ (k + 20 < 20); omega) }, { nm := PySem.W.mg_of X G b11, ty := tys_mk (K := K) (kit_ref y11p0 y11i11 y11cl y11ty) (kit_ref y11p1 y11i11 y11cl y11ty) (kit_ref y11p2 y11i11 y11cl y11ty) (kit_ref y11p3 y11i11 y11cl y11ty) (kit_ref y11p4 y11i11 y11cl y11ty) (kit_ref y11p5 y11i11 y11cl y11ty) (kit_ref y11p6 y11i11 y11cl y11ty), ek := ⟨y11cl, y11ga, y11gt, y11eb, y11hd, y11ac, y11sp, y11tk, y11mr, y11no⟩, ib := tys_mk (K := K) (kit_typ (by decide +kernel) y11q0) (kit_typ (by decide +kernel) y11q1) (kit_typ (by decide +kernel) y11q2) (kit_typ (by decide +kernel) y11q3) (kit_typ (by decide +kernel) y11q4) (kit_typ (by decide +kernel) y11q5) (kit_typ (by decide +kernel) y11q6), iv := (kit_typ (by decide +kernel) y11kv), ox := ⟨⟨_, _, _, _, _, _, _, _, _, _, _, _, _, _, _, x11, rfl⟩, y11sa, y11eb, y11ty, y11kp⟩, su := ⟨(su_mk x11 (dw_two (cls_ne x11 x0 (by intro z; cases z)) _)), y11mz, y11ve⟩, ii := y11ii, em := emx y0eb y0cl y0ty y11s0, is := fun k hk => match k, hk with | 0, _ => (kit_ref y11i0 y0i0 y0cl y0ty) | 1, _ => (kit_ref y11i1 y1i1 y1cl y1ty) | 2, _ => (kit_ref y11i2 y2i2 y2cl y2ty) | 3, _ => (kit_ref y11i3 y3i3 y3cl y3ty) | 4, _ => (kit_ref y11i4 y4i4 y4cl y4ty) | 5, _ => (kit_ref y11i5 y5i5 y5cl y5ty) | 6, _ => (kit_ref y11i6 y6i6 y6cl y6ty) | 7, _ => (kit_ref y11i7 y7i7 y7cl y7ty) | 8, _ => (kit_ref y11i8 y8i8 y8cl y8ty) | 9, _ => (kit_ref y11i9 y9i9 y9cl y9ty) | 10, _ => (kit_ref y11i10 y10i10 y10cl y10ty) | 11, _ => (kit_ref y11i11 y11i11 y11cl y11ty) | 12, _ => (kit_ref y11i12 y12i12 y12cl y12ty) | 13, _ => (kit_ref y11i13 y13i13 y13cl y13ty) | 14, _ => (kit_ref y11i14 y14i14 y14cl y14ty) | 15, _ => (kit_ref y11i15 y15i15 y15cl y15ty) | 16, _ => (kit_ref y11i16 y16i16 y16cl y16ty) | 17, _ => (kit_ref y11i17 y17i17 y17cl y17ty) | 18, _ => (kit_ref y11i18 y18i18 y18cl y18ty) | 19, _ => (kit_ref y11i19 y19i19 y19cl y19ty) | k + 20, hk => absurd hk (by show ¬ (k + 20 < 20); omega) }, { nm := PySem.W.mg_of X G b12, ty := tys_mk (K := K) (kit_ref y12p0 y12i12 y12cl y12ty) (kit_ref y12p1 y12i12 y12cl y12ty) (kit_ref y12p2 y12i12 y12cl y12ty) (kit_ref y12p3 y12i12 y12cl y12ty) (kit_ref y12p4 y12i12 y12cl y12ty) (kit_ref y12p5 y12i12 y12cl y12ty) (kit_ref y12p6 y12i12 y12cl y12ty), ek := ⟨y12cl, y12ga, y12gt, y12eb, y12hd, y12ac, y12sp, y12tk, y12mr, y12no⟩, ib := tys_mk (K := K) (kit_typ (by decide +kernel) y12q0) (kit_typ (by decide +kernel) y12q1) (kit_typ (by decide +kernel) y12q2) (kit_typ (by decide +kernel) y12q3) (kit_typ (by decide +kernel) y12q4) (kit_typ (by decide +kernel) y12q5) (kit_typ (by decide +kernel) y12q6), iv := (kit_typ (by decide +kernel) y12kv), ox := ⟨⟨_, _, _, _, _, _, _, _, _, _, _, _, _, _, _, x12, rfl⟩, y12sa, y12eb, y12ty, y12kp⟩, su := ⟨(su_mk x12 (dw_two (cls_ne x12 x0 (by intro z; cases z)) _)), y12mz, y12ve⟩, ii := y12ii, em := emx y0eb y0cl y0ty y12s0, is := fun k hk => match k, hk with | 0, _ => (kit_ref y12i0 y0i0 y0cl y0ty) | 1, _ => (kit_ref y12i1 y1i1 y1cl y1ty) | 2, _ => (kit_ref y12i2 y2i2 y2cl y2ty) | 3, _ => (kit_ref y12i3 y3i3 y3cl y3ty) | 4, _ => (kit_ref y12i4 y4i4 y4cl y4ty) | 5, _ => (kit_ref y12i5 y5i5 y5cl y5ty) | 6, _ => (kit_ref y12i6 y6i6 y6cl y6ty) | 7, _ => (kit_ref y12i7 y7i7 y7cl y7ty) | 8, _ => (kit_ref y12i8 y8i8 y8cl y8ty) | 9, _ => (kit_ref y12i9 y9i9 y9cl y9ty) | 10, _ => (kit_ref y12i10 y10i10 y10cl y10ty) | 11, _ => (kit_ref y12i11 y11i11 y11cl y11ty) | 12, _ => (kit_ref y12i12 y12i12 y12cl y12ty) | 13, _ => (kit_ref y12i13 y13i13 y13cl y13ty) | 14, _ => (kit_ref y12i14 y14i14 y14cl y14ty) | 15, _ => (kit_ref y12i15 y15i15 y15cl y15ty) | 16, _ => (kit_ref y12i16 y16i16 y16cl y16ty) | 17, _ => (kit_ref y12i17 y17i17 y17cl y17ty) | 18, _ => (kit_ref y12i18 y18i18 y18cl y18ty) | 19, _ => (kit_ref y12i19 y19i19 y19cl y19ty) | k + 20, hk => absurd hk (by show ¬ (k + 20 < 20); omega) }, { nm := PySem.W.mg_of X G b13, ty := tys_mk (K := K) (kit_ref y13p0 y13i13 y13cl y13ty) (kit_ref y13p1 y13i13 y13cl y13ty) (kit_ref y13p2 y13i13 y13cl y13ty) (kit_ref y13p3 y13i13 y13cl y13ty) (kit_ref y13p4 y13i13 y13cl y13ty) (kit_ref y13p5 y13i13 y13cl y13ty) (kit_ref y13p6 y13i13 y13cl y13ty), ek := ⟨y13cl, y13ga, y13gt, y13eb, y13hd, y13ac, y13sp, y13tk, y13mr, y13no⟩, ib := tys_mk (K := K) (kit_typ (by decide +kernel) y13q0) (kit_typ (by decide +kernel) y13q1) (kit_typ (by decide +kernel) y13q2) (kit_typ (by decide +kernel) y13q3) (kit_typ (by decide +kernel) y13q4) (kit_typ (by decide +kernel) y13q5) (kit_typ (by decide +kernel) y13q6), iv := (kit_typ (by decide +kernel) y13kv), ox := ⟨⟨_, _, _, _, _, _, _, _, _, _, _, _, _, _, _, x13, rfl⟩, y13sa, y13eb, y13ty, y13kp⟩, su := ⟨(su_mk x13 (dw_two (cls_ne x13 x0 (by intro z; cases z)) _)), y13mz, y13ve⟩, ii := y13ii, em := emx y0eb y0cl y0ty y13s0, is := fun k hk => match k, hk with | 0, _ => (kit_ref y13i0 y0i0 y0cl y0ty) | 1, _ => (kit_ref y13i1 y1i1 y1cl y1ty) | 2, _ => (kit_ref y13i2 y2i2 y2cl y2ty) | 3, _ => (kit_ref y13i3 y3i3 y3cl y3ty) | 4, _ => (kit_ref y13i4 y4i4 y4cl y4ty) | 5, _ => (kit_ref y13i5 y5i5 y5cl y5ty) | 6, _ => (kit_ref y13i6 y6i6 y6cl y6ty) | 7, _ => (kit_ref y13i7 y7i7 y7cl y7ty) | 8, _ => (kit_ref y13i8 y8i8 y8cl y8ty) | 9, _ => (kit_ref y13i9 y9i9 y9cl y9ty) | 10, _ => (kit_ref y13i10 y10i10 y10cl y10ty) | 11, _ => (kit_ref y13i11 y11i11 y11cl y11ty) | 12, _ => (kit_ref y13i12 y12i12 y12cl y12ty) | 13, _ => (kit_ref y13i13 y13i13 y13cl y13ty) | 14, _ => (kit_ref y13i14 y14i14 y14cl y14ty) | 15, _ => (kit_ref y13i15 y15i15 y15cl y15ty) | 16, _ => (kit_ref y13i16 y16i16 y16cl y16ty) | 17, _ => (kit_ref y13i17 y17i17 y17cl y17ty) | 18, _ => (kit_ref y13i18 y18i18 y18cl y18ty) | 19, _ => (kit_ref y13i19 y19i19 y19cl y19ty) | k + 20, hk => absurd hk (by show ¬ (k + 20 < 20); omega) }, { nm := PySem.W.mg_of X G b14, ty := tys_mk (K := K) (kit_ref y14p0 y14i14 y14cl y14ty) (kit_ref y14p1 y14i14 y14cl y14ty) (kit_ref y14p2 y14i14 y14cl y14ty) (kit_ref y14p3 y14i14 y14cl y14ty) (kit_ref y14p4 y14i14 y14cl y14ty) (kit_ref y14p5 y14i14 y14cl y14ty) (kit_ref y14p6 y14i14 y14cl y14ty), ek := ⟨y14cl, y14ga, y14gt, y14eb, y14hd, y14ac, y14sp, y14tk, y14mr, y14no⟩, ib := tys_mk (K := K) (kit_typ (by decide +kernel) y14q0) (kit_typ (by decide +kernel) y14q1) (kit_typ (by decide +kernel) y14q2) (kit_typ (by decide +kernel) y14q3) (kit_typ (by decide +kernel) y14q4) (kit_typ (by decide +kernel) y14q5) (kit_typ (by decide +kernel) y14q6), iv := (kit_typ (by decide +kernel) y14kv), ox := ⟨⟨_, _, _, _, _, _, _, _, _, _, _, _, _, _, _, x14, rfl⟩, y14sa, y14eb, y14ty, y14kp⟩, su := ⟨(su_mk x14 (dw_two (cls_ne x14 x0 (by intro z; cases z)) _)), y14mz, y14ve⟩, ii := y14ii, em := emx y0eb y0cl y0ty y14s0, is := fun k hk => match k, hk with | 0, _ => (kit_ref y14i0 y0i0 y0cl y0ty) | 1, _ => (kit_ref y14i1 y1i1 y1cl y1ty) | 2, _ => (kit_ref y14i2 y2i2 y2cl y2ty) | 3, _ => (kit_ref y14i3 y3i3 y3cl y3ty) | 4, _ => (kit_ref y14i4 y4i4 y4cl y4ty) | 5, _ => (kit_ref y14i5 y5i5 y5cl y5ty) | 6, _ => (kit_ref y14i6 y6i6 y6cl y6ty) | 7, _ => (kit_ref y14i7 y7i7 y7cl y7ty) | 8, _ => (kit_ref y14i8 y8i8 y8cl y8ty) | 9, _ => (kit_ref y14i9 y9i9 y9cl y9ty) | 10, _ => (kit_ref y14i10 y10i10 y10cl y10ty) | 11, _ => (kit_ref y14i11 y11i11 y11cl y11ty) | 12, _ => (kit_ref y14i12 y12i12 y12cl y12ty) | 13, _ => (kit_ref y14i13 y13i13 y13cl y13ty) | 14, _ => (kit_ref y14i14 y14i14 y14cl y14ty) | 15, _ => (kit_ref y14i15 y15i15 y15cl y15ty) | 16, _ => (kit_ref y14i16 y16i16 y16cl y16ty) | 17, _ => (kit_ref y14i17 y17i17 y17cl y17ty) | 18, _ => (kit_ref y14i18 y18i18 y18cl y18ty) | 19, _ => (kit_ref y14i19 y19i19 y19cl y19ty) | k + 20, hk => absurd hk (by show ¬ (k + 20 < 20); omega) }, { nm := PySem.W.mg_of X G b15, ty := tys_mk (K := K) (kit_ref y15p0 y15i15 y15cl y15ty) (kit_ref y15p1 y15i15 y15cl y15ty) (kit_ref y15p2 y15i15 y15cl y15ty) (kit_ref y15p3 y15i15 y15cl y15ty) (kit_ref y15p4 y15i15 y15cl y15ty) (kit_ref y15p5 y15i15 y15cl y15ty) (kit_ref y15p6 y15i15 y15cl y15ty), ek := ⟨y15cl, y15ga, y15gt, y15eb, y15hd, y15ac, y15sp, y15tk, y15mr, y15no⟩, ib := tys_mk (K := K) (kit_typ (by decide +kernel) y15q0) (kit_typ (by decide +kernel) y15q1) (kit_typ (by decide +kernel) y15q2) (kit_typ (by decide +kernel) y15q3) (kit_typ (by decide +kernel) y15q4) (kit_typ (by decide +kernel) y15q5) (kit_typ (by decide +kernel) y15q6), iv := (kit_typ (by decide +kernel) y15kv), ox := ⟨⟨_, _, _, _, _, _, _, _, _, _, _, _, _, _, _, x15, rfl⟩, y15sa, y15eb, y15ty, y15kp⟩, su := ⟨(su_mk x15 (dw_two (cls_ne x15 x0 (by intro z; cases z)) _)), y15mz, y15ve⟩, ii := y15ii, em := emx y0eb y0cl y0ty y15s0, is := fun k hk => match k, hk with | 0, _ => (kit_ref y15i0 y0i0 y0cl y0ty) | 1, _ => (kit_ref y15i1 y1i1 y1cl y1ty) | 2, _ => (kit_ref y15i2 y2i2 y2cl y2ty) | 3, _ => (kit_ref y15i3 y3i3 y3cl y3ty) | 4, _ => (kit_ref y15i4 y4i4 y4cl y4ty) | 5, _ => (kit_ref y15i5 y5i5 y5cl y5ty) | 6, _ => (kit_ref y15i6 y6i6 y6cl y6ty) | 7, _ => (kit_ref y15i7 y7i7 y7cl y7ty) | 8, _ => (kit_ref y15i8 y8i8 y8cl y8ty) | 9, _ => (kit_ref y15i9 y9i9 y9cl y9ty) | 10, _ => (kit_ref y15i10 y10i10 y10cl y10ty) | 11, _ => (kit_ref y15i11 y11i11 y11cl y11ty) | 12, _ => (kit_ref y15i12 y12i12 y12cl y12ty) | 13, _ => (kit_ref y15i13 y13i13 y13cl y13ty) | 14, _ => (kit_ref y15i14 y14i14 y14cl y14ty) | 15, _ => (kit_ref y15i15 y15i15 y15cl y15ty) | 16, _ => (kit_ref y15i16 y16i16 y16cl y16ty) | 17, _ => (kit_ref y15i17 y17i17 y17cl y17ty) | 18, _ => (kit_ref y15i18 y18i18 y18cl y18ty) | 19, _ => (kit_ref y15i19 y19i19 y19cl y19ty) | k + 20, hk => absurd hk (by show ¬ (k + 20 < 20); omega) }, { nm := PySem.W.mg_of X G b16, ty := tys_mk (K := K) (kit_ref y16p0 y16i16 y16cl y16ty) (kit_ref y16p1 y16i16 y16cl y16ty) (kit_ref y16p2 y16i16 y16cl y16ty) (kit_ref y16p3 y16i16 y16cl y16ty) (kit_ref y16p4 y16i16 y16cl y16ty) (kit_ref y16p5 y16i16 y16cl y16ty) (kit_ref y16p6 y16i16 y16cl y16ty), ek := ⟨y16cl, y16ga, y16gt, y16eb, y16hd, y16ac, y16sp, y16tk, y16mr, y16no⟩, ib := tys_mk (K := K) (kit_typ (by decide +kernel) y16q0) (kit_typ (by decide +kernel) y16q1) (kit_typ (by decide +kernel) y16q2) (kit_typ (by decide +kernel) y16q3) (kit_typ (by decide +kernel) y16q4) (kit_typ (by decide +kernel) y16q5) (kit_typ (by decide +kernel) y16q6), iv := (kit_typ (by decide +kernel) y16kv), ox := ⟨⟨_, _, _, _, _, _, _, _, _, _, _, _, _, _, _, x16, rfl⟩, y16sa, y16eb, y16ty, y16kp⟩, su := ⟨(su_mk x16 (dw_two (cls_ne x16 x0 (by intro z; cases z)) _)), y16mz, y16ve⟩, ii := y16ii, em := emx y0eb y0cl y0ty y16s0, is := fun k hk => match k, hk with | 0, _ => (kit_ref y16i0 y0i0 y0cl y0ty) | 1, _ => (kit_ref y16i1 y1i1 y1cl y1ty) | 2, _ => (kit_ref y16i2 y2i2 y2cl y2ty) | 3, _ => (kit_ref y16i3 y3i3 y3cl y3ty) | 4, _ => (kit_ref y16i4 y4i4 y4cl y4ty) | 5, _ => (kit_ref y16i5 y5i5 y5cl y5ty) | 6, _ => (kit_ref y16i6 y6i6 y6cl y6ty) | 7, _ => (kit_ref y16i7 y7i7 y7cl y7ty) | 8, _ => (kit_ref y16i8 y8i8 y8cl y8ty) | 9, _ => (kit_ref y16i9 y9i9 y9cl y9ty) | 10, _ => (kit_ref y16i10 y10i10 y10cl y10ty) | 11, _ => (kit_ref y16i11 y11i11 y11cl y11ty) | 12, _ => (kit_ref y16i12 y12i12 y12cl y12ty) | 13, _ => (kit_ref y16i13 y13i13 y13cl y13ty) | 14, _ => (kit_ref y16i14 y14i14 y14cl y14ty) | 15, _ => (kit_ref y16i15 y15i15 y15cl y15ty) | 16, _ => (kit_ref y16i16 y16i16 y16cl y16ty) | 17, _ => (kit_ref y16i17 y17i17 y17cl y17ty) | 18, _ => (kit_ref y16i18 y18i18 y18cl y18ty) | 19, _ => (kit_ref y16i19 y19i19 y19cl y19ty) | k + 20, hk => absurd hk (by show ¬ (k + 20 < 20); omega) }, { nm := PySem.W.mg_of X G b17, ty := tys_mk (K := K) (kit_ref y17p0 y17i17 y17cl y17ty) (kit_ref y17p1 y17i17 y17cl y17ty) (kit_ref y17p2 y17i17 y17cl y17ty) (kit_ref y17p3 y17i17 y17cl y17ty) (kit_ref y17p4 y17i17 y17cl y17ty) (kit_ref y17p5 y17i17 y17cl y17ty) (kit_ref y17p6 y17i17 y17cl y17ty), ek := ⟨y17cl, y17ga, y17gt, y17eb, y17hd, y17ac, y17sp, y17tk, y17mr, y17no⟩, ib := tys_mk (K := K) (kit_typ (by decide +kernel) y17q0) (kit_typ (by decide +kernel) y17q1) (kit_typ (by decide +kernel) y17q2) (kit_typ (by decide +kernel) y17q3) (kit_typ (by decide +kernel) y17q4) (kit_typ (by decide +kernel) y17q5) (kit_typ (by decide +kernel) y17q6), iv := (kit_typ (by decide +kernel) y17kv), ox := ⟨⟨_, _, _, _, _, _, _, _, _, _, _, _, _, _, _, x17, rfl⟩, y17sa, y17eb, y17ty, y17kp⟩, su := ⟨(su_mk x17 (dw_two (cls_ne x17 x0 (by intro z; cases z)) _)), y17mz, y17ve⟩, ii := y17ii, em := emx y0eb y0cl y0ty y17s0, is := fun k hk => match k, hk with | 0, _ => (kit_ref y17i0 y0i0 y0cl y0ty) | 1, _ => (kit_ref y17i1 y1i1 y1cl y1ty) | 2, _ => (kit_ref y17i2 y2i2 y2cl y2ty) | 3, _ => (kit_ref y17i3 y3i3 y3cl y3ty) | 4, _ => (kit_ref y17i4 y4i4 y4cl y4ty) | 5, _ => (kit_ref y17i5 y5i5 y5cl y5ty) | 6, _ => (kit_ref y17i6 y6i6 y6cl y6ty) | 7, _ => (kit_ref y17i7 y7i7 y7cl y7ty) | 8, _ => (kit_ref y17i8 y8i8 y8cl y8ty) | 9, _ => (kit_ref y17i9 y9i9 y9cl y9ty) | 10, _ => (kit_ref y17i10 y10i10 y10cl y10ty) | 11, _ => (kit_ref y17i11 y11i11 y11cl y11ty) | 12, _ => (kit_ref y17i12 y12i12 y12cl y12ty) | 13, _ => (kit_ref y17i13 y13i13 y13cl y13ty) | 14, _ => (kit_ref y17i14 y14i14 y14cl y14ty) | 15, _ => (kit_ref y17i15 y15i15 y15cl y15ty) | 16, _ => (kit_ref y17i16 y16i16 y16cl y16ty) | 17, _ => (kit_ref y17i17 y17i17 y17cl y17ty) | 18, _ => (kit_ref y17i18 y18i18 y18cl y18ty) | 19, _ => (kit_ref y17i19 y19i19 y19cl y19ty) | k + 20, hk => absurd hk (by show ¬ (k + 20 < 20); omega) }, { nm := PySem.W.mg_of X G b18, ty := tys_mk (K := K) (kit_ref y18p0 y18i18 y18cl y18ty) (kit_ref y18p1 y18i18 y18cl y18ty) (kit_ref y18p2 y18i18 y18cl y18ty) (kit_ref y18p3 y18i18 y18cl y18ty) (kit_ref y18p4 y18i18 y18cl y18ty) (kit_ref y18p5 y18i18 y18cl y18ty) (kit_ref y18p6 y18i18 y18cl y18ty), ek := ⟨y18cl, y18ga, y18gt, y18eb, y18hd, y18ac, y18sp, y18tk, y18mr, y18no⟩, ib := tys_mk (K := K) (kit_typ (by decide +kernel) y18q0) (kit_typ (by decide +kernel) y18q1) (kit_typ (by decide +kernel) y18q2) (kit_typ (by decide +kernel) y18q3) (kit_typ (by decide +kernel) y18q4) (kit_typ (by decide +kernel) y18q5) (kit_typ (by decide +kernel) y18q6), iv := (kit_typ (by decide +kernel) y18kv), ox := ⟨⟨_, _, _, _, _, _, _, _, _, _, _, _, _, _, _, x18, rfl⟩, y18sa, y18eb, y18ty, y18kp⟩, su := ⟨(su_mk x18 (dw_two (cls_ne x18 x0 (by intro z; cases z)) _)), y18mz, y18ve⟩, ii := y18ii, em := emx y0eb y0cl y0ty y18s0, is := fun k hk => match k, hk with | 0, _ => (kit_ref y18i0 y0i0 y0cl y0ty) | 1, _ => (kit_ref y18i1 y1i1 y1cl y1ty) | 2, _ => (kit_ref y18i2 y2i2 y2cl y2ty) | 3, _ => (kit_ref y18i3 y3i3 y3cl y3ty) | 4, _ => (kit_ref y18i4 y4i4 y4cl y4ty) | 5, _ => (kit_ref y18i5 y5i5 y5cl y5ty) | 6, _ => (kit_ref y18i6 y6i6 y6cl y6ty) | 7, _ => (kit_ref y18i7 y7i7 y7cl y7ty) | 8, _ => (kit_ref y18i8 y8i8 y8cl y8ty) | 9, _ => (kit_ref y18i9 y9i9 y9cl y9ty) | 10, _ => (kit_ref y18i10 y10i10 y10cl y10ty) | 11, _ => (kit_ref y18i11 y11i11 y11cl y11ty) | 12, _ => (kit_ref y18i12 y12i12 y12cl y12ty) | 13, _ => (kit_ref y18i13 y13i13 y13cl y13ty) | 14, _ => (kit_ref y18i14 y14i14 y14cl y14ty) | 15, _ => (kit_ref y18i15 y15i15 y15cl y15ty) | 16, _ => (kit_ref y18i16 y16i16 y16cl y16ty) | 17, _ => (kit_ref y18i17 y17i17 y17cl y17ty) | 18, _ => (kit_ref y18i18 y18i18 y18cl y18ty) | 19, _ => (kit_ref y18i19 y19i19 y19cl y19ty) | k + 20, hk => absurd hk (by show ¬ (k + 20 < 20); omega) }, { nm := PySem.W.mg_of X G b19, ty := tys_mk (K := K) (kit_ref y19p0 y19i19 y19cl y19ty) (kit_ref y19p1 y19i19 y19cl y19ty) (kit_ref y19p2 y19i19 y19cl y19ty) (kit_ref y19p3 y19i19 y19cl y19ty) (kit_ref y19p4 y19i19 y19cl y19ty) (kit_ref y19p5 y19i19 y19cl y19ty) (kit_ref y19p6 y19i19 y19cl y19ty), ek := ⟨y19cl, y19ga, y19gt, y19eb, y19hd, y19ac, y19sp, y19tk, y19mr, y19no⟩, ib := tys_mk (K := K) (kit_typ (by decide +kernel) y19q0) (kit_typ (by decide +kernel) y19q1) (kit_typ (by decide +kernel) y19q2) (kit_typ (by decide +kernel) y19q3) (kit_typ (by decide +kernel) y19q4) (kit_typ (by decide +kernel) y19q5) (kit_typ (by decide +kernel) y19q6), iv := (kit_typ (by decide +kernel) y19kv), ox := ⟨⟨_, _, _, _, _, _, _, _, _, _, _, _, _, _, _, x19, rfl⟩, y19sa, y19eb, y19ty, y19kp⟩, su := ⟨(su_mk x19 (dw_two (cls_ne x19 x0 (by intro z; cases z)) _)), y19mz, y19ve⟩, ii := y19ii, em := emx y0eb y0cl y0ty y19s0, is := fun k hk => match k, hk with | 0, _ => (kit_ref y19i0 y0i0 y0cl y0ty) | 1, _ => (kit_ref y19i1 y1i1 y1cl y1ty) | 2, _ => (kit_ref y19i2 y2i2 y2cl y2ty) | 3, _ => (kit_ref y19i3 y3i3 y3cl y3ty) | 4, _ => (kit_ref y19i4 y4i4 y4cl y4ty) | 5, _ => (kit_ref y19i5 y5i5 y5cl y5ty) | 6, _ => (kit_ref y19i6 y6i6 y6cl y6ty) | 7, _ => (kit_ref y19i7 y7i7 y7cl y7ty) | 8, _ => (kit_ref y19i8 y8i8 y8cl y8ty) | 9, _ => (kit_ref y19i9 y9i9 y9cl y9ty) | 10, _ => (kit_ref y19i10 y10i10 y10cl y10ty) | 11, _ => (kit_ref y19i11 y11i11 y11cl y11ty) | 12, _ => (kit_ref y19i12 y12i12 y12cl y12ty) | 13, _ => (kit_ref y19i13 y13i13 y13cl y13ty) | 14, _ => (kit_ref y19i14 y14i14 y14cl y14ty) | 15, _ => (kit_ref y19i15 y15i15 y15cl y15ty) | 16, _ => (kit_ref y19i16 y16i16 y16cl y16ty) | 17, _ => (kit_ref y19i17 y17i17 y17cl y17ty) | 18, _ => (kit_ref y19i18 y18i18 y18cl y18ty) | 19, _ => (kit_ref y19i19 y19i19 y19cl y19ty) | k + 20, hk => absurd hk (by show ¬ (k + 20 < 20); omega) }, trivial⟩
    · intro j npos ks perm hm F hj
      cases hm
    · intro k c hk
      match k, hk with
      | 0, hk => cases hk; exact ⟨_, .ref ta0, PySem.W.mg_of X G d0, rfl, fun G => .tup (xs := [.int 0, .int 1]) (.inr ⟨_, _, _, dl0, rfl, rfl, by show 2 ≤ sizeLine; decide, (.cons ⟨_, rfl⟩ (.cons ⟨_, rfl⟩ .nil))⟩) (.cons (.int _) (.cons (.int _) .nil))⟩
      | 1, hk => cases hk; exact ⟨_, .ref ta1, PySem.W.mg_of X G d1, rfl, fun G => .tup (xs := [.int 1, .int 1]) (.inr ⟨_, _, _, dl1, rfl, rfl, by show 2 ≤ sizeLine; decide, (.cons ⟨_, rfl⟩ (.cons ⟨_, rfl⟩ .nil))⟩) (.cons (.int _) (.cons (.int _) .nil))⟩
      | 2, hk => cases hk; exact ⟨_, .int 6, PySem.W.mg_of X G d2, ⟨_, rfl⟩, fun _ => .int _⟩
      | k + 3, hk => simp [tab] at hk
    · intro x hx
      simp only [bltNames, List.mem_cons, List.not_mem_nil, or_false] at hx
      rcases hx with rfl | rfl | rfl | rfl | rfl | rfl | rfl | rfl | rfl | rfl | rfl | rfl | rfl | rfl | rfl | rfl | rfl | rfl | rfl
      · exact PySem.W.mg_none_of X G bl0
      · exact PySem.W.mg_none_of X G bl1
      · exact PySem.W.mg_none_of X G bl2
      · exact PySem.W.mg_none_of X G bl3
      · exact PySem.W.mg_none_of X G bl4
      · exact PySem.W.mg_none_of X G bl5
      · exact PySem.W.mg_none_of X G bl6
      · exact PySem.W.mg_none_of X G bl7
      · exact PySem.W.mg_none_of X G bl8
      · exact PySem.W.mg_none_of X G bl9
      · exact PySem.W.mg_none_of X G bl10
      · exact PySem.W.mg_none_of X G bl11
      · exact PySem.W.mg_none_of X G bl12
      · exact PySem.W.mg_none_of X G bl13
      · exact PySem.W.mg_none_of X G bl14
      · exact PySem.W.mg_none_of X G bl15
      · exact PySem.W.mg_none_of X G bl16
      · exact PySem.W.mg_none_of X G bl17
      · exact PySem.W.mg_none_of X G bl18
    · exact fun _ => tI
    · intro _
      exact ini_run lI cI ⟨_, rfl, rfl⟩ ⟨_, _, _, _, _, eI, vI⟩ fI ⟨_, _, _, kI⟩ (Option.isSome_iff_exists.mp y0cl) (PySem.W.mg_none_of X G uI) (by decide +kernel) oI ⟨_, fun _ => rfl⟩ _ (fun vs H Q E h => h)
    · intro _ s us ks hl
      rw [List.append_nil] at hl ⊢
      match us, hl with
      | [u1, u2], _ =>
        have key : ∃ k, bindArgs (PySem.W.ksFn "__init__" "DrawError.__init__" (defArgs sI) iB iniScope (.ref dVI) kVI dcI pmI anI (.ref cda) ctI ccI) ⟨[u1, u2], []⟩ = seqItems? (.ref dVI) >>= k ∧ k (some #[.none]) = pure ([("self", u1), ("value", u2)] : List (Str × Value)) := ⟨_, rfl, rfl⟩
        obtain ⟨k, e1, e2⟩ := key
        refine BindsTo.of_looks fun M => ?_
        show PySem.W.Looks M s.heap (bindArgs (PySem.W.ksFn "__init__" "DrawError.__init__" (defArgs sI) iB iniScope (.ref dVI) kVI dcI pmI anI (.ref cda) ctI ccI) ⟨[u1, u2], []⟩) _
        rw [e1]
        exact looks_items ks lD rfl (.of_pure e2)
    · intro _ s us ks hl
      match us, hl with
      | [], h => cases h
      | _ :: _ :: _, h => simp at h
      | [u1], _ =>
        have key : ∃ k, bindArgs (PySem.W.ksFn "__init__" "DrawError.__init__" (defArgs sI) iB iniScope (.ref dVI) kVI dcI pmI anI (.ref cda) ctI ccI) ⟨[u1], []⟩ = seqItems? (.ref dVI) >>= k ∧ k (some #[.none]) = pure ([("self", u1), ("value", .none)] : List (Str × Value)) := ⟨_, rfl, rfl⟩
        obtain ⟨k, e1, e2⟩ := key
        refine BindsTo.of_looks fun M => ?_
        show PySem.W.Looks M s.heap (bindArgs (PySem.W.ksFn "__init__" "DrawError.__init__" (defArgs sI) iB iniScope (.ref dVI) kVI dcI pmI anI (.ref cda) ctI ccI) ⟨[u1], []⟩) _
        rw [e1]
        exact looks_items ks lD rfl (.of_pure e2)
    · intro _ s u v ks
      have key : ∃ k, bindArgs (PySem.W.ksFn "__init__" "DrawError.__init__" (defArgs sI) iB iniScope (.ref dVI) kVI dcI pmI anI (.ref cda) ctI ccI) ⟨[u], [("value", v)]⟩ = seqItems? (.ref dVI) >>= k ∧ k (some #[.none]) = pure ([("self", u), ("value", v)] : List (Str × Value)) := ⟨_, rfl, rfl⟩
      obtain ⟨k, e1, e2⟩ := key
      refine BindsTo.of_looks fun M => ?_
      show PySem.W.Looks M s.heap (bindArgs (PySem.W.ksFn "__init__" "DrawError.__init__" (defArgs sI) iB iniScope (.ref dVI) kVI dcI pmI anI (.ref cda) ctI ccI) ⟨[u], [("value", v)]⟩) _
      rw [e1]
      exact looks_items ks lD rfl (.of_pure e2)
  refine ⟨PySem.W.fnOf "law" "law" (defArgs s59) (defBody s59) (defScope s59) .none kV59 dc59 pm59 an59 cd59 ct59, Ω, fun s u => .of_eq rfl, fun b => ⟨rfl, rfl, rfl, rfl, rfl⟩, fun b kb gb => ?_⟩
  exact (tos b kb gb 40).fok 59 f59 rfl
end K98

set_option Elab.async false
set_option linter.all false
set_option autoImplicit false
set_option maxRecDepth 100000
namespace K98
open PySem PySem.Spec PyProof.Rows L2 FF
abbrev I (i : Int) : Tr := .sh (.int i)
def bd (Θ : Tab) (cf : CF) (b : Ss) : FF.Env → RS := fun e => evSs Θ cf b e
def wc (Θ : Tab) (cf : CF) (c : E) : FF.Env → R (Bool × FF.Env) := fun e => asBool (evE Θ cf c e)
def ce (Θ : Tab) (cf : CF) (c : E) : FF.Env → R (Val × FF.Env) := fun e => evE Θ cf c e
def ct (Θ : Tab) (cf : CF) (c : Es) : FF.Env → R (Bool × FF.Env) := fun e => evTest Θ cf c e
theorem evS_whl (Θ : Tab) (cf : CF) (c : E) (b : Ss) (env : FF.Env) : evS Θ cf (.whl c b) env = whileL (wc Θ cf c) (bd Θ cf b) FU env := by simp only [evS]; rfl
theorem evS_for (Θ : Tab) (cf : CF) (tg : Tg) (s : Src) (b : Ss) (env : FF.Env) : evS Θ cf (.fors tg s b) env = (match evSrc Θ cf s env with
    | .ok (ts, env1) => forL tg (bd Θ cf b) ts env1
    | .exc c d env1 => .ex c d env1
    | .bad => .bad) := by simp only [evS]; rfl
theorem evE_comp (Θ : Tab) (cf : CF) (elt : E) (tg : Tg) (src : Src) (test : Es) (own : List (Str × Nat)) (env : FF.Env) : evE Θ cf (.comp elt tg src test own) env = ((evSrc Θ cf src env).bind fun (ts, env1) => if ts.length ≤ sizeLine then
      (noEx (compL tg (ct Θ cf test) (ce Θ cf elt) (own.map (·.2)) ts env1)).bind fun (us, env2) => .ok (.tr (.lst us), restore env1 env2 (own.map (·.2)))
    else .bad) := by simp only [evE]; rfl
def fin (F : Fn) (k : Nat) : RS → FR
  | .rt t env => .ok t (keptOf F.kept env k)
  | .nx env => .ok (.sh .none) (keptOf F.kept env k)
  | .ex c d env => .exc c d (keptOf F.kept env k)
  | _ => .bad
theorem cfs {j : Nat} {F : Fn} (h : tab.fns[j]? = some F) (n : Nat) (ts : List Tr) (hl : ts.length = F.ps.length) : callF tab (n + 1) j ts = fin F ts.length (evSs tab (callF tab n) F.body (ts.map some ++ List.replicate (F.N.length - ts.length) none)) := by
  unfold callF
  rw [h]
  simp only [hl, if_pos]
  cases evSs tab (callF tab n) F.body (ts.map some ++ List.replicate (F.N.length - F.ps.length) none) <;> rfl
theorem fu_lt {b : Nat} (h : b < 2 ^ 8000) : b < FU := Nat.lt_of_lt_of_le h (Nat.pow_le_pow_right (by decide) (by decide))
theorem log_lt {n : Nat} (h : n < 2 ^ 8000) : n.log2 < 9000 := by
  by_cases z : n = 0
  · subst z; decide
  · exact Nat.lt_trans ((Nat.log2_lt z).mpr h) (by decide)
theorem up {k l i : Nat} (h : i < 2 ^ k) (e : k ≤ l) : i < 2 ^ l := Nat.lt_of_lt_of_le h (Nat.pow_le_pow_right (by decide) e)
theorem ab_mul {k l : Nat} {i j : Int} (h1 : i.natAbs < 2 ^ k) (h2 : j.natAbs < 2 ^ l) : (i * j).natAbs < 2 ^ (k + l) := by
  rw [Int.natAbs_mul, Nat.pow_add]
  exact Nat.mul_lt_mul'' h1 h2
theorem forL_nx {tg : Tg} {body : FF.Env → RS} {t : Tr} {ts : List Tr} {env e1 e2 : FF.Env} (h : asg tg t env = some e1) (hb : body e1 = .nx e2 ∨ body e1 = .ct e2) : forL tg body (t :: ts) env = forL tg body ts e2 := by
  rw [forL, h]
  rcases hb with hb | hb <;> simp only [hb]
theorem asg_name {i : Nat} {t : Tr} {env : FF.Env} (h : i < env.length) : asg (.name i) t env = some (env.set i (some t)) := by rw [asg, if_pos h]
end K98

set_option Elab.async false
set_option linter.all false
set_option autoImplicit false
set_option maxRecDepth 100000
namespace K98
open PySem PySem.Spec PyProof.Rows L2 FF
theorem a_add (i j : Int) : arith .add i j = some (i + j) := rfl
theorem a_sub (i j : Int) : arith .sub i j = some (i - j) := rfl
theorem a_mul (i j : Int) (h : i.natAbs.log2 < 9000) (h2 : j.natAbs.log2 < 9000) : arith .mul i j = some (i * j) := by
  unfold arith; exact if_pos (by omega)
theorem a_fdiv (i j : Int) (h : 0 < j) (h2 : j.natAbs.log2 < 9000) : arith .fdiv i j = some (i / j) := by
  unfold arith; exact if_pos ⟨h, h2⟩
theorem a_mod (i j : Int) (h : 0 < j) : arith .mod i j = some (i % j) := by
  unfold arith; exact if_pos h
theorem log_num (n : Nat) (h : n < 2 ^ 200) : n.log2 < 9000 := log_lt (up h (by decide))
theorem lg1 {i : Int} {k : Nat} (h : i.natAbs < 2 ^ k) (e : k ≤ 8000) : i.natAbs.log2 < 9000 := log_lt (up h e)
theorem md_b (i : Int) {m : Int} (h0 : 0 < m) (h : m < 2147483648) : (i % m).natAbs < 2 ^ 31 := by
  have h1 := Int.emod_nonneg i (by omega : m ≠ 0)
  have h2 := Int.emod_lt_of_pos i h0
  show (i % m).natAbs < 2147483648
  omega
theorem c17 (n : Nat) (b c : Int) (hb : b.natAbs < 2 ^ 31) (hc : c.natAbs < 2 ^ 31) : ∃ r : Int, callF tab (n + 1) 51 [I b, I c] = .ok (I r) [none, none] := by
  rw [cfs (F := f51) rfl n _ rfl]
  have e1 := lg1 hb (by decide)
  have e2 := lg1 hc (by decide)
  have e3 : (16777903 * c).natAbs.log2 < 9000 := lg1 (ab_mul (k := 31) (l := 31) (by decide) hc) (by decide)
  have e4 : ∀ i : Int, (i % 2147483629).natAbs.log2 < 9000 := fun i => lg1 (md_b i (by decide) (by decide)) (by decide)
  have e5 : ∀ i : Int, (i % 2147483587).natAbs.log2 < 9000 := fun i => lg1 (md_b i (by decide) (by decide)) (by decide)
  simp [evSs.eq_1, evSs.eq_2, evS.eq_1, evS.eq_2, evS.eq_3, evS.eq_4, evS.eq_5, evS.eq_6, evS.eq_7, evS.eq_8, evS.eq_11, evS.eq_12, evS.eq_13, evS.eq_14, evS.eq_15, evS.eq_16, evS.eq_17, exnV, evE.eq_1, evE.eq_2, evE.eq_3, evE.eq_4, evE.eq_5, evE.eq_6, evE.eq_7, evE.eq_8, evE.eq_9, evE.eq_10, evE.eq_11, evE.eq_12, evE.eq_13, evE.eq_14, evE.eq_15, evE.eq_16, evE.eq_17, evE.eq_18, evE.eq_19, evE.eq_20, evE.eq_21, evE.eq_22, evE.eq_23, evE.eq_24, evE.eq_25, evE.eq_26, evE.eq_27, evE.eq_30, evE.eq_31, evE.eq_32, evE.eq_33, evE.eq_34, evEs, evAnd, evOr, evTest, evSrc, varV, slot, getV, isTys, isTy, asBool, FF.take, takeF, takes, frz, keptOf, keepF, look, Tr.toD, cmpV, cmpD, cmpI, binV, biV, biD, looks, setNames, asg, mkTup, allSh, sizeLine, Tab.modes, callV, prep, putBack, idxV, isV, rngV, rngItems, evS_whl, evS_for, evE_comp, log_num, a_add, a_sub, a_mul, a_fdiv, a_mod, fin, f51, e1, e2, e3, e4, e5]
abbrev GL (a b c : Int) : Tr := .lst [I a, I b, I c]
theorem b18 (n : Nat) {a b c m d : Int} {x : Option Tr} (hb : b.natAbs < 2 ^ 31) (hc : (c + 1).natAbs < 2 ^ 31) : ∃ r : Int, bd tab (callF tab (n + 1)) f52_b0 [some (GL a b c), some (I m), some (I 0), x] = .nx [some (GL a b (c + 1)), some (I m), some (I r), x] := by
  obtain ⟨r, h⟩ := c17 n b (c + 1) hb hc
  have m17 : (tab.fns[51]?) = some f51 := rfl
  refine ⟨r, ?_⟩
  simp [evSs.eq_1, evSs.eq_2, evS.eq_1, evS.eq_2, evS.eq_3, evS.eq_4, evS.eq_5, evS.eq_6, evS.eq_7, evS.eq_8, evS.eq_11, evS.eq_12, evS.eq_13, evS.eq_14, evS.eq_15, evS.eq_16, evS.eq_17, exnV, evE.eq_1, evE.eq_2, evE.eq_3, evE.eq_4, evE.eq_5, evE.eq_6, evE.eq_7, evE.eq_8, evE.eq_9, evE.eq_10, evE.eq_11, evE.eq_12, evE.eq_13, evE.eq_14, evE.eq_15, evE.eq_16, evE.eq_17, evE.eq_18, evE.eq_19, evE.eq_20, evE.eq_21, evE.eq_22, evE.eq_23, evE.eq_24, evE.eq_25, evE.eq_26, evE.eq_27, evE.eq_30, evE.eq_31, evE.eq_32, evE.eq_33, evE.eq_34, evEs, evAnd, evOr, evTest, evSrc, varV, slot, getV, isTys, isTy, asBool, FF.take, takeF, takes, frz, keptOf, keepF, look, Tr.toD, cmpV, cmpD, cmpI, binV, biV, biD, looks, setNames, asg, mkTup, allSh, sizeLine, Tab.modes, callV, prep, putBack, idxV, isV, rngV, rngItems, evS_whl, evS_for, evE_comp, log_num, a_add, a_sub, a_mul, a_fdiv, a_mod, bd, f52_b0, ixN, h, m17, f51]
theorem c18a (n : Nat) {a b c m : Int} (hm : 0 < m) (hl : m.natAbs.log2 < 9000) (ha : 0 < a) : callF tab (n + 2) 52 [GL a b c, I m] = .ok (I (a % m)) [some (GL (a / m) b c), none] := by
  rw [cfs (F := f52) rfl (n + 1) _ rfl]
  simp [evSs.eq_1, evSs.eq_2, evS.eq_1, evS.eq_2, evS.eq_3, evS.eq_4, evS.eq_5, evS.eq_6, evS.eq_7, evS.eq_8, evS.eq_11, evS.eq_12, evS.eq_13, evS.eq_14, evS.eq_15, evS.eq_16, evS.eq_17, exnV, evE.eq_1, evE.eq_2, evE.eq_3, evE.eq_4, evE.eq_5, evE.eq_6, evE.eq_7, evE.eq_8, evE.eq_9, evE.eq_10, evE.eq_11, evE.eq_12, evE.eq_13, evE.eq_14, evE.eq_15, evE.eq_16, evE.eq_17, evE.eq_18, evE.eq_19, evE.eq_20, evE.eq_21, evE.eq_22, evE.eq_23, evE.eq_24, evE.eq_25, evE.eq_26, evE.eq_27, evE.eq_30, evE.eq_31, evE.eq_32, evE.eq_33, evE.eq_34, evEs, evAnd, evOr, evTest, evSrc, varV, slot, getV, isTys, isTy, asBool, FF.take, takeF, takes, frz, keptOf, keepF, look, Tr.toD, cmpV, cmpD, cmpI, binV, biV, biD, looks, setNames, asg, mkTup, allSh, sizeLine, Tab.modes, callV, prep, putBack, idxV, isV, rngV, rngItems, evS_whl, evS_for, evE_comp, log_num, a_add, a_sub, a_mul, a_fdiv, a_mod, fin, f52, ixN, ha, hm, hl]
theorem r1 : rngItems [.int 1] = some [I 0] := by
  unfold rngItems
  dsimp only
  rw [show rngB 1 = true from by decide, if_pos rfl]
  rfl
theorem src18 (cf : CF) {m : Int} {t : Tr} {x y : Option Tr} (hi : (Builtin.Int.intBits m : Int) / 30 = 0) : evSrc tab cf (.rng (.cons (.bin .add (.int 1) (.bin .fdiv (.bits (.var 1)) (.int 30))) .nil)) [some t, some (I m), x, y] = .ok ([I 0], [some t, some (I m), x, y]) := by
  simp [evSs.eq_1, evSs.eq_2, evS.eq_1, evS.eq_2, evS.eq_3, evS.eq_4, evS.eq_5, evS.eq_6, evS.eq_7, evS.eq_8, evS.eq_11, evS.eq_12, evS.eq_13, evS.eq_14, evS.eq_15, evS.eq_16, evS.eq_17, exnV, evE.eq_1, evE.eq_2, evE.eq_3, evE.eq_4, evE.eq_5, evE.eq_6, evE.eq_7, evE.eq_8, evE.eq_9, evE.eq_10, evE.eq_11, evE.eq_12, evE.eq_13, evE.eq_14, evE.eq_15, evE.eq_16, evE.eq_17, evE.eq_18, evE.eq_19, evE.eq_20, evE.eq_21, evE.eq_22, evE.eq_23, evE.eq_24, evE.eq_25, evE.eq_26, evE.eq_27, evE.eq_30, evE.eq_31, evE.eq_32, evE.eq_33, evE.eq_34, evEs, evAnd, evOr, evTest, evSrc, varV, slot, getV, isTys, isTy, asBool, FF.take, takeF, takes, frz, keptOf, keepF, look, Tr.toD, cmpV, cmpD, cmpI, binV, biV, biD, looks, setNames, asg, mkTup, allSh, sizeLine, Tab.modes, callV, prep, putBack, idxV, isV, rngV, evS_whl, evS_for, evE_comp, log_num, a_add, a_sub, a_mul, a_fdiv, a_mod, hi, r1]
theorem c18b (n : Nat) {a b c m : Int} (hm : 0 < m) (hi : (Builtin.Int.intBits m : Int) / 30 = 0) (hb : b.natAbs < 2 ^ 31) (hc : (c + 1).natAbs < 2 ^ 31) (ha : ¬ 0 < a) : ∃ r : Int, callF tab (n + 2) 52 [GL a b c, I m] = .ok (I (r % m)) [some (GL a b (c + 1)), none] := by
  rw [cfs (F := f52) rfl (n + 1) _ rfl]
  obtain ⟨r, h⟩ := b18 n (a := a) (b := b) (c := c) (m := m) (d := 0) (x := some (I 0)) hb hc
  refine ⟨r, ?_⟩
  have l : forL (.name 3) (bd tab (callF tab (n + 1)) f52_b0) [I 0] [some (GL a b c), some (I m), some (I 0), none] = .nx [some (GL a b (c + 1)), some (I m), some (I r), some (I 0)] := (forL_nx (asg_name (by simp [evSs.eq_1, evSs.eq_2, evS.eq_1, evS.eq_2, evS.eq_3, evS.eq_4, evS.eq_5, evS.eq_6, evS.eq_7, evS.eq_8, evS.eq_11, evS.eq_12, evS.eq_13, evS.eq_14, evS.eq_15, evS.eq_16, evS.eq_17, exnV, evE.eq_1, evE.eq_2, evE.eq_3, evE.eq_4, evE.eq_5, evE.eq_6, evE.eq_7, evE.eq_8, evE.eq_9, evE.eq_10, evE.eq_11, evE.eq_12, evE.eq_13, evE.eq_14, evE.eq_15, evE.eq_16, evE.eq_17, evE.eq_18, evE.eq_19, evE.eq_20, evE.eq_21, evE.eq_22, evE.eq_23, evE.eq_24, evE.eq_25, evE.eq_26, evE.eq_27, evE.eq_30, evE.eq_31, evE.eq_32, evE.eq_33, evE.eq_34, evEs, evAnd, evOr, evTest, evSrc, varV, slot, getV, isTys, isTy, asBool, FF.take, takeF, takes, frz, keptOf, keepF, look, Tr.toD, cmpV, cmpD, cmpI, binV, biV, biD, looks, setNames, asg, mkTup, allSh, sizeLine, Tab.modes, callV, prep, putBack, idxV, isV, rngV, rngItems, evS_whl, evS_for, evE_comp, log_num, a_add, a_sub, a_mul, a_fdiv, a_mod])) (.inl h)).trans rfl
  clear h
  have s := src18 (callF tab (n + 1)) (t := GL a b c) (x := some (I 0)) (y := none) hi
  have s1 : evS tab (callF tab (n + 1)) (.ifs (.cmp .gt (.idx (.var 0) (.int 0)) (.int 0)) (.cons (.asg (.name 2) (.bin .mod (.bi .int (.cons (.idx (.var 0) (.int 0)) .nil)) (.var 1))) (.cons (.setIx 0 (.int 0) (.bin .fdiv (.idx (.var 0) (.int 0)) (.var 1))) (.cons (.ret (.var 2)) .nil))) .nil) [some (GL a b c), some (I m), none, none] = .nx [some (GL a b c), some (I m), none, none] := by
    simp [evSs.eq_1, evSs.eq_2, evS.eq_1, evS.eq_2, evS.eq_3, evS.eq_4, evS.eq_5, evS.eq_6, evS.eq_7, evS.eq_8, evS.eq_11, evS.eq_12, evS.eq_13, evS.eq_14, evS.eq_15, evS.eq_16, evS.eq_17, exnV, evE.eq_1, evE.eq_2, evE.eq_3, evE.eq_4, evE.eq_5, evE.eq_6, evE.eq_7, evE.eq_8, evE.eq_9, evE.eq_10, evE.eq_11, evE.eq_12, evE.eq_13, evE.eq_14, evE.eq_15, evE.eq_16, evE.eq_17, evE.eq_18, evE.eq_19, evE.eq_20, evE.eq_21, evE.eq_22, evE.eq_23, evE.eq_24, evE.eq_25, evE.eq_26, evE.eq_27, evE.eq_30, evE.eq_31, evE.eq_32, evE.eq_33, evE.eq_34, evEs, evAnd, evOr, evTest, evSrc, varV, slot, getV, isTys, isTy, asBool, FF.take, takeF, takes, frz, keptOf, keepF, look, Tr.toD, cmpV, cmpD, cmpI, binV, biV, biD, looks, setNames, asg, mkTup, allSh, sizeLine, Tab.modes, callV, prep, putBack, idxV, isV, rngV, rngItems, evS_whl, evS_for, evE_comp, log_num, a_add, a_sub, a_mul, a_fdiv, a_mod, ixN, ha]
  have s2 : evS tab (callF tab (n + 1)) (.asg (.name 2) (.int 0)) [some (GL a b c), some (I m), none, none] = .nx [some (GL a b c), some (I m), some (I 0), none] := by simp [evSs.eq_1, evSs.eq_2, evS.eq_1, evS.eq_2, evS.eq_3, evS.eq_4, evS.eq_5, evS.eq_6, evS.eq_7, evS.eq_8, evS.eq_11, evS.eq_12, evS.eq_13, evS.eq_14, evS.eq_15, evS.eq_16, evS.eq_17, exnV, evE.eq_1, evE.eq_2, evE.eq_3, evE.eq_4, evE.eq_5, evE.eq_6, evE.eq_7, evE.eq_8, evE.eq_9, evE.eq_10, evE.eq_11, evE.eq_12, evE.eq_13, evE.eq_14, evE.eq_15, evE.eq_16, evE.eq_17, evE.eq_18, evE.eq_19, evE.eq_20, evE.eq_21, evE.eq_22, evE.eq_23, evE.eq_24, evE.eq_25, evE.eq_26, evE.eq_27, evE.eq_30, evE.eq_31, evE.eq_32, evE.eq_33, evE.eq_34, evEs, evAnd, evOr, evTest, evSrc, varV, slot, getV, isTys, isTy, asBool, FF.take, takeF, takes, frz, keptOf, keepF, look, Tr.toD, cmpV, cmpD, cmpI, binV, biV, biD, looks, setNames, asg, mkTup, allSh, sizeLine, Tab.modes, callV, prep, putBack, idxV, isV, rngV, rngItems, evS_whl, evS_for, evE_comp, log_num, a_add, a_sub, a_mul, a_fdiv, a_mod]
  have s3 : evS tab (callF tab (n + 1)) (.fors (.name 3) (.rng (.cons (.bin .add (.int 1) (.bin .fdiv (.bits (.var 1)) (.int 30))) .nil)) f52_b0) [some (GL a b c), some (I m), some (I 0), none] = .nx [some (GL a b (c + 1)), some (I m), some (I r), some (I 0)] := by
    rw [evS_for, s]; exact l
  have s4 : evS tab (callF tab (n + 1)) (.ret (.bin .mod (.bi .int (.cons (.var 2) .nil)) (.var 1))) [some (GL a b (c + 1)), some (I m), some (I r), some (I 0)] = .rt (I (r % m)) [some (GL a b (c + 1)), some (I m), some (I r), some (I 0)] := by simp [evSs.eq_1, evSs.eq_2, evS.eq_1, evS.eq_2, evS.eq_3, evS.eq_4, evS.eq_5, evS.eq_6, evS.eq_7, evS.eq_8, evS.eq_11, evS.eq_12, evS.eq_13, evS.eq_14, evS.eq_15, evS.eq_16, evS.eq_17, exnV, evE.eq_1, evE.eq_2, evE.eq_3, evE.eq_4, evE.eq_5, evE.eq_6, evE.eq_7, evE.eq_8, evE.eq_9, evE.eq_10, evE.eq_11, evE.eq_12, evE.eq_13, evE.eq_14, evE.eq_15, evE.eq_16, evE.eq_17, evE.eq_18, evE.eq_19, evE.eq_20, evE.eq_21, evE.eq_22, evE.eq_23, evE.eq_24, evE.eq_25, evE.eq_26, evE.eq_27, evE.eq_30, evE.eq_31, evE.eq_32, evE.eq_33, evE.eq_34, evEs, evAnd, evOr, evTest, evSrc, varV, slot, getV, isTys, isTy, asBool, FF.take, takeF, takes, frz, keptOf, keepF, look, Tr.toD, cmpV, cmpD, cmpI, binV, biV, biD, looks, setNames, asg, mkTup, allSh, sizeLine, Tab.modes, callV, prep, putBack, idxV, isV, rngV, rngItems, evS_whl, evS_for, evE_comp, log_num, a_add, a_sub, a_mul, a_fdiv, a_mod, hm]
  show fin f52 2 (evSs tab (callF tab (n + 1)) f52.body [some (GL a b c), some (I m), none, none]) = _
  unfold f52
  dsimp only
  rw [evSs.eq_2, s1]
  dsimp only
  rw [evSs.eq_2, s2]
  dsimp only
  rw [evSs.eq_2, s3]
  dsimp only
  rw [evSs.eq_2, s4]
  rfl
theorem c18 (n : Nat) {a b c m : Int} (hm : 0 < m) (hl : m.natAbs.log2 < 9000) (hi : (Builtin.Int.intBits m : Int) / 30 = 0) (hb : b.natAbs < 2 ^ 31) (hc : (c + 1).natAbs < 2 ^ 31) : ∃ r a' c' : Int, 0 ≤ r ∧ r < m ∧ (c' = c ∨ c' = c + 1) ∧ callF tab (n + 2) 52 [GL a b c, I m] = .ok (I r) [some (GL a' b c'), none] := by
  by_cases ha : 0 < a
  · exact ⟨a % m, a / m, c, Int.emod_nonneg _ (by omega), Int.emod_lt_of_pos _ hm, .inl rfl, c18a n hm hl ha⟩
  · obtain ⟨r, h⟩ := c18b n hm hi hb hc ha
    exact ⟨r % m, a, c + 1, Int.emod_nonneg _ (by omega), Int.emod_lt_of_pos _ hm, .inr rfl, h⟩
abbrev SC (ns : List Int) : Tr := .sh (.list (ns.map PyData.int))
theorem c19 (n : Nat) (ns : List Int) (k : Nat) : ∃ i : Int, callF tab (n + 1) 53 [SC ns, I k] = .ok (I i) [none, none] := by
  rw [cfs (F := f53) rfl n _ rfl]
  by_cases h : k < ns.length
  · have e : atI (ns.map PyData.int) (k : Int) = some (.int ns[k]) := by
      unfold atI ixN
      simp [evSs.eq_1, evSs.eq_2, evS.eq_1, evS.eq_2, evS.eq_3, evS.eq_4, evS.eq_5, evS.eq_6, evS.eq_7, evS.eq_8, evS.eq_11, evS.eq_12, evS.eq_13, evS.eq_14, evS.eq_15, evS.eq_16, evS.eq_17, exnV, evE.eq_1, evE.eq_2, evE.eq_3, evE.eq_4, evE.eq_5, evE.eq_6, evE.eq_7, evE.eq_8, evE.eq_9, evE.eq_10, evE.eq_11, evE.eq_12, evE.eq_13, evE.eq_14, evE.eq_15, evE.eq_16, evE.eq_17, evE.eq_18, evE.eq_19, evE.eq_20, evE.eq_21, evE.eq_22, evE.eq_23, evE.eq_24, evE.eq_25, evE.eq_26, evE.eq_27, evE.eq_30, evE.eq_31, evE.eq_32, evE.eq_33, evE.eq_34, evEs, evAnd, evOr, evTest, evSrc, varV, slot, getV, isTys, isTy, asBool, FF.take, takeF, takes, frz, keptOf, keepF, look, Tr.toD, cmpV, cmpD, cmpI, binV, biV, biD, looks, setNames, asg, mkTup, allSh, sizeLine, Tab.modes, callV, prep, putBack, idxV, isV, rngV, rngItems, evS_whl, evS_for, evE_comp, log_num, a_add, a_sub, a_mul, a_fdiv, a_mod, h]
    refine ⟨ns[k], ?_⟩
    simp [evSs.eq_1, evSs.eq_2, evS.eq_1, evS.eq_2, evS.eq_3, evS.eq_4, evS.eq_5, evS.eq_6, evS.eq_7, evS.eq_8, evS.eq_11, evS.eq_12, evS.eq_13, evS.eq_14, evS.eq_15, evS.eq_16, evS.eq_17, exnV, evE.eq_1, evE.eq_2, evE.eq_3, evE.eq_4, evE.eq_5, evE.eq_6, evE.eq_7, evE.eq_8, evE.eq_9, evE.eq_10, evE.eq_11, evE.eq_12, evE.eq_13, evE.eq_14, evE.eq_15, evE.eq_16, evE.eq_17, evE.eq_18, evE.eq_19, evE.eq_20, evE.eq_21, evE.eq_22, evE.eq_23, evE.eq_24, evE.eq_25, evE.eq_26, evE.eq_27, evE.eq_30, evE.eq_31, evE.eq_32, evE.eq_33, evE.eq_34, evEs, evAnd, evOr, evTest, evSrc, varV, slot, getV, isTys, isTy, asBool, FF.take, takeF, takes, frz, keptOf, keepF, look, Tr.toD, cmpV, cmpD, cmpI, binV, biV, biD, looks, setNames, asg, mkTup, allSh, sizeLine, Tab.modes, callV, prep, putBack, idxV, isV, rngV, rngItems, evS_whl, evS_for, evE_comp, log_num, a_add, a_sub, a_mul, a_fdiv, a_mod, fin, f53, h, e]
  · have h0 : ¬ (k : Int) < (ns.length : Int) := by omega
    cases ns with
    | nil =>
      have h1 : ¬ (k : Int) < 0 := by omega
      simp [evSs.eq_1, evSs.eq_2, evS.eq_1, evS.eq_2, evS.eq_3, evS.eq_4, evS.eq_5, evS.eq_6, evS.eq_7, evS.eq_8, evS.eq_11, evS.eq_12, evS.eq_13, evS.eq_14, evS.eq_15, evS.eq_16, evS.eq_17, exnV, evE.eq_1, evE.eq_2, evE.eq_3, evE.eq_4, evE.eq_5, evE.eq_6, evE.eq_7, evE.eq_8, evE.eq_9, evE.eq_10, evE.eq_11, evE.eq_12, evE.eq_13, evE.eq_14, evE.eq_15, evE.eq_16, evE.eq_17, evE.eq_18, evE.eq_19, evE.eq_20, evE.eq_21, evE.eq_22, evE.eq_23, evE.eq_24, evE.eq_25, evE.eq_26, evE.eq_27, evE.eq_30, evE.eq_31, evE.eq_32, evE.eq_33, evE.eq_34, evEs, evAnd, evOr, evTest, evSrc, varV, slot, getV, isTys, isTy, asBool, FF.take, takeF, takes, frz, keptOf, keepF, look, Tr.toD, cmpV, cmpD, cmpI, binV, biV, biD, looks, setNames, asg, mkTup, allSh, sizeLine, Tab.modes, callV, prep, putBack, idxV, isV, rngV, rngItems, evS_whl, evS_for, evE_comp, log_num, a_add, a_sub, a_mul, a_fdiv, a_mod, fin, f53, h1, slcV, optI, intsOf, seqOf, Tr.toDs]
    | cons x xs =>
      have h2 : ¬ (k : Int) < xs.length + 1 := by simpa using h0
      have h3 : HT.sIx (xs.length + 1) 0 none = 0 := rfl
      have h4 : HT.sIx (xs.length + 1) (xs.length + 1) (some 1) = 1 := by
        have := HT.sIx_nat (xs.length + 1) (xs.length + 1) 1
        rw [show ((1 : Nat) : Int) = 1 from rfl] at this
        rw [this]
        omega
      simp [evSs.eq_1, evSs.eq_2, evS.eq_1, evS.eq_2, evS.eq_3, evS.eq_4, evS.eq_5, evS.eq_6, evS.eq_7, evS.eq_8, evS.eq_11, evS.eq_12, evS.eq_13, evS.eq_14, evS.eq_15, evS.eq_16, evS.eq_17, exnV, evE.eq_1, evE.eq_2, evE.eq_3, evE.eq_4, evE.eq_5, evE.eq_6, evE.eq_7, evE.eq_8, evE.eq_9, evE.eq_10, evE.eq_11, evE.eq_12, evE.eq_13, evE.eq_14, evE.eq_15, evE.eq_16, evE.eq_17, evE.eq_18, evE.eq_19, evE.eq_20, evE.eq_21, evE.eq_22, evE.eq_23, evE.eq_24, evE.eq_25, evE.eq_26, evE.eq_27, evE.eq_30, evE.eq_31, evE.eq_32, evE.eq_33, evE.eq_34, evEs, evAnd, evOr, evTest, evSrc, varV, slot, getV, isTys, isTy, asBool, FF.take, takeF, takes, frz, keptOf, keepF, look, Tr.toD, cmpV, cmpD, cmpI, binV, biV, biD, looks, setNames, asg, mkTup, allSh, sizeLine, Tab.modes, callV, prep, putBack, idxV, isV, rngV, rngItems, evS_whl, evS_for, evE_comp, log_num, a_add, a_sub, a_mul, a_fdiv, a_mod, fin, f53, h2, slcV, optI, intsOf, seqOf, Tr.toDs, h3, h4]
theorem a_pow (i j : Int) (h : 0 ≤ j ∧ (Builtin.Int.intBits i : Int) * j ≤ 2 ^ 27) : arith .pow i j = some (i ^ j.toNat) := by
  unfold arith; exact if_pos h
theorem pw1 : arith .pow 10 18 = some 1000000000000000000 := by rw [a_pow _ _ (by decide +kernel)]; rfl
def T60 : Int := 10 ^ 60
theorem pw2 : arith .pow 10 60 = some T60 := by rw [a_pow _ _ (by decide +kernel)]; rfl
def T600 : Int := T60 ^ 10
theorem pw3 : arith .pow T60 10 = some T600 := by rw [a_pow _ _ (by decide +kernel)]; rfl
theorem T600_pos : 0 < T600 := by decide +kernel
/-- a generator as the law makes it -/
def Gen (m : Nat) (t : Tr) : Prop := ∃ a b c : Int, t = GL a b c ∧ b.natAbs < 2 ^ 31 ∧ 0 ≤ c ∧ c ≤ m
theorem c20 (n : Nat) (ns : List Int) (k : Nat) (hk : k ≤ 1000) : ∃ t : Tr, Gen (1000 * k) t ∧ callF tab (n + 2) 54 [SC ns, I k] = .ok t [none, none] := by
  rw [cfs (F := f54) rfl (n + 1) _ rfl]
  obtain ⟨i, h⟩ := c19 n ns k
  have m19 : (tab.fns[53]?) = some f53 := rfl
  have lk : k.log2 < 9000 := log_num k (Nat.lt_of_le_of_lt hk (by decide))
  refine ⟨_, ⟨(if (0 : Int) > i - 1000000000000000000 then 0 else i - 1000000000000000000) % T600, i % 2147483647, 1000 * k, rfl, md_b i (by decide) (by decide), by omega, by omega⟩, ?_⟩
  simp [evSs.eq_1, evSs.eq_2, evS.eq_1, evS.eq_2, evS.eq_3, evS.eq_4, evS.eq_5, evS.eq_6, evS.eq_7, evS.eq_8, evS.eq_11, evS.eq_12, evS.eq_13, evS.eq_14, evS.eq_15, evS.eq_16, evS.eq_17, exnV, evE.eq_1, evE.eq_2, evE.eq_3, evE.eq_4, evE.eq_5, evE.eq_6, evE.eq_7, evE.eq_8, evE.eq_9, evE.eq_10, evE.eq_11, evE.eq_12, evE.eq_13, evE.eq_14, evE.eq_15, evE.eq_16, evE.eq_17, evE.eq_18, evE.eq_19, evE.eq_20, evE.eq_21, evE.eq_22, evE.eq_23, evE.eq_24, evE.eq_25, evE.eq_26, evE.eq_27, evE.eq_30, evE.eq_31, evE.eq_32, evE.eq_33, evE.eq_34, evEs, evAnd, evOr, evTest, evSrc, varV, slot, getV, isTys, isTy, asBool, FF.take, takeF, takes, frz, keptOf, keepF, look, Tr.toD, cmpV, cmpD, cmpI, binV, biV, biD, looks, setNames, asg, mkTup, allSh, sizeLine, Tab.modes, callV, prep, putBack, idxV, isV, rngV, rngItems, evS_whl, evS_for, evE_comp, log_num, a_add, a_sub, a_mul, a_fdiv, a_mod, fin, f54, m19, f53, h, pw1, pw2, pw3, T600_pos, lk]
theorem rnd (n : Nat) {k : Nat} {t : Tr} {m : Int} (g : Gen k t) (hk : k ≤ 1000000) (hm : 0 < m) (hl : m.natAbs.log2 < 9000) (hi : (Builtin.Int.intBits m : Int) / 30 = 0) : ∃ (r : Int) (t' : Tr), 0 ≤ r ∧ r < m ∧ Gen (k + 1) t' ∧ callF tab (n + 2) 52 [t, I m] = .ok (I r) [some t', none] := by
  obtain ⟨a, b, c, rfl, hb, h0, hc⟩ := g
  obtain ⟨r, a', c', h1, h2, h3, h⟩ := c18 n (a := a) (b := b) (c := c) hm hl hi hb (by show (c + 1).natAbs < 2147483648; omega)
  exact ⟨r, GL a' b c', h1, h2, ⟨a', b, c', rfl, hb, by omega, by omega⟩, h⟩
end K98

set_option Elab.async false
set_option linter.all false
set_option autoImplicit false
set_option maxRecDepth 100000
namespace K98
open PySem PySem.Spec PyProof.Rows L2 FF
theorem varL {cf : CF} {i : Nat} {ts : List Tr} {env : FF.Env} (h : env[i]? = some (some (.lst ts))) : evE tab cf (.var i) env = .ok (.brw i, env) := by simp [evSs.eq_1, evSs.eq_2, evS.eq_1, evS.eq_2, evS.eq_3, evS.eq_4, evS.eq_5, evS.eq_6, evS.eq_7, evS.eq_8, evS.eq_11, evS.eq_12, evS.eq_13, evS.eq_14, evS.eq_15, evS.eq_16, evS.eq_17, exnV, evE.eq_1, evE.eq_2, evE.eq_3, evE.eq_4, evE.eq_5, evE.eq_6, evE.eq_7, evE.eq_8, evE.eq_9, evE.eq_10, evE.eq_11, evE.eq_12, evE.eq_13, evE.eq_14, evE.eq_15, evE.eq_16, evE.eq_17, evE.eq_18, evE.eq_19, evE.eq_20, evE.eq_21, evE.eq_22, evE.eq_23, evE.eq_24, evE.eq_25, evE.eq_26, evE.eq_27, evE.eq_30, evE.eq_31, evE.eq_32, evE.eq_33, evE.eq_34, evEs, evAnd, evOr, evTest, evSrc, varV, slot, getV, isTys, isTy, asBool, FF.take, takeF, takes, frz, keptOf, keepF, look, Tr.toD, cmpV, cmpD, cmpI, binV, biV, biD, looks, setNames, asg, mkTup, allSh, sizeLine, Tab.modes, callV, prep, putBack, idxV, isV, rngV, rngItems, evS_whl, evS_for, evE_comp, log_num, a_add, a_sub, a_mul, a_fdiv, a_mod, h]
theorem small_bits : ∀ m < 40, (Builtin.Int.intBits ((m : Nat) : Int) : Int) / 30 = 0 := by decide +kernel
theorem call52 (n : Nat) {k i : Nat} {t : Tr} {m : Nat} {eb : E} {env : FF.Env} (h : env[i]? = some (some t)) (g : Gen k t) (hk : k ≤ 900000) (hm : 0 < m) (hm2 : m < 40) (hb : evE tab (callF tab (n + 2)) eb env = .ok (.tr (I (m : Int)), env)) : ∃ (r : Nat) (t' : Tr), r < m ∧ Gen (k + 1) t' ∧ evE tab (callF tab (n + 2)) (.call 52 (.cons (.var i) (.cons eb .nil))) env = .ok (.tr (I (r : Int)), env.set i (some t')) := by
  obtain ⟨r, t', h1, h2, g', e⟩ := rnd n g (m := (m : Int)) (by omega) (by omega) (by
    have : (m : Int).natAbs < 2 ^ 6 := by show (m : Int).natAbs < 64; omega
    exact lg1 this (by decide)) (small_bits m hm2)
  refine ⟨r.toNat, t', by omega, g', ?_⟩
  have er : ((r.toNat : Nat) : Int) = r := by omega
  rw [er]
  have md : tab.modes 52 = [true, false] := rfl
  obtain ⟨a, b, c, rfl, _⟩ := g
  have v := varL (cf := callF tab (n + 2)) h
  simp [evSs.eq_1, evSs.eq_2, evS.eq_1, evS.eq_2, evS.eq_3, evS.eq_4, evS.eq_5, evS.eq_6, evS.eq_7, evS.eq_8, evS.eq_11, evS.eq_12, evS.eq_13, evS.eq_14, evS.eq_15, evS.eq_16, evS.eq_17, exnV, evE.eq_2, evE.eq_3, evE.eq_4, evE.eq_5, evE.eq_6, evE.eq_7, evE.eq_8, evE.eq_9, evE.eq_10, evE.eq_11, evE.eq_12, evE.eq_13, evE.eq_14, evE.eq_15, evE.eq_16, evE.eq_17, evE.eq_18, evE.eq_19, evE.eq_20, evE.eq_21, evE.eq_22, evE.eq_23, evE.eq_24, evE.eq_25, evE.eq_26, evE.eq_27, evE.eq_30, evE.eq_31, evE.eq_32, evE.eq_33, evE.eq_34, evEs, evAnd, evOr, evTest, evSrc, varV, slot, getV, isTys, isTy, asBool, FF.take, takeF, takes, frz, keptOf, keepF, look, Tr.toD, cmpV, cmpD, cmpI, binV, biV, biD, looks, setNames, asg, mkTup, allSh, sizeLine, callV, prep, putBack, idxV, isV, rngV, rngItems, evS_whl, evS_for, evE_comp, log_num, a_add, a_sub, a_mul, a_fdiv, a_mod, v, h, md, hb, e]
theorem at_nat {α : Type} {xs : List α} {j : Nat} (h : j < xs.length) : atI xs (j : Int) = some xs[j] := by
  unfold atI ixN
  simp [evSs.eq_1, evSs.eq_2, evS.eq_1, evS.eq_2, evS.eq_3, evS.eq_4, evS.eq_5, evS.eq_6, evS.eq_7, evS.eq_8, evS.eq_11, evS.eq_12, evS.eq_13, evS.eq_14, evS.eq_15, evS.eq_16, evS.eq_17, exnV, evE.eq_1, evE.eq_2, evE.eq_3, evE.eq_4, evE.eq_5, evE.eq_6, evE.eq_7, evE.eq_8, evE.eq_9, evE.eq_10, evE.eq_11, evE.eq_12, evE.eq_13, evE.eq_14, evE.eq_15, evE.eq_16, evE.eq_17, evE.eq_18, evE.eq_19, evE.eq_20, evE.eq_21, evE.eq_22, evE.eq_23, evE.eq_24, evE.eq_25, evE.eq_26, evE.eq_27, evE.eq_30, evE.eq_31, evE.eq_32, evE.eq_33, evE.eq_34, evEs, evAnd, evOr, evTest, evSrc, varV, slot, getV, isTys, isTy, asBool, FF.take, takeF, takes, frz, keptOf, keepF, look, Tr.toD, cmpV, cmpD, cmpI, binV, biV, biD, looks, setNames, asg, mkTup, allSh, sizeLine, Tab.modes, callV, prep, putBack, idxV, isV, rngV, rngItems, evS_whl, evS_for, evE_comp, log_num, a_add, a_sub, a_mul, a_fdiv, a_mod, h]
theorem seq_rt {cf : CF} {s : S} {ss : Ss} {env e1 : FF.Env} {t : Tr} (h : evS tab cf s env = .rt t e1) : evSs tab cf (.cons s ss) env = .rt t e1 := by
  rw [evSs.eq_2, h]
theorem seq_nx {cf : CF} {s : S} {ss : Ss} {env e1 : FF.Env} {r : RS} (h : evS tab cf s env = .nx e1) (h2 : evSs tab cf ss e1 = r) : evSs tab cf (.cons s ss) env = r := by
  rw [evSs.eq_2, h]; exact h2
theorem c55 (n : Nat) {k : Nat} {t : Tr} {ds : List D} (g : Gen k t) (hk : k ≤ 700000) (h0 : 0 < ds.length) (h1 : ds.length < 40) : ∃ (d : D) (t' : Tr), d ∈ ds ∧ Gen (k + 1) t' ∧ callF tab (n + 3) 55 [t, .sh (.list ds)] = .ok (.sh d) [some t', none] := by
  obtain ⟨r, t', hr, g', e⟩ := call52 n (i := 0) (m := ds.length) (env := [some t, some (.sh (.list ds))]) rfl g (by omega) h0 h1 (eb := .bi .len (.cons (.var 1) .nil)) (by simp [evSs.eq_1, evSs.eq_2, evS.eq_1, evS.eq_2, evS.eq_3, evS.eq_4, evS.eq_5, evS.eq_6, evS.eq_7, evS.eq_8, evS.eq_11, evS.eq_12, evS.eq_13, evS.eq_14, evS.eq_15, evS.eq_16, evS.eq_17, exnV, evE.eq_1, evE.eq_2, evE.eq_3, evE.eq_4, evE.eq_5, evE.eq_6, evE.eq_7, evE.eq_8, evE.eq_9, evE.eq_10, evE.eq_11, evE.eq_12, evE.eq_13, evE.eq_14, evE.eq_15, evE.eq_16, evE.eq_17, evE.eq_18, evE.eq_19, evE.eq_20, evE.eq_21, evE.eq_22, evE.eq_23, evE.eq_24, evE.eq_25, evE.eq_26, evE.eq_27, evE.eq_30, evE.eq_31, evE.eq_32, evE.eq_33, evE.eq_34, evEs, evAnd, evOr, evTest, evSrc, varV, slot, getV, isTys, isTy, asBool, FF.take, takeF, takes, frz, keptOf, keepF, look, Tr.toD, cmpV, cmpD, cmpI, binV, biV, biD, looks, setNames, asg, mkTup, allSh, sizeLine, Tab.modes, callV, prep, putBack, idxV, isV, rngV, rngItems, evS_whl, evS_for, evE_comp, log_num, a_add, a_sub, a_mul, a_fdiv, a_mod])
  have hx : atI ds (r : Int) = some ds[r] := at_nat hr
  refine ⟨ds[r], t', List.getElem_mem hr, g', ?_⟩
  rw [cfs (F := f55) rfl (n + 2) _ rfl]
  have b : evSs tab (callF tab (n + 2)) f55.body [some t, some (.sh (.list ds))] = .rt (.sh ds[r]) [some t', some (.sh (.list ds))] := by
    refine seq_rt ?_
    have v : evE tab (callF tab (n + 2)) (.var 1) [some t, some (.sh (.list ds))] = .ok (.tr (.sh (.list ds)), [some t, some (.sh (.list ds))]) := by simp [evSs.eq_1, evSs.eq_2, evS.eq_1, evS.eq_2, evS.eq_3, evS.eq_4, evS.eq_5, evS.eq_6, evS.eq_7, evS.eq_8, evS.eq_11, evS.eq_12, evS.eq_13, evS.eq_14, evS.eq_15, evS.eq_16, evS.eq_17, exnV, evE.eq_1, evE.eq_2, evE.eq_3, evE.eq_4, evE.eq_5, evE.eq_6, evE.eq_7, evE.eq_8, evE.eq_9, evE.eq_10, evE.eq_11, evE.eq_12, evE.eq_13, evE.eq_14, evE.eq_15, evE.eq_16, evE.eq_17, evE.eq_18, evE.eq_19, evE.eq_20, evE.eq_21, evE.eq_22, evE.eq_23, evE.eq_24, evE.eq_25, evE.eq_26, evE.eq_27, evE.eq_30, evE.eq_31, evE.eq_32, evE.eq_33, evE.eq_34, evEs, evAnd, evOr, evTest, evSrc, varV, slot, getV, isTys, isTy, asBool, FF.take, takeF, takes, frz, keptOf, keepF, look, Tr.toD, cmpV, cmpD, cmpI, binV, biV, biD, looks, setNames, asg, mkTup, allSh, sizeLine, Tab.modes, callV, prep, putBack, idxV, isV, rngV, rngItems, evS_whl, evS_for, evE_comp, log_num, a_add, a_sub, a_mul, a_fdiv, a_mod]
    rw [evS.eq_6, evE.eq_19, v]
    simp only [R.bind_ok]
    rw [e]
    simp only [R.bind_ok]
    simp [evSs.eq_1, evSs.eq_2, evS.eq_1, evS.eq_2, evS.eq_3, evS.eq_4, evS.eq_5, evS.eq_6, evS.eq_7, evS.eq_8, evS.eq_11, evS.eq_12, evS.eq_13, evS.eq_14, evS.eq_15, evS.eq_16, evS.eq_17, exnV, evE.eq_1, evE.eq_2, evE.eq_3, evE.eq_4, evE.eq_5, evE.eq_6, evE.eq_7, evE.eq_8, evE.eq_9, evE.eq_10, evE.eq_11, evE.eq_12, evE.eq_13, evE.eq_14, evE.eq_15, evE.eq_16, evE.eq_17, evE.eq_18, evE.eq_19, evE.eq_20, evE.eq_21, evE.eq_22, evE.eq_23, evE.eq_24, evE.eq_25, evE.eq_26, evE.eq_27, evE.eq_30, evE.eq_31, evE.eq_32, evE.eq_33, evE.eq_34, evEs, evAnd, evOr, evTest, evSrc, varV, slot, getV, isTys, isTy, asBool, FF.take, takeF, takes, frz, keptOf, keepF, look, Tr.toD, cmpV, cmpD, cmpI, binV, biV, biD, looks, setNames, asg, mkTup, allSh, sizeLine, Tab.modes, callV, prep, putBack, idxV, isV, rngV, rngItems, evS_whl, evS_for, evE_comp, log_num, a_add, a_sub, a_mul, a_fdiv, a_mod, hx]
  have b' : evSs tab (callF tab (n + 2)) f55.body (([t, .sh (.list ds)] : List Tr).map some ++ List.replicate (f55.N.length - ([t, .sh (.list ds)] : List Tr).length) none) = _ := b
  rw [b']
  rfl
end K98

set_option Elab.async false
set_option linter.all false
set_option autoImplicit false
set_option maxRecDepth 100000
set_option maxHeartbeats 0
namespace K98
open PySem PySem.Spec PyProof.Rows L2 FF
/-- what the law's slots hold -/
def E (s i g v : Tr) (x4 x5 x7 x8 x9 : Option Tr) : FF.Env := [some s, some i, some g, some v, x4, x5, none, x7, x8, x9, none]
def i20 : List Tr := (List.range 20).map fun (k : Nat) => I (k : Int)
def vs8 : List D := [.none, .int 0, .tuple [.int 1, .int 2], .str "text", .list [.int 1, .list [.int 2]], .dict [(.str "a", .int 1)], .int 35, .bool true]
def ws7 : List D := [.none, .int 75, .str "x", .tuple [.str "x"], .dict [], .list [.none], .list [.list [], .str "y"]]
def g3 (v : D) : Tr := .sh (.tuple [v, .int 1, .int 2])
abbrev Bnum : FF.Env → RS := bd tab (callF tab 39) f59_b2
/-- the door's turn behind the draw -/
def rest0 : Ss := match f59_b0 with
  | .cons _ r => r
  | .nil => .nil
abbrev NumOk (v : D) : Prop := ∀ (s i g : Tr) (x4 x5 x7 x8 x9 : Option Tr), forL (.name 4) Bnum i20 (E s i g (.sh v) x4 x5 x7 x8 x9) = .nx (E s i g (.sh v) (some (I 19)) (some (.exc 0 .none)) (some (g3 v)) x8 x9)
abbrev DoorOk (d n : Int) (c : Nat) (w : D) : Prop := ∀ (s i g v : Tr) (x5 x7 : Option Tr), evSs tab (callF tab 39) rest0 (E s i g v (some (I n)) x5 x7 (some (I d)) (some (.sh w))) = .nx (E s i g v (some (I n)) (some (.exc c w)) x7 (some (I d)) (some (.sh w)))
end K98

set_option Elab.async false
set_option linter.all false
set_option autoImplicit false
set_option maxRecDepth 100000
set_option maxHeartbeats 0
namespace K98
open PySem PySem.Spec PyProof.Rows L2 FF
theorem num0 : NumOk (.none) := by
  intro s i g x4 x5 x7 x8 x9
  kernel_rfl
theorem num1 : NumOk (.int 0) := by
  intro s i g x4 x5 x7 x8 x9
  kernel_rfl
theorem num2 : NumOk (.tuple [.int 1, .int 2]) := by
  intro s i g x4 x5 x7 x8 x9
  kernel_rfl
theorem num3 : NumOk (.str "text") := by
  intro s i g x4 x5 x7 x8 x9
  kernel_rfl
end K98

set_option Elab.async false
set_option linter.all false
set_option autoImplicit false
set_option maxRecDepth 100000
set_option maxHeartbeats 0
namespace K98
open PySem PySem.Spec PyProof.Rows L2 FF
theorem num4 : NumOk (.list [.int 1, .list [.int 2]]) := by
  intro s i g x4 x5 x7 x8 x9
  kernel_rfl
theorem num5 : NumOk (.dict [(.str "a", .int 1)]) := by
  intro s i g x4 x5 x7 x8 x9
  kernel_rfl
theorem num6 : NumOk (.int 35) := by
  intro s i g x4 x5 x7 x8 x9
  kernel_rfl
theorem num7 : NumOk (.bool true) := by
  intro s i g x4 x5 x7 x8 x9
  kernel_rfl
end K98

set_option Elab.async false
set_option linter.all false
set_option autoImplicit false
set_option maxRecDepth 100000
set_option maxHeartbeats 0
namespace K98
open PySem PySem.Spec PyProof.Rows L2 FF
theorem door0_0 : DoorOk 0 4 1 (.none) := by
  intro s i g v x5 x7
  kernel_rfl
theorem door0_1 : DoorOk 0 4 1 (.int 75) := by
  intro s i g v x5 x7
  kernel_rfl
theorem door0_2 : DoorOk 0 4 1 (.str "x") := by
  intro s i g v x5 x7
  kernel_rfl
theorem door0_3 : DoorOk 0 4 1 (.tuple [.str "x"]) := by
  intro s i g v x5 x7
  kernel_rfl
theorem door0_4 : DoorOk 0 4 1 (.dict []) := by
  intro s i g v x5 x7
  kernel_rfl
theorem door0_5 : DoorOk 0 4 1 (.list [.none]) := by
  intro s i g v x5 x7
  kernel_rfl
theorem door0_6 : DoorOk 0 4 1 (.list [.list [], .str "y"]) := by
  intro s i g v x5 x7
  kernel_rfl
theorem door1_0 : DoorOk 1 8 10 (.none) := by
  intro s i g v x5 x7
  kernel_rfl
theorem door1_1 : DoorOk 1 8 10 (.int 75) := by
  intro s i g v x5 x7
  kernel_rfl
theorem door1_2 : DoorOk 1 8 10 (.str "x") := by
  intro s i g v x5 x7
  kernel_rfl
theorem door1_3 : DoorOk 1 8 10 (.tuple [.str "x"]) := by
  intro s i g v x5 x7
  kernel_rfl
theorem door1_4 : DoorOk 1 8 10 (.dict []) := by
  intro s i g v x5 x7
  kernel_rfl
theorem door1_5 : DoorOk 1 8 10 (.list [.none]) := by
  intro s i g v x5 x7
  kernel_rfl
theorem door1_6 : DoorOk 1 8 10 (.list [.list [], .str "y"]) := by
  intro s i g v x5 x7
  kernel_rfl
theorem door2_0 : DoorOk 2 2 5 (.none) := by
  intro s i g v x5 x7
  kernel_rfl
theorem door2_1 : DoorOk 2 2 5 (.int 75) := by
  intro s i g v x5 x7
  kernel_rfl
theorem door2_2 : DoorOk 2 2 5 (.str "x") := by
  intro s i g v x5 x7
  kernel_rfl
theorem door2_3 : DoorOk 2 2 5 (.tuple [.str "x"]) := by
  intro s i g v x5 x7
  kernel_rfl
theorem door2_4 : DoorOk 2 2 5 (.dict []) := by
  intro s i g v x5 x7
  kernel_rfl
theorem door2_5 : DoorOk 2 2 5 (.list [.none]) := by
  intro s i g v x5 x7
  kernel_rfl
theorem door2_6 : DoorOk 2 2 5 (.list [.list [], .str "y"]) := by
  intro s i g v x5 x7
  kernel_rfl
theorem door3_0 : DoorOk 3 10 7 (.none) := by
  intro s i g v x5 x7
  kernel_rfl
theorem door3_1 : DoorOk 3 10 7 (.int 75) := by
  intro s i g v x5 x7
  kernel_rfl
theorem door3_2 : DoorOk 3 10 7 (.str "x") := by
  intro s i g v x5 x7
  kernel_rfl
theorem door3_3 : DoorOk 3 10 7 (.tuple [.str "x"]) := by
  intro s i g v x5 x7
  kernel_rfl
theorem door3_4 : DoorOk 3 10 7 (.dict []) := by
  intro s i g v x5 x7
  kernel_rfl
theorem door3_5 : DoorOk 3 10 7 (.list [.none]) := by
  intro s i g v x5 x7
  kernel_rfl
theorem door3_6 : DoorOk 3 10 7 (.list [.list [], .str "y"]) := by
  intro s i g v x5 x7
  kernel_rfl
theorem door4_0 : DoorOk 4 14 4 (.none) := by
  intro s i g v x5 x7
  kernel_rfl
theorem door4_1 : DoorOk 4 14 4 (.int 75) := by
  intro s i g v x5 x7
  kernel_rfl
theorem door4_2 : DoorOk 4 14 4 (.str "x") := by
  intro s i g v x5 x7
  kernel_rfl
theorem door4_3 : DoorOk 4 14 4 (.tuple [.str "x"]) := by
  intro s i g v x5 x7
  kernel_rfl
theorem door4_4 : DoorOk 4 14 4 (.dict []) := by
  intro s i g v x5 x7
  kernel_rfl
theorem door4_5 : DoorOk 4 14 4 (.list [.none]) := by
  intro s i g v x5 x7
  kernel_rfl
theorem door4_6 : DoorOk 4 14 4 (.list [.list [], .str "y"]) := by
  intro s i g v x5 x7
  kernel_rfl
theorem door5_0 : DoorOk 5 7 3 (.none) := by
  intro s i g v x5 x7
  kernel_rfl
theorem door5_1 : DoorOk 5 7 3 (.int 75) := by
  intro s i g v x5 x7
  kernel_rfl
theorem door5_2 : DoorOk 5 7 3 (.str "x") := by
  intro s i g v x5 x7
  kernel_rfl
theorem door5_3 : DoorOk 5 7 3 (.tuple [.str "x"]) := by
  intro s i g v x5 x7
  kernel_rfl
theorem door5_4 : DoorOk 5 7 3 (.dict []) := by
  intro s i g v x5 x7
  kernel_rfl
theorem door5_5 : DoorOk 5 7 3 (.list [.none]) := by
  intro s i g v x5 x7
  kernel_rfl
theorem door5_6 : DoorOk 5 7 3 (.list [.list [], .str "y"]) := by
  intro s i g v x5 x7
  kernel_rfl
theorem last2 (s : Tr) (x1 x2 x3 x4 x5 x7 x8 x9 : Option Tr) : evSs tab (callF tab 39) (match f59.body with
    | .cons _ r => r
    | .nil => .nil) [some s, x1, x2, x3, x4, x5, none, x7, x8, x9, none] = .rt (.sh (.bool true)) [some s, x1, x2, x3, x4, some (.exc 16 (.int 1)), some (.exc 17 (.int 7)), x7, x8, x9, none] := by
  kernel_rfl
end K98

set_option Elab.async false
set_option linter.all false
set_option autoImplicit false
set_option maxRecDepth 100000
namespace K98
open PySem PySem.Spec PyProof.Rows L2 FF
theorem num_ok : ∀ v ∈ vs8, NumOk v := by
  intro v h
  simp only [vs8, List.mem_cons, List.not_mem_nil, or_false] at h
  rcases h with rfl | rfl | rfl | rfl | rfl | rfl | rfl | rfl
  · exact num0
  · exact num1
  · exact num2
  · exact num3
  · exact num4
  · exact num5
  · exact num6
  · exact num7
theorem door0 : ∀ w ∈ ws7, DoorOk 0 4 1 w := by
  intro w h
  simp only [ws7, List.mem_cons, List.not_mem_nil, or_false] at h
  rcases h with rfl | rfl | rfl | rfl | rfl | rfl | rfl
  · exact door0_0
  · exact door0_1
  · exact door0_2
  · exact door0_3
  · exact door0_4
  · exact door0_5
  · exact door0_6
theorem door1 : ∀ w ∈ ws7, DoorOk 1 8 10 w := by
  intro w h
  simp only [ws7, List.mem_cons, List.not_mem_nil, or_false] at h
  rcases h with rfl | rfl | rfl | rfl | rfl | rfl | rfl
  · exact door1_0
  · exact door1_1
  · exact door1_2
  · exact door1_3
  · exact door1_4
  · exact door1_5
  · exact door1_6
theorem door2 : ∀ w ∈ ws7, DoorOk 2 2 5 w := by
  intro w h
  simp only [ws7, List.mem_cons, List.not_mem_nil, or_false] at h
  rcases h with rfl | rfl | rfl | rfl | rfl | rfl | rfl
  · exact door2_0
  · exact door2_1
  · exact door2_2
  · exact door2_3
  · exact door2_4
  · exact door2_5
  · exact door2_6
theorem door3 : ∀ w ∈ ws7, DoorOk 3 10 7 w := by
  intro w h
  simp only [ws7, List.mem_cons, List.not_mem_nil, or_false] at h
  rcases h with rfl | rfl | rfl | rfl | rfl | rfl | rfl
  · exact door3_0
  · exact door3_1
  · exact door3_2
  · exact door3_3
  · exact door3_4
  · exact door3_5
  · exact door3_6
theorem door4 : ∀ w ∈ ws7, DoorOk 4 14 4 w := by
  intro w h
  simp only [ws7, List.mem_cons, List.not_mem_nil, or_false] at h
  rcases h with rfl | rfl | rfl | rfl | rfl | rfl | rfl
  · exact door4_0
  · exact door4_1
  · exact door4_2
  · exact door4_3
  · exact door4_4
  · exact door4_5
  · exact door4_6
theorem door5 : ∀ w ∈ ws7, DoorOk 5 7 3 w := by
  intro w h
  simp only [ws7, List.mem_cons, List.not_mem_nil, or_false] at h
  rcases h with rfl | rfl | rfl | rfl | rfl | rfl | rfl
  · exact door5_0
  · exact door5_1
  · exact door5_2
  · exact door5_3
  · exact door5_4
  · exact door5_5
  · exact door5_6
def hd (b : Ss) : S := match b with
  | .cons s _ => s
  | .nil => .pass
def tl (b : Ss) : Ss := match b with
  | .cons _ r => r
  | .nil => .nil
theorem b0_eq : f59_b0 = .cons (hd f59_b0) rest0 := rfl
theorem draw9 {cf : CF} {s i v g' : Tr} {a b c : Int} {x4 x5 x7 x8 x9 : Option Tr} {w : D} (e : cf 55 [GL a b c, .sh (.list ws7)] = .ok (.sh w) [some g', none]) :
    evS tab cf (hd f59_b0) (E s i (GL a b c) v x4 x5 x7 x8 x9) = .nx (E s i g' v x4 x5 x7 x8 (some (.sh w))) := by
  have md : tab.modes 55 = [true, false] := rfl
  simp only [ws7] at e
  simp [evSs.eq_1, evSs.eq_2, evS.eq_1, evS.eq_2, evS.eq_3, evS.eq_4, evS.eq_5, evS.eq_6, evS.eq_7, evS.eq_8, evS.eq_11, evS.eq_12, evS.eq_13, evS.eq_14, evS.eq_15, evS.eq_16, evS.eq_17, exnV, evE.eq_1, evE.eq_2, evE.eq_3, evE.eq_4, evE.eq_5, evE.eq_6, evE.eq_7, evE.eq_8, evE.eq_9, evE.eq_10, evE.eq_11, evE.eq_12, evE.eq_13, evE.eq_14, evE.eq_15, evE.eq_16, evE.eq_17, evE.eq_18, evE.eq_19, evE.eq_20, evE.eq_21, evE.eq_22, evE.eq_23, evE.eq_24, evE.eq_25, evE.eq_26, evE.eq_27, evE.eq_30, evE.eq_31, evE.eq_32, evE.eq_33, evE.eq_34, evEs, evAnd, evOr, evTest, evSrc, varV, slot, getV, isTys, isTy, asBool, FF.take, takeF, takes, frz, keptOf, keepF, look, Tr.toD, cmpV, cmpD, cmpI, binV, biV, biD, looks, setNames, asg, mkTup, allSh, sizeLine, callV, prep, putBack, idxV, isV, rngV, rngItems, evS_whl, evS_for, evE_comp, log_num, a_add, a_sub, a_mul, a_fdiv, a_mod, hd, f59_b0, E, md, Tr.toDs, e]
theorem draw3 {cf : CF} {s i g' : Tr} {a b c : Int} {x3 x4 x5 x7 x8 x9 : Option Tr} {w : D} (e : cf 55 [GL a b c, .sh (.list vs8)] = .ok (.sh w) [some g', none]) :
    evS tab cf (hd (tl f59_b3)) [some s, some i, some (GL a b c), x3, x4, x5, none, x7, x8, x9, none] = .nx (E s i g' (.sh w) x4 x5 x7 x8 x9) := by
  have md : tab.modes 55 = [true, false] := rfl
  simp only [vs8] at e
  simp [evSs.eq_1, evSs.eq_2, evS.eq_1, evS.eq_2, evS.eq_3, evS.eq_4, evS.eq_5, evS.eq_6, evS.eq_7, evS.eq_8, evS.eq_11, evS.eq_12, evS.eq_13, evS.eq_14, evS.eq_15, evS.eq_16, evS.eq_17, exnV, evE.eq_1, evE.eq_2, evE.eq_3, evE.eq_4, evE.eq_5, evE.eq_6, evE.eq_7, evE.eq_8, evE.eq_9, evE.eq_10, evE.eq_11, evE.eq_12, evE.eq_13, evE.eq_14, evE.eq_15, evE.eq_16, evE.eq_17, evE.eq_18, evE.eq_19, evE.eq_20, evE.eq_21, evE.eq_22, evE.eq_23, evE.eq_24, evE.eq_25, evE.eq_26, evE.eq_27, evE.eq_30, evE.eq_31, evE.eq_32, evE.eq_33, evE.eq_34, evEs, evAnd, evOr, evTest, evSrc, varV, slot, getV, isTys, isTy, asBool, FF.take, takeF, takes, frz, keptOf, keepF, look, Tr.toD, cmpV, cmpD, cmpI, binV, biV, biD, looks, setNames, asg, mkTup, allSh, sizeLine, callV, prep, putBack, idxV, isV, rngV, rngItems, evS_whl, evS_for, evE_comp, log_num, a_add, a_sub, a_mul, a_fdiv, a_mod, hd, tl, f59_b3, E, md, Tr.toDs, e]
abbrev Tgd : Tg := .tcons (.name 8) (.tcons (.name 4) .tnil)
abbrev Bdoor : FF.Env → RS := bd tab (callF tab 39) f59_b0
theorem gen_lst {k : Nat} {g : Tr} (h : Gen k g) : ∃ a b c, g = GL a b c := let ⟨a, b, c, e, _⟩ := h; ⟨a, b, c, e⟩
theorem door_step {d n : Int} {c0 : Nat} (ok : ∀ w ∈ ws7, DoorOk d n c0 w) {k : Nat} {g : Tr} (hg : Gen k g) (hk : k ≤ 600000) (s i v : Tr) (x4 x5 x7 x8 x9 : Option Tr) (ts : List Tr) :
    ∃ (g' : Tr) (x5' x9' : Option Tr), Gen (k + 1) g' ∧ forL Tgd Bdoor (.sh (.tuple [.int d, .int n]) :: ts) (E s i g v x4 x5 x7 x8 x9) = forL Tgd Bdoor ts (E s i g' v (some (I n)) x5' x7 (some (I d)) x9') := by
  obtain ⟨w, g', hw, gn, e⟩ := c55 36 (ds := ws7) hg (by omega) (by decide) (by decide)
  obtain ⟨a, b, c, rfl⟩ := gen_lst hg
  have e1 : asg Tgd (.sh (.tuple [.int d, .int n])) (E s i (GL a b c) v x4 x5 x7 x8 x9) = some (E s i (GL a b c) v (some (I n)) x5 x7 (some (I d)) x9) := by
    simp [evSs.eq_1, evSs.eq_2, evS.eq_1, evS.eq_2, evS.eq_3, evS.eq_4, evS.eq_5, evS.eq_6, evS.eq_7, evS.eq_8, evS.eq_11, evS.eq_12, evS.eq_13, evS.eq_14, evS.eq_15, evS.eq_16, evS.eq_17, exnV, evE.eq_1, evE.eq_2, evE.eq_3, evE.eq_4, evE.eq_5, evE.eq_6, evE.eq_7, evE.eq_8, evE.eq_9, evE.eq_10, evE.eq_11, evE.eq_12, evE.eq_13, evE.eq_14, evE.eq_15, evE.eq_16, evE.eq_17, evE.eq_18, evE.eq_19, evE.eq_20, evE.eq_21, evE.eq_22, evE.eq_23, evE.eq_24, evE.eq_25, evE.eq_26, evE.eq_27, evE.eq_30, evE.eq_31, evE.eq_32, evE.eq_33, evE.eq_34, evEs, evAnd, evOr, evTest, evSrc, varV, slot, getV, isTys, isTy, asBool, FF.take, takeF, takes, frz, keptOf, keepF, look, Tr.toD, cmpV, cmpD, cmpI, binV, biV, biD, looks, setNames, asg, mkTup, allSh, sizeLine, Tab.modes, callV, prep, putBack, idxV, isV, rngV, rngItems, evS_whl, evS_for, evE_comp, log_num, a_add, a_sub, a_mul, a_fdiv, a_mod, asg, asgL, partsOf, E]
  have e2 : Bdoor (E s i (GL a b c) v (some (I n)) x5 x7 (some (I d)) x9) = .nx (E s i g' v (some (I n)) (some (.exc c0 w)) x7 (some (I d)) (some (.sh w))) := by
    show evSs tab (callF tab 39) f59_b0 _ = _
    rw [b0_eq]
    exact seq_nx (draw9 (cf := callF tab 39) e) (ok w hw s i g' v x5 x7)
  exact ⟨g', _, _, gn, forL_nx e1 (.inl e2)⟩
def dts : List Tr := [.sh (.tuple [.int 0, .int 4]), .sh (.tuple [.int 1, .int 8]), .sh (.tuple [.int 2, .int 2]), .sh (.tuple [.int 3, .int 10]), .sh (.tuple [.int 4, .int 14]), .sh (.tuple [.int 5, .int 7])]
theorem doors {k : Nat} {g : Tr} (hg : Gen k g) (hk : k ≤ 500000) (s i v : Tr) (x4 x5 x7 x8 x9 : Option Tr) :
    ∃ (g' : Tr) (y4 y5 y8 y9 : Option Tr), forL Tgd Bdoor dts (E s i g v x4 x5 x7 x8 x9) = .nx (E s i g' v y4 y5 x7 y8 y9) := by
  obtain ⟨g0, a0, b0, h0, e0⟩ := door_step door0 hg (by omega) s i v x4 x5 x7 x8 x9 dts.tail
  obtain ⟨g1, a1, b1, h1, e1⟩ := door_step door1 h0 (by omega) s i v _ a0 x7 _ b0 dts.tail.tail
  obtain ⟨g2, a2, b2, h2, e2⟩ := door_step door2 h1 (by omega) s i v _ a1 x7 _ b1 dts.tail.tail.tail
  obtain ⟨g3, a3, b3, h3, e3⟩ := door_step door3 h2 (by omega) s i v _ a2 x7 _ b2 dts.tail.tail.tail.tail
  obtain ⟨g4, a4, b4, h4, e4⟩ := door_step door4 h3 (by omega) s i v _ a3 x7 _ b3 dts.tail.tail.tail.tail.tail
  obtain ⟨g5, a5, b5, h5, e5⟩ := door_step door5 h4 (by omega) s i v _ a4 x7 _ b4 []
  exact ⟨g5, _, a5, _, b5, (e0.trans (e1.trans (e2.trans (e3.trans (e4.trans e5)))))⟩
/-- one index -/
theorem index_step (ns : List Int) (j : Nat) (hj : j ≤ 100) (x2 x3 x4 x5 x7 x8 x9 : Option Tr) : ∃ y1 y2 y3 y4 y5 y7 y8 y9,
    bd tab (callF tab 39) f59_b3 [some (SC ns), some (I j), x2, x3, x4, x5, none, x7, x8, x9, none] = .nx [some (SC ns), y1, y2, y3, y4, y5, none, y7, y8, y9, none] := by
  obtain ⟨g, hg, eg⟩ := c20 37 ns j (by omega)
  obtain ⟨v, g1, hv, hg1, e1⟩ := c55 36 (ds := vs8) hg (by omega) (by decide) (by decide)
  obtain ⟨g2, y4, y5, y8, y9, ed⟩ := doors hg1 (by omega) (SC ns) (I j) (.sh v) (some (I 19)) (some (.exc 0 .none)) (some (g3 v)) x8 x9
  obtain ⟨a, b, c, rfl⟩ := gen_lst hg
  have s1 : evS tab (callF tab 39) (hd f59_b3) [some (SC ns), some (I j), x2, x3, x4, x5, none, x7, x8, x9, none] = .nx [some (SC ns), some (I j), some (GL a b c), x3, x4, x5, none, x7, x8, x9, none] := by
    have md : tab.modes 54 = [false, false] := rfl
    simp [evSs.eq_1, evSs.eq_2, evS.eq_1, evS.eq_2, evS.eq_3, evS.eq_4, evS.eq_5, evS.eq_6, evS.eq_7, evS.eq_8, evS.eq_11, evS.eq_12, evS.eq_13, evS.eq_14, evS.eq_15, evS.eq_16, evS.eq_17, exnV, evE.eq_1, evE.eq_2, evE.eq_3, evE.eq_4, evE.eq_5, evE.eq_6, evE.eq_7, evE.eq_8, evE.eq_9, evE.eq_10, evE.eq_11, evE.eq_12, evE.eq_13, evE.eq_14, evE.eq_15, evE.eq_16, evE.eq_17, evE.eq_18, evE.eq_19, evE.eq_20, evE.eq_21, evE.eq_22, evE.eq_23, evE.eq_24, evE.eq_25, evE.eq_26, evE.eq_27, evE.eq_30, evE.eq_31, evE.eq_32, evE.eq_33, evE.eq_34, evEs, evAnd, evOr, evTest, evSrc, varV, slot, getV, isTys, isTy, asBool, FF.take, takeF, takes, frz, keptOf, keepF, look, Tr.toD, cmpV, cmpD, cmpI, binV, biV, biD, looks, setNames, asg, mkTup, allSh, sizeLine, callV, prep, putBack, idxV, isV, rngV, rngItems, evS_whl, evS_for, evE_comp, log_num, a_add, a_sub, a_mul, a_fdiv, a_mod, hd, f59_b3, md, eg]
  have s2 := draw3 (cf := callF tab 39) (s := SC ns) (i := I j) (x3 := x3) (x4 := x4) (x5 := x5) (x7 := x7) (x8 := x8) (x9 := x9) e1
  have s3 : evS tab (callF tab 39) (hd (tl (tl f59_b3))) (E (SC ns) (I j) g1 (.sh v) x4 x5 x7 x8 x9) = .nx (E (SC ns) (I j) g1 (.sh v) (some (I 19)) (some (.exc 0 .none)) (some (g3 v)) x8 x9) := by
    have q := num_ok v hv (SC ns) (I j) g1 x4 x5 x7 x8 x9
    have src : evSrc tab (callF tab 39) (.rng (.cons (.int 20) .nil)) (E (SC ns) (I j) g1 (.sh v) x4 x5 x7 x8 x9) = .ok (i20, E (SC ns) (I j) g1 (.sh v) x4 x5 x7 x8 x9) := by kernel_rfl
    show evS tab (callF tab 39) (.fors (.name 4) (.rng (.cons (.int 20) .nil)) f59_b2) _ = _
    rw [evS_for, src]
    exact q
  have s4 : evS tab (callF tab 39) (hd (tl (tl (tl f59_b3)))) (E (SC ns) (I j) g1 (.sh v) (some (I 19)) (some (.exc 0 .none)) (some (g3 v)) x8 x9) = .nx (E (SC ns) (I j) g2 (.sh v) y4 y5 (some (g3 v)) y8 y9) := by
    have src : evSrc tab (callF tab 39) (.enum (.lst (.cons (.int 4) (.cons (.int 8) (.cons (.int 2) (.cons (.int 10) (.cons (.int 14) (.cons (.int 7) .nil)))))))) (E (SC ns) (I j) g1 (.sh v) (some (I 19)) (some (.exc 0 .none)) (some (g3 v)) x8 x9) = .ok (dts, E (SC ns) (I j) g1 (.sh v) (some (I 19)) (some (.exc 0 .none)) (some (g3 v)) x8 x9) := by kernel_rfl
    show evS tab (callF tab 39) (.fors Tgd (.enum (.lst (.cons (.int 4) (.cons (.int 8) (.cons (.int 2) (.cons (.int 10) (.cons (.int 14) (.cons (.int 7) .nil)))))))) f59_b0) _ = _
    rw [evS_for, src]
    exact ed
  refine ⟨some (I j), some g2, some (.sh v), y4, y5, some (g3 v), y8, y9, ?_⟩
  show evSs tab (callF tab 39) (.cons (hd f59_b3) (.cons (hd (tl f59_b3)) (.cons (hd (tl (tl f59_b3))) (.cons (hd (tl (tl (tl f59_b3)))) .nil)))) _ = _
  refine seq_nx s1 (seq_nx s2 (seq_nx s3 (seq_nx s4 ?_)))
  rw [evSs.eq_1]
  rfl
theorem law_tt (ns : List Int) : ∃ as, callF tab 40 59 [.sh (.list (ns.map PyData.int))] = .ok (.sh (.bool true)) as := by
  obtain ⟨a1, a2, a3, a4, a5, a7, a8, a9, e0⟩ := index_step ns 0 (by omega) none none none none none none none
  obtain ⟨b1, b2, b3, b4, b5, b7, b8, b9, e1⟩ := index_step ns 1 (by omega) a2 a3 a4 a5 a7 a8 a9
  obtain ⟨c1, c2, c3, c4, c5, c7, c8, c9, e2⟩ := index_step ns 2 (by omega) b2 b3 b4 b5 b7 b8 b9
  have lp : forL (.name 1) (bd tab (callF tab 39) f59_b3) [I 0, I 1, I 2] [some (SC ns), none, none, none, none, none, none, none, none, none, none] = .nx [some (SC ns), c1, c2, c3, c4, c5, none, c7, c8, c9, none] := by
    refine (forL_nx (asg_name (by simp [evSs.eq_1, evSs.eq_2, evS.eq_1, evS.eq_2, evS.eq_3, evS.eq_4, evS.eq_5, evS.eq_6, evS.eq_7, evS.eq_8, evS.eq_11, evS.eq_12, evS.eq_13, evS.eq_14, evS.eq_15, evS.eq_16, evS.eq_17, exnV, evE.eq_1, evE.eq_2, evE.eq_3, evE.eq_4, evE.eq_5, evE.eq_6, evE.eq_7, evE.eq_8, evE.eq_9, evE.eq_10, evE.eq_11, evE.eq_12, evE.eq_13, evE.eq_14, evE.eq_15, evE.eq_16, evE.eq_17, evE.eq_18, evE.eq_19, evE.eq_20, evE.eq_21, evE.eq_22, evE.eq_23, evE.eq_24, evE.eq_25, evE.eq_26, evE.eq_27, evE.eq_30, evE.eq_31, evE.eq_32, evE.eq_33, evE.eq_34, evEs, evAnd, evOr, evTest, evSrc, varV, slot, getV, isTys, isTy, asBool, FF.take, takeF, takes, frz, keptOf, keepF, look, Tr.toD, cmpV, cmpD, cmpI, binV, biV, biD, looks, setNames, asg, mkTup, allSh, sizeLine, Tab.modes, callV, prep, putBack, idxV, isV, rngV, rngItems, evS_whl, evS_for, evE_comp, log_num, a_add, a_sub, a_mul, a_fdiv, a_mod])) (.inl e0)).trans ?_
    refine (forL_nx (asg_name (by simp [evSs.eq_1, evSs.eq_2, evS.eq_1, evS.eq_2, evS.eq_3, evS.eq_4, evS.eq_5, evS.eq_6, evS.eq_7, evS.eq_8, evS.eq_11, evS.eq_12, evS.eq_13, evS.eq_14, evS.eq_15, evS.eq_16, evS.eq_17, exnV, evE.eq_1, evE.eq_2, evE.eq_3, evE.eq_4, evE.eq_5, evE.eq_6, evE.eq_7, evE.eq_8, evE.eq_9, evE.eq_10, evE.eq_11, evE.eq_12, evE.eq_13, evE.eq_14, evE.eq_15, evE.eq_16, evE.eq_17, evE.eq_18, evE.eq_19, evE.eq_20, evE.eq_21, evE.eq_22, evE.eq_23, evE.eq_24, evE.eq_25, evE.eq_26, evE.eq_27, evE.eq_30, evE.eq_31, evE.eq_32, evE.eq_33, evE.eq_34, evEs, evAnd, evOr, evTest, evSrc, varV, slot, getV, isTys, isTy, asBool, FF.take, takeF, takes, frz, keptOf, keepF, look, Tr.toD, cmpV, cmpD, cmpI, binV, biV, biD, looks, setNames, asg, mkTup, allSh, sizeLine, Tab.modes, callV, prep, putBack, idxV, isV, rngV, rngItems, evS_whl, evS_for, evE_comp, log_num, a_add, a_sub, a_mul, a_fdiv, a_mod])) (.inl e1)).trans ?_
    refine (forL_nx (asg_name (by simp [evSs.eq_1, evSs.eq_2, evS.eq_1, evS.eq_2, evS.eq_3, evS.eq_4, evS.eq_5, evS.eq_6, evS.eq_7, evS.eq_8, evS.eq_11, evS.eq_12, evS.eq_13, evS.eq_14, evS.eq_15, evS.eq_16, evS.eq_17, exnV, evE.eq_1, evE.eq_2, evE.eq_3, evE.eq_4, evE.eq_5, evE.eq_6, evE.eq_7, evE.eq_8, evE.eq_9, evE.eq_10, evE.eq_11, evE.eq_12, evE.eq_13, evE.eq_14, evE.eq_15, evE.eq_16, evE.eq_17, evE.eq_18, evE.eq_19, evE.eq_20, evE.eq_21, evE.eq_22, evE.eq_23, evE.eq_24, evE.eq_25, evE.eq_26, evE.eq_27, evE.eq_30, evE.eq_31, evE.eq_32, evE.eq_33, evE.eq_34, evEs, evAnd, evOr, evTest, evSrc, varV, slot, getV, isTys, isTy, asBool, FF.take, takeF, takes, frz, keptOf, keepF, look, Tr.toD, cmpV, cmpD, cmpI, binV, biV, biD, looks, setNames, asg, mkTup, allSh, sizeLine, Tab.modes, callV, prep, putBack, idxV, isV, rngV, rngItems, evS_whl, evS_for, evE_comp, log_num, a_add, a_sub, a_mul, a_fdiv, a_mod])) (.inl e2)).trans rfl
  have src : evSrc tab (callF tab 39) (.rng (.cons (.int 3) .nil)) [some (SC ns), none, none, none, none, none, none, none, none, none, none] = .ok ([I 0, I 1, I 2], [some (SC ns), none, none, none, none, none, none, none, none, none, none]) := by kernel_rfl
  have s1 : evS tab (callF tab 39) (hd f59.body) [some (SC ns), none, none, none, none, none, none, none, none, none, none] = .nx [some (SC ns), c1, c2, c3, c4, c5, none, c7, c8, c9, none] := by
    show evS tab (callF tab 39) (.fors (.name 1) (.rng (.cons (.int 3) .nil)) f59_b3) _ = _
    rw [evS_for, src]
    exact lp
  have s2 := last2 (SC ns) c1 c2 c3 c4 c5 c7 c8 c9
  have body : evSs tab (callF tab 39) f59.body [some (SC ns), none, none, none, none, none, none, none, none, none, none] = .rt (.sh (.bool true)) _ := seq_nx s1 s2
  refine ⟨[none], ?_⟩
  rw [cfs (F := f59) rfl 39 _ rfl]
  have b' : evSs tab (callF tab 39) f59.body (([SC ns] : List Tr).map some ++ List.replicate (f59.N.length - ([SC ns] : List Tr).length) none) = _ := body
  show fin f59 1 _ = _
  rw [b']
  rfl
end K98

set_option Elab.async false
namespace K98
open PySem PySem.Spec PyProof.Rows L2 FF
theorem law_true : ∀ ns : List Int, ns.length ≤ 63 → ∃ as, callF tab 40 59 [.sh (.list (ns.map PyData.int))] = .ok (.sh (.bool true)) as := fun ns _ => law_tt ns
end K98
open PySem PySem.W PyProof.Rows
set_option maxRecDepth 100000 in
set_option maxHeartbeats 0 in
theorem PySem.Challenge.cw_fewforall_k98_whole_errors_holds : PySem.Challenge.rw_fewforall_k98_whole_errors.Holds := by
  w_on; o_law; k_head; (case hw => w_witness2)
  k_fill
  refine FF.walk_top (l := PySem.Challenge.rw_fewforall_k98_whole_errors) (m := 63) (N := 40) (jl := 59) (Θ := K98.tab) (x := "script") rfl (by decide) rfl ⟨rfl, by decide, by decide⟩ (fun w h Y => PySem.W.kIn_of Y) ?F K98.law_true
  case F =>
    intro w mg fa h KX G hmg
    refine' K98.all_mk (P := PySem.Challenge.rw_fewforall_k98_whole_errors.prog) KX G hmg ?a0 ?l0 ?c0 ?k0 ?a1 ?l1 ?c1 ?k1 ?a2 ?l2 ?c2 ?k2 ?a3 ?l3 ?c3 ?k3 ?a4 ?l4 ?c4 ?k4 ?a5 ?l5 ?c5 ?k5 ?a6 ?l6 ?c6 ?k6 ?a7 ?l7 ?c7 ?k7 ?a8 ?l8 ?c8 ?k8 ?a9 ?l9 ?c9 ?k9 ?a10 ?l10 ?c10 ?k10 ?a11 ?l11 ?c11 ?k11 ?a12 ?l12 ?c12 ?k12 ?a13 ?l13 ?c13 ?k13 ?a14 ?l14 ?c14 ?k14 ?a15 ?l15 ?c15 ?k15 ?a16 ?l16 ?c16 ?k16 ?a17 ?l17 ?c17 ?k17 ?a18 ?l18 ?c18 ?k18 ?a19 ?l19 ?c19 ?k19 ?a20 ?l20 ?c20 ?k20 ?a21 ?l21 ?c21 ?k21 ?a22 ?l22 ?c22 ?k22 ?a23 ?l23 ?c23 ?k23 ?a24 ?l24 ?c24 ?k24 ?a25 ?l25 ?c25 ?k25 ?a26 ?l26 ?c26 ?k26 ?a27 ?l27 ?c27 ?k27 ?a28 ?l28 ?c28 ?k28 ?a29 ?l29 ?c29 ?k29 ?a30 ?l30 ?c30 ?k30 ?a31 ?l31 ?c31 ?k31 ?a32 ?l32 ?c32 ?k32 ?a33 ?l33 ?c33 ?k33 ?a34 ?l34 ?c34 ?k34 ?a35 ?l35 ?c35 ?k35 ?a36 ?l36 ?c36 ?k36 ?a37 ?l37 ?c37 ?k37 ?a38 ?l38 ?c38 ?k38 ?a39 ?l39 ?c39 ?k39 ?a40 ?l40 ?c40 ?k40 ?a41 ?l41 ?c41 ?k41 ?a42 ?l42 ?c42 ?k42 ?a43 ?l43 ?c43 ?k43 ?a44 ?l44 ?c44 ?k44 ?a45 ?l45 ?c45 ?k45 ?a46 ?l46 ?c46 ?k46 ?a47 ?l47 ?c47 ?k47 ?a48 ?l48 ?c48 ?k48 ?a49 ?l49 ?c49 ?k49 ?a50 ?l50 ?c50 ?k50 ?a51 ?l51 ?c51 ?k51 ?a52 ?l52 ?c52 ?k52 ?a53 ?l53 ?c53 ?k53 ?a54 ?l54 ?c54 ?k54 ?a55 ?l55 ?c55 ?k55 ?a56 ?l56 ?c56 ?k56 ?a57 ?l57 ?c57 ?k57 ?a58 ?l58 ?c58 ?k58 ?a59 ?l59 ?c59 ?k59 ?b0 ?x0 ?y0sa ?y0eb ?y0ty ?y0kp ?y0cl ?y0ga ?y0gt ?y0hd ?y0ac ?y0sp ?y0tk ?y0mr ?y0no ?y0mz ?y0ve ?y0ii ?y0s0 ?y0kv ?y0p0 ?y0p1 ?y0p2 ?y0p3 ?y0p4 ?y0p5 ?y0p6 ?y0q0 ?y0q1 ?y0q2 ?y0q3 ?y0q4 ?y0q5 ?y0q6 ?y0i0 ?y0i1 ?y0i2 ?y0i3 ?y0i4 ?y0i5 ?y0i6 ?y0i7 ?y0i8 ?y0i9 ?y0i10 ?y0i11 ?y0i12 ?y0i13 ?y0i14 ?y0i15 ?y0i16 ?y0i17 ?y0i18 ?y0i19 ?b1 ?x1 ?y1sa ?y1eb ?y1ty ?y1kp ?y1cl ?y1ga ?y1gt ?y1hd ?y1ac ?y1sp ?y1tk ?y1mr ?y1no ?y1mz ?y1ve ?y1ii ?y1s0 ?y1kv ?y1p0 ?y1p1 ?y1p2 ?y1p3 ?y1p4 ?y1p5 ?y1p6 ?y1q0 ?y1q1 ?y1q2 ?y1q3 ?y1q4 ?y1q5 ?y1q6 ?y1i0 ?y1i1 ?y1i2 ?y1i3 ?y1i4 ?y1i5 ?y1i6 ?y1i7 ?y1i8 ?y1i9 ?y1i10 ?y1i11 ?y1i12 ?y1i13 ?y1i14 ?y1i15 ?y1i16 ?y1i17 ?y1i18 ?y1i19 ?b2 ?x2 ?y2sa ?y2eb ?y2ty ?y2kp ?y2cl ?y2ga ?y2gt ?y2hd ?y2ac ?y2sp ?y2tk ?y2mr ?y2no ?y2mz ?y2ve ?y2ii ?y2s0 ?y2kv ?y2p0 ?y2p1 ?y2p2 ?y2p3 ?y2p4 ?y2p5 ?y2p6 ?y2q0 ?y2q1 ?y2q2 ?y2q3 ?y2q4 ?y2q5 ?y2q6 ?y2i0 ?y2i1 ?y2i2 ?y2i3 ?y2i4 ?y2i5 ?y2i6 ?y2i7 ?y2i8 ?y2i9 ?y2i10 ?y2i11 ?y2i12 ?y2i13 ?y2i14 ?y2i15 ?y2i16 ?y2i17 ?y2i18 ?y2i19 ?b3 ?x3 ?y3sa ?y3eb ?y3ty ?y3kp ?y3cl ?y3ga ?y3gt ?y3hd ?y3ac ?y3sp ?y3tk ?y3mr ?y3no ?y3mz ?y3ve ?y3ii ?y3s0 ?y3kv ?y3p0 ?y3p1 ?y3p2 ?y3p3 ?y3p4 ?y3p5 ?y3p6 ?y3q0 ?y3q1 ?y3q2 ?y3q3 ?y3q4 ?y3q5 ?y3q6 ?y3i0 ?y3i1 ?y3i2 ?y3i3 ?y3i4 ?y3i5 ?y3i6 ?y3i7 ?y3i8 ?y3i9 ?y3i10 ?y3i11 ?y3i12 ?y3i13 ?y3i14 ?y3i15 ?y3i16 ?y3i17 ?y3i18 ?y3i19 ?b4 ?x4 ?y4sa ?y4eb ?y4ty ?y4kp ?y4cl ?y4ga ?y4gt ?y4hd ?y4ac ?y4sp ?y4tk ?y4mr ?y4no ?y4mz ?y4ve ?y4ii ?y4s0 ?y4kv ?y4p0 ?y4p1 ?y4p2 ?y4p3 ?y4p4 ?y4p5 ?y4p6 ?y4q0 ?y4q1 ?y4q2 ?y4q3 ?y4q4 ?y4q5 ?y4q6 ?y4i0 ?y4i1 ?y4i2 ?y4i3 ?y4i4 ?y4i5 ?y4i6 ?y4i7 ?y4i8 ?y4i9 ?y4i10 ?y4i11 ?y4i12 ?y4i13 ?y4i14 ?y4i15 ?y4i16 ?y4i17 ?y4i18 ?y4i19 ?b5 ?x5 ?y5sa ?y5eb ?y5ty ?y5kp ?y5cl ?y5ga ?y5gt ?y5hd ?y5ac ?y5sp ?y5tk ?y5mr ?y5no ?y5mz ?y5ve ?y5ii ?y5s0 ?y5kv ?y5p0 ?y5p1 ?y5p2 ?y5p3 ?y5p4 ?y5p5 ?y5p6 ?y5q0 ?y5q1 ?y5q2 ?y5q3 ?y5q4 ?y5q5 ?y5q6 ?y5i0 ?y5i1 ?y5i2 ?y5i3 ?y5i4 ?y5i5 ?y5i6 ?y5i7 ?y5i8 ?y5i9 ?y5i10 ?y5i11 ?y5i12 ?y5i13 ?y5i14 ?y5i15 ?y5i16 ?y5i17 ?y5i18 ?y5i19 ?b6 ?x6 ?y6sa ?y6eb ?y6ty ?y6kp ?y6cl ?y6ga ?y6gt ?y6hd ?y6ac ?y6sp ?y6tk ?y6mr ?y6no ?y6mz ?y6ve ?y6ii ?y6s0 ?y6kv ?y6p0 ?y6p1 ?y6p2 ?y6p3 ?y6p4 ?y6p5 ?y6p6 ?y6q0 ?y6q1 ?y6q2 ?y6q3 ?y6q4 ?y6q5 ?y6q6 ?y6i0 ?y6i1 ?y6i2 ?y6i3 ?y6i4 ?y6i5 ?y6i6 ?y6i7 ?y6i8 ?y6i9 ?y6i10 ?y6i11 ?y6i12 ?y6i13 ?y6i14 ?y6i15 ?y6i16 ?y6i17 ?y6i18 ?y6i19 ?b7 ?x7 ?y7sa ?y7eb ?y7ty ?y7kp ?y7cl ?y7ga ?y7gt ?y7hd ?y7ac ?y7sp ?y7tk ?y7mr ?y7no ?y7mz ?y7ve ?y7ii ?y7s0 ?y7kv ?y7p0 ?y7p1 ?y7p2 ?y7p3 ?y7p4 ?y7p5 ?y7p6 ?y7q0 ?y7q1 ?y7q2 ?y7q3 ?y7q4 ?y7q5 ?y7q6 ?y7i0 ?y7i1 ?y7i2 ?y7i3 ?y7i4 ?y7i5 ?y7i6 ?y7i7 ?y7i8 ?y7i9 ?y7i10 ?y7i11 ?y7i12 ?y7i13 ?y7i14 ?y7i15 ?y7i16 ?y7i17 ?y7i18 ?y7i19 ?b8 ?x8 ?y8sa ?y8eb ?y8ty ?y8kp ?y8cl ?y8ga ?y8gt ?y8hd ?y8ac ?y8sp ?y8tk ?y8mr ?y8no ?y8mz ?y8ve ?y8ii ?y8s0 ?y8kv ?y8p0 ?y8p1 ?y8p2 ?y8p3 ?y8p4 ?y8p5 ?y8p6 ?y8q0 ?y8q1 ?y8q2 ?y8q3 ?y8q4 ?y8q5 ?y8q6 ?y8i0 ?y8i1 ?y8i2 ?y8i3 ?y8i4 ?y8i5 ?y8i6 ?y8i7 ?y8i8 ?y8i9 ?y8i10 ?y8i11 ?y8i12 ?y8i13 ?y8i14 ?y8i15 ?y8i16 ?y8i17 ?y8i18 ?y8i19 ?b9 ?x9 ?y9sa ?y9eb ?y9ty ?y9kp ?y9cl ?y9ga ?y9gt ?y9hd ?y9ac ?y9sp ?y9tk ?y9mr ?y9no ?y9mz ?y9ve ?y9ii ?y9s0 ?y9kv ?y9p0 ?y9p1 ?y9p2 ?y9p3 ?y9p4 ?y9p5 ?y9p6 ?y9q0 ?y9q1 ?y9q2 ?y9q3 ?y9q4 ?y9q5 ?y9q6 ?y9i0 ?y9i1 ?y9i2 ?y9i3 ?y9i4 ?y9i5 ?y9i6 ?y9i7 ?y9i8 ?y9i9 ?y9i10 ?y9i11 ?y9i12 ?y9i13 ?y9i14 ?y9i15 ?y9i16 ?y9i17 ?y9i18 ?y9i19 ?b10 ?x10 ?y10sa ?y10eb ?y10ty ?y10kp ?y10cl ?y10ga ?y10gt ?y10hd ?y10ac ?y10sp ?y10tk ?y10mr ?y10no ?y10mz ?y10ve ?y10ii ?y10s0 ?y10kv ?y10p0 ?y10p1 ?y10p2 ?y10p3 ?y10p4 ?y10p5 ?y10p6 ?y10q0 ?y10q1 ?y10q2 ?y10q3 ?y10q4 ?y10q5 ?y10q6 ?y10i0 ?y10i1 ?y10i2 ?y10i3 ?y10i4 ?y10i5 ?y10i6 ?y10i7 ?y10i8 ?y10i9 ?y10i10 ?y10i11 ?y10i12 ?y10i13 ?y10i14 ?y10i15 ?y10i16 ?y10i17 ?y10i18 ?y10i19 ?b11 ?x11 ?y11sa ?y11eb ?y11ty ?y11kp ?y11cl ?y11ga ?y11gt ?y11hd ?y11ac ?y11sp ?y11tk ?y11mr ?y11no ?y11mz ?y11ve ?y11ii ?y11s0 ?y11kv ?y11p0 ?y11p1 ?y11p2 ?y11p3 ?y11p4 ?y11p5 ?y11p6 ?y11q0 ?y11q1 ?y11q2 ?y11q3 ?y11q4 ?y11q5 ?y11q6 ?y11i0 ?y11i1 ?y11i2 ?y11i3 ?y11i4 ?y11i5 ?y11i6 ?y11i7 ?y11i8 ?y11i9 ?y11i10 ?y11i11 ?y11i12 ?y11i13 ?y11i14 ?y11i15 ?y11i16 ?y11i17 ?y11i18 ?y11i19 ?b12 ?x12 ?y12sa ?y12eb ?y12ty ?y12kp ?y12cl ?y12ga ?y12gt ?y12hd ?y12ac ?y12sp ?y12tk ?y12mr ?y12no ?y12mz ?y12ve ?y12ii ?y12s0 ?y12kv ?y12p0 ?y12p1 ?y12p2 ?y12p3 ?y12p4 ?y12p5 ?y12p6 ?y12q0 ?y12q1 ?y12q2 ?y12q3 ?y12q4 ?y12q5 ?y12q6 ?y12i0 ?y12i1 ?y12i2 ?y12i3 ?y12i4 ?y12i5 ?y12i6 ?y12i7 ?y12i8 ?y12i9 ?y12i10 ?y12i11 ?y12i12 ?y12i13 ?y12i14 ?y12i15 ?y12i16 ?y12i17 ?y12i18 ?y12i19 ?b13 ?x13 ?y13sa ?y13eb ?y13ty ?y13kp ?y13cl ?y13ga ?y13gt ?y13hd ?y13ac ?y13sp ?y13tk ?y13mr ?y13no ?y13mz ?y13ve ?y13ii ?y13s0 ?y13kv ?y13p0 ?y13p1 ?y13p2 ?y13p3 ?y13p4 ?y13p5 ?y13p6 ?y13q0 ?y13q1 ?y13q2 ?y13q3 ?y13q4 ?y13q5 ?y13q6 ?y13i0 ?y13i1 ?y13i2 ?y13i3 ?y13i4 ?y13i5 ?y13i6 ?y13i7 ?y13i8 ?y13i9 ?y13i10 ?y13i11 ?y13i12 ?y13i13 ?y13i14 ?y13i15 ?y13i16 ?y13i17 ?y13i18 ?y13i19 ?b14 ?x14 ?y14sa ?y14eb ?y14ty ?y14kp ?y14cl ?y14ga ?y14gt ?y14hd ?y14ac ?y14sp ?y14tk ?y14mr ?y14no ?y14mz ?y14ve ?y14ii ?y14s0 ?y14kv ?y14p0 ?y14p1 ?y14p2 ?y14p3 ?y14p4 ?y14p5 ?y14p6 ?y14q0 ?y14q1 ?y14q2 ?y14q3 ?y14q4 ?y14q5 ?y14q6 ?y14i0 ?y14i1 ?y14i2 ?y14i3 ?y14i4 ?y14i5 ?y14i6 ?y14i7 ?y14i8 ?y14i9 ?y14i10 ?y14i11 ?y14i12 ?y14i13 ?y14i14 ?y14i15 ?y14i16 ?y14i17 ?y14i18 ?y14i19 ?b15 ?x15 ?y15sa ?y15eb ?y15ty ?y15kp ?y15cl ?y15ga ?y15gt ?y15hd ?y15ac ?y15sp ?y15tk ?y15mr ?y15no ?y15mz ?y15ve ?y15ii ?y15s0 ?y15kv ?y15p0 ?y15p1 ?y15p2 ?y15p3 ?y15p4 ?y15p5 ?y15p6 ?y15q0 ?y15q1 ?y15q2 ?y15q3 ?y15q4 ?y15q5 ?y15q6 ?y15i0 ?y15i1 ?y15i2 ?y15i3 ?y15i4 ?y15i5 ?y15i6 ?y15i7 ?y15i8 ?y15i9 ?y15i10 ?y15i11 ?y15i12 ?y15i13 ?y15i14 ?y15i15 ?y15i16 ?y15i17 ?y15i18 ?y15i19 ?b16 ?x16 ?y16sa ?y16eb ?y16ty ?y16kp ?y16cl ?y16ga ?y16gt ?y16hd ?y16ac ?y16sp ?y16tk ?y16mr ?y16no ?y16mz ?y16ve ?y16ii ?y16s0 ?y16kv ?y16p0 ?y16p1 ?y16p2 ?y16p3 ?y16p4 ?y16p5 ?y16p6 ?y16q0 ?y16q1 ?y16q2 ?y16q3 ?y16q4 ?y16q5 ?y16q6 ?y16i0 ?y16i1 ?y16i2 ?y16i3 ?y16i4 ?y16i5 ?y16i6 ?y16i7 ?y16i8 ?y16i9 ?y16i10 ?y16i11 ?y16i12 ?y16i13 ?y16i14 ?y16i15 ?y16i16 ?y16i17 ?y16i18 ?y16i19 ?b17 ?x17 ?y17sa ?y17eb ?y17ty ?y17kp ?y17cl ?y17ga ?y17gt ?y17hd ?y17ac ?y17sp ?y17tk ?y17mr ?y17no ?y17mz ?y17ve ?y17ii ?y17s0 ?y17kv ?y17p0 ?y17p1 ?y17p2 ?y17p3 ?y17p4 ?y17p5 ?y17p6 ?y17q0 ?y17q1 ?y17q2 ?y17q3 ?y17q4 ?y17q5 ?y17q6 ?y17i0 ?y17i1 ?y17i2 ?y17i3 ?y17i4 ?y17i5 ?y17i6 ?y17i7 ?y17i8 ?y17i9 ?y17i10 ?y17i11 ?y17i12 ?y17i13 ?y17i14 ?y17i15 ?y17i16 ?y17i17 ?y17i18 ?y17i19 ?b18 ?x18 ?y18sa ?y18eb ?y18ty ?y18kp ?y18cl ?y18ga ?y18gt ?y18hd ?y18ac ?y18sp ?y18tk ?y18mr ?y18no ?y18mz ?y18ve ?y18ii ?y18s0 ?y18kv ?y18p0 ?y18p1 ?y18p2 ?y18p3 ?y18p4 ?y18p5 ?y18p6 ?y18q0 ?y18q1 ?y18q2 ?y18q3 ?y18q4 ?y18q5 ?y18q6 ?y18i0 ?y18i1 ?y18i2 ?y18i3 ?y18i4 ?y18i5 ?y18i6 ?y18i7 ?y18i8 ?y18i9 ?y18i10 ?y18i11 ?y18i12 ?y18i13 ?y18i14 ?y18i15 ?y18i16 ?y18i17 ?y18i18 ?y18i19 ?b19 ?x19 ?y19sa ?y19eb ?y19ty ?y19kp ?y19cl ?y19ga ?y19gt ?y19hd ?y19ac ?y19sp ?y19tk ?y19mr ?y19no ?y19mz ?y19ve ?y19ii ?y19s0 ?y19kv ?y19p0 ?y19p1 ?y19p2 ?y19p3 ?y19p4 ?y19p5 ?y19p6 ?y19q0 ?y19q1 ?y19q2 ?y19q3 ?y19q4 ?y19q5 ?y19q6 ?y19i0 ?y19i1 ?y19i2 ?y19i3 ?y19i4 ?y19i5 ?y19i6 ?y19i7 ?y19i8 ?y19i9 ?y19i10 ?y19i11 ?y19i12 ?y19i13 ?y19i14 ?y19i15 ?y19i16 ?y19i17 ?y19i18 ?y19i19 ?tI ?lI ?lD ?cI ?eI ?vI ?fI ?kI ?oI ?uI ?d0 ?dl0 ?d1 ?dl1 ?d2 ?bl0 ?bl1 ?bl2 ?bl3 ?bl4 ?bl5 ?bl6 ?bl7 ?bl8 ?bl9 ?bl10 ?bl11 ?bl12 ?bl13 ?bl14 ?bl15 ?bl16 ?bl17 ?bl18
    (case b0 => k_is)
    (case x0 => k_is)
    (case b1 => k_is)
    (case x1 => k_is)
    (case b2 => k_is)
    (case x2 => k_is)
    (case b3 => k_is)
    (case x3 => k_is)
    (case b4 => k_is)
    (case x4 => k_is)
    (case b5 => k_is)
    (case x5 => k_is)
    (case b6 => k_is)
    (case x6 => k_is)
    (case b7 => k_is)
    (case x7 => k_is)
    (case b8 => k_is)
    (case x8 => k_is)
    (case b9 => k_is)
    (case x9 => k_is)
    (case b10 => k_is)
    (case x10 => k_is)
    (case b11 => k_is)
    (case x11 => k_is)
    (case b12 => k_is)
    (case x12 => k_is)
    (case b13 => k_is)
    (case x13 => k_is)
    (case b14 => k_is)
    (case x14 => k_is)
    (case b15 => k_is)
    (case x15 => k_is)
    (case b16 => k_is)
    (case x16 => k_is)
    (case b17 => k_is)
    (case x17 => k_is)
    (case b18 => k_is)
    (case x18 => k_is)
    (case b19 => k_is)
    (case x19 => k_is)
    (case a0 => k_is)
    (case l0 => k_is)
    (case c0 => k_is)
    (case k0 => k_is)
    (case a1 => k_is)
    (case l1 => k_is)
    (case c1 => k_is)
    (case k1 => k_is)
    (case a2 => k_is)
    (case l2 => k_is)
    (case c2 => k_is)
    (case k2 => k_is)
    (case a3 => k_is)
    (case l3 => k_is)
    (case c3 => k_is)
    (case k3 => k_is)
    (case a4 => k_is)
    (case l4 => k_is)
    (case c4 => k_is)
    (case k4 => k_is)
    (case a5 => k_is)
    (case l5 => k_is)
    (case c5 => k_is)
    (case k5 => k_is)
    (case a6 => k_is)
    (case l6 => k_is)
    (case c6 => k_is)
    (case k6 => k_is)
    (case a7 => k_is)
    (case l7 => k_is)
    (case c7 => k_is)
    (case k7 => k_is)
    (case a8 => k_is)
    (case l8 => k_is)
    (case c8 => k_is)
    (case k8 => k_is)
    (case a9 => k_is)
    (case l9 => k_is)
    (case c9 => k_is)
    (case k9 => k_is)
    (case a10 => k_is)
    (case l10 => k_is)
    (case c10 => k_is)
    (case k10 => k_is)
    (case a11 => k_is)
    (case l11 => k_is)
    (case c11 => k_is)
    (case k11 => k_is)
    (case a12 => k_is)
    (case l12 => k_is)
    (case c12 => k_is)
    (case k12 => k_is)
    (case a13 => k_is)
    (case l13 => k_is)
    (case c13 => k_is)
    (case k13 => k_is)
    (case a14 => k_is)
    (case l14 => k_is)
    (case c14 => k_is)
    (case k14 => k_is)
    (case a15 => k_is)
    (case l15 => k_is)
    (case c15 => k_is)
    (case k15 => k_is)
    (case a16 => k_is)
    (case l16 => k_is)
    (case c16 => k_is)
    (case k16 => k_is)
    (case a17 => k_is)
    (case l17 => k_is)
    (case c17 => k_is)
    (case k17 => k_is)
    (case a18 => k_is)
    (case l18 => k_is)
    (case c18 => k_is)
    (case k18 => k_is)
    (case a19 => k_is)
    (case l19 => k_is)
    (case c19 => k_is)
    (case k19 => k_is)
    (case a20 => k_is)
    (case l20 => k_is)
    (case c20 => k_is)
    (case k20 => k_is)
    (case a21 => k_is)
    (case l21 => k_is)
    (case c21 => k_is)
    (case k21 => k_is)
    (case a22 => k_is)
    (case l22 => k_is)
    (case c22 => k_is)
    (case k22 => k_is)
    (case a23 => k_is)
    (case l23 => k_is)
    (case c23 => k_is)
    (case k23 => k_is)
    (case a24 => k_is)
    (case l24 => k_is)
    (case c24 => k_is)
    (case k24 => k_is)
    (case a25 => k_is)
    (case l25 => k_is)
    (case c25 => k_is)
    (case k25 => k_is)
    (case a26 => k_is)
    (case l26 => k_is)
    (case c26 => k_is)
    (case k26 => k_is)
    (case a27 => k_is)
    (case l27 => k_is)
    (case c27 => k_is)
    (case k27 => k_is)
    (case a28 => k_is)
    (case l28 => k_is)
    (case c28 => k_is)
    (case k28 => k_is)
    (case a29 => k_is)
    (case l29 => k_is)
    (case c29 => k_is)
    (case k29 => k_is)
    (case a30 => k_is)
    (case l30 => k_is)
    (case c30 => k_is)
    (case k30 => k_is)
    (case a31 => k_is)
    (case l31 => k_is)
    (case c31 => k_is)
    (case k31 => k_is)
    (case a32 => k_is)
    (case l32 => k_is)
    (case c32 => k_is)
    (case k32 => k_is)
    (case a33 => k_is)
    (case l33 => k_is)
    (case c33 => k_is)
    (case k33 => k_is)
    (case a34 => k_is)
    (case l34 => k_is)
    (case c34 => k_is)
    (case k34 => k_is)
    (case a35 => k_is)
    (case l35 => k_is)
    (case c35 => k_is)
    (case k35 => k_is)
    (case a36 => k_is)
    (case l36 => k_is)
    (case c36 => k_is)
    (case k36 => k_is)
    (case a37 => k_is)
    (case l37 => k_is)
    (case c37 => k_is)
    (case k37 => k_is)
    (case a38 => k_is)
    (case l38 => k_is)
    (case c38 => k_is)
    (case k38 => k_is)
    (case a39 => k_is)
    (case l39 => k_is)
    (case c39 => k_is)
    (case k39 => k_is)
    (case a40 => k_is)
    (case l40 => k_is)
    (case c40 => k_is)
    (case k40 => k_is)
    (case a41 => k_is)
    (case l41 => k_is)
    (case c41 => k_is)
    (case k41 => k_is)
    (case a42 => k_is)
    (case l42 => k_is)
    (case c42 => k_is)
    (case k42 => k_is)
    (case a43 => k_is)
    (case l43 => k_is)
    (case c43 => k_is)
    (case k43 => k_is)
    (case a44 => k_is)
    (case l44 => k_is)
    (case c44 => k_is)
    (case k44 => k_is)
    (case a45 => k_is)
    (case l45 => k_is)
    (case c45 => k_is)
    (case k45 => k_is)
    (case a46 => k_is)
    (case l46 => k_is)
    (case c46 => k_is)
    (case k46 => k_is)
    (case a47 => k_is)
    (case l47 => k_is)
    (case c47 => k_is)
    (case k47 => k_is)
    (case a48 => k_is)
    (case l48 => k_is)
    (case c48 => k_is)
    (case k48 => k_is)
    (case a49 => k_is)
    (case l49 => k_is)
    (case c49 => k_is)
    (case k49 => k_is)
    (case a50 => k_is)
    (case l50 => k_is)
    (case c50 => k_is)
    (case k50 => k_is)
    (case a51 => k_is)
    (case l51 => k_is)
    (case c51 => k_is)
    (case k51 => k_is)
    (case a52 => k_is)
    (case l52 => k_is)
    (case c52 => k_is)
    (case k52 => k_is)
    (case a53 => k_is)
    (case l53 => k_is)
    (case c53 => k_is)
    (case k53 => k_is)
    (case a54 => k_is)
    (case l54 => k_is)
    (case c54 => k_is)
    (case k54 => k_is)
    (case a55 => k_is)
    (case l55 => k_is)
    (case c55 => k_is)
    (case k55 => k_is)
    (case a56 => k_is)
    (case l56 => k_is)
    (case c56 => k_is)
    (case k56 => k_is)
    (case a57 => k_is)
    (case l57 => k_is)
    (case c57 => k_is)
    (case k57 => k_is)
    (case a58 => k_is)
    (case l58 => k_is)
    (case c58 => k_is)
    (case k58 => k_is)
    (case a59 => k_is)
    (case l59 => k_is)
    (case c59 => k_is)
    (case k59 => k_is)
    (case y0sa => k_is)
    (case y0eb => k_is)
    (case y0ty => k_is)
    (case y0kp => k_is)
    (case y0cl => k_is)
    (case y0ga => k_is)
    (case y0gt => k_is)
    (case y0hd => k_is)
    (case y0ac => k_is)
    (case y0sp => k_is)
    (case y0tk => k_is)
    (case y0mr => k_is)
    (case y0no => k_is)
    (case y0mz => k_is)
    (case y0ve => k_is)
    (case y0ii => k_is)
    (case y0s0 => k_is)
    (case y0kv => k_is)
    (case y0p0 => k_is)
    (case y0p1 => k_is)
    (case y0p2 => k_is)
    (case y0p3 => k_is)
    (case y0p4 => k_is)
    (case y0p5 => k_is)
    (case y0p6 => k_is)
    (case y0q0 => k_is)
    (case y0q1 => k_is)
    (case y0q2 => k_is)
    (case y0q3 => k_is)
    (case y0q4 => k_is)
    (case y0q5 => k_is)
    (case y0q6 => k_is)
    (case y0i0 => k_is)
    (case y0i1 => k_is)
    (case y0i2 => k_is)
    (case y0i3 => k_is)
    (case y0i4 => k_is)
    (case y0i5 => k_is)
    (case y0i6 => k_is)
    (case y0i7 => k_is)
    (case y0i8 => k_is)
    (case y0i9 => k_is)
    (case y0i10 => k_is)
    (case y0i11 => k_is)
    (case y0i12 => k_is)
    (case y0i13 => k_is)
    (case y0i14 => k_is)
    (case y0i15 => k_is)
    (case y0i16 => k_is)
    (case y0i17 => k_is)
    (case y0i18 => k_is)
    (case y0i19 => k_is)
    (case y1sa => k_is)
    (case y1eb => k_is)
    (case y1ty => k_is)
    (case y1kp => k_is)
    (case y1cl => k_is)
    (case y1ga => k_is)
    (case y1gt => k_is)
    (case y1hd => k_is)
    (case y1ac => k_is)
    (case y1sp => k_is)
    (case y1tk => k_is)
    (case y1mr => k_is)
    (case y1no => k_is)
    (case y1mz => k_is)
    (case y1ve => k_is)
    (case y1ii => k_is)
    (case y1s0 => k_is)
    (case y1kv => k_is)
    (case y1p0 => k_is)
    (case y1p1 => k_is)
    (case y1p2 => k_is)
    (case y1p3 => k_is)
    (case y1p4 => k_is)
    (case y1p5 => k_is)
    (case y1p6 => k_is)
    (case y1q0 => k_is)
    (case y1q1 => k_is)
    (case y1q2 => k_is)
    (case y1q3 => k_is)
    (case y1q4 => k_is)
    (case y1q5 => k_is)
    (case y1q6 => k_is)
    (case y1i0 => k_is)
    (case y1i1 => k_is)
    (case y1i2 => k_is)
    (case y1i3 => k_is)
    (case y1i4 => k_is)
    (case y1i5 => k_is)
    (case y1i6 => k_is)
    (case y1i7 => k_is)
    (case y1i8 => k_is)
    (case y1i9 => k_is)
    (case y1i10 => k_is)
    (case y1i11 => k_is)
    (case y1i12 => k_is)
    (case y1i13 => k_is)
    (case y1i14 => k_is)
    (case y1i15 => k_is)
    (case y1i16 => k_is)
    (case y1i17 => k_is)
    (case y1i18 => k_is)
    (case y1i19 => k_is)
    (case y2sa => k_is)
    (case y2eb => k_is)
    (case y2ty => k_is)
    (case y2kp => k_is)
    (case y2cl => k_is)
    (case y2ga => k_is)
    (case y2gt => k_is)
    (case y2hd => k_is)
    (case y2ac => k_is)
    (case y2sp => k_is)
    (case y2tk => k_is)
    (case y2mr => k_is)
    (case y2no => k_is)
    (case y2mz => k_is)
    (case y2ve => k_is)
    (case y2ii => k_is)
    (case y2s0 => k_is)
    (case y2kv => k_is)
    (case y2p0 => k_is)
    (case y2p1 => k_is)
    (case y2p2 => k_is)
    (case y2p3 => k_is)
    (case y2p4 => k_is)
    (case y2p5 => k_is)
    (case y2p6 => k_is)
    (case y2q0 => k_is)
    (case y2q1 => k_is)
    (case y2q2 => k_is)
    (case y2q3 => k_is)
    (case y2q4 => k_is)
    (case y2q5 => k_is)
    (case y2q6 => k_is)
    (case y2i0 => k_is)
    (case y2i1 => k_is)
    (case y2i2 => k_is)
    (case y2i3 => k_is)
    (case y2i4 => k_is)
    (case y2i5 => k_is)
    (case y2i6 => k_is)
    (case y2i7 => k_is)
    (case y2i8 => k_is)
    (case y2i9 => k_is)
    (case y2i10 => k_is)
    (case y2i11 => k_is)
    (case y2i12 => k_is)
    (case y2i13 => k_is)
    (case y2i14 => k_is)
    (case y2i15 => k_is)
    (case y2i16 => k_is)
    (case y2i17 => k_is)
    (case y2i18 => k_is)
    (case y2i19 => k_is)
    (case y3sa => k_is)
    (case y3eb => k_is)
    (case y3ty => k_is)
    (case y3kp => k_is)
    (case y3cl => k_is)
    (case y3ga => k_is)
    (case y3gt => k_is)
    (case y3hd => k_is)
    (case y3ac => k_is)
    (case y3sp => k_is)
    (case y3tk => k_is)
    (case y3mr => k_is)
    (case y3no => k_is)
    (case y3mz => k_is)
    (case y3ve => k_is)
    (case y3ii => k_is)
    (case y3s0 => k_is)
    (case y3kv => k_is)
    (case y3p0 => k_is)
    (case y3p1 => k_is)
    (case y3p2 => k_is)
    (case y3p3 => k_is)
    (case y3p4 => k_is)
    (case y3p5 => k_is)
    (case y3p6 => k_is)
    (case y3q0 => k_is)
    (case y3q1 => k_is)
    (case y3q2 => k_is)
    (case y3q3 => k_is)
    (case y3q4 => k_is)
    (case y3q5 => k_is)
    (case y3q6 => k_is)
    (case y3i0 => k_is)
    (case y3i1 => k_is)
    (case y3i2 => k_is)
    (case y3i3 => k_is)
    (case y3i4 => k_is)
    (case y3i5 => k_is)
    (case y3i6 => k_is)
    (case y3i7 => k_is)
    (case y3i8 => k_is)
    (case y3i9 => k_is)
    (case y3i10 => k_is)
    (case y3i11 => k_is)
    (case y3i12 => k_is)
    (case y3i13 => k_is)
    (case y3i14 => k_is)
    (case y3i15 => k_is)
    (case y3i16 => k_is)
    (case y3i17 => k_is)
    (case y3i18 => k_is)
    (case y3i19 => k_is)
    (case y4sa => k_is)
    (case y4eb => k_is)
    (case y4ty => k_is)
    (case y4kp => k_is)
    (case y4cl => k_is)
    (case y4ga => k_is)
    (case y4gt => k_is)
    (case y4hd => k_is)
    (case y4ac => k_is)
    (case y4sp => k_is)
    (case y4tk => k_is)
    (case y4mr => k_is)
    (case y4no => k_is)
    (case y4mz => k_is)
    (case y4ve => k_is)
    (case y4ii => k_is)
    (case y4s0 => k_is)
    (case y4kv => k_is)
    (case y4p0 => k_is)
    (case y4p1 => k_is)
    (case y4p2 => k_is)
    (case y4p3 => k_is)
    (case y4p4 => k_is)
    (case y4p5 => k_is)
    (case y4p6 => k_is)
    (case y4q0 => k_is)
    (case y4q1 => k_is)
    (case y4q2 => k_is)
    (case y4q3 => k_is)
    (case y4q4 => k_is)
    (case y4q5 => k_is)
    (case y4q6 => k_is)
    (case y4i0 => k_is)
    (case y4i1 => k_is)
    (case y4i2 => k_is)
    (case y4i3 => k_is)
    (case y4i4 => k_is)
    (case y4i5 => k_is)
    (case y4i6 => k_is)
    (case y4i7 => k_is)
    (case y4i8 => k_is)
    (case y4i9 => k_is)
    (case y4i10 => k_is)
    (case y4i11 => k_is)
    (case y4i12 => k_is)
    (case y4i13 => k_is)
    (case y4i14 => k_is)
    (case y4i15 => k_is)
    (case y4i16 => k_is)
    (case y4i17 => k_is)
    (case y4i18 => k_is)
    (case y4i19 => k_is)
    (case y5sa => k_is)
    (case y5eb => k_is)
    (case y5ty => k_is)
    (case y5kp => k_is)
    (case y5cl => k_is)
    (case y5ga => k_is)
    (case y5gt => k_is)
    (case y5hd => k_is)
    (case y5ac => k_is)
    (case y5sp => k_is)
    (case y5tk => k_is)
    (case y5mr => k_is)
    (case y5no => k_is)
    (case y5mz => k_is)
    (case y5ve => k_is)
    (case y5ii => k_is)
    (case y5s0 => k_is)
    (case y5kv => k_is)
    (case y5p0 => k_is)
    (case y5p1 => k_is)
    (case y5p2 => k_is)
    (case y5p3 => k_is)
    (case y5p4 => k_is)
    (case y5p5 => k_is)
    (case y5p6 => k_is)
    (case y5q0 => k_is)
    (case y5q1 => k_is)
    (case y5q2 => k_is)
    (case y5q3 => k_is)
    (case y5q4 => k_is)
    (case y5q5 => k_is)
    (case y5q6 => k_is)
    (case y5i0 => k_is)
    (case y5i1 => k_is)
    (case y5i2 => k_is)
    (case y5i3 => k_is)
    (case y5i4 => k_is)
    (case y5i5 => k_is)
    (case y5i6 => k_is)
    (case y5i7 => k_is)
    (case y5i8 => k_is)
    (case y5i9 => k_is)
    (case y5i10 => k_is)
    (case y5i11 => k_is)
    (case y5i12 => k_is)
    (case y5i13 => k_is)
    (case y5i14 => k_is)
    (case y5i15 => k_is)
    (case y5i16 => k_is)
    (case y5i17 => k_is)
    (case y5i18 => k_is)
    (case y5i19 => k_is)
    (case y6sa => k_is)
    (case y6eb => k_is)
    (case y6ty => k_is)
    (case y6kp => k_is)
    (case y6cl => k_is)
    (case y6ga => k_is)
    (case y6gt => k_is)
    (case y6hd => k_is)
    (case y6ac => k_is)
    (case y6sp => k_is)
    (case y6tk => k_is)
    (case y6mr => k_is)
    (case y6no => k_is)
    (case y6mz => k_is)
    (case y6ve => k_is)
    (case y6ii => k_is)
    (case y6s0 => k_is)
    (case y6kv => k_is)
    (case y6p0 => k_is)
    (case y6p1 => k_is)
    (case y6p2 => k_is)
    (case y6p3 => k_is)
    (case y6p4 => k_is)
    (case y6p5 => k_is)
    (case y6p6 => k_is)
    (case y6q0 => k_is)
    (case y6q1 => k_is)
    (case y6q2 => k_is)
    (case y6q3 => k_is)
    (case y6q4 => k_is)
    (case y6q5 => k_is)
    (case y6q6 => k_is)
    (case y6i0 => k_is)
    (case y6i1 => k_is)
    (case y6i2 => k_is)
    (case y6i3 => k_is)
    (case y6i4 => k_is)
    (case y6i5 => k_is)
    (case y6i6 => k_is)
    (case y6i7 => k_is)
    (case y6i8 => k_is)
    (case y6i9 => k_is)
    (case y6i10 => k_is)
    (case y6i11 => k_is)
    (case y6i12 => k_is)
    (case y6i13 => k_is)
    (case y6i14 => k_is)
    (case y6i15 => k_is)
    (case y6i16 => k_is)
    (case y6i17 => k_is)
    (case y6i18 => k_is)
    (case y6i19 => k_is)
    (case y7sa => k_is)
    (case y7eb => k_is)
    (case y7ty => k_is)
    (case y7kp => k_is)
    (case y7cl => k_is)
    (case y7ga => k_is)
    (case y7gt => k_is)
    (case y7hd => k_is)
    (case y7ac => k_is)
    (case y7sp => k_is)
    (case y7tk => k_is)
    (case y7mr => k_is)
    (case y7no => k_is)
    (case y7mz => k_is)
    (case y7ve => k_is)
    (case y7ii => k_is)
    (case y7s0 => k_is)
    (case y7kv => k_is)
    (case y7p0 => k_is)
    (case y7p1 => k_is)
    (case y7p2 => k_is)
    (case y7p3 => k_is)
    (case y7p4 => k_is)
    (case y7p5 => k_is)
    (case y7p6 => k_is)
    (case y7q0 => k_is)
    (case y7q1 => k_is)
    (case y7q2 => k_is)
    (case y7q3 => k_is)
    (case y7q4 => k_is)
    (case y7q5 => k_is)
    (case y7q6 => k_is)
    (case y7i0 => k_is)
    (case y7i1 => k_is)
    (case y7i2 => k_is)
    (case y7i3 => k_is)
    (case y7i4 => k_is)
    (case y7i5 => k_is)
    (case y7i6 => k_is)
    (case y7i7 => k_is)
    (case y7i8 => k_is)
    (case y7i9 => k_is)
    (case y7i10 => k_is)
    (case y7i11 => k_is)
    (case y7i12 => k_is)
    (case y7i13 => k_is)
    (case y7i14 => k_is)
    (case y7i15 => k_is)
    (case y7i16 => k_is)
    (case y7i17 => k_is)
    (case y7i18 => k_is)
    (case y7i19 => k_is)
    (case y8sa => k_is)
    (case y8eb => k_is)
    (case y8ty => k_is)
    (case y8kp => k_is)
    (case y8cl => k_is)
    (case y8ga => k_is)
    (case y8gt => k_is)
    (case y8hd => k_is)
    (case y8ac => k_is)
    (case y8sp => k_is)
    (case y8tk => k_is)
    (case y8mr => k_is)
    (case y8no => k_is)
    (case y8mz => k_is)
    (case y8ve => k_is)
    (case y8ii => k_is)
    (case y8s0 => k_is)
    (case y8kv => k_is)
    (case y8p0 => k_is)
    (case y8p1 => k_is)
    (case y8p2 => k_is)
    (case y8p3 => k_is)
    (case y8p4 => k_is)
    (case y8p5 => k_is)
    (case y8p6 => k_is)
    (case y8q0 => k_is)
    (case y8q1 => k_is)
    (case y8q2 => k_is)
    (case y8q3 => k_is)
    (case y8q4 => k_is)
    (case y8q5 => k_is)
    (case y8q6 => k_is)
    (case y8i0 => k_is)
    (case y8i1 => k_is)
    (case y8i2 => k_is)
    (case y8i3 => k_is)
    (case y8i4 => k_is)
    (case y8i5 => k_is)
    (case y8i6 => k_is)
    (case y8i7 => k_is)
    (case y8i8 => k_is)
    (case y8i9 => k_is)
    (case y8i10 => k_is)
    (case y8i11 => k_is)
    (case y8i12 => k_is)
    (case y8i13 => k_is)
    (case y8i14 => k_is)
    (case y8i15 => k_is)
    (case y8i16 => k_is)
    (case y8i17 => k_is)
    (case y8i18 => k_is)
    (case y8i19 => k_is)
    (case y9sa => k_is)
    (case y9eb => k_is)
    (case y9ty => k_is)
    (case y9kp => k_is)
    (case y9cl => k_is)
    (case y9ga => k_is)
    (case y9gt => k_is)
    (case y9hd => k_is)
    (case y9ac => k_is)
    (case y9sp => k_is)
    (case y9tk => k_is)
    (case y9mr => k_is)
    (case y9no => k_is)
    (case y9mz => k_is)
    (case y9ve => k_is)
    (case y9ii => k_is)
    (case y9s0 => k_is)
    (case y9kv => k_is)
    (case y9p0 => k_is)
    (case y9p1 => k_is)
    (case y9p2 => k_is)
    (case y9p3 => k_is)
    (case y9p4 => k_is)
    (case y9p5 => k_is)
    (case y9p6 => k_is)
    (case y9q0 => k_is)
    (case y9q1 => k_is)
    (case y9q2 => k_is)
    (case y9q3 => k_is)
    (case y9q4 => k_is)
    (case y9q5 => k_is)
    (case y9q6 => k_is)
    (case y9i0 => k_is)
    (case y9i1 => k_is)
    (case y9i2 => k_is)
    (case y9i3 => k_is)
    (case y9i4 => k_is)
    (case y9i5 => k_is)
    (case y9i6 => k_is)
    (case y9i7 => k_is)
    (case y9i8 => k_is)
    (case y9i9 => k_is)
    (case y9i10 => k_is)
    (case y9i11 => k_is)
    (case y9i12 => k_is)
    (case y9i13 => k_is)
    (case y9i14 => k_is)
    (case y9i15 => k_is)
    (case y9i16 => k_is)
    (case y9i17 => k_is)
    (case y9i18 => k_is)
    (case y9i19 => k_is)
    (case y10sa => k_is)
    (case y10eb => k_is)
    (case y10ty => k_is)
    (case y10kp => k_is)
    (case y10cl => k_is)
    (case y10ga => k_is)
    (case y10gt => k_is)
    (case y10hd => k_is)
    (case y10ac => k_is)
    (case y10sp => k_is)
    (case y10tk => k_is)
    (case y10mr => k_is)
    (case y10no => k_is)
    (case y10mz => k_is)
    (case y10ve => k_is)
    (case y10ii => k_is)
    (case y10s0 => k_is)
    (case y10kv => k_is)
    (case y10p0 => k_is)
    (case y10p1 => k_is)
    (case y10p2 => k_is)
    (case y10p3 => k_is)
    (case y10p4 => k_is)
    (case y10p5 => k_is)
    (case y10p6 => k_is)
    (case y10q0 => k_is)
    (case y10q1 => k_is)
    (case y10q2 => k_is)
    (case y10q3 => k_is)
    (case y10q4 => k_is)
    (case y10q5 => k_is)
    (case y10q6 => k_is)
    (case y10i0 => k_is)
    (case y10i1 => k_is)
    (case y10i2 => k_is)
    (case y10i3 => k_is)
    (case y10i4 => k_is)
    (case y10i5 => k_is)
    (case y10i6 => k_is)
    (case y10i7 => k_is)
    (case y10i8 => k_is)
    (case y10i9 => k_is)
    (case y10i10 => k_is)
    (case y10i11 => k_is)
    (case y10i12 => k_is)
    (case y10i13 => k_is)
    (case y10i14 => k_is)
    (case y10i15 => k_is)
    (case y10i16 => k_is)
    (case y10i17 => k_is)
    (case y10i18 => k_is)
    (case y10i19 => k_is)
    (case y11sa => k_is)
    (case y11eb => k_is)
    (case y11ty => k_is)
    (case y11kp => k_is)
    (case y11cl => k_is)
    (case y11ga => k_is)
    (case y11gt => k_is)
    (case y11hd => k_is)
    (case y11ac => k_is)
    (case y11sp => k_is)
    (case y11tk => k_is)
    (case y11mr => k_is)
    (case y11no => k_is)
    (case y11mz => k_is)
    (case y11ve => k_is)
    (case y11ii => k_is)
    (case y11s0 => k_is)
    (case y11kv => k_is)
    (case y11p0 => k_is)
    (case y11p1 => k_is)
    (case y11p2 => k_is)
    (case y11p3 => k_is)
    (case y11p4 => k_is)
    (case y11p5 => k_is)
    (case y11p6 => k_is)
    (case y11q0 => k_is)
    (case y11q1 => k_is)
    (case y11q2 => k_is)
    (case y11q3 => k_is)
    (case y11q4 => k_is)
    (case y11q5 => k_is)
    (case y11q6 => k_is)
    (case y11i0 => k_is)
    (case y11i1 => k_is)
    (case y11i2 => k_is)
    (case y11i3 => k_is)
    (case y11i4 => k_is)
    (case y11i5 => k_is)
    (case y11i6 => k_is)
    (case y11i7 => k_is)
    (case y11i8 => k_is)
    (case y11i9 => k_is)
    (case y11i10 => k_is)
    (case y11i11 => k_is)
    (case y11i12 => k_is)
    (case y11i13 => k_is)
    (case y11i14 => k_is)
    (case y11i15 => k_is)
    (case y11i16 => k_is)
    (case y11i17 => k_is)
    (case y11i18 => k_is)
    (case y11i19 => k_is)
    (case y12sa => k_is)
    (case y12eb => k_is)
    (case y12ty => k_is)
    (case y12kp => k_is)
    (case y12cl => k_is)
    (case y12ga => k_is)
    (case y12gt => k_is)
    (case y12hd => k_is)
    (case y12ac => k_is)
    (case y12sp => k_is)
    (case y12tk => k_is)
    (case y12mr => k_is)
    (case y12no => k_is)
    (case y12mz => k_is)
    (case y12ve => k_is)
    (case y12ii => k_is)
    (case y12s0 => k_is)
    (case y12kv => k_is)
    (case y12p0 => k_is)
    (case y12p1 => k_is)
    (case y12p2 => k_is)
    (case y12p3 => k_is)
    (case y12p4 => k_is)
    (case y12p5 => k_is)
    (case y12p6 => k_is)
    (case y12q0 => k_is)
    (case y12q1 => k_is)
    (case y12q2 => k_is)
    (case y12q3 => k_is)
    (case y12q4 => k_is)
    (case y12q5 => k_is)
    (case y12q6 => k_is)
    (case y12i0 => k_is)
    (case y12i1 => k_is)
    (case y12i2 => k_is)
    (case y12i3 => k_is)
    (case y12i4 => k_is)
    (case y12i5 => k_is)
    (case y12i6 => k_is)
    (case y12i7 => k_is)
    (case y12i8 => k_is)
    (case y12i9 => k_is)
    (case y12i10 => k_is)
    (case y12i11 => k_is)
    (case y12i12 => k_is)
    (case y12i13 => k_is)
    (case y12i14 => k_is)
    (case y12i15 => k_is)
    (case y12i16 => k_is)
    (case y12i17 => k_is)
    (case y12i18 => k_is)
    (case y12i19 => k_is)
    (case y13sa => k_is)
    (case y13eb => k_is)
    (case y13ty => k_is)
    (case y13kp => k_is)
    (case y13cl => k_is)
    (case y13ga => k_is)
    (case y13gt => k_is)
    (case y13hd => k_is)
    (case y13ac => k_is)
    (case y13sp => k_is)
    (case y13tk => k_is)
    (case y13mr => k_is)
    (case y13no => k_is)
    (case y13mz => k_is)
    (case y13ve => k_is)
    (case y13ii => k_is)
    (case y13s0 => k_is)
    (case y13kv => k_is)
    (case y13p0 => k_is)
    (case y13p1 => k_is)
    (case y13p2 => k_is)
    (case y13p3 => k_is)
    (case y13p4 => k_is)
    (case y13p5 => k_is)
    (case y13p6 => k_is)
    (case y13q0 => k_is)
    (case y13q1 => k_is)
    (case y13q2 => k_is)
    (case y13q3 => k_is)
    (case y13q4 => k_is)
    (case y13q5 => k_is)
    (case y13q6 => k_is)
    (case y13i0 => k_is)
    (case y13i1 => k_is)
    (case y13i2 => k_is)
    (case y13i3 => k_is)
    (case y13i4 => k_is)
    (case y13i5 => k_is)
    (case y13i6 => k_is)
    (case y13i7 => k_is)
    (case y13i8 => k_is)
    (case y13i9 => k_is)
    (case y13i10 => k_is)
    (case y13i11 => k_is)
    (case y13i12 => k_is)
    (case y13i13 => k_is)
    (case y13i14 => k_is)
    (case y13i15 => k_is)
    (case y13i16 => k_is)
    (case y13i17 => k_is)
    (case y13i18 => k_is)
    (case y13i19 => k_is)
    (case y14sa => k_is)
    (case y14eb => k_is)
    (case y14ty => k_is)
    (case y14kp => k_is)
    (case y14cl => k_is)
    (case y14ga => k_is)
    (case y14gt => k_is)
    (case y14hd => k_is)
    (case y14ac => k_is)
    (case y14sp => k_is)
    (case y14tk => k_is)
    (case y14mr => k_is)
    (case y14no => k_is)
    (case y14mz => k_is)
    (case y14ve => k_is)
    (case y14ii => k_is)
    (case y14s0 => k_is)
    (case y14kv => k_is)
    (case y14p0 => k_is)
    (case y14p1 => k_is)
    (case y14p2 => k_is)
    (case y14p3 => k_is)
    (case y14p4 => k_is)
    (case y14p5 => k_is)
    (case y14p6 => k_is)
    (case y14q0 => k_is)
    (case y14q1 => k_is)
    (case y14q2 => k_is)
    (case y14q3 => k_is)
    (case y14q4 => k_is)
    (case y14q5 => k_is)
    (case y14q6 => k_is)
    (case y14i0 => k_is)
    (case y14i1 => k_is)
    (case y14i2 => k_is)
    (case y14i3 => k_is)
    (case y14i4 => k_is)
    (case y14i5 => k_is)
    (case y14i6 => k_is)
    (case y14i7 => k_is)
    (case y14i8 => k_is)
    (case y14i9 => k_is)
    (case y14i10 => k_is)
    (case y14i11 => k_is)
    (case y14i12 => k_is)
    (case y14i13 => k_is)
    (case y14i14 => k_is)
    (case y14i15 => k_is)
    (case y14i16 => k_is)
    (case y14i17 => k_is)
    (case y14i18 => k_is)
    (case y14i19 => k_is)
    (case y15sa => k_is)
    (case y15eb => k_is)
    (case y15ty => k_is)
    (case y15kp => k_is)
    (case y15cl => k_is)
    (case y15ga => k_is)
    (case y15gt => k_is)
    (case y15hd => k_is)
    (case y15ac => k_is)
    (case y15sp => k_is)
    (case y15tk => k_is)
    (case y15mr => k_is)
    (case y15no => k_is)
    (case y15mz => k_is)
    (case y15ve => k_is)
    (case y15ii => k_is)
    (case y15s0 => k_is)
    (case y15kv => k_is)
    (case y15p0 => k_is)
    (case y15p1 => k_is)
    (case y15p2 => k_is)
    (case y15p3 => k_is)
    (case y15p4 => k_is)
    (case y15p5 => k_is)
    (case y15p6 => k_is)
    (case y15q0 => k_is)
    (case y15q1 => k_is)
    (case y15q2 => k_is)
    (case y15q3 => k_is)
    (case y15q4 => k_is)
    (case y15q5 => k_is)
    (case y15q6 => k_is)
    (case y15i0 => k_is)
    (case y15i1 => k_is)
    (case y15i2 => k_is)
    (case y15i3 => k_is)
    (case y15i4 => k_is)
    (case y15i5 => k_is)
    (case y15i6 => k_is)
    (case y15i7 => k_is)
    (case y15i8 => k_is)
    (case y15i9 => k_is)
    (case y15i10 => k_is)
    (case y15i11 => k_is)
    (case y15i12 => k_is)
    (case y15i13 => k_is)
    (case y15i14 => k_is)
    (case y15i15 => k_is)
    (case y15i16 => k_is)
    (case y15i17 => k_is)
    (case y15i18 => k_is)
    (case y15i19 => k_is)
    (case y16sa => k_is)
    (case y16eb => k_is)
    (case y16ty => k_is)
    (case y16kp => k_is)
    (case y16cl => k_is)
    (case y16ga => k_is)
    (case y16gt => k_is)
    (case y16hd => k_is)
    (case y16ac => k_is)
    (case y16sp => k_is)
    (case y16tk => k_is)
    (case y16mr => k_is)
    (case y16no => k_is)
    (case y16mz => k_is)
    (case y16ve => k_is)
    (case y16ii => k_is)
    (case y16s0 => k_is)
    (case y16kv => k_is)
    (case y16p0 => k_is)
    (case y16p1 => k_is)
    (case y16p2 => k_is)
    (case y16p3 => k_is)
    (case y16p4 => k_is)
    (case y16p5 => k_is)
    (case y16p6 => k_is)
    (case y16q0 => k_is)
    (case y16q1 => k_is)
    (case y16q2 => k_is)
    (case y16q3 => k_is)
    (case y16q4 => k_is)
    (case y16q5 => k_is)
    (case y16q6 => k_is)
    (case y16i0 => k_is)
    (case y16i1 => k_is)
    (case y16i2 => k_is)
    (case y16i3 => k_is)
    (case y16i4 => k_is)
    (case y16i5 => k_is)
    (case y16i6 => k_is)
    (case y16i7 => k_is)
    (case y16i8 => k_is)
    (case y16i9 => k_is)
    (case y16i10 => k_is)
    (case y16i11 => k_is)
    (case y16i12 => k_is)
    (case y16i13 => k_is)
    (case y16i14 => k_is)
    (case y16i15 => k_is)
    (case y16i16 => k_is)
    (case y16i17 => k_is)
    (case y16i18 => k_is)
    (case y16i19 => k_is)
    (case y17sa => k_is)
    (case y17eb => k_is)
    (case y17ty => k_is)
    (case y17kp => k_is)
    (case y17cl => k_is)
    (case y17ga => k_is)
    (case y17gt => k_is)
    (case y17hd => k_is)
    (case y17ac => k_is)
    (case y17sp => k_is)
    (case y17tk => k_is)
    (case y17mr => k_is)
    (case y17no => k_is)
    (case y17mz => k_is)
    (case y17ve => k_is)
    (case y17ii => k_is)
    (case y17s0 => k_is)
    (case y17kv => k_is)
    (case y17p0 => k_is)
    (case y17p1 => k_is)
    (case y17p2 => k_is)
    (case y17p3 => k_is)
    (case y17p4 => k_is)
    (case y17p5 => k_is)
    (case y17p6 => k_is)
    (case y17q0 => k_is)
    (case y17q1 => k_is)
    (case y17q2 => k_is)
    (case y17q3 => k_is)
    (case y17q4 => k_is)
    (case y17q5 => k_is)
    (case y17q6 => k_is)
    (case y17i0 => k_is)
    (case y17i1 => k_is)
    (case y17i2 => k_is)
    (case y17i3 => k_is)
    (case y17i4 => k_is)
    (case y17i5 => k_is)
    (case y17i6 => k_is)
    (case y17i7 => k_is)
    (case y17i8 => k_is)
    (case y17i9 => k_is)
    (case y17i10 => k_is)
    (case y17i11 => k_is)
    (case y17i12 => k_is)
    (case y17i13 => k_is)
    (case y17i14 => k_is)
    (case y17i15 => k_is)
    (case y17i16 => k_is)
    (case y17i17 => k_is)
    (case y17i18 => k_is)
    (case y17i19 => k_is)
    (case y18sa => k_is)
    (case y18eb => k_is)
    (case y18ty => k_is)
    (case y18kp => k_is)
    (case y18cl => k_is)
    (case y18ga => k_is)
    (case y18gt => k_is)
    (case y18hd => k_is)
    (case y18ac => k_is)
    (case y18sp => k_is)
    (case y18tk => k_is)
    (case y18mr => k_is)
    (case y18no => k_is)
    (case y18mz => k_is)
    (case y18ve => k_is)
    (case y18ii => k_is)
    (case y18s0 => k_is)
    (case y18kv => k_is)
    (case y18p0 => k_is)
    (case y18p1 => k_is)
    (case y18p2 => k_is)
    (case y18p3 => k_is)
    (case y18p4 => k_is)
    (case y18p5 => k_is)
    (case y18p6 => k_is)
    (case y18q0 => k_is)
    (case y18q1 => k_is)
    (case y18q2 => k_is)
    (case y18q3 => k_is)
    (case y18q4 => k_is)
    (case y18q5 => k_is)
    (case y18q6 => k_is)
    (case y18i0 => k_is)
    (case y18i1 => k_is)
    (case y18i2 => k_is)
    (case y18i3 => k_is)
    (case y18i4 => k_is)
    (case y18i5 => k_is)
    (case y18i6 => k_is)
    (case y18i7 => k_is)
    (case y18i8 => k_is)
    (case y18i9 => k_is)
    (case y18i10 => k_is)
    (case y18i11 => k_is)
    (case y18i12 => k_is)
    (case y18i13 => k_is)
    (case y18i14 => k_is)
    (case y18i15 => k_is)
    (case y18i16 => k_is)
    (case y18i17 => k_is)
    (case y18i18 => k_is)
    (case y18i19 => k_is)
    (case y19sa => k_is)
    (case y19eb => k_is)
    (case y19ty => k_is)
    (case y19kp => k_is)
    (case y19cl => k_is)
    (case y19ga => k_is)
    (case y19gt => k_is)
    (case y19hd => k_is)
    (case y19ac => k_is)
    (case y19sp => k_is)
    (case y19tk => k_is)
    (case y19mr => k_is)
    (case y19no => k_is)
    (case y19mz => k_is)
    (case y19ve => k_is)
    (case y19ii => k_is)
    (case y19s0 => k_is)
    (case y19kv => k_is)
    (case y19p0 => k_is)
    (case y19p1 => k_is)
    (case y19p2 => k_is)
    (case y19p3 => k_is)
    (case y19p4 => k_is)
    (case y19p5 => k_is)
    (case y19p6 => k_is)
    (case y19q0 => k_is)
    (case y19q1 => k_is)
    (case y19q2 => k_is)
    (case y19q3 => k_is)
    (case y19q4 => k_is)
    (case y19q5 => k_is)
    (case y19q6 => k_is)
    (case y19i0 => k_is)
    (case y19i1 => k_is)
    (case y19i2 => k_is)
    (case y19i3 => k_is)
    (case y19i4 => k_is)
    (case y19i5 => k_is)
    (case y19i6 => k_is)
    (case y19i7 => k_is)
    (case y19i8 => k_is)
    (case y19i9 => k_is)
    (case y19i10 => k_is)
    (case y19i11 => k_is)
    (case y19i12 => k_is)
    (case y19i13 => k_is)
    (case y19i14 => k_is)
    (case y19i15 => k_is)
    (case y19i16 => k_is)
    (case y19i17 => k_is)
    (case y19i18 => k_is)
    (case y19i19 => k_is)
    (case tI => k_is)
    (case lI => k_is)
    (case lD => k_is)
    (case cI => k_is)
    (case eI => k_is)
    (case vI => first | rfl | k_is)
    (case fI => first | rfl | decide +kernel | k_is)
    (case kI => k_is)
    (case oI => k_is)
    (case uI => k_is)
    (case d0 => k_is)
    (case dl0 => k_is)
    (case d1 => k_is)
    (case dl1 => k_is)
    (case d2 => k_is)
    (case bl0 => k_is)
    (case bl1 => k_is)
    (case bl2 => k_is)
    (case bl3 => k_is)
    (case bl4 => k_is)
    (case bl5 => k_is)
    (case bl6 => k_is)
    (case bl7 => k_is)
    (case bl8 => k_is)
    (case bl9 => k_is)
    (case bl10 => k_is)
    (case bl11 => k_is)
    (case bl12 => k_is)
    (case bl13 => k_is)
    (case bl14 => k_is)
    (case bl15 => k_is)
    (case bl16 => k_is)
    (case bl17 => k_is)
    (case bl18 => k_is)
