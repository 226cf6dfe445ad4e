import PyProof.Rows.All
import Wide.All
import OpenK.AllK
import Wide.FinOn
import HandS.ForMost
import HandS.Walk
import HandS.IsInst
import HandS.Exc
import HandS.ExcOwn
import HandS.WordsExc
import HandS.TupAny
import HandS.Conv
import HandS.Text
import HandS.Zip
import HandS.Rev
import HandS.SortInts
import HandS.Dict
import HandS.WordsDict
import KE.KDictList
import KE.KIsAll
import KE.KTryMore
import KE.KExcIs
import HandS.ExcIs
import HandS.Deep
import HandS.Sort
import HandS.TupMul
import HandS.MakeKw
import HandS.ClsMeth
import KE.KExcInit
import PySem.Challenge.RW_nightkeep_k21_whole_let_go_by_the_way
set_option Elab.async false
set_option linter.all false
set_option maxRecDepth 100000
set_option maxHeartbeats 4000000
namespace NK
open PySem PySem.Spec PyProof.Rows L2

/-! ### plain data and what stands for it -/
inductive D where
  | non | bl (b : Bool) | int (i : Int) | str (s : Str)
  | lst (xs : List D) | tup (xs : List D) | fl (xs : List D)
  | dk (kvs : List (Key × D))
  | ob (c : Str) (fs : List (Str × D))
  | ty (n : String) | cl (c : Str)
  | ex (nm : Str) (pay : List (Str × D))
  | mu (d : D) | ml (xs : List D)
def D.isMu : D → Bool
  | .mu _ => true
  | _ => false

/-- of the class of an object: it is plain, none of the fields is an attribute of the class -/
def ObT (K : PySem.W.Frag) (C : Addr) (ks : List (Str × V)) : Prop := Cls K C ∧ ∀ f, ks.lookup f ≠ none → NoAttr K C f
/-- an exception that was caught and is kept as a value -/
def ExV (cls : Value) (d : Option Addr) (a : Addr) : HO := .ext fun h => ∃ oe vs, h.get? a = some oe ∧ Zc cls d oe ∧ oe.data = .fields vs
mutual
inductive Rep (K : PySem.W.Frag) (mg : Str → Option Value) (H : Hp) : V → D → Prop
  | non : Rep K mg H .non .non
  | bl (b : Bool) : Rep K mg H (.bl b) (.bl b)
  | int (i : Int) : Rep K mg H (.int i) (.int i)
  | str (s : Str) : Rep K mg H (.str s) (.str s)
  | ty (n : String) : Rep K mg H (.ty n) (.ty n)
  | cl {c : Str} {C : Addr} : mg c = some (.ref C) → Rep K mg H (.ref C) (.cl c)
  | ex {nm : Str} {C a : Addr} : mg nm = some (.ref C) → H a = some (ExV (.ref C) none a) → Rep K mg H (.ref a) (.ex nm [])
  | exP {nm : Str} {C a p : Addr} {ks : List (Str × V)} {ds : List (Str × D)} : mg nm = some (.ref C) → H a = some (ExV (.ref C) (some p) a) → H p = some (.xd ks) → RepF K mg H ks ds → ds ≠ [] → Rep K mg H (.ref a) (.ex nm ds)
  | lst {a : Addr} {xs : List V} {ds : List D} : H a = some (.lst xs) → RepL K mg H xs ds → Rep K mg H (.ref a) (.lst ds)
  | tup {a : Addr} {xs : List V} {ds : List D} : SqT K H a xs → RepL K mg H xs ds → Rep K mg H (.ref a) (.tup ds)
  | fl {a : Addr} {xs : List V} {ds : List D} : SqL K H a xs → RepL K mg H xs ds → Rep K mg H (.ref a) (.fl ds)
  | dk {a : Addr} {ks : List (Key × V)} {ds : List (Key × D)} : H a = some (.dK ks) → RepD K mg H ks ds → Rep K mg H (.ref a) (.dk ds)
  | ob {a C dx : Addr} {c : Str} {ks : List (Str × V)} {ds : List (Str × D)} : mg c = some (.ref C) → ObT K C ks → H a = some (.ins C dx ks) → RepF K mg H ks ds → Rep K mg H (.ref a) (.ob c ds)
  | mu {a : Addr} {d : D} : Rep K mg H (.ref a) d → Rep K mg H (.ref a) (.mu d)
  | ml {a : Addr} {xs : List V} {ds : List D} : H a = some (.lst xs) → RepL K mg H xs ds → Rep K mg H (.ref a) (.ml ds)
inductive RepL (K : PySem.W.Frag) (mg : Str → Option Value) (H : Hp) : List V → List D → Prop
  | nil : RepL K mg H [] []
  | cons {v : V} {d : D} {vs : List V} {ds : List D} : Rep K mg H v d → RepL K mg H vs ds → RepL K mg H (v :: vs) (d :: ds)
inductive RepD (K : PySem.W.Frag) (mg : Str → Option Value) (H : Hp) : List (Key × V) → List (Key × D) → Prop
  | nil : RepD K mg H [] []
  | cons {k : Key} {v : V} {d : D} {vs : List (Key × V)} {ds : List (Key × D)} : Rep K mg H v d → RepD K mg H vs ds → RepD K mg H ((k, v) :: vs) ((k, d) :: ds)
inductive RepF (K : PySem.W.Frag) (mg : Str → Option Value) (H : Hp) : List (Str × V) → List (Str × D) → Prop
  | nil : RepF K mg H [] []
  | cons {k : Str} {v : V} {d : D} {vs : List (Str × V)} {ds : List (Str × D)} : Rep K mg H v d → RepF K mg H vs ds → RepF K mg H ((k, v) :: vs) ((k, d) :: ds)
end

section
variable {K : PySem.W.Frag} {mg : Str → Option Value} {H H' : Hp}
theorem Same.seqT {a : Addr} {xs : List V} (e : Same H H') (h : SqT K H a xs) : SqT K H' a xs := by
  rcases h with (h | ⟨o, h⟩) | h
  · exact .inl (.inl (e _ _ h))
  · exact .inl (.inr ⟨o, e _ _ h⟩)
  · exact .inr h
mutual
theorem Rep.mono (e : Same H H') : ∀ {v : V} {d : D}, Rep K mg H v d → Rep K mg H' v d
  | _, _, .non => .non
  | _, _, .bl b => .bl b
  | _, _, .int i => .int i
  | _, _, .str s => .str s
  | _, _, .ty s => .ty s
  | _, _, .cl s => .cl s
  | _, _, .ex g h => .ex g (e _ _ h)
  | _, _, .exP g h h2 r n => .exP g (e _ _ h) (e _ _ h2) (RepF.mono e r) n
  | _, _, .lst h r => .lst (e _ _ h) (RepL.mono e r)
  | _, _, .tup h r => .tup (Same.seqT e h) (RepL.mono e r)
  | _, _, .fl h r => .fl (e.seq h) (RepL.mono e r)
  | _, _, .dk h r => .dk (e _ _ h) (RepD.mono e r)
  | _, _, .ob g t h r => .ob g t (e _ _ h) (RepF.mono e r)
  | _, _, .mu r => .mu (Rep.mono e r)
  | _, _, .ml h r => .ml (e _ _ h) (RepL.mono e r)
theorem RepL.mono (e : Same H H') : ∀ {v : List V} {d : List D}, RepL K mg H v d → RepL K mg H' v d
  | _, _, .nil => .nil
  | _, _, .cons h r => .cons (Rep.mono e h) (RepL.mono e r)
theorem RepD.mono (e : Same H H') : ∀ {v : List (Key × V)} {d : List (Key × D)}, RepD K mg H v d → RepD K mg H' v d
  | _, _, .nil => .nil
  | _, _, .cons h r => .cons (Rep.mono e h) (RepD.mono e r)
theorem RepF.mono (e : Same H H') : ∀ {v : List (Str × V)} {d : List (Str × D)}, RepF K mg H v d → RepF K mg H' v d
  | _, _, .nil => .nil
  | _, _, .cons h r => .cons (Rep.mono e h) (RepF.mono e r)
end
theorem RepL.len : ∀ {vs : List V} {ds : List D}, RepL K mg H vs ds → vs.length = ds.length
  | _, _, .nil => rfl
  | _, _, .cons _ r => by rw [List.length_cons, List.length_cons, r.len]
theorem RepL.get : ∀ {vs : List V} {ds : List D} {i : Nat} {d : D}, RepL K mg H vs ds → ds[i]? = some d → ∃ v, vs[i]? = some v ∧ Rep K mg H v d
  | _, _, _, _, .nil, e => by simp at e
  | _, _, 0, _, .cons r _, e => by simp at e; subst e; exact ⟨_, rfl, r⟩
  | _, _, i + 1, _, .cons _ t, e => RepL.get (i := i) t (by simpa using e)
theorem RepL.get' : ∀ {vs : List V} {ds : List D} {i : Nat} {v : V}, RepL K mg H vs ds → vs[i]? = some v → ∃ d, ds[i]? = some d ∧ Rep K mg H v d
  | _, _, _, _, .nil, e => by simp at e
  | _, _, 0, _, .cons r _, e => by simp at e; subst e; exact ⟨_, rfl, r⟩
  | _, _, i + 1, _, .cons _ t, e => RepL.get' (i := i) t (by simpa using e)
theorem RepL.app : ∀ {vs us : List V} {ds es : List D}, RepL K mg H vs ds → RepL K mg H us es → RepL K mg H (vs ++ us) (ds ++ es)
  | _, _, _, _, .nil, s => s
  | _, _, _, _, .cons r t, s => .cons r (RepL.app t s)
theorem RepL.take : ∀ {vs : List V} {ds : List D} (n : Nat), RepL K mg H vs ds → RepL K mg H (vs.take n) (ds.take n)
  | _, _, 0, _ => by simp; exact .nil
  | _, _, n + 1, .nil => .nil
  | _, _, n + 1, .cons r t => .cons r (RepL.take n t)
theorem RepL.drop : ∀ {vs : List V} {ds : List D} (n : Nat), RepL K mg H vs ds → RepL K mg H (vs.drop n) (ds.drop n)
  | _, _, 0, r => r
  | _, _, n + 1, .nil => .nil
  | _, _, n + 1, .cons _ t => RepL.drop n t
theorem RepL.set {v : V} {d : D} (q : Rep K mg H v d) : ∀ {vs : List V} {ds : List D} (n : Nat), RepL K mg H vs ds → RepL K mg H (vs.set n v) (ds.set n d)
  | _, _, _, .nil => .nil
  | _, _, 0, .cons _ t => .cons q t
  | _, _, n + 1, .cons r t => .cons r (RepL.set q n t)
theorem RepL.one {v : V} {d : D} (q : Rep K mg H v d) : RepL K mg H [v] [d] := .cons q .nil
end

/-! ### cells, environments -/
inductive Cell where
  | no | sh (d : D) | ow (d : D) | io (d : D) | ro (d : D) | al (s k : Nat)
abbrev Env := List Cell
/-- the frame of a def (or of a part): the stable heap, the heap, what may be written, the pinned slots -/
structure Ct where
  Hs : Hp
  H : Hp
  A : List Addr
  par : Nat → Option V
  ros : Nat → Option (V × D)

mutual
inductive Own (K : PySem.W.Frag) (mg : Str → Option Value) (Hs H : Hp) : V → D → List Addr → Prop
  | lst {a : Addr} {xs : List V} {ds : List D} : H a = some (.lst xs) → RepL K mg Hs xs ds → Own K mg Hs H (.ref a) (.lst ds) [a]
  | dk {a : Addr} {ks : List (Key × V)} {ds : List (Key × D)} : H a = some (.dK ks) → RepD K mg Hs ks ds → Own K mg Hs H (.ref a) (.dk ds) [a]
  | ob {a C dx : Addr} {c : Str} {ks : List (Str × V)} {ds : List (Str × D)} {A : List Addr} : mg c = some (.ref C) → ObT K C ks → H a = some (.ins C dx ks) → OwnF K mg Hs H ks ds A → a ∉ A → Own K mg Hs H (.ref a) (.ob c ds) (a :: A)
  | ml {a : Addr} {xs : List V} {ds : List D} {A : List Addr} : H a = some (.lst xs) → OwnL K mg Hs H xs ds A → a ∉ A → Own K mg Hs H (.ref a) (.ml ds) (a :: A)
  | tup {a : Addr} {xs : List V} {ds : List D} {A : List Addr} : Hs a = some (.tup xs) → OwnL K mg Hs H xs ds A → Own K mg Hs H (.ref a) (.tup ds) A
inductive OwnL (K : PySem.W.Frag) (mg : Str → Option Value) (Hs H : Hp) : List V → List D → List Addr → Prop
  | nil : OwnL K mg Hs H [] [] []
  | sh {v : V} {d : D} {vs : List V} {ds : List D} {A : List Addr} : d.isMu = false → Rep K mg Hs v d → OwnL K mg Hs H vs ds A → OwnL K mg Hs H (v :: vs) (d :: ds) A
  | mu {v : V} {d : D} {vs : List V} {ds : List D} {B A : List Addr} : Own K mg Hs H v d B → OwnL K mg Hs H vs ds A → (∀ a ∈ B, a ∉ A) → OwnL K mg Hs H (v :: vs) (.mu d :: ds) (B ++ A)
inductive OwnF (K : PySem.W.Frag) (mg : Str → Option Value) (Hs H : Hp) : List (Str × V) → List (Str × D) → List Addr → Prop
  | nil : OwnF K mg Hs H [] [] []
  | sh {k : Str} {v : V} {d : D} {vs : List (Str × V)} {ds : List (Str × D)} {A : List Addr} : d.isMu = false → Rep K mg Hs v d → OwnF K mg Hs H vs ds A → OwnF K mg Hs H ((k, v) :: vs) ((k, d) :: ds) A
  | mu {k : Str} {v : V} {d : D} {vs : List (Str × V)} {ds : List (Str × D)} {B A : List Addr} : Own K mg Hs H v d B → OwnF K mg Hs H vs ds A → (∀ a ∈ B, a ∉ A) → OwnF K mg Hs H ((k, v) :: vs) ((k, .mu d) :: ds) (B ++ A)
end

def CellOk (K : PySem.W.Frag) (mg : Str → Option Value) (c : Ct) (Hs H : Hp) (σ : L2.St) (i : Nat) : Cell → List Addr → Prop
  | .no, A => A = []
  | .sh d, A => A = [] ∧ ∃ v, σ[i]? = some (some v) ∧ Rep K mg Hs v d
  | .ow d, A => ∃ v, σ[i]? = some (some v) ∧ Own K mg Hs H v d A ∧ ∀ a ∈ A, Hs a = none ∧ (a ∈ c.A ∨ c.H a = none)
  | .io d, A => ∃ v, σ[i]? = some (some v) ∧ Own K mg Hs H v d A ∧ (∀ a ∈ A, Hs a = none ∧ (a ∈ c.A ∨ c.H a = none)) ∧ c.par i = some v
  | .ro d, A => A = [] ∧ ∃ v, σ[i]? = some (some v) ∧ c.ros i = some (v, d)
  | .al s k, A => A = [] ∧ ∃ v a vs, σ[i]? = some (some v) ∧ c.par s = some (.ref a) ∧ Hs a = some (.tup vs) ∧ vs[k]? = some v

structure Sta (K : PySem.W.Frag) (mg : Str → Option Value) (c : Ct) (Hs H : Hp) (σ : L2.St) (env : Env) : Prop where
  s0 : Same c.Hs Hs
  s1 : Same Hs H
  fr : ∀ p o, c.H p = some o → p ∉ c.A → H p = some o
  fh : ∀ p, c.Hs p = none → c.H p ≠ none → p ∉ c.A → Hs p = none
  hh : ∀ p, c.H p ≠ none → H p ≠ none
  ro : ∀ i v d, c.ros i = some (v, d) → ∃ B, Own K mg c.Hs c.H v d B ∧ ∀ a ∈ B, c.Hs a = none ∧ a ∉ c.A
  len : env.length = σ.length
  cells : ∃ A : Nat → List Addr, (∀ i cl, env[i]? = some cl → CellOk K mg c Hs H σ i cl (A i)) ∧ (∀ i, env[i]? = none → A i = []) ∧ (∀ i, (A i).Nodup) ∧ ∀ i j, i ≠ j → ∀ a ∈ A i, a ∉ A j

section
variable {K : PySem.W.Frag} {mg : Str → Option Value} {Hs H Hs' H' : Hp} {v : V} {d : D} {A : List Addr} {c : Ct} {σ : L2.St} {env : Env}
mutual
theorem Own.mono (e : Same Hs Hs') : ∀ {v : V} {d : D} {A : List Addr}, Own K mg Hs H v d A → (∀ a ∈ A, ∀ o, H a = some o → H' a = some o) → Own K mg Hs' H' v d A
  | _, _, _, .lst h r, k => .lst (k _ (by simp) _ h) (r.mono e)
  | _, _, _, .dk h r, k => .dk (k _ (by simp) _ h) (r.mono e)
  | _, _, _, .ob g t h r n, k => .ob g t (k _ (by simp) _ h) (OwnF.mono e r fun a ha => k a (List.mem_cons_of_mem _ ha)) n
  | _, _, _, .ml h r n, k => .ml (k _ (by simp) _ h) (OwnL.mono e r fun a ha => k a (List.mem_cons_of_mem _ ha)) n
  | _, _, _, .tup h r, k => .tup (e _ _ h) (OwnL.mono e r k)
theorem OwnL.mono (e : Same Hs Hs') : ∀ {v : List V} {d : List D} {A : List Addr}, OwnL K mg Hs H v d A → (∀ a ∈ A, ∀ o, H a = some o → H' a = some o) → OwnL K mg Hs' H' v d A
  | _, _, _, .nil, k => .nil
  | _, _, _, .sh n h r, k => .sh n (h.mono e) (OwnL.mono e r k)
  | _, _, _, .mu h r n, k => .mu (Own.mono e h fun a ha => k a (List.mem_append_left _ ha)) (OwnL.mono e r fun a ha => k a (List.mem_append_right _ ha)) n
theorem OwnF.mono (e : Same Hs Hs') : ∀ {v : List (Str × V)} {d : List (Str × D)} {A : List Addr}, OwnF K mg Hs H v d A → (∀ a ∈ A, ∀ o, H a = some o → H' a = some o) → OwnF K mg Hs' H' v d A
  | _, _, _, .nil, k => .nil
  | _, _, _, .sh n h r, k => .sh n (h.mono e) (OwnF.mono e r k)
  | _, _, _, .mu h r n, k => .mu (Own.mono e h fun a ha => k a (List.mem_append_left _ ha)) (OwnF.mono e r fun a ha => k a (List.mem_append_right _ ha)) n
end
mutual
theorem Own.has : ∀ {v : V} {d : D} {A : List Addr}, Own K mg Hs H v d A → ∀ a ∈ A, H a ≠ none
  | _, _, _, .lst h r => by intro a ha; simp at ha; subst ha; rw [h]; simp
  | _, _, _, .dk h r => by intro a ha; simp at ha; subst ha; rw [h]; simp
  | _, _, _, .ob g t h r n => by
    intro a ha
    rcases List.mem_cons.mp ha with e | e
    · subst e; rw [h]; simp
    · exact OwnF.has r a e
  | _, _, _, .ml h r n => by
    intro a ha
    rcases List.mem_cons.mp ha with e | e
    · subst e; rw [h]; simp
    · exact OwnL.has r a e
  | _, _, _, .tup h r => OwnL.has r
theorem OwnL.has : ∀ {v : List V} {d : List D} {A : List Addr}, OwnL K mg Hs H v d A → ∀ a ∈ A, H a ≠ none
  | _, _, _, .nil => by intro a ha; cases ha
  | _, _, _, .sh n h r => OwnL.has r
  | _, _, _, .mu h r n => by
    intro a ha
    rcases List.mem_append.mp ha with e | e
    · exact Own.has h a e
    · exact OwnL.has r a e
theorem OwnF.has : ∀ {v : List (Str × V)} {d : List (Str × D)} {A : List Addr}, OwnF K mg Hs H v d A → ∀ a ∈ A, H a ≠ none
  | _, _, _, .nil => by intro a ha; cases ha
  | _, _, _, .sh n h r => OwnF.has r
  | _, _, _, .mu h r n => by
    intro a ha
    rcases List.mem_append.mp ha with e | e
    · exact Own.has h a e
    · exact OwnF.has r a e
end
theorem nodup_app {α : Type} {B A : List α} (h1 : B.Nodup) (h2 : A.Nodup) (n : ∀ a ∈ B, a ∉ A) : (B ++ A).Nodup := by
  rw [List.nodup_append]
  exact ⟨h1, h2, fun a ha b hb e => n a ha (e ▸ hb)⟩
mutual
theorem Own.nodup : ∀ {v : V} {d : D} {A : List Addr}, Own K mg Hs H v d A → A.Nodup
  | _, _, _, .lst h r => by simp
  | _, _, _, .dk h r => by simp
  | _, _, _, .ob g t h r n => List.nodup_cons.mpr ⟨n, OwnF.nodup r⟩
  | _, _, _, .ml h r n => List.nodup_cons.mpr ⟨n, OwnL.nodup r⟩
  | _, _, _, .tup h r => OwnL.nodup r
theorem OwnL.nodup : ∀ {v : List V} {d : List D} {A : List Addr}, OwnL K mg Hs H v d A → A.Nodup
  | _, _, _, .nil => by simp
  | _, _, _, .sh n h r => OwnL.nodup r
  | _, _, _, .mu h r n => nodup_app (Own.nodup h) (OwnL.nodup r) n
theorem OwnF.nodup : ∀ {v : List (Str × V)} {d : List (Str × D)} {A : List Addr}, OwnF K mg Hs H v d A → A.Nodup
  | _, _, _, .nil => by simp
  | _, _, _, .sh n h r => OwnF.nodup r
  | _, _, _, .mu h r n => nodup_app (Own.nodup h) (OwnF.nodup r) n
end
theorem Own.ref {v : V} {d : D} {A : List Addr} (h : Own K mg Hs H v d A) : ∃ a, v = .ref a := by cases h <;> exact ⟨_, rfl⟩
mutual
/-- an owned tree, when all that it holds is stable -/
theorem Own.rep (e : Same Hs Hs') : ∀ {v : V} {d : D} {A : List Addr}, Own K mg Hs H v d A → (∀ a ∈ A, ∀ o, H a = some o → Hs' a = some o) → Rep K mg Hs' v d
  | _, _, _, .lst h r, k => .lst (k _ (by simp) _ h) (r.mono e)
  | _, _, _, .dk h r, k => .dk (k _ (by simp) _ h) (r.mono e)
  | _, _, _, .ob g t h r n, k => .ob g t (k _ (by simp) _ h) (OwnF.rep e r fun a ha => k a (List.mem_cons_of_mem _ ha))
  | _, _, _, .ml h r n, k => .ml (k _ (by simp) _ h) (OwnL.rep e r fun a ha => k a (List.mem_cons_of_mem _ ha))
  | _, _, _, .tup h r, k => .tup (SqT.of (e _ _ h)) (OwnL.rep e r k)
theorem OwnL.rep (e : Same Hs Hs') : ∀ {v : List V} {d : List D} {A : List Addr}, OwnL K mg Hs H v d A → (∀ a ∈ A, ∀ o, H a = some o → Hs' a = some o) → RepL K mg Hs' v d
  | _, _, _, .nil, k => .nil
  | _, _, _, .sh n h r, k => .cons (h.mono e) (OwnL.rep e r k)
  | _, _, _, .mu h r n, k => by
    obtain ⟨a, z⟩ := h.ref
    have q := Own.rep e h fun a ha => k a (List.mem_append_left _ ha)
    subst z
    exact .cons (.mu q) (OwnL.rep e r fun a ha => k a (List.mem_append_right _ ha))
theorem OwnF.rep (e : Same Hs Hs') : ∀ {v : List (Str × V)} {d : List (Str × D)} {A : List Addr}, OwnF K mg Hs H v d A → (∀ a ∈ A, ∀ o, H a = some o → Hs' a = some o) → RepF K mg Hs' v d
  | _, _, _, .nil, k => .nil
  | _, _, _, .sh n h r, k => .cons (h.mono e) (OwnF.rep e r k)
  | _, _, _, .mu h r n, k => by
    obtain ⟨a, z⟩ := h.ref
    have q := Own.rep e h fun a ha => k a (List.mem_append_left _ ha)
    subst z
    exact .cons (.mu q) (OwnF.rep e r fun a ha => k a (List.mem_append_right _ ha))
end
theorem upd_some {H : Hp} {a p : Addr} {o u : HO} (h : H a = some u) (n : H p = none) : upd H p o a = some u := by
  rw [upd_ne (ne_of_none h n)]; exact h
theorem same_new {H : Hp} {p : Addr} {o : HO} (n : H p = none) : Same H (upd H p o) := fun _ _ h => upd_some h n
theorem Same.both {p : Addr} {o : HO} (e : Same Hs H) : Same (upd Hs p o) (upd H p o) := fun b u h => by
  by_cases hb : b = p
  · subst hb; rw [upd_same] at h ⊢; exact h
  · rw [upd_ne hb] at h ⊢; exact e b u h

/-- what the frame had is there -/
theorem Sta.has (S : Sta K mg c Hs H σ env) {p : Addr} (h : c.H p ≠ none) : H p ≠ none := S.hh p h
theorem Sta.fresh (S : Sta K mg c Hs H σ env) {p : Addr} (h : H p = none) : c.H p = none := by
  cases e : c.H p with
  | none => rfl
  | some o => exact absurd h (S.has (by rw [e]; simp))
theorem Sta.freshS (S : Sta K mg c Hs H σ env) {p : Addr} (h : H p = none) : Hs p = none := S.s1.free h

/-- the heaps grow -/
theorem Same.has {p : Addr} (e : Same H H') (h : H p ≠ none) : H' p ≠ none := fun z => h (e.free z)
theorem Sta.grow (S : Sta K mg c Hs H σ env) (e : Same Hs Hs') (e' : Same H H') (z : Same Hs' H') (n : ∀ p, Hs p = none → H p ≠ none → Hs' p = none) : Sta K mg c Hs' H' σ env := by
  obtain ⟨A, hA, hN, hD, hX⟩ := S.cells
  refine ⟨fun b o h => e _ _ (S.s0 b o h), z, fun p o h q => e' _ _ (S.fr p o h q), fun p h q w => n p (S.fh p h q w) (S.hh p q), fun p q => Same.has e' (S.hh p q), S.ro, S.len, A, fun i cl h => ?_, hN, hD, hX⟩
  · have g := hA i cl h
    cases cl with
    | no => exact g
    | sh d => obtain ⟨g0, v, g1, g2⟩ := g; exact ⟨g0, v, g1, g2.mono e⟩
    | ow d =>
      obtain ⟨v, g1, g2, g3⟩ := g
      exact ⟨v, g1, g2.mono e fun a _ o h => e' _ _ h, fun a ha => ⟨n a (g3 a ha).1 (g2.has a ha), (g3 a ha).2⟩⟩
    | io d =>
      obtain ⟨v, g1, g2, g3, g4⟩ := g
      exact ⟨v, g1, g2.mono e fun a _ o h => e' _ _ h, fun a ha => ⟨n a (g3 a ha).1 (g2.has a ha), (g3 a ha).2⟩, g4⟩
    | al s k => obtain ⟨g0, v, a, vs, g1, g2, g3, g4⟩ := g; exact ⟨g0, v, a, vs, g1, g2, e _ _ g3, g4⟩
    | ro d => exact g
/-- a new thing, stable at once -/
theorem Sta.put {p : Addr} {o : HO} (S : Sta K mg c Hs H σ env) (n : H p = none) : Sta K mg c (upd Hs p o) (upd H p o) σ env :=
  S.grow (same_new (S.freshS n)) (same_new n) (Same.both S.s1) fun q h1 h2 => by
    rw [upd_ne (fun e => h2 (by rw [e]; exact n))]; exact h1
/-- a new thing, not stable -/
theorem Sta.putN {p : Addr} {o : HO} (S : Sta K mg c Hs H σ env) (n : H p = none) : Sta K mg c Hs (upd H p o) σ env :=
  S.grow (Same.refl _) (same_new n) (fun b u h => upd_some (S.s1 b u h) n) fun q h1 _ => h1

/-- may be assigned anew -/
def Cell.free : Cell → Bool
  | .io _ => false
  | .ro _ => false
  | _ => true
theorem sget_ne {σ : L2.St} {i j : Nat} {x : Option V} (h : i ≠ j) : (σ.set i x)[j]? = σ[j]? := List.getElem?_set_ne h
theorem eget_ne {env : Env} {i j : Nat} {x : Cell} (h : i ≠ j) : (env.set i x)[j]? = env[j]? := List.getElem?_set_ne h
theorem CellOk.slot {σ' : L2.St} {i : Nat} {cl : Cell} {A : List Addr} (h : CellOk K mg c Hs H σ i cl A) (e : σ'[i]? = σ[i]?) : CellOk K mg c Hs H σ' i cl A := by
  cases cl with
  | no => exact h
  | sh d => obtain ⟨g0, v, g1, g2⟩ := h; exact ⟨g0, v, e.trans g1, g2⟩
  | ow d => obtain ⟨v, g1, g2⟩ := h; exact ⟨v, e.trans g1, g2⟩
  | io d => obtain ⟨v, g1, g2⟩ := h; exact ⟨v, e.trans g1, g2⟩
  | al s k => obtain ⟨g0, v, a, vs, g1, g2⟩ := h; exact ⟨g0, v, a, vs, e.trans g1, g2⟩
  | ro d => obtain ⟨g0, v, g1, g2⟩ := h; exact ⟨g0, v, e.trans g1, g2⟩
/-- a slot gets a shared value -/
theorem Sta.set {i : Nat} (S : Sta K mg c Hs H σ env) (r : Rep K mg Hs v d) : Sta K mg c Hs H (σ.set i (some v)) (env.set i (.sh d)) := by
  obtain ⟨A, hA, hN, hD, hX⟩ := S.cells
  refine ⟨S.s0, S.s1, S.fr, S.fh, S.hh, S.ro, by rw [List.length_set, List.length_set]; exact S.len, fun j => if j = i then [] else A j, fun j cl h => ?_, fun j h => ?_, fun j => ?_, fun j k hjk a ha => ?_⟩
  · by_cases e : j = i
    · subst e
      have hlt : j < env.length := by
        have := (List.getElem?_eq_some_iff.mp h).1
        simpa using this
      rw [List.getElem?_set_self hlt] at h
      cases h
      show CellOk K mg c Hs H _ j (.sh d) (if j = j then [] else A j)
      rw [if_pos rfl]
      exact ⟨rfl, v, List.getElem?_set_self (by rw [← S.len]; exact hlt), r⟩
    · rw [eget_ne (Ne.symm e)] at h
      show CellOk K mg c Hs H _ j cl (if j = i then [] else A j)
      rw [if_neg e]
      exact (hA j cl h).slot (sget_ne (Ne.symm e))
  · show (if j = i then [] else A j) = []
    by_cases e : j = i
    · rw [if_pos e]
    · rw [if_neg e]
      rw [eget_ne (Ne.symm e)] at h
      exact hN j h
  · show (if j = i then [] else A j).Nodup
    by_cases e : j = i
    · rw [if_pos e]; simp
    · rw [if_neg e]; exact hD j
  · have ha' : a ∈ (if j = i then [] else A j) := ha
    show a ∉ (if k = i then [] else A k)
    by_cases e : j = i
    · rw [if_pos e] at ha'; simp at ha'
    · rw [if_neg e] at ha'
      by_cases e2 : k = i
      · rw [if_pos e2]; simp
      · rw [if_neg e2]; exact hX j k hjk a ha'
/-- a slot is forgotten, whatever it gets -/
theorem Sta.wipe {i : Nat} {ov : Option V} (S : Sta K mg c Hs H σ env) : Sta K mg c Hs H (σ.set i ov) (env.set i .no) := by
  obtain ⟨A, hA, hN, hD, hX⟩ := S.cells
  refine ⟨S.s0, S.s1, S.fr, S.fh, S.hh, S.ro, by rw [List.length_set, List.length_set]; exact S.len, fun j => if j = i then [] else A j, fun j cl h => ?_, fun j h => ?_, fun j => ?_, fun j k hjk a ha => ?_⟩
  · by_cases e : j = i
    · subst e
      have hlt : j < env.length := by
        have := (List.getElem?_eq_some_iff.mp h).1
        simpa using this
      rw [List.getElem?_set_self hlt] at h
      cases h
      show (if j = j then [] else A j) = []
      rw [if_pos rfl]
    · rw [eget_ne (Ne.symm e)] at h
      show CellOk K mg c Hs H _ j cl (if j = i then [] else A j)
      rw [if_neg e]
      exact (hA j cl h).slot (sget_ne (Ne.symm e))
  · show (if j = i then [] else A j) = []
    by_cases e : j = i
    · rw [if_pos e]
    · rw [if_neg e]
      rw [eget_ne (Ne.symm e)] at h
      exact hN j h
  · show (if j = i then [] else A j).Nodup
    by_cases e : j = i
    · rw [if_pos e]; simp
    · rw [if_neg e]; exact hD j
  · have ha' : a ∈ (if j = i then [] else A j) := ha
    show a ∉ (if k = i then [] else A k)
    by_cases e : j = i
    · rw [if_pos e] at ha'; simp at ha'
    · rw [if_neg e] at ha'
      by_cases e2 : k = i
      · rw [if_pos e2]; simp
      · rw [if_neg e2]; exact hX j k hjk a ha'
end
end NK

set_option Elab.async false
set_option linter.all false
set_option maxRecDepth 100000
set_option maxHeartbeats 4000000
namespace NK
open PySem PySem.Spec PyProof.Rows L2
section
variable {K : PySem.W.Frag} {mg : Str → Option Value} {Hs H Hs' H' : Hp} {v : V} {d : D} {A : List Addr} {c : Ct} {σ : L2.St} {env : Env}

/-! ### owned things: what is held, what may change -/
def Cell.own : Cell → Option D
  | .ow d => some d
  | .io d => some d
  | _ => none
def Cell.view : Cell → Option D
  | .ow d => some d
  | .io d => some d
  | .ro d => some d
  | _ => none
def Cell.put : Cell → D → Cell
  | .ow _, d => .ow d
  | .io _, d => .io d
  | x, _ => x

/-- what a slot with an owned thing tells -/
theorem Sta.owned {i : Nat} {cl : Cell} (S : Sta K mg c Hs H σ env) (h : env[i]? = some cl) (ho : cl.own = some d) :
    ∃ v A, σ[i]? = some (some v) ∧ Own K mg Hs H v d A ∧ (∀ a ∈ A, Hs a = none ∧ (a ∈ c.A ∨ c.H a = none)) ∧
      ∀ H' d' A', Own K mg Hs H' v d' A' → (∀ p o, p ∉ A → H p = some o → H' p = some o) → (∀ p, H p ≠ none → H' p ≠ none) → (∀ a ∈ A', a ∈ A ∨ H a = none) →
        Sta K mg c Hs H' σ (env.set i (cl.put d')) := by
  obtain ⟨B, hA, hN, hD, hX⟩ := S.cells
  have g := hA i cl h
  obtain ⟨v, g1, g2, g3, g4⟩ : ∃ v, σ[i]? = some (some v) ∧ Own K mg Hs H v d (B i) ∧ (∀ a ∈ B i, Hs a = none ∧ (a ∈ c.A ∨ c.H a = none)) ∧ ((∃ e, cl = .io e) → c.par i = some v) := by
    cases cl with
    | no => cases ho
    | sh d => cases ho
    | al s k => cases ho
    | ro d => cases ho
    | ow e =>
      cases ho
      obtain ⟨v, g1, g2, g3⟩ := g
      exact ⟨v, g1, g2, g3, fun ⟨_, z⟩ => nomatch z⟩
    | io e =>
      cases ho
      obtain ⟨v, g1, g2, g3, g4⟩ := g
      exact ⟨v, g1, g2, g3, fun _ => g4⟩
  refine ⟨v, B i, g1, g2, g3, fun H' d' A' o' k kh fr => ?_⟩
  have hi : i < env.length := (List.getElem?_eq_some_iff.mp h).1
  have sH : Same Hs H' := fun p o e => k p o (fun z => by rw [(g3 p z).1] at e; cases e) (S.s1 p o e)
  have frA : ∀ a ∈ A', Hs a = none ∧ (a ∈ c.A ∨ c.H a = none) := fun a ha => by
    rcases fr a ha with z | z
    · exact g3 a z
    · exact ⟨S.freshS z, .inr (S.fresh z)⟩
  refine ⟨S.s0, sH, fun p o e q => ?_, S.fh, fun p q => kh p (S.hh p q), S.ro, by rw [List.length_set]; exact S.len, fun j => if j = i then A' else B j, fun j cl' h' => ?_, fun j h' => ?_, fun j => ?_, fun j l hjl a ha => ?_⟩
  · refine k p o (fun z => ?_) (S.fr p o e q)
    rcases (g3 p z).2 with w | w
    · exact q w
    · rw [w] at e; cases e
  · by_cases e : j = i
    · subst e
      rw [List.getElem?_set_self hi] at h'
      cases h'
      show CellOk K mg c Hs H' σ j (cl.put d') (if j = j then A' else B j)
      rw [if_pos rfl]
      cases cl with
      | no => cases ho
      | sh d => cases ho
      | al s k => cases ho
      | ro d => cases ho
      | ow e => exact ⟨v, g1, o', frA⟩
      | io e => exact ⟨v, g1, o', frA, g4 ⟨e, rfl⟩⟩
    · rw [eget_ne (Ne.symm e)] at h'
      show CellOk K mg c Hs H' σ j cl' (if j = i then A' else B j)
      rw [if_neg e]
      have g := hA j cl' h'
      have kj : ∀ a ∈ B j, ∀ o, H a = some o → H' a = some o := fun a ha o q => k a o (fun z => hX j i e a ha z) q
      cases cl' with
      | no => exact g
      | sh d => exact g
      | ow d => obtain ⟨v, g1, g2, g3⟩ := g; exact ⟨v, g1, g2.mono (Same.refl _) kj, g3⟩
      | io d => obtain ⟨v, g1, g2, g3, g4⟩ := g; exact ⟨v, g1, g2.mono (Same.refl _) kj, g3, g4⟩
      | al s k => exact g
      | ro d => exact g
  · show (if j = i then A' else B j) = []
    by_cases e : j = i
    · subst e
      rw [List.getElem?_eq_none_iff, List.length_set] at h'
      omega
    · rw [if_neg e]
      rw [eget_ne (Ne.symm e)] at h'
      exact hN j h'
  · show (if j = i then A' else B j).Nodup
    by_cases e : j = i
    · rw [if_pos e]; exact o'.nodup
    · rw [if_neg e]; exact hD j
  · have ha' : a ∈ (if j = i then A' else B j) := ha
    show a ∉ (if l = i then A' else B l)
    have two : ∀ m, m ≠ i → ∀ a ∈ A', a ∉ B m := fun m hm a ha => by
      rcases fr a ha with z | z
      · exact hX i m (Ne.symm hm) a z
      · intro w
        have : H a ≠ none := by
          cases hm' : env[m]? with
          | none => rw [hN m hm'] at w; cases w
          | some cm =>
            have g := hA m cm hm'
            cases cm with
            | no => rw [g] at w; cases w
            | sh d => rw [g.1] at w; cases w
            | ow d => obtain ⟨v, _, g2, _⟩ := g; exact g2.has a w
            | io d => obtain ⟨v, _, g2, _⟩ := g; exact g2.has a w
            | al s k => rw [g.1] at w; cases w
            | ro d => rw [g.1] at w; cases w
        exact this z
    by_cases e : j = i
    · rw [if_pos e] at ha'
      have e2 : l ≠ i := fun z => hjl (e.trans z.symm)
      rw [if_neg e2]
      exact two l e2 a ha'
    · rw [if_neg e] at ha'
      by_cases e2 : l = i
      · rw [if_pos e2]; exact fun z => two j e a z ha'
      · rw [if_neg e2]; exact hX j l hjl a ha'
/-- what a slot with an owned or a lent thing shows -/
theorem Sta.viewed {i : Nat} {cl : Cell} (S : Sta K mg c Hs H σ env) (h : env[i]? = some cl) (ho : cl.view = some d) : ∃ v A, σ[i]? = some (some v) ∧ Own K mg Hs H v d A := by
  obtain ⟨B, hA, hN, hD, hX⟩ := S.cells
  have g := hA i cl h
  cases cl with
  | no => cases ho
  | sh d => cases ho
  | ow e => cases ho; obtain ⟨v, g1, g2, _⟩ := g; exact ⟨v, _, g1, g2⟩
  | io e => cases ho; obtain ⟨v, g1, g2, _⟩ := g; exact ⟨v, _, g1, g2⟩
  | al s k => cases ho
  | ro e =>
    cases ho
    obtain ⟨_, v, g1, g2⟩ := g
    obtain ⟨C, o, q⟩ := S.ro i v _ g2
    exact ⟨v, C, g1, o.mono S.s0 fun a ha o' z => S.fr a o' z (q a ha).2⟩
/-- the stable heap and some that are owned -/
def frzH (Hs H : Hp) (A : List Addr) : Hp := fun p => if p ∈ A then H p else Hs p
theorem frzH_in {p : Addr} (h : p ∈ A) : frzH Hs H A p = H p := if_pos h
theorem frzH_out {p : Addr} (h : p ∉ A) : frzH Hs H A p = Hs p := if_neg h
theorem frz_s0 (s1 : Same Hs H) : Same Hs (frzH Hs H A) := fun p o q => by
  by_cases h : p ∈ A
  · rw [frzH_in h]; exact s1 p o q
  · rw [frzH_out h]; exact q
theorem frz_s1 (s1 : Same Hs H) : Same (frzH Hs H A) H := fun p o q => by
  by_cases h : p ∈ A
  · rw [frzH_in h] at q; exact q
  · rw [frzH_out h] at q; exact s1 p o q
/-- an owned thing becomes stable -/
theorem Own.freeze (h : Own K mg Hs H v d A) (s1 : Same Hs H) (hn : ∀ a ∈ A, Hs a = none) : ∃ Hs', Same Hs Hs' ∧ Same Hs' H ∧ Rep K mg Hs' v d ∧ ∀ p, Hs p = none → p ∉ A → Hs' p = none :=
  ⟨frzH Hs H A, frz_s0 s1, frz_s1 s1, h.rep (frz_s0 s1) fun a ha o q => by rw [frzH_in ha]; exact q, fun p q n => by rw [frzH_out n]; exact q⟩
theorem Sta.freeze {i : Nat} (S : Sta K mg c Hs H σ env) (h : env[i]? = some (.ow d)) : ∃ v Hs', σ[i]? = some (some v) ∧ Same Hs Hs' ∧ Rep K mg Hs' v d ∧ Sta K mg c Hs' H σ (env.set i (.sh d)) := by
  obtain ⟨B, hA, hN, hD, hX⟩ := S.cells
  obtain ⟨v, g1, g2, g3⟩ := hA i _ h
  obtain ⟨Hs', e1, e2, e3, e4⟩ := g2.freeze S.s1 fun a ha => (g3 a ha).1
  have hi : i < env.length := (List.getElem?_eq_some_iff.mp h).1
  refine ⟨v, Hs', g1, e1, e3, fun p o q => e1 p o (S.s0 p o q), e2, S.fr, fun p q w z => ?_, S.hh, S.ro, by rw [List.length_set]; exact S.len, fun j => if j = i then [] else B j, fun j cl' h' => ?_, fun j h' => ?_, fun j => ?_, fun j l hjl a ha => ?_⟩
  · refine e4 p (S.fh p q w z) fun y => ?_
    rcases (g3 p y).2 with t | t
    · exact z t
    · exact w t
  · by_cases e : j = i
    · subst e
      rw [List.getElem?_set_self hi] at h'
      cases h'
      show CellOk K mg c Hs' H σ j (.sh d) (if j = j then [] else B j)
      rw [if_pos rfl]
      exact ⟨rfl, v, g1, e3⟩
    · rw [eget_ne (Ne.symm e)] at h'
      show CellOk K mg c Hs' H σ j cl' (if j = i then [] else B j)
      rw [if_neg e]
      have g := hA j cl' h'
      cases cl' with
      | no => exact g
      | sh d => obtain ⟨g0, v, g1, g2⟩ := g; exact ⟨g0, v, g1, g2.mono e1⟩
      | ow d => obtain ⟨v, g1, g2, g3⟩ := g; exact ⟨v, g1, g2.mono e1 fun _ _ _ q => q, fun a ha => ⟨e4 a (g3 a ha).1 (hX j i e a ha), (g3 a ha).2⟩⟩
      | io d => obtain ⟨v, g1, g2, g3, g4⟩ := g; exact ⟨v, g1, g2.mono e1 fun _ _ _ q => q, fun a ha => ⟨e4 a (g3 a ha).1 (hX j i e a ha), (g3 a ha).2⟩, g4⟩
      | al s k => obtain ⟨g0, v, a, vs, g1, g2, g3, g4⟩ := g; exact ⟨g0, v, a, vs, g1, g2, e1 _ _ g3, g4⟩
      | ro d => exact g
  · show (if j = i then [] else B j) = []
    by_cases e : j = i
    · rw [if_pos e]
    · rw [if_neg e]
      rw [eget_ne (Ne.symm e)] at h'
      exact hN j h'
  · show (if j = i then [] else B j).Nodup
    by_cases e : j = i
    · rw [if_pos e]; simp
    · rw [if_neg e]; exact hD j
  · have ha' : a ∈ (if j = i then [] else B j) := ha
    show a ∉ (if l = i then [] else B l)
    by_cases e : j = i
    · rw [if_pos e] at ha'; simp at ha'
    · rw [if_neg e] at ha'
      by_cases e2 : l = i
      · rw [if_pos e2]; simp
      · rw [if_neg e2]; exact hX j l hjl a ha'

/-! ### a thing beside the slots -/
theorem env_last {env : Env} {cl : Cell} : (env ++ [cl])[env.length]? = some cl := by simp
theorem sig_last {σ : L2.St} {x : Option V} : (σ ++ [x])[σ.length]? = some x := by simp
theorem app_lt {α : Type} {l : List α} {x : α} {i : Nat} (h : i < l.length) : (l ++ [x])[i]? = l[i]? := List.getElem?_append_left h
theorem CellOk.of_lt {σ' : L2.St} {i : Nat} {cl : Cell} {A : List Addr} (h : CellOk K mg c Hs H σ i cl A) (e : σ[i]? = σ'[i]?) : CellOk K mg c Hs H σ' i cl A := h.slot e.symm
/-- a new list is made and held beside the slots -/
theorem Sta.push {p : Addr} {xs : List V} {ds : List D} (S : Sta K mg c Hs H σ env) (n : H p = none) (r : RepL K mg Hs xs ds) : Sta K mg c Hs (upd H p (.lst xs)) (σ ++ [some (.ref p)]) (env ++ [.ow (.lst ds)]) := by
  have S' := S.putN (o := .lst xs) n
  obtain ⟨B, hA, hN, hD, hX⟩ := S.cells
  have hp : ∀ j, p ∉ B j := fun j w => by
    cases hm' : env[j]? with
    | none => rw [hN j hm'] at w; cases w
    | some cm =>
      have g := hA j cm hm'
      cases cm with
      | no => rw [g] at w; cases w
      | sh d => rw [g.1] at w; cases w
      | ow d => obtain ⟨v, _, g2, _⟩ := g; exact g2.has p w n
      | io d => obtain ⟨v, _, g2, _⟩ := g; exact g2.has p w n
      | al s k => rw [g.1] at w; cases w
      | ro d => rw [g.1] at w; cases w
  have kB : ∀ {a o}, H a = some o → upd H p (.lst xs) a = some o := fun q => upd_some q n
  refine ⟨S'.s0, S'.s1, S'.fr, S'.fh, S'.hh, S'.ro, by simp [S.len], fun j => if j = env.length then [p] else B j, fun j cl h => ?_, fun j h => ?_, fun j => ?_, fun j k hjk a ha => ?_⟩
  · by_cases e : j = env.length
    · subst e
      rw [env_last] at h
      cases h
      show CellOk K mg c Hs _ _ env.length (.ow (.lst ds)) (if env.length = env.length then [p] else B env.length)
      rw [if_pos rfl]
      refine ⟨.ref p, by rw [S.len]; exact sig_last, .lst upd_same r, fun a ha => ?_⟩
      have : a = p := by simpa using ha
      subst this
      exact ⟨S.freshS n, .inr (S.fresh n)⟩
    · have hlt : j < env.length := by
        have := (List.getElem?_eq_some_iff.mp h).1
        simp at this
        omega
      rw [app_lt hlt] at h
      show CellOk K mg c Hs _ _ j cl (if j = env.length then [p] else B j)
      rw [if_neg e]
      have g := (hA j cl h).of_lt (σ' := σ ++ [some (.ref p)]) (app_lt (by rw [← S.len]; exact hlt)).symm
      cases cl with
      | no => exact g
      | sh d => exact g
      | ow d => obtain ⟨v, g1, g2, g3⟩ := g; exact ⟨v, g1, g2.mono (Same.refl _) fun _ _ _ q => kB q, g3⟩
      | io d => obtain ⟨v, g1, g2, g3, g4⟩ := g; exact ⟨v, g1, g2.mono (Same.refl _) fun _ _ _ q => kB q, g3, g4⟩
      | al s k => exact g
      | ro d => exact g
  · show (if j = env.length then [p] else B j) = []
    rw [List.getElem?_eq_none_iff, List.length_append] at h
    have h' : env.length + 1 ≤ j := h
    rw [if_neg (by omega)]
    exact hN j (List.getElem?_eq_none_iff.mpr (by omega))
  · show (if j = env.length then [p] else B j).Nodup
    by_cases e : j = env.length
    · rw [if_pos e]; simp
    · rw [if_neg e]; exact hD j
  · have ha' : a ∈ (if j = env.length then [p] else B j) := ha
    show a ∉ (if k = env.length then [p] else B k)
    by_cases e : j = env.length
    · rw [if_pos e] at ha'
      have e2 : k ≠ env.length := fun z => hjk (e.trans z.symm)
      rw [if_neg e2]
      have : a = p := by simpa using ha'
      subst this
      exact hp k
    · rw [if_neg e] at ha'
      by_cases e2 : k = env.length
      · rw [if_pos e2]
        intro z
        have : a = p := by simpa using z
        subst this
        exact hp j ha'
      · rw [if_neg e2]; exact hX j k hjk a ha'
/-- what is held beside the slots goes into a slot -/
theorem Sta.pop {i : Nat} (S : Sta K mg c Hs H (σ ++ [some v]) (env ++ [.ow d])) (hl : env.length = σ.length) (hi : i < env.length) : Sta K mg c Hs H (σ.set i (some v)) (env.set i (.ow d)) := by
  obtain ⟨B, hA, hN, hD, hX⟩ := S.cells
  have gl : CellOk K mg c Hs H (σ ++ [some v]) env.length (.ow d) (B env.length) := hA env.length (.ow d) env_last
  obtain ⟨w, g1, g2, g3⟩ := gl
  rw [hl, sig_last] at g1
  cases g1
  refine ⟨S.s0, S.s1, S.fr, S.fh, S.hh, S.ro, by rw [List.length_set, List.length_set]; exact hl, fun j => if j = i then B env.length else if j < env.length then B j else [], fun j cl h => ?_, fun j h => ?_, fun j => ?_, fun j k hjk a ha => ?_⟩
  · have hj : j < env.length := by
      have := (List.getElem?_eq_some_iff.mp h).1
      simpa using this
    show CellOk K mg c Hs H _ j cl (if j = i then B env.length else if j < env.length then B j else [])
    by_cases e : j = i
    · subst e
      rw [List.getElem?_set_self hj] at h
      cases h
      rw [if_pos rfl]
      exact ⟨v, List.getElem?_set_self (by rw [← hl]; exact hj), g2, g3⟩
    · rw [eget_ne (Ne.symm e)] at h
      rw [if_neg e, if_pos hj]
      have g := hA j cl (by rw [app_lt hj]; exact h)
      exact g.slot (by rw [sget_ne (Ne.symm e), app_lt (by rw [← hl]; exact hj)])
  · rw [List.getElem?_eq_none_iff, List.length_set] at h
    show (if j = i then B env.length else if j < env.length then B j else []) = []
    rw [if_neg (by omega), if_neg (by omega)]
  · show (if j = i then B env.length else if j < env.length then B j else []).Nodup
    by_cases e : j = i
    · rw [if_pos e]; exact hD _
    · rw [if_neg e]
      by_cases e2 : j < env.length
      · rw [if_pos e2]; exact hD j
      · rw [if_neg e2]; simp
  · have ha' : a ∈ (if j = i then B env.length else if j < env.length then B j else []) := ha
    show a ∉ (if k = i then B env.length else if k < env.length then B k else [])
    by_cases e : j = i
    · rw [if_pos e] at ha'
      rw [if_neg (fun z => hjk (e.trans z.symm))]
      by_cases e2 : k < env.length
      · rw [if_pos e2]; exact hX env.length k (by omega) a ha'
      · rw [if_neg e2]; simp
    · rw [if_neg e] at ha'
      by_cases e3 : j < env.length
      · rw [if_pos e3] at ha'
        by_cases e2 : k = i
        · rw [if_pos e2]; exact hX j env.length (by omega) a ha'
        · rw [if_neg e2]
          by_cases e4 : k < env.length
          · rw [if_pos e4]; exact hX j k hjk a ha'
          · rw [if_neg e4]; simp
      · rw [if_neg e3] at ha'; cases ha'
theorem Sta.drop {x : Option V} {cl : Cell} (S : Sta K mg c Hs H (σ ++ [x]) (env ++ [cl])) : Sta K mg c Hs H σ env := by
  obtain ⟨B, hA, hN, hD, hX⟩ := S.cells
  have hl : env.length = σ.length := by have := S.len; simp at this; exact this
  refine ⟨S.s0, S.s1, S.fr, S.fh, S.hh, S.ro, hl, fun j => if j < env.length then B j else [], fun j cl h => ?_, fun j h => ?_, fun j => ?_, fun j k hjk a ha => ?_⟩
  · have hj : j < env.length := (List.getElem?_eq_some_iff.mp h).1
    show CellOk K mg c Hs H _ j cl (if j < env.length then B j else [])
    rw [if_pos hj]
    exact (hA j cl (by rw [app_lt hj]; exact h)).slot (by rw [app_lt (by rw [← hl]; exact hj)])
  · rw [List.getElem?_eq_none_iff] at h
    show (if j < env.length then B j else []) = []
    rw [if_neg (by omega)]
  · show (if j < env.length then B j else []).Nodup
    by_cases e2 : j < env.length
    · rw [if_pos e2]; exact hD j
    · rw [if_neg e2]; simp
  · have ha' : a ∈ (if j < env.length then B j else []) := ha
    show a ∉ (if k < env.length then B k else [])
    by_cases e3 : j < env.length
    · rw [if_pos e3] at ha'
      by_cases e4 : k < env.length
      · rw [if_pos e4]; exact hX j k hjk a ha'
      · rw [if_neg e4]; simp
    · rw [if_neg e3] at ha'; cases ha'
theorem set_last {α : Type} {l : List α} {x y : α} {n : Nat} (h : n = l.length) : (l ++ [x]).set n y = l ++ [y] := by subst h; simp
/-- what is held beside the slots becomes stable -/
theorem Sta.settle (S : Sta K mg c Hs H (σ ++ [some v]) (env ++ [.ow d])) : ∃ Hs', Same Hs Hs' ∧ Rep K mg Hs' v d ∧ Sta K mg c Hs' H σ env := by
  have hl : env.length = σ.length := by have := S.len; simp at this; exact this
  obtain ⟨w, Hs', g1, g2, g3, g4⟩ := S.freeze env_last
  rw [hl, sig_last] at g1
  cases g1
  rw [set_last rfl] at g4
  exact ⟨Hs', g2, g3, g4.drop⟩
end
end NK

set_option Elab.async false
set_option linter.all false
set_option maxRecDepth 100000
set_option maxHeartbeats 4000000
namespace NK
open PySem PySem.Spec PyProof.Rows L2
section
variable {K : PySem.W.Frag} {mg : Str → Option Value} {Hs H Hs' H' : Hp} {v : V} {d : D} {A : List Addr} {c : Ct} {σ : L2.St} {env : Env}
/-- the footprints of all slots -/
def feet (B : Nat → List Addr) (n : Nat) : List Addr := (List.range n).flatMap B
theorem mem_feet {B : Nat → List Addr} {n : Nat} {a : Addr} : a ∈ feet B n ↔ ∃ i, i < n ∧ a ∈ B i := by
  unfold feet; rw [List.mem_flatMap]
  constructor
  · rintro ⟨i, h1, h2⟩; exact ⟨i, List.mem_range.mp h1, h2⟩
  · rintro ⟨i, h1, h2⟩; exact ⟨i, List.mem_range.mpr h1, h2⟩
theorem CellOk.has {i : Nat} {cl : Cell} {a : Addr} (h : CellOk K mg c Hs H σ i cl A) (ha : a ∈ A) : H a ≠ none ∧ Hs a = none ∧ (a ∈ c.A ∨ c.H a = none) := by
  cases cl with
  | no => rw [h] at ha; cases ha
  | sh d => rw [h.1] at ha; cases ha
  | ow d => obtain ⟨v, _, g2, g3⟩ := h; exact ⟨g2.has a ha, g3 a ha⟩
  | io d => obtain ⟨v, _, g2, g3, _⟩ := h; exact ⟨g2.has a ha, g3 a ha⟩
  | al s k => rw [h.1] at ha; cases ha
  | ro d => rw [h.1] at ha; cases ha
/-- a part of a def, in a frame of its own -/
theorem Sta.sub (S : Sta K mg c Hs H σ env) : ∃ A0 : List Addr, (∀ p ∈ A0, H p ≠ none) ∧ ∀ H1, Same H H1 → 
    Sta K mg ⟨Hs, H1, A0, c.par, c.ros⟩ Hs H1 σ env ∧ ∀ Hs' H' σ' env', Sta K mg ⟨Hs, H1, A0, c.par, c.ros⟩ Hs' H' σ' env' → Sta K mg c Hs' H' σ' env' := by
  obtain ⟨B, hA, hN, hD, hX⟩ := S.cells
  have hB : ∀ p ∈ feet B env.length, H p ≠ none ∧ Hs p = none ∧ (p ∈ c.A ∨ c.H p = none) := fun p hp => by
    obtain ⟨i, hi, h⟩ := mem_feet.mp hp
    exact (hA i _ (List.getElem?_eq_getElem hi)).has h
  have nA : ∀ {p o}, c.H p = some o → p ∉ c.A → p ∉ feet B env.length := fun {p o} h q z => by
    rcases (hB p z).2.2 with w | w
    · exact q w
    · rw [w] at h; cases h
  refine ⟨feet B env.length, fun p hp => (hB p hp).1, fun H1 e1 => ⟨⟨Same.refl _, S.s1.trans e1, fun _ _ h _ => h, fun _ h _ _ => h, fun _ h => h, fun i v d h => ?_, S.len, B, fun i cl h => ?_, hN, hD, hX⟩, fun Hs' H' σ' env' S' => ?_⟩⟩
  · obtain ⟨C, o, q⟩ := S.ro i v d h
    refine ⟨C, o.mono S.s0 fun a ha o' z => e1 _ _ (S.fr a o' z (q a ha).2), fun a ha => ?_⟩
    have hc : c.H a ≠ none := o.has a ha
    refine ⟨S.fh a (q a ha).1 hc (q a ha).2, ?_⟩
    cases e : c.H a with
    | none => exact absurd e hc
    | some o' => exact nA e (q a ha).2
  · have g := hA i cl h
    have kB : ∀ {a o}, H a = some o → H1 a = some o := fun q => e1 _ _ q
    have hi : i < env.length := (List.getElem?_eq_some_iff.mp h).1
    cases cl with
    | no => exact g
    | sh d => exact g
    | ow d => obtain ⟨v, g1, g2, g3⟩ := g; exact ⟨v, g1, g2.mono (Same.refl _) fun _ _ _ q => kB q, fun a ha => ⟨(g3 a ha).1, .inl (mem_feet.mpr ⟨i, hi, ha⟩)⟩⟩
    | io d => obtain ⟨v, g1, g2, g3, g4⟩ := g; exact ⟨v, g1, g2.mono (Same.refl _) fun _ _ _ q => kB q, fun a ha => ⟨(g3 a ha).1, .inl (mem_feet.mpr ⟨i, hi, ha⟩)⟩, g4⟩
    | al s k => exact g
    | ro d => exact g
  · obtain ⟨B', hA', hN', hD', hX'⟩ := S'.cells
    refine ⟨S.s0.trans S'.s0, S'.s1, fun p o h q => S'.fr p o (e1 _ _ (S.fr p o h q)) (nA h q), fun p h q w => ?_, fun p h => S'.hh p (Same.has e1 (S.hh p h)), S.ro, S'.len, B', fun i cl h => ?_, hN', hD', hX'⟩
    · cases e : c.H p with
      | none => exact absurd e q
      | some o => exact S'.fh p (S.fh p h q w) (Same.has e1 (S.hh p q)) (nA e w)
    · have g := hA' i cl h
      have up : ∀ a, (a ∈ feet B env.length ∨ H1 a = none) → (a ∈ c.A ∨ c.H a = none) := fun a z => by
        rcases z with z | z
        · exact (hB a z).2.2
        · exact .inr (S.fresh (e1.free z))
      cases cl with
      | no => exact g
      | sh d => exact g
      | ow d => obtain ⟨v, g1, g2, g3⟩ := g; exact ⟨v, g1, g2, fun a ha => ⟨(g3 a ha).1, up a (g3 a ha).2⟩⟩
      | io d => obtain ⟨v, g1, g2, g3, g4⟩ := g; exact ⟨v, g1, g2, fun a ha => ⟨(g3 a ha).1, up a (g3 a ha).2⟩, g4⟩
      | al s k => exact g
      | ro d => exact g

/-! ### calls -/
inductive Arg where
  | val (d : D) | own (i : Nat) | bor (i : Nat)
def Arg.isOwn (i : Nat) : Arg → Bool
  | .own j => i == j
  | _ => false
def owns : List Arg → List Nat
  | [] => []
  | .own i :: r => i :: owns r
  | _ :: r => owns r
/-- no thing is lent twice, if it may be changed -/
def argsOk : List Arg → Bool
  | [] => true
  | .val _ :: r => argsOk r
  | .own i :: r => !(r.any fun a => match a with | .own j => i == j | .bor j => i == j | _ => false) && argsOk r
  | .bor i :: r => !(r.any fun a => a.isOwn i) && argsOk r
def argCell (env : Env) : Arg → Cell
  | .val d => .sh d
  | .own i => match env[i]? with
    | some cl => (match cl.own with | some d => .io d | none => .no)
    | none => .no
  | .bor i => match env[i]? with
    | some cl => (match cl.view with | some d => .ro d | none => .no)
    | none => .no
/-- behind a call: what was lent is as the callee left it -/
def backEnv (env : Env) (as : List Arg) (cs : List Cell) : Env := env.mapIdx fun j cl => match as.findIdx? (Arg.isOwn j) with
  | some k => (match cs[k]? with | some (.io d) => cl.put d | _ => .no)
  | none => cl
def ArgOk (K : PySem.W.Frag) (mg : Str → Option Value) (Hs : Hp) (σ : L2.St) (v : V) : Arg → Prop
  | .val d => Rep K mg Hs v d
  | .own i => σ[i]? = some (some v)
  | .bor i => σ[i]? = some (some v)
theorem Arg.isOwn_iff {i : Nat} {a : Arg} : a.isOwn i = true ↔ a = .own i := by
  cases a with
  | val d => simp [Arg.isOwn]
  | own j => simp [Arg.isOwn]; exact eq_comm
  | bor j => simp [Arg.isOwn]
theorem argsOk_own : ∀ {as : List Arg}, argsOk as = true → ∀ {k l i : Nat}, as[k]? = some (.own i) → as[l]? = some (.own i) → k = l
  | [], _, k, l, i, h, _ => by simp at h
  | a :: r, h0, 0, 0, i, h, h' => rfl
  | a :: r, h0, 0, l + 1, i, h, h' => by
    have e : a = .own i := by simpa using h
    subst e
    have h0' := h0
    simp only [argsOk, Bool.and_eq_true, Bool.not_eq_true'] at h0'
    have h1 := h0'.1
    rw [List.any_eq_false] at h1
    have hm : Arg.own i ∈ r := List.mem_of_getElem? (by simpa using h')
    exact absurd (by simp) (h1 _ hm)
  | a :: r, h0, k + 1, 0, i, h, h' => by
    have e : a = .own i := by simpa using h'
    subst e
    have h0' := h0
    simp only [argsOk, Bool.and_eq_true, Bool.not_eq_true'] at h0'
    have h1 := h0'.1
    rw [List.any_eq_false] at h1
    have hm : Arg.own i ∈ r := List.mem_of_getElem? (by simpa using h)
    exact absurd (by simp) (h1 _ hm)
  | a :: r, h0, k + 1, l + 1, i, h, h' => by
    have hr : argsOk r = true := by
      cases a with
      | val d => exact h0
      | own j => simp only [argsOk, Bool.and_eq_true] at h0; exact h0.2
      | bor j => simp only [argsOk, Bool.and_eq_true] at h0; exact h0.2
    exact congrArg (· + 1) (argsOk_own hr (k := k) (l := l) (i := i) (by simpa using h) (by simpa using h'))
theorem argsOk_bor : ∀ {as : List Arg}, argsOk as = true → ∀ {k l i : Nat}, as[k]? = some (.own i) → as[l]? = some (.bor i) → False
  | [], _, k, l, i, h, _ => by simp at h
  | a :: r, h0, 0, 0, i, h, h' => by
    have e : a = .own i := by simpa using h
    have e' : a = .bor i := by simpa using h'
    rw [e] at e'; cases e'
  | a :: r, h0, 0, l + 1, i, h, h' => by
    have e : a = .own i := by simpa using h
    subst e
    have h0' := h0
    simp only [argsOk, Bool.and_eq_true, Bool.not_eq_true'] at h0'
    have h1 := h0'.1
    rw [List.any_eq_false] at h1
    have hm : Arg.bor i ∈ r := List.mem_of_getElem? (by simpa using h')
    exact absurd (by simp) (h1 _ hm)
  | a :: r, h0, k + 1, 0, i, h, h' => by
    have e : a = .bor i := by simpa using h'
    subst e
    have h0' := h0
    simp only [argsOk, Bool.and_eq_true, Bool.not_eq_true'] at h0'
    have h1 := h0'.1
    rw [List.any_eq_false] at h1
    have hm : Arg.own i ∈ r := List.mem_of_getElem? (by simpa using h)
    exact absurd (by simp [Arg.isOwn]) (h1 _ hm)
  | a :: r, h0, k + 1, l + 1, i, h, h' => by
    have hr : argsOk r = true := by
      cases a with
      | val d => exact h0
      | own j => simp only [argsOk, Bool.and_eq_true] at h0; exact h0.2
      | bor j => simp only [argsOk, Bool.and_eq_true] at h0; exact h0.2
    exact argsOk_bor hr (k := k) (l := l) (i := i) (by simpa using h) (by simpa using h')
theorem find_own {as : List Arg} (h0 : argsOk as = true) {k i : Nat} (h : as[k]? = some (.own i)) : as.findIdx? (Arg.isOwn i) = some k := by
  rw [List.findIdx?_eq_some_iff_getElem]
  obtain ⟨hk, e⟩ := List.getElem?_eq_some_iff.mp h
  refine ⟨hk, by rw [e]; simp [Arg.isOwn], fun j hj => ?_⟩
  have hj' : j < as.length := Nat.lt_trans hj hk
  intro z
  have z' := Arg.isOwn_iff.mp z
  have : j = k := argsOk_own h0 (by rw [List.getElem?_eq_getElem hj', z']) h
  omega
theorem find_own' {as : List Arg} {k i : Nat} (h : as.findIdx? (Arg.isOwn i) = some k) : as[k]? = some (.own i) := by
  rw [List.findIdx?_eq_some_iff_getElem] at h
  obtain ⟨hk, e, _⟩ := h
  rw [List.getElem?_eq_getElem hk, Arg.isOwn_iff.mp e]
inductive ArgsOk (K : PySem.W.Frag) (mg : Str → Option Value) (Hs : Hp) (σ : L2.St) : List V → List Arg → Prop
  | nil : ArgsOk K mg Hs σ [] []
  | cons {v : V} {a : Arg} {vs : List V} {as : List Arg} : ArgOk K mg Hs σ v a → ArgsOk K mg Hs σ vs as → ArgsOk K mg Hs σ (v :: vs) (a :: as)
theorem ArgsOk.len : ∀ {vs : List V} {as : List Arg}, ArgsOk K mg Hs σ vs as → vs.length = as.length
  | _, _, .nil => rfl
  | _, _, .cons _ r => by rw [List.length_cons, List.length_cons, r.len]
theorem ArgsOk.get : ∀ {vs : List V} {as : List Arg} {k : Nat} {a : Arg}, ArgsOk K mg Hs σ vs as → as[k]? = some a → ∃ v, vs[k]? = some v ∧ ArgOk K mg Hs σ v a
  | _, _, _, _, .nil, e => by simp at e
  | _, _, 0, _, .cons r _, e => by simp at e; subst e; exact ⟨_, rfl, r⟩
  | _, _, k + 1, _, .cons _ t, e => ArgsOk.get (k := k) t (by simpa using e)
theorem ArgOk.mono {a : Arg} (e : Same Hs Hs') (h : ArgOk K mg Hs σ v a) : ArgOk K mg Hs' σ v a := by
  cases a with
  | val d => exact Rep.mono e h
  | own i => exact h
  | bor i => exact h
theorem ArgsOk.mono (e : Same Hs Hs') : ∀ {vs : List V} {as : List Arg}, ArgsOk K mg Hs σ vs as → ArgsOk K mg Hs' σ vs as
  | _, _, .nil => .nil
  | _, _, .cons r t => .cons (r.mono e) (t.mono e)
/-- what is beside the slots: nothing, or one new thing -/
def exS : Option (V × D) → L2.St
  | none => []
  | some p => [some p.1]
def exE : Option (V × D) → Env
  | none => []
  | some p => [.ow p.2]
/-- THE CALL: in, and out again -/
theorem Sta.call {vs : List V} {as : List Arg} (S : Sta K mg c Hs H σ env) (r : ArgsOk K mg Hs σ vs as) (ok : argsOk as = true) :
    ∃ c2 : Ct, (∀ k v, vs[k]? = some v → c2.par k = some v) ∧ Sta K mg c2 Hs H (vs.map some) (as.map (argCell env)) ∧
      ∀ Hs' H' cs ex, cs.length = as.length → Sta K mg c2 Hs' H' (vs.map some ++ exS ex) (cs ++ exE ex) → Same Hs Hs' ∧ Sta K mg c Hs' H' (σ ++ exS ex) (backEnv env as cs ++ exE ex) := by
  obtain ⟨B, hA, hN, hD, hX⟩ := S.cells
  -- the callee's footprints
  let ft : Arg → List Addr := fun a => match a with
    | .own i => (match env[i]? with | some cl => (match cl.own with | some _ => B i | none => []) | none => [])
    | _ => []
  let C : Nat → List Addr := fun k => match as[k]? with
    | some a => ft a
    | none => []
  let A2 := feet C as.length
  let rs : Nat → Option (V × D) := fun k => match as[k]?, vs[k]? with
    | some (.bor i), some v => (match env[i]? with | some cl => (match cl.view with | some d => some (v, d) | none => none) | none => none)
    | _, _ => none
  have ft_own : ∀ {a x}, x ∈ ft a → ∃ i cl d, a = .own i ∧ env[i]? = some cl ∧ cl.own = some d ∧ ft a = B i := fun {a x} h => by
    cases a with
    | val d => cases h
    | bor i => cases h
    | own i =>
      cases e : env[i]? with
      | none =>
        have h' : x ∈ (match env[i]? with | some cl => (match cl.own with | some _ => B i | none => []) | none => []) := h
        rw [e] at h'; cases h'
      | some cl =>
        have h' : x ∈ (match env[i]? with | some cl => (match cl.own with | some _ => B i | none => []) | none => []) := h
        rw [e] at h'
        cases e2 : cl.own with
        | none =>
          have h2 : x ∈ (match cl.own with | some _ => B i | none => []) := h'
          rw [e2] at h2; cases h2
        | some d =>
          refine ⟨i, cl, d, rfl, e, e2, ?_⟩
          show (match env[i]? with | some cl => (match cl.own with | some _ => B i | none => []) | none => []) = B i
          rw [e]
          show (match cl.own with | some _ => B i | none => []) = B i
          rw [e2]
  have mA2 : ∀ {x}, x ∈ A2 → ∃ k i cl d, as[k]? = some (Arg.own i) ∧ env[i]? = some cl ∧ cl.own = some d ∧ x ∈ B i := fun {x} h => by
    obtain ⟨k, hk, h1⟩ := mem_feet.mp h
    have e : as[k]? = some as[k] := List.getElem?_eq_getElem hk
    have h2 : x ∈ ft as[k] := by
      have h3 : x ∈ (match as[k]? with | some a => ft a | none => []) := h1
      rw [e] at h3; exact h3
    obtain ⟨i, cl, d, e1, e2, e3, e4⟩ := ft_own h2
    exact ⟨k, i, cl, d, by rw [e, e1], e2, e3, by rw [e4] at h2; exact h2⟩
  have hasB : ∀ {i x}, x ∈ B i → H x ≠ none ∧ Hs x = none ∧ (x ∈ c.A ∨ c.H x = none) := fun {i x} h => by
    cases e : env[i]? with
    | none => rw [hN i e] at h; cases h
    | some cl => exact (hA i cl e).has h
  have nA : ∀ {p o}, c.H p = some o → p ∉ c.A → p ∉ A2 := fun {p o} h q z => by
    obtain ⟨k, i, cl, d, _, _, _, hx⟩ := mA2 z
    rcases (hasB hx).2.2 with w | w
    · exact q w
    · rw [w] at h; cases h
  have nB : ∀ {j x}, x ∈ B j → (∀ k, as[k]? ≠ some (Arg.own j)) → x ∉ A2 := fun {j x} h q z => by
    obtain ⟨k, i, cl, d, e, _, _, hx⟩ := mA2 z
    by_cases hij : i = j
    · subst hij; exact q k e
    · exact hX i j hij x hx h
  refine ⟨⟨Hs, H, A2, fun k => vs[k]?, rs⟩, fun k v h => h, ⟨Same.refl _, S.s1, fun _ _ h _ => h, fun _ h _ _ => h, fun _ h => h, fun k v d h => ?_, by rw [List.length_map, List.length_map]; exact r.len.symm, C, fun k cl h => ?_, fun k h => ?_, fun k => ?_, fun k l hkl a ha => ?_⟩, fun Hs' H' cs ex hcs S' => ?_⟩
  · -- what is lent to be read
    have h' : rs k = some (v, d) := h
    have h2 : (match as[k]?, vs[k]? with
      | some (.bor i), some v => (match env[i]? with | some cl => (match cl.view with | some d => some (v, d) | none => none) | none => none)
      | _, _ => none) = some (v, d) := h'
    cases e : as[k]? with
    | none => rw [e] at h2; cases h2
    | some a =>
      cases a with
      | val d => rw [e] at h2; cases h2
      | own i => rw [e] at h2; cases h2
      | bor i =>
        obtain ⟨v', hv', hr⟩ := r.get e
        rw [e, hv'] at h2
        have h3 : (match env[i]? with | some cl => (match cl.view with | some d => some (v', d) | none => none) | none => none) = some (v, d) := h2
        cases e3 : env[i]? with
        | none => rw [e3] at h3; cases h3
        | some cl =>
          rw [e3] at h3
          have h4 : (match cl.view with | some d => some (v', d) | none => none) = some (v, d) := h3
          cases e4 : cl.view with
          | none => rw [e4] at h4; cases h4
          | some d' =>
            rw [e4] at h4
            obtain ⟨rfl, rfl⟩ : v' = v ∧ d' = d := by
              have := Option.some.inj h4
              exact ⟨congrArg Prod.fst this, congrArg Prod.snd this⟩
            have hsl : σ[i]? = some (some v') := hr
            have g := hA i cl e3
            have nown : ∀ k', as[k']? ≠ some (Arg.own i) := fun k' z => argsOk_bor ok z e
            cases cl with
            | no => cases e4
            | sh d => cases e4
            | ow d2 =>
              cases e4
              obtain ⟨u, g1, g2, g3⟩ := g
              rw [g1] at hsl; cases hsl
              exact ⟨B i, g2, fun a ha => ⟨(g3 a ha).1, nB ha nown⟩⟩
            | io d2 =>
              cases e4
              obtain ⟨u, g1, g2, g3, _⟩ := g
              rw [g1] at hsl; cases hsl
              exact ⟨B i, g2, fun a ha => ⟨(g3 a ha).1, nB ha nown⟩⟩
            | al s k => cases e4
            | ro d2 =>
              cases e4
              obtain ⟨_, u, g1, g2⟩ := g
              rw [g1] at hsl; cases hsl
              obtain ⟨E, o, q⟩ := S.ro i _ _ g2
              refine ⟨E, o.mono S.s0 fun a ha o' z => S.fr a o' z (q a ha).2, fun a ha => ?_⟩
              have hc : c.H a ≠ none := o.has a ha
              refine ⟨S.fh a (q a ha).1 hc (q a ha).2, ?_⟩
              cases e5 : c.H a with
              | none => exact absurd e5 hc
              | some o' => exact nA e5 (q a ha).2
  · -- the callee's cells
    rw [List.getElem?_map] at h
    cases e : as[k]? with
    | none => rw [e] at h; cases h
    | some a =>
      rw [e] at h
      have hcl : cl = argCell env a := (Option.some.inj h).symm
      subst hcl
      obtain ⟨v, hv, hr⟩ := r.get e
      have hσ : (vs.map some)[k]? = some (some v) := by rw [List.getElem?_map, hv]; rfl
      have hC : C k = ft a := by
        show (match as[k]? with | some a => ft a | none => []) = ft a
        rw [e]
      have hkl : k < as.length := (List.getElem?_eq_some_iff.mp e).1
      show CellOk K mg ⟨Hs, H, A2, fun k => vs[k]?, rs⟩ Hs H (vs.map some) k (argCell env a) (C k)
      rw [hC]
      cases a with
      | val d => exact ⟨rfl, v, hσ, hr⟩
      | own i =>
        have hsl : σ[i]? = some (some v) := hr
        cases e3 : env[i]? with
        | none =>
          have e4 : argCell env (.own i) = .no := by simp [argCell, e3]
          have e5 : ft (.own i) = [] := by
            show (match env[i]? with | some cl => (match cl.own with | some _ => B i | none => []) | none => []) = []
            rw [e3]
          rw [e4, e5]; rfl
        | some cl =>
          cases e6 : cl.own with
          | none =>
            have e4 : argCell env (.own i) = .no := by simp [argCell, e3, e6]
            have e5 : ft (.own i) = [] := by
              show (match env[i]? with | some cl => (match cl.own with | some _ => B i | none => []) | none => []) = []
              rw [e3]; show (match cl.own with | some _ => B i | none => []) = []; rw [e6]
            rw [e4, e5]; rfl
          | some d =>
            have e4 : argCell env (.own i) = .io d := by simp [argCell, e3, e6]
            have e5 : ft (.own i) = B i := by
              show (match env[i]? with | some cl => (match cl.own with | some _ => B i | none => []) | none => []) = B i
              rw [e3]; show (match cl.own with | some _ => B i | none => []) = B i; rw [e6]
            rw [e4, e5]
            have inA2 : ∀ a ∈ B i, a ∈ A2 := fun a ha => mem_feet.mpr ⟨k, hkl, by rw [hC, e5]; exact ha⟩
            have g := hA i cl e3
            cases cl with
            | no => cases e6
            | sh d => cases e6
            | al s k => cases e6
            | ro d => cases e6
            | ow d2 =>
              cases e6
              obtain ⟨u, g1, g2, g3⟩ := g
              rw [g1] at hsl; cases hsl
              exact ⟨_, hσ, g2, fun a ha => ⟨(g3 a ha).1, .inl (inA2 a ha)⟩, hv⟩
            | io d2 =>
              cases e6
              obtain ⟨u, g1, g2, g3, _⟩ := g
              rw [g1] at hsl; cases hsl
              exact ⟨_, hσ, g2, fun a ha => ⟨(g3 a ha).1, .inl (inA2 a ha)⟩, hv⟩
      | bor i =>
        have hsl : σ[i]? = some (some v) := hr
        show CellOk K mg ⟨Hs, H, A2, fun k => vs[k]?, rs⟩ Hs H (vs.map some) k (argCell env (.bor i)) []
        cases e3 : env[i]? with
        | none =>
          have e4 : argCell env (.bor i) = .no := by simp [argCell, e3]
          rw [e4]; rfl
        | some cl =>
          cases e6 : cl.view with
          | none =>
            have e4 : argCell env (.bor i) = .no := by simp [argCell, e3, e6]
            rw [e4]; rfl
          | some d =>
            have e4 : argCell env (.bor i) = .ro d := by simp [argCell, e3, e6]
            rw [e4]
            refine ⟨rfl, v, hσ, ?_⟩
            show rs k = some (v, d)
            show (match as[k]?, vs[k]? with
              | some (.bor i), some v => (match env[i]? with | some cl => (match cl.view with | some d => some (v, d) | none => none) | none => none)
              | _, _ => none) = some (v, d)
            rw [e, hv]
            show (match env[i]? with | some cl => (match cl.view with | some d => some (v, d) | none => none) | none => none) = some (v, d)
            rw [e3]
            show (match cl.view with | some d => some (v, d) | none => none) = some (v, d)
            rw [e6]
  · -- no more
    rw [List.getElem?_map] at h
    show (match as[k]? with | some a => ft a | none => []) = []
    cases e : as[k]? with
    | none => rfl
    | some a => rw [e] at h; cases h
  · show (match as[k]? with | some a => ft a | none => []).Nodup
    cases e : as[k]? with
    | none => simp
    | some a =>
      show (ft a).Nodup
      cases a with
      | val d => simp [ft]
      | bor i => simp [ft]
      | own i =>
        show (match env[i]? with | some cl => (match cl.own with | some _ => B i | none => []) | none => []).Nodup
        cases e3 : env[i]? with
        | none => simp
        | some cl =>
          show (match cl.own with | some _ => B i | none => []).Nodup
          cases e6 : cl.own with
          | none => simp
          | some d => exact hD i
  · -- apart
    intro hb
    have ha' : a ∈ (match as[k]? with | some a => ft a | none => []) := ha
    have hb' : a ∈ (match as[l]? with | some a => ft a | none => []) := hb
    cases e : as[k]? with
    | none => rw [e] at ha'; cases ha'
    | some x =>
      cases e' : as[l]? with
      | none => rw [e'] at hb'; cases hb'
      | some y =>
        rw [e] at ha'; rw [e'] at hb'
        have ha2 : a ∈ ft x := ha'
        have hb2 : a ∈ ft y := hb'
        obtain ⟨i, _, _, rfl, _, _, q1⟩ := ft_own ha2
        obtain ⟨j, _, _, rfl, _, _, q2⟩ := ft_own hb2
        rw [q1] at ha2; rw [q2] at hb2
        by_cases hij : i = j
        · subst hij; exact hkl (argsOk_own ok e e')
        · exact hX i j hij a ha2 hb2
  · -- out again
    obtain ⟨C', hA', hN', hD', hX'⟩ := S'.cells
    have hl : env.length = σ.length := S.len
    have ecl : (backEnv env as cs).length = env.length := by unfold backEnv; simp
    -- the new footprints
    let F : Nat → List Addr := fun j => if j < env.length then (match as.findIdx? (Arg.isOwn j) with
        | some k => (match cs[k]? with | some (.io _) => (match env[j]? with | some cl => (match cl.own with | some _ => C' k | none => []) | none => []) | _ => [])
        | none => B j) else C' (cs.length + (j - env.length))
    have upC : ∀ {k x}, x ∈ C' k → (x ∈ A2 ∨ H x = none) ∧ Hs' x = none ∧ H' x ≠ none := fun {k x} h => by
      cases e : (cs ++ exE ex)[k]? with
      | none => rw [hN' k e] at h; cases h
      | some cl =>
        have q := (hA' k cl e).has h
        exact ⟨q.2.2, q.2.1, q.1⟩
    have upc : ∀ {x}, (x ∈ A2 ∨ H x = none) → (x ∈ c.A ∨ c.H x = none) := fun {x} h => by
      rcases h with h | h
      · obtain ⟨k, i, cl, d, _, _, _, hx⟩ := mA2 h
        exact (hasB hx).2.2
      · exact .inr (S.fresh h)
    -- a footprint of the new ones is a callee's or an old one that was not lent
    have mF : ∀ {j x}, x ∈ F j → (∃ k, x ∈ C' k ∧ ((j < env.length ∧ as[k]? = some (Arg.own j)) ∨ (env.length ≤ j ∧ k = cs.length + (j - env.length)))) ∨ (j < env.length ∧ x ∈ B j ∧ ∀ k, as[k]? ≠ some (Arg.own j)) := fun {j x} h => by
      by_cases hj : j < env.length
      · have h1 : x ∈ (match as.findIdx? (Arg.isOwn j) with
          | some k => (match cs[k]? with | some (.io _) => (match env[j]? with | some cl => (match cl.own with | some _ => C' k | none => []) | none => []) | _ => [])
          | none => B j) := by
          have h2 := h
          simp only [F] at h2
          rw [if_pos hj] at h2
          exact h2
        cases e : as.findIdx? (Arg.isOwn j) with
        | none =>
          rw [e] at h1
          refine .inr ⟨hj, h1, fun k z => ?_⟩
          rw [find_own ok z] at e; cases e
        | some k =>
          rw [e] at h1
          have h3 : x ∈ (match cs[k]? with | some (.io _) => (match env[j]? with | some cl => (match cl.own with | some _ => C' k | none => []) | none => []) | _ => []) := h1
          split at h3
          · split at h3
            · split at h3
              · exact .inl ⟨k, h3, .inl ⟨hj, find_own' e⟩⟩
              · cases h3
            · cases h3
          · cases h3
      · have h2 := h
        simp only [F] at h2
        rw [if_neg hj] at h2
        exact .inl ⟨_, h2, .inr ⟨by omega, rfl⟩⟩
    have frB : ∀ {j x}, x ∈ B j → (∀ k, as[k]? ≠ some (Arg.own j)) → (∀ o, H x = some o → H' x = some o) ∧ Hs' x = none := fun {j x} h q => by
      have n2 := nB h q
      exact ⟨fun o e => S'.fr x o e n2, S'.fh x (hasB h).2.1 (hasB h).1 n2⟩
    refine ⟨S'.s0, ⟨S.s0.trans S'.s0, S'.s1, fun p o h q => S'.fr p o (S.fr p o h q) (nA h q), fun p h q w => ?_, fun p h => S'.hh p (S.hh p h), S.ro, ?_, F, fun j cl h => ?_, fun j h => ?_, fun j => ?_, fun j l hjl a ha => ?_⟩⟩
    · cases e : c.H p with
      | none => exact absurd e q
      | some o => exact S'.fh p (S.fh p h q w) (S.hh p q) (nA e w)
    · rw [List.length_append, List.length_append, ecl, hl]
      cases ex with
      | none => rfl
      | some p => rfl
    · by_cases hj : j < env.length
      · -- a slot
        have e1 : (backEnv env as cs ++ exE ex)[j]? = (backEnv env as cs)[j]? := List.getElem?_append_left (by rw [ecl]; exact hj)
        rw [e1] at h
        have ej : env[j]? = some env[j] := List.getElem?_eq_getElem hj
        have e2 : (backEnv env as cs)[j]? = some (match as.findIdx? (Arg.isOwn j) with
            | some k => (match cs[k]? with | some (.io d) => (env[j]).put d | _ => .no)
            | none => env[j]) := by
          unfold backEnv
          rw [List.getElem?_mapIdx, ej]; rfl
        rw [e2] at h
        have e3 : (σ ++ exS ex)[j]? = σ[j]? := List.getElem?_append_left (by rw [← hl]; exact hj)
        have hF : F j = (match as.findIdx? (Arg.isOwn j) with
          | some k => (match cs[k]? with | some (.io _) => (match env[j]? with | some cl => (match cl.own with | some _ => C' k | none => []) | none => []) | _ => [])
          | none => B j) := if_pos hj
        have g := hA j _ ej
        rw [hF]
        cases e : as.findIdx? (Arg.isOwn j) with
        | none =>
          rw [e] at h
          cases h
          have q : ∀ k, as[k]? ≠ some (Arg.own j) := fun k z => by rw [find_own ok z] at e; cases e
          have kj : ∀ a ∈ B j, ∀ o, H a = some o → H' a = some o := fun a ha => (frB ha q).1
          show CellOk K mg c Hs' H' (σ ++ exS ex) j env[j] (B j)
          refine CellOk.slot (σ := σ) ?_ e3
          cases ecl2 : env[j] with
          | no => rw [ecl2] at g; exact g
          | sh d => rw [ecl2] at g; obtain ⟨g0, v, g1, g2⟩ := g; exact ⟨g0, v, g1, g2.mono S'.s0⟩
          | ow d => rw [ecl2] at g; obtain ⟨v, g1, g2, g3⟩ := g; exact ⟨v, g1, g2.mono S'.s0 kj, fun a ha => ⟨(frB ha q).2, (g3 a ha).2⟩⟩
          | io d => rw [ecl2] at g; obtain ⟨v, g1, g2, g3, g4⟩ := g; exact ⟨v, g1, g2.mono S'.s0 kj, fun a ha => ⟨(frB ha q).2, (g3 a ha).2⟩, g4⟩
          | al s k => rw [ecl2] at g; obtain ⟨g0, v, a, vs, g1, g2, g3, g4⟩ := g; exact ⟨g0, v, a, vs, g1, g2, S'.s0 _ _ g3, g4⟩
          | ro d => rw [ecl2] at g; exact g
        | some k =>
          rw [e] at h
          have hk := find_own' e
          have h' : (match cs[k]? with | some (.io d) => (env[j]).put d | _ => Cell.no) = cl := Option.some.inj h
          show CellOk K mg c Hs' H' (σ ++ exS ex) j cl (match cs[k]? with | some (.io _) => (match env[j]? with | some cl => (match cl.own with | some _ => C' k | none => []) | none => []) | _ => [])
          cases ek : cs[k]? with
          | none => rw [ek] at h'; subst h'; rfl
          | some ck =>
            cases ck with
            | no => rw [ek] at h'; subst h'; rfl
            | sh d => rw [ek] at h'; subst h'; rfl
            | ow d => rw [ek] at h'; subst h'; rfl
            | al s k => rw [ek] at h'; subst h'; rfl
            | ro d => rw [ek] at h'; subst h'; rfl
            | io d =>
              rw [ek] at h'
              have h2 : (env[j]).put d = cl := h'
              subst h2
              show CellOk K mg c Hs' H' (σ ++ exS ex) j ((env[j]).put d) (match env[j]? with | some cl => (match cl.own with | some _ => C' k | none => []) | none => [])
              rw [ej]
              have hkl : k < cs.length := (List.getElem?_eq_some_iff.mp ek).1
              have gk := hA' k (.io d) (by rw [List.getElem?_append_left hkl]; exact ek)
              obtain ⟨u, k1, k2, k3, k4⟩ := gk
              have k4' : vs[k]? = some u := k4
              obtain ⟨v', hv', hr⟩ := r.get hk
              rw [hv'] at k4'
              obtain rfl : v' = u := Option.some.inj k4'
              have hsl : σ[j]? = some (some v') := hr
              refine CellOk.slot (σ := σ) ?_ e3
              show CellOk K mg c Hs' H' σ j ((env[j]).put d) (match (env[j]).own with | some _ => C' k | none => [])
              have k3' : ∀ a ∈ C' k, Hs' a = none ∧ (a ∈ c.A ∨ c.H a = none) := fun a ha => ⟨(k3 a ha).1, upc (k3 a ha).2⟩
              cases ecl2 : env[j] with
              | no => rfl
              | sh d2 =>
                rw [ecl2] at g; obtain ⟨g0, v, g1, g2⟩ := g
                exact ⟨rfl, v, g1, g2.mono S'.s0⟩
              | ow d2 => exact ⟨v', hsl, k2, k3'⟩
              | io d2 =>
                rw [ecl2] at g; obtain ⟨w, g1, g2, g3, g4⟩ := g
                rw [g1] at hsl
                cases hsl
                exact ⟨_, g1, k2, k3', g4⟩
              | al s k => rw [ecl2] at g; obtain ⟨g0, v, a, vs, g1, g2, g3, g4⟩ := g; exact ⟨rfl, v, a, vs, g1, g2, S'.s0 _ _ g3, g4⟩
              | ro d2 =>
                rw [ecl2] at g; exact ⟨rfl, g.2⟩
      · -- the thing beside
        have hj2 : (backEnv env as cs).length ≤ j := by rw [ecl]; omega
        rw [List.getElem?_append_right hj2, ecl] at h
        cases ex with
        | none => simp [exE] at h
        | some p =>
          have h0 : j - env.length = 0 := by
            have := (List.getElem?_eq_some_iff.mp h).1
            have : j - env.length < 1 := this
            omega
          have ej : j = env.length := by omega
          subst ej
          rw [Nat.sub_self] at h
          have h1 : cl = .ow p.2 := (Option.some.inj (show some (Cell.ow p.2) = some cl from h)).symm
          subst h1
          have hF : F env.length = C' cs.length := by
            show (if env.length < env.length then _ else C' (cs.length + (env.length - env.length))) = C' cs.length
            rw [if_neg (Nat.lt_irrefl _), Nat.sub_self]; rfl
          rw [hF]
          have gk := hA' cs.length (.ow p.2) (by show (cs ++ [Cell.ow p.2])[cs.length]? = _; simp)
          obtain ⟨u, k1, k2, k3⟩ := gk
          have hvl : cs.length = (vs.map some).length := by rw [hcs, List.length_map]; exact r.len.symm
          have k1' : (vs.map some ++ [some p.1])[cs.length]? = some (some u) := k1
          rw [hvl, sig_last] at k1'
          cases k1'
          refine ⟨p.1, ?_, k2, fun a ha => ⟨(k3 a ha).1, upc (k3 a ha).2⟩⟩
          show (σ ++ [some p.1])[env.length]? = _
          rw [hl, sig_last]
    · have hj : ¬ j < env.length := fun z => by
        have : (backEnv env as cs ++ exE ex).length ≤ j := List.getElem?_eq_none_iff.mp h
        rw [List.length_append, ecl] at this
        omega
      show (if j < env.length then _ else C' (cs.length + (j - env.length))) = []
      rw [if_neg hj]
      refine hN' _ ?_
      rw [List.getElem?_eq_none_iff] at h ⊢
      rw [List.length_append] at h ⊢
      rw [ecl] at h
      omega
    · by_cases hj : j < env.length
      · show (if j < env.length then (match as.findIdx? (Arg.isOwn j) with
          | some k => (match cs[k]? with | some (.io _) => (match env[j]? with | some cl => (match cl.own with | some _ => C' k | none => []) | none => []) | _ => [])
          | none => B j) else C' (cs.length + (j - env.length))).Nodup
        rw [if_pos hj]
        split
        · split
          · split
            · split
              · exact hD' _
              · simp
            · simp
          · simp
        · exact hD j
      · show (if j < env.length then _ else C' (cs.length + (j - env.length))).Nodup
        rw [if_neg hj]; exact hD' _
    · intro hb
      rcases mF ha with ⟨k, hk, q⟩ | ⟨h1, h2, h3⟩
      · rcases mF hb with ⟨k', hk', q'⟩ | ⟨h1', h2', h3'⟩
        · have hkk : k ≠ k' := fun e => by
            subst e
            rcases q with ⟨j1, j2⟩ | ⟨j1, j2⟩
            · rcases q' with ⟨l1, l2⟩ | ⟨l1, l2⟩
              · rw [j2] at l2
                have := Option.some.inj l2
                injection this with this
                exact hjl this
              · have := (List.getElem?_eq_some_iff.mp j2).1
                omega
            · rcases q' with ⟨l1, l2⟩ | ⟨l1, l2⟩
              · have := (List.getElem?_eq_some_iff.mp l2).1
                omega
              · omega
          exact hX' k k' hkk a hk hk'
        · rcases (upC hk).1 with z | z
          · exact nB h2' h3' z
          · exact (hasB h2').1 z
      · rcases mF hb with ⟨k', hk', q'⟩ | ⟨h1', h2', h3'⟩
        · rcases (upC hk').1 with z | z
          · exact nB h2 h3 z
          · exact (hasB h2).1 z
        · exact hX j l hjl a h2 h2'
end
end NK

set_option Elab.async false
set_option linter.all false
set_option maxRecDepth 100000
set_option maxHeartbeats 4000000
namespace NK
open PySem PySem.Spec PyProof.Rows L2

/-! ### what a part of a def does, as a function of its slots -/
structure Exn where
  nm : Str
  pay : Option (Str × D) := none
inductive Out (α : Type) where
  | val (a : α) (e : Env) | exc (x : Exn) (e : Env)
abbrev M (α : Type) := Env → Option (Out α)
def bindM {α β : Type} (m : M α) (k : α → M β) : M β := fun e => match m e with
  | some (.val a e') => k a e'
  | some (.exc x e') => some (.exc x e')
  | none => none
def pureM {α : Type} (a : α) : M α := fun e => some (.val a e)
def failM {α : Type} : M α := fun _ => none
def liftM {α : Type} : Option α → M α
  | some a => pureM a
  | none => failM
def ExnOk (K : PySem.W.Frag) (mg : Str → Option Value) (Hs H : Hp) (x : Exn) (cls : Value) (dd : Option Addr) : Prop :=
  ∃ C, mg x.nm = some (.ref C) ∧ cls = .ref C ∧ match x.pay with
    | none => dd = none
    | some (f, d) => ∃ p v, dd = some p ∧ Hs p = some (.xd [(f, v)]) ∧ Rep K mg Hs v d

def Wp (K : PySem.W.Frag) (mg : Str → Option Value) (W : WX) (c : Ct) (σ : L2.St) (Hs : Hp) {α : Type} (o : Option (Out α)) (P : α → Env → Hp → Hp → Prop) : Prop := match o with
  | some (.val a e) => ∀ Hs' H', Sta K mg c Hs' H' σ e → Same Hs Hs' → P a e Hs' H'
  | some (.exc x e) => ∀ Hs' H' cls dd, Sta K mg c Hs' H' σ e → Same Hs Hs' → ExnOk K mg Hs' H' x cls dd → W cls dd σ H'
  | none => False
/-- .. where a new owned thing comes of it -/
def WpN (K : PySem.W.Frag) (mg : Str → Option Value) (W : WX) (c : Ct) (σ : L2.St) (Hs : Hp) (o : Option (Out D)) (Q : VK) : Prop := match o with
  | some (.val d e) => ∀ Hs' H' v, Sta K mg c Hs' H' (σ ++ [some v]) (e ++ [.ow d]) → Same Hs Hs' → Q v H'
  | some (.exc x e) => ∀ Hs' H' cls dd, Sta K mg c Hs' H' σ e → Same Hs Hs' → ExnOk K mg Hs' H' x cls dd → W cls dd σ H'
  | none => False
/-- an expression whose value is shared; a new thing; a test; arguments -/
def vE (K : PySem.W.Frag) (mg : Str → Option Value) (W : WX) (f : M D) : TE := fun σ H Q => ∃ c Hs env, Sta K mg c Hs H σ env ∧ Wp K mg W c σ Hs (f env) fun d _ Hs' H' => ∀ v, Rep K mg Hs' v d → Q v H'
def vN (K : PySem.W.Frag) (mg : Str → Option Value) (W : WX) (f : M D) : TE := fun σ H Q => ∃ c Hs env, Sta K mg c Hs H σ env ∧ WpN K mg W c σ Hs (f env) Q
def vT (K : PySem.W.Frag) (mg : Str → Option Value) (W : WX) (f : M Bool) : TT := fun σ H Q => ∃ c Hs env, Sta K mg c Hs H σ env ∧ Wp K mg W c σ Hs (f env) fun b _ _ H' => Q b H'
def vA (K : PySem.W.Frag) (mg : Str → Option Value) (W : WX) (f : M (List Arg)) : TA := fun σ H Q => ∃ c Hs env, Sta K mg c Hs H σ env ∧ Wp K mg W c σ Hs (f env) fun as _ Hs' H' => ∀ vs, ArgsOk K mg Hs' σ vs as → Q vs H'

/-- a statement's ends -/
inductive SO where
  | nx (e : Env) | rt (d : D) (e : Env) | rn (d : D) (e : Env) | bk (e : Env) | ct (e : Env) | exc (x : Exn) (e : Env)
abbrev S := Env → Option SO
def WpS (K : PySem.W.Frag) (mg : Str → Option Value) (W : WX) (c : Ct) (o : Option SO) (E : Ends) : Prop := match o with
  | some (.nx e) => ∀ Hs' H' σ', Sta K mg c Hs' H' σ' e → E.nx σ' H'
  | some (.rt d e) => ∀ Hs' H' σ' v, Sta K mg c Hs' H' σ' e → Rep K mg Hs' v d → E.rt v H'
  | some (.rn d e) => ∀ Hs' H' σ' v, Sta K mg c Hs' H' (σ' ++ [some v]) (e ++ [.ow d]) → E.rt v H'
  | some (.bk e) => ∀ Hs' H' σ', Sta K mg c Hs' H' σ' e → E.bk σ' H'
  | some (.ct e) => ∀ Hs' H' σ', Sta K mg c Hs' H' σ' e → E.ct σ' H'
  | some (.exc x e) => ∀ Hs' H' σ' cls dd, Sta K mg c Hs' H' σ' e → ExnOk K mg Hs' H' x cls dd → W cls dd σ' H'
  | none => False
def vS (K : PySem.W.Frag) (mg : Str → Option Value) (W : WX) (m : S) : TS := fun E σ H => ∃ c Hs env, Sta K mg c Hs H σ env ∧ WpS K mg W c (m env) E

section
variable {K : PySem.W.Frag} {mg : Str → Option Value} {W : WX} {c : Ct} {σ : L2.St} {Hs Hs1 H : Hp} {env : Env} {α β : Type} {P : α → Env → Hp → Hp → Prop} {Q : VK}
theorem Wp.mono {o : Option (Out α)} (e : Same Hs Hs1) (h : Wp K mg W c σ Hs o P) : Wp K mg W c σ Hs1 o P := by
  cases o with
  | none => exact h
  | some r =>
    cases r with
    | val a e' => exact fun Hs' H' s q => h Hs' H' s (e.trans q)
    | exc x e' => exact fun Hs' H' cls dd s q => h Hs' H' cls dd s (e.trans q)
theorem WpN.mono {o : Option (Out D)} (e : Same Hs Hs1) (h : WpN K mg W c σ Hs o Q) : WpN K mg W c σ Hs1 o Q := by
  cases o with
  | none => exact h
  | some r =>
    cases r with
    | val a e' => exact fun Hs' H' v s q => h Hs' H' v s (e.trans q)
    | exc x e' => exact fun Hs' H' cls dd s q => h Hs' H' cls dd s (e.trans q)
/-- one part, then another -/
theorem Wp.bind {m : M α} {k : α → M β} {R : β → Env → Hp → Hp → Prop} (h : Wp K mg W c σ Hs (bindM m k env) R) :
    Wp K mg W c σ Hs (m env) fun a e Hs' H' => Sta K mg c Hs' H' σ e ∧ Wp K mg W c σ Hs' (k a e) R := by
  unfold bindM at h
  cases e : m env with
  | none => rw [e] at h; exact h
  | some r =>
    rw [e] at h
    cases r with
    | val a e' => exact fun Hs' H' s q => ⟨s, Wp.mono q h⟩
    | exc x e' => exact h
theorem WpN.bind {m : M α} {k : α → M D} (h : WpN K mg W c σ Hs (bindM m k env) Q) :
    Wp K mg W c σ Hs (m env) fun a e Hs' H' => Sta K mg c Hs' H' σ e ∧ WpN K mg W c σ Hs' (k a e) Q := by
  unfold bindM at h
  cases e : m env with
  | none => rw [e] at h; exact h
  | some r =>
    rw [e] at h
    cases r with
    | val a e' => exact fun Hs' H' s q => ⟨s, WpN.mono q h⟩
    | exc x e' => exact h
theorem Wp.weak {o : Option (Out α)} {P' : α → Env → Hp → Hp → Prop} (h : Wp K mg W c σ Hs o P) (k : ∀ a e Hs' H', Sta K mg c Hs' H' σ e → Same Hs Hs' → P a e Hs' H' → P' a e Hs' H') : Wp K mg W c σ Hs o P' := by
  cases o with
  | none => exact h
  | some r =>
    cases r with
    | val a e' => exact fun Hs' H' s q => k a e' Hs' H' s q (h Hs' H' s q)
    | exc x e' => exact h
theorem vE_of {f : M D} {H : Hp} (S : Sta K mg c Hs H σ env) (h : Wp K mg W c σ Hs (f env) fun d _ Hs' H' => ∀ v, Rep K mg Hs' v d → Q v H') : vE K mg W f σ H Q := ⟨c, Hs, env, S, h⟩
/-- a new thing as a shared value -/
theorem vN_of_vE {f : M D} {H : Hp} (h : vE K mg W f σ H Q) : vN K mg W f σ H Q := by
  obtain ⟨c, Hs, env, S, h⟩ := h
  refine ⟨c, Hs, env, S, ?_⟩
  cases e : f env with
  | none => rw [e] at h; exact h
  | some r =>
    rw [e] at h
    cases r with
    | val d e' =>
      intro Hs' H' v s q
      obtain ⟨Hs2, q2, r, s2⟩ := s.settle
      exact h Hs2 H' s2 (q.trans q2) v r
    | exc x e' => exact h
end

section
variable {X : Cx} {e a b : Expr} {pos : Pos} {W : WX}
theorem _root_.L2.PE.mono {t t' : TE} (h : PE X e t) (k : ∀ σ H Q, t' σ H Q → t σ H Q) : PE X e t' := ⟨fun pins s σ H Q I q => h.run pins s σ H Q I (k σ H Q q)⟩
theorem _root_.L2.PT.mono {t t' : TT} (h : PT X e t) (k : ∀ σ H Q, t' σ H Q → t σ H Q) : PT X e t' := ⟨fun pins s σ H Q I q => h.run pins s σ H Q I (k σ H Q q)⟩
theorem _root_.L2.PA.mono {es : List Expr} {t t' : TA} (h : PA X es t) (k : ∀ σ H Q, t' σ H Q → t σ H Q) : PA X es t' := ⟨fun pos pins s σ H Q I q => h.run pos pins s σ H Q I (k σ H Q q)⟩
theorem _root_.L2.PS.mono {st : Stmt} {t t' : TS} (h : PS X st t) (k : ∀ D σ H, t' D σ H → t D σ H) : PS X st t' := ⟨fun pins s σ H D I q => h.run pins s σ H D I (k D σ H q)⟩
theorem _root_.L2.PSs.mono {st : List Stmt} {t t' : TS} (h : PSs X st t) (k : ∀ D σ H, t' D σ H → t D σ H) : PSs X st t' := ⟨fun pins s σ H D I q => h.run pins s σ H D I (k D σ H q)⟩

/-- a judgement whose reading is made of a plain function -/
abbrev E' (X : Cx) (W : WX) (e : Expr) (f : M D) : Prop := PE X e (vE X.K X.mg W f)
abbrev N' (X : Cx) (W : WX) (e : Expr) (f : M D) : Prop := PE X e (vN X.K X.mg W f)
abbrev T' (X : Cx) (W : WX) (e : Expr) (f : M Bool) : Prop := PT X e (vT X.K X.mg W f)
abbrev A' (X : Cx) (W : WX) (es : List Expr) (f : M (List Arg)) : Prop := PA X es (vA X.K X.mg W f)
abbrev S' (X : Cx) (W : WX) (s : Stmt) (m : S) : Prop := PS X s (vS X.K X.mg W m)
abbrev B' (X : Cx) (W : WX) (ss : List Stmt) (m : S) : Prop := PSs X ss (vS X.K X.mg W m)

theorem n_e {f : M D} (h : N' X W e f) : E' X W e f := h.mono fun _ _ _ q => vN_of_vE q

/-! ### names, constants -/
def varM (i : Nat) : M D := fun env => match env[i]? with
  | some (.sh d) => some (.val d env)
  | _ => none
theorem Sta.shared {K : PySem.W.Frag} {mg : Str → Option Value} {c : Ct} {Hs H : Hp} {σ : L2.St} {env : Env} {i : Nat} {d : D} (S : Sta K mg c Hs H σ env) (h : env[i]? = some (.sh d)) : ∃ v, σ[i]? = some (some v) ∧ Rep K mg Hs v d := by
  obtain ⟨A, hA, _⟩ := S.cells
  exact (hA i _ h).2
theorem e_var {i : Nat} (h : PE X e (tVar i)) : E' X W e (varM i) := h.mono fun σ H Q q => by
  obtain ⟨c, Hs, env, S, q⟩ := q
  unfold varM at q
  split at q
  · rename_i d hd
    obtain ⟨v, h1, h2⟩ := S.shared hd
    exact ⟨v, h1, q Hs H S (Same.refl _) v h2⟩
  · exact q.elim
def conM (d : D) : M D := fun env => some (.val d env)
theorem e_con {v : V} {d : D} (h : PE X e (tC v)) (r : ∀ Hs : Hp, Rep X.K X.mg Hs v d) : E' X W e (conM d) := h.mono fun σ H Q q => by
  obtain ⟨c, Hs, env, S, q⟩ := q
  exact q Hs H S (Same.refl _) v (r Hs)
theorem e_int {i j} : E' X W (.Constant (.int i) j pos) (conM (.int i)) := e_con pe_int fun _ => .int i
theorem e_bl {b j} : E' X W (.Constant (.bool b) j pos) (conM (.bl b)) := e_con pe_bl fun _ => .bl b
theorem e_non {j} : E' X W (.Constant .none j pos) (conM .non) := e_con pe_non fun _ => .non
theorem e_str {x j} : E' X W (.Constant (.str x) j pos) (conM (.str x)) := e_con pe_str fun _ => .str x

/-! ### operators by values -/
def Op2 (K : PySem.W.Frag) (mg : Str → Option Value) (r : R2) (g : D → D → Option D) : Prop :=
  ∀ (c : Ct) (Hs H : Hp) (σ : L2.St) (env : Env) (x y : V) (d1 d2 d : D) (Q : VK), Sta K mg c Hs H σ env → Rep K mg Hs x d1 → Rep K mg Hs y d2 → g d1 d2 = some d →
    (∀ Hs' H' v, Sta K mg c Hs' H' σ env → Same Hs Hs' → Rep K mg Hs' v d → Q v H') → r x y H Q
def op2M (g : D → D → Option D) (fa fb : M D) : M D := bindM fa fun x => bindM fb fun y => liftM (g x y)
theorem Wp.lift {K : PySem.W.Frag} {mg : Str → Option Value} {c : Ct} {σ : L2.St} {Hs : Hp} {env : Env} {α : Type} {o : Option α} {P : α → Env → Hp → Hp → Prop} (h : Wp K mg W c σ Hs (liftM o env) P) :
    ∃ a, o = some a ∧ ∀ Hs' H', Sta K mg c Hs' H' σ env → Same Hs Hs' → P a env Hs' H' := by
  cases o with
  | none => exact h.elim
  | some a => exact ⟨a, rfl, h⟩
theorem tOp_of {K : PySem.W.Frag} {mg : Str → Option Value} {r : R2} {g : D → D → Option D} {fa fb : M D} (o : Op2 K mg r g) {σ : L2.St} {H : Hp} {Q : VK} (q : vE K mg W (op2M g fa fb) σ H Q) : tOp r (vE K mg W fa) (vE K mg W fb) σ H Q := by
  obtain ⟨c, Hs, env, S, q⟩ := q
  refine ⟨c, Hs, env, S, (Wp.bind q).weak fun d1 e1 Hs1 H1 S1 z1 w1 v1 r1 => ?_⟩
  refine ⟨c, Hs1, e1, w1.1, (Wp.bind w1.2).weak fun d2 e2 Hs2 H2 S2 z2 w2 v2 r2 => ?_⟩
  obtain ⟨d, hd, k⟩ := w2.2.lift
  exact o c Hs2 H2 σ e2 v1 v2 d1 d2 d Q w2.1 (r1.mono z2) r2 hd fun Hs' H' v s z r => k Hs' H' s z v r
theorem e_op {op : Operator} {r : R2} {g : D → D → Option D} {fa fb : M D} (ho : OpR X (binaryOp op) r) (o : Op2 X.K X.mg r g) (ha : E' X W a fa) (hb : E' X W b fb) : E' X W (.BinOp a op b pos) (op2M g fa fb) :=
  (pe_op ho ha hb).mono fun _ _ _ q => tOp_of o q
theorem e_cmp {op : CmpOp} {r : R2} {g : D → D → Option D} {fa fb : M D} (ho : OpR X (compareOp op) r) (o : Op2 X.K X.mg r g) (ha : E' X W a fa) (hb : E' X W b fb) (hm : behindInMarks op b = false) : E' X W (.Compare a [op] [b] pos) (op2M g fa fb) :=
  (pe_cmpR ho ha hb hm).mono fun _ _ _ q => tOp_of o q
def boolM (f : M D) : M Bool := bindM f fun d => match d with
  | .bl b => pureM b
  | _ => failM
theorem vT_test {K : PySem.W.Frag} {mg : Str → Option Value} {f : M D} {σ : L2.St} {H : Hp} {Q : Bool → Hp → Prop} (q : vT K mg W (boolM f) σ H Q) : vE K mg W f σ H fun x H' => ∃ k, x = .bl k ∧ Q k H' := by
  obtain ⟨c, Hs, env, S, q⟩ := q
  refine ⟨c, Hs, env, S, (Wp.bind q).weak fun d1 e1 Hs1 H1 S1 z1 w1 v1 r1 => ?_⟩
  obtain ⟨s1, w⟩ := w1
  cases r1 with
  | bl b => exact ⟨b, rfl, w Hs1 H1 s1 (Same.refl _)⟩
  | _ => exact w.elim
theorem t_cmp {op : CmpOp} {r : R2} {g : D → D → Option D} {fa fb : M D} (ho : OpR X (compareOp op) r) (o : Op2 X.K X.mg r g) (ha : E' X W a fa) (hb : E' X W b fb) (hm : behindInMarks op b = false) : T' X W (.Compare a [op] [b] pos) (boolM (op2M g fa fb)) :=
  (pt_cmpR ho ha hb hm).mono fun σ H Q q => tOp_of (Q := fun x H' => ∃ k, x = .bl k ∧ Q k H') o (vT_test q)
theorem t_val {f : M D} (h : E' X W e f) (he : ∀ whole, isTrue e X.env whole = (do let v ← whole; standAt e.pos; holding [v] (truthy v)) := by intro _; rfl) : T' X W e (boolM f) :=
  (pt_val h he).mono fun σ H Q q => vT_test q
def chainM (g g' : D → D → Option D) (fa fb fc : M D) : M D := bindM fa fun x => bindM fb fun y => match g x y with
  | some (.bl true) => bindM fc fun z => liftM (g' y z)
  | some (.bl false) => pureM (.bl false)
  | _ => failM
theorem tChain_of {K : PySem.W.Frag} {mg : Str → Option Value} {r r' : R2} {g g' : D → D → Option D} {fa fb fc : M D} (o : Op2 K mg r g) (o' : Op2 K mg r' g') {σ : L2.St} {H : Hp} {Q : VK} (q : vE K mg W (chainM g g' fa fb fc) σ H Q) :
    tChain r r' (vE K mg W fa) (vE K mg W fb) (vE K mg W fc) σ H Q := by
  obtain ⟨c, Hs, env, S, q⟩ := q
  refine ⟨c, Hs, env, S, (Wp.bind q).weak fun d1 e1 Hs1 H1 S1 z1 w1 v1 r1 => ?_⟩
  refine ⟨c, Hs1, e1, w1.1, (Wp.bind w1.2).weak fun d2 e2 Hs2 H2 S2 z2 w2 v2 r2 => ?_⟩
  obtain ⟨s2, w⟩ := w2
  cases hg : g d1 d2 with
  | none => rw [hg] at w; exact w.elim
  | some d =>
    rw [hg] at w
    cases d with
    | bl k =>
      refine o c Hs2 H2 σ e2 v1 v2 d1 d2 (.bl k) _ s2 (r1.mono z2) r2 hg fun Hs3 H3 v s3 z3 r3 => ?_
      cases r3
      refine ⟨k, rfl, ?_⟩
      cases k with
      | true =>
        rw [if_pos rfl]
        refine ⟨c, Hs3, e2, s3, (Wp.mono z3 (Wp.bind w)).weak fun d4 e4 Hs4 H4 S4 z4 w4 v4 r4 => ?_⟩
        obtain ⟨d, hd, k⟩ := w4.2.lift
        exact o' c Hs4 H4 σ e4 v2 v4 d2 d4 d Q w4.1 ((r2.mono z3).mono z4) r4 hd fun Hs' H' v s z r => k Hs' H' s z v r
      | false =>
        rw [if_neg Bool.false_ne_true]
        exact w Hs3 H3 s3 z3 (.bl false) (.bl false)
    | _ => exact w.elim
theorem e_chain {op op' : CmpOp} {r r' : R2} {g g' : D → D → Option D} {fa fb fc : M D} {c : Expr} (ho : OpR X (compareOp op) r) (o : Op2 X.K X.mg r g) (ho' : OpR X (compareOp op') r') (o' : Op2 X.K X.mg r' g') (ha : E' X W a fa) (hb : E' X W b fb) (hc : E' X W c fc)
    (hm : lastMarks [op, op'] [b, c] = false := by with_unfolding_all rfl) : E' X W (.Compare a [op, op'] [b, c] pos) (chainM g g' fa fb fc) :=
  (pe_chain ho ho' ha hb hc hm).mono fun _ _ _ q => tChain_of o o' q
theorem t_chain {op op' : CmpOp} {r r' : R2} {g g' : D → D → Option D} {fa fb fc : M D} {c : Expr} (ho : OpR X (compareOp op) r) (o : Op2 X.K X.mg r g) (ho' : OpR X (compareOp op') r') (o' : Op2 X.K X.mg r' g') (ha : E' X W a fa) (hb : E' X W b fb) (hc : E' X W c fc)
    (hm : lastMarks [op, op'] [b, c] = false := by with_unfolding_all rfl) : T' X W (.Compare a [op, op'] [b, c] pos) (boolM (chainM g g' fa fb fc)) :=
  (pt_chain ho ho' ha hb hc hm).mono fun σ H Q q => tChain_of (Q := fun x H' => ∃ k, x = .bl k ∧ Q k H') o o' (vT_test q)

/-! ### and, or, not, a if t else b -/
def andM (fa fb : M D) : M D := bindM fa fun x => match x with
  | .bl true => fb
  | .bl false => pureM (.bl false)
  | _ => failM
def orM (fa fb : M D) : M D := bindM fa fun x => match x with
  | .bl true => pureM (.bl true)
  | .bl false => fb
  | _ => failM
def notM (fa : M D) : M D := bindM fa fun x => match x with
  | .bl b => pureM (.bl (!b))
  | _ => failM
theorem e_one {op} {f : M D} (h : E' X W a f) : E' X W (.BoolOp op [a] pos) f := pe_one h
theorem e_and {rest : List Expr} {fa fb : M D} (ha : E' X W a fa) (hb : E' X W (.BoolOp .And (b :: rest) pos) fb) : E' X W (.BoolOp .And (a :: b :: rest) pos) (andM fa fb) :=
  (pe_and ha hb).mono fun σ H Q q => by
    obtain ⟨c, Hs, env, S, q⟩ := q
    refine ⟨c, Hs, env, S, (Wp.bind q).weak fun d1 e1 Hs1 H1 S1 z1 w1 v1 r1 => ?_⟩
    obtain ⟨s1, w⟩ := w1
    cases r1 with
    | bl k =>
      refine ⟨k, rfl, ?_⟩
      cases k with
      | true => rw [if_pos rfl]; exact ⟨c, Hs1, e1, s1, w⟩
      | false => rw [if_neg Bool.false_ne_true]; exact w Hs1 H1 s1 (Same.refl _) _ (.bl false)
    | _ => exact w.elim
theorem e_or {rest : List Expr} {fa fb : M D} (ha : E' X W a fa) (hb : E' X W (.BoolOp .Or (b :: rest) pos) fb) : E' X W (.BoolOp .Or (a :: b :: rest) pos) (orM fa fb) :=
  (pe_or ha hb).mono fun σ H Q q => by
    obtain ⟨c, Hs, env, S, q⟩ := q
    refine ⟨c, Hs, env, S, (Wp.bind q).weak fun d1 e1 Hs1 H1 S1 z1 w1 v1 r1 => ?_⟩
    obtain ⟨s1, w⟩ := w1
    cases r1 with
    | bl k =>
      refine ⟨k, rfl, ?_⟩
      cases k with
      | true => rw [if_pos rfl]; exact w Hs1 H1 s1 (Same.refl _) _ (.bl true)
      | false => rw [if_neg Bool.false_ne_true]; exact ⟨c, Hs1, e1, s1, w⟩
    | _ => exact w.elim
theorem e_not {fa : M D} (ha : E' X W a fa) : E' X W (.UnaryOp .Not a pos) (notM fa) :=
  (pe_not ha).mono fun σ H Q q => by
    obtain ⟨c, Hs, env, S, q⟩ := q
    refine ⟨c, Hs, env, S, (Wp.bind q).weak fun d1 e1 Hs1 H1 S1 z1 w1 v1 r1 => ?_⟩
    obtain ⟨s1, w⟩ := w1
    cases r1 with
    | bl k => exact ⟨k, rfl, w Hs1 H1 s1 (Same.refl _) _ (.bl (!k))⟩
    | _ => exact w.elim
def andB (fa fb : M Bool) : M Bool := bindM fa fun x => match x with
  | true => fb
  | false => pureM false
def orB (fa fb : M Bool) : M Bool := bindM fa fun x => match x with
  | true => pureM true
  | false => fb
def notB (fa : M Bool) : M Bool := bindM fa fun x => pureM (!x)
theorem w_and1 {f : M Bool} (ha : T' X W a f) : PW X (.BoolOp .And [a] pos) (vT X.K X.mg W f) := pw_and1 ha
theorem w_or1 {f : M Bool} (ha : T' X W a f) : PW X (.BoolOp .Or [a] pos) (vT X.K X.mg W f) := pw_or1 ha
theorem _root_.L2.PW.mono {t t' : TT} (h : PW X e t) (k : ∀ σ H Q, t' σ H Q → t σ H Q) : PW X e t' := ⟨fun whole pins s σ H Q I q => h.run whole pins s σ H Q I (k σ H Q q)⟩
theorem w_and {rest : List Expr} {fa fb : M Bool} (ha : T' X W a fa) (hb : PW X (.BoolOp .And (b :: rest) pos) (vT X.K X.mg W fb)) : PW X (.BoolOp .And (a :: b :: rest) pos) (vT X.K X.mg W (andB fa fb)) :=
  (pw_and ha hb).mono fun σ H Q q => by
    obtain ⟨c, Hs, env, S, q⟩ := q
    refine ⟨c, Hs, env, S, (Wp.bind q).weak fun d1 e1 Hs1 H1 S1 z1 w1 => ?_⟩
    obtain ⟨s1, w⟩ := w1
    cases d1 with
    | true => rw [if_pos rfl]; exact ⟨c, Hs1, e1, s1, w⟩
    | false => rw [if_neg Bool.false_ne_true]; exact w Hs1 H1 s1 (Same.refl _)
theorem w_or {rest : List Expr} {fa fb : M Bool} (ha : T' X W a fa) (hb : PW X (.BoolOp .Or (b :: rest) pos) (vT X.K X.mg W fb)) : PW X (.BoolOp .Or (a :: b :: rest) pos) (vT X.K X.mg W (orB fa fb)) :=
  (pw_or ha hb).mono fun σ H Q q => by
    obtain ⟨c, Hs, env, S, q⟩ := q
    refine ⟨c, Hs, env, S, (Wp.bind q).weak fun d1 e1 Hs1 H1 S1 z1 w1 => ?_⟩
    obtain ⟨s1, w⟩ := w1
    cases d1 with
    | true => rw [if_pos rfl]; exact w Hs1 H1 s1 (Same.refl _)
    | false => rw [if_neg Bool.false_ne_true]; exact ⟨c, Hs1, e1, s1, w⟩
theorem t_not {f : M Bool} (ha : T' X W a f) : T' X W (.UnaryOp .Not a pos) (notB f) :=
  (pt_not ha).mono fun σ H Q q => by
    obtain ⟨c, Hs, env, S, q⟩ := q
    refine ⟨c, Hs, env, S, (Wp.bind q).weak fun d1 e1 Hs1 H1 S1 z1 w1 => ?_⟩
    exact w1.2 Hs1 H1 w1.1 (Same.refl _)
def iteM {α : Type} (t : M Bool) (fa fb : M α) : M α := bindM t fun x => match x with
  | true => fa
  | false => fb
theorem e_if {cnd : Expr} {t : M Bool} {fa fb : M D} (hc : T' X W cnd t) (ha : E' X W a fa) (hb : E' X W b fb) : E' X W (.IfExp cnd a b pos) (iteM t fa fb) :=
  (pe_ifExp hc ha hb).mono fun σ H Q q => by
    obtain ⟨c, Hs, env, S, q⟩ := q
    refine ⟨c, Hs, env, S, (Wp.bind q).weak fun d1 e1 Hs1 H1 S1 z1 w1 => ?_⟩
    obtain ⟨s1, w⟩ := w1
    cases d1 with
    | true => rw [if_pos rfl]; exact ⟨c, Hs1, e1, s1, w⟩
    | false => rw [if_neg Bool.false_ne_true]; exact ⟨c, Hs1, e1, s1, w⟩

/-! ### arguments -/
def nilM : M (List Arg) := pureM []
def consM (f : M D) (r : M (List Arg)) : M (List Arg) := bindM f fun d => bindM r fun as => pureM (.val d :: as)
def ownM (i : Nat) (r : M (List Arg)) : M (List Arg) := bindM r fun as => pureM (.own i :: as)
def borM (i : Nat) (r : M (List Arg)) : M (List Arg) := bindM r fun as => pureM (.bor i :: as)
theorem a_nil : A' X W [] nilM := pa_nil.mono fun σ H Q q => by
  obtain ⟨c, Hs, env, S, q⟩ := q
  exact q Hs H S (Same.refl _) [] .nil
theorem a_cons {es : List Expr} {f : M D} {r : M (List Arg)} (ha : E' X W e f) (hr : A' X W es r) (hs : starEach (e :: es) X.env = (false, eval e X.env) :: starEach es X.env := by rfl) : A' X W (e :: es) (consM f r) :=
  (pa_cons ha hr hs).mono fun σ H Q q => by
    obtain ⟨c, Hs, env, S, q⟩ := q
    refine ⟨c, Hs, env, S, (Wp.bind q).weak fun d1 e1 Hs1 H1 S1 z1 w1 v1 r1 => ?_⟩
    refine ⟨c, Hs1, e1, w1.1, (Wp.bind w1.2).weak fun as e2 Hs2 H2 S2 z2 w2 vs r2 => ?_⟩
    exact w2.2 Hs2 H2 w2.1 (Same.refl _) (v1 :: vs) (.cons (Rep.mono z2 r1) r2)
theorem Sta.view_slot {K : PySem.W.Frag} {mg : Str → Option Value} {c : Ct} {Hs H : Hp} {σ : L2.St} {env : Env} {i : Nat} (S : Sta K mg c Hs H σ env) (h : ∃ cl d, env[i]? = some cl ∧ Cell.view cl = some d) : ∃ v, σ[i]? = some (some v) := by
  obtain ⟨cl, d, h1, h2⟩ := h
  obtain ⟨v, A, h3, _⟩ := S.viewed h1 h2
  exact ⟨v, h3⟩
/-- the slot holds a thing of its own (or a lent one) -/
def hasV (i : Nat) (env : Env) : Bool := match env[i]? with
  | some cl => cl.view.isSome
  | none => false
theorem hasV_of {i : Nat} {env : Env} (h : hasV i env = true) : ∃ cl d, env[i]? = some cl ∧ Cell.view cl = some d := by
  unfold hasV at h
  split at h
  · rename_i cl hc
    cases e : cl.view with
    | none => rw [e] at h; cases h
    | some d => exact ⟨cl, d, hc, e⟩
  · cases h
def ownA (i : Nat) (r : M (List Arg)) : M (List Arg) := fun env => if hasV i env = true then ownM i r env else none
def borA (i : Nat) (r : M (List Arg)) : M (List Arg) := fun env => if hasV i env = true then borM i r env else none
theorem a_own {es : List Expr} {i : Nat} {r : M (List Arg)} (ha : PE X e (tVar i)) (hr : A' X W es r) (hs : starEach (e :: es) X.env = (false, eval e X.env) :: starEach es X.env := by rfl) : A' X W (e :: es) (ownA i r) :=
  (pa_cons ha hr hs).mono fun σ H Q q => by
    obtain ⟨c, Hs, env, S, q⟩ := q
    unfold ownA at q
    split at q
    · rename_i hv
      obtain ⟨v, h1⟩ := S.view_slot (hasV_of hv)
      refine ⟨v, h1, c, Hs, env, S, (Wp.bind q).weak fun as e2 Hs2 H2 S2 z2 w2 vs r2 => ?_⟩
      exact w2.2 Hs2 H2 w2.1 (Same.refl _) (v :: vs) (.cons h1 r2)
    · exact q.elim
theorem a_bor {es : List Expr} {i : Nat} {r : M (List Arg)} (ha : PE X e (tVar i)) (hr : A' X W es r) (hs : starEach (e :: es) X.env = (false, eval e X.env) :: starEach es X.env := by rfl) : A' X W (e :: es) (borA i r) :=
  (pa_cons ha hr hs).mono fun σ H Q q => by
    obtain ⟨c, Hs, env, S, q⟩ := q
    unfold borA at q
    split at q
    · rename_i hv
      obtain ⟨v, h1⟩ := S.view_slot (hasV_of hv)
      refine ⟨v, h1, c, Hs, env, S, (Wp.bind q).weak fun as e2 Hs2 H2 S2 z2 w2 vs r2 => ?_⟩
      exact w2.2 Hs2 H2 w2.1 (Same.refl _) (v :: vs) (.cons h1 r2)
    · exact q.elim
end
end NK

set_option Elab.async false
set_option linter.all false
set_option maxRecDepth 100000
set_option maxHeartbeats 4000000
namespace NK
open PySem PySem.Spec PyProof.Rows L2

section
variable {K : PySem.W.Frag} {mg : Str → Option Value}
/-! ### whole numbers -/
def addD : D → D → Option D
  | .int i, .int j => some (.int (i + j))
  | _, _ => none
def subD : D → D → Option D
  | .int i, .int j => some (.int (i - j))
  | _, _ => none
def mulD : D → D → Option D
  | .int i, .int j => if (-(2 ^ 64) < i ∧ i < 2 ^ 64) ∨ (-(2 ^ 64) < j ∧ j < 2 ^ 64) then some (.int (i * j)) else none
  | _, _ => none
def divD : D → D → Option D
  | .int i, .int j => if 0 < j ∧ j < 1073741824 then some (.int (i / j)) else none
  | _, _ => none
def modD : D → D → Option D
  | .int i, .int j => if 0 < j then some (.int (i % j)) else none
  | _, _ => none
def powD : D → D → Option D
  | .int i, .int j => if 0 ≤ j ∧ j ≤ 1000000 ∧ i.natAbs < 2 ^ 64 then some (.int (i ^ j.toNat)) else none
  | _, _ => none
def ltD : D → D → Option D
  | .int i, .int j => some (.bl (decide (i < j)))
  | _, _ => none
def leD : D → D → Option D
  | .int i, .int j => some (.bl (decide (i ≤ j)))
  | _, _ => none
def gtD : D → D → Option D
  | .int i, .int j => some (.bl (decide (j < i)))
  | _, _ => none
def geD : D → D → Option D
  | .int i, .int j => some (.bl (decide (j ≤ i)))
  | _, _ => none
theorem o_add : Op2 K mg (rI0 fun i j => .int (i + j)) addD := fun c Hs H σ env x y d1 d2 d Q S r1 r2 h q => by
  unfold addD at h; split at h
  · cases r1; cases r2; cases h; exact ⟨_, _, rfl, rfl, q Hs H _ S (Same.refl _) (.int _)⟩
  · cases h
theorem o_sub : Op2 K mg (rI0 fun i j => .int (i - j)) subD := fun c Hs H σ env x y d1 d2 d Q S r1 r2 h q => by
  unfold subD at h; split at h
  · cases r1; cases r2; cases h; exact ⟨_, _, rfl, rfl, q Hs H _ S (Same.refl _) (.int _)⟩
  · cases h
theorem o_mul : Op2 K mg (rI CMul fun i j => .int (i * j)) mulD := fun c Hs H σ env x y d1 d2 d Q S r1 r2 h q => by
  unfold mulD at h; split at h
  · split at h
    · rename_i hc; cases r1; cases r2; cases h; exact ⟨_, _, rfl, rfl, hc, q Hs H _ S (Same.refl _) (.int _)⟩
    · cases h
  · cases h
theorem o_div : Op2 K mg (rI CDiv fun i j => .int (i / j)) divD := fun c Hs H σ env x y d1 d2 d Q S r1 r2 h q => by
  unfold divD at h; split at h
  · split at h
    · rename_i hc; cases r1; cases r2; cases h; exact ⟨_, _, rfl, rfl, hc, q Hs H _ S (Same.refl _) (.int _)⟩
    · cases h
  · cases h
theorem o_mod : Op2 K mg (rI (fun _ j => 0 < j) fun i j => .int (i % j)) modD := fun c Hs H σ env x y d1 d2 d Q S r1 r2 h q => by
  unfold modD at h; split at h
  · split at h
    · rename_i hc; cases r1; cases r2; cases h; exact ⟨_, _, rfl, rfl, hc, q Hs H _ S (Same.refl _) (.int _)⟩
    · cases h
  · cases h
theorem o_pow : Op2 K mg (rI CPow fun i j => .int (i ^ j.toNat)) powD := fun c Hs H σ env x y d1 d2 d Q S r1 r2 h q => by
  unfold powD at h; split at h
  · split at h
    · rename_i hc; cases r1; cases r2; cases h; exact ⟨_, _, rfl, rfl, hc, q Hs H _ S (Same.refl _) (.int _)⟩
    · cases h
  · cases h
theorem o_lt : Op2 K mg (rI0 fun i j => .bl (decide (i < j))) ltD := fun c Hs H σ env x y d1 d2 d Q S r1 r2 h q => by
  unfold ltD at h; split at h
  · cases r1; cases r2; cases h; exact ⟨_, _, rfl, rfl, q Hs H _ S (Same.refl _) (.bl _)⟩
  · cases h
theorem o_le : Op2 K mg (rI0 fun i j => .bl (decide (i ≤ j))) leD := fun c Hs H σ env x y d1 d2 d Q S r1 r2 h q => by
  unfold leD at h; split at h
  · cases r1; cases r2; cases h; exact ⟨_, _, rfl, rfl, q Hs H _ S (Same.refl _) (.bl _)⟩
  · cases h
theorem o_gt : Op2 K mg (rI0 fun i j => .bl (decide (j < i))) gtD := fun c Hs H σ env x y d1 d2 d Q S r1 r2 h q => by
  unfold gtD at h; split at h
  · cases r1; cases r2; cases h; exact ⟨_, _, rfl, rfl, q Hs H _ S (Same.refl _) (.bl _)⟩
  · cases h
theorem o_ge : Op2 K mg (rI0 fun i j => .bl (decide (j ≤ i))) geD := fun c Hs H σ env x y d1 d2 d Q S r1 r2 h q => by
  unfold geD at h; split at h
  · cases r1; cases r2; cases h; exact ⟨_, _, rfl, rfl, q Hs H _ S (Same.refl _) (.bl _)⟩
  · cases h
/-! ### == of scalars, is None -/
def eqB : D → D → Option Bool
  | .int i, .int j => some (decide (i = j))
  | .bl i, .bl j => some (decide (i = j))
  | .str i, .str j => some (decide (i = j))
  | .non, .non => some true
  | .non, .int _ => some false
  | .int _, .non => some false
  | .non, .bl _ => some false
  | .bl _, .non => some false
  | .non, .str _ => some false
  | .str _, .non => some false
  | .int _, .str _ => some false
  | .str _, .int _ => some false
  | .bl _, .str _ => some false
  | .str _, .bl _ => some false
  | _, _ => none
def eqS (x y : D) : Option D := (eqB x y).map .bl
def neS (x y : D) : Option D := (eqB x y).map fun b => .bl (!b)
theorem eqB_of {Hs : Hp} {x y : V} {d1 d2 : D} {b : Bool} (r1 : Rep K mg Hs x d1) (r2 : Rep K mg Hs y d2) (h : eqB d1 d2 = some b) : scal x y = true ∧ decide (x = y) = b := by
  cases d1 <;> cases d2 <;> simp [eqB] at h <;> cases r1 <;> cases r2 <;> subst h <;> simp [scal]
theorem o_eqS : Op2 K mg rEq eqS := fun c Hs H σ env x y d1 d2 d Q S r1 r2 h q => by
  unfold eqS at h
  cases e : eqB d1 d2 with
  | none => rw [e] at h; cases h
  | some b =>
    rw [e] at h; cases h
    obtain ⟨h1, h2⟩ := eqB_of r1 r2 e
    exact ⟨h1, by rw [h2]; exact q Hs H _ S (Same.refl _) (.bl b)⟩
theorem o_neS : Op2 K mg rNe neS := fun c Hs H σ env x y d1 d2 d Q S r1 r2 h q => by
  unfold neS at h
  cases e : eqB d1 d2 with
  | none => rw [e] at h; cases h
  | some b =>
    rw [e] at h; cases h
    obtain ⟨h1, h2⟩ := eqB_of r1 r2 e
    exact ⟨h1, by rw [h2]; exact q Hs H _ S (Same.refl _) (.bl (!b))⟩
def isNonB : D → Bool
  | .non => true
  | _ => false
def isD (x y : D) : Option D := match y with
  | .non => some (.bl (isNonB x))
  | _ => none
def isnD (x y : D) : Option D := match y with
  | .non => some (.bl (!isNonB x))
  | _ => none
theorem isNon_of {Hs : Hp} {x : V} {d : D} (r : Rep K mg Hs x d) : decide (x = .non) = isNonB d := by
  cases r <;> simp [isNonB]
theorem o_is : Op2 K mg (fun x y H Q => y = .non ∧ Q (.bl (decide (x = .non))) H) isD := fun c Hs H σ env x y d1 d2 d Q S r1 r2 h q => by
  unfold isD at h; split at h
  · cases r2; cases h; exact ⟨rfl, by rw [isNon_of r1]; exact q Hs H _ S (Same.refl _) (.bl _)⟩
  · cases h
theorem o_isn : Op2 K mg (fun x y H Q => y = .non ∧ Q (.bl (!decide (x = .non))) H) isnD := fun c Hs H σ env x y d1 d2 d Q S r1 r2 h q => by
  unfold isnD at h; split at h
  · cases r2; cases h; exact ⟨rfl, by rw [isNon_of r1]; exact q Hs H _ S (Same.refl _) (.bl _)⟩
  · cases h
/-! ### == of data -/
mutual
def toP : D → PyData
  | .non => .none
  | .bl b => .bool b
  | .int i => .int i
  | .str s => .str s
  | .lst xs => .list (toPs xs)
  | .fl xs => .list (toPs xs)
  | .tup xs => .tuple (toPs xs)
  | .dk _ => .dict []
  | .ob _ _ => .dict []
  | .ty _ => .dict []
  | .cl _ => .dict []
  | .ex _ _ => .dict []
  | .mu _ => .dict []
  | .ml _ => .dict []
def toPs : List D → List PyData
  | [] => []
  | d :: ds => toP d :: toPs ds
end
mutual
theorem Rep.dp {Hs H : Hp} (e : Same Hs H) : ∀ {v : V} {d : D}, Rep K mg Hs v d → (toP d).canLay0 = true → Dp K H v (toP d)
  | _, _, .non, _ => .non
  | _, _, .bl b, _ => .bl b
  | _, _, .int i, _ => .int i
  | _, _, .str s, _ => .str s
  | _, _, .lst h r, z => .lst (SqL.of (e _ _ h)) (RepL.dp e r z)
  | _, _, .fl h r, z => .lst (e.seq h) (RepL.dp e r z)
  | _, _, .tup h r, z => .tup (Same.seqT e h) (RepL.dp e r z)
  | _, _, .dk h r, z => nomatch z
  | _, _, .ob _ _ h r, z => nomatch z
  | _, _, .ty _, z => nomatch z
  | _, _, .cl _, z => nomatch z
  | _, _, .ex _ _, z => nomatch z
  | _, _, .exP _ _ _ _ _, z => nomatch z
  | _, _, .mu _, z => nomatch z
  | _, _, .ml _ _, z => nomatch z
theorem RepL.dp {Hs H : Hp} (e : Same Hs H) : ∀ {vs : List V} {ds : List D}, RepL K mg Hs vs ds → PyData.canLayAll0 (toPs ds) = true → DpAll K H vs (toPs ds)
  | _, _, .nil, _ => .nil
  | _, _, .cons r t, z => by
    simp only [toPs, PyData.canLayAll0, Bool.and_eq_true] at z
    exact .cons (Rep.dp e r z.1) (RepL.dp e t z.2)
end
def eqDB (x y : D) : Option Bool := if SeqAt.shaped (toP x) = true ∧ SeqAt.shaped (toP y) = true then some (PyData.eqv (toP x) (toP y)) else none
def eqD (x y : D) : Option D := (eqDB x y).map .bl
def neD (x y : D) : Option D := (eqDB x y).map fun b => .bl (!b)
theorem o_eqD : Op2 K mg (rEqD K) eqD := fun c Hs H σ env x y d1 d2 d Q S r1 r2 h q => by
  unfold eqD eqDB at h; split at h
  · rename_i hc
    cases h
    exact ⟨_, _, r1.dp S.s1 (SeqAt.canLay_of_shaped hc.1), r2.dp S.s1 (SeqAt.canLay_of_shaped hc.2), hc.1, hc.2, q Hs H _ S (Same.refl _) (.bl _)⟩
  · cases h
theorem o_neD : Op2 K mg (rNeD K) neD := fun c Hs H σ env x y d1 d2 d Q S r1 r2 h q => by
  unfold neD eqDB at h; split at h
  · rename_i hc
    cases h
    exact ⟨_, _, r1.dp S.s1 (SeqAt.canLay_of_shaped hc.1), r2.dp S.s1 (SeqAt.canLay_of_shaped hc.2), hc.1, hc.2, q Hs H _ S (Same.refl _) (.bl _)⟩
  · cases h
/-! ### sequences -/
def seqOf : D → Option (List D)
  | .lst xs => some xs
  | .fl xs => some xs
  | .tup xs => some xs
  | _ => none
theorem seq_of {Hs H : Hp} {v : V} {d : D} {ds : List D} (e : Same Hs H) (r : Rep K mg Hs v d) (h : seqOf d = some ds) : ∃ a xs, v = .ref a ∧ (SqL K H a xs ∨ SqT K H a xs) ∧ RepL K mg Hs xs ds := by
  cases r <;> simp [seqOf] at h <;> subst h
  · rename_i a xs h r; exact ⟨_, _, rfl, .inl (SqL.of (e _ _ h)), r⟩
  · rename_i a xs h r; exact ⟨_, _, rfl, .inr (Same.seqT e h), r⟩
  · rename_i a xs h r; exact ⟨_, _, rfl, .inl (e.seq h), r⟩
def listOf : D → Option (List D)
  | .lst xs => some xs
  | .fl xs => some xs
  | _ => none
def tupOf : D → Option (List D)
  | .tup xs => some xs
  | _ => none
theorem list_of {Hs H : Hp} {v : V} {d : D} {ds : List D} (e : Same Hs H) (r : Rep K mg Hs v d) (h : listOf d = some ds) : ∃ a xs, v = .ref a ∧ SqL K H a xs ∧ RepL K mg Hs xs ds := by
  cases r <;> simp [listOf] at h <;> subst h
  · rename_i a xs h r; exact ⟨_, _, rfl, SqL.of (e _ _ h), r⟩
  · rename_i a xs h r; exact ⟨_, _, rfl, e.seq h, r⟩
theorem tup_of {Hs H : Hp} {v : V} {d : D} {ds : List D} (e : Same Hs H) (r : Rep K mg Hs v d) (h : tupOf d = some ds) : ∃ a xs, v = .ref a ∧ SqT K H a xs ∧ RepL K mg Hs xs ds := by
  cases r <;> simp [tupOf] at h <;> subst h
  · rename_i a xs h r; exact ⟨_, _, rfl, Same.seqT e h, r⟩
theorem atI_rep {Hs : Hp} {xs : List V} {ds : List D} {i : Int} {d : D} (r : RepL K mg Hs xs ds) (h : atI ds i = some d) : ∃ v, atI xs i = some v ∧ Rep K mg Hs v d := by
  unfold atI at h ⊢
  rw [r.len]
  cases e : ixN ds.length i with
  | none => rw [e] at h; cases h
  | some j => rw [e] at h; exact r.get h
def ixD : D → D → Option D
  | .lst xs, .int i => atI xs i
  | .fl xs, .int i => atI xs i
  | .tup xs, .int i => atI xs i
  | _, _ => none
theorem o_ix : Op2 K mg (rIx K) ixD := fun c Hs H σ env x y d1 d2 d Q S r1 r2 h q => by
  cases d2 with
  | int i =>
    cases r2
    cases d1 with
    | lst ds =>
      obtain ⟨a, xs, rfl, hl, r⟩ := list_of S.s1 r1 (ds := ds) rfl
      obtain ⟨v, hv, rv⟩ := atI_rep r h
      exact .inl ⟨a, xs, i, v, rfl, rfl, hl, hv, q Hs H v S (Same.refl _) rv⟩
    | fl ds =>
      obtain ⟨a, xs, rfl, hl, r⟩ := list_of S.s1 r1 (ds := ds) rfl
      obtain ⟨v, hv, rv⟩ := atI_rep r h
      exact .inl ⟨a, xs, i, v, rfl, rfl, hl, hv, q Hs H v S (Same.refl _) rv⟩
    | tup ds =>
      obtain ⟨a, xs, rfl, hl, r⟩ := tup_of S.s1 r1 (ds := ds) rfl
      obtain ⟨v, hv, rv⟩ := atI_rep r h
      exact .inr (.inl ⟨a, xs, i, v, rfl, rfl, hl, hv, q Hs H v S (Same.refl _) rv⟩)
    | _ => cases h
  | _ => cases d1 <;> simp [ixD] at h
/-- flat items -/
def flatD : D → Bool
  | .non => true
  | .bl _ => true
  | .int _ => true
  | .str _ => true
  | _ => false
def eqF : D → D → Bool
  | .non, .non => true
  | .bl a, .bl b => a == b
  | .bl a, .int b => (if a then 1 else 0) == b
  | .int a, .bl b => a == (if b then 1 else 0)
  | .int a, .int b => a == b
  | .str a, .str b => a == b
  | _, _ => false
def inF (x : D) (xs : List D) : Bool := xs.any fun y => eqF y x
theorem flat_of {Hs : Hp} {v : V} {d : D} (r : Rep K mg Hs v d) (h : flatD d = true) : flatV v = true := by
  cases r <;> first | rfl | exact Bool.noConfusion h
theorem flats_of {Hs : Hp} : ∀ {vs : List V} {ds : List D}, RepL K mg Hs vs ds → ds.all flatD = true → vs.all flatV = true
  | _, _, .nil, _ => rfl
  | _, _, .cons r t, h => by
    rw [List.all_cons, Bool.and_eq_true] at h ⊢
    exact ⟨flat_of r h.1, flats_of t h.2⟩
theorem eqF_of {Hs : Hp} {v w : V} {d e : D} (r : Rep K mg Hs v d) (q : Rep K mg Hs w e) : flatD d = true → flatD e = true → eqV v w = eqF d e := by
  intro h1 h2
  cases r <;> first | exact Bool.noConfusion h1 | (cases q <;> first | exact Bool.noConfusion h2 | rfl)
theorem inF_of {Hs : Hp} {v : V} {d : D} (r : Rep K mg Hs v d) (h : flatD d = true) : ∀ {vs : List V} {ds : List D}, RepL K mg Hs vs ds → ds.all flatD = true → inV v vs = inF d ds
  | _, _, .nil, _ => rfl
  | _, _, .cons q t, h' => by
    rw [List.all_cons, Bool.and_eq_true] at h'
    have ih := inF_of r h t h'.2
    unfold inV inF at ih ⊢
    rw [List.any_cons, List.any_cons, ih, eqF_of q r h'.1 h]
def inD (neg : Bool) (x y : D) : Option D := match seqOf y with
  | some ds => if flatD x = true ∧ ds.all flatD = true then some (.bl (if neg then !inF x ds else inF x ds)) else none
  | none => none
theorem o_in {neg : Bool} : Op2 K mg (rIn K neg) (inD neg) := fun c Hs H σ env x y d1 d2 d Q S r1 r2 h q => by
  unfold inD at h
  cases e : seqOf d2 with
  | none => rw [e] at h; cases h
  | some ds =>
    rw [e] at h
    have h' : (if flatD d1 = true ∧ ds.all flatD = true then some (D.bl (if neg then !inF d1 ds else inF d1 ds)) else none) = some d := h
    split at h'
    · rename_i hc
      cases h'
      obtain ⟨a, xs, rfl, hl, r⟩ := seq_of S.s1 r2 e
      exact ⟨a, xs, rfl, hl, flat_of r1 hc.1, flats_of r hc.2, by rw [inF_of r1 hc.1 r hc.2]; exact q Hs H _ S (Same.refl _) (.bl _)⟩
    · cases h'
def catT : D → D → Option D
  | .tup xs, .tup ys => if xs.length + ys.length ≤ 1000000 then some (.tup (xs ++ ys)) else none
  | _, _ => none
theorem small_of {n : Nat} (h : n ≤ 1000000) : n ≤ sizeLine := by rw [sizeLine_eq]; omega
theorem small_lt {n : Nat} (h : n < 1000000) : n < sizeLine := by rw [sizeLine_eq]; omega
theorem o_catT : Op2 K mg (rCatA K) catT := fun c Hs H σ env x y d1 d2 d Q S r1 r2 h q => by
  unfold catT at h
  split at h
  · rename_i ds es
    split at h
    · rename_i hc
      cases h
      obtain ⟨a, xs, rfl, hl, r⟩ := tup_of S.s1 r1 (ds := ds) rfl
      obtain ⟨b, ys, rfl, hl', r'⟩ := tup_of S.s1 r2 (ds := es) rfl
      refine ⟨a, b, xs, ys, rfl, rfl, hl, hl', by rw [r.len, r'.len]; exact small_of hc, fun e => ?_, fun _ e => ?_, fun _ _ p hp => ?_⟩
      · subst e
        cases r
        exact q Hs H _ S (Same.refl _) r2
      · subst e
        cases r'
        rw [List.append_nil] at q
        exact q Hs H _ S (Same.refl _) r1
      · exact q _ _ _ (S.put hp) (same_new (S.freshS hp)) (.tup (SqT.of upd_same) ((r.app r').mono (same_new (S.freshS hp))))
    · cases h
  · cases h
end
end NK

set_option Elab.async false
set_option linter.all false
set_option maxRecDepth 100000
set_option maxHeartbeats 4000000
namespace NK
open PySem PySem.Spec PyProof.Rows L2

/-! ### displays, built-ins -/
def valsOf : List Arg → Option (List D)
  | [] => some []
  | .val d :: r => (valsOf r).map (d :: ·)
  | _ :: _ => none
theorem ArgsOk.vals {K : PySem.W.Frag} {mg : Str → Option Value} {Hs : Hp} {σ : L2.St} : ∀ {vs : List V} {as : List Arg} {ds : List D}, ArgsOk K mg Hs σ vs as → valsOf as = some ds → RepL K mg Hs vs ds
  | _, _, ds, .nil, h => by cases h; exact .nil
  | _, .val d :: as, ds, .cons r t, h => by
    simp only [valsOf] at h
    cases e : valsOf as with
    | none => rw [e] at h; cases h
    | some es => rw [e] at h; cases h; exact .cons r (ArgsOk.vals t e)
  | _, .own i :: as, ds, .cons r t, h => by cases h
  | _, .bor i :: as, ds, .cons r t, h => by cases h
def lisM (h : M (List Arg)) : M (List D) := bindM h fun as => liftM (valsOf as)
def capL (ds : List D) : Option (List D) := if ds.length ≤ 1000000 then some ds else none
def tupM (h : M (List Arg)) : M D := bindM (lisM h) fun ds => liftM ((capL ds).map .tup)
def lstM (h : M (List Arg)) : M D := bindM (lisM h) fun ds => liftM ((capL ds).map .lst)
section
variable {K : PySem.W.Frag} {mg : Str → Option Value} {W : WX}
theorem vA_lis {h : M (List Arg)} {k : List D → M D} {σ : L2.St} {H : Hp} {Q : VK} {P : List V → Hp → Prop}
    (q : ∃ c Hs env, Sta K mg c Hs H σ env ∧ Wp K mg W c σ Hs (bindM (lisM h) k env) fun d _ Hs' H' => ∀ v, Rep K mg Hs' v d → Q v H')
    (kk : ∀ c Hs H1 env vs ds, Sta K mg c Hs H1 σ env → RepL K mg Hs vs ds → Wp K mg W c σ Hs (k ds env) (fun d _ Hs' H' => ∀ v, Rep K mg Hs' v d → Q v H') → P vs H1) : vA K mg W h σ H P := by
  obtain ⟨c, Hs, env, S, q⟩ := q
  have q1 := Wp.bind q
  refine ⟨c, Hs, env, S, (Wp.bind q1).weak fun as e1 Hs1 H1 S1 z1 w1 vs r1 => ?_⟩
  obtain ⟨ds, hd, k2⟩ := w1.2.lift
  obtain ⟨s2, w2⟩ := k2 Hs1 H1 w1.1 (Same.refl _)
  exact kk c Hs1 H1 e1 vs ds s2 (r1.vals hd) w2
theorem vA_lisN {h : M (List Arg)} {k : List D → M D} {σ : L2.St} {H : Hp} {Q : VK} {P : List V → Hp → Prop}
    (q : ∃ c Hs env, Sta K mg c Hs H σ env ∧ WpN K mg W c σ Hs (bindM (lisM h) k env) Q)
    (kk : ∀ c Hs H1 env vs ds, Sta K mg c Hs H1 σ env → RepL K mg Hs vs ds → WpN K mg W c σ Hs (k ds env) Q → P vs H1) : vA K mg W h σ H P := by
  obtain ⟨c, Hs, env, S, q⟩ := q
  have q1 := WpN.bind q
  refine ⟨c, Hs, env, S, (Wp.bind q1).weak fun as e1 Hs1 H1 S1 z1 w1 vs r1 => ?_⟩
  obtain ⟨ds, hd, k2⟩ := w1.2.lift
  obtain ⟨s2, w2⟩ := k2 Hs1 H1 w1.1 (Same.refl _)
  exact kk c Hs1 H1 e1 vs ds s2 (r1.vals hd) w2
theorem capL_of {ds es : List D} (h : capL ds = some es) : ds = es ∧ ds.length ≤ 1000000 := by
  unfold capL at h; split at h
  · cases h; exact ⟨rfl, by assumption⟩
  · cases h
theorem WpN.lift {c : Ct} {σ : L2.St} {Hs : Hp} {env : Env} {o : Option D} {Q : VK} (h : WpN K mg W c σ Hs (liftM o env) Q) :
    ∃ a, o = some a ∧ ∀ Hs' H' v, Sta K mg c Hs' H' (σ ++ [some v]) (env ++ [.ow a]) → Same Hs Hs' → Q v H' := by
  cases o with
  | none => exact h.elim
  | some a => exact ⟨a, rfl, h⟩
end
section
variable {X : Cx} {e a b : Expr} {es : List Expr} {pos : Pos} {W : WX}
theorem e_tup {x1} {h : M (List Arg)} (ha : A' X W es h) : E' X W (.Tuple es x1 pos) (tupM h) := (pe_tup ha).mono fun σ H Q q =>
  vA_lis q fun c Hs H1 env vs ds S r w => by
    obtain ⟨d, hd, k⟩ := w.lift
    cases e : capL ds with
    | none => rw [e] at hd; cases hd
    | some es =>
      rw [e] at hd; cases hd
      obtain ⟨rfl, hn⟩ := capL_of e
      refine ⟨by rw [r.len]; exact small_of hn, fun p hp => ?_⟩
      exact k _ _ (S.put hp) (same_new (S.freshS hp)) _ (.tup (SqT.of upd_same) (r.mono (same_new (S.freshS hp))))
theorem n_lst {h : M (List Arg)} (ha : A' X W es h) : N' X W (.List es pos) (lstM h) := (pe_lst ha).mono fun σ H Q q =>
  vA_lisN q fun c Hs H1 env vs ds S r w => by
    obtain ⟨d, hd, k⟩ := w.lift
    cases e : capL ds with
    | none => rw [e] at hd; cases hd
    | some es =>
      rw [e] at hd; cases hd
      obtain ⟨rfl, hn⟩ := capL_of e
      refine ⟨by rw [r.len]; exact small_of hn, fun p hp => ?_⟩
      exact k _ _ _ (S.push hp r) (Same.refl _)
/-- a built-in by values: what it gives is shared | a new list -/
def OpN (K : PySem.W.Frag) (mg : Str → Option Value) (r : List V → Hp → VK → Prop) (g : List D → Option D) : Prop :=
  ∀ (c : Ct) (Hs H : Hp) (σ : L2.St) (env : Env) (vs : List V) (ds : List D) (d : D) (Q : VK), Sta K mg c Hs H σ env → RepL K mg Hs vs ds → g ds = some d →
    (∀ Hs' H' v, Sta K mg c Hs' H' σ env → Same Hs Hs' → Rep K mg Hs' v d → Q v H') → r vs H Q
def OpW (K : PySem.W.Frag) (mg : Str → Option Value) (r : List V → Hp → VK → Prop) (g : List D → Option D) : Prop :=
  ∀ (c : Ct) (Hs H : Hp) (σ : L2.St) (env : Env) (vs : List V) (ds : List D) (d : D) (Q : VK), Sta K mg c Hs H σ env → RepL K mg Hs vs ds → g ds = some d →
    (∀ Hs' H' v, Sta K mg c Hs' H' (σ ++ [some v]) (env ++ [.ow d]) → Same Hs Hs' → Q v H') → r vs H Q
def cbM (g : List D → Option D) (h : M (List Arg)) : M D := bindM (lisM h) fun ds => liftM (g ds)
theorem tCB_of {K : PySem.W.Frag} {mg : Str → Option Value} {r : List V → Hp → VK → Prop} {g : List D → Option D} {h : M (List Arg)} (o : OpN K mg r g) {σ : L2.St} {H : Hp} {Q : VK} (q : vE K mg W (cbM g h) σ H Q) : tCB r (vA K mg W h) σ H Q :=
  vA_lis q fun c Hs H1 env vs ds S r w => by
    obtain ⟨d, hd, k⟩ := w.lift
    exact o c Hs H1 σ env vs ds d Q S r hd fun Hs' H' v s z r => k Hs' H' s z v r
theorem tCBW_of {K : PySem.W.Frag} {mg : Str → Option Value} {r : List V → Hp → VK → Prop} {g : List D → Option D} {h : M (List Arg)} (o : OpW K mg r g) {σ : L2.St} {H : Hp} {Q : VK} (q : vN K mg W (cbM g h) σ H Q) : tCB r (vA K mg W h) σ H Q :=
  vA_lisN q fun c Hs H1 env vs ds S r w => by
    obtain ⟨d, hd, k⟩ := w.lift
    exact o c Hs H1 σ env vs ds d Q S r hd fun Hs' H' v s z => k Hs' H' v s z
variable {x : Str} {p : Pos} {id : String} {r : List V → Hp → VK → Prop} {g : List D → Option D} {h : M (List Arg)}
theorem e_cb (hc : CallR X (.builtin id) r) (o : OpN X.K X.mg r g) (hm : X.mg x = none) (hv : bootBuiltins x = some (.builtin id)) (ha : A' X W (e :: es) h) (hg : Gl X x := by rfl) (hn : x ≠ "__name__" := by decide) (hdb : (x == ("__debug__" : Str)) = false := by decide)
    (he : starEach (e :: es) X.env = (false, eval e X.env) :: starEach es X.env := by rfl) (hpl : (backTo pos (starEach es X.env)).any (·.1) = false := by rfl) : E' X W (.Call (.Name x p) (e :: es) [] pos) (cbM g h) :=
  (pe_callB hc hg hm hv ha hn hdb he hpl).mono fun _ _ _ q => tCB_of o q
theorem n_cb (hc : CallR X (.builtin id) r) (o : OpW X.K X.mg r g) (hm : X.mg x = none) (hv : bootBuiltins x = some (.builtin id)) (ha : A' X W (e :: es) h) (hg : Gl X x := by rfl) (hn : x ≠ "__name__" := by decide) (hdb : (x == ("__debug__" : Str)) = false := by decide)
    (he : starEach (e :: es) X.env = (false, eval e X.env) :: starEach es X.env := by rfl) (hpl : (backTo pos (starEach es X.env)).any (·.1) = false := by rfl) : N' X W (.Call (.Name x p) (e :: es) [] pos) (cbM g h) :=
  (pe_callB hc hg hm hv ha hn hdb he hpl).mono fun _ _ _ q => tCBW_of o q
theorem e_ct (hc : CallR X (.type id) r) (o : OpN X.K X.mg r g) (hm : X.mg x = none) (hv : bootBuiltins x = some (.type id)) (ha : A' X W (e :: es) h) (hg : Gl X x := by rfl) (hn : x ≠ "__name__" := by decide) (hdb : (x == ("__debug__" : Str)) = false := by decide)
    (he : starEach (e :: es) X.env = (false, eval e X.env) :: starEach es X.env := by rfl) (hpl : (backTo pos (starEach es X.env)).any (·.1) = false := by rfl) : E' X W (.Call (.Name x p) (e :: es) [] pos) (cbM g h) :=
  (pe_callTy hc hg hm hv ha hn hdb he hpl).mono fun _ _ _ q => tCB_of o q
theorem n_ct (hc : CallR X (.type id) r) (o : OpW X.K X.mg r g) (hm : X.mg x = none) (hv : bootBuiltins x = some (.type id)) (ha : A' X W (e :: es) h) (hg : Gl X x := by rfl) (hn : x ≠ "__name__" := by decide) (hdb : (x == ("__debug__" : Str)) = false := by decide)
    (he : starEach (e :: es) X.env = (false, eval e X.env) :: starEach es X.env := by rfl) (hpl : (backTo pos (starEach es X.env)).any (·.1) = false := by rfl) : N' X W (.Call (.Name x p) (e :: es) [] pos) (cbM g h) :=
  (pe_callTy hc hg hm hv ha hn hdb he hpl).mono fun _ _ _ q => tCBW_of o q
theorem e_ix {fa fb : M D} (ha : E' X W a fa) (hb : E' X W b fb) (hs : PlainIx b := by exact fun _ _ => rfl) : E' X W (.Subscript a b pos) (op2M ixD fa fb) := (pe_ix ix_seq ha hb hs).mono fun _ _ _ q => tOp_of o_ix q
end

/-! ### the built-ins on data -/
section
variable {K : PySem.W.Frag} {mg : Str → Option Value}
theorem RepL.one_inv {Hs : Hp} {vs : List V} {d : D} (r : RepL K mg Hs vs [d]) : ∃ v, vs = [v] ∧ Rep K mg Hs v d := by
  cases r with | cons h t => cases t; exact ⟨_, rfl, h⟩
theorem RepL.two_inv {Hs : Hp} {vs : List V} {d e : D} (r : RepL K mg Hs vs [d, e]) : ∃ v w, vs = [v, w] ∧ Rep K mg Hs v d ∧ Rep K mg Hs w e := by
  cases r with | cons h t => obtain ⟨w, rfl, q⟩ := t.one_inv; exact ⟨_, _, rfl, h, q⟩
def lenD : List D → Option D
  | [.str s] => if s.length ≤ 1000000 then some (.int s.length) else none
  | [d] => (seqOf d).map fun xs => .int (xs.length : Int)
  | _ => none
theorem o_len : OpN K mg (fun xs H Q => ∃ x n, xs = [x] ∧ LenV K x H n ∧ Q (.int n) H) lenD := fun c Hs H σ env vs ds d Q S r h q => by
  unfold lenD at h
  split at h
  · split at h
    · rename_i s hc
      cases h
      obtain ⟨v, rfl, rv⟩ := r.one_inv
      cases rv
      exact ⟨_, s.length, rfl, ⟨small_of hc, rfl⟩, q Hs H _ S (Same.refl _) (.int _)⟩
    · cases h
  · rename_i d0 _
    cases e : seqOf d0 with
    | none => rw [e] at h; cases h
    | some xs =>
      rw [e] at h; cases h
      obtain ⟨v, rfl, rv⟩ := r.one_inv
      obtain ⟨a, ys, rfl, hl, rl⟩ := seq_of S.s1 rv e
      refine ⟨.ref a, ys.length, rfl, ?_, by rw [rl.len]; exact q Hs H _ S (Same.refl _) (.int _)⟩
      rcases hl with hl | hl
      · exact .inl ⟨ys, hl, rfl⟩
      · exact .inr ⟨ys, hl, rfl⟩
  · cases h
def listD : List D → Option D
  | [d] => (seqOf d).map .lst
  | _ => none
theorem o_list : OpW K mg (fun xs H Q => ∃ p ys, xs = [.ref p] ∧ (SqL K H p ys ∨ SqT K H p ys) ∧ ∀ l, H l = none → Q (.ref l) (upd H l (.lst ys))) listD := fun c Hs H σ env vs ds d Q S r h q => by
  unfold listD at h
  split at h
  · rename_i d0
    cases e : seqOf d0 with
    | none => rw [e] at h; cases h
    | some xs =>
      rw [e] at h; cases h
      obtain ⟨v, rfl, rv⟩ := r.one_inv
      obtain ⟨a, ys, rfl, hl, rl⟩ := seq_of S.s1 rv e
      exact ⟨a, ys, rfl, hl, fun l hl => q _ _ _ (S.push hl rl) (Same.refl _)⟩
  · cases h
def tupleD : List D → Option D
  | [d] => (seqOf d).map .tup
  | _ => none
theorem o_tuple : OpN K mg (fun xs H Q => ∃ p ys, xs = [.ref p] ∧ ((SqL K H p ys ∧ ∀ l, H l = none → Q (.ref l) (upd H l (.tup ys))) ∨ (SqT K H p ys ∧ Q (.ref p) H))) tupleD := fun c Hs H σ env vs ds d Q S r h q => by
  unfold tupleD at h
  split at h
  · rename_i d0
    obtain ⟨v, rfl, rv⟩ := r.one_inv
    cases e : listOf d0 with
    | some xs =>
      have e2 : seqOf d0 = some xs := by cases d0 <;> first | exact e | cases e
      rw [e2] at h; cases h
      obtain ⟨a, ys, rfl, hl, rl⟩ := list_of S.s1 rv e
      exact ⟨a, ys, rfl, .inl ⟨hl, fun l hl => q _ _ _ (S.put hl) (same_new (S.freshS hl)) (.tup (SqT.of upd_same) (rl.mono (same_new (S.freshS hl))))⟩⟩
    | none =>
      cases d0 with
      | tup xs =>
        cases h
        obtain ⟨a, ys, rfl, hl, rl⟩ := tup_of S.s1 rv (ds := xs) rfl
        exact ⟨a, ys, rfl, .inr ⟨hl, q Hs H _ S (Same.refl _) rv⟩⟩
      | lst xs => cases e
      | fl xs => cases e
      | _ => cases h
  · cases h
/-- lists of ints, of truths -/
def intsOf : List D → Option (List Int)
  | [] => some []
  | .int i :: r => (intsOf r).map (i :: ·)
  | _ :: _ => none
theorem ints_of {Hs : Hp} : ∀ {vs : List V} {ds : List D} {ns : List Int}, RepL K mg Hs vs ds → intsOf ds = some ns → vs = ns.map V.int
  | _, _, _, .nil, h => by cases h; rfl
  | _, .int i :: ds, ns, .cons r t, h => by
    simp only [intsOf] at h
    cases e : intsOf ds with
    | none => rw [e] at h; cases h
    | some ms =>
      rw [e] at h; cases h
      cases r
      rw [ints_of t e]; rfl
  | _, .non :: ds, ns, .cons r t, h => by cases h
  | _, .bl _ :: ds, ns, .cons r t, h => by cases h
  | _, .str _ :: ds, ns, .cons r t, h => by cases h
  | _, .lst _ :: ds, ns, .cons r t, h => by cases h
  | _, .tup _ :: ds, ns, .cons r t, h => by cases h
  | _, .fl _ :: ds, ns, .cons r t, h => by cases h
  | _, .dk _ :: ds, ns, .cons r t, h => by cases h
  | _, .ob _ _ :: ds, ns, .cons r t, h => by cases h
  | _, .ty _ :: ds, ns, .cons r t, h => by cases h
  | _, .cl _ :: ds, ns, .cons r t, h => by cases h
  | _, .ex _ _ :: ds, ns, .cons r t, h => by cases h
theorem intsOf_map (ns : List Int) : intsOf (ns.map .int) = some ns := by
  induction ns with
  | nil => rfl
  | cons n r ih => simp [intsOf, ih]
def blsOf : List D → Option (List Bool)
  | [] => some []
  | .bl i :: r => (blsOf r).map (i :: ·)
  | _ :: _ => none
theorem bls_of {Hs : Hp} : ∀ {vs : List V} {ds : List D} {ns : List Bool}, RepL K mg Hs vs ds → blsOf ds = some ns → vs = ns.map V.bl
  | _, _, _, .nil, h => by cases h; rfl
  | _, .bl i :: ds, ns, .cons r t, h => by
    simp only [blsOf] at h
    cases e : blsOf ds with
    | none => rw [e] at h; cases h
    | some ms =>
      rw [e] at h; cases h
      cases r
      rw [bls_of t e]; rfl
  | _, .non :: ds, ns, .cons r t, h => by cases h
  | _, .int _ :: ds, ns, .cons r t, h => by cases h
  | _, .str _ :: ds, ns, .cons r t, h => by cases h
  | _, .lst _ :: ds, ns, .cons r t, h => by cases h
  | _, .tup _ :: ds, ns, .cons r t, h => by cases h
  | _, .fl _ :: ds, ns, .cons r t, h => by cases h
  | _, .dk _ :: ds, ns, .cons r t, h => by cases h
  | _, .ob _ _ :: ds, ns, .cons r t, h => by cases h
  | _, .ty _ :: ds, ns, .cons r t, h => by cases h
  | _, .cl _ :: ds, ns, .cons r t, h => by cases h
  | _, .ex _ _ :: ds, ns, .cons r t, h => by cases h
theorem blsOf_map (ns : List Bool) : blsOf (ns.map .bl) = some ns := by
  induction ns with
  | nil => rfl
  | cons n r ih => simp [blsOf, ih]
def allD : List D → Option D
  | [d] => (listOf d).bind fun xs => (blsOf xs).map fun bs => .bl (bs.all id)
  | _ => none
def anyD : List D → Option D
  | [d] => (listOf d).bind fun xs => (blsOf xs).map fun bs => .bl (bs.any id)
  | _ => none
theorem o_all : OpN K mg (rAll K) allD := fun c Hs H σ env vs ds d Q S r h q => by
  unfold allD at h
  split at h
  · rename_i d0
    obtain ⟨v, rfl, rv⟩ := r.one_inv
    cases e : listOf d0 with
    | none => rw [e] at h; cases h
    | some xs =>
      rw [e] at h
      have h' : (blsOf xs).map (fun bs => D.bl (bs.all id)) = some d := h
      cases e2 : blsOf xs with
      | none => rw [e2] at h'; cases h'
      | some bs =>
        rw [e2] at h'; cases h'
        obtain ⟨a, ys, rfl, hl, rl⟩ := list_of S.s1 rv e
        rw [bls_of rl e2] at hl
        exact ⟨a, bs, rfl, hl, q Hs H _ S (Same.refl _) (.bl _)⟩
  · cases h
theorem o_any : OpN K mg (rAny K) anyD := fun c Hs H σ env vs ds d Q S r h q => by
  unfold anyD at h
  split at h
  · rename_i d0
    obtain ⟨v, rfl, rv⟩ := r.one_inv
    cases e : listOf d0 with
    | none => rw [e] at h; cases h
    | some xs =>
      rw [e] at h
      have h' : (blsOf xs).map (fun bs => D.bl (bs.any id)) = some d := h
      cases e2 : blsOf xs with
      | none => rw [e2] at h'; cases h'
      | some bs =>
        rw [e2] at h'; cases h'
        obtain ⟨a, ys, rfl, hl, rl⟩ := list_of S.s1 rv e
        rw [bls_of rl e2] at hl
        exact ⟨a, bs, rfl, hl, q Hs H _ S (Same.refl _) (.bl _)⟩
  · cases h
/-- sum of a list, of a tuple, of ints -/
def rSumA (K : PySem.W.Frag) : List V → Hp → VK → Prop := fun vs H Q => ∃ (a : Addr) (ns : List Int), vs = [V.ref a] ∧ (SqL K H a (ns.map V.int) ∨ SqT K H a (ns.map V.int)) ∧ Q (.int ns.sum) H
def sumD : List D → Option D
  | [d] => (seqOf d).bind fun xs => (intsOf xs).map fun ns => .int ns.sum
  | _ => none
theorem o_sum : OpN K mg (rSumA K) sumD := fun c Hs H σ env vs ds d Q S r h q => by
  unfold sumD at h
  split at h
  · rename_i d0
    obtain ⟨v, rfl, rv⟩ := r.one_inv
    cases e : seqOf d0 with
    | none => rw [e] at h; cases h
    | some xs =>
      rw [e] at h
      have h' : (intsOf xs).map (fun ns => D.int ns.sum) = some d := h
      cases e2 : intsOf xs with
      | none => rw [e2] at h'; cases h'
      | some ns =>
        rw [e2] at h'; cases h'
        obtain ⟨a, ys, rfl, hl, rl⟩ := seq_of S.s1 rv e
        rw [ints_of rl e2] at hl
        exact ⟨a, ns, rfl, hl, q Hs H _ S (Same.refl _) (.int _)⟩
  · cases h
end
end NK
namespace NK
open PySem PySem.Spec PyProof.Rows L2
section
variable {prog : Program} {w : World} {A : Around} {E : Value → Shared → Prop} {s : Shared} {l : Addr} {its : List Value} {ns : List Int} {Q : Value → Shared → Prop}
theorem sum_tup_raw (hh : A.handled = none) (hl : s.heap.IsTuple l its.toArray) (hi : IntsAre its ns)
    (h : ∀ h' tk t', (∀ b o, s.heap.get? b = some o → h'.get? b = some o) → Q (.int ns.sum t') { s with heap := h', toks := tk }) : wpAny (model prog w) A (call (.builtin "sum") [.ref l]) Q E s := by
  obtain ⟨xs, e⟩ := hi.allInts.items
  have hn : numsOf (intItems xs).toList = ns := by rw [← e]; exact hi.numsOf
  rw [nums_intItems] at hn
  rw [e] at hl
  have hlt : l < s.heap.objs.size := by obtain ⟨_, e, _⟩ := hl; exact Heap.lt_size e
  refine PySem.call_sum_walkG (wpAny_pyIter_tuple hl ?_)
  refine ⟨_, [s.heap.objs.size, l], [s.heap.objs.size], _, _, _, numAt xs, rfl, Walks.tuple (A := A.in1) hh _ l (Nat.ne_of_lt hlt) (intItems xs), ⟨⟨_, Heap.get?_push_size _ rfl, rfl, rfl⟩, hl.push _⟩, fun c hc => ?_, fun _ _ => intItems_at, fun h' tk t' hk => ?_⟩
  · show c < (s.heap.push _).objs.size
    rw [Heap.size_push]
    rcases List.mem_cons.mp hc with rfl | hc
    · exact Nat.lt_succ_self _
    · rcases List.mem_cons.mp hc with rfl | hc
      · exact Nat.lt_succ_of_lt hlt
      · cases hc
  · have hold : ∀ b o, s.heap.get? b = some o → h'.get? b = some o := fun b o e => by
      refine hk b o (fun hm => ?_) (Heap.get?_push_of_some _ e)
      rcases List.mem_cons.mp hm with e1 | hm
      · have := Heap.lt_size e; rw [e1] at this; exact Nat.lt_irrefl _ this
      · cases hm
    have := h h' tk t' hold
    have e3 : preSum (numAt xs) (intItems xs).size = ns.sum := by
      rw [show (intItems xs).size = xs.size by simp [intItems], preSum_eq, List.take_of_length_le (by simp), hn]
    rw [e3]; exact this
end
section
variable {X : Cx}
theorem cr_sumA (hc : X.calm = true) : CallR X (.builtin "sum") (rSumA X.K) := by
  intro pins s σ H vs us Q I r h
  obtain ⟨a, ns, rfl, hs, q⟩ := h
  rw [Vals.ref1 r]
  rcases hs with hs | hs
  · obtain ⟨its, rv, hl, _⟩ := I.list hs
    exact sum_raw (I.ok.hd hc) hl.isList rv.ints fun h' tk t' hk => ⟨.int _, H, I.kept hk, ⟨_, rfl⟩, q⟩
  · obtain ⟨its, rv, hl, _⟩ := I.tuple hs
    exact sum_tup_raw (I.ok.hd hc) hl rv.ints fun h' tk t' hk => ⟨.int _, H, I.kept hk, ⟨_, rfl⟩, q⟩
end
end NK

set_option Elab.async false
set_option linter.all false
set_option maxRecDepth 100000
set_option maxHeartbeats 4000000
namespace NK
open PySem PySem.Spec PyProof.Rows L2

/-! ### blocks and small statements -/
def nxS : S := fun e => some (.nx e)
def seqS (m n : S) : S := fun e => match m e with
  | some (.nx e') => n e'
  | r => r
section
variable {K : PySem.W.Frag} {mg : Str → Option Value} {W : WX} {c : Ct} {E E2 : Ends}
theorem WpS.seq {m n : S} {env : Env} (h : WpS K mg W c (seqS m n env) E) : WpS K mg W c (m env) { E with nx := vS K mg W n E } := by
  unfold seqS at h
  cases e : m env with
  | none => rw [e] at h; exact h
  | some r =>
    rw [e] at h
    cases r with
    | nx e' => exact fun Hs' H' σ' s => ⟨c, Hs', e', s, h⟩
    | rt d e' => exact h
    | rn d e' => exact h
    | bk e' => exact h
    | ct e' => exact h
    | exc x e' => exact h
end
section
variable {X : Cx} {st : Stmt} {rest : List Stmt} {e : Expr} {pos : Pos} {W : WX}
theorem b_nil : B' X W [] nxS := pss_nil.mono fun D σ H q => by
  obtain ⟨c, Hs, env, S, q⟩ := q
  exact q Hs H σ S
theorem b_cons {m n : S} (h1 : S' X W st m) (h2 : B' X W rest n) : B' X W (st :: rest) (seqS m n) := (pss_cons h1 h2).mono fun D σ H q => by
  obtain ⟨c, Hs, env, S, q⟩ := q
  exact ⟨c, Hs, env, S, q.seq⟩
theorem b_one {m : S} (h1 : S' X W st m) : B' X W [st] m := pss_one h1
theorem s_pass : S' X W (.Pass pos) nxS := ps_pass.mono fun D σ H q => by
  obtain ⟨c, Hs, env, S, q⟩ := q
  exact q Hs H σ S
theorem s_brk : S' X W (.Break pos) (fun e => some (.bk e)) := ps_break.mono fun D σ H q => by
  obtain ⟨c, Hs, env, S, q⟩ := q
  exact q Hs H σ S
theorem s_ct : S' X W (.Continue pos) (fun e => some (.ct e)) := ps_continue.mono fun D σ H q => by
  obtain ⟨c, Hs, env, S, q⟩ := q
  exact q Hs H σ S
/-- code that is never come to -/
def noS : S := fun _ => none
theorem s_no : S' X W st noS := ps_never.mono fun D σ H q => by
  obtain ⟨c, Hs, env, S, q⟩ := q
  exact q
theorem b_no {sts : List Stmt} : B' X W sts noS := pss_never.mono fun D σ H q => by
  obtain ⟨c, Hs, env, S, q⟩ := q
  exact q
/-- from a value on -/
def withS (f : M D) (k : D → S) : S := fun e => match f e with
  | some (.val d e') => k d e'
  | some (.exc x e') => some (.exc x e')
  | none => none
theorem WpS.withE {K : PySem.W.Frag} {mg : Str → Option Value} {c : Ct} {σ : L2.St} {Hs : Hp} {env : Env} {f : M D} {k : D → S} {D' : Ends} (h : WpS K mg W c (withS f k env) D') :
    Wp K mg W c σ Hs (f env) fun d e' _ _ => WpS K mg W c (k d e') D' := by
  unfold withS at h
  cases e : f env with
  | none => rw [e] at h; exact h
  | some r =>
    rw [e] at h
    cases r with
    | val d e' => exact fun _ _ _ _ => h
    | exc x e' => exact fun Hs' H' cls dd s _ z => h Hs' H' σ cls dd s z
theorem s_expr {f : M D} (he : E' X W e f) (hs : swapsWith e none pos.line X.env = pure false := by rfl) : S' X W (.Expr e pos) (withS f fun _ => nxS) := (ps_expr he hs).mono fun D σ H q => by
  obtain ⟨c, Hs, env, S, q⟩ := q
  refine ⟨c, Hs, env, S, q.withE.weak fun d e1 Hs1 H1 s1 z1 w v r => ?_⟩
  exact w Hs1 H1 σ s1
theorem s_ret {f : M D} (he : E' X W e f) : S' X W (.Return (some e) pos) (withS f fun d e' => some (.rt d e')) := (ps_ret he).mono fun D σ H q => by
  obtain ⟨c, Hs, env, S, q⟩ := q
  refine ⟨c, Hs, env, S, q.withE.weak fun d e1 Hs1 H1 s1 z1 w v r => ?_⟩
  exact w Hs1 H1 σ v s1 r
theorem s_ret0 : S' X W (.Return none pos) (fun e => some (.rt .non e)) := ps_retN.mono fun D σ H q => by
  obtain ⟨c, Hs, env, S, q⟩ := q
  exact q Hs H σ .non S .non
theorem WpS.withN {K : PySem.W.Frag} {mg : Str → Option Value} {c : Ct} {σ : L2.St} {Hs : Hp} {env : Env} {f : M D} {k : D → S} {D' : Ends} {Q : VK} (h : WpS K mg W c (withS f k env) D')
    (kk : ∀ d e' Hs' H' v, WpS K mg W c (k d e') D' → Sta K mg c Hs' H' (σ ++ [some v]) (e' ++ [.ow d]) → Q v H') : WpN K mg W c σ Hs (f env) Q := by
  unfold withS at h
  cases e : f env with
  | none => rw [e] at h; exact h
  | some r =>
    rw [e] at h
    cases r with
    | val d e' => exact fun Hs' H' v s _ => kk d e' Hs' H' v h s
    | exc x e' => exact fun Hs' H' cls dd s _ z => h Hs' H' σ cls dd s z
/-- return of a new thing -/
theorem s_retN {f : M D} (he : N' X W e f) : S' X W (.Return (some e) pos) (withS f fun d e' => some (.rn d e')) := (ps_ret he).mono fun D σ H q => by
  obtain ⟨c, Hs, env, S, q⟩ := q
  exact ⟨c, Hs, env, S, q.withN fun d e' Hs' H' v w s => w Hs' H' σ v s⟩
def iteS (t : M Bool) (m n : S) : S := fun e => match t e with
  | some (.val true e') => m e'
  | some (.val false e') => n e'
  | some (.exc x e') => some (.exc x e')
  | none => none
theorem s_if {t : M Bool} {m n : S} {cnd : Expr} {a b : List Stmt} (hc : T' X W cnd t) (ha : B' X W a m) (hb : B' X W b n) : S' X W (.If cnd a b pos) (iteS t m n) := (ps_if hc ha hb).mono fun D σ H q => by
  obtain ⟨c, Hs, env, S, q⟩ := q
  refine ⟨c, Hs, env, S, ?_⟩
  unfold iteS at q
  cases e : t env with
  | none => rw [e] at q; exact q
  | some r =>
    rw [e] at q
    cases r with
    | val b e' =>
      cases b with
      | true => intro Hs' H' s z; show (if true = true then _ else _); rw [if_pos rfl]; exact ⟨c, Hs', e', s, q⟩
      | false => intro Hs' H' s z; show (if false = true then _ else _); rw [if_neg Bool.false_ne_true]; exact ⟨c, Hs', e', s, q⟩
    | exc x e' => exact fun Hs' H' cls dd s _ z => q Hs' H' σ cls dd s z

/-! ### targets -/
abbrev Tg := D → Env → Option Env
def vG (K : PySem.W.Frag) (mg : Str → Option Value) (t : Tg) (vs : List Nat) : TG := fun v σ H Q => ∃ c Hs env d env', Sta K mg c Hs H σ env ∧ Rep K mg Hs v d ∧ t d env = some env' ∧
  ∀ σ', σ'.length = σ.length → (∀ j, j ∉ vs → σ'[j]? = σ[j]?) → Sta K mg c Hs H σ' env' → Q σ' H
def vGs (K : PySem.W.Frag) (mg : Str → Option Value) (t : List D → Env → Option Env) (vs : List Nat) : TGs := fun xs σ H Q => ∃ c Hs env ds env', Sta K mg c Hs H σ env ∧ RepL K mg Hs xs ds ∧ t ds env = some env' ∧
  ∀ σ', σ'.length = σ.length → (∀ j, j ∉ vs → σ'[j]? = σ[j]?) → Sta K mg c Hs H σ' env' → Q σ' H
abbrev G' (X : Cx) (tg : Expr) (t : Tg) (vs : List Nat) : Prop := PG X tg (vG X.K X.mg t vs)
abbrev Gs' (X : Cx) (tg : List Expr) (t : List D → Env → Option Env) (vs : List Nat) : Prop := PGs X tg (vGs X.K X.mg t vs)
theorem _root_.L2.PG.mono {tg : Expr} {t t' : TG} (h : PG X tg t) (k : ∀ v σ H Q, t' v σ H Q → t v σ H Q) : PG X tg t' := ⟨fun pins s σ H v u Q I r q => h.run pins s σ H v u Q I r (k v σ H Q q)⟩
theorem _root_.L2.PGs.mono {tg : List Expr} {t t' : TGs} (h : PGs X tg t) (k : ∀ v σ H Q, t' v σ H Q → t v σ H Q) : PGs X tg t' := ⟨fun pins s σ H v u Q I r q => h.run pins s σ H v u Q I r (k v σ H Q q)⟩
def setT (i : Nat) : Tg := fun d env => some (env.set i (.sh d))
theorem g_name {i : Nat} {tg : Expr} (h : PG X tg (gName i)) : G' X tg (setT i) [i] := h.mono fun v σ H Q q => by
  obtain ⟨c, Hs, env, d, env', S, r, ht, k⟩ := q
  cases ht
  exact k _ (by rw [List.length_set]) (fun j hj => sget_ne (by simpa [eq_comm] using hj)) (S.set r)
def nilT : List D → Env → Option Env
  | [], e => some e
  | _ :: _, _ => none
def consT (t : Tg) (u : List D → Env → Option Env) : List D → Env → Option Env
  | d :: ds, e => (t d e).bind fun e' => u ds e'
  | [], _ => none
theorem gs_nil : Gs' X [] nilT [] := pgs_nil.mono fun v σ H Q q => by
  obtain ⟨c, Hs, env, ds, env', S, r, ht, k⟩ := q
  cases ds with
  | nil => cases ht; cases r; exact ⟨rfl, k σ rfl (fun _ _ => rfl) S⟩
  | cons d ds => cases ht
theorem gs_cons {es : List Expr} {t : Tg} {u : List D → Env → Option Env} {vs ws : List Nat} (h1 : G' X e t vs) (h2 : Gs' X es u ws)
    (hs : (assignEach (e :: es) X.env).map (·.2) = assign e X.env :: (assignEach es X.env).map (·.2) := by rfl) : Gs' X (e :: es) (consT t u) (vs ++ ws) := (pgs_cons h1 h2 hs).mono fun v σ H Q q => by
  obtain ⟨c, Hs, env, ds, env', S, r, ht, k⟩ := q
  cases r with
  | nil => cases ht
  | @cons v1 d1 vr dr r1 rr =>
    have ht' : (t d1 env).bind (fun e' => u dr e') = some env' := ht
    cases e1 : t d1 env with
    | none => rw [e1] at ht'; cases ht'
    | some env1 =>
      rw [e1] at ht'
      refine ⟨v1, vr, rfl, c, Hs, env, d1, env1, S, r1, e1, fun σ' hl hk S' => ?_⟩
      exact ⟨c, Hs, env1, dr, env', S', rr, ht', fun σ2 hl2 hk2 S2 => k σ2 (hl2.trans hl) (fun j hj => by
        rw [List.mem_append, not_or] at hj
        exact (hk2 j hj.2).trans (hk j hj.1)) S2⟩
def tupT (n : Nat) (u : List D → Env → Option Env) : Tg := fun d e => match d with
  | .tup ds => if ds.length = n then u ds e else none
  | _ => none
theorem g_tup {es : List Expr} {k n : Nat} {u : List D → Env → Option Env} {vs : List Nat} (h : Gs' X es u vs) (hc : X.calm = true := by rfl)
    (hn : (assignEach es X.env).length = n := by rfl) (hst : (assignEach es X.env).findIdx? (·.1) = none := by rfl) : G' X (.Tuple es k pos) (tupT n u) vs := (pg_tup hc h hn hst).mono fun v σ H Q q => by
  obtain ⟨c, Hs, env, d, env', S, r, ht, k⟩ := q
  unfold tupT at ht
  split at ht
  · rename_i ds
    split at ht
    · rename_i hl
      obtain ⟨a, xs, rfl, h1, h2⟩ := tup_of S.s1 r (ds := ds) rfl
      exact ⟨a, xs, rfl, h1, by rw [h2.len]; exact hl, c, Hs, env, ds, env', S, h2, ht, k⟩
    · cases ht
  · cases ht
/-- target = e -/
def asgS (f : M D) (t : Tg) : S := withS f fun d e => (t d e).map .nx
theorem s_asg {tg : Expr} {f : M D} {t : Tg} {vs : List Nat} (he : E' X W e f) (hg : G' X tg t vs) (hs : swapsWithSole [tg] e pos.line X.env = pure false := by rfl) (hw : swappedStores [tg] e X.env = pure none := by rfl)
    (h1 : (assignEach [tg] X.env).map (·.2) = [assign tg X.env] := by rfl) : S' X W (.Assign [tg] e pos) (asgS f t) := (ps_asg he hg hs hw h1).mono fun D σ H q => by
  obtain ⟨c, Hs, env, S, q⟩ := q
  refine ⟨c, Hs, env, S, (WpS.withE q).weak fun d e1 Hs1 H1 s1 z1 w v r => ?_⟩
  cases ht : t d e1 with
  | none => rw [ht] at w; exact w.elim
  | some env' =>
    rw [ht] at w
    exact ⟨c, Hs1, e1, d, env', s1, r, ht, fun σ' _ _ S' => w Hs1 H1 σ' S'⟩
def setS (i : Nat) (f : M D) : S := withS f fun d e => some (.nx (e.set i (.sh d)))
theorem s_set {i : Nat} {f : M D} (hg : PS X st (tAsg (vE X.K X.mg W f) (gName i))) : S' X W st (setS i f) := hg.mono fun D σ H q => by
  obtain ⟨c, Hs, env, S, q⟩ := q
  refine ⟨c, Hs, env, S, (WpS.withE q).weak fun d e1 Hs1 H1 s1 z1 w v r => ?_⟩
  exact w Hs1 H1 _ (s1.set r)
/-- a name gets a new thing of its own -/
def newS (i : Nat) (f : M D) : S := withS f fun d e => if i < e.length then some (.nx (e.set i (.ow d))) else none
theorem s_new {i : Nat} {f : M D} (hg : PS X st (tAsg (vN X.K X.mg W f) (gName i))) : S' X W st (newS i f) := hg.mono fun D σ H q => by
  obtain ⟨c, Hs, env, S, q⟩ := q
  refine ⟨c, Hs, env, S, WpS.withN q fun d e' Hs' H' v w s => ?_⟩
  have hl : e'.length = σ.length := by have := s.len; simp at this; exact this
  split at w
  · rename_i hi
    exact w Hs' H' _ (s.pop hl hi)
  · exact w.elim
/-- x += e for ints -/
theorem s_aug {i : Nat} {f : M D} {op : Operator} {fn : Int → Int → Int} {g : D → D → Option D} (hg : ∀ a b d, g a b = some d → ∃ i j, a = .int i ∧ b = .int j ∧ d = .int (fn i j)) (h : PS X st (tAug i (vE X.K X.mg W f) (ipI fn))) :
    S' X W st (withS (op2M g (varM i) f) fun d e => some (.nx (e.set i (.sh d)))) := h.mono fun D σ H q => by
  obtain ⟨c, Hs, env, S, q⟩ := q
  have q1 := Wp.bind (WpS.withE (σ := σ) (Hs := Hs) q)
  unfold varM at q1
  split at q1
  · rename_i d hd
    obtain ⟨v, h1, h2⟩ := S.shared hd
    obtain ⟨S1, q2⟩ := q1 Hs H S (Same.refl _)
    refine ⟨v, h1, c, Hs, env, S, (Wp.bind q2).weak fun d2 e2 Hs2 H2 s2 z2 w2 v2 r2 => ?_⟩
    obtain ⟨d3, hd3, k3⟩ := w2.2.lift
    obtain ⟨i', j', rfl, rfl, rfl⟩ := hg _ _ _ hd3
    cases h2
    cases r2
    exact ⟨i', j', rfl, rfl, k3 Hs2 H2 w2.1 (Same.refl _) Hs2 H2 _ (w2.1.set (.int _))⟩
  · exact q1.elim

/-! ### owned lists: return, append, o[i] = e, reading -/
def rtOwn (i : Nat) : S := fun e => match e[i]? with
  | some (.ow d) => some (.rt d (e.set i .no))
  | _ => none
def rnOwn (i : Nat) : S := fun e => match e[i]? with
  | some (.ow d) => some (.rn d (e.set i .no))
  | _ => none
theorem s_rtOwn {i : Nat} (h : PE X e (tVar i)) : S' X W (.Return (some e) pos) (rtOwn i) := (ps_ret h).mono fun D σ H q => by
  obtain ⟨c, Hs, env, S, q⟩ := q
  unfold rtOwn at q
  split at q
  · rename_i d hd
    obtain ⟨v, Hs', h1, h2, h3, h4⟩ := S.freeze hd
    have h5 := h4.wipe (i := i) (ov := some v)
    rw [List.set_set] at h5
    exact ⟨v, h1, q Hs' H (σ.set i (some v)) v h5 h3⟩
  · exact q.elim
/-- what a slot owns, beside the slots -/
theorem Sta.lift {K : PySem.W.Frag} {mg : Str → Option Value} {c : Ct} {Hs H : Hp} {σ : L2.St} {env : Env} {i : Nat} {d : D} (S : Sta K mg c Hs H σ env) (h : env[i]? = some (.ow d)) :
    ∃ v, σ[i]? = some (some v) ∧ Sta K mg c Hs H (σ ++ [some v]) (env.set i .no ++ [.ow d]) := by
  obtain ⟨B, hA, hN, hD, hX⟩ := S.cells
  have g : CellOk K mg c Hs H σ i (.ow d) (B i) := hA i _ h
  obtain ⟨v, g1, g2, g3⟩ := g
  have hi : i < env.length := (List.getElem?_eq_some_iff.mp h).1
  refine ⟨v, g1, S.s0, S.s1, S.fr, S.fh, S.hh, S.ro, by simp [S.len], fun j => if j = env.length then B i else if j = i then [] else B j, fun j cl h' => ?_, fun j h' => ?_, fun j => ?_, fun j k hjk a ha => ?_⟩
  · show CellOk K mg c Hs H _ j cl (if j = env.length then B i else if j = i then [] else B j)
    by_cases e : j = env.length
    · subst e
      have e2 : (env.set i .no ++ [Cell.ow d])[env.length]? = some (.ow d) := by
        rw [List.getElem?_append_right (by simp)]; simp
      rw [e2] at h'
      cases h'
      rw [if_pos rfl]
      exact ⟨v, by rw [S.len]; exact sig_last, g2, g3⟩
    · have hj : j < env.length := by
        have := (List.getElem?_eq_some_iff.mp h').1
        simp at this
        omega
      rw [if_neg e]
      rw [List.getElem?_append_left (by simpa using hj)] at h'
      by_cases e2 : j = i
      · subst e2
        rw [List.getElem?_set_self hi] at h'
        cases h'
        rw [if_pos rfl]; rfl
      · rw [eget_ne (Ne.symm e2)] at h'
        rw [if_neg e2]
        exact (hA j cl h').slot (app_lt (by rw [← S.len]; exact hj))
  · show (if j = env.length then B i else if j = i then [] else B j) = []
    rw [List.getElem?_eq_none_iff] at h'
    simp at h'
    rw [if_neg (by omega), if_neg (by omega)]
    exact hN j (List.getElem?_eq_none_iff.mpr (by omega))
  · show (if j = env.length then B i else if j = i then [] else B j).Nodup
    split
    · exact hD i
    · split
      · simp
      · exact hD j
  · have ha' : a ∈ (if j = env.length then B i else if j = i then [] else B j) := ha
    show a ∉ (if k = env.length then B i else if k = i then [] else B k)
    by_cases e : j = env.length
    · rw [if_pos e] at ha'
      rw [if_neg (fun z => hjk (e.trans z.symm))]
      by_cases e2 : k = i
      · rw [if_pos e2]; simp
      · rw [if_neg e2]; exact hX i k (Ne.symm e2) a ha'
    · rw [if_neg e] at ha'
      by_cases e2 : j = i
      · rw [if_pos e2] at ha'; cases ha'
      · rw [if_neg e2] at ha'
        by_cases e3 : k = env.length
        · rw [if_pos e3]; exact hX j i e2 a ha'
        · rw [if_neg e3]
          by_cases e4 : k = i
          · rw [if_pos e4]; simp
          · rw [if_neg e4]; exact hX j k hjk a ha'
theorem s_rnOwn {i : Nat} (h : PE X e (tVar i)) : S' X W (.Return (some e) pos) (rnOwn i) := (ps_ret h).mono fun D σ H q => by
  obtain ⟨c, Hs, env, S, q⟩ := q
  unfold rnOwn at q
  split at q
  · rename_i d hd
    obtain ⟨v, h1, h2⟩ := S.lift hd
    exact ⟨v, h1, q Hs H σ v h2⟩
  · exact q.elim
/-- a slot's own thing becomes shared, from here on -/
def frzE (i : Nat) (e : Env) : Env := match e[i]? with
  | some (.ow d) => e.set i (.sh d)
  | _ => e
theorem Sta.frz {K : PySem.W.Frag} {mg : Str → Option Value} {c : Ct} {Hs H : Hp} {σ : L2.St} {env : Env} {i : Nat} (S : Sta K mg c Hs H σ env) : ∃ Hs', Same Hs Hs' ∧ Sta K mg c Hs' H σ (frzE i env) := by
  unfold frzE
  split
  · rename_i d hd
    obtain ⟨v, Hs', h1, h2, h3, h4⟩ := S.freeze hd
    exact ⟨Hs', h2, h4⟩
  · exact ⟨Hs, Same.refl _, S⟩
/-- .. ahead of a statement -/
theorem s_frz {m : S} (i : Nat) (h : S' X W st m) : S' X W st (fun e => m (frzE i e)) := h.mono fun D σ H q => by
  obtain ⟨c, Hs, env, S, q⟩ := q
  obtain ⟨Hs', _, S'⟩ := S.frz (i := i)
  exact ⟨c, Hs', _, S', q⟩
end
end NK

set_option Elab.async false
set_option linter.all false
set_option maxRecDepth 100000
set_option maxHeartbeats 4000000
namespace NK
open PySem PySem.Spec PyProof.Rows L2

/-! ### owned lists read and changed -/
def viewL (i : Nat) (e : Env) : Option (List D) := match e[i]? with
  | some cl => (match cl.view with | some (.lst xs) => some xs | _ => none)
  | none => none
section
variable {K : PySem.W.Frag} {mg : Str → Option Value} {W : WX} {c : Ct} {σ : L2.St} {Hs H : Hp} {env : Env}
theorem Sta.viewL {i : Nat} {ds : List D} (S : Sta K mg c Hs H σ env) (h : NK.viewL i env = some ds) : ∃ a xs, σ[i]? = some (some (.ref a)) ∧ H a = some (.lst xs) ∧ RepL K mg Hs xs ds := by
  unfold NK.viewL at h
  split at h
  · rename_i cl hc
    split at h
    · rename_i xs hv
      cases h
      obtain ⟨v, A, h1, h2⟩ := S.viewed hc hv
      cases h2 with
      | lst h r => exact ⟨_, _, h1, h, r⟩
    · cases h
  · cases h
/-- the list that a slot owns, with room for another -/
def putL (i : Nat) (xs : List D) (e : Env) : Option Env := match e[i]? with
  | some cl => (match cl.own with | some (.lst _) => some (e.set i (cl.put (.lst xs))) | _ => none)
  | none => none
theorem Sta.putL {i : Nat} {ds : List D} {env' : Env} (S : Sta K mg c Hs H σ env) (h : NK.putL i ds env = some env') :
    ∃ a ys es, NK.viewL i env = some es ∧ σ[i]? = some (some (.ref a)) ∧ H a = some (.lst ys) ∧ RepL K mg Hs ys es ∧ ∀ xs, RepL K mg Hs xs ds → Sta K mg c Hs (upd H a (.lst xs)) σ env' := by
  unfold NK.putL at h
  split at h
  · rename_i cl hc
    split at h
    · rename_i es hv
      cases h
      obtain ⟨v, A, h1, h2, h3, k⟩ := S.owned hc hv
      cases h2 with
      | @lst a ys es h r =>
        have hvw : NK.viewL i env = some es := by
          have h4 : cl.view = some (.lst es) := by
            cases cl <;> first | cases hv | rfl
            all_goals rfl
          simp [NK.viewL, hc, h4]
        refine ⟨a, ys, es, hvw, h1, h, r, fun xs rx => k _ _ [a] (.lst upd_same rx) (fun p o hp e => ?_) (fun p hp => ?_) (fun b hb => .inl hb)⟩
        · rw [upd_ne (by simpa using hp)]; exact e
        · by_cases e : p = a
          · subst e; rw [upd_same]; simp
          · rw [upd_ne e]; exact hp
    · cases h
  · cases h
end
section
variable {X : Cx} {st : Stmt} {e a b : Expr} {es : List Expr} {pos : Pos} {W : WX}
/-- xs[k], xs a slot's own -/
def ixO (i : Nat) (fk : M D) : M D := fun env => if (viewL i env).isSome then bindM fk (fun k env' => match viewL i env' with
  | some xs => liftM (ixD (.lst xs) k) env'
  | none => none) env else none
theorem e_ixO {i : Nat} {fk : M D} (h : PE X e (tOp (rIx X.K) (tVar i) (vE X.K X.mg W fk))) : E' X W e (ixO i fk) := h.mono fun σ H Q q => by
  obtain ⟨c, Hs, env, S, q⟩ := q
  unfold ixO at q
  split at q
  · rename_i hv
    obtain ⟨es, hes⟩ := Option.isSome_iff_exists.mp hv
    obtain ⟨a, xs, h1, h2, h3⟩ := S.viewL hes
    refine ⟨.ref a, h1, c, Hs, env, S, (Wp.bind q).weak fun k e1 Hs1 H1 s1 z1 w v r => ?_⟩
    obtain ⟨S1, w⟩ := w
    split at w
    · rename_i ds hd
      obtain ⟨d, hd2, k3⟩ := w.lift
      obtain ⟨a', xs', h1', h2', h3'⟩ := S1.viewL hd
      rw [h1] at h1'
      cases h1'
      cases k with
      | int n =>
        cases r
        obtain ⟨v, hv, rv⟩ := atI_rep h3' hd2
        exact .inl ⟨a, xs', n, v, rfl, rfl, SqL.of h2', hv, k3 Hs1 H1 S1 (Same.refl _) v rv⟩
      | _ => cases hd2
    · exact w.elim
  · exact q.elim
/-- a value of a slot's own list alone -/
def vwM (i : Nat) (g : List D → Option D) : M D := fun env => match viewL i env with
  | some xs => liftM (g xs) env
  | none => none
/-- len(xs), xs a slot's own -/
theorem e_lenO {i : Nat} (h : PE X e (tCB (fun xs H Q => ∃ x n, xs = [x] ∧ LenV X.K x H n ∧ Q (.int n) H) (tCons (tVar i) tNil))) : E' X W e (vwM i fun xs => some (.int (xs.length : Int))) := h.mono fun σ H Q q => by
  obtain ⟨c, Hs, env, S, q⟩ := q
  unfold vwM at q
  split at q
  · rename_i ds hd
    obtain ⟨a, xs, h1, h2, h3⟩ := S.viewL hd
    exact ⟨.ref a, h1, .ref a, xs.length, rfl, .inl ⟨xs, SqL.of h2, rfl⟩, by rw [h3.len]; exact q Hs H S (Same.refl _) _ (.int _)⟩
  · exact q.elim
/-- list(xs), xs a slot's own -/
theorem n_listO {i : Nat} (h : PE X e (tCB (fun xs H Q => ∃ p ys, xs = [.ref p] ∧ (SqL X.K H p ys ∨ SqT X.K H p ys) ∧ ∀ l, H l = none → Q (.ref l) (upd H l (.lst ys))) (tCons (tVar i) tNil))) : N' X W e (vwM i fun xs => some (.lst xs)) := h.mono fun σ H Q q => by
  obtain ⟨c, Hs, env, S, q⟩ := q
  unfold vwM at q
  split at q
  · rename_i ds hd
    obtain ⟨a, xs, h1, h2, h3⟩ := S.viewL hd
    exact ⟨.ref a, h1, a, xs, rfl, .inl (SqL.of h2), fun l hl => q _ _ _ (S.push hl h3) (Same.refl _)⟩
  · exact q.elim
/-- tuple(xs), xs a slot's own -/
theorem e_tupleO {i : Nat} (h : PE X e (tCB (fun xs H Q => ∃ p ys, xs = [.ref p] ∧ ((SqL X.K H p ys ∧ ∀ l, H l = none → Q (.ref l) (upd H l (.tup ys))) ∨ (SqT X.K H p ys ∧ Q (.ref p) H))) (tCons (tVar i) tNil))) : E' X W e (vwM i fun xs => some (.tup xs)) := h.mono fun σ H Q q => by
  obtain ⟨c, Hs, env, S, q⟩ := q
  unfold vwM at q
  split at q
  · rename_i ds hd
    obtain ⟨a, xs, h1, h2, h3⟩ := S.viewL hd
    exact ⟨.ref a, h1, a, xs, rfl, .inl ⟨SqL.of h2, fun l hl => q _ _ (S.put hl) (same_new (S.freshS hl)) _ (.tup (SqT.of upd_same) (h3.mono (same_new (S.freshS hl))))⟩⟩
  · exact q.elim
/-- x in xs, xs a slot's own -/
def inO (neg : Bool) (i : Nat) (fx : M D) : M D := bindM fx fun x => vwM i fun xs => inD neg x (.lst xs)
theorem e_inO {neg : Bool} {i : Nat} {fx : M D} (h : PE X e (tOp (rIn X.K neg) (vE X.K X.mg W fx) (tVar i))) : E' X W e (inO neg i fx) := h.mono fun σ H Q q => by
  obtain ⟨c, Hs, env, S, q⟩ := q
  refine ⟨c, Hs, env, S, (Wp.bind q).weak fun x e1 Hs1 H1 s1 z1 w v r => ?_⟩
  obtain ⟨S1, w⟩ := w
  unfold vwM at w
  split at w
  · rename_i ds hd
    obtain ⟨a, xs, h1, h2, h3⟩ := S1.viewL hd
    refine ⟨.ref a, h1, ?_⟩
    obtain ⟨d, hd2, k3⟩ := w.lift
    unfold inD at hd2
    have hd3 : (if flatD x = true ∧ ds.all flatD = true then some (D.bl (if neg then !inF x ds else inF x ds)) else none) = some d := hd2
    split at hd3
    · rename_i hc
      cases hd3
      exact ⟨a, xs, rfl, .inl (SqL.of h2), flat_of r hc.1, flats_of h3 hc.2, by rw [inF_of r hc.1 h3 hc.2]; exact k3 Hs1 H1 S1 (Same.refl _) _ (.bl _)⟩
    · cases hd3
  · exact w.elim
/-- xs.append(e) -/
def appM (i : Nat) (f : M D) : M D := fun env => if (viewL i env).isSome then bindM f (fun d env' => match viewL i env' with
  | some xs => if xs.length < 1000000 then (putL i (xs ++ [d]) env').map (.val .non) else none
  | none => none) env else none
theorem e_app {i : Nat} {f : M D} (h : PE X e (tBM X.K "list" rAppend (tVar i) (tCons (vE X.K X.mg W f) tNil))) : E' X W e (appM i f) := h.mono fun σ H Q q => by
  obtain ⟨c, Hs, env, S, q⟩ := q
  unfold appM at q
  split at q
  · rename_i hv
    obtain ⟨es, hes⟩ := Option.isSome_iff_exists.mp hv
    obtain ⟨a, xs, h1, h2, h3⟩ := S.viewL hes
    refine ⟨.ref a, h1, .inl ⟨rfl, xs, SqL.of h2⟩, c, Hs, env, S, (Wp.bind q).weak fun k e1 Hs1 H1 s1 z1 w v r => ?_⟩
    obtain ⟨S1, w⟩ := w
    split at w
    · rename_i ds hd
      split at w
      · rename_i hn
        cases hp : putL i (ds ++ [k]) e1 with
        | none => rw [hp] at w; exact w.elim
        | some env' =>
          rw [hp] at w
          obtain ⟨a', ys, es', g0, g1, g2, g3, g4⟩ := S1.putL hp
          rw [hd] at g0; cases g0
          rw [h1] at g1; cases g1
          refine ⟨a, ys, v, rfl, rfl, g2, by rw [g3.len]; exact small_lt hn, ?_⟩
          exact w _ _ (g4 _ (g3.app (.one r))) (Same.refl _) _ .non
      · exact w.elim
    · exact w.elim
  · exact q.elim
/-- xs[k] = e -/
def setO (i : Nat) (f fk : M D) : S := withS f fun d e1 => if (viewL i e1).isSome then withS fk (fun k e2 => match viewL i e2, k with
  | some xs, .int n => (match ixN xs.length n with
    | some j => (putL i (xs.set j d) e2).map .nx
    | none => none)
  | _, _ => none) e1 else none
theorem s_setO {i : Nat} {f fk : M D} (h : PS X st (tAsg (vE X.K X.mg W f) (gSub (tVar i) (vE X.K X.mg W fk) rSetL))) : S' X W st (setO i f fk) := h.mono fun D σ H q => by
  obtain ⟨c, Hs, env, S, q⟩ := q
  refine ⟨c, Hs, env, S, (WpS.withE q).weak fun d e1 Hs1 H1 s1 z1 w v r => ?_⟩
  split at w
  · rename_i hv
    obtain ⟨es, hes⟩ := Option.isSome_iff_exists.mp hv
    obtain ⟨a, xs, h1, h2, h3⟩ := s1.viewL hes
    refine ⟨.ref a, h1, c, Hs1, e1, s1, (WpS.withE w).weak fun k e2 Hs2 H2 s2 z2 w2 v2 r2 => ?_⟩
    split at w2
    · rename_i ds n hd
      split at w2
      · rename_i j hj
        cases hp : putL i (ds.set j d) e2 with
        | none => rw [hp] at w2; exact w2.elim
        | some env' =>
          rw [hp] at w2
          obtain ⟨a', ys, es', g0, g1, g2, g3, g4⟩ := s2.putL hp
          rw [hd] at g0; cases g0
          rw [h1] at g1; cases g1
          cases r2
          exact ⟨a, ys, n, j, rfl, rfl, g2, by rw [g3.len]; exact hj, w2 _ _ σ (g4 _ (g3.set (r.mono z2) j))⟩
      · exact w2.elim
    · exact w2.elim
  · exact w.elim

/-! ### calls of own defs -/
abbrev Fn := Env → Option (Out (Bool × D))
/-- the promise made of a plain function -/
def vF (K : PySem.W.Frag) (mg : Str → Option Value) (F : Fn) (np : Nat) : Sp := fun vs H Q E => vs.length = np ∧ ∃ c Hs cs, Sta K mg c Hs H (vs.map some) cs ∧ (∀ k v, vs[k]? = some v → c.par k = some v) ∧
  match F cs with
  | some (.val (false, d) cs') => ∀ Hs' H' v, Sta K mg c Hs' H' (vs.map some) cs' → Rep K mg Hs' v d → Q v H'
  | some (.val (true, d) cs') => ∀ Hs' H' v, Sta K mg c Hs' H' (vs.map some ++ [some v]) (cs' ++ [.ow d]) → Q v H'
  | some (.exc x cs') => ∀ Hs' H' cls dd, Sta K mg c Hs' H' (vs.map some) cs' → ExnOk K mg Hs' H' x cls dd → E cls dd H'
  | none => False
/-- a call: where it may be made, the callee's answer, what is lent comes back -/
def appF (F : Fn) (np : Nat) (as : List Arg) (env : Env) : Option (Out (Bool × D)) :=
  if argsOk as = true ∧ as.length = np then (match F (as.map (argCell env)) with
    | some (.val r cs) => if cs.length = np then some (.val r (backEnv env as cs)) else none
    | some (.exc x cs) => if cs.length = np then some (.exc x (backEnv env as cs)) else none
    | none => none) else none
def callM (F : Fn) (np : Nat) (h : M (List Arg)) : M D := bindM h fun as env => match appF F np as env with
  | some (.val r e) => some (.val r.2 e)
  | some (.exc x e) => some (.exc x e)
  | none => none
def callN (F : Fn) (np : Nat) (h : M (List Arg)) : M D := bindM h fun as env => match appF F np as env with
  | some (.val (true, d) e) => some (.val d e)
  | some (.val (false, d) e) => none
  | some (.exc x e) => some (.exc x e)
  | none => none
theorem vF_of {K : PySem.W.Frag} {mg : Str → Option Value} {F : Fn} {np : Nat} {as : List Arg} {env : Env} {c : Ct} {Hs H : Hp} {σ : L2.St} {vs : List V} {Q : VK} {E : XK} (S : Sta K mg c Hs H σ env) (r : ArgsOk K mg Hs σ vs as)
    (h : match appF F np as env with
      | some (.val (fr, d) e) => if fr = true then (∀ Hs' H' v, Sta K mg c Hs' H' (σ ++ [some v]) (e ++ [.ow d]) → Same Hs Hs' → Q v H') else ∀ Hs' H' v, Sta K mg c Hs' H' σ e → Same Hs Hs' → Rep K mg Hs' v d → Q v H'
      | some (.exc x e) => ∀ Hs' H' cls dd, Sta K mg c Hs' H' σ e → Same Hs Hs' → ExnOk K mg Hs' H' x cls dd → E cls dd H'
      | none => False) : vF K mg F np vs H Q E := by
  unfold appF at h
  split at h
  · rename_i fr d e he
    split at he
    · rename_i hc
      obtain ⟨c2, hp, S2, back⟩ := S.call r hc.1
      refine ⟨by rw [r.len]; exact hc.2, c2, Hs, _, S2, hp, ?_⟩
      cases e1 : F (as.map (argCell env)) with
      | none => rw [e1] at he; cases he
      | some o =>
        rw [e1] at he
        cases o with
        | exc x cs =>
          have he' : (if cs.length = np then some (Out.exc x (backEnv env as cs)) else none) = some (Out.val (fr, d) e) := he
          split at he' <;> cases he'
        | val p cs =>
          have he' : (if cs.length = np then some (Out.val p (backEnv env as cs)) else none) = some (Out.val (fr, d) e) := he
          split at he'
          · rename_i hn
            cases he'
            cases fr with
            | true =>
              rw [if_pos rfl] at h
              exact fun Hs' H' v s => by
                obtain ⟨z, s'⟩ := back Hs' H' cs (some (v, d)) (hn.trans hc.2.symm) s
                exact h Hs' H' v s' z
            | false =>
              rw [if_neg Bool.false_ne_true] at h
              exact fun Hs' H' v s rv => by
                obtain ⟨z, s'⟩ := back Hs' H' cs none (hn.trans hc.2.symm) (by simpa [exS, exE] using s)
                exact h Hs' H' v (by simpa [exS, exE] using s') z rv
          · cases he'
    · cases he
  · rename_i x e he
    split at he
    · rename_i hc
      obtain ⟨c2, hp, S2, back⟩ := S.call r hc.1
      refine ⟨by rw [r.len]; exact hc.2, c2, Hs, _, S2, hp, ?_⟩
      cases e1 : F (as.map (argCell env)) with
      | none => rw [e1] at he; cases he
      | some o =>
        rw [e1] at he
        cases o with
        | val p cs =>
          have he' : (if cs.length = np then some (Out.val p (backEnv env as cs)) else none) = some (Out.exc x e) := he
          split at he' <;> cases he'
        | exc y cs =>
          have he' : (if cs.length = np then some (Out.exc y (backEnv env as cs)) else none) = some (Out.exc x e) := he
          split at he'
          · rename_i hn
            cases he'
            exact fun Hs' H' cls dd s q => by
              obtain ⟨z, s'⟩ := back Hs' H' cs none (hn.trans hc.2.symm) (by simpa [exS, exE] using s)
              exact h Hs' H' cls dd (by simpa [exS, exE] using s') z q
          · cases he'
    · cases he
  · exact h.elim
theorem tCallS_of {K : PySem.W.Frag} {mg : Str → Option Value} {F : Fn} {np : Nat} {h : M (List Arg)} {σ : L2.St} {H : Hp} {Q : VK} (q : vE K mg W (callM F np h) σ H Q) : tCallS (vF K mg F np) (WE W) (vA K mg W h) σ H Q := by
  obtain ⟨c, Hs, env, S, q⟩ := q
  refine ⟨c, Hs, env, S, (Wp.bind q).weak fun as e1 Hs1 H1 s1 z1 w vs r => ?_⟩
  obtain ⟨S1, w⟩ := w
  refine vF_of S1 r ?_
  cases e : appF F np as e1 with
  | none => rw [e] at w; exact w.elim
  | some o =>
    rw [e] at w
    cases o with
    | exc x e2 => exact w
    | val p e2 =>
      obtain ⟨fr, d⟩ := p
      cases fr with
      | true =>
        show (if true = true then _ else _)
        rw [if_pos rfl]
        intro Hs' H' v s z
        obtain ⟨Hs2, q2, r, s2⟩ := s.settle
        exact w Hs2 H' s2 (z.trans q2) v r
      | false =>
        show (if false = true then _ else _)
        rw [if_neg Bool.false_ne_true]
        exact fun Hs' H' v s z r => w Hs' H' s z v r
theorem tCallN_of {K : PySem.W.Frag} {mg : Str → Option Value} {F : Fn} {np : Nat} {h : M (List Arg)} {σ : L2.St} {H : Hp} {Q : VK} (q : vN K mg W (callN F np h) σ H Q) : tCallS (vF K mg F np) (WE W) (vA K mg W h) σ H Q := by
  obtain ⟨c, Hs, env, S, q⟩ := q
  refine ⟨c, Hs, env, S, (WpN.bind q).weak fun as e1 Hs1 H1 s1 z1 w vs r => ?_⟩
  obtain ⟨S1, w⟩ := w
  refine vF_of S1 r ?_
  cases e : appF F np as e1 with
  | none => rw [e] at w; exact w.elim
  | some o =>
    rw [e] at w
    cases o with
    | exc x e2 => exact w
    | val p e2 =>
      obtain ⟨fr, d⟩ := p
      cases fr with
      | true =>
        show (if true = true then _ else _)
        rw [if_pos rfl]
        exact w
      | false => exact w.elim
/-- what may leave X is wished for by W -/
theorem passW {X : Cx} {W : WX} (tk : Takes X W) (σ : L2.St) : PassesAt (L2.CX X.prog X.w) X σ (WE W σ) := passAt tk σ
theorem e_call {F : Fn} {np k : Nat} {f : Addr} {fd : FuncData} {x : Str} {p : Pos} {ps : List Str} {h : M (List Arg)} (G : FnOk X.prog X.w X.K X.mg X.base (L2.CX X.prog X.w) k f fd ps (vF X.K X.mg F np)) (hr : Room k X.A) (tk : Takes X W)
    (hm : X.mg x = some (.ref f)) (hk : PySem.W.keepIn X.K (.ref f) = true) (hb : Binds X.K fd ps []) (ha : A' X W (e :: es) h) (hg : Gl X x := by rfl) (hdb : (x == ("__debug__" : Str)) = false := by decide)
    (he : starEach (e :: es) X.env = (false, eval e X.env) :: starEach es X.env := by rfl) (hpl : (backTo pos (starEach es X.env)).any (·.1) = false := by rfl) : E' X W (.Call (.Name x p) (e :: es) [] pos) (callM F np h) :=
  (pe_callS G hr hg hm hk hb (fun σ => passW tk σ) ha hdb he hpl).mono fun _ _ _ q => tCallS_of q
theorem n_call {F : Fn} {np k : Nat} {f : Addr} {fd : FuncData} {x : Str} {p : Pos} {ps : List Str} {h : M (List Arg)} (G : FnOk X.prog X.w X.K X.mg X.base (L2.CX X.prog X.w) k f fd ps (vF X.K X.mg F np)) (hr : Room k X.A) (tk : Takes X W)
    (hm : X.mg x = some (.ref f)) (hk : PySem.W.keepIn X.K (.ref f) = true) (hb : Binds X.K fd ps []) (ha : A' X W (e :: es) h) (hg : Gl X x := by rfl) (hdb : (x == ("__debug__" : Str)) = false := by decide)
    (he : starEach (e :: es) X.env = (false, eval e X.env) :: starEach es X.env := by rfl) (hpl : (backTo pos (starEach es X.env)).any (·.1) = false := by rfl) : N' X W (.Call (.Name x p) (e :: es) [] pos) (callN F np h) :=
  (pe_callS G hr hg hm hk hb (fun σ => passW tk σ) ha hdb he hpl).mono fun _ _ _ q => tCallN_of q
end
end NK

set_option Elab.async false
set_option linter.all false
set_option maxRecDepth 100000
set_option maxHeartbeats 4000000
namespace NK
open PySem PySem.Spec PyProof.Rows L2

/-! ### what is walked -/
structure WalkD (K : PySem.W.Frag) (mg : Str → Option Value) (J : It) (ds : List D) (Hs0 : Hp) : Prop where
  goes : ∀ i H, i < ds.length → Same Hs0 H → J.go i H
  stops : ∀ H, Same Hs0 H → J.stop ds.length H
  yields : ∀ i H1 x H2 d, ds[i]? = some d → Same Hs0 H1 → J.yld i H1 x H2 → ∀ c Hs1 σ env, Sta K mg c Hs1 H1 σ env → Same Hs0 Hs1 → ∃ Hs2, Same Hs1 Hs2 ∧ Same H1 H2 ∧ Sta K mg c Hs2 H2 σ env ∧ Rep K mg Hs2 x d
def vI (K : PySem.W.Frag) (mg : Str → Option Value) (W : WX) (g : M (List D)) : TI := fun σ H R => ∃ c Hs env, Sta K mg c Hs H σ env ∧ Wp K mg W c σ Hs (g env) fun ds _ Hs' H' => ∀ J, WalkD K mg J ds Hs' → R J H'
theorem _root_.L2.PI.mono {X : Cx} {tg it : Expr} {t t' : TI} (h : PI X tg it t) (k : ∀ σ H Q, t' σ H Q → t σ H Q) : PI X tg it t' := ⟨fun pins s σ H R I q => h.run pins s σ H R I (k σ H R q)⟩
abbrev I' (X : Cx) (W : WX) (tg it : Expr) (g : M (List D)) : Prop := PI X tg it (vI X.K X.mg W g)
section
variable {K : PySem.W.Frag} {mg : Str → Option Value} {W : WX} {J : It} {Hs0 : Hp}
/-- walks that yield things as they stand -/
theorem WalkD.same {n : Nat} {G : Hp → Prop} {Y : Nat → Hp → V → Hp → Prop} {ds : List D} (w : Walk J n G Y) (hn : n = ds.length) (hG : ∀ H, Same Hs0 H → G H)
    (hY : ∀ i H x H' d, ds[i]? = some d → Y i H x H' → H' = H ∧ Rep K mg Hs0 x d) : WalkD K mg J ds Hs0 := by
  subst hn
  refine ⟨fun i H hi e => w.goes i H hi (hG H e), fun H e => w.stops H (hG H e), fun i H1 x H2 d hd e y c Hs1 σ env S z => ?_⟩
  have hi : i < ds.length := (List.getElem?_eq_some_iff.mp hd).1
  obtain ⟨rfl, r⟩ := hY i H1 x H2 d hd (w.yields i H1 x H2 hi (hG H1 e) y)
  exact ⟨Hs1, Same.refl _, Same.refl _, S, r.mono z⟩
/-- walks that make pairs -/
theorem WalkD.pair {n : Nat} {G : Hp → Prop} {xs ys : Nat → Option V} {ds : List D} (w : Walk J n G (YPair xs ys)) (hn : n = ds.length) (hG : ∀ H, Same Hs0 H → G H)
    (hY : ∀ i x y d, ds[i]? = some d → xs i = some x → ys i = some y → ∃ d1 d2, d = .tup [d1, d2] ∧ Rep K mg Hs0 x d1 ∧ Rep K mg Hs0 y d2) : WalkD K mg J ds Hs0 := by
  subst hn
  refine ⟨fun i H hi e => w.goes i H hi (hG H e), fun H e => w.stops H (hG H e), fun i H1 x H2 d hd e y c Hs1 σ env S z => ?_⟩
  have hi : i < ds.length := (List.getElem?_eq_some_iff.mp hd).1
  obtain ⟨T, x1, y1, rfl, nT, rfl, h1, h2⟩ := w.yields i H1 x H2 hi (hG H1 e) y
  obtain ⟨d1, d2, rfl, r1, r2⟩ := hY i x1 y1 d hd h1 h2
  refine ⟨upd Hs1 T (.tup [x1, y1]), same_new (S.freshS nT), same_new nT, S.put nT, .tup (SqT.of upd_same) (.cons ?_ (.one ?_))⟩
  · exact (r1.mono z).mono (same_new (S.freshS nT))
  · exact (r2.mono z).mono (same_new (S.freshS nT))
theorem same_le {H : Hp} {a : Addr} {xs : List V} (h : SqL K Hs0 a xs) (e : Same Hs0 H) : SqL K H a xs := e.seq h
end
section
variable {X : Cx} {tg e a b : Expr} {W : WX} {pos p : Pos}
def itM (g : D → Option (List D)) (f : M D) : M (List D) := bindM f fun d => liftM (g d)
theorem vI_bind {K : PySem.W.Frag} {mg : Str → Option Value} {g : D → Option (List D)} {f : M D} {σ : L2.St} {H : Hp} {R : It → Hp → Prop} (q : vI K mg W (itM g f) σ H R) :
    vE K mg W f σ H fun x H' => ∃ c Hs env d ds, Sta K mg c Hs H' σ env ∧ Rep K mg Hs x d ∧ g d = some ds ∧ ∀ J, WalkD K mg J ds Hs → R J H' := by
  obtain ⟨c, Hs, env, S, q⟩ := q
  refine ⟨c, Hs, env, S, (Wp.bind q).weak fun d e1 Hs1 H1 s1 z1 w v r => ?_⟩
  obtain ⟨S1, w⟩ := w
  obtain ⟨ds, hd, k⟩ := w.lift
  exact ⟨c, Hs1, e1, d, ds, S1, r, hd, k Hs1 H1 S1 (Same.refl _)⟩
theorem YAt_rep {K : PySem.W.Frag} {mg : Str → Option Value} {Hs0 H H' : Hp} {xs : List V} {ds : List D} {i : Nat} {x : V} {d : D} (r : RepL K mg Hs0 xs ds) (hd : ds[i]? = some d) (y : YAt xs i H x H') : H' = H ∧ Rep K mg Hs0 x d := by
  obtain ⟨v, hv, rv⟩ := r.get hd
  obtain ⟨h1, h2⟩ := y
  rw [hv] at h2; cases h2
  exact ⟨h1, rv⟩
theorem i_list {l : Expr} {f : M D} (hl : E' X W l f) : I' X W tg l (itM listOf f) := (pi_list hl).mono fun σ H R q => by
  obtain ⟨c, Hs, env, S, q⟩ := vI_bind q
  refine ⟨c, Hs, env, S, q.weak fun d e1 Hs1 H1 s1 z1 w v r => ?_⟩
  obtain ⟨c', Hs', env', d', ds, S', r', hd, k⟩ := w v r
  obtain ⟨a, xs, rfl, hx, rl⟩ := list_of (Same.refl _) r' hd
  exact ⟨a, rfl, ⟨xs, S'.s1.seq hx⟩, k _ (WalkD.same walk_list rl.len (fun H e => e.seq hx) fun i H x H' d hd y => YAt_rep rl hd y)⟩
theorem i_tup {l : Expr} {f : M D} (hl : E' X W l f) : I' X W tg l (itM tupOf f) := (pi_tup hl).mono fun σ H R q => by
  obtain ⟨c, Hs, env, S, q⟩ := vI_bind q
  refine ⟨c, Hs, env, S, q.weak fun d e1 Hs1 H1 s1 z1 w v r => ?_⟩
  obtain ⟨c', Hs', env', d', ds, S', r', hd, k⟩ := w v r
  obtain ⟨a, xs, rfl, hx, rl⟩ := tup_of (Same.refl _) r' hd
  exact ⟨a, rfl, ⟨xs, Same.seqT S'.s1 hx⟩, k _ (WalkD.same walk_tup rl.len (fun H e => Same.seqT e hx) fun i H x H' d hd y => YAt_rep rl hd y)⟩
/-- ranges -/
def rngL (lo hi : Int) : List D := (List.range (hi - lo).toNat).map fun (i : Nat) => .int (lo + (i : Int))
noncomputable def rng1D : List D → Option (List D)
  | [.int n] => @ite _ (-(2 ^ 62) ≤ n ∧ n < 2 ^ 62) (Classical.propDecidable _) (some (rngL 0 n)) none
  | _ => none
noncomputable def rng2D : List D → Option (List D)
  | [.int m, .int n] => @ite _ (-(2 ^ 62) ≤ m ∧ m < 2 ^ 62 ∧ -(2 ^ 62) ≤ n ∧ n < 2 ^ 62) (Classical.propDecidable _) (some (rngL m n)) none
  | _ => none
def itsM (g : List D → Option (List D)) (h : M (List Arg)) : M (List D) := bindM (lisM h) fun ds => liftM (g ds)
theorem vI_bindA {K : PySem.W.Frag} {mg : Str → Option Value} {g : List D → Option (List D)} {h : M (List Arg)} {σ : L2.St} {H : Hp} {R : It → Hp → Prop} {P : List V → Hp → Prop} (q : vI K mg W (itsM g h) σ H R)
    (kk : ∀ c Hs H' env vs es ds, Sta K mg c Hs H' σ env → RepL K mg Hs vs es → g es = some ds → (∀ J, WalkD K mg J ds Hs → R J H') → P vs H') : vA K mg W h σ H P := by
  obtain ⟨c, Hs, env, S, q⟩ := q
  have q1 := Wp.bind q
  refine ⟨c, Hs, env, S, (Wp.bind q1).weak fun as e1 Hs1 H1 s1 z1 w vs r => ?_⟩
  obtain ⟨S1, w⟩ := w
  obtain ⟨es, hes, k2⟩ := w.lift
  obtain ⟨S2, w2⟩ := k2 Hs1 H1 S1 (Same.refl _)
  obtain ⟨ds, hd, k⟩ := w2.lift
  exact kk c Hs1 H1 e1 vs es ds S2 (r.vals hes) hd (k Hs1 H1 S2 (Same.refl _))
theorem rng_walk {K : PySem.W.Frag} {mg : Str → Option Value} {Hs0 : Hp} {lo hi : Int} : WalkD K mg (Itr lo (hi - lo).toNat) (rngL lo hi) Hs0 :=
  WalkD.same walk_range (by unfold rngL; simp) (fun _ _ => trivial) fun i H x H' d hd y => by
    obtain ⟨h1, h2⟩ := y
    unfold rngL at hd
    rw [List.getElem?_map] at hd
    have hi' : i < (hi - lo).toNat := by
      cases e : (List.range (hi - lo).toNat)[i]? with
      | none => rw [e] at hd; cases hd
      | some j => have := (List.getElem?_eq_some_iff.mp e).1; simpa using this
    rw [List.getElem?_range hi'] at hd
    cases hd
    rw [h2]
    exact ⟨h1, .int _⟩
theorem i_rng1 {h : M (List Arg)} (hm : X.mg "range" = none) (ha : A' X W [a] h) (hg : Gl X "range" := by rfl) (hs : starEach [a] X.env = [(false, eval a X.env)] := by rfl) : I' X W tg (.Call (.Name "range" p) [a] [] pos) (itsM rng1D h) :=
  (pi_range1 hg hm ha hs).mono fun σ H R q => vI_bindA q fun c Hs H' env vs es ds S r hd k => by
    unfold rng1D at hd
    split at hd
    · split at hd
      · rename_i n hc
        cases hd
        obtain ⟨v, rfl, rv⟩ := r.one_inv
        cases rv
        have k1 := k _ (rng_walk (lo := 0) (hi := n))
        rw [Int.sub_zero] at k1
        exact ⟨n, rfl, hc.1, hc.2, k1⟩
      · cases hd
    · cases hd
theorem i_rng2 {h : M (List Arg)} (hm : X.mg "range" = none) (ha : A' X W [a, b] h) (hg : Gl X "range" := by rfl) (hs : starEach [a, b] X.env = [(false, eval a X.env), (false, eval b X.env)] := by rfl) (hs2 : starEach [b] X.env = [(false, eval b X.env)] := by rfl) : I' X W tg (.Call (.Name "range" p) [a, b] [] pos) (itsM rng2D h) :=
  (pi_range2 hg hm ha hs hs2).mono fun σ H R q => vI_bindA q fun c Hs H' env vs es ds S r hd k => by
    unfold rng2D at hd
    split at hd
    · split at hd
      · rename_i m n hc
        cases hd
        obtain ⟨v, w, rfl, rv, rw⟩ := r.two_inv
        cases rv; cases rw
        exact ⟨m, n, rfl, hc, k _ rng_walk⟩
      · cases hd
    · cases hd
end

/-! ### loops -/
def loopS (t : Tg) (body : S) : List D → Env → Option SO
  | [], e => some (.nx e)
  | d :: ds, e => match t d e with
    | none => none
    | some e1 => match body e1 with
      | some (.nx e2) => loopS t body ds e2
      | some (.ct e2) => loopS t body ds e2
      | some (.bk e2) => some (.nx e2)
      | r => r
def forS (g : M (List D)) (t : Tg) (body : S) : S := fun env => match g env with
  | some (.val ds e) => loopS t body ds e
  | some (.exc x e) => some (.exc x e)
  | none => none
theorem WpS.turn {K : PySem.W.Frag} {mg : Str → Option Value} {W : WX} {c : Ct} {E : Ends} {t : Tg} {body : S} {d : D} {ds : List D} {e e1 : Env} {P : Env → Prop} (h : WpS K mg W c (loopS t body (d :: ds) e) E) (ht : t d e = some e1) {c' : Ct}
    (back : ∀ Hs' H' σ' env', Sta K mg c' Hs' H' σ' env' → Sta K mg c Hs' H' σ' env') {Nx : L2.St → Hp → Prop} (hN : ∀ Hs' H' σ' e2, Sta K mg c' Hs' H' σ' e2 → WpS K mg W c (loopS t body ds e2) E → Nx σ' H')  :
    WpS K mg W c' (body e1) { E with nx := Nx, ct := Nx, bk := E.nx } := by
  unfold loopS at h
  rw [ht] at h
  have h' : WpS K mg W c (match body e1 with
      | some (.nx e2) => loopS t body ds e2
      | some (.ct e2) => loopS t body ds e2
      | some (.bk e2) => some (.nx e2)
      | r => r) E := h
  cases hb : body e1 with
  | none => rw [hb] at h'; exact h'
  | some r =>
    rw [hb] at h'
    cases r with
    | nx e2 => exact fun Hs' H' σ' s => hN Hs' H' σ' e2 s h'
    | ct e2 => exact fun Hs' H' σ' s => hN Hs' H' σ' e2 s h'
    | bk e2 => exact fun Hs' H' σ' s => h' Hs' H' σ' (back _ _ _ _ s)
    | rt d e2 => exact fun Hs' H' σ' v s r => h' Hs' H' σ' v (back _ _ _ _ s) r
    | rn d e2 => exact fun Hs' H' σ' v s => h' Hs' H' σ' v (back _ _ _ _ s)
    | exc x e2 => exact fun Hs' H' σ' cls dd s z => h' Hs' H' σ' cls dd (back _ _ _ _ s) z
section
variable {X : Cx} {tg it e : Expr} {body : List Stmt} {W : WX} {pos : Pos}
theorem s_for {g : M (List D)} {t : Tg} {vs : List Nat} {m : S} (hi : I' X W tg it g) (hg : G' X tg t vs) (hb : B' X W body m) (hp : PassesOwn (model X.prog X.w) X.A X.env X.xe) (hc : X.calm = true := by rfl)
    (hs : ∀ x, foldedSetIterable it X.env x = pure x := by intro _; rfl) : S' X W (.For tg it body [] pos) (forS g t m) := (ps_for hp hc hi hg hb hs).mono fun D σ H q => by
  obtain ⟨c, Hs, env, S, q⟩ := q
  refine ⟨c, Hs, env, S, ?_⟩
  unfold forS at q
  cases e : g env with
  | none => rw [e] at q; exact q
  | some r =>
    rw [e] at q
    cases r with
    | exc x e1 => exact fun Hs' H' cls dd s _ z => q Hs' H' σ cls dd s z
    | val ds e1 =>
      intro Hs1 H1 S1 z1 J wk
      obtain ⟨A0, hA0, sub⟩ := S1.sub
      obtain ⟨S2, back⟩ := sub H1 (Same.refl _)
      refine ⟨fun i m' σ H => m' = ds.length - i ∧ i ≤ ds.length ∧ ∃ Hs2 env2, Sta X.K X.mg ⟨Hs1, H1, A0, c.par, c.ros⟩ Hs2 H σ env2 ∧ WpS X.K X.mg W c (loopS t m (ds.drop i) env2) D, ⟨ds.length, by simp, Nat.zero_le _, Hs1, e1, S2, q⟩, ?_⟩
      rintro i m' σ2 H2 ⟨rfl, hi, Hs2, env2, S3, w⟩
      have eS : Same Hs1 Hs2 := S3.s0
      have eH : Same Hs1 H2 := eS.trans S3.s1
      by_cases hlt : i < ds.length
      · have hd : ds[i]? = some ds[i] := List.getElem?_eq_getElem hlt
        rw [List.drop_eq_getElem_cons hlt] at w
        refine .inr ⟨wk.goes i H2 hlt eH, fun σ' H' => ∃ Hs3 env3, Sta X.K X.mg ⟨Hs1, H1, A0, c.par, c.ros⟩ Hs3 H' σ' env3 ∧ WpS X.K X.mg W c (loopS t m (ds.drop (i + 1)) env3) D, fun σ' H' ⟨Hs3, env3, s, w3⟩ => ⟨ds.length - (i + 1), by omega, rfl, hlt, Hs3, env3, s, w3⟩, fun x H3 y => ?_⟩
        obtain ⟨Hs3, z3, z3', S4, r⟩ := wk.yields i H2 x H3 ds[i] hd eH y _ Hs2 σ2 env2 S3 eS
        cases ht : t ds[i] env2 with
        | none =>
          unfold loopS at w
          rw [ht] at w; exact w.elim
        | some env3 =>
          refine ⟨_, Hs3, env2, ds[i], env3, S4, r, ht, fun σ' _ _ S5 => ?_⟩
          exact ⟨_, Hs3, env3, S5, WpS.turn (P := fun _ => True) w ht back fun Hs' H' σ' e2 s w2 => ⟨Hs', e2, s, w2⟩⟩
      · have hi' : i = ds.length := by omega
        subst hi'
        rw [List.drop_length] at w
        exact .inl ⟨wk.stops H2 eH, w Hs2 H2 σ2 (back _ _ _ _ S3)⟩
/-- while, n turns at most -/
def whileS (t : M Bool) (body : S) : Nat → S
  | 0, _ => none
  | n + 1, e => match t e with
    | some (.val true e1) => (match body e1 with
      | some (.nx e2) => whileS t body n e2
      | some (.ct e2) => whileS t body n e2
      | some (.bk e2) => some (.nx e2)
      | r => r)
    | some (.val false e1) => some (.nx e1)
    | some (.exc x e1) => some (.exc x e1)
    | none => none
theorem s_while {cnd : Expr} {t : M Bool} {m : S} (n : Nat) (hc : T' X W cnd t) (hb : B' X W body m) (hp : PassesOwn (model X.prog X.w) X.A X.env X.xe) : S' X W (.While cnd body [] pos) (whileS t m n) := (ps_while hp hc hb).mono fun D σ H q => by
  obtain ⟨c, Hs, env, S, q⟩ := q
  refine ⟨fun k σ H => ∃ Hs env, Sta X.K X.mg c Hs H σ env ∧ WpS X.K X.mg W c (whileS t m k env) D, ⟨n, Hs, env, S, q⟩, ?_⟩
  rintro k σ2 H2 ⟨Hs2, env2, S2, w⟩
  refine ⟨c, Hs2, env2, S2, ?_⟩
  cases k with
  | zero => exact w.elim
  | succ k =>
    unfold whileS at w
    cases e : t env2 with
    | none => rw [e] at w; exact w.elim
    | some r =>
      rw [e] at w
      cases r with
      | exc x e1 => exact fun Hs' H' cls dd s _ z => w Hs' H' σ2 cls dd s z
      | val b e1 =>
        cases b with
        | false =>
          intro Hs' H' s z
          show (if false = true then _ else _)
          rw [if_neg Bool.false_ne_true]
          exact w Hs' H' σ2 s
        | true =>
          intro Hs' H' s z
          show (if true = true then _ else _)
          rw [if_pos rfl]
          have w' : WpS X.K X.mg W c (match m e1 with
            | some (.nx e2) => whileS t m k e2
            | some (.ct e2) => whileS t m k e2
            | some (.bk e2) => some (.nx e2)
            | r => r) D := w
          refine ⟨fun σ' H' => ∃ Hs3 env3, Sta X.K X.mg c Hs3 H' σ' env3 ∧ WpS X.K X.mg W c (whileS t m k env3) D, fun σ' H' ⟨Hs3, env3, s3, w3⟩ => ⟨k, Nat.lt_succ_self _, Hs3, env3, s3, w3⟩, c, Hs', e1, s, ?_⟩
          cases hb : m e1 with
          | none => rw [hb] at w'; exact w'.elim
          | some r =>
            rw [hb] at w'
            cases r with
            | nx e2 => exact fun Hs4 H4 σ4 s4 => ⟨Hs4, e2, s4, w'⟩
            | ct e2 => exact fun Hs4 H4 σ4 s4 => ⟨Hs4, e2, s4, w'⟩
            | bk e2 => exact fun Hs4 H4 σ4 s4 => w' Hs4 H4 σ4 s4
            | rt d e2 => exact w'
            | rn d e2 => exact w'
            | exc x e2 => exact w'
end
end NK

set_option Elab.async false
set_option linter.all false
set_option maxRecDepth 100000
set_option maxHeartbeats 4000000
namespace NK
open PySem PySem.Spec PyProof.Rows L2

section
variable {K : PySem.W.Frag} {mg : Str → Option Value} {W : WX} {c : Ct} {σ : L2.St} {Hs H : Hp} {env : Env}
/-- a thing that stands aside, while a part runs -/
theorem Sta.aside {p : Addr} (S : Sta K mg c Hs H σ env) (n : H p = none) (o : HO) : ∃ c', Sta K mg c' Hs (upd H p o) σ env ∧
    ∀ Hs' H' σ' env', Sta K mg c' Hs' H' σ' env' → Same Hs Hs' ∧ H' p = some o ∧ ∃ H2, H2 p = none ∧ H' = upd H2 p o ∧ Sta K mg c Hs' H2 σ' env' := by
  obtain ⟨A0, hA0, sub⟩ := S.sub
  obtain ⟨SA, backA⟩ := sub H (Same.refl _)
  obtain ⟨SB, _⟩ := sub (upd H p o) (same_new n)
  have nA : p ∉ A0 := fun z => hA0 p z n
  refine ⟨⟨Hs, upd H p o, A0, c.par, c.ros⟩, SB, fun Hs' H' σ' env' S' => ?_⟩
  have hp : H' p = some o := S'.fr p o upd_same nA
  have hsp : Hs' p = none := S'.fh p (S.freshS n) (by show upd H p o p ≠ none; rw [upd_same]; simp) nA
  let H2 : Hp := fun b => if b = p then none else H' b
  have e2 : ∀ {b}, b ≠ p → H2 b = H' b := fun {b} h => if_neg h
  have hp2 : H2 p = none := if_pos rfl
  refine ⟨S'.s0, hp, H2, hp2, ?_, backA Hs' H2 σ' env' ?_⟩
  · funext b
    by_cases e : b = p
    · subst e; rw [upd_same]; exact hp
    · rw [upd_ne e]; exact (e2 e).symm
  · obtain ⟨B, hA, hN, hD, hX⟩ := S'.cells
    refine ⟨S'.s0, fun b u h => ?_, fun b u h q => ?_, fun b h q w => ?_, fun b h => ?_, SA.ro, S'.len, B, fun i cl h => ?_, hN, hD, hX⟩
    · have e : b ≠ p := fun z => by rw [z, hsp] at h; cases h
      rw [e2 e]; exact S'.s1 b u h
    · have h' : H b = some u := h
      have e : b ≠ p := fun z => by rw [z, n] at h'; cases h'
      rw [e2 e]
      exact S'.fr b u (by show upd H p o b = some u; rw [upd_ne e]; exact h') q
    · have q' : H b ≠ none := q
      have e : b ≠ p := fun z => q' (by rw [z]; exact n)
      exact S'.fh b h (by show upd H p o b ≠ none; rw [upd_ne e]; exact q') w
    · have q' : H b ≠ none := h
      have e : b ≠ p := fun z => q' (by rw [z]; exact n)
      rw [e2 e]
      exact S'.hh b (by show upd H p o b ≠ none; rw [upd_ne e]; exact q')
    · have g := hA i cl h
      have up : ∀ a, (a ∈ A0 ∨ upd H p o a = none) → a ≠ p ∧ (a ∈ A0 ∨ H a = none) := fun a z => by
        have ne : a ≠ p := fun e => by
          subst e
          rcases z with z | z
          · exact nA z
          · rw [upd_same] at z; cases z
        refine ⟨ne, ?_⟩
        rcases z with z | z
        · exact .inl z
        · rw [upd_ne ne] at z; exact .inr z
      cases cl with
      | no => exact g
      | sh d => exact g
      | ow d =>
        obtain ⟨v, g1, g2, g3⟩ := g
        exact ⟨v, g1, g2.mono (Same.refl _) (fun a ha o' q => by rw [e2 (up a (g3 a ha).2).1]; exact q), fun a ha => ⟨(g3 a ha).1, (up a (g3 a ha).2).2⟩⟩
      | io d =>
        obtain ⟨v, g1, g2, g3, g4⟩ := g
        exact ⟨v, g1, g2.mono (Same.refl _) (fun a ha o' q => by rw [e2 (up a (g3 a ha).2).1]; exact q), fun a ha => ⟨(g3 a ha).1, (up a (g3 a ha).2).2⟩, g4⟩
      | al s k => exact g
      | ro d => exact g

/-! ### slots wiped, and back -/
theorem wipe_len : ∀ (vs : List Nat) (σ : L2.St), (wipe σ vs).length = σ.length
  | [], σ => rfl
  | v :: vs, σ => by show ((wipe σ vs).set v none).length = _; rw [List.length_set, wipe_len vs σ]
theorem wipe_out : ∀ (vs : List Nat) (σ : L2.St) (j : Nat), j ∉ vs → (wipe σ vs)[j]? = σ[j]?
  | [], σ, j, _ => rfl
  | v :: vs, σ, j, h => by
    rw [List.mem_cons, not_or] at h
    show ((wipe σ vs).set v none)[j]? = _
    rw [sget_ne (Ne.symm h.1), wipe_out vs σ j h.2]
theorem wipe_in : ∀ (vs : List Nat) (σ : L2.St) (j : Nat), j ∈ vs → j < σ.length → (wipe σ vs)[j]? = some none
  | v :: vs, σ, j, h, hl => by
    show ((wipe σ vs).set v none)[j]? = _
    by_cases e : v = j
    · subst e; exact List.getElem?_set_self (by rw [wipe_len]; exact hl)
    · rw [sget_ne e]
      exact wipe_in vs σ j ((List.mem_cons.mp h).resolve_left (Ne.symm e)) hl
theorem wipe_ext {σ' : L2.St} {vs : List Nat} (hl : σ'.length = σ.length) (h : ∀ j, j ∉ vs → σ'[j]? = σ[j]?) : wipe σ' vs = wipe σ vs := by
  refine List.ext_getElem? fun j => ?_
  by_cases hj : j ∈ vs
  · by_cases hlt : j < σ.length
    · rw [wipe_in vs σ j hj hlt, wipe_in vs σ' j hj (by omega)]
    · rw [List.getElem?_eq_none (by rw [wipe_len]; omega), List.getElem?_eq_none (by rw [wipe_len]; omega)]
  · rw [wipe_out vs σ j hj, wipe_out vs σ' j hj, h j hj]
theorem wipe_wipe {vs : List Nat} : wipe (wipe σ vs) vs = wipe σ vs := wipe_ext (wipe_len vs σ) fun j hj => wipe_out vs σ j hj
def wipeE (env : Env) : List Nat → Env
  | [] => env
  | v :: vs => (wipeE env vs).set v .no
theorem Sta.wipes : ∀ (vs : List Nat), Sta K mg c Hs H σ env → Sta K mg c Hs H (L2.wipe σ vs) (wipeE env vs)
  | [], S => S
  | v :: vs, S => (Sta.wipes vs S).wipe
def backS (env1 env : Env) (vs : List Nat) : Env := env1.mapIdx fun j cl => if vs.contains j then (match env[j]? with | some (.sh d) => .sh d | _ => .no) else cl
theorem Sta.backS {σ1 : L2.St} {env1 : Env} {Hs0 H0 : Hp} {vs : List Nat} (S : Sta K mg c Hs H σ1 env1) (S0 : Sta K mg c Hs0 H0 σ env) (z : Same Hs0 Hs) (hl : σ1.length = σ.length) (h : ∀ j, j ∉ vs → σ1[j]? = σ[j]?) : Sta K mg c Hs H σ (NK.backS env1 env vs) := by
  obtain ⟨B, hA, hN, hD, hX⟩ := S.cells
  have el : (NK.backS env1 env vs).length = env1.length := by unfold NK.backS; simp
  refine ⟨S.s0, S.s1, S.fr, S.fh, S.hh, S.ro, by rw [el, S.len, hl], fun j => if j ∈ vs then [] else B j, fun j cl h' => ?_, fun j h' => ?_, fun j => ?_, fun j k hjk a ha => ?_⟩
  · show CellOk K mg c Hs H σ j cl (if j ∈ vs then [] else B j)
    unfold NK.backS at h'
    rw [List.getElem?_mapIdx] at h'
    cases e : env1[j]? with
    | none => rw [e] at h'; cases h'
    | some cl1 =>
      rw [e] at h'
      have h2 : (if vs.contains j then (match env[j]? with | some (.sh d) => Cell.sh d | _ => .no) else cl1) = cl := Option.some.inj h'
      by_cases hj : j ∈ vs
      · rw [if_pos (by simpa using hj)] at h2
        rw [if_pos hj]
        split at h2
        · rename_i d hd
          subst h2
          obtain ⟨v, h3, h4⟩ := S0.shared hd
          exact ⟨rfl, v, h3, h4.mono z⟩
        · subst h2; rfl
      · rw [if_neg (by simpa using hj)] at h2
        rw [if_neg hj]
        subst h2
        exact (hA j _ e).slot (h j hj).symm
  · show (if j ∈ vs then [] else B j) = []
    split
    · rfl
    · exact hN j (List.getElem?_eq_none_iff.mpr (by rw [← el]; exact List.getElem?_eq_none_iff.mp h'))
  · show (if j ∈ vs then [] else B j).Nodup
    split
    · simp
    · exact hD j
  · have ha' : a ∈ (if j ∈ vs then [] else B j) := ha
    show a ∉ (if k ∈ vs then [] else B k)
    split at ha'
    · cases ha'
    · split
      · simp
      · exact hX j k hjk a ha'
end

/-! ### list comprehensions -/
def lcL (t : Tg) (p : M Bool) (f : M D) (vs : List Nat) : List D → Env → Option (List D × Env)
  | [], e => some ([], e)
  | d :: ds, e => match t d e with
    | none => none
    | some e1 => match p e1 with
      | some (.val true e2) => (match f e2 with
        | some (.val y e3) => (lcL t p f vs ds (wipeE e3 vs)).map fun r => (y :: r.1, r.2)
        | _ => none)
      | some (.val false e2) => lcL t p f vs ds (wipeE e2 vs)
      | _ => none
def lcM (g : M (List D)) (t : Tg) (p : M Bool) (f : M D) (vs : List Nat) : M D := bindM g fun ds env => if ds.length ≤ 1000000 then (match lcL t p f vs ds (wipeE env vs) with
  | some (out, e1) => some (.val (.lst out) (backS e1 env vs))
  | none => none) else none
abbrev W0 : WX := fun _ _ _ _ => False
theorem lcL_len {t : Tg} {p : M Bool} {f : M D} {vs : List Nat} : ∀ {ds : List D} {e e' : Env} {out : List D}, lcL t p f vs ds e = some (out, e') → out.length ≤ ds.length
  | [], e, e', out, h => by cases h; simp
  | d :: ds, e, e', out, h => by
    unfold lcL at h
    split at h
    · cases h
    · split at h
      · split at h
        · rename_i y e3 _
          cases hh : lcL t p f vs ds (wipeE e3 vs) with
          | none => rw [hh] at h; cases h
          | some r =>
            rw [hh] at h
            cases h
            have := lcL_len (out := r.1) (e' := r.2) hh
            simp; exact this
        · cases h
      · have := lcL_len h
        simp; omega
      · cases h
section
variable {X : Cx} {elt tg it : Expr} {ifs : List Expr} {scope : Scope} {own : List (Str × Nat)} {W : WX} {pos : Pos}
theorem tLc_of {K : PySem.W.Frag} {mg : Str → Option Value} {g : M (List D)} {t : Tg} {p : M Bool} {f : M D} {vs tvs : List Nat} (ht : ∀ j ∈ tvs, j ∈ vs) {σ : L2.St} {H : Hp} {Q : VK} (q : vN K mg W (lcM g t p f vs) σ H Q) :
    tLc (vI K mg W g) (vG K mg t tvs) (vT K mg W0 p) (vE K mg W0 f) vs σ H Q := by
  obtain ⟨c, Hs, env, S, q⟩ := q
  refine ⟨c, Hs, env, S, (WpN.bind q).weak fun ds e1 Hs1 H1 s1 z1 w J wk Dd nD => ?_⟩
  obtain ⟨S1, w⟩ := w
  have w' : WpN K mg W c σ Hs1 (if ds.length ≤ 1000000 then (match lcL t p f vs ds (wipeE e1 vs) with
    | some (out, e2) => some (Out.val (.lst out) (backS e2 e1 vs))
    | none => none) else none) Q := w
  split at w'
  · rename_i hsz
    cases hL : lcL t p f vs ds (wipeE e1 vs) with
    | none => rw [hL] at w'; exact w'.elim
    | some r =>
      obtain ⟨out, e2⟩ := r
      rw [hL] at w'
      have w2 : ∀ Hs' H' v, Sta K mg c Hs' H' (σ ++ [some v]) (backS e2 e1 vs ++ [.ow (.lst out)]) → Same Hs1 Hs' → Q v H' := w'
      refine ⟨fun i m H => m = ds.length - i ∧ i ≤ ds.length ∧ ∃ Hs2 H2 env2 acc done rest, Same Hs1 Hs2 ∧ H2 Dd = none ∧ H = upd H2 Dd (.lst acc) ∧ Sta K mg c Hs2 H2 (wipe σ vs) env2 ∧ RepL K mg Hs2 acc done ∧ done.length ≤ i ∧
          lcL t p f vs (ds.drop i) env2 = some (rest, e2) ∧ done ++ rest = out, ⟨ds.length, by simp, Nat.zero_le _, Hs1, H1, wipeE e1 vs, [], [], out, Same.refl _, nD, rfl, S1.wipes vs, .nil, Nat.le_refl _, hL, rfl⟩, ?_⟩
      rintro i m H3 ⟨rfl, hi, Hs2, H2, env2, acc, done, rest, zz, n2, rfl, S2, ra, hdl, hl, ho⟩
      obtain ⟨c', S3, out'⟩ := S2.aside n2 (.lst acc)
      have eS : Same Hs1 (upd H2 Dd (.lst acc)) := zz.trans S3.s1
      by_cases hlt : i < ds.length
      · have hd : ds[i]? = some ds[i] := List.getElem?_eq_getElem hlt
        rw [List.drop_eq_getElem_cons hlt] at hl
        refine .inr ⟨wk.goes i _ hlt eS, fun H' => ∃ Hs2 H2 env2 acc done rest, Same Hs1 Hs2 ∧ H2 Dd = none ∧ H' = upd H2 Dd (.lst acc) ∧ Sta K mg c Hs2 H2 (wipe σ vs) env2 ∧ RepL K mg Hs2 acc done ∧ done.length ≤ i + 1 ∧
          lcL t p f vs (ds.drop (i + 1)) env2 = some (rest, e2) ∧ done ++ rest = out, fun H' h => ⟨ds.length - (i + 1), by omega, rfl, hlt, h⟩, fun x H4 y => ?_⟩
        obtain ⟨Hs4, z4, z4', S4, r⟩ := wk.yields i _ x H4 ds[i] hd eS y c' Hs2 (wipe σ vs) env2 S3 zz
        unfold lcL at hl
        split at hl
        · cases hl
        · rename_i e3 ht3
          refine ⟨c', Hs4, env2, ds[i], e3, S4, r, ht3, fun σ2 hl2 hk2 S5 => ?_⟩
          have hw : wipe σ2 vs = wipe σ vs := by
            have h1 : wipe σ2 vs = wipe (wipe σ vs) vs := wipe_ext hl2 fun j hj => hk2 j fun z => hj (ht j z)
            rw [h1, wipe_wipe]
          refine ⟨hw, c', Hs4, e3, S5, ?_⟩
          split at hl
          · rename_i e4 hp4
            rw [hp4]
            intro Hs5 H5 S6 z6
            show (if true = true then _ else _)
            rw [if_pos rfl]
            refine ⟨c', Hs5, e4, S6, ?_⟩
            split at hl
            · rename_i yd e5 hf5
              rw [hf5]
              intro Hs6 H6 S7 z7 yv ry
              obtain ⟨z8, hD, H7, n7, rfl, S8⟩ := out' _ _ _ _ S7
              refine ⟨acc, hD, by rw [ra.len]; exact small_lt (by omega), ?_⟩
              cases hL2 : lcL t p f vs (ds.drop (i + 1)) (wipeE e5 vs) with
              | none => rw [hL2] at hl; cases hl
              | some r2 =>
                rw [hL2] at hl
                obtain ⟨rest2, e6⟩ := r2
                have hl' : (yd :: rest2, e6) = (rest, e2) := Option.some.inj hl
                cases hl'
                refine ⟨Hs6, H7, wipeE e5 vs, acc ++ [yv], done ++ [yd], rest2, zz.trans z8, n7, upd_upd, ?_, ?_, ?_, hL2, ?_⟩
                · have := S8.wipes vs; rw [hw] at this; exact this
                · exact (ra.mono z8).app (.one ry)
                · simp; exact hdl
                · rw [List.append_assoc]; exact ho
            · cases hl
          · rename_i e4 hp4
            rw [hp4]
            intro Hs5 H5 S6 z6
            show (if false = true then _ else _)
            rw [if_neg Bool.false_ne_true]
            obtain ⟨z8, hD, H7, n7, rfl, S8⟩ := out' _ _ _ _ S6
            refine ⟨Hs5, H7, wipeE e4 vs, acc, done, rest, zz.trans z8, n7, rfl, ?_, ra.mono z8, by omega, hl, ho⟩
            have := S8.wipes vs; rw [hw] at this; exact this
          · cases hl
      · have hi' : i = ds.length := by omega
        subst hi'
        rw [List.drop_length] at hl
        cases hl
        refine .inl ⟨wk.stops _ eS, ?_⟩
        rw [List.append_nil] at ho
        subst ho
        refine w2 Hs2 _ _ (Sta.push ?_ n2 ra) zz
        exact S2.backS S1 zz (wipe_len vs σ) fun j hj => wipe_out vs σ j hj
  · exact w'.elim
theorem n_lc {g : M (List D)} {t : Tg} {p : M Bool} {f : M D} {tvs : List Nat} (hN : X.N.Nodup) (hi : I' X W tg it g) (ok : BlkOk X.N X.env.scope scope own)
    (hg : ∀ (s : Shared) (H : Hp) (C : Addr) (cl : List (Str × Addr)) (fp : List Addr), G' (X.blk s H scope (compEnvC scope cl C X.env) fp) tg t tvs) (hp : ∀ (s : Shared) (H : Hp) (C : Addr) (cl : List (Str × Addr)) (fp : List Addr), PTs (X.blk s H scope (compEnvC scope cl C X.env) fp) ifs (vT X.K X.mg W0 p))
    (he : ∀ (s : Shared) (H : Hp) (C : Addr) (cl : List (Str × Addr)) (fp : List Addr), E' (X.blk s H scope (compEnvC scope cl C X.env) fp) W0 elt f) {vs : List Nat} (hv : own.map (·.2) = vs := by rfl) (ht : ∀ j ∈ tvs, j ∈ vs := by decide) (hc : X.calm = true := by rfl) (hs : ∀ x, foldedSetIterable it X.env x = pure x := by intro _; rfl) :
    N' X W (.ListComp elt [⟨tg, it, ifs, 0⟩] scope pos) (lcM g t p f vs) := by
  subst hv
  exact (pe_lc hc hN hi ok hg hp he hs).mono fun _ _ _ q => tLc_of ht q
def yesM : M Bool := pureM true
theorem p_nil : PTs X [] (vT X.K X.mg W0 yesM) := by
  refine ⟨fun pins s σ H Q I q => pts_nil.run pins s σ H Q I ?_⟩
  obtain ⟨c, Hs, env, S, q⟩ := q
  exact q Hs H S (Same.refl _)
theorem p_one {cnd : Expr} {p : M Bool} (h : T' X W0 cnd p) : PTs X [cnd] (vT X.K X.mg W0 p) := pts_one h
end
end NK

set_option Elab.async false
set_option linter.all false
set_option maxRecDepth 100000
set_option maxHeartbeats 4000000
namespace NK
open PySem PySem.Spec PyProof.Rows L2

section
variable {K : PySem.W.Frag} {mg : Str → Option Value} {W : WX} {c : Ct} {σ σ2 : L2.St} {Hs H : Hp} {env env2 : Env}
/-- some of the slots, at other places -/
theorem Sta.pick (S : Sta K mg c Hs H σ env) (π : Nat → Option Nat) (inj : ∀ j k i, π j = some i → π k = some i → j = k) (hl : env2.length = σ2.length)
    (h : ∀ j cl, env2[j]? = some cl → cl = .no ∨ ∃ i, π j = some i ∧ env[i]? = some cl ∧ σ2[j]? = σ[i]? ∧ (i = j ∨ ∃ d, cl = .ow d)) : Sta K mg c Hs H σ2 env2 := by
  obtain ⟨B, hA, hN, hD, hX⟩ := S.cells
  let F : Nat → List Addr := fun j => match env2[j]? with
    | none => []
    | some .no => []
    | some _ => (match π j with | some i => B i | none => [])
  have mF : ∀ {j a}, a ∈ F j → ∃ i, π j = some i ∧ a ∈ B i := fun {j a} ha => by
    have ha' : a ∈ (match env2[j]? with
      | none => []
      | some .no => []
      | some _ => (match π j with | some i => B i | none => [])) := ha
    split at ha'
    · cases ha'
    · cases ha'
    · split at ha'
      · rename_i i hi; exact ⟨i, hi, ha'⟩
      · cases ha'
  refine ⟨S.s0, S.s1, S.fr, S.fh, S.hh, S.ro, hl, F, fun j cl hj => ?_, fun j hj => ?_, fun j => ?_, fun j k hjk a ha hb => ?_⟩
  · show CellOk K mg c Hs H σ2 j cl (match env2[j]? with
      | none => []
      | some .no => []
      | some _ => (match π j with | some i => B i | none => []))
    rcases h j cl hj with rfl | ⟨i, hi, he, hs, hij⟩
    · rw [hj]; rfl
    · have g := hA i cl he
      rw [hj, hi]
      cases cl with
      | no => rfl
      | sh d =>
        obtain ⟨g0, v, g1, g2⟩ := g
        exact ⟨g0, v, hs.trans g1, g2⟩
      | ow d => obtain ⟨v, g1, g2⟩ := g; exact ⟨v, hs.trans g1, g2⟩
      | io d =>
        rcases hij with rfl | ⟨_, z⟩
        · obtain ⟨v, g1, g2⟩ := g; exact ⟨v, hs.trans g1, g2⟩
        · cases z
      | al s k => (rcases hij with rfl | ⟨_, z⟩; (obtain ⟨g0, v, a, vs, g1, g2⟩ := g; exact ⟨g0, v, a, vs, hs.trans g1, g2⟩); (cases z))
      | ro d =>
        rcases hij with rfl | ⟨_, z⟩
        · obtain ⟨g0, v, g1, g2⟩ := g; exact ⟨g0, v, hs.trans g1, g2⟩
        · cases z
  · show (match env2[j]? with
      | none => []
      | some .no => []
      | some _ => (match π j with | some i => B i | none => [])) = []
    rw [hj]
  · show (match env2[j]? with
      | none => []
      | some .no => []
      | some _ => (match π j with | some i => B i | none => [])).Nodup
    split
    · simp
    · simp
    · split
      · exact hD _
      · simp
  · obtain ⟨i, hi, h1⟩ := mF ha
    obtain ⟨i', hi', h1'⟩ := mF hb
    by_cases e : i = i'
    · subst e; exact hjk (inj j k i hi hi')
    · exact hX i i' e a h1 h1'
theorem Sta.pad (S : Sta K mg c Hs H σ env) (n : Nat) : Sta K mg c Hs H (σ ++ List.replicate n none) (env ++ List.replicate n .no) := by
  refine S.pick (fun j => some j) (fun j k i h1 h2 => by cases h1; cases h2; rfl) (by simp [S.len]) fun j cl hj => ?_
  by_cases e : j < env.length
  · rw [List.getElem?_append_left e] at hj
    exact .inr ⟨j, rfl, hj, by rw [List.getElem?_append_left (by rw [← S.len]; exact e)], .inl rfl⟩
  · rw [List.getElem?_append_right (by omega)] at hj
    exact .inl (List.eq_of_mem_replicate (List.mem_of_getElem? hj))
/-- what a def hands back of what was lent -/
def outC (n : Nat) (e : Env) : Env := (List.range n).map fun (i : Nat) => match e[i]? with
  | some (.io d) => Cell.io d
  | _ => .no
theorem outC_at {n : Nat} {e : Env} {j : Nat} {cl : Cell} (h : (outC n e)[j]? = some cl) : j < n ∧ (cl = .no ∨ ∃ d, cl = .io d ∧ e[j]? = some (.io d)) := by
  unfold outC at h
  rw [List.getElem?_map] at h
  have hj : j < n := by
    cases q : (List.range n)[j]? with
    | none => rw [q] at h; cases h
    | some i => have := (List.getElem?_eq_some_iff.mp q).1; simpa using this
  rw [List.getElem?_range hj] at h
  refine ⟨hj, ?_⟩
  have h' : (match e[j]? with
    | some (.io d) => Cell.io d
    | _ => .no) = cl := Option.some.inj h
  split at h'
  · rename_i d hd; exact .inr ⟨d, h'.symm, hd⟩
  · exact .inl h'.symm
theorem Sta.io_par {i : Nat} {d : D} (S : Sta K mg c Hs H σ env) (h : env[i]? = some (.io d)) : ∃ v, σ[i]? = some (some v) ∧ c.par i = some v := by
  obtain ⟨B, hA, _⟩ := S.cells
  obtain ⟨v, g1, _, _, g4⟩ := hA i _ h
  exact ⟨v, g1, g4⟩
theorem Sta.exit {vs : List V} (S : Sta K mg c Hs H σ env) (hp : ∀ k v, vs[k]? = some v → c.par k = some v) : Sta K mg c Hs H (vs.map some) (outC vs.length env) := by
  refine S.pick (fun j => some j) (fun j k i h1 h2 => by cases h1; cases h2; rfl) (by simp [outC]) fun j cl hj => ?_
  obtain ⟨hlt, q⟩ := outC_at hj
  rcases q with q | ⟨d, rfl, hd⟩
  · exact .inl q
  · obtain ⟨v, h1, h2⟩ := S.io_par hd
    have h3 := hp j _ (List.getElem?_eq_getElem hlt)
    rw [h2] at h3
    exact .inr ⟨j, rfl, hd, by rw [List.getElem?_map, List.getElem?_eq_getElem hlt, h1, Option.some.inj h3]; rfl, .inl rfl⟩
theorem Sta.exitN {vs : List V} {v : V} {d : D} (S : Sta K mg c Hs H (σ ++ [some v]) (env ++ [.ow d])) (hp : ∀ k v, vs[k]? = some v → c.par k = some v) : Sta K mg c Hs H (vs.map some ++ [some v]) (outC vs.length env ++ [.ow d]) := by
  have hl : env.length = σ.length := by have := S.len; simp at this; exact this
  refine S.pick (fun j => if j < vs.length then (if j < env.length then some j else none) else if j = vs.length then some env.length else none) (fun j k i h1 h2 => ?_) (by simp [outC]) fun j cl hj => ?_
  · have h1' : (if j < vs.length then (if j < env.length then some j else none) else if j = vs.length then some env.length else none) = some i := h1
    have h2' : (if k < vs.length then (if k < env.length then some k else none) else if k = vs.length then some env.length else none) = some i := h2
    split at h1' <;> split at h1' <;> split at h2' <;> split at h2' <;> simp at h1' h2' <;> omega
  · by_cases e : j < vs.length
    · rw [List.getElem?_append_left (by simpa [outC] using e)] at hj
      obtain ⟨hlt, q⟩ := outC_at hj
      rcases q with q | ⟨d', rfl, hd⟩
      · exact .inl q
      · have hje : j < env.length := (List.getElem?_eq_some_iff.mp hd).1
        have hd' : (env ++ [Cell.ow d])[j]? = some (.io d') := by rw [app_lt hje]; exact hd
        obtain ⟨u, h1, h2⟩ := S.io_par hd'
        have h3 := hp j _ (List.getElem?_eq_getElem hlt)
        rw [h2] at h3
        refine .inr ⟨j, ?_, hd', ?_, .inl rfl⟩
        · show (if j < vs.length then (if j < env.length then some j else none) else _) = some j
          rw [if_pos e, if_pos hje]
        · rw [List.getElem?_append_left (by simpa using e), List.getElem?_map, List.getElem?_eq_getElem hlt, h1, Option.some.inj h3]; rfl
    · rw [List.getElem?_append_right (by simp [outC]; omega)] at hj
      have ej : j = vs.length := by
        have := (List.getElem?_eq_some_iff.mp hj).1
        simp [outC] at this
        omega
      subst ej
      have hcl : cl = .ow d := by simp [outC] at hj; exact hj.symm
      subst hcl
      refine .inr ⟨env.length, ?_, env_last, ?_, .inr ⟨d, rfl⟩⟩
      · show (if vs.length < vs.length then _ else if vs.length = vs.length then some env.length else none) = some env.length
        rw [if_neg (Nat.lt_irrefl _), if_pos rfl]
      · rw [hl, sig_last]
        simp
end

/-! ### a def's promise -/
def funM (m : S) (np nl : Nat) : Fn := fun cs => match m (cs ++ List.replicate (nl - np) .no) with
  | some (.nx e) => some (.val (false, .non) (outC np e))
  | some (.rt d e) => some (.val (false, d) (outC np e))
  | some (.rn d e) => some (.val (true, d) (outC np e))
  | some (.exc x e) => some (.exc x (outC np e))
  | _ => none
abbrev wE (E : XK) : WX := fun cls d _ H => E cls d H
section
variable {P : Program} {w : World} {K : PySem.W.Frag} {mg : Str → Option Value} {base : Heap}
theorem def_ok {x qual : Str} {st : Stmt} {f : Addr} {fd : FuncData} {N ps : List Str} {k np nl : Nat} {m : S} {Fn_ : Fn} (hF : Fn_ = funM m np nl) (h1 : ps.length = np) (h2 : N.length = nl) (F : Fun K x qual st f fd) (S : FnScope N ps (defScope st))
    (h : ∀ (cdv : Value) (A : Around) (outer : List PySem.Env) (s : Shared) (H : Hp) (E : XK), Room k (A.deeper (envOfC qual (defScope st) s.heap.objs.size f cdv)) →
      Takes (cxOf (L2.CX P w) P w K mg base N qual (defScope st) f cdv A outer s H E) (wE E) →
      PassesOwn (model P w) (A.deeper (envOfC qual (defScope st) s.heap.objs.size f cdv)) (envOfC qual (defScope st) s.heap.objs.size f cdv) (cxOf (L2.CX P w) P w K mg base N qual (defScope st) f cdv A outer s H E).xe →
      B' (cxOf (L2.CX P w) P w K mg base N qual (defScope st) f cdv A outer s H E) (wE E) (defBody st) m) :
    FnOk P w K mg base (L2.CX P w) (k + 1) f fd ps (vF K mg Fn_ np) := by
  subst hF h1 h2
  refine F.okX S (fun vs H Q E h => h.1) fun cdv A outer s H vs Q E hr hsp => ?_
  refine ⟨_, h cdv A outer s H E hr (takes_of rfl rfl rfl rfl) (passes_of (K := fun e s'' => L2.CX P w outer H s E e s'') rfl), ?_⟩
  obtain ⟨hlen, c, Hs, cs, Sc, hp, q⟩ := hsp
  have hl2 : cs.length = vs.length := by have := Sc.len; simpa using this
  show vS K mg (wE E) m _ (L2.start N vs) H
  refine ⟨c, Hs, cs ++ List.replicate (N.length - ps.length) .no, ?_, ?_⟩
  · unfold L2.start; rw [hlen]; exact Sc.pad _
  · unfold funM at q
    cases e : m (cs ++ List.replicate (N.length - ps.length) .no) with
    | none => rw [e] at q; exact q
    | some r =>
      rw [e] at q
      cases r with
      | nx e1 => exact fun Hs' H' σ' s => q Hs' H' .non (by rw [← hlen]; exact s.exit hp) .non
      | rt d e1 => exact fun Hs' H' σ' v s r => q Hs' H' v (by rw [← hlen]; exact s.exit hp) r
      | rn d e1 => exact fun Hs' H' σ' v s => q Hs' H' v (by rw [← hlen]; exact s.exitN hp)
      | bk e1 => exact q.elim
      | ct e1 => exact q.elim
      | exc x e1 => exact fun Hs' H' σ' cls dd s z => q Hs' H' cls dd (by rw [← hlen]; exact s.exit hp) z
/-- the law's own promise -/
def spLaw (K : PySem.W.Frag) : Sp := fun vs H Q _ => ∃ (a : Addr) (ns : List Int), vs = [.ref a] ∧ SqL K H a (ns.map V.int) ∧ ns.length ≤ 63 ∧ ∀ H', Q (.bl true) H'
theorem law_ok {k : Nat} {f : Addr} {fd : FuncData} {x : Str} {F : Fn} (G : FnOk P w K mg base (L2.CX P w) k f fd [x] (vF K mg F 1)) (hF : ∀ ns : List Int, ns.length ≤ 63 → ∃ fr cs, F [.sh (.fl (ns.map .int))] = some (.val (fr, .bl true) cs)) :
    FnOk P w K mg base (L2.CX P w) k f fd [x] (spLaw K) := by
  have key : ∀ vs H Q E, spLaw K vs H Q E → vF K mg F 1 vs H Q E := fun vs H Q E h => by
    obtain ⟨a, ns, rfl, hS, hn, q⟩ := h
    obtain ⟨fr, cs, e⟩ := hF ns hn
    have rl : RepL K mg H (ns.map V.int) (ns.map D.int) := by
      clear hS hn e
      induction ns with
      | nil => exact .nil
      | cons n r ih => exact .cons (.int n) ih
    refine ⟨rfl, ⟨H, H, [], fun k => [V.ref a][k]?, fun _ => none⟩, H, [.sh (.fl (ns.map .int))], ⟨Same.refl _, Same.refl _, fun _ _ h _ => h, fun _ h _ _ => h, fun _ h => h, fun _ _ _ h => (nomatch h), rfl, ⟨fun _ => [], fun i cl h => ?_, fun _ _ => rfl, fun _ => List.nodup_nil, fun _ _ _ _ h => (nomatch h)⟩⟩, fun k v h => h, ?_⟩
    · cases i with
      | zero =>
        cases h
        exact ⟨rfl, .ref a, rfl, .fl hS rl⟩
      | succ i => cases h
    · rw [e]
      cases fr with
      | true =>
        intro Hs' H' v s
        obtain ⟨Hs2, _, r, _⟩ := s.settle
        cases r
        exact q H'
      | false =>
        intro Hs' H' v s r
        cases r
        exact q H'
  exact ⟨fun vs H Q E h => G.len vs H Q E (key vs H Q E h), fun A outer s H args us vs Q E hr he hb hv hsp => G.run A outer s H args us vs Q E hr he hb hv (key vs H Q E hsp)⟩
end
end NK

set_option Elab.async false
set_option linter.all false
set_option maxRecDepth 100000
set_option maxHeartbeats 4000000
namespace NK
open PySem PySem.Spec PyProof.Rows L2 RZ

/-! ### slices -/
def vO (K : PySem.W.Frag) (mg : Str → Option Value) (W : WX) (f : M (Option Int)) : TO := fun σ H Q => ∃ c Hs env, Sta K mg c Hs H σ env ∧ Wp K mg W c σ Hs (f env) fun o _ Hs' H' => Q o H'
abbrev O' (X : Cx) (W : WX) (e : Option Expr) (f : M (Option Int)) : Prop := PO X e (vO X.K X.mg W f)
theorem _root_.L2.PO.mono {X : Cx} {e : Option Expr} {t t' : TO} (h : PO X e t) (k : ∀ σ H Q, t' σ H Q → t σ H Q) : PO X e t' := ⟨fun pins s σ H Q I q => h.run pins s σ H Q I (k σ H Q q)⟩
def cutL (xs : List D) (lo hi : Option Int) : List D := (xs.drop (HT.sIx xs.length 0 lo)).take (HT.sIx xs.length xs.length hi - HT.sIx xs.length 0 lo)
def cutM (g : D → Option Int → Option Int → Option D) (f : M D) (l h : M (Option Int)) : M D := bindM f fun d => bindM l fun lo => bindM h fun hi => liftM (g d lo hi)
def cutLD (d : D) (lo hi : Option Int) : Option D := (listOf d).map fun xs => .lst (cutL xs lo hi)
def cutTD (d : D) (lo hi : Option Int) : Option D := (tupOf d).map fun xs => .tup (cutL xs lo hi)
def cutSD (d : D) (lo hi : Option Int) : Option D := match d with
  | .str s => if s.length ≤ 1000000 then some (.str (cutS s lo hi)) else none
  | _ => none
section
variable {X : Cx} {e a b : Expr} {es : List Expr} {pos p p2 : Pos} {W : WX} {lo hi : Option Expr}
theorem l_none : O' X W none (pureM none) := po_none.mono fun σ H Q q => by
  obtain ⟨c, Hs, env, S, q⟩ := q
  exact q Hs H S (Same.refl _)
theorem l_some {f : M D} (h : E' X W e f) : O' X W (some e) (bindM f fun d => match d with | .int i => pureM (some i) | _ => failM) := (po_some h).mono fun σ H Q q => by
  obtain ⟨c, Hs, env, S, q⟩ := q
  refine ⟨c, Hs, env, S, (Wp.bind q).weak fun d e1 Hs1 H1 s1 z1 w v r => ?_⟩
  obtain ⟨S1, w⟩ := w
  cases r with
  | int i => exact ⟨i, rfl, w Hs1 H1 S1 (Same.refl _)⟩
  | _ => exact w.elim
theorem cutL_rep {K : PySem.W.Frag} {mg : Str → Option Value} {Hs : Hp} {xs : List V} {ds : List D} (r : RepL K mg Hs xs ds) (lo hi : Option Int) : RepL K mg Hs (cutV xs lo hi) (cutL ds lo hi) := by
  unfold cutV cutL
  rw [r.len]
  exact (r.drop _).take _
theorem n_cutL {f : M D} {l h : M (Option Int)} (he : E' X W e f) (hl : O' X W lo l) (hh : O' X W hi h) : N' X W (.Subscript e (.Slice lo hi none p2) pos) (cutM cutLD f l h) := (pe_slice sl_list he hl hh).mono fun σ H Q q => by
  obtain ⟨c, Hs, env, S, q⟩ := q
  refine ⟨c, Hs, env, S, (WpN.bind q).weak fun d e1 Hs1 H1 s1 z1 w v r => ?_⟩
  refine ⟨c, Hs1, e1, w.1, (WpN.bind w.2).weak fun l2 e2 Hs2 H2 s2 z2 w2 => ?_⟩
  refine ⟨c, Hs2, e2, w2.1, (WpN.bind w2.2).weak fun h3 e3 Hs3 H3 s3 z3 w3 => ?_⟩
  obtain ⟨d', hd, k⟩ := w3.2.lift
  unfold cutLD at hd
  cases el : listOf d with
  | none => rw [el] at hd; cases hd
  | some xs =>
    rw [el] at hd; cases hd
    obtain ⟨a, ys, rfl, hx, rl⟩ := list_of (z2.trans (z3.trans w3.1.s1)) r el
    exact ⟨a, ys, rfl, hx, fun p hp => k _ _ _ (w3.1.push hp ((cutL_rep rl l2 h3).mono (z2.trans z3))) (Same.refl _)⟩
theorem e_cutT {f : M D} {l h : M (Option Int)} (he : E' X W e f) (hl : O' X W lo l) (hh : O' X W hi h) : E' X W (.Subscript e (.Slice lo hi none p2) pos) (cutM cutTD f l h) := (pe_slice sl_tupA he hl hh).mono fun σ H Q q => by
  obtain ⟨c, Hs, env, S, q⟩ := q
  refine ⟨c, Hs, env, S, (Wp.bind q).weak fun d e1 Hs1 H1 s1 z1 w v r => ?_⟩
  refine ⟨c, Hs1, e1, w.1, (Wp.bind w.2).weak fun l2 e2 Hs2 H2 s2 z2 w2 => ?_⟩
  refine ⟨c, Hs2, e2, w2.1, (Wp.bind w2.2).weak fun h3 e3 Hs3 H3 s3 z3 w3 => ?_⟩
  obtain ⟨d', hd, k⟩ := w3.2.lift
  cases d with
  | tup xs =>
    cases hd
    obtain ⟨a, ys, rfl, hx, rl⟩ := tup_of (z2.trans (z3.trans w3.1.s1)) r (ds := xs) rfl
    refine ⟨a, ys, rfl, hx, fun hw => ?_, fun _ p hp => ?_⟩
    · have e : cutL xs l2 h3 = xs := by
        unfold cutL
        rw [← rl.len, hw.1, hw.2]
        simp [rl.len]
      have k' : ∀ (Hs' H' : Hp), Sta X.K X.mg c Hs' H' σ e3 → Same Hs3 Hs' → ∀ (v : V), Rep X.K X.mg Hs' v (.tup (cutL xs l2 h3)) → Q v H' := k
      rw [e] at k'
      exact k' Hs3 H3 w3.1 (Same.refl _) _ (r.mono (z2.trans z3))
    · exact k _ _ (w3.1.put hp) (same_new (w3.1.freshS hp)) _ (.tup (SqT.of upd_same) (((cutL_rep rl l2 h3).mono (z2.trans z3)).mono (same_new (w3.1.freshS hp))))
  | _ => cases hd
theorem e_cutS {f : M D} {l h : M (Option Int)} (he : E' X W e f) (hl : O' X W lo l) (hh : O' X W hi h) : E' X W (.Subscript e (.Slice lo hi none p2) pos) (cutM cutSD f l h) := (pe_slice sl_str he hl hh).mono fun σ H Q q => by
  obtain ⟨c, Hs, env, S, q⟩ := q
  refine ⟨c, Hs, env, S, (Wp.bind q).weak fun d e1 Hs1 H1 s1 z1 w v r => ?_⟩
  refine ⟨c, Hs1, e1, w.1, (Wp.bind w.2).weak fun l2 e2 Hs2 H2 s2 z2 w2 => ?_⟩
  refine ⟨c, Hs2, e2, w2.1, (Wp.bind w2.2).weak fun h3 e3 Hs3 H3 s3 z3 w3 => ?_⟩
  obtain ⟨d', hd, k⟩ := w3.2.lift
  cases d with
  | str z =>
    unfold cutSD at hd
    have hd' : (if z.length ≤ 1000000 then some (D.str (cutS z l2 h3)) else none) = some d' := hd
    split at hd'
    · rename_i hc
      cases hd'; cases r
      exact ⟨z, rfl, small_of hc, k Hs3 H3 w3.1 (Same.refl _) _ (.str _)⟩
    · cases hd'
  | _ => cases hd

/-! ### isinstance of built-in types -/
def pyTy : D → Option String
  | .non => some "NoneType"
  | .bl _ => some "bool"
  | .int _ => some "int"
  | .str _ => some "str"
  | .lst _ => some "list"
  | .fl _ => some "list"
  | .tup _ => some "tuple"
  | .dk _ => some "dict"
  | _ => none
def isiD : List D → Option D
  | [x, .ty n] => (pyTy x).bind fun t => (kitB t n).map .bl
  | _ => none
theorem pyTy_of {K : PySem.W.Frag} {mg : Str → Option Value} {Hs H : Hp} {v : V} {d : D} {t : String} (z : Same Hs H) (r : Rep K mg Hs v d) (h : pyTy d = some t) : TyX K H v (.type t) := by
  cases r <;> simp [pyTy] at h <;> subst h
  · exact .base .non
  · exact .base (.bl _)
  · exact .base (.int _)
  · exact .base (.str _)
  · rename_i h _; exact .base (.lst (z _ _ h))
  · rename_i h _
    rcases h with (h | ⟨o, h⟩) | ⟨o, its, n, hk, hc, _⟩
    · exact .base (.tup (z _ _ h))
    · exact .fTuple (z _ _ h)
    · exact .kTuple hk hc
  · rename_i h _
    rcases h with (h | ⟨o, h⟩) | ⟨o, its, n, hk, hc, _⟩
    · exact .base (.lst (z _ _ h))
    · exact .base (.frz (z _ _ h))
    · exact .kList hk hc
  · rename_i h _; exact .base (.dK (z _ _ h))
theorem o_isi {K : PySem.W.Frag} {mg : Str → Option Value} : OpN K mg (rIsi K) isiD := fun c Hs H σ env vs ds d Q S r h q => by
  unfold isiD at h
  split at h
  · rename_i x n
    obtain ⟨v, w, rfl, rv, rw⟩ := r.two_inv
    cases rw
    cases e : pyTy x with
    | none => rw [e] at h; cases h
    | some t =>
      rw [e] at h
      have h' : (kitB t n).map D.bl = some d := h
      cases e2 : kitB t n with
      | none => rw [e2] at h'; cases h'
      | some b =>
        rw [e2] at h'; cases h'
        exact ⟨v, .ty n, .type t, .type n, b, rfl, .ty n, pyTy_of S.s1 rv e, kit_ty e2, q Hs H _ S (Same.refl _) (.bl _)⟩
  · cases h

/-! ### enumerate, zip, reversed -/
def enumL (k : Int) : List D → List D
  | [] => []
  | d :: ds => .tup [.int k, d] :: enumL (k + 1) ds
theorem enumL_len : ∀ (ds : List D) (k : Int), (enumL k ds).length = ds.length
  | [], _ => rfl
  | d :: ds, k => by show (enumL (k + 1) ds).length + 1 = ds.length + 1; rw [enumL_len]
theorem enumL_at : ∀ (ds : List D) (k : Int) (i : Nat) (d : D), (enumL k ds)[i]? = some d → ∃ x, ds[i]? = some x ∧ d = .tup [.int (k + i), x]
  | [], k, i, d, h => by simp [enumL] at h
  | x :: ds, k, 0, d, h => by
    have h' : D.tup [.int k, x] = d := by simpa [enumL] using h
    exact ⟨x, rfl, by rw [← h']; simp⟩
  | x :: ds, k, i + 1, d, h => by
    have h' : (enumL (k + 1) ds)[i]? = some d := by simpa [enumL] using h
    obtain ⟨y, h1, h2⟩ := enumL_at ds (k + 1) i d h'
    refine ⟨y, by simpa using h1, ?_⟩
    rw [h2]
    congr 2
    push_cast
    congr 1
    omega
def enumD : List D → Option (List D)
  | [d] => (listOf d).map (enumL 0)
  | _ => none
theorem i_enum {elts : List Expr} {kk : Nat} {tpos : Pos} {h : M (List Arg)} (hm : X.mg "enumerate" = none) (ha : A' X W [e] h) (hg : Gl X "enumerate" := by rfl) (hs : starEach [e] X.env = [(false, eval e X.env)] := by rfl) :
    I' X W (.Tuple elts kk tpos) (.Call (.Name "enumerate" p) [e] [] pos) (itsM enumD h) :=
  (pi_enum hg hm ha hs).mono fun σ H R q => vI_bindA q fun c Hs H' env vs es ds S r hd k => by
    unfold enumD at hd
    split at hd
    · rename_i d0
      cases el : listOf d0 with
      | none => rw [el] at hd; cases hd
      | some ys =>
        rw [el] at hd; cases hd
        obtain ⟨v, rfl, rv⟩ := r.one_inv
        obtain ⟨a, xs, rfl, hx, rl⟩ := list_of (Same.refl _) rv el
        refine ⟨a, xs, rfl, S.s1.seq hx, k _ (WalkD.pair walk_enum (by rw [enumL_len, rl.len]) (fun H e => e.seq hx) fun i x y d hd h1 h2 => ?_)⟩
        obtain ⟨z, hz, rfl⟩ := enumL_at ys 0 i d hd
        obtain ⟨v, hv, rv⟩ := rl.get hz
        rw [hv] at h2; cases h2; cases h1
        exact ⟨_, _, rfl, by rw [Int.zero_add]; exact .int _, rv⟩
    · cases hd
def zipL : List D → List D → List D
  | x :: xs, y :: ys => .tup [x, y] :: zipL xs ys
  | _, _ => []
theorem zipL_len : ∀ (xs ys : List D), (zipL xs ys).length = min xs.length ys.length
  | [], ys => by simp [zipL]
  | x :: xs, [] => by simp [zipL]
  | x :: xs, y :: ys => by
    show (zipL xs ys).length + 1 = min (xs.length + 1) (ys.length + 1)
    rw [zipL_len xs ys]; omega
theorem zipL_at : ∀ (xs ys : List D) (i : Nat) (d : D), (zipL xs ys)[i]? = some d → ∃ x y, xs[i]? = some x ∧ ys[i]? = some y ∧ d = .tup [x, y]
  | [], ys, i, d, h => by simp [zipL] at h
  | x :: xs, [], i, d, h => by simp [zipL] at h
  | x :: xs, y :: ys, 0, d, h => ⟨x, y, rfl, rfl, by simpa [zipL, eq_comm] using h⟩
  | x :: xs, y :: ys, i + 1, d, h => by
    obtain ⟨a, b, h1, h2, h3⟩ := zipL_at xs ys i d (by simpa [zipL] using h)
    exact ⟨a, b, by simpa using h1, by simpa using h2, h3⟩
def zipD : List D → Option (List D)
  | [d, e] => match listOf d, listOf e with
    | some xs, some ys => some (zipL xs ys)
    | _, _ => match tupOf d, tupOf e with
      | some xs, some ys => some (zipL xs ys)
      | _, _ => none
  | _ => none
theorem walk_zipT {K : PySem.W.Frag} {a b : Addr} {xs ys : List V} {n : Nat} (hn : n = min xs.length ys.length) : Walk (ItzT K a b) n (fun H => SqT K H a xs ∧ SqT K H b ys) (YPair (fun i => xs[i]?) (fun i => ys[i]?)) := by
  subst hn
  refine ⟨fun i _ hi q => ?_, fun _ q => ⟨xs, ys, q.1, q.2, by omega⟩, fun i H v H' _ q y => ?_⟩
  · have h1 : i < xs.length := by omega
    have h2 : i < ys.length := by omega
    exact ⟨xs, ys, xs[i], ys[i], q.1, q.2, by simp [h1], by simp [h2]⟩
  · obtain ⟨T, x, z, h1, h2, h3, h4, h5⟩ := y
    exact ⟨T, x, z, h1, h2, h3, h4 xs q.1, h5 ys q.2⟩
theorem i_zip {elts : List Expr} {kk : Nat} {tpos : Pos} {h : M (List Arg)} (hm : X.mg "zip" = none) (ha : A' X W [a, b] h) (hg : Gl X "zip" := by rfl) (hs : starEach [a, b] X.env = (false, eval a X.env) :: starEach [b] X.env := by rfl) (hpl : (backTo pos (starEach [b] X.env)).any (·.1) = false := by rfl) :
    I' X W (.Tuple elts kk tpos) (.Call (.Name "zip" p) [a, b] [] pos) (itsM zipD h) :=
  (pi_zipA hg hm ha hs hpl).mono fun σ H R q => vI_bindA q fun c Hs H' env vs es ds S r hd k => by
    unfold zipD at hd
    split at hd
    · rename_i d0 e0
      obtain ⟨v, w, rfl, rv, rw⟩ := r.two_inv
      split at hd
      · rename_i us ws e1 e2
        cases hd
        obtain ⟨a, xs, rfl, hx, rl⟩ := list_of (Same.refl _) rv e1
        obtain ⟨b, ys, rfl, hy, rl'⟩ := list_of (Same.refl _) rw e2
        refine ⟨a, b, xs, ys, rfl, .inl ⟨S.s1.seq hx, S.s1.seq hy, k _ (WalkD.pair (walk_zip rfl) (by rw [zipL_len, rl.len, rl'.len]) (fun H e => ⟨e.seq hx, e.seq hy⟩) fun i x y d hd h1 h2 => ?_)⟩⟩
        obtain ⟨x', y', q1, q2, rfl⟩ := zipL_at us ws i d hd
        obtain ⟨v1, hv1, rv1⟩ := rl.get q1
        obtain ⟨v2, hv2, rv2⟩ := rl'.get q2
        rw [hv1] at h1; rw [hv2] at h2; cases h1; cases h2
        exact ⟨_, _, rfl, rv1, rv2⟩
      · split at hd
        · rename_i us ws e1 e2
          cases hd
          obtain ⟨a, xs, rfl, hx, rl⟩ := tup_of (Same.refl _) rv e1
          obtain ⟨b, ys, rfl, hy, rl'⟩ := tup_of (Same.refl _) rw e2
          refine ⟨a, b, xs, ys, rfl, .inr ⟨Same.seqT S.s1 hx, Same.seqT S.s1 hy, k _ (WalkD.pair (walk_zipT rfl) (by rw [zipL_len, rl.len, rl'.len]) (fun H e => ⟨Same.seqT e hx, Same.seqT e hy⟩) fun i x y d hd h1 h2 => ?_)⟩⟩
          obtain ⟨x', y', q1, q2, rfl⟩ := zipL_at us ws i d hd
          obtain ⟨v1, hv1, rv1⟩ := rl.get q1
          obtain ⟨v2, hv2, rv2⟩ := rl'.get q2
          rw [hv1] at h1; rw [hv2] at h2; cases h1; cases h2
          exact ⟨_, _, rfl, rv1, rv2⟩
        · cases hd
    · cases hd
def revD : List D → Option (List D)
  | [d] => (listOf d).map List.reverse
  | _ => none
theorem i_rev {tg : Expr} {h : M (List Arg)} (hm : X.mg "reversed" = none) (ha : A' X W [e] h) (hg : Gl X "reversed" := by rfl) (hs : starEach [e] X.env = [(false, eval e X.env)] := by rfl) : I' X W tg (.Call (.Name "reversed" p) [e] [] pos) (itsM revD h) :=
  (pi_reversed hg hm ha hs).mono fun σ H R q => vI_bindA q fun c Hs H' env vs es ds S r hd k => by
    unfold revD at hd
    split at hd
    · rename_i d0
      cases el : listOf d0 with
      | none => rw [el] at hd; cases hd
      | some ys =>
        rw [el] at hd; cases hd
        obtain ⟨v, rfl, rv⟩ := r.one_inv
        obtain ⟨a, xs, rfl, hx, rl⟩ := list_of (Same.refl _) rv el
        refine ⟨a, xs, rfl, S.s1.seq hx, k _ (WalkD.same walk_rev (by rw [List.length_reverse, rl.len]) (fun H e => e.seq hx) fun i H x H' d hd y => ?_)⟩
        obtain ⟨h1, h2⟩ := y
        have hi : i < ys.length := by
          have := (List.getElem?_eq_some_iff.mp hd).1
          simpa using this
        rw [List.getElem?_reverse hi] at hd
        rw [rl.len] at h2
        obtain ⟨v, hv, rv⟩ := rl.get hd
        rw [hv] at h2; cases h2
        exact ⟨h1, rv⟩
    · cases hd

/-! ### raise -/
structure ExcC (K : PySem.W.Frag) (mg : Str → Option Value) (x : Str) (C : Addr) : Prop where
  g : mg x = some (.ref C)
  x : PySem.W.excIn K C [.type "RuntimeError", .type "Exception", .type "BaseException", .type "object"] "RuntimeError.__new__" = true
  k : PySem.W.keepIn K (.ref C) = true
  b : PySem.W.subIn K (.ref C) (.type "BaseException") = some true
  t : PySem.W.typeIn K (.ref C) = some (.type "type")
def raiseS (x : Str) : S := fun e => some (.exc { nm := x } e)
theorem s_raise {x m : Str} {C : Addr} {j : Nat} {pos2 p3 : Pos} (T : ExcC X.K X.mg x C) (tk : Takes X W) (hc : X.calm = true := by rfl) (hg : Gl X x := by rfl) (hdb : (x == ("__debug__" : Str)) = false := by decide) : S' X W (.Raise (some (.Call (.Name x p) [.Constant (.str m) j p2] [] p3)) none pos2) (raiseS x) :=
  (ps_raise hc tk (pmk_own PySem.F.excBase_RuntimeError T.x T.g T.k (raises_own T.b T.t) hg hdb)).mono fun D σ H q => by
    obtain ⟨c, Hs, env, S, q⟩ := q
    exact q Hs H σ (.ref C) none S ⟨C, T.g, rfl, rfl⟩
end
end NK

set_option Elab.async false
set_option linter.all false
set_option maxRecDepth 100000
set_option maxHeartbeats 4000000
namespace NK
open PySem PySem.Spec PyProof.Rows L2

/-! ### names of the module -/
def ConF (K : PySem.W.Frag) (mg : Str → Option Value) (x : Str) (d : D) : Prop := ∃ u v, mg x = some u ∧ RelV v u ∧ ∀ Hs : Hp, Rep K mg Hs v d
section
variable {K : PySem.W.Frag} {mg : Str → Option Value} {x : Str}
theorem ConF.int {n : Int} {t : Tok} (h : mg x = some (.int n t)) : ConF K mg x (.int n) := ⟨_, .int n, h, ⟨t, rfl⟩, fun _ => .int n⟩
theorem ConF.str {n : Str} {t : Tok} (h : mg x = some (.str n t)) : ConF K mg x (.str n) := ⟨_, .str n, h, ⟨t, rfl⟩, fun _ => .str n⟩
end
/-- a def of the module, by its plain function -/
structure Cal (P : Program) (w : World) (K : PySem.W.Frag) (mg : Str → Option Value) (base : Heap) (x : Str) (k : Nat) (F : Fn) (np : Nat) : Prop where
  ex : ∃ f fd ps, mg x = some (.ref f) ∧ PySem.W.keepIn K (.ref f) = true ∧ Binds K fd ps [] ∧ FnOk P w K mg base (L2.CX P w) k f fd ps (vF K mg F np)
def negM (f : M D) : M D := bindM f fun d => match d with
  | .int i => pureM (.int (-i))
  | _ => failM
def partM (f : M D) : M (Option Int) := bindM f fun d => match d with | .int i => pureM (some i) | _ => failM
section
variable {X : Cx} {e a b : Expr} {es : List Expr} {st : Stmt} {pos p p2 p3 pos2 : Pos} {W : WX} {x : Str}
theorem e_glob {d : D} (T : ConF X.K X.mg x d) (hg : Gl X x := by rfl) (hd : (x == ("__debug__" : Str)) = false := by decide) : E' X W (.Name x pos) (conM d) := by
  obtain ⟨u, v, h, r, q⟩ := T
  exact e_con (pe_glob hg h r hd) q
theorem e_cls (T : ∃ C, X.mg x = some (.ref C)) (hg : Gl X x := by rfl) (hd : (x == ("__debug__" : Str)) = false := by decide) : E' X W (.Name x pos) (conM (.cl x)) := by
  obtain ⟨C, h⟩ := T
  exact e_con (pe_glob (v := .ref C) hg h rfl hd) fun _ => .cl h
theorem e_ty {n : String} (hm : X.mg x = none) (hv : bootBuiltins x = some (.type n)) (hg : Gl X x := by rfl) (hn : x ≠ "__name__" := by decide) (hd : (x == ("__debug__" : Str)) = false := by decide) : E' X W (.Name x pos) (conM (.ty n)) :=
  e_con (pe_bltn (v := .ty n) hg hm hv rfl hn hd) fun _ => .ty n
theorem e_neg {f : M D} (ha : E' X W a f) : E' X W (.UnaryOp .USub a pos) (negM f) := (pe_un un_neg ha).mono fun σ H Q q => by
  obtain ⟨c, Hs, env, S, q⟩ := q
  refine ⟨c, Hs, env, S, (Wp.bind q).weak fun d e1 Hs1 H1 s1 z1 w v r => ?_⟩
  obtain ⟨S1, w⟩ := w
  cases r with
  | int i => exact ⟨i, rfl, w Hs1 H1 S1 (Same.refl _) _ (.int _)⟩
  | _ => exact w.elim
theorem e_calC {F : Fn} {np k : Nat} {h : M (List Arg)} (C : Cal X.prog X.w X.K X.mg X.base x k F np) (hr : Room k X.A) (tk : Takes X W) (ha : A' X W (e :: es) h) (hg : Gl X x := by rfl) (hdb : (x == ("__debug__" : Str)) = false := by decide)
    (he : starEach (e :: es) X.env = (false, eval e X.env) :: starEach es X.env := by rfl) (hpl : (backTo pos (starEach es X.env)).any (·.1) = false := by rfl) : E' X W (.Call (.Name x p) (e :: es) [] pos) (callM F np h) := by
  obtain ⟨f, fd, ps, hm, hk, hb, G⟩ := C.ex
  exact e_call G hr tk hm hk hb ha hg hdb he hpl
theorem n_calC {F : Fn} {np k : Nat} {h : M (List Arg)} (C : Cal X.prog X.w X.K X.mg X.base x k F np) (hr : Room k X.A) (tk : Takes X W) (ha : A' X W (e :: es) h) (hg : Gl X x := by rfl) (hdb : (x == ("__debug__" : Str)) = false := by decide)
    (he : starEach (e :: es) X.env = (false, eval e X.env) :: starEach es X.env := by rfl) (hpl : (backTo pos (starEach es X.env)).any (·.1) = false := by rfl) : N' X W (.Call (.Name x p) (e :: es) [] pos) (callN F np h) := by
  obtain ⟨f, fd, ps, hm, hk, hb, G⟩ := C.ex
  exact n_call G hr tk hm hk hb ha hg hdb he hpl
theorem s_raiseE {m : Str} {j : Nat} (T : ∃ C, ExcC X.K X.mg x C) (tk : Takes X W) (hc : X.calm = true := by rfl) (hg : Gl X x := by rfl) (hdb : (x == ("__debug__" : Str)) = false := by decide) : S' X W (.Raise (some (.Call (.Name x p) [.Constant (.str m) j p2] [] p3)) none pos2) (raiseS x) := by
  obtain ⟨C, T⟩ := T
  exact s_raise T tk hc hg hdb
/-- a comprehension given to a name at once -/
theorem n_setLc {i : Nat} {y : Str} {py : Pos} {elt tg it : Expr} {ifs : List Expr} {scope : Scope} {own : List (Str × Nat)} {spos : Pos} {g : M (List D)} {t : Tg} {pp : M Bool} {f : M D} {tvs : List Nat} (hN : X.N.Nodup) (hy : X.N[i]? = some y) (hyl : X.env.scope.names.lookup y = some .local)
    (hsw : swapsWith (.ListComp elt [⟨tg, it, ifs, 0⟩] scope pos) (some (.Name y py)) spos.line X.env = pure true) (hi : I' X W tg it g) (ok : BlkOk X.N X.env.scope scope own)
    (hg : ∀ (s : Shared) (H : Hp) (C : Addr) (cl : List (Str × Addr)) (fp : List Addr), G' (X.blk s H scope (compEnvC scope cl C X.env) fp) tg t tvs) (hp : ∀ (s : Shared) (H : Hp) (C : Addr) (cl : List (Str × Addr)) (fp : List Addr), PTs (X.blk s H scope (compEnvC scope cl C X.env) fp) ifs (vT X.K X.mg W0 pp))
    (he : ∀ (s : Shared) (H : Hp) (C : Addr) (cl : List (Str × Addr)) (fp : List Addr), E' (X.blk s H scope (compEnvC scope cl C X.env) fp) W0 elt f) {vs : List Nat} (hv : own.map (·.2) = vs := by rfl) (ht : ∀ j ∈ tvs, j ∈ vs := by decide) (hc : X.calm = true := by rfl) (hs : ∀ x, foldedSetIterable it X.env x = pure x := by intro _; rfl) :
    PS X (.Assign [.Name y py] (.ListComp elt [⟨tg, it, ifs, 0⟩] scope pos) spos) (tAsg (vN X.K X.mg W (lcM g t pp f vs)) (gName i)) := by
  subst hv
  exact (ps_setLc hc hN hy hyl hsw hi ok hg hp he hs).mono fun D σ H q => tLc_of (Q := fun x H1 => gName i x σ H1 D.nx) ht q
theorem s_setN {i : Nat} {f : M D} (hg : PS X st (tAsg (vN X.K X.mg W f) (gName i))) : S' X W st (setS i f) :=
  s_set (hg.mono fun D σ H q => vN_of_vE (Q := fun x H1 => gName i x σ H1 D.nx) q)
def parS (i j : Nat) (h : M (List Arg)) : S := fun e => match lisM h e with
  | some (.val [d1, d2] e') => some (.nx ((e'.set i (.sh d1)).set j (.sh d2)))
  | some (.val _ _) => none
  | some (.exc x e') => some (.exc x e')
  | none => none
theorem s_par {i j : Nat} {h : M (List Arg)} (hp : PS X st (tPar i j (vA X.K X.mg W h))) : S' X W st (parS i j h) := hp.mono fun D σ H q => by
  obtain ⟨c, Hs, env, S, q⟩ := q
  refine ⟨c, Hs, env, S, ?_⟩
  unfold parS lisM bindM at q
  cases e : h env with
  | none => rw [e] at q; exact q.elim
  | some r =>
    rw [e] at q
    cases r with
    | exc x e1 => exact fun Hs' H' cls dd s _ z => q Hs' H' σ cls dd s z
    | val as e1 =>
      cases e2 : valsOf as with
      | none => simp only [e2, NK.liftM, failM] at q; exact q.elim
      | some ds =>
        simp only [e2, NK.liftM, pureM] at q
        intro Hs1 H1 s1 z1 vs r
        have rl := r.vals e2
        match ds, q, rl with
        | [d1, d2], q, rl =>
          obtain ⟨v, w, rfl, rv, rw⟩ := rl.two_inv
          exact ⟨v, w, rfl, q Hs1 H1 _ ((s1.set rv).set rw)⟩
        | [], q, rl => exact q.elim
        | [_], q, rl => exact q.elim
        | _ :: _ :: _ :: _, q, rl => exact q.elim
theorem t_vcmp {op : CmpOp} {f : M D} (h : E' X W (.Compare a [op] [b] pos) f) (ht : ∀ whole, isTrue (.Compare a [op] [b] pos) X.env whole = (do let v ← whole; standAt (Expr.Compare a [op] [b] pos).pos; holding [v] (truthy v)) := by intro _; rfl) : T' X W (.Compare a [op] [b] pos) (boolM f) := t_val h ht
/-- list + list -/
def catLM (fa fb : M D) : M D := bindM fa fun x => bindM fb fun y => match x, y with
  | .lst xs, .lst ys => if xs.length + ys.length ≤ 1000000 then pureM (.lst (xs ++ ys)) else failM
  | _, _ => failM
theorem n_cat {fa fb : M D} (ha : E' X W a fa) (hb : E' X W b fb) : N' X W (.BinOp a .Add b pos) (catLM fa fb) := (pe_op op_cat ha hb).mono fun σ H Q q => by
  obtain ⟨c, Hs, env, S, q⟩ := q
  refine ⟨c, Hs, env, S, (WpN.bind q).weak fun d1 e1 Hs1 H1 s1 z1 w v r => ?_⟩
  refine ⟨c, Hs1, e1, w.1, (WpN.bind w.2).weak fun d2 e2 Hs2 H2 s2 z2 w2 v2 r2 => ?_⟩
  obtain ⟨S2, w3⟩ := w2
  split at w3
  · rename_i xs ys
    split at w3
    · rename_i hn
      cases r with
      | lst h1 q1 =>
        cases r2 with
        | lst h2 q2 =>
          exact ⟨_, _, _, _, rfl, rfl, S2.s1 _ _ (z2 _ _ h1), S2.s1 _ _ h2, by rw [q1.len, q2.len]; exact small_of hn, fun p hp => w3 _ _ _ (S2.push hp ((q1.mono z2).app q2)) (Same.refl _)⟩
    · exact w3.elim
  · exact w3.elim
end
theorem Cal.law {P : Program} {w : World} {K : PySem.W.Frag} {mg : Str → Option Value} {base : Heap} {k : Nat} {F : Fn} {f : Addr} {fd : FuncData} {x : Str} (G : FnOk P w K mg base (L2.CX P w) k f fd [x] (vF K mg F 1))
    (hF : ∀ ns : List Int, ns.length ≤ 63 → ∃ fr cs, F [.sh (.fl (ns.map .int))] = some (.val (fr, .bl true) cs)) : FnOk P w K mg base (L2.CX P w) k f fd [x] (spLaw K) := law_ok G hF
theorem cx_none {P : Program} {w : World} {H : Hp} {s : Shared} {e : Value} {s' : Shared} (h : L2.CX P w [] H s (fun _ _ _ => False) e s') : False := by
  obtain ⟨_, _, _, _, _, _, _, _, _, _, _, _, z⟩ := h
  exact z
end NK

set_option Elab.async false
set_option linter.all false
set_option maxRecDepth 100000
set_option maxHeartbeats 4000000
namespace NK
open PySem PySem.Spec PyProof.Rows L2
/-! ### == of data, plainly -/
mutual
def clay : D → Bool
  | .non => true
  | .bl _ => true
  | .int _ => true
  | .str s => PyData.strOk s
  | .lst xs => clays xs
  | .fl xs => clays xs
  | .tup xs => clays xs
  | .dk _ => false
  | .ob _ _ => false
  | .ty _ => false
  | .cl _ => false
  | .ex _ _ => false
  | .mu _ => false
  | .ml _ => false
def clays : List D → Bool
  | [] => true
  | d :: ds => clay d && clays ds
end
mutual
def dep : D → Nat
  | .lst xs => 1 + deps xs
  | .fl xs => 1 + deps xs
  | .tup xs => 1 + deps xs
  | _ => 1
def deps : List D → Nat
  | [] => 0
  | d :: ds => max (dep d) (deps ds)
end
mutual
def eqv : D → D → Bool
  | .non, .non => true
  | .bl a, .bl b => a == b
  | .bl a, .int j => (if a then 1 else 0) == j
  | .int i, .bl b => i == (if b then 1 else 0)
  | .int i, .int j => i == j
  | .str x, .str y => x == y
  | .lst xs, .lst ys => eqvs xs ys
  | .lst xs, .fl ys => eqvs xs ys
  | .fl xs, .lst ys => eqvs xs ys
  | .fl xs, .fl ys => eqvs xs ys
  | .tup xs, .tup ys => eqvs xs ys
  | _, _ => false
def eqvs : List D → List D → Bool
  | [], [] => true
  | x :: xs, y :: ys => eqv x y && eqvs xs ys
  | _, _ => false
end
mutual
theorem clay_of : ∀ d : D, clay d = (toP d).canLay0
  | .non => rfl
  | .bl _ => rfl
  | .int _ => rfl
  | .str s => rfl
  | .lst xs => clays_of xs
  | .fl xs => clays_of xs
  | .tup xs => clays_of xs
  | .dk _ => rfl
  | .ob _ _ => rfl
  | .ty _ => rfl
  | .cl _ => rfl
  | .ex _ _ => rfl
  | .mu _ => rfl
  | .ml _ => rfl
theorem clays_of : ∀ ds : List D, clays ds = PyData.canLayAll0 (toPs ds)
  | [] => rfl
  | d :: ds => by simp only [clays, toPs, PyData.canLayAll0, clay_of d, clays_of ds]
end
mutual
theorem dep_of : ∀ d : D, (toP d).depth ≤ dep d
  | .non => by simp [toP, PyData.depth, dep]
  | .bl _ => by simp [toP, PyData.depth, dep]
  | .int _ => by simp [toP, PyData.depth, dep]
  | .str s => by simp [toP, PyData.depth, dep]
  | .lst xs => by have := deps_of xs; simp [toP, PyData.depth, dep]; omega
  | .fl xs => by have := deps_of xs; simp [toP, PyData.depth, dep]; omega
  | .tup xs => by have := deps_of xs; simp [toP, PyData.depth, dep]; omega
  | .dk _ => by simp [toP, PyData.depth, dep, PyData.depthKv]
  | .ob _ _ => by simp [toP, PyData.depth, dep, PyData.depthKv]
  | .ty _ => by simp [toP, PyData.depth, dep, PyData.depthKv]
  | .cl _ => by simp [toP, PyData.depth, dep, PyData.depthKv]
  | .ex _ _ => by simp [toP, PyData.depth, dep, PyData.depthKv]
  | .mu _ => by simp [toP, PyData.depth, dep, PyData.depthKv]
  | .ml _ => by simp [toP, PyData.depth, dep, PyData.depthKv]
theorem deps_of : ∀ ds : List D, PyData.depthAll (toPs ds) ≤ deps ds
  | [] => by simp [toPs, PyData.depthAll, deps]
  | d :: ds => by
    have h1 := dep_of d
    have h2 := deps_of ds
    simp only [toPs, PyData.depthAll, deps]
    omega
end
mutual
theorem eqv_of : ∀ (x y : D), clay x = true → clay y = true → PyData.eqv (toP x) (toP y) = eqv x y
  | .lst xs, y, h1, h2 => by cases y <;> first | (simp only [toP, PyData.eqv, eqv]; done) | (simp only [toP, PyData.eqv, eqv]; exact eqvs_of xs _ h1 h2) | (exact Bool.noConfusion h2)
  | .fl xs, y, h1, h2 => by cases y <;> first | (simp only [toP, PyData.eqv, eqv]; done) | (simp only [toP, PyData.eqv, eqv]; exact eqvs_of xs _ h1 h2) | (exact Bool.noConfusion h2)
  | .tup xs, y, h1, h2 => by cases y <;> first | (simp only [toP, PyData.eqv, eqv]; done) | (simp only [toP, PyData.eqv, eqv]; exact eqvs_of xs _ h1 h2) | (exact Bool.noConfusion h2)
  | .non, y, h1, h2 => by cases y <;> first | (simp only [toP, PyData.eqv, eqv]; done) | (exact Bool.noConfusion h2)
  | .bl _, y, h1, h2 => by cases y <;> first | (simp only [toP, PyData.eqv, eqv]; done) | (exact Bool.noConfusion h2)
  | .int _, y, h1, h2 => by cases y <;> first | (simp only [toP, PyData.eqv, eqv]; done) | (exact Bool.noConfusion h2)
  | .str _, y, h1, h2 => by cases y <;> first | (simp only [toP, PyData.eqv, eqv]; done) | (exact Bool.noConfusion h2)
  | .dk _, y, h1, h2 => Bool.noConfusion h1
  | .ob _ _, y, h1, h2 => Bool.noConfusion h1
  | .ty _, y, h1, h2 => Bool.noConfusion h1
  | .cl _, y, h1, h2 => Bool.noConfusion h1
  | .ex _ _, y, h1, h2 => Bool.noConfusion h1
  | .mu _, y, h1, h2 => Bool.noConfusion h1
  | .ml _, y, h1, h2 => Bool.noConfusion h1
theorem eqvs_of : ∀ (xs ys : List D), clays xs = true → clays ys = true → PyData.eqvAll (toPs xs) (toPs ys) = eqvs xs ys
  | [], [], _, _ => by simp only [toPs, PyData.eqvAll, eqvs]
  | [], _ :: _, _, _ => by simp only [toPs, PyData.eqvAll, eqvs]
  | _ :: _, [], _, _ => by simp only [toPs, PyData.eqvAll, eqvs]
  | x :: xs, y :: ys, h1, h2 => by
    simp only [clays, Bool.and_eq_true] at h1 h2
    simp only [toPs, PyData.eqvAll, eqvs, eqv_of x y h1.1 h2.1, eqvs_of xs ys h1.2 h2.2]
end
/-- data that may be compared -/
def fit (d : D) : Bool := clay d && decide (dep d ≤ 64)
theorem eqDB_of {x y : D} (h1 : fit x = true) (h2 : fit y = true) : eqDB x y = some (eqv x y) := by
  unfold fit at h1 h2
  rw [Bool.and_eq_true, decide_eq_true_eq] at h1 h2
  have s : ∀ d : D, clay d = true → dep d ≤ 64 → SeqAt.shaped (toP d) = true := fun d a b => by
    unfold SeqAt.shaped
    rw [← clay_of, a, Bool.true_and, decide_eq_true_eq]
    exact Nat.le_trans (dep_of d) b
  unfold eqDB
  rw [if_pos ⟨s x h1.1 h1.2, s y h2.1 h2.2⟩, eqv_of x y h1.1 h2.1]
theorem clays_map {α : Type} {f : α → D} (h : ∀ a, clay (f a) = true) : ∀ l : List α, clays (l.map f) = true
  | [] => rfl
  | a :: l => by simp only [List.map_cons, clays, h a, clays_map h l, Bool.and_self]
theorem deps_map {α : Type} {f : α → D} {n : Nat} (h : ∀ a, dep (f a) ≤ n) : ∀ l : List α, deps (l.map f) ≤ n
  | [] => Nat.zero_le _
  | a :: l => by
    have h1 := h a
    have h2 := deps_map h l
    simp only [List.map_cons, deps]
    omega
theorem eqvs_map {α : Type} {f : α → D} [DecidableEq α] (h : ∀ a b, eqv (f a) (f b) = decide (a = b)) : ∀ l m : List α, eqvs (l.map f) (m.map f) = decide (l = m)
  | [], [] => by simp [eqvs]
  | [], _ :: _ => by simp [eqvs]
  | _ :: _, [] => by simp [eqvs]
  | a :: l, b :: m => by
    simp only [List.map_cons, eqvs, h a b, eqvs_map h l m]
    by_cases e1 : a = b <;> by_cases e2 : l = m <;> simp [e1, e2]
@[simp] theorem clays_int (l : List Int) : clays (l.map D.int) = true := clays_map (fun _ => rfl) l
theorem deps_int (l : List Int) : deps (l.map D.int) ≤ 1 := deps_map (fun _ => by simp [dep]) l
@[simp] theorem eqvs_int (l m : List Int) : eqvs (l.map D.int) (m.map D.int) = decide (l = m) := eqvs_map (fun a b => by simp [eqv]; rfl) l m
@[simp] theorem eqvs_nil (l : List D) : eqvs l [] = l.isEmpty := by cases l <;> simp [eqvs]
@[simp] theorem eqvs_nil' (l : List D) : eqvs [] l = l.isEmpty := by cases l <;> simp [eqvs]
@[simp] theorem fit_int (i : Int) : fit (.int i) = true := rfl
@[simp] theorem fit_bl (i : Bool) : fit (.bl i) = true := rfl
@[simp] theorem fit_non : fit .non = true := rfl
theorem fit_lst {xs : List D} (h1 : clays xs = true) (h2 : deps xs ≤ 63) : fit (.lst xs) = true := by
  have e : fit (.lst xs) = (clays xs && decide (1 + deps xs ≤ 64)) := rfl
  rw [e, h1, Bool.true_and, decide_eq_true_eq]; omega
theorem fit_fl {xs : List D} (h1 : clays xs = true) (h2 : deps xs ≤ 63) : fit (.fl xs) = true := by
  have e : fit (.fl xs) = (clays xs && decide (1 + deps xs ≤ 64)) := rfl
  rw [e, h1, Bool.true_and, decide_eq_true_eq]; omega
theorem fit_tup {xs : List D} (h1 : clays xs = true) (h2 : deps xs ≤ 63) : fit (.tup xs) = true := by
  have e : fit (.tup xs) = (clays xs && decide (1 + deps xs ≤ 64)) := rfl
  rw [e, h1, Bool.true_and, decide_eq_true_eq]; omega
@[simp] theorem fit_lints (l : List Int) : fit (.lst (l.map .int)) = true := fit_lst (clays_int l) (Nat.le_trans (deps_int l) (by decide))
@[simp] theorem fit_fints (l : List Int) : fit (.fl (l.map .int)) = true := fit_fl (clays_int l) (Nat.le_trans (deps_int l) (by decide))
@[simp] theorem fit_tints (l : List Int) : fit (.tup (l.map .int)) = true := fit_tup (clays_int l) (Nat.le_trans (deps_int l) (by decide))
@[simp] theorem fit_lnil : fit (.lst []) = true := by simp [fit, clay, clays, dep, deps]
@[simp] theorem fit_tnil : fit (.tup []) = true := by simp [fit, clay, clays, dep, deps]
@[simp] theorem eqDB_ii (i j : Int) : eqDB (.int i) (.int j) = some (decide (i = j)) := by rw [eqDB_of (by simp) (by simp)]; simp [eqv]; rfl
@[simp] theorem eqDB_lints (l m : List Int) : eqDB (.lst (l.map .int)) (.lst (m.map .int)) = some (decide (l = m)) := by rw [eqDB_of (by simp) (by simp)]; simp [eqv]
@[simp] theorem eqDB_tints (l m : List Int) : eqDB (.tup (l.map .int)) (.tup (m.map .int)) = some (decide (l = m)) := by rw [eqDB_of (by simp) (by simp)]; simp [eqv]
@[simp] theorem eqDB_fnil (l : List Int) : eqDB (.fl (l.map .int)) (.lst []) = some l.isEmpty := by rw [eqDB_of (by simp) (by simp)]; simp [eqv]
@[simp] theorem eqDB_nils (l : List Int) : eqDB (.lst (l.map .int)) (.lst []) = some l.isEmpty := by rw [eqDB_of (by simp) (by simp)]; simp [eqv]
@[simp] theorem eqDB_pair (a b c d : Int) : eqDB (.tup [.int a, .int b]) (.tup [.int c, .int d]) = some (decide (a = c ∧ b = d)) := by
  have h := eqDB_tints [a, b] [c, d]
  simpa using h
end NK

set_option Elab.async false
set_option linter.all false
set_option maxRecDepth 100000
set_option maxHeartbeats 4000000
namespace NK
open PySem PySem.Spec PyProof.Rows L2
/-! ### reading off, by simp -/
section
variable {α β : Type} {e e' : Env} {a : α}
@[simp] theorem q_bind {m : M α} {k : α → M β} : NK.bindM m k e = match m e with
  | some (.val a e') => k a e'
  | some (.exc x e') => some (.exc x e')
  | none => none := rfl
@[simp] theorem q_pure : (pureM a : M α) e = some (.val a e) := rfl
@[simp] theorem q_fail : (failM : M α) e = none := rfl
@[simp] theorem q_lift {a : α} : NK.liftM (some a) e = some (.val a e) := rfl
@[simp] theorem q_lift0 : NK.liftM (none : Option α) e = none := rfl
variable {i j n : Nat} {f fa fb fc fk : M D} {d : D} {g g' : D → D → Option D} {t p : M Bool} {ds : List D} {h r : M (List Arg)}
@[simp] theorem q_var : varM i e = match e[i]? with
  | some (.sh d) => some (.val d e)
  | _ => none := rfl
@[simp] theorem q_con : conM d e = some (.val d e) := rfl
@[simp] theorem q_op2 : op2M g fa fb = NK.bindM fa fun x => NK.bindM fb fun y => NK.liftM (g x y) := rfl
@[simp] theorem q_bool : boolM f = NK.bindM f fun d => match d with
  | .bl b => pureM b
  | _ => failM := rfl
@[simp] theorem q_chain : chainM g g' fa fb fc = NK.bindM fa fun x => NK.bindM fb fun y => match g x y with
  | some (.bl true) => NK.bindM fc fun z => NK.liftM (g' y z)
  | some (.bl false) => pureM (.bl false)
  | _ => failM := rfl
@[simp] theorem q_andM : NK.andM fa fb = NK.bindM fa fun x => match x with
  | .bl true => fb
  | .bl false => pureM (.bl false)
  | _ => failM := rfl
@[simp] theorem q_orM : NK.orM fa fb = NK.bindM fa fun x => match x with
  | .bl true => pureM (.bl true)
  | .bl false => fb
  | _ => failM := rfl
@[simp] theorem q_notM : notM fa = NK.bindM fa fun x => match x with
  | .bl b => pureM (.bl (!b))
  | _ => failM := rfl
variable {ta tb : M Bool}
@[simp] theorem q_andB : andB ta tb = NK.bindM ta fun x => match x with
  | true => tb
  | false => pureM false := rfl
@[simp] theorem q_orB : orB ta tb = NK.bindM ta fun x => match x with
  | true => pureM true
  | false => tb := rfl
@[simp] theorem q_notB : notB ta = NK.bindM ta fun x => pureM (!x) := rfl
@[simp] theorem q_iteM {x y : M α} : iteM t x y = NK.bindM t fun b => match b with
  | true => x
  | false => y := rfl
@[simp] theorem q_neg : negM f = NK.bindM f fun d => match d with
  | .int i => pureM (.int (-i))
  | _ => failM := rfl
@[simp] theorem q_part : partM f = NK.bindM f fun d => match d with | .int i => pureM (some i) | _ => failM := rfl
@[simp] theorem q_nil : nilM e = some (.val [] e) := rfl
@[simp] theorem q_cons : consM f r = NK.bindM f fun d => NK.bindM r fun as => pureM (.val d :: as) := rfl
@[simp] theorem q_hasV : hasV i e = match e[i]? with
  | some cl => cl.view.isSome
  | none => false := rfl
@[simp] theorem q_ownA : ownA i r e = if hasV i e = true then (NK.bindM r fun as => pureM (.own i :: as)) e else none := rfl
@[simp] theorem q_borA : borA i r e = if hasV i e = true then (NK.bindM r fun as => pureM (.bor i :: as)) e else none := rfl
@[simp] theorem q_vals0 : valsOf [] = some [] := rfl
@[simp] theorem q_vals1 {d : D} {r : List Arg} : valsOf (.val d :: r) = (valsOf r).map (d :: ·) := rfl
@[simp] theorem q_lis : lisM h = NK.bindM h fun as => NK.liftM (valsOf as) := rfl
@[simp] theorem q_cap : capL ds = if ds.length ≤ 1000000 then some ds else none := rfl
@[simp] theorem q_tup : tupM h = NK.bindM (lisM h) fun ds => NK.liftM ((capL ds).map .tup) := rfl
@[simp] theorem q_lst : lstM h = NK.bindM (lisM h) fun ds => NK.liftM ((capL ds).map .lst) := rfl
@[simp] theorem q_cb {g : List D → Option D} : cbM g h = NK.bindM (lisM h) fun ds => NK.liftM (g ds) := rfl
/-! values -/
@[simp] theorem q_add {i j : Int} : addD (.int i) (.int j) = some (.int (i + j)) := rfl
@[simp] theorem q_sub {i j : Int} : subD (.int i) (.int j) = some (.int (i - j)) := rfl
@[simp] theorem q_mul {i j : Int} : mulD (.int i) (.int j) = if (-(2 ^ 64) < i ∧ i < 2 ^ 64) ∨ (-(2 ^ 64) < j ∧ j < 2 ^ 64) then some (.int (i * j)) else none := rfl
@[simp] theorem q_div {i j : Int} : divD (.int i) (.int j) = if 0 < j ∧ j < 1073741824 then some (.int (i / j)) else none := rfl
@[simp] theorem q_mod {i j : Int} : modD (.int i) (.int j) = if 0 < j then some (.int (i % j)) else none := rfl
@[simp] theorem q_pow {i j : Int} : powD (.int i) (.int j) = if 0 ≤ j ∧ j ≤ 1000000 ∧ i.natAbs < 2 ^ 64 then some (.int (i ^ j.toNat)) else none := rfl
@[simp] theorem q_lt {i j : Int} : ltD (.int i) (.int j) = some (.bl (decide (i < j))) := rfl
@[simp] theorem q_le {i j : Int} : leD (.int i) (.int j) = some (.bl (decide (i ≤ j))) := rfl
@[simp] theorem q_gt {i j : Int} : gtD (.int i) (.int j) = some (.bl (decide (j < i))) := rfl
@[simp] theorem q_ge {i j : Int} : geD (.int i) (.int j) = some (.bl (decide (j ≤ i))) := rfl
@[simp] theorem q_eqD {x y : D} : eqD x y = (eqDB x y).map .bl := rfl
@[simp] theorem q_neD {x y : D} : neD x y = (eqDB x y).map fun b => .bl (!b) := rfl
@[simp] theorem q_is {x : D} : isD x .non = some (.bl (isNonB x)) := rfl
@[simp] theorem q_isn {x : D} : isnD x .non = some (.bl (!isNonB x)) := rfl
@[simp] theorem q_non : isNonB .non = true := rfl
@[simp] theorem q_non1 {i : Int} : isNonB (.int i) = false := rfl
@[simp] theorem q_non2 {i : List D} : isNonB (.lst i) = false := rfl
@[simp] theorem q_non3 {i : List D} : isNonB (.tup i) = false := rfl
@[simp] theorem q_non4 {i : Bool} : isNonB (.bl i) = false := rfl
@[simp] theorem q_non5 {i : Str} : isNonB (.str i) = false := rfl
@[simp] theorem q_ixl {xs : List D} {i : Int} : ixD (.lst xs) (.int i) = atI xs i := rfl
@[simp] theorem q_ixf {xs : List D} {i : Int} : ixD (.fl xs) (.int i) = atI xs i := rfl
@[simp] theorem q_ixt {xs : List D} {i : Int} : ixD (.tup xs) (.int i) = atI xs i := rfl
@[simp] theorem q_seq1 {xs : List D} : seqOf (.lst xs) = some xs := rfl
@[simp] theorem q_seq2 {xs : List D} : seqOf (.fl xs) = some xs := rfl
@[simp] theorem q_seq3 {xs : List D} : seqOf (.tup xs) = some xs := rfl
@[simp] theorem q_lis1 {xs : List D} : listOf (.lst xs) = some xs := rfl
@[simp] theorem q_lis2 {xs : List D} : listOf (.fl xs) = some xs := rfl
@[simp] theorem q_lis3 {xs : List D} : listOf (.tup xs) = none := rfl
@[simp] theorem q_tup1 {xs : List D} : tupOf (.tup xs) = some xs := rfl
@[simp] theorem q_lenl {xs : List D} : lenD [.lst xs] = some (.int xs.length) := rfl
@[simp] theorem q_lenf {xs : List D} : lenD [.fl xs] = some (.int xs.length) := rfl
@[simp] theorem q_lent {xs : List D} : lenD [.tup xs] = some (.int xs.length) := rfl
@[simp] theorem q_listl {xs : List D} : listD [.lst xs] = some (.lst xs) := rfl
@[simp] theorem q_listf {xs : List D} : listD [.fl xs] = some (.lst xs) := rfl
@[simp] theorem q_listt {xs : List D} : listD [.tup xs] = some (.lst xs) := rfl
@[simp] theorem q_tuplel {xs : List D} : tupleD [.lst xs] = some (.tup xs) := rfl
@[simp] theorem q_tuplet {xs : List D} : tupleD [.tup xs] = some (.tup xs) := rfl
@[simp] theorem q_sum {xs : List Int} : sumD [.tup (xs.map .int)] = some (.int xs.sum) := by simp [sumD, intsOf_map]
@[simp] theorem q_suml {xs : List Int} : sumD [.lst (xs.map .int)] = some (.int xs.sum) := by simp [sumD, intsOf_map]
@[simp] theorem q_all {xs : List Bool} : allD [.lst (xs.map .bl)] = some (.bl (xs.all id)) := by simp [allD, blsOf_map]
@[simp] theorem q_any {xs : List Bool} : anyD [.lst (xs.map .bl)] = some (.bl (xs.any id)) := by simp [anyD, blsOf_map]
@[simp] theorem ixN_zero {n : Nat} : ixN (n + 1) 0 = some 0 := by unfold ixN; simp
theorem ixN_of {n : Nat} {i : Int} (h0 : 0 ≤ i) (h : i < n) : ixN n i = some i.toNat := by unfold ixN; rw [if_pos h0, if_pos h]
theorem ixN_nat' {n j : Nat} (h : j < n) : ixN n (j : Int) = some j := by rw [ixN_of (by omega) (by omega)]; simp
theorem atI_of {α : Type} {xs : List α} {i : Int} {x : α} (h0 : 0 ≤ i) (h : xs[i.toNat]? = some x) : atI xs i = some x := by
  have hl := (List.getElem?_eq_some_iff.mp h).1
  unfold atI; rw [ixN_of h0 (by omega)]; exact h
@[simp] theorem atI_zero {α : Type} {x : α} {xs : List α} : atI (x :: xs) 0 = some x := by unfold atI; simp
@[simp] theorem atI_one {α : Type} {x y : α} {xs : List α} : atI (x :: y :: xs) 1 = some y := atI_of (by decide) rfl
/-! owned lists -/
@[simp] theorem q_own1 : Cell.own (.ow d) = some d := rfl
@[simp] theorem q_own2 : Cell.own (.io d) = some d := rfl
@[simp] theorem q_view1 : Cell.view (.ow d) = some d := rfl
@[simp] theorem q_view2 : Cell.view (.io d) = some d := rfl
@[simp] theorem q_view3 : Cell.view (.ro d) = some d := rfl
@[simp] theorem q_put1 {d' : D} : Cell.put (.ow d) d' = .ow d' := rfl
@[simp] theorem q_put2 {d' : D} : Cell.put (.io d) d' = .io d' := rfl
@[simp] theorem q_viewL : viewL i e = match e[i]? with
  | some cl => (match cl.view with | some (.lst xs) => some xs | _ => none)
  | none => none := rfl
@[simp] theorem q_putL {xs : List D} : putL i xs e = match e[i]? with
  | some cl => (match cl.own with | some (.lst _) => some (e.set i (cl.put (.lst xs))) | _ => none)
  | none => none := rfl
@[simp] theorem q_ixO : ixO i fk e = if (viewL i e).isSome then NK.bindM fk (fun k env' => match viewL i env' with
  | some xs => NK.liftM (ixD (.lst xs) k) env'
  | none => none) e else none := rfl
@[simp] theorem q_vw {gg : List D → Option D} : vwM i gg e = match viewL i e with
  | some xs => NK.liftM (gg xs) e
  | none => none := rfl
@[simp] theorem q_app : appM i f e = if (viewL i e).isSome then NK.bindM f (fun d env' => match viewL i env' with
  | some xs => if xs.length < 1000000 then (putL i (xs ++ [d]) env').map (.val .non) else none
  | none => none) e else none := rfl
@[simp] theorem q_setO : setO i f fk = withS f fun d e1 => if (viewL i e1).isSome then withS fk (fun k e2 => match viewL i e2, k with
  | some xs, .int n => (match ixN xs.length n with
    | some j => (putL i (xs.set j d) e2).map .nx
    | none => none)
  | _, _ => none) e1 else none := rfl
/-! statements -/
variable {m m' : S}
@[simp] theorem q_nx : nxS e = some (.nx e) := rfl
@[simp] theorem q_seq : seqS m m' e = match m e with
  | some (.nx e') => m' e'
  | r => r := rfl
@[simp] theorem q_with {k : D → S} : withS f k e = match f e with
  | some (.val d e') => k d e'
  | some (.exc x e') => some (.exc x e')
  | none => none := rfl
@[simp] theorem q_ite : iteS t m m' e = match t e with
  | some (.val true e') => m e'
  | some (.val false e') => m' e'
  | some (.exc x e') => some (.exc x e')
  | none => none := rfl
@[simp] theorem q_set : setS i f = withS f fun d e => some (.nx (e.set i (.sh d))) := rfl
@[simp] theorem q_new : newS i f = withS f fun d e => if i < e.length then some (.nx (e.set i (.ow d))) else none := rfl
@[simp] theorem q_asg {tg : Tg} : asgS f tg = withS f fun d e => (tg d e).map .nx := rfl
@[simp] theorem q_setT : setT i d e = some (e.set i (.sh d)) := rfl
@[simp] theorem q_tupT {u : List D → Env → Option Env} {xs : List D} : tupT n u (.tup xs) e = if xs.length = n then u xs e else none := rfl
@[simp] theorem q_nilT : nilT [] e = some e := rfl
@[simp] theorem q_consT {tg : Tg} {u : List D → Env → Option Env} : consT tg u (d :: ds) e = (tg d e).bind fun e' => u ds e' := rfl
@[simp] theorem q_rtOwn : rtOwn i e = match e[i]? with
  | some (.ow d) => some (.rt d (e.set i .no))
  | _ => none := rfl
@[simp] theorem q_rnOwn : rnOwn i e = match e[i]? with
  | some (.ow d) => some (.rn d (e.set i .no))
  | _ => none := rfl
@[simp] theorem q_frz : frzE i e = match e[i]? with
  | some (.ow d) => e.set i (.sh d)
  | _ => e := rfl
@[simp] theorem q_raise {x : Str} : raiseS x e = some (.exc { nm := x } e) := rfl
@[simp] theorem q_for {g : M (List D)} {tg : Tg} : forS g tg m e = match g e with
  | some (.val ds e) => loopS tg m ds e
  | some (.exc x e) => some (.exc x e)
  | none => none := rfl
@[simp] theorem q_loop0 {tg : Tg} : loopS tg m [] e = some (.nx e) := rfl
theorem loopS_cons {tg : Tg} : loopS tg m (d :: ds) e = match tg d e with
    | none => none
    | some e1 => match m e1 with
      | some (.nx e2) => loopS tg m ds e2
      | some (.ct e2) => loopS tg m ds e2
      | some (.bk e2) => some (.nx e2)
      | r => r := rfl
theorem whileS_succ {k : Nat} : whileS t m (k + 1) e = match t e with
    | some (.val true e1) => (match m e1 with
      | some (.nx e2) => whileS t m k e2
      | some (.ct e2) => whileS t m k e2
      | some (.bk e2) => some (.nx e2)
      | r => r)
    | some (.val false e1) => some (.nx e1)
    | some (.exc x e1) => some (.exc x e1)
    | none => none := rfl
@[simp] theorem q_it {g : D → Option (List D)} : itM g f = NK.bindM f fun d => NK.liftM (g d) := rfl
@[simp] theorem q_its {g : List D → Option (List D)} : itsM g h = NK.bindM (lisM h) fun ds => NK.liftM (g ds) := rfl
@[simp] theorem q_rng1 {n : Int} : rng1D [.int n] = @ite _ (-(2 ^ 62) ≤ n ∧ n < 2 ^ 62) (Classical.propDecidable _) (some (rngL 0 n)) none := rfl
@[simp] theorem q_rng2 {k n : Int} : rng2D [.int k, .int n] = @ite _ (-(2 ^ 62) ≤ k ∧ k < 2 ^ 62 ∧ -(2 ^ 62) ≤ n ∧ n < 2 ^ 62) (Classical.propDecidable _) (some (rngL k n)) none := rfl
@[simp] theorem q_yes : yesM e = some (.val true e) := rfl
@[simp] theorem q_lc {g : M (List D)} {tg : Tg} {vs : List Nat} : lcM g tg p f vs = NK.bindM g fun ds env => if ds.length ≤ 1000000 then (match lcL tg p f vs ds (wipeE env vs) with
  | some (out, e1) => some (.val (.lst out) (backS e1 env vs))
  | none => none) else none := rfl
@[simp] theorem q_lc0 {tg : Tg} {vs : List Nat} : lcL tg p f vs [] e = some ([], e) := rfl
theorem lcL_cons {tg : Tg} {vs : List Nat} : lcL tg p f vs (d :: ds) e = match tg d e with
    | none => none
    | some e1 => match p e1 with
      | some (.val true e2) => (match f e2 with
        | some (.val y e3) => (lcL tg p f vs ds (wipeE e3 vs)).map fun r => (y :: r.1, r.2)
        | _ => none)
      | some (.val false e2) => lcL tg p f vs ds (wipeE e2 vs)
      | _ => none := rfl
@[simp] theorem q_wipe0 : wipeE e [] = e := rfl
@[simp] theorem q_wipe1 {v : Nat} {vs : List Nat} : wipeE e (v :: vs) = (wipeE e vs).set v .no := rfl
@[simp] theorem q_back {env : Env} {vs : List Nat} : backS e env vs = e.mapIdx fun j cl => if vs.contains j then (match env[j]? with | some (.sh d) => .sh d | _ => .no) else cl := rfl
@[simp] theorem q_cut {g : D → Option Int → Option Int → Option D} {l hh : M (Option Int)} : cutM g f l hh = NK.bindM f fun d => NK.bindM l fun lo => NK.bindM hh fun hi => NK.liftM (g d lo hi) := rfl
@[simp] theorem q_cutT {xs : List D} {lo hi : Option Int} : cutTD (.tup xs) lo hi = some (.tup (cutL xs lo hi)) := rfl
@[simp] theorem q_cutLl {xs : List D} {lo hi : Option Int} : cutLD (.lst xs) lo hi = some (.lst (cutL xs lo hi)) := rfl
@[simp] theorem q_cutLf {xs : List D} {lo hi : Option Int} : cutLD (.fl xs) lo hi = some (.lst (cutL xs lo hi)) := rfl
@[simp] theorem q_catL : catLM fa fb = NK.bindM fa fun x => NK.bindM fb fun y => match x, y with
  | .lst xs, .lst ys => if xs.length + ys.length ≤ 1000000 then pureM (.lst (xs ++ ys)) else failM
  | _, _ => failM := rfl
@[simp] theorem q_catT {xs ys : List D} : catT (.tup xs) (.tup ys) = if xs.length + ys.length ≤ 1000000 then some (.tup (xs ++ ys)) else none := rfl
/-! calls -/
variable {F : Fn} {as : List Arg}
@[simp] theorem q_argsOk0 : argsOk [] = true := rfl
@[simp] theorem q_argsOk1 : argsOk (.val d :: as) = argsOk as := rfl
@[simp] theorem q_argsOk2 : argsOk (.own i :: as) = (!(as.any fun a => match a with | .own j => i == j | .bor j => i == j | _ => false) && argsOk as) := rfl
@[simp] theorem q_argsOk3 : argsOk (.bor i :: as) = (!(as.any fun a => a.isOwn i) && argsOk as) := rfl
@[simp] theorem q_find0 {q : Arg → Bool} : List.findIdx? q [] = none := rfl
@[simp] theorem q_find1 {q : Arg → Bool} {a : Arg} : List.findIdx? q (a :: as) = if q a then some 0 else (List.findIdx? q as).map (· + 1) := List.findIdx?_cons
@[simp] theorem q_isOwn1 : Arg.isOwn i (.val d) = false := rfl
@[simp] theorem q_isOwn2 : Arg.isOwn i (.own j) = (i == j) := rfl
@[simp] theorem q_isOwn3 : Arg.isOwn i (.bor j) = false := rfl
@[simp] theorem q_argv : argCell e (.val d) = .sh d := rfl
@[simp] theorem q_argo : argCell e (.own i) = match e[i]? with
    | some cl => (match cl.own with | some d => .io d | none => .no)
    | none => .no := rfl
@[simp] theorem q_argb : argCell e (.bor i) = match e[i]? with
    | some cl => (match cl.view with | some d => .ro d | none => .no)
    | none => .no := rfl
@[simp] theorem q_appF : appF F n as e = if argsOk as = true ∧ as.length = n then (match F (as.map (argCell e)) with
    | some (.val r cs) => if cs.length = n then some (.val r (backEnv e as cs)) else none
    | some (.exc x cs) => if cs.length = n then some (.exc x (backEnv e as cs)) else none
    | none => none) else none := rfl
@[simp] theorem q_backE {cs : List Cell} : backEnv e as cs = e.mapIdx fun j cl => match as.findIdx? (Arg.isOwn j) with
  | some k => (match cs[k]? with | some (.io d) => cl.put d | _ => .no)
  | none => cl := rfl
@[simp] theorem q_call : callM F n h = NK.bindM h fun as env => match appF F n as env with
  | some (.val r e) => some (.val r.2 e)
  | some (.exc x e) => some (.exc x e)
  | none => none := rfl
@[simp] theorem q_callN : callN F n h = NK.bindM h fun as env => match appF F n as env with
  | some (.val (true, d) e) => some (.val d e)
  | some (.val (false, d) e) => none
  | some (.exc x e) => some (.exc x e)
  | none => none := rfl
@[simp] theorem q_fun {np nl : Nat} : funM m np nl e = match m (e ++ List.replicate (nl - np) .no) with
  | some (.nx e) => some (.val (false, .non) (outC np e))
  | some (.rt d e) => some (.val (false, d) (outC np e))
  | some (.rn d e) => some (.val (true, d) (outC np e))
  | some (.exc x e) => some (.exc x (outC np e))
  | _ => none := rfl
def oC : Option Cell → Cell
  | some (.io d) => .io d
  | _ => .no
@[simp] theorem oC1 : oC (some (.io d)) = .io d := rfl
@[simp] theorem oC2 : oC (some (.sh d)) = .no := rfl
@[simp] theorem oC3 : oC (some (.ow d)) = .no := rfl
@[simp] theorem oC4 : oC (some (.ro d)) = .no := rfl
@[simp] theorem oC5 : oC (some .no) = .no := rfl
@[simp] theorem oC6 : oC none = .no := rfl
theorem outC_eq : outC n e = (List.range n).map fun (i : Nat) => oC e[i]? := by
  unfold outC; congr 1
@[simp] theorem q_out0 : outC 0 e = [] := by rw [outC_eq]; rfl
@[simp] theorem q_out1 : outC 1 e = [oC e[0]?] := by rw [outC_eq]; rfl
@[simp] theorem q_out2 : outC 2 e = [oC e[0]?, oC e[1]?] := by rw [outC_eq]; rfl
@[simp] theorem q_out3 : outC 3 e = [oC e[0]?, oC e[1]?, oC e[2]?] := by rw [outC_eq]; rfl
@[simp] theorem q_out4 : outC 4 e = [oC e[0]?, oC e[1]?, oC e[2]?, oC e[3]?] := by rw [outC_eq]; rfl
@[simp] theorem q_out5 : outC 5 e = [oC e[0]?, oC e[1]?, oC e[2]?, oC e[3]?, oC e[4]?] := by rw [outC_eq]; rfl
@[simp] theorem q_out6 : outC 6 e = [oC e[0]?, oC e[1]?, oC e[2]?, oC e[3]?, oC e[4]?, oC e[5]?] := by rw [outC_eq]; rfl
@[simp] theorem q_out7 : outC 7 e = [oC e[0]?, oC e[1]?, oC e[2]?, oC e[3]?, oC e[4]?, oC e[5]?, oC e[6]?] := by rw [outC_eq]; rfl
@[simp] theorem q_out8 : outC 8 e = [oC e[0]?, oC e[1]?, oC e[2]?, oC e[3]?, oC e[4]?, oC e[5]?, oC e[6]?, oC e[7]?] := by rw [outC_eq]; rfl
@[simp] theorem q_par {e : Env} : parS i j h e = match lisM h e with
  | some (.val [d1, d2] e') => some (.nx ((e'.set i (.sh d1)).set j (.sh d2)))
  | some (.val _ _) => none
  | some (.exc x e') => some (.exc x e')
  | none => none := rfl
end
/-! isinstance -/
theorem k_int_int : kitB "int" "int" = some true := by decide +kernel
theorem k_bool_int : kitB "bool" "int" = some true := by decide +kernel
theorem k_bool_bool : kitB "bool" "bool" = some true := by decide +kernel
theorem k_int_bool : kitB "int" "bool" = some false := by decide +kernel
section
variable {i : Int} {b : Bool} {s : Str} {xs : List D}
@[simp] theorem i_ii : isiD [.int i, .ty "int"] = some (.bl true) := by simp [isiD, pyTy, k_int_int]
@[simp] theorem i_ib : isiD [.int i, .ty "bool"] = some (.bl false) := by simp [isiD, pyTy, k_int_bool]
@[simp] theorem i_bi : isiD [.bl b, .ty "int"] = some (.bl true) := by simp [isiD, pyTy, k_bool_int]
@[simp] theorem i_bb : isiD [.bl b, .ty "bool"] = some (.bl true) := by simp [isiD, pyTy, k_bool_bool]
@[simp] theorem i_si : isiD [.str s, .ty "int"] = some (.bl false) := by simp [isiD, pyTy, show kitB "str" "int" = some false by decide +kernel]
@[simp] theorem i_ni : isiD [.non, .ty "int"] = some (.bl false) := by simp [isiD, pyTy, show kitB "NoneType" "int" = some false by decide +kernel]
@[simp] theorem i_li : isiD [.lst xs, .ty "int"] = some (.bl false) := by simp [isiD, pyTy, show kitB "list" "int" = some false by decide +kernel]
@[simp] theorem i_ti : isiD [.tup xs, .ty "int"] = some (.bl false) := by simp [isiD, pyTy, show kitB "tuple" "int" = some false by decide +kernel]
@[simp] theorem i_di {kv : List (Key × D)} : isiD [.dk kv, .ty "int"] = some (.bl false) := by simp [isiD, pyTy, show kitB "dict" "int" = some false by decide +kernel]
@[simp] theorem i_tt : isiD [.tup xs, .ty "tuple"] = some (.bl true) := by simp [isiD, pyTy, show kitB "tuple" "tuple" = some true by decide +kernel]
@[simp] theorem i_lt : isiD [.lst xs, .ty "tuple"] = some (.bl false) := by simp [isiD, pyTy, show kitB "list" "tuple" = some false by decide +kernel]
@[simp] theorem i_it : isiD [.int i, .ty "tuple"] = some (.bl false) := by simp [isiD, pyTy, show kitB "int" "tuple" = some false by decide +kernel]
@[simp] theorem i_bt : isiD [.bl b, .ty "tuple"] = some (.bl false) := by simp [isiD, pyTy, show kitB "bool" "tuple" = some false by decide +kernel]
@[simp] theorem i_st : isiD [.str s, .ty "tuple"] = some (.bl false) := by simp [isiD, pyTy, show kitB "str" "tuple" = some false by decide +kernel]
@[simp] theorem i_nt : isiD [.non, .ty "tuple"] = some (.bl false) := by simp [isiD, pyTy, show kitB "NoneType" "tuple" = some false by decide +kernel]
@[simp] theorem i_dt {kv : List (Key × D)} : isiD [.dk kv, .ty "tuple"] = some (.bl false) := by simp [isiD, pyTy, show kitB "dict" "tuple" = some false by decide +kernel]
@[simp] theorem i_ll : isiD [.lst xs, .ty "list"] = some (.bl true) := by simp [isiD, pyTy, show kitB "list" "list" = some true by decide +kernel]
@[simp] theorem i_tl : isiD [.tup xs, .ty "list"] = some (.bl false) := by simp [isiD, pyTy, show kitB "tuple" "list" = some false by decide +kernel]
@[simp] theorem i_il : isiD [.int i, .ty "list"] = some (.bl false) := by simp [isiD, pyTy, show kitB "int" "list" = some false by decide +kernel]
@[simp] theorem i_bl : isiD [.bl b, .ty "list"] = some (.bl false) := by simp [isiD, pyTy, show kitB "bool" "list" = some false by decide +kernel]
@[simp] theorem i_sl : isiD [.str s, .ty "list"] = some (.bl false) := by simp [isiD, pyTy, show kitB "str" "list" = some false by decide +kernel]
@[simp] theorem i_nl : isiD [.non, .ty "list"] = some (.bl false) := by simp [isiD, pyTy, show kitB "NoneType" "list" = some false by decide +kernel]
@[simp] theorem i_dl {kv : List (Key × D)} : isiD [.dk kv, .ty "list"] = some (.bl false) := by simp [isiD, pyTy, show kitB "dict" "list" = some false by decide +kernel]
end
end NK

set_option Elab.async false
set_option linter.all false
set_option maxRecDepth 100000
set_option maxHeartbeats 4000000
namespace NK
open PySem PySem.Spec PyProof.Rows L2 SrtO Srt
/-! ### sorted(d.keys()) -/
section
variable {prog : Program} {w : World} {A : Around} {E : Value → Shared → Prop} {s : Shared} {T : String} {r d : Addr} {n : Nat} {P : Nat → Value → Prop} {OK : Heap → Prop}
theorem collect_src {Q : List Value → Shared → Prop} (K : PySem.W.KdlSrc prog w T r d n P OK) (hh : A.handled = none) (hok : OK s.heap) (hn : n ≤ sizeLine)
    (hQ : ∀ (h' : Heap) (tk : Nat) (acc : Array Value), (∀ b o, s.heap.get? b = some o → h'.get? b = some o) → ItemsOf P acc n → Q acc.toList { s with heap := h', toks := tk }) :
    wpAny (model prog w) A (collect (.ref r)) Q E s := by
  unfold collect
  refine wpAny_bind (wpAny_runValue (codeAny_builtin F.entry_proto_collect ?_))
  rw [Around.under_plainId F.plain_proto_collect _]
  show wpAny _ A.in1 (newList [] >>= fun l => again (.builtin "list.__iadd__" ⟨[l, .ref r], []⟩)) _ _ s
  refine wpAny_bind (wpAny_newObj_type ?_)
  refine wpAny_pure ⟨plainId_quiet F.plain_list_iadd _, codeAny_builtin F.entry_list_iadd ?_⟩
  rw [Around.under_plainId F.plain_list_iadd _]
  show wpAny _ A.in1 (Builtin.List.listExtendWith (.ref s.heap.objs.size) (.ref r) (.ref s.heap.objs.size)) _ _ _
  have hS : (s.heap.push { cls := .type "list", data := .seq ([] : List Value).toArray }).get? s.heap.objs.size = some { cls := .type "list", data := .seq #[] 0 } := Heap.get?_push_size _ rfl
  have hlt := K.there _ hok
  refine wpAny_mono (PySem.W.kdl_extend (A := A) (R := fun rr s' => rr = .ok (.ret (.ref s.heap.objs.size)) ∧ ∃ (h' : Heap) (tk : Nat) (acc : Array Value) (c' : Nat), s' = { s with heap := h', toks := tk } ∧
      (∀ b o, s.heap.get? b = some o → h'.get? b = some o) ∧ h'.get? s.heap.objs.size = some { cls := .type "list", dict := none, data := .seq acc c', slots := #[] } ∧ ItemsOf P acc n)
    (s := { s with heap := s.heap.push { cls := .type "list", data := .seq ([] : List Value).toArray } }) K hh (K.keep _ _ hok fun b _ o e => Heap.get?_push_of_some _ e) _ (Nat.ne_of_gt hlt.1) (Nat.ne_of_gt hlt.2) _ 0 hS
    (fun h' tk acc c' hk e hi => ⟨rfl, h', tk, acc, c', rfl, fun b o q => hk b o (Nat.ne_of_lt (Heap.lt_size q)) (Heap.get?_push_of_some _ q), e, hi⟩) hn) (fun fin s' h => ?_) (fun e s' h => ?_)
  · cases fin with
    | done f =>
      obtain ⟨e, h', tk, acc, c', rfl, hk, hS', hi⟩ := h
      cases e
      show wpAny _ A (load s.heap.objs.size >>= _) _ _ _
      exact wpAny_bind (wpAny_load hS' (wpAny_pure (hQ h' tk acc hk hi)))
    | again c' =>
      refine ⟨h.1, codeAny_mono h.2 fun rr s'' hr' => ?_⟩
      obtain ⟨rfl, h', tk, acc, c', rfl, hk, hS', hi⟩ := hr'
      show wpAny _ A (load s.heap.objs.size >>= _) _ _ _
      exact wpAny_bind (wpAny_load hS' (wpAny_pure (hQ h' tk acc hk hi)))
  · exact absurd h.1 (by simp)
/-- sorted(a walk): the new list -/
theorem sorted_src {ltv : Value → Value → Bool} {Q : Value → Shared → Prop} (O : Swo ltv) (K : PySem.W.KdlSrc prog w T r d n P OK) (hh : A.handled = none) (hok : OK s.heap) (hn : n ≤ sizeLine)
    (hS : ∀ vs : List Value, ItemsOf P vs.toArray n → 2 ≤ vs.length → ∀ (h₁ : Heap) (tk : Nat) (a : Addr), h₁.get? a = some (seqObj "list" vs.toArray 0) → (∀ b o, s.heap.get? b = some o → b ≠ a ∧ h₁.get? b = some o) → SortableO prog w A.in1.in1 { s with heap := h₁, toks := tk } a vs ltv)
    (h : ∀ (vs out : List Value) (h' : Heap) (tk : Nat), ItemsOf P vs.toArray n → Srtd ltv out → Stb ltv out vs → (∀ b o, s.heap.get? b = some o → h'.get? b = some o) → Q (.ref h'.objs.size) { s with heap := sortedHeap (h'.push (seqObj "list" vs.toArray 0)) h'.objs.size vs out.toArray, toks := tk }) :
    wpAny (model prog w) A (call (.builtin "sorted") [.ref r]) Q E s := by
  refine Calls.call_function_entry kind_sorted plain_sorted entry_sorted (args_sorted1 _) ?_
  unfold Builtin.«sorted»
  refine wpAny_bind (m := checkCount "sorted" 1 1 _) (wpAny_pure ?_)
  refine wpAny_bind (collect_src (A := A.in1) K hh hok hn fun h' tk acc hk hi => ?_)
  have hsz : acc.toList.length ≤ sizeLine := by rw [Array.length_toList, hi.1]; exact hn
  refine wpAny_bind (wpAny_newList ?_ hsz)
  have hoL : (h'.push (seqObj "list" acc.toList.toArray 0)).get? h'.objs.size = some (seqObj "list" acc.toList.toArray 0) := Heap.get?_push_size _ rfl
  have keep : ∀ b o, s.heap.get? b = some o → b ≠ h'.objs.size ∧ (h'.push (seqObj "list" acc.toList.toArray 0)).get? b = some o := fun b o q => ⟨Nat.ne_of_lt (Heap.lt_size (hk b o q)), Heap.get?_push_of_some _ (hk b o q)⟩
  have hi' : ItemsOf P acc.toList.toArray n := by rw [Array.toArray_toList]; exact hi
  refine wpAny_bind (wpAny_holding (wpAny_call_entry slot_list_sort ⟨_, hoL, rfl⟩ entry_list_sort (list_sort_ord O hoL hsz (fun h2 => hS _ hi' h2 _ _ _ hoL keep) fun out hs hb => ⟨_, rfl, ?_⟩) (args_list_sort _)))
  exact wpAny_pure ⟨_, rfl, h _ out h' tk hi' hs hb hk⟩
end
theorem ints_get : ∀ {vs : List Value} {ns : List Int}, vs.length = ns.length → (∀ (i : Nat) (v : Value), vs[i]? = some v → ∃ j t, ns[i]? = some j ∧ v = .int j t) → IntsAre vs ns
  | [], [], _, _ => .nil
  | [], _ :: _, h, _ => by cases h
  | _ :: _, [], h, _ => by cases h
  | v :: vs, n :: ns, h, k => by
    obtain ⟨j, t, e1, e2⟩ := k 0 v rfl
    cases e1
    subst e2
    exact .cons _ _ (ints_get (Nat.succ.inj h) fun i w e => k (i + 1) w (by simpa using e))
section
variable {X : Cx} {o : Expr} {p pos apos mpos : Pos} {td : TE}
/-- sorted(o.keys()), whole numbers -/
def tSortedK (td : TE) : TE := fun σ H Q => td σ H fun x H1 => ∃ a kvs ns, x = V.ref a ∧ H1 a = some (.dK kvs) ∧ kvs.map (·.1) = ns.map Sum.inl ∧ ∀ (ns' : List Int) (p : Addr), ns'.Perm ns → ns'.Pairwise (· ≤ ·) → H1 p = none → Q (.ref p) (upd H1 p (.lst (ns'.map V.int)))
theorem pe_sortedKeys (hc : X.calm = true) (hg : Gl X "sorted") (hm : X.mg "sorted" = none) (hd : PE X o td) (hbase : attributeBase o "keys" X.env (eval o X.env) = eval o X.env := by rfl) (hline : (apos.endLine == mpos.line) = true := by rfl)
    (hse : starEach [Expr.Call (.Attribute o "keys" apos) [] [] mpos] X.env = [(false, eval (Expr.Call (.Attribute o "keys" apos) [] [] mpos) X.env)] := by rfl) :
    PE X (.Call (.Name "sorted" p) [.Call (.Attribute o "keys" apos) [] [] mpos] [] pos) (tSortedK td) := by
  refine ⟨fun pins s σ H Q I h => ?_⟩
  refine wpAny_Call_Name_kw (ld_blt I hg hm (u := .builtin "sorted") (by first | rfl | decide +kernel) ?_ (by first | decide +kernel | decide) (by first | decide +kernel | decide))
  rw [hse]
  refine PySem.callWith_builtin1 (wpAny_Call_method0_late hbase hline (thn (hd.run pins s σ H _ I h) fun v s1 ⟨x, H1, I1, r1, a, kvs, ns, ex, ha, hv, q⟩ => ?_))
  subst ex
  obtain rfl : v = Value.ref a := r1
  obtain ⟨hz, hsys, vs, rel, dof⟩ := dk_of I1.hok ha
  obtain ⟨ep, dat⟩ := dof.dictAt
  obtain ⟨ob, es, ho, ex, hdat, hko, hpr, hnd⟩ := id dat
  refine ⟨"dict", "dict.keys", F.plainAttrs_dict, F.slot_dict_keys, F.type_dict_keys, ⟨ob, ho, ex.1⟩, fun b e => ?_, Calls.callWith_builtin rfl (PySem.evalArgs_none ?_)⟩
  · cases e
    exact ⟨ob, ho, ex.2.1⟩
  refine call_meetsIn F.slot_dict_keys ⟨ob, ho, ex.1⟩ F.entry_dict_keys (F.args_dict_keys_1 _) (PySem.W.kdl_meets_keys (mixKind X.prog X.w) a hsys) ⟨⟨vs, dof⟩, ?_⟩
  have k1 : ∀ b u, s1.heap.get? b = some u → (s1.heap.push { cls := .type "dict_keys", data := .fields #[.ref a] }).get? b = some u := fun b u e => Heap.get?_push_of_some _ e
  have hkeys : vs.map (·.1) = ns.map Sum.inl := (KV.keys rel).symm.trans hv
  have hlv : vs.length = ns.length := by
    have e1 := congrArg List.length hkeys
    rw [List.length_map, List.length_map] at e1
    exact e1
  have hval : ∀ us : List Value, ItemsOf (fun i v => ∃ k x, vs[i]? = some (k, x) ∧ (mixKind X.prog X.w).is k v = true) us.toArray vs.length → IntsAre us ns := fun us hi => by
    refine ints_get (by rw [← hlv]; simpa using hi.1) fun i v e => ?_
    obtain ⟨k, x, hk, hkey⟩ := hi.2 i v (by simpa using e)
    have e1 : (vs.map (·.1))[i]? = some k := by rw [List.getElem?_map, hk] <;> rfl
    rw [hkeys, List.getElem?_map] at e1
    obtain ⟨j, hj, e2⟩ := Option.map_eq_some_iff.mp e1
    subst e2
    have hi : Value.isInt j v = true := hkey
    obtain ⟨t, e3⟩ := Value.isInt_shape (k := j) (v := v) hi
    exact ⟨j, t, hj, e3⟩
  refine sorted_src swo_int (K := PySem.W.kdl_keys (knd := mixKind X.prog X.w) (r := s1.heap.objs.size) (d := a) (kvs := vs) (ep := ep)) (I.ok.hd hc) ⟨⟨_, Heap.get?_push_size _ rfl, rfl, rfl⟩, dat.keep k1⟩ (by rw [← KV.length rel]; exact hz)
    (fun us hi h2 h₁ tk b _ _ => ints_sortable (hval us hi) h2) fun us out h' tk hi hs hb hk => ?_
  obtain ⟨e1, e2, e3⟩ := ints_out (hval us hi) hs hb
  have hoL : (h'.push (seqObj "list" us.toArray 0)).get? h'.objs.size = some (seqObj "list" us.toArray 0) := Heap.get?_push_size _ rfl
  obtain ⟨ep', he'⟩ := sortedHeap_at (vs := us) (out := out.toArray) hoL
  have hlen : ((out.map iv).map V.int).length ≤ sizeLine := by
    rw [List.length_map, e2.length_eq, ← hlv, ← KV.length rel]
    exact hz
  have kk : ∀ b u, s1.heap.get? b = some u → b ≠ h'.objs.size ∧ (sortedHeap (h'.push (seqObj "list" us.toArray 0)) h'.objs.size us out.toArray).get? b = some u := fun b u e => by
    have e1 := hk b u (k1 b u e)
    have hb : b ≠ h'.objs.size := Nat.ne_of_lt (Heap.lt_size e1)
    refine ⟨hb, ?_⟩
    have e2 : (h'.push (seqObj "list" us.toArray 0)).get? b = some u := Heap.get?_push_of_some _ e1
    rw [sortedHeap_old hb (Heap.lt_size e2)]; exact e2
  have hle : s1.heap.objs.size ≤ h'.objs.size := Nat.le_of_lt (Heap.lt_size (hk _ _ (Heap.get?_push_size _ rfl)))
  exact ⟨.ref _, upd H1 h'.objs.size (.lst ((out.map iv).map V.int)), I1.laid (t' := tk) (fun b u e => (kk b u e).2) hle ⟨hlen, out, ep', vals_of_ints e1, he'⟩, rfl, q _ _ e2 e3 (I1.hok.fresh hle)⟩
end
end NK

set_option Elab.async false
set_option linter.all false
set_option maxRecDepth 100000
set_option maxHeartbeats 4000000
namespace NK
open PySem PySem.Spec PyProof.Rows L2
/-! ### dicts -/
def valA {α : Type} (kvs : List (Key × α)) (k : Key) : Option α := (kvs.find? fun kv => decide (kv.1 = k)).map (·.2)
def putA {α : Type} (kvs : List (Key × α)) (k : Key) (v : α) : List (Key × α) := if kvs.any fun kv => decide (kv.1 = k) then kvs.map fun kv => if kv.1 = k then (kv.1, v) else kv else kvs ++ [(k, v)]
def dropA {α : Type} (kvs : List (Key × α)) (k : Key) : List (Key × α) := kvs.filter fun kv => decide (kv.1 ≠ k)
theorem valA_V (kvs : List (Key × V)) (k : Key) : valA kvs k = valV kvs k := rfl
theorem putA_V (kvs : List (Key × V)) (k : Key) (v : V) : putA kvs k v = putK kvs k v := rfl
theorem dropA_V (kvs : List (Key × V)) (k : Key) : dropA kvs k = dropK kvs k := rfl
def keyD : D → Option Key
  | .int i => some (.inl i)
  | .str s => some (.inr s)
  | _ => none
section
variable {K : PySem.W.Frag} {mg : Str → Option Value} {W : WX} {c : Ct} {σ : L2.St} {Hs H : Hp} {env : Env}
theorem key_rep {v : V} {d : D} {k : Key} (r : Rep K mg Hs v d) (h : keyD d = some k) : v = kV k := by
  cases r <;> first | (cases h; rfl) | cases h
theorem RepD.len : ∀ {vs : List (Key × V)} {ds : List (Key × D)}, RepD K mg Hs vs ds → vs.length = ds.length
  | _, _, .nil => rfl
  | _, _, .cons _ r => by rw [List.length_cons, List.length_cons, r.len]
theorem RepD.keys : ∀ {vs : List (Key × V)} {ds : List (Key × D)}, RepD K mg Hs vs ds → vs.map (·.1) = ds.map (·.1)
  | _, _, .nil => rfl
  | _, _, .cons _ r => by rw [List.map_cons, List.map_cons, r.keys]
theorem RepD.any {k : Key} : ∀ {vs : List (Key × V)} {ds : List (Key × D)}, RepD K mg Hs vs ds → (vs.any fun kv => decide (kv.1 = k)) = ds.any fun kv => decide (kv.1 = k)
  | _, _, .nil => rfl
  | _, _, .cons _ r => by rw [List.any_cons, List.any_cons, r.any]
theorem RepD.val {k : Key} : ∀ {vs : List (Key × V)} {ds : List (Key × D)}, RepD K mg Hs vs ds → (valA vs k = none ∧ valA ds k = none) ∨ ∃ v d, valA vs k = some v ∧ valA ds k = some d ∧ Rep K mg Hs v d
  | _, _, .nil => .inl ⟨rfl, rfl⟩
  | _, _, .cons (k := k') (v := v) (d := d) (vs := vs) (ds := ds) h r => by
    by_cases e : k' = k
    · exact .inr ⟨v, d, by simp [valA, List.find?_cons, e], by simp [valA, List.find?_cons, e], h⟩
    · have e1 : ∀ {α : Type} (x : α) (xs : List (Key × α)), valA ((k', x) :: xs) k = valA xs k := fun x xs => by simp [valA, List.find?_cons, e]
      rw [e1, e1]
      exact r.val
theorem RepD.map {k : Key} {y : V} {z : D} (q : Rep K mg Hs y z) : ∀ {vs : List (Key × V)} {ds : List (Key × D)}, RepD K mg Hs vs ds → RepD K mg Hs (vs.map fun kv => if kv.1 = k then (kv.1, y) else kv) (ds.map fun kv => if kv.1 = k then (kv.1, z) else kv)
  | _, _, .nil => .nil
  | _, _, .cons (k := k') h r => by
    rw [List.map_cons, List.map_cons]
    by_cases e : k' = k
    · simp only [e, if_true]
      exact .cons q (RepD.map q r)
    · simp only [e, if_false]
      exact .cons h (RepD.map q r)
theorem RepD.snoc {k : Key} {y : V} {z : D} (q : Rep K mg Hs y z) : ∀ {vs : List (Key × V)} {ds : List (Key × D)}, RepD K mg Hs vs ds → RepD K mg Hs (vs ++ [(k, y)]) (ds ++ [(k, z)])
  | _, _, .nil => .cons q .nil
  | _, _, .cons h r => .cons h (RepD.snoc q r)
theorem RepD.put {k : Key} {y : V} {z : D} (q : Rep K mg Hs y z) {vs : List (Key × V)} {ds : List (Key × D)} (r : RepD K mg Hs vs ds) : RepD K mg Hs (putA vs k y) (putA ds k z) := by
  unfold putA
  rw [r.any]
  split
  · exact RepD.map q r
  · exact RepD.snoc q r
theorem RepD.drop {k : Key} : ∀ {vs : List (Key × V)} {ds : List (Key × D)}, RepD K mg Hs vs ds → RepD K mg Hs (dropA vs k) (dropA ds k)
  | _, _, .nil => .nil
  | _, _, .cons (k := k') (v := v) (d := d) (vs := vs) (ds := ds) h r => by
    have ih := RepD.drop (k := k) r
    by_cases e : k' = k
    · have e1 : ∀ {α : Type} (x : α) (xs : List (Key × α)), dropA ((k', x) :: xs) k = dropA xs k := fun x xs => by simp [dropA, List.filter_cons, e]
      rw [e1, e1]; exact ih
    · have e1 : ∀ {α : Type} (x : α) (xs : List (Key × α)), dropA ((k', x) :: xs) k = (k', x) :: dropA xs k := fun x xs => by simp [dropA, List.filter_cons, e]
      rw [e1, e1]; exact .cons h ih
theorem Sta.pushG {p : Addr} {o : HO} {d : D} (S : Sta K mg c Hs H σ env) (n : H p = none) (r : Own K mg Hs (upd H p o) (.ref p) d [p]) : Sta K mg c Hs (upd H p o) (σ ++ [some (.ref p)]) (env ++ [.ow d]) := by
  have S' := S.putN (o := o) n
  obtain ⟨B, hA, hN, hD, hX⟩ := S.cells
  have hp : ∀ j, p ∉ B j := fun j w => by
    cases hm' : env[j]? with
    | none => rw [hN j hm'] at w; cases w
    | some cm =>
      have g := hA j cm hm'
      cases cm with
      | no => rw [g] at w; cases w
      | sh d => rw [g.1] at w; cases w
      | ow d => obtain ⟨v, _, g2, _⟩ := g; exact g2.has p w n
      | io d => obtain ⟨v, _, g2, _⟩ := g; exact g2.has p w n
      | al s k => rw [g.1] at w; cases w
      | ro d => rw [g.1] at w; cases w
  have kB : ∀ {a o2}, H a = some o2 → upd H p o a = some o2 := fun q => upd_some q n
  refine ⟨S'.s0, S'.s1, S'.fr, S'.fh, S'.hh, S'.ro, by simp [S.len], fun j => if j = env.length then [p] else B j, fun j cl h => ?_, fun j h => ?_, fun j => ?_, fun j k hjk a ha => ?_⟩
  · by_cases e : j = env.length
    · subst e
      rw [env_last] at h
      cases h
      show CellOk K mg c Hs _ _ env.length (.ow d) (if env.length = env.length then [p] else B env.length)
      rw [if_pos rfl]
      refine ⟨.ref p, by rw [S.len]; exact sig_last, r, fun a ha => ?_⟩
      have : a = p := by simpa using ha
      subst this
      exact ⟨S.freshS n, .inr (S.fresh n)⟩
    · have hlt : j < env.length := by
        have := (List.getElem?_eq_some_iff.mp h).1
        simp at this
        omega
      rw [app_lt hlt] at h
      show CellOk K mg c Hs _ _ j cl (if j = env.length then [p] else B j)
      rw [if_neg e]
      have g := (hA j cl h).of_lt (σ' := σ ++ [some (.ref p)]) (app_lt (by rw [← S.len]; exact hlt)).symm
      cases cl with
      | no => exact g
      | sh d => exact g
      | ow d => obtain ⟨v, g1, g2, g3⟩ := g; exact ⟨v, g1, g2.mono (Same.refl _) fun _ _ _ q => kB q, g3⟩
      | io d => obtain ⟨v, g1, g2, g3, g4⟩ := g; exact ⟨v, g1, g2.mono (Same.refl _) fun _ _ _ q => kB q, g3, g4⟩
      | al s k => exact g
      | ro d => exact g
  · show (if j = env.length then [p] else B j) = []
    rw [List.getElem?_eq_none_iff, List.length_append] at h
    have h' : env.length + 1 ≤ j := h
    rw [if_neg (by omega)]
    exact hN j (List.getElem?_eq_none_iff.mpr (by omega))
  · show (if j = env.length then [p] else B j).Nodup
    by_cases e : j = env.length
    · rw [if_pos e]; simp
    · rw [if_neg e]; exact hD j
  · have ha' : a ∈ (if j = env.length then [p] else B j) := ha
    show a ∉ (if k = env.length then [p] else B k)
    by_cases e : j = env.length
    · rw [if_pos e] at ha'
      have e2 : k ≠ env.length := fun z => hjk (e.trans z.symm)
      rw [if_neg e2]
      have : a = p := by simpa using ha'
      subst this
      exact hp k
    · rw [if_neg e] at ha'
      by_cases e2 : k = env.length
      · rw [if_pos e2]
        intro z
        have : a = p := by simpa using z
        subst this
        exact hp j ha'
      · rw [if_neg e2]; exact hX j k hjk a ha'

/-! ### a slot's own dict, read and changed -/
def viewK (i : Nat) (e : Env) : Option (List (Key × D)) := match e[i]? with
  | some cl => (match cl.view with | some (.dk xs) => some xs | _ => none)
  | none => none
theorem Sta.viewK {i : Nat} {ds : List (Key × D)} (S : Sta K mg c Hs H σ env) (h : NK.viewK i env = some ds) : ∃ a xs, σ[i]? = some (some (.ref a)) ∧ H a = some (.dK xs) ∧ RepD K mg Hs xs ds := by
  unfold NK.viewK at h
  split at h
  · rename_i cl hc
    split at h
    · rename_i xs hv
      cases h
      obtain ⟨v, A, h1, h2⟩ := S.viewed hc hv
      cases h2 with
      | dk h r => exact ⟨_, _, h1, h, r⟩
    · cases h
  · cases h
def putKE (i : Nat) (xs : List (Key × D)) (e : Env) : Option Env := match e[i]? with
  | some cl => (match cl.own with | some (.dk _) => some (e.set i (cl.put (.dk xs))) | _ => none)
  | none => none
theorem Sta.putKE {i : Nat} {ds : List (Key × D)} {env' : Env} (S : Sta K mg c Hs H σ env) (h : NK.putKE i ds env = some env') :
    ∃ a ys es, NK.viewK i env = some es ∧ σ[i]? = some (some (.ref a)) ∧ H a = some (.dK ys) ∧ RepD K mg Hs ys es ∧ ∀ xs, RepD K mg Hs xs ds → Sta K mg c Hs (upd H a (.dK xs)) σ env' := by
  unfold NK.putKE at h
  split at h
  · rename_i cl hc
    split at h
    · rename_i es hv
      cases h
      obtain ⟨v, A, h1, h2, h3, k⟩ := S.owned hc hv
      cases h2 with
      | @dk a ys es h r =>
        have hvw : NK.viewK i env = some es := by
          have h4 : cl.view = some (.dk es) := by
            cases cl <;> first | cases hv | rfl
            all_goals rfl
          simp [NK.viewK, hc, h4]
        refine ⟨a, ys, es, hvw, h1, h, r, fun xs rx => k _ _ [a] (.dk upd_same rx) (fun p o hp e => ?_) (fun p hp => ?_) (fun b hb => .inl hb)⟩
        · rw [upd_ne (by simpa using hp)]; exact e
        · by_cases e : p = a
          · subst e; rw [upd_same]; simp
          · rw [upd_ne e]; exact hp
    · cases h
  · cases h
/-- what a part does under a thing that stands aside -/
theorem Wp.aside {α : Type} {p : Addr} {ob : HO} {c' : Ct} {o : Option (Out α)} {P : α → Env → Hp → Hp → Prop}
    (out : ∀ Hs' H' σ' env', Sta K mg c' Hs' H' σ' env' → Same Hs Hs' ∧ H' p = some ob ∧ ∃ H2, H2 p = none ∧ H' = upd H2 p ob ∧ Sta K mg c Hs' H2 σ' env')
    (h : Wp K mg W c σ Hs o P) : Wp K mg W c' σ Hs o fun a e Hs' H' => H' p = some ob ∧ ∃ H2, H2 p = none ∧ H' = upd H2 p ob ∧ Sta K mg c Hs' H2 σ e ∧ P a e Hs' H2 := by
  cases o with
  | none => exact h
  | some r =>
    cases r with
    | val a e =>
      intro Hs' H' S' z
      obtain ⟨_, h1, H2, n2, e2, S2⟩ := out _ _ _ _ S'
      exact ⟨h1, H2, n2, e2, S2, h _ _ S2 z⟩
    | exc x e =>
      intro Hs' H' cls dd S' z ok
      obtain ⟨_, h1, H2, n2, rfl, S2⟩ := out _ _ _ _ S'
      exact h _ _ _ _ (S2.putN n2) z ok
inductive RepP (K : PySem.W.Frag) (mg : Str → Option Value) (H : Hp) : List (V × V) → List (D × D) → Prop
  | nil : RepP K mg H [] []
  | cons {k v : V} {dk d : D} {vs : List (V × V)} {ds : List (D × D)} : Rep K mg H k dk → Rep K mg H v d → RepP K mg H vs ds → RepP K mg H ((k, v) :: vs) ((dk, d) :: ds)
def pairsM : List (M D × M D) → M (List (D × D))
  | [] => pureM []
  | (fk, fv) :: r => bindM fk fun k => bindM fv fun v => bindM (pairsM r) fun ps => pureM ((k, v) :: ps)
def keyPs : List (D × D) → Option (List (Key × D))
  | [] => some []
  | (k, v) :: r => match keyD k, keyPs r with
    | some kk, some ps => some ((kk, v) :: ps)
    | _, _ => none
theorem pairs_of : ∀ (l : List (M D × M D)) {c : Ct} {Hs H : Hp} {env : Env} {P : List (D × D) → Env → Hp → Hp → Prop} {Q : List (V × V) → Hp → Prop}, Sta K mg c Hs H σ env → Wp K mg W c σ Hs (pairsM l env) P →
    (∀ ps Hs' env' ds H', Sta K mg c Hs' H' σ env' → Same Hs Hs' → RepP K mg Hs' ps ds → P ds env' Hs' H' → Q ps H') →
    tPairs (l.map fun f => (vE K mg W f.1, vE K mg W f.2)) σ H Q
  | [], c, Hs, H, env, P, Q, S, h, q => q [] Hs env [] H S (Same.refl _) .nil (h Hs H S (Same.refl _))
  | (fk, fv) :: r, c, Hs, H, env, P, Q, S, h, q => by
    refine ⟨c, Hs, env, S, (Wp.bind h).weak fun k e1 Hs1 H1 s1 z1 w vk rk => ?_⟩
    obtain ⟨S1, w⟩ := w
    refine ⟨c, Hs1, e1, S1, (Wp.bind w).weak fun v e2 Hs2 H2 s2 z2 w2 vv rv => ?_⟩
    obtain ⟨S2, w2⟩ := w2
    refine pairs_of r S2 (Wp.bind w2) fun ps Hs3 e3 ds H3 S3 z3 r3 w3 => ?_
    obtain ⟨S3', w3⟩ := w3
    exact q _ Hs3 e3 _ H3 S3 ((z1.trans z2).trans z3) (.cons (rk.mono (z2.trans z3)) (rv.mono z3) r3) (w3 Hs3 H3 S3 (Same.refl _))
theorem keyPs_rep : ∀ {ps : List (V × V)} {ds : List (D × D)} {ks : List (Key × D)}, RepP K mg Hs ps ds → keyPs ds = some ks → ∃ kvs : List (Key × V), ps = kvs.map (fun kv => (kV kv.1, kv.2)) ∧ RepD K mg Hs kvs ks
  | _, _, _, .nil, h => by cases h; exact ⟨[], rfl, .nil⟩
  | _, _, ks, .cons (dk := dk) (d := d) (ds := ds) rk rv r, h => by
    unfold keyPs at h
    split at h
    · rename_i kk qs e1 e2
      cases h
      obtain ⟨kvs, rfl, rr⟩ := keyPs_rep r e2
      exact ⟨(kk, _) :: kvs, by rw [List.map_cons, key_rep rk e1], .cons rv rr⟩
    · cases h
def mergeA {α : Type} (kvs more : List (Key × α)) : List (Key × α) := more.foldl (fun acc kv => putA acc kv.1 kv.2) kvs
theorem RepD.merge : ∀ {more : List (Key × V)} {rs : List (Key × D)} {kvs : List (Key × V)} {vs : List (Key × D)}, RepD K mg Hs more rs → RepD K mg Hs kvs vs → RepD K mg Hs (mergeA kvs more) (mergeA vs rs)
  | _, _, _, _, .nil, q => q
  | _, _, kvs, vs, .cons (k := k) (v := v) (d := d) h r, q => RepD.merge (kvs := putA kvs k v) (vs := putA vs k d) r (RepD.put h q)
theorem keyPs_len : ∀ {ds : List (D × D)} {ks : List (Key × D)}, keyPs ds = some ks → ks.length = ds.length
  | [], ks, h => by cases h; rfl
  | (k, v) :: r, ks, h => by
    unfold keyPs at h
    split at h
    · rename_i kk qs e1 e2
      cases h
      rw [List.length_cons, List.length_cons, keyPs_len e2]
    · cases h
theorem RepP.len : ∀ {ps : List (V × V)} {ds : List (D × D)}, RepP K mg Hs ps ds → ps.length = ds.length
  | _, _, .nil => rfl
  | _, _, .cons _ _ r => by rw [List.length_cons, List.length_cons, r.len]
/-- {k: v, ..} -/
def dispM (l : List (M D × M D)) : M D := bindM (pairsM l) fun ps => if ps.length ≤ 15 then liftM ((keyPs ps).map fun kvs => .dk (mergeA [] kvs)) else failM
theorem WpN.bindW {α : Type} {m : M α} {k : α → M D} {Q : VK} (h : WpN K mg W c σ Hs (bindM m k env) Q) : Wp K mg W c σ Hs (m env) fun a e Hs' H' => Sta K mg c Hs' H' σ e ∧ WpN K mg W c σ Hs' (k a e) Q := WpN.bind h
theorem tDisp_of {l : List (M D × M D)} {H : Hp} {Q : VK} (q : vN K mg W (dispM l) σ H Q) : tDisp (l.map fun f => (vE K mg W f.1, vE K mg W f.2)) σ H Q := by
  obtain ⟨c, Hs, env, S, q⟩ := q
  intro p hp
  obtain ⟨c', S', out⟩ := S.aside hp (.dK [])
  refine pairs_of l S' (Wp.aside out (WpN.bindW q)) fun ps Hs' env' ds H' S2 z r ⟨h1, H2, n2, e2, S3, S4, w⟩ => ⟨h1, ?_⟩
  split at w
  · rename_i h15
    obtain ⟨d, hd, k⟩ := WpN.lift w
    cases e : keyPs ds with
    | none => rw [e] at hd; cases hd
    | some ks =>
      rw [e] at hd
      cases hd
      obtain ⟨kvs, rfl, rr⟩ := keyPs_rep r e
      have hl : kvs.length ≤ 15 := by
        have := r.len
        rw [List.length_map] at this
        omega
      refine ⟨kvs, rfl, hl, ?_⟩
      subst e2
      rw [upd_upd]
      exact k _ _ _ (S3.pushG n2 (.dk upd_same (RepD.merge rr .nil))) (Same.refl _)
  · exact w.elim
end
section
variable {X : Cx} {st : Stmt} {e a b o i : Expr} {es : List Expr} {pos pos' : Pos} {W : WX}
theorem n_dnew : N' X W (.Dict [] [] pos) (conM (.dk [])) := pe_dnewK.mono fun σ H Q q => by
  obtain ⟨c, Hs, env, S, q⟩ := q
  exact fun p hp => q _ _ _ (S.pushG hp (.dk upd_same .nil)) (Same.refl _)
abbrev P' (X : Cx) (W : WX) (pos : Pos) (ks : List (Option Expr)) (vs : List Expr) (l : List (M D × M D)) : Prop := PPs X pos ks vs (l.map fun f => (vE X.K X.mg W f.1, vE X.K X.mg W f.2))
theorem dp_nil : P' X W pos [] [] [] := pps_nil
theorem dp_cons {k v : Expr} {ks : List (Option Expr)} {vs : List Expr} {fk fv : M D} {l : List (M D × M D)} (hk : E' X W k fk) (hv : E' X W v fv) (hr : P' X W pos ks vs l) : P' X W pos (some k :: ks) (v :: vs) ((fk, fv) :: l) := pps_cons hk hv hr
theorem n_disp {keys : List (Option Expr)} {values : List Expr} {l : List (M D × M D)} (h : P' X W pos keys values l) (hall : keys.all (·.isSome) = true := by rfl) (hl : keys.length = values.length := by rfl) (h0 : keys ≠ [] := by simp) (h15 : keys.length ≤ 15 := by decide) : N' X W (.Dict keys values pos) (dispM l) :=
  (pe_disp h hall hl h0 h15).mono fun σ H Q q => tDisp_of q
/-- d[k] = v, d a slot's own -/
def putKS (i : Nat) (f fk : M D) : S := withS f fun d e1 => if (viewK i e1).isSome then withS fk (fun k e2 => match viewK i e2, keyD k with
  | some xs, some kk => if xs.length < 1000000 then (putKE i (putA xs kk d) e2).map .nx else none
  | _, _ => none) e1 else none
theorem s_putK {n : Nat} {f fk : M D} (h : PS X st (sDPut (tVar n) (vE X.K X.mg W fk) (vE X.K X.mg W f))) : S' X W st (putKS n f fk) := h.mono fun D σ H q => by
  obtain ⟨c, Hs, env, S, q⟩ := q
  refine ⟨c, Hs, env, S, (WpS.withE q).weak fun d e1 Hs1 H1 s1 z1 w v r => ?_⟩
  split at w
  · rename_i hv
    obtain ⟨es, hes⟩ := Option.isSome_iff_exists.mp hv
    obtain ⟨a, xs, h1, h2, h3⟩ := s1.viewK hes
    refine ⟨.ref a, h1, c, Hs1, e1, s1, (WpS.withE w).weak fun k e2 Hs2 H2 s2 z2 w2 v2 r2 => ?_⟩
    split at w2
    · rename_i ds kk hd hk
      split at w2
      · rename_i hn
        cases hp : putKE n (putA ds kk d) e2 with
        | none => rw [hp] at w2; exact w2.elim
        | some env' =>
          rw [hp] at w2
          obtain ⟨a', ys, es', g0, g1, g2, g3, g4⟩ := s2.putKE hp
          rw [hd] at g0; cases g0
          rw [h1] at g1; cases g1
          have ek := key_rep r2 hk
          subst ek
          exact ⟨a, _, rfl, DPut.k g2 (by rw [g3.len]; exact small_lt hn), w2 _ _ σ (g4 _ (g3.put (r.mono z2)))⟩
      · exact w2.elim
    · exact w2.elim
  · exact w.elim
/-- a value of a slot's own dict alone -/
def vwK (i : Nat) (g : List (Key × D) → Option D) : M D := fun env => match viewK i env with
  | some xs => liftM (g xs) env
  | none => none
theorem e_lenK {n : Nat} (h : PE X e (tCB (fun xs H Q => ∃ a kvs, xs = [V.ref a] ∧ H a = some (.dK kvs) ∧ Q (.int kvs.length) H) (tCons (tVar n) tNil))) : E' X W e (vwK n fun xs => some (.int (xs.length : Int))) := h.mono fun σ H Q q => by
  obtain ⟨c, Hs, env, S, q⟩ := q
  unfold vwK at q
  split at q
  · rename_i ds hd
    obtain ⟨a, xs, h1, h2, h3⟩ := S.viewK hd
    exact ⟨.ref a, h1, a, xs, rfl, h2, by rw [h3.len]; exact q Hs H S (Same.refl _) _ (.int _)⟩
  · exact q.elim
/-- the keys, if whole numbers -/
def keysI : List (Key × D) → Option (List Int)
  | [] => some []
  | (.inl i, _) :: r => (keysI r).map (i :: ·)
  | _ => none
theorem keysI_of : ∀ {ds : List (Key × D)} {ns : List Int}, keysI ds = some ns → ds.map (·.1) = ns.map Sum.inl
  | [], ns, h => by cases h; rfl
  | (.inl i, d) :: r, ns, h => by
    unfold keysI at h
    cases e : keysI r with
    | none => rw [e] at h; cases h
    | some ms => rw [e] at h; cases h; rw [List.map_cons, List.map_cons, keysI_of e]
  | (.inr s, d) :: r, ns, h => by cases h
def sortI (ns : List Int) : List Int := ns.mergeSort (fun a b => decide (a ≤ b))
theorem sortI_uniq {ns ms : List Int} (h1 : ms.Perm ns) (h2 : ms.Pairwise (· ≤ ·)) : ms = sortI ns := by
  have p : (sortI ns).Perm ns := List.mergeSort_perm ns _
  have q : (sortI ns).Pairwise (· ≤ ·) := by
    have := List.pairwise_mergeSort (le := fun a b : Int => decide (a ≤ b)) (fun a b c h1 h2 => by simp at *; omega) (fun a b => by simp; omega) ns
    exact this.imp (fun h => by simpa using h)
  exact List.Perm.eq_of_pairwise (le := fun a b : Int => a ≤ b) (fun a b _ _ h1 h2 => Int.le_antisymm h1 h2) h2 q (h1.trans p.symm)
def sortedKD (kvs : List (Key × D)) : Option D := (keysI kvs).map fun ns => .lst ((sortI ns).map .int)
theorem ints_rep {K : PySem.W.Frag} {mg : Str → Option Value} {Hs : Hp} : ∀ ns : List Int, RepL K mg Hs (ns.map V.int) (ns.map D.int)
  | [] => .nil
  | n :: ns => .cons (.int n) (ints_rep ns)
theorem n_sortedK {n : Nat} (h : PE X e (tSortedK (tVar n))) : N' X W e (vwK n sortedKD) := h.mono fun σ H Q q => by
  obtain ⟨c, Hs, env, S, q⟩ := q
  unfold vwK at q
  split at q
  · rename_i ds hd
    obtain ⟨a, xs, h1, h2, h3⟩ := S.viewK hd
    obtain ⟨d, hd2, k⟩ := WpN.lift q
    unfold sortedKD at hd2
    cases hk : keysI ds with
    | none => rw [hk] at hd2; cases hd2
    | some ns =>
      rw [hk] at hd2
      cases hd2
      refine ⟨.ref a, h1, a, xs, ns, rfl, h2, h3.keys.trans (keysI_of hk), fun ns' p hp hs hn => ?_⟩
      rw [sortI_uniq hp hs]
      exact k _ _ _ (S.push hn (ints_rep _)) (Same.refl _)
  · exact q.elim
end
end NK

set_option Elab.async false
set_option linter.all false
set_option maxRecDepth 100000
set_option maxHeartbeats 4000000
namespace NK
open PySem PySem.Spec PyProof.Rows L2
section
variable {K : PySem.W.Frag} {mg : Str → Option Value}
def max2D : List D → Option D
  | [.int i, .int j] => some (.int (max i j))
  | _ => none
def min2D : List D → Option D
  | [.int i, .int j] => some (.int (min i j))
  | _ => none
theorem o_max2 : OpN K mg (fun xs H Q => ∃ i j, xs = [.int i, .int j] ∧ Q (.int (if j > i then j else i)) H) max2D := fun c Hs H σ env vs ds d Q S r h q => by
  unfold max2D at h
  split at h
  · rename_i i j
    cases h
    obtain ⟨v, w, rfl, r1, r2⟩ := r.two_inv
    cases r1; cases r2
    refine ⟨i, j, rfl, ?_⟩
    rw [show (if j > i then j else i) = max i j by split <;> omega]
    exact q Hs H _ S (Same.refl _) (.int _)
  · cases h
theorem o_min2 : OpN K mg (fun xs H Q => ∃ i j, xs = [.int i, .int j] ∧ Q (.int (if j < i then j else i)) H) min2D := fun c Hs H σ env vs ds d Q S r h q => by
  unfold min2D at h
  split at h
  · rename_i i j
    cases h
    obtain ⟨v, w, rfl, r1, r2⟩ := r.two_inv
    cases r1; cases r2
    refine ⟨i, j, rfl, ?_⟩
    rw [show (if j < i then j else i) = min i j by split <;> omega]
    exact q Hs H _ S (Same.refl _) (.int _)
  · cases h
/-- the greatest of a list's numbers -/
def maxL : List Int → Option Int
  | [] => none
  | n :: ns => some (ns.foldl max n)
def minL : List Int → Option Int
  | [] => none
  | n :: ns => some (ns.foldl min n)
theorem foldl_max_le : ∀ (ns : List Int) (n : Int), n ≤ ns.foldl max n ∧ ∀ y ∈ ns, y ≤ ns.foldl max n
  | [], n => ⟨Int.le_refl n, fun y h => by cases h⟩
  | m :: ns, n => by
    obtain ⟨h1, h2⟩ := foldl_max_le ns (max n m)
    refine ⟨by show n ≤ ns.foldl max (max n m); omega, fun y h => ?_⟩
    show y ≤ ns.foldl max (max n m)
    rcases List.mem_cons.mp h with e | h
    · subst e; omega
    · exact h2 y h
theorem foldl_max_mem : ∀ (ns : List Int) (n : Int), ns.foldl max n = n ∨ ns.foldl max n ∈ ns
  | [], n => .inl rfl
  | m :: ns, n => by
    rcases foldl_max_mem ns (max n m) with h | h
    · rcases Int.le_total n m with e | e
      · right
        show ns.foldl max (max n m) ∈ m :: ns
        rw [h, show max n m = m by omega]; simp
      · left
        show ns.foldl max (max n m) = n
        rw [h]; omega
    · exact .inr (List.mem_cons_of_mem _ h)
theorem foldl_min_le : ∀ (ns : List Int) (n : Int), ns.foldl min n ≤ n ∧ ∀ y ∈ ns, ns.foldl min n ≤ y
  | [], n => ⟨Int.le_refl n, fun y h => by cases h⟩
  | m :: ns, n => by
    obtain ⟨h1, h2⟩ := foldl_min_le ns (min n m)
    refine ⟨by show ns.foldl min (min n m) ≤ n; omega, fun y h => ?_⟩
    show ns.foldl min (min n m) ≤ y
    rcases List.mem_cons.mp h with e | h
    · subst e; omega
    · exact h2 y h
theorem foldl_min_mem : ∀ (ns : List Int) (n : Int), ns.foldl min n = n ∨ ns.foldl min n ∈ ns
  | [], n => .inl rfl
  | m :: ns, n => by
    rcases foldl_min_mem ns (min n m) with h | h
    · rcases Int.le_total n m with e | e
      · left
        show ns.foldl min (min n m) = n
        rw [h]; omega
      · right
        show ns.foldl min (min n m) ∈ m :: ns
        rw [h, show min n m = m by omega]; simp
    · exact .inr (List.mem_cons_of_mem _ h)
theorem maxL_uniq {ns : List Int} {m m' : Int} (h : maxL ns = some m) (h1 : m' ∈ ns) (h2 : ∀ y ∈ ns, y ≤ m') : m' = m := by
  cases ns with
  | nil => cases h
  | cons n ns =>
    cases h
    obtain ⟨a, b⟩ := foldl_max_le ns n
    have c : m' ≤ ns.foldl max n := by
      rcases List.mem_cons.mp h1 with e | e
      · subst e; exact a
      · exact b _ e
    rcases foldl_max_mem ns n with e | e
    · have := h2 n (by simp); omega
    · have := h2 _ (List.mem_cons_of_mem n e); omega
theorem minL_uniq {ns : List Int} {m m' : Int} (h : minL ns = some m) (h1 : m' ∈ ns) (h2 : ∀ y ∈ ns, m' ≤ y) : m' = m := by
  cases ns with
  | nil => cases h
  | cons n ns =>
    cases h
    obtain ⟨a, b⟩ := foldl_min_le ns n
    have c : ns.foldl min n ≤ m' := by
      rcases List.mem_cons.mp h1 with e | e
      · subst e; exact a
      · exact b _ e
    rcases foldl_min_mem ns n with e | e
    · have := h2 n (by simp); omega
    · have := h2 _ (List.mem_cons_of_mem n e); omega
def maxD : List D → Option D
  | [d] => (listOf d).bind fun xs => (intsOf xs).bind fun ns => (maxL ns).map .int
  | _ => none
def minD : List D → Option D
  | [d] => (listOf d).bind fun xs => (intsOf xs).bind fun ns => (minL ns).map .int
  | _ => none
def sortedD : List D → Option D
  | [d] => (listOf d).bind fun xs => (intsOf xs).map fun ns => .lst ((sortI ns).map .int)
  | _ => none
theorem listInts {Hs H : Hp} {v : V} {d : D} {α : Type} {f : List Int → Option α} {x : α} (e : Same Hs H) (r : Rep K mg Hs v d) (h : ((listOf d).bind fun xs => (intsOf xs).bind f) = some x) : ∃ a ns, v = .ref a ∧ SqL K H a (ns.map V.int) ∧ f ns = some x := by
  cases e1 : listOf d with
  | none => rw [e1] at h; cases h
  | some xs =>
    rw [e1] at h
    have h' : (intsOf xs).bind f = some x := h
    cases e2 : intsOf xs with
    | none => rw [e2] at h'; cases h'
    | some ns =>
      rw [e2] at h'
      obtain ⟨a, ys, rfl, hl, rl⟩ := list_of e r e1
      rw [ints_of rl e2] at hl
      exact ⟨a, ns, rfl, hl, h'⟩
theorem o_max : OpN K mg (rMax K) maxD := fun c Hs H σ env vs ds d Q S r h q => by
  unfold maxD at h
  split at h
  · obtain ⟨v, rfl, rv⟩ := r.one_inv
    obtain ⟨a, ns, rfl, hl, h⟩ := listInts S.s1 rv h
    cases e : maxL ns with
    | none => rw [e] at h; cases h
    | some m =>
      rw [e] at h; cases h
      refine ⟨a, ns, rfl, hl, by cases ns with | nil => cases e | cons => simp, fun m' h1 h2 => ?_⟩
      rw [maxL_uniq e h1 h2]
      exact q Hs H _ S (Same.refl _) (.int _)
  · cases h
theorem o_min : OpN K mg (rMin K) minD := fun c Hs H σ env vs ds d Q S r h q => by
  unfold minD at h
  split at h
  · obtain ⟨v, rfl, rv⟩ := r.one_inv
    obtain ⟨a, ns, rfl, hl, h⟩ := listInts S.s1 rv h
    cases e : minL ns with
    | none => rw [e] at h; cases h
    | some m =>
      rw [e] at h; cases h
      refine ⟨a, ns, rfl, hl, by cases ns with | nil => cases e | cons => simp, fun m' h1 h2 => ?_⟩
      rw [minL_uniq e h1 h2]
      exact q Hs H _ S (Same.refl _) (.int _)
  · cases h
theorem o_sorted : OpW K mg (rSortedI K) sortedD := fun c Hs H σ env vs ds d Q S r h q => by
  unfold sortedD at h
  split at h
  · obtain ⟨v, rfl, rv⟩ := r.one_inv
    obtain ⟨a, ns, rfl, hl, h⟩ := listInts (f := fun ns => some (D.lst ((sortI ns).map .int))) S.s1 rv (by simpa only [Option.map_eq_bind, Function.comp_def] using h)
    cases h
    refine ⟨a, ns, rfl, hl, fun ns' p hp hs hn => ?_⟩
    rw [sortI_uniq hp hs]
    exact q _ _ _ (S.push hn (ints_rep _)) (Same.refl _)
  · cases h
def addsD : D → D → Option D
  | .str i, .str j => if i.length + j.length ≤ 1000000 then some (.str (i ++ j)) else none
  | _, _ => none
theorem o_adds : Op2 K mg (fun x y H Q => ∃ i j, x = .str i ∧ y = .str j ∧ i.length + j.length ≤ sizeLine ∧ Q (.str (i ++ j)) H) addsD := fun c Hs H σ env x y d1 d2 d Q S r1 r2 h q => by
  unfold addsD at h; split at h
  · split at h
    · rename_i hc; cases r1; cases r2; cases h; exact ⟨_, _, rfl, rfl, small_of hc, q Hs H _ S (Same.refl _) (.str _)⟩
    · cases h
  · cases h
def ltsD : D → D → Option D
  | .str i, .str j => some (.bl (decide (i.cps.toList < j.cps.toList)))
  | _, _ => none
theorem o_lts : Op2 K mg (fun x y H Q => ∃ i j, x = .str i ∧ y = .str j ∧ Q (.bl (decide (i.cps.toList < j.cps.toList))) H) ltsD := fun c Hs H σ env x y d1 d2 d Q S r1 r2 h q => by
  unfold ltsD at h; split at h
  · cases r1; cases r2; cases h; exact ⟨_, _, rfl, rfl, q Hs H _ S (Same.refl _) (.bl _)⟩
  · cases h
def catD : D → D → Option D := fun _ _ => none
end
/-! the rules of these, for simp -/
@[simp] theorem q_max2 {i j : Int} : max2D [.int i, .int j] = some (.int (max i j)) := rfl
@[simp] theorem q_min2 {i j : Int} : min2D [.int i, .int j] = some (.int (min i j)) := rfl
@[simp] theorem q_max {l : List Int} : maxD [.lst (l.map .int)] = (maxL l).map .int := by simp [maxD, intsOf_map]
@[simp] theorem q_min {l : List Int} : minD [.lst (l.map .int)] = (minL l).map .int := by simp [minD, intsOf_map]
@[simp] theorem q_sorted {l : List Int} : sortedD [.lst (l.map .int)] = some (.lst ((sortI l).map .int)) := by simp [sortedD, intsOf_map]
@[simp] theorem q_keyi {i : Int} : keyD (.int i) = some (.inl i) := rfl
@[simp] theorem q_keys {i : Str} : keyD (.str i) = some (.inr i) := rfl
@[simp] theorem q_viewK {i : Nat} {e : Env} : viewK i e = match e[i]? with
  | some cl => (match cl.view with | some (.dk xs) => some xs | _ => none)
  | none => none := rfl
@[simp] theorem q_putKE {i : Nat} {xs : List (Key × D)} {e : Env} : putKE i xs e = match e[i]? with
  | some cl => (match cl.own with | some (.dk _) => some (e.set i (cl.put (.dk xs))) | _ => none)
  | none => none := rfl
@[simp] theorem q_putKS {i : Nat} {f fk : M D} : putKS i f fk = withS f fun d e1 => if (viewK i e1).isSome then withS fk (fun k e2 => match viewK i e2, keyD k with
  | some xs, some kk => if xs.length < 1000000 then (putKE i (putA xs kk d) e2).map .nx else none
  | _, _ => none) e1 else none := rfl
@[simp] theorem q_vwK {i : Nat} {g : List (Key × D) → Option D} {env : Env} : vwK i g env = match viewK i env with
  | some xs => NK.liftM (g xs) env
  | none => none := rfl
@[simp] theorem q_disp {l : List (M D × M D)} : dispM l = NK.bindM (pairsM l) fun ps => if ps.length ≤ 15 then NK.liftM ((keyPs ps).map fun kvs => .dk (mergeA [] kvs)) else failM := rfl
@[simp] theorem q_pairs0 : pairsM [] = pureM [] := rfl
@[simp] theorem q_pairs1 {fk fv : M D} {r : List (M D × M D)} : pairsM ((fk, fv) :: r) = NK.bindM fk fun k => NK.bindM fv fun v => NK.bindM (pairsM r) fun ps => pureM ((k, v) :: ps) := rfl
@[simp] theorem q_keyPs0 : keyPs [] = some [] := rfl
@[simp] theorem q_keyPs1 {k v : D} {r : List (D × D)} : keyPs ((k, v) :: r) = match keyD k, keyPs r with
    | some kk, some ps => some ((kk, v) :: ps)
    | _, _ => none := rfl
@[simp] theorem q_merge0 {kvs : List (Key × D)} : mergeA kvs [] = kvs := rfl
@[simp] theorem q_merge1 {kvs more : List (Key × D)} {k : Key} {v : D} : mergeA kvs ((k, v) :: more) = mergeA (putA kvs k v) more := rfl
/-- a dict with the same thing at each key -/
abbrev kdk (ks : List Int) (v : D) : List (Key × D) := ks.map fun k => (.inl k, v)
theorem keysI_kdk (ks : List Int) (v : D) : keysI (kdk ks v) = some ks := by
  induction ks with
  | nil => rfl
  | cons k ks ih => show (keysI (kdk ks v)).map _ = _; rw [ih]; rfl
/-- a member put once -/
def addI (ks : List Int) (k : Int) : List Int := if k ∈ ks then ks else ks ++ [k]
theorem putA_kdk (ks : List Int) (k : Int) (v : D) : putA (kdk ks v) (.inl k) v = kdk (addI ks k) v := by
  have h : (kdk ks v).any (fun kv => decide (kv.1 = Sum.inl k)) = decide (k ∈ ks) := by
    induction ks with
    | nil => rfl
    | cons m ks ih =>
      show (decide ((Sum.inl m : Key) = Sum.inl k) || (kdk ks v).any _) = _
      rw [ih]
      by_cases e : m = k
      · subst e; simp
      · have : ¬ k = m := fun z => e z.symm
        simp [e, this]
  unfold putA addI
  rw [h]
  by_cases e : k ∈ ks
  · simp only [e, decide_true, if_true]
    induction ks with
    | nil => cases e
    | cons m ks ih => simp only [kdk, List.map_map, List.map_cons]; simp [Function.comp_def]
  · simp only [e, decide_false, if_false, Bool.false_eq_true]
    simp [kdk]
end NK

set_option Elab.async false
set_option linter.all false
set_option maxRecDepth 100000
set_option maxHeartbeats 4000000
namespace NK
open PySem PySem.Spec PyProof.Rows L2
/-! ### list(range(..)) -/
section
variable {X : Cx} {W : WX} {a b : Expr} {p p2 pos pos2 : Pos}
noncomputable def lrng1M (f : M D) : M D := bindM f fun d => match d with
  | .int n => @ite _ (0 ≤ n ∧ n ≤ 16777216) (Classical.propDecidable _) (pureM (.lst (rngL 0 n))) failM
  | _ => failM
theorem rng_rep {K : PySem.W.Frag} {mg : Str → Option Value} {Hs : Hp} (lo hi : Int) : RepL K mg Hs (rgV lo hi) (rngL lo hi) := by
  unfold rgV rngL
  generalize List.range (hi - lo).toNat = l
  induction l with
  | nil => exact .nil
  | cons i l ih => exact .cons (.int _) ih
theorem n_listRg1 {f : M D} (hm : X.mg "range" = none) (hm2 : X.mg "list" = none) (ha : E' X W a f) (hc : X.calm = true := by rfl) (hg : Gl X "range" := by rfl) (hg2 : Gl X "list" := by rfl)
    (na : starEach [a] X.env = (false, eval a X.env) :: starEach [] X.env := by rfl) (na2 : starEach [.Call (.Name "range" p) [a] [] pos] X.env = (false, eval (.Call (.Name "range" p) [a] [] pos) X.env) :: starEach [] X.env := by rfl) :
    N' X W (.Call (.Name "list" p2) [.Call (.Name "range" p) [a] [] pos] [] pos2) (lrng1M f) :=
  (pe_listRg hc hg2 hm2 (prg_1 hg hm ha na) na2).mono fun σ H Q q => by
    obtain ⟨c, Hs, env, S, q⟩ := q
    refine ⟨c, Hs, env, S, (WpN.bind q).weak fun d e Hs1 H1 S1 z w v r => ?_⟩
    obtain ⟨s1, w⟩ := w
    cases r with
    | int n =>
      have w' : WpN X.K X.mg W c σ Hs1 ((@ite (M D) (0 ≤ n ∧ n ≤ 16777216) (Classical.propDecidable _) (pureM (.lst (rngL 0 n))) failM) e) Q := w
      split at w'
      · rename_i h
        refine ⟨n, rfl, RgOk.of_le (by omega) (by omega) (by omega) (by omega), fun p hp => ?_⟩
        exact w' Hs1 _ _ (s1.push hp (rng_rep 0 n)) (Same.refl _)
      · exact w'.elim
    | _ => exact w.elim
@[simp] theorem q_lrng1 {f : M D} : lrng1M f = NK.bindM f fun d => match d with
  | .int n => @ite _ (0 ≤ n ∧ n ≤ 16777216) (Classical.propDecidable _) (pureM (.lst (rngL 0 n))) failM
  | _ => failM := rfl
end
end NK

set_option Elab.async false
set_option linter.all false
set_option maxRecDepth 100000
set_option maxHeartbeats 4000000
namespace NK
open PySem PySem.Spec PyProof.Rows L2
/-! ### an exception that was caught and is kept as a value -/
section
variable {X : Cx} {pins : List (Addr × Obj)} {σ : L2.St} {H : Hp} {s : Shared}
theorem exv_ok {P : Program} {w : World} {H : Hp} {h : Heap} {a : Addr} {cls : Value} {d : Option Addr} {oe : Obj} {vs : Array Value} (q : h.get? a = some oe) (z : Zc cls d oe) (f : oe.data = .fields vs) : ObjOk P w H h a (ExV cls d a) :=
  ⟨⟨oe, vs, q, z, f⟩, ⟨oe, q⟩, fun _ _ ⟨o, us, q1, q2⟩ st => ⟨o, us, st o q1, q2⟩⟩
/-- what stands in the heap, new since the entry, is tracked from here on -/
theorem Inv.keepX {a : Addr} {oe : Obj} {vs : Array Value} {cls : Value} {d : Option Addr} (I : Inv X pins σ H s) (h0 : X.s_0.heap.get? a = none) (ha : s.heap.get? a = some oe) (z : Zc cls d oe) (hd : oe.data = .fields vs)
    (na : H a = none) (nL : a ≠ X.env.locals) (np : ∀ p ∈ X.pn ++ pins, p.1 ≠ a) : Inv X pins σ (upd H a (ExV cls d a)) s := by
  have ne0 : ∀ b o, X.s_0.heap.get? b = some o → b ≠ a := fun b o e y => by rw [y, h0] at e; cases e
  have neH : ∀ b o, H b = some o → b ≠ a := fun b o e y => by rw [y, na] at e; cases e
  refine ⟨I.ok, I.os, I.bare, ⟨I.base.keep, I.base.slot, fun b o e n x => ?_, I.base.there, fun b xs e => ?_, fun b o u e => ?_, fun b ps e => ?_⟩, I.loc, I.cell, ?_, fun x c e => ?_, fun p hp => ?_, fun b u e => ?_, I.len⟩
  · rw [upd_ne (ne0 b o e)]; exact I.base.free b o e n x
  · have y := I.base.tups b xs e
    rw [upd_ne (neH b _ y)]; exact y
  · have y := I.base.frzs b o u e
    rw [upd_ne (neH b _ y)]; exact y
  · obtain ⟨m, y⟩ := I.base.tbls b ps e
    exact ⟨m, by rw [upd_ne (neH b _ y)]; exact y⟩
  · rw [upd_ne (Ne.symm nL)]; exact I.free
  · have hc : c ≠ a := fun y => by
      obtain ⟨v, o, ho, dt⟩ := I.cell x c e
      rw [y, ha] at ho; cases ho; rw [hd] at dt; cases dt
    rw [upd_ne hc]; exact I.freeC x c e
  · obtain ⟨p1, p2, p3, p4, p5⟩ := I.pin p hp
    exact ⟨p1, by rw [upd_ne (np p hp)]; exact p2, p3, p4, p5⟩
  · by_cases hb : b = a
    · subst hb
      rw [upd_same] at e; cases e
      exact exv_ok ha z hd
    · rw [upd_ne hb] at e
      exact (I.hok b u e).stay (fun _ _ _ q => q) (fun c q => by rw [upd_ne (neH c _ q)]; exact q) fun c xs q => by rw [upd_ne (neH c _ q)]; exact q
/-- the wish: the clause catches; behind its suite the exception is known -/
def wKeep (K : PySem.W.Frag) (c : Value) (i : Nat) (ts : Addr → Value → Option Addr → TS) (D : Ends) : WX := fun cls d σ H =>
  PySem.W.exmOne K cls c = some true ∧ ∀ a, H a = none → ts a cls d { nx := fun σ' H' => H' a = none → D.nx (σ'.set i none) (upd H' a (ExV cls d a)), rt := fun _ _ => False } (σ.set i (some (.ref a))) H
theorem ps_try_keep {x n : Str} {c : Value} {i : Nat} {body suite : List Stmt} {b₀ : Stmt} {np pos pos' : Pos} {tb : WX → TS} {ts : Addr → Value → Option Addr → TS}
    (hs : X.stack = X.env :: X.outer) (hf : X.env.frame = some X.env.locals) (hex : X.ex = []) (hN : X.N.Nodup) (hi : X.N[i]? = some n) (hln : X.env.kindOf n = some .local) (hc : Names X x c)
    (hb : ∀ (W : WX) (pn : List (Addr × Obj)) (xe : Value → Shared → Prop), Takes (X.tr pn xe) W → PassesOwn (model X.prog X.w) X.A X.env xe → PSs (X.tr pn xe) body (tb W))
    (hsu : ∀ (a : Addr) (oe : Obj) (cls : Value) (d : Option Addr) (pn : List (Addr × Obj)), Zc cls d oe → (∃ vs, oe.data = .fields vs) → PSs (X.suite a ((a, oe) :: pn)) (b₀ :: suite) (ts a cls d)) :
    PS X (.Try body [.ExceptHandler (some (.Name x np)) (some n) (b₀ :: suite) pos'] [] [] pos) (fun D σ H => tb (wKeep X.K c i ts D) D σ H) := by
  constructor
  intro pins s σ H D I h
  have ok := I.ok
  have frE : X.A.frames = some (X.env :: X.outer) := hs ▸ ok.frames
  refine wpAny_Try_except ?_
  let EX : Value → Shared → Prop := fun e s₁ => wpAny (model X.prog X.w) X.A (noteFrame e X.env) (fun _ s₂ => wpAny (model X.prog X.w) X.A (setFlight e none)
    (fun _ s₃ => wpAny (model X.prog X.w) X.A (handleBy e X.env [.ExceptHandler (some (.Name x np)) (some n) (b₀ :: suite) pos']) (SP X pins D) X.xe s₃) X.xe s₂) X.xe s₁
  have caught : Takes (X.tr (X.pn ++ pins) EX) (wKeep X.K c i ts D) := by
    rintro u s' ⟨a, B, sI, pins', σ1, H1, cls, d, rfl, J1, inB, up1, sky1, na, os1, ag1, hm, go⟩
    have J : Inv X pins σ1 H1 sI := J1.ofTry ok
    have sky : Sky B (X.env :: X.outer) a (Zc cls d) X.env.locals s'.heap := hs ▸ sky1
    show wpAny (model X.prog X.w) X.A (noteFrame (.ref a) X.env) _ _ _
    refine Sky.land Zc.steady frE hf sky fun g1 fl1 up2 => ?_
    have K1 : Inv X pins σ1 H1 { s' with heap := g1 } := J.landed inB fl1.1 (up1.trans up2) os1 ag1
    obtain ⟨o1, v1, at1, z1, d1⟩ := fl1.there
    have out : a ∉ frs (X.env :: X.outer) := fun hmem => by
      obtain ⟨_, o', e', no⟩ := fl1.2.2.1.mem hmem
      rw [at1] at e'; cases e'
      exact no _ d1
    have nL : a ≠ X.env.locals := fun y => out (List.mem_filterMap.mpr ⟨X.env, List.mem_cons_self, by rw [hf, y]⟩)
    have nF : a ∉ X.fs := fun hmem => out (by
      obtain ⟨e, he, q⟩ := List.mem_filterMap.mp hmem
      exact List.mem_filterMap.mpr ⟨e, List.mem_cons_of_mem _ he, q⟩)
    have noB : B.get? a = none := fl1.2.1
    have old : X.s_0.heap.get? a = none := by
      cases e : X.s_0.heap.get? a with
      | none => rfl
      | some o =>
        obtain ⟨o', e'⟩ := J.base.there a o e (by rw [hex]; exact List.not_mem_nil)
        have := inB a o' e' (by show a ∉ frs X.stack; rw [hs]; exact out)
        rw [noB] at this; cases this
    have pn1 : ∀ p ∈ X.pn ++ pins, p.1 ≠ a := fun p hp y => by
      obtain ⟨p1, p2, p3, p4, _⟩ := J.pin p hp
      rw [y] at p1
      have := inB a p.2 p1 (by show a ∉ frs X.stack; rw [hs]; exact out)
      rw [noB] at this; cases this
    have T1 := K1.suite at1 d1 na nL nF
    refine wpAny_handleBy_cons (codeAny_handlers_test ?_) (by intro q; cases q)
    have LT : PySem.W.Looks (model X.prog X.w) g1 (typeOf (.ref a)) cls := fun A Q E s k q => wpAny_typeOf_ref (k _ _ at1) (by rw [z1.1]; exact q)
    have LM := PySem.W.exm_one (M := model X.prog X.w) (K1.kIn) LT hm
    have named : ∀ {Q : Value → Shared → Prop} {E : Value → Shared → Prop}, Q c { s' with heap := g1 } → wpAny (model X.prog X.w) (X.A.mark (some (.ref a))) (eval (.Name x np) X.env) Q E { s' with heap := g1 } := by
      intro Q E q
      rcases hc with ⟨hg, hdbg, hm | ⟨hm, hv, hnn⟩⟩
      · exact ld_glob (X := X.suite a ((a, o1) :: (X.pn ++ pins))) T1 hg hm q hdbg
      · exact ld_blt (X := X.suite a ((a, o1) :: (X.pn ++ pins))) T1 hg hm hv q hnn hdbg
    refine named (LM.here ?_)
    refine codeAny_handlers_suite_as ?_
    refine HandSPX.lands_againZ fl1 fun g2 fl2 up3 => ?_
    have K2 : Inv X pins σ1 H1 { s' with heap := g2 } := J.landed inB fl2.1 ((up1.trans up2).trans up3) os1 ag1
    obtain ⟨o2, v2, at2, z2, d2⟩ := fl2.there
    have T2 := K2.suite at2 d2 na nL nF
    refine store_ok (X := X.suite a ((a, o2) :: (X.pn ++ pins))) (v := .ref a) T2 hN hi (.inl hln) rfl (fun s5 T5 => ?_) (.inr hln)
    refine wpAny_mono ((hsu a o2 cls d (X.pn ++ pins) z2 ⟨_, d2⟩).run [] s5 _ H1 _ T5 (go a na)) (fun f s6 fin => ?_) (fun _ _ z => False.elim z)
    cases f with
    | next =>
      obtain ⟨σ6, H6, T6, q6⟩ := fin
      obtain ⟨at6, na6, _⟩ := T6.pin (a, o2) (List.mem_append_left _ List.mem_cons_self)
      exact gone_ok (Inv.keepX (T6.unsuite ok) old at6 z2 d2 na6 nL pn1) hN hi hln fun s7 J7 => ⟨_, _, J7, q6 na6⟩
    | brk => obtain ⟨σ6, H6, T6, q6⟩ := fin; exact q6.elim
    | cont => obtain ⟨σ6, H6, T6, q6⟩ := fin; exact q6.elim
    | ret u => obtain ⟨v6, σ6, H6, T6, r6, q6⟩ := fin; exact q6.elim
  refine wpAny_mono ((hb (wKeep X.K c i ts D) (X.pn ++ pins) EX caught PassesOwn.looking).run [] s σ H D (I.toTry _) h) (fun f s1 fin => ?_) (fun _ _ z => z)
  cases f with
  | next =>
    obtain ⟨σ', H', J', q⟩ := fin
    exact wpAny_execs_nil ⟨σ', H', J'.ofTry ok, q⟩
  | brk => obtain ⟨σ', H', J', q⟩ := fin; exact ⟨σ', H', J'.ofTry ok, q⟩
  | cont => obtain ⟨σ', H', J', q⟩ := fin; exact ⟨σ', H', J'.ofTry ok, q⟩
  | ret u => obtain ⟨v, σ', H', J', r, q⟩ := fin; exact ⟨v, σ', H', J'.ofTry ok, r, q⟩
end
end NK

set_option Elab.async false
set_option linter.all false
set_option maxRecDepth 100000
set_option maxHeartbeats 4000000
namespace NK
open PySem PySem.Spec PyProof.Rows L2
/-! ### the program's classes, as the text has them -/
def upTab : List (Str × List Str) := [("Store", ["Store", "Keep"]), ("BadRounds", ["BadRounds", "KeepError"]), ("BadNight", ["BadNight", "KeepError"]), ("BadNumber", ["BadNumber", "KeepError"]), ("BadRules", ["BadRules", "KeepError"]), ("BadNights", ["BadNights", "KeepError"]),
  ("Elder", ["Elder", "KeepError"]), ("Full", ["Full", "KeepError"]), ("NotHeld", ["NotHeld", "KeepError"]), ("Pinned", ["Pinned", "KeepError"]), ("NotPinned", ["NotPinned", "KeepError"]), ("BadState", ["BadState", "KeepError"]), ("BadPart", ["BadPart", "KeepError"]), ("NotFit", ["NotFit", "KeepError"]),
  ("IsWhole", ["IsWhole", "KeepError"]), ("BadPlan", ["BadPlan", "KeepError"]), ("Unlike", ["Unlike", "KeepError"]), ("BadText", ["BadText", "KeepError"])]
def clsUp (c : Str) : List Str := match upTab.find? (fun p => p.1 == c) with
  | some p => p.2
  | none => [c]
def exAll : List Str := ["BadRounds", "BadNight", "BadNumber", "BadRules", "BadNights", "Elder", "Full", "NotHeld", "Pinned", "NotPinned", "BadState", "BadPart", "NotFit", "IsWhole", "BadPlan", "Unlike", "BadText"]
def tyNames : List String := ["NoneType", "bool", "int", "str", "list", "tuple", "dict"]
/-- what isinstance asks of an exception's class -/
structure ExF (K : PySem.W.Frag) (A : Addr) : Prop where
  c : (PySem.W.clsIn K A).isSome = true
  ga : PySem.W.findIn K (.ref A) "__getattribute__" = some (some (.builtin "BaseException.__getattribute__"))
  gt : PySem.W.findIn K (.ref A) "__getattr__" = some none
  sb : PySem.W.subIn K (.ref A) (.type "BaseException") = some true
  at_ : PySem.W.findIn K (.ref A) "__class__" = some (some (.builtin "object.__class__"))
  gn : PySem.W.specialIn K (.builtin "object.__class__") "__get__" = some (some (.builtin "getset_descriptor.__get__"))
  tk : PySem.W.takesIn K (.builtin "object.__class__") = some true
  mr : PySem.W.mroIn K A (.type "object") = some true
/-- .. of the class of an object -/
structure ObF (K : PySem.W.Frag) (A : Addr) : Prop where
  c : Cls K A
  at_ : PySem.W.findIn K (.ref A) "__class__" = some (some (.builtin "object.__class__"))
  gn : PySem.W.specialIn K (.builtin "object.__class__") "__get__" = some (some (.builtin "getset_descriptor.__get__"))
  tk : PySem.W.takesIn K (.builtin "object.__class__") = some true
  mr : PySem.W.mroIn K A (.type "object") = some true
structure TabOk (K : PySem.W.Frag) (mg : Str → Option Value) (ob ex tg hd : List Str) : Prop where
  ftg : ∀ c ∈ tg, ∃ C, mg c = some (.ref C) ∧ (∀ t ∈ tyNames, PySem.W.kitOne K (.type t) (.ref C) = some false) ∧ (∀ o ∈ ob ++ ex, ∀ O, mg o = some (.ref O) → PySem.W.kitOne K (.ref O) (.ref C) = some ((clsUp o).contains c))
  fex : ∀ a ∈ ex, ∃ A, mg a = some (.ref A) ∧ ExF K A ∧ PySem.W.kitOne K (.ref A) (.type "RuntimeError") = some true
  fob : ∀ a ∈ ob, ∃ A, mg a = some (.ref A) ∧ ObF K A ∧ ∀ t ∈ tyNames, PySem.W.kitOne K (.ref A) (.type t) = some false
  fhd : ∀ h ∈ hd, ∃ H, mg h = some (.ref H) ∧ ∀ a ∈ ex, ∀ A, mg a = some (.ref A) → PySem.W.exmOne K (.ref A) (.ref H) = some ((clsUp a).contains h)
/-! the same, asked of the written part at once -/
def rfN (K : PySem.W.Frag) (n : Str) : Option Addr := match PySem.W.nsIn K mainGlobals n with
  | some (some (.ref C)) => some C
  | _ => none
def exFB (K : PySem.W.Frag) (A : Addr) : Bool := (PySem.W.clsIn K A).isSome && (PySem.W.findIn K (.ref A) "__getattribute__" == some (some (.builtin "BaseException.__getattribute__"))) && (PySem.W.findIn K (.ref A) "__getattr__" == some none) && (PySem.W.subIn K (.ref A) (.type "BaseException") == some true) &&
  (PySem.W.findIn K (.ref A) "__class__" == some (some (.builtin "object.__class__"))) && (PySem.W.specialIn K (.builtin "object.__class__") "__get__" == some (some (.builtin "getset_descriptor.__get__"))) && (PySem.W.takesIn K (.builtin "object.__class__") == some true) && (PySem.W.mroIn K A (.type "object") == some true)
def obFB (K : PySem.W.Frag) (A : Addr) : Bool := PySem.W.plainGet K A Str.empty && PySem.W.hasDictIn K A && PySem.W.plainOver K A && (PySem.W.findIn K (.ref A) "__setattr__" == some (some (.builtin "object.__setattr__"))) &&
  (PySem.W.findIn K (.ref A) "__class__" == some (some (.builtin "object.__class__"))) && (PySem.W.specialIn K (.builtin "object.__class__") "__get__" == some (some (.builtin "getset_descriptor.__get__"))) && (PySem.W.takesIn K (.builtin "object.__class__") == some true) && (PySem.W.mroIn K A (.type "object") == some true)
theorem exFB_of {K : PySem.W.Frag} {A : Addr} (h : exFB K A = true) : ExF K A := by
  simp only [exFB, Bool.and_eq_true, beq_iff_eq] at h
  obtain ⟨⟨⟨⟨⟨⟨⟨a, b⟩, c⟩, d⟩, e⟩, f⟩, g⟩, i⟩ := h
  exact ⟨a, b, c, d, e, f, g, i⟩
theorem obFB_of {K : PySem.W.Frag} {A : Addr} (h : obFB K A = true) : ObF K A := by
  simp only [obFB, Bool.and_eq_true, beq_iff_eq] at h
  obtain ⟨⟨⟨⟨⟨⟨⟨a, b⟩, c⟩, d⟩, e⟩, f⟩, g⟩, i⟩ := h
  exact ⟨⟨a, b, c, d⟩, e, f, g, i⟩
def tabB (K : PySem.W.Frag) (ob ex tg hd : List Str) : Bool :=
  (tg.all fun c => match rfN K c with
    | some C => (tyNames.all fun t => PySem.W.kitOne K (.type t) (.ref C) == some false) && (ob ++ ex).all fun o => match rfN K o with
      | some O => PySem.W.kitOne K (.ref O) (.ref C) == some ((clsUp o).contains c)
      | none => false
    | none => false) &&
  (ex.all fun a => match rfN K a with
    | some A => exFB K A && PySem.W.kitOne K (.ref A) (.type "RuntimeError") == some true
    | none => false) &&
  (ob.all fun a => match rfN K a with
    | some A => obFB K A && tyNames.all fun t => PySem.W.kitOne K (.ref A) (.type t) == some false
    | none => false) &&
  (hd.all fun h => match rfN K h with
    | some H => ex.all fun a => match rfN K a with
      | some A => PySem.W.exmOne K (.ref A) (.ref H) == some ((clsUp a).contains h)
      | none => false
    | none => false)
theorem rfN_of {K : PySem.W.Frag} {n : Str} {C : Addr} (h : rfN K n = some C) : PySem.W.nsIn K mainGlobals n = some (some (.ref C)) := by
  unfold rfN at h
  split at h
  · cases h; assumption
  · cases h
theorem tab_ok {K : PySem.W.Frag} {h : Heap} {mg : Str → Option Value} {ob ex tg hd : List Str} (X : K.In h) (G : h.Ns mainGlobals mg) (t : tabB K ob ex tg hd = true) : TabOk K mg ob ex tg hd := by
  have mgo : ∀ {n C}, rfN K n = some C → mg n = some (.ref C) := fun {n C} q => PySem.W.mg_of X G (rfN_of q)
  simp only [tabB, Bool.and_eq_true, List.all_eq_true] at t
  obtain ⟨⟨⟨t1, t2⟩, t3⟩, t4⟩ := t
  refine ⟨fun c hc => ?_, fun a ha => ?_, fun a ha => ?_, fun k hk => ?_⟩
  · have q := t1 c hc
    split at q
    · rename_i C hC
      simp only [Bool.and_eq_true, List.all_eq_true, beq_iff_eq] at q
      refine ⟨C, mgo hC, q.1, fun o ho O hO => ?_⟩
      have r := q.2 o ho
      split at r
      · rename_i O' hO'
        have e := mgo hO'
        rw [hO] at e; cases e
        simpa using r
      · cases r
    · cases q
  · have q := t2 a ha
    split at q
    · rename_i A hA
      simp only [Bool.and_eq_true, beq_iff_eq] at q
      exact ⟨A, mgo hA, exFB_of q.1, q.2⟩
    · cases q
  · have q := t3 a ha
    split at q
    · rename_i A hA
      simp only [Bool.and_eq_true, List.all_eq_true, beq_iff_eq] at q
      exact ⟨A, mgo hA, obFB_of q.1, q.2⟩
    · cases q
  · have q := t4 k hk
    split at q
    · rename_i H hH
      simp only [List.all_eq_true] at q
      refine ⟨H, mgo hH, fun a ha A hA => ?_⟩
      have r := q a ha
      split at r
      · rename_i A' hA'
        have e := mgo hA'
        rw [hA] at e; cases e
        simpa using r
      · cases r
    · cases q
/-! ### isinstance, own classes too -/
def isiX (ob ex tg : List Str) : List D → Option D
  | [.ex nm pay, .ty n] => if nm ∈ ex ∧ n = "RuntimeError" then some (.bl true) else none
  | [.ob k fs, .ty n] => if k ∈ ob ∧ n ∈ tyNames then some (.bl false) else none
  | [.ex nm pay, .cl c] => if nm ∈ ex ∧ c ∈ tg then some (.bl ((clsUp nm).contains c)) else none
  | [.ob k fs, .cl c] => if k ∈ ob ∧ c ∈ tg then some (.bl ((clsUp k).contains c)) else none
  | [x, .cl c] => if c ∈ tg then (pyTy x).map fun _ => .bl false else none
  | [x, .ty n] => isiD [x, .ty n]
  | _ => none
section
variable {X : Cx}
/-- isinstance by the library's word for a value's class -/
def rIsiW (K : PySem.W.Frag) : List V → Hp → VK → Prop := fun xs H Q => ∃ (x c : V) (t u : Value) (b : Bool), xs = [x, c] ∧ ClsV c u ∧ (TyX K H x t ∨ ∃ (a C : Addr) (dd : Option Addr) (ks : List (Str × V)), x = .ref a ∧ t = .ref C ∧ H a = some (ExV (.ref C) dd a) ∧ ExF K C ∧ (∀ p, dd = some p → H p = some (.xd ks))) ∧ PySem.W.kitOne K t u = some b ∧ Q (.bl b) H
theorem call_isiW : CallR X (.builtin "isinstance") (rIsiW X.K) := by
  intro pins s σ H xs us Q I r h
  obtain ⟨x, c, t, u, b, rfl, k, ty, e, q⟩ := h
  rcases ty with ty | ⟨a, C, dd, ks, rfl, rfl, hx, F, hd⟩
  · exact call_isi pins s σ H _ us Q I r ⟨x, c, t, u, b, rfl, k, ty, e, q⟩
  · cases r with
    | cons rx rr =>
      cases rr with
      | cons rc rr =>
        cases rr
        cases rx
        have e2 := k.eq rc
        subst e2
        obtain ⟨⟨oe, vs, hget, hz, hf⟩, _⟩ : ObjOk X.prog X.w H s.heap a (ExV (.ref C) dd a) := I.hok a _ hx
        have J : ∃ od, PySem.W.InstAt s.heap a oe C od := by
          obtain ⟨oc, od, oda, osl⟩ := oe
          obtain ⟨h1, h2⟩ := hz
          dsimp only at h1 h2 hf
          subst h1 h2 hf
          cases od with
          | none => exact ⟨none, hget, rfl, rfl, trivial⟩
          | some p =>
            obtain ⟨mA, hns, hr⟩ : ObjOk X.prog X.w H s.heap p (.xd ks) := I.hok p _ (hd p rfl)
            obtain ⟨od, ho, hl⟩ := lookIn_ns hns
            exact ⟨some od, hget, rfl, rfl, ho⟩
        obtain ⟨od, J⟩ := J
        exact PySem.W.kia_one (PySem.W.kitx_exc F.c F.ga F.gt F.sb F.at_ F.gn F.tk F.mr) I.kIn J e (fun z => nomatch z) fun tk => ⟨.bl b, H, I.kept (t' := tk) fun _ _ z => z, rfl, q⟩
end
section
variable {K : PySem.W.Frag} {mg : Str → Option Value} {ob ex tg hd : List Str}
theorem pyTy_in {d : D} {t : String} (h : pyTy d = some t) : t ∈ tyNames := by
  cases d <;> simp [pyTy] at h <;> subst h <;> simp [tyNames]
theorem exOf {Hs H : Hp} {v : V} {nm : Str} {pay : List (Str × D)} (e : Same Hs H) (r : Rep K mg Hs v (.ex nm pay)) : ∃ (a C : Addr) (dd : Option Addr) (ks : List (Str × V)), v = .ref a ∧ mg nm = some (.ref C) ∧ H a = some (ExV (.ref C) dd a) ∧ ∀ p, dd = some p → H p = some (.xd ks) := by
  cases r with
  | ex g h => exact ⟨_, _, none, [], rfl, g, e _ _ h, fun p z => nomatch z⟩
  | exP g h h2 r n => exact ⟨_, _, _, _, rfl, g, e _ _ h, fun p z => by cases z; exact e _ _ h2⟩
theorem obOf {Hs H : Hp} {v : V} {k : Str} {fs : List (Str × D)} (e : Same Hs H) (r : Rep K mg Hs v (.ob k fs)) : ∃ (a C dx : Addr) (ks : List (Str × V)), v = .ref a ∧ mg k = some (.ref C) ∧ H a = some (.ins C dx ks) ∧ RepF K mg Hs ks fs := by
  cases r with
  | ob g t h r => exact ⟨_, _, _, _, rfl, g, e _ _ h, r⟩
theorem clOf {Hs : Hp} {v : V} {c : Str} (r : Rep K mg Hs v (.cl c)) : ∃ C, v = .ref C ∧ mg c = some (.ref C) := by
  cases r with
  | cl g => exact ⟨_, rfl, g⟩
theorem tyOf {Hs : Hp} {v : V} {n : String} (r : Rep K mg Hs v (.ty n)) : v = .ty n := by cases r; rfl
theorem o_isiX (T : TabOk K mg ob ex tg hd) : OpN K mg (rIsiW K) (isiX ob ex tg) := fun c Hs H σ env vs ds d Q S r h q => by
  unfold isiX at h
  split at h
  · rename_i nm pay n
    obtain ⟨v, w, rfl, rv, rw⟩ := r.two_inv
    split at h
    · rename_i hc
      cases h
      obtain ⟨hn, rfl⟩ := hc
      obtain ⟨a, C, dd, ks, rfl, g, hx, hd⟩ := exOf S.s1 rv
      cases tyOf rw
      obtain ⟨A, g2, F, k⟩ := T.fex nm hn
      rw [g] at g2; cases g2
      exact ⟨.ref a, .ty _, .ref C, .type _, true, rfl, .ty _, .inr ⟨a, C, dd, ks, rfl, rfl, hx, F, hd⟩, k, q Hs H _ S (Same.refl _) (.bl _)⟩
    · cases h
  · rename_i k fs n
    obtain ⟨v, w, rfl, rv, rw⟩ := r.two_inv
    split at h
    · rename_i hc
      cases h
      obtain ⟨a, C, dx, ks, rfl, g, hx, _⟩ := obOf S.s1 rv
      cases tyOf rw
      obtain ⟨A, g2, F, k⟩ := T.fob k hc.1
      rw [g] at g2; cases g2
      exact ⟨.ref a, .ty _, .ref C, .type _, false, rfl, .ty _, .inl (.base (.ins hx F.c F.at_ F.gn F.tk F.mr)), k _ hc.2, q Hs H _ S (Same.refl _) (.bl _)⟩
    · cases h
  · rename_i nm pay c
    obtain ⟨v, w, rfl, rv, rw⟩ := r.two_inv
    split at h
    · rename_i hc
      cases h
      obtain ⟨a, C, dd, ks, rfl, g, hx, hd⟩ := exOf S.s1 rv
      obtain ⟨B, rfl, gB⟩ := clOf rw
      obtain ⟨A, g2, F, k⟩ := T.fex nm hc.1
      rw [g] at g2; cases g2
      obtain ⟨B', gB2, _, kk⟩ := T.ftg c hc.2
      rw [gB] at gB2; cases gB2
      exact ⟨.ref a, .ref B, .ref C, .ref B, _, rfl, .own _, .inr ⟨a, C, dd, ks, rfl, rfl, hx, F, hd⟩, kk nm (List.mem_append_right _ hc.1) C g, q Hs H _ S (Same.refl _) (.bl _)⟩
    · cases h
  · rename_i k fs c
    obtain ⟨v, w, rfl, rv, rw⟩ := r.two_inv
    split at h
    · rename_i hc
      cases h
      obtain ⟨a, C, dx, ks, rfl, g, hx, _⟩ := obOf S.s1 rv
      obtain ⟨B, rfl, gB⟩ := clOf rw
      obtain ⟨A, g2, F, _⟩ := T.fob k hc.1
      rw [g] at g2; cases g2
      obtain ⟨B', gB2, _, kk⟩ := T.ftg c hc.2
      rw [gB] at gB2; cases gB2
      exact ⟨.ref a, .ref B, .ref C, .ref B, _, rfl, .own _, .inl (.base (.ins hx F.c F.at_ F.gn F.tk F.mr)), kk k (List.mem_append_left _ hc.1) C g, q Hs H _ S (Same.refl _) (.bl _)⟩
    · cases h
  · rename_i x c _ _
    obtain ⟨v, w, rfl, rv, rw⟩ := r.two_inv
    split at h
    · rename_i hc
      cases e : pyTy x with
      | none => rw [e] at h; cases h
      | some t =>
        rw [e] at h
        cases h
        obtain ⟨B, rfl, gB⟩ := clOf rw
        obtain ⟨B', gB2, kk, _⟩ := T.ftg c hc
        rw [gB] at gB2; cases gB2
        exact ⟨v, .ref B, .type t, .ref B, _, rfl, .own _, .inl (pyTy_of S.s1 rv e), kk t (pyTy_in e), q Hs H _ S (Same.refl _) (.bl _)⟩
    · cases h
  · have hh := o_isi (K := K) (mg := mg) c Hs H σ env vs _ d Q S r h q
    obtain ⟨x, c', t, u, b, e1, e2, e3, e4, e5⟩ := hh
    exact ⟨x, c', t, u, b, e1, e2, .inl e3, e4, e5⟩
  · cases h
end
/-! ### try: .. except X as n: t = n -/
def tryS (ex : List Str) (x : Str) (i j : Nat) (mb : S) : S := fun env => match mb env with
  | some (.exc y e) => if y.nm ∈ ex ∧ (clsUp y.nm).contains x = true ∧ i < e.length then some (.nx (((e.set i .no).set j (.sh (.ex y.nm y.pay.toList))).set i .no)) else none
  | r => r
section
variable {X : Cx} {W : WX}
theorem s_tryKeep {ob ex tg hd : List Str} {x n : Str} {i j : Nat} {body : List Stmt} {st : Stmt} {np pos pos' : Pos} {mb : S} (T : TabOk X.K X.mg ob ex tg hd) (hx : x ∈ hd)
    (hs : X.stack = X.env :: X.outer) (hf : X.env.frame = some X.env.locals) (hex : X.ex = []) (hN : X.N.Nodup) (hi : X.N[i]? = some n) (hln : X.env.kindOf n = some .local)
    (hb : ∀ (W : WX) (pn : List (Addr × Obj)) (xe : Value → Shared → Prop), Takes (X.tr pn xe) W → PassesOwn (model X.prog X.w) X.A X.env xe → B' (X.tr pn xe) W body mb)
    (hsu : ∀ (a : Addr) (oe : Obj) (cls : Value) (d : Option Addr) (pn : List (Addr × Obj)), Zc cls d oe → (∃ vs, oe.data = .fields vs) → PSs (X.suite a ((a, oe) :: pn)) [st] (tAsg (tVar i) (gName j)))
    (hg : Gl X x := by rfl) (hdb : (x == ("__debug__" : Str)) = false := by decide) :
    S' X W (.Try body [.ExceptHandler (some (.Name x np)) (some n) [st] pos'] [] [] pos) (tryS ex x i j mb) := by
  obtain ⟨Cx, gx, km⟩ := T.fhd x hx
  refine (ps_try_keep (tb := fun W => vS X.K X.mg W mb) (ts := fun _ _ _ => tAsg (tVar i) (gName j)) hs hf hex hN hi hln (c := .ref Cx) ⟨hg, hdb, .inl gx⟩ hb hsu).mono fun D σ H q => ?_
  obtain ⟨c, Hs, env, S, q⟩ := q
  refine ⟨c, Hs, env, S, ?_⟩
  unfold tryS at q
  cases e : mb env with
  | none => rw [e] at q; exact q
  | some r =>
    rw [e] at q
    cases r with
    | exc y e' =>
      show ∀ Hs' H' σ' cls dd, Sta X.K X.mg c Hs' H' σ' e' → ExnOk X.K X.mg Hs' H' y cls dd → _
      intro Hs' H' σ' cls dd S' ok
      have q' : WpS X.K X.mg W c (if y.nm ∈ ex ∧ (clsUp y.nm).contains x = true ∧ i < e'.length then some (.nx (((e'.set i .no).set j (.sh (.ex y.nm y.pay.toList))).set i .no)) else none) D := q
      split at q'
      · rename_i hc
        obtain ⟨h1, h2, h3⟩ := hc
        obtain ⟨C, gC, rfl, pay⟩ := ok
        refine ⟨by rw [km y.nm h1 C gC, h2], fun a ha => ?_⟩
        have hl : i < σ'.length := by rw [← S'.len]; exact h3
        refine ⟨.ref a, List.getElem?_set_self hl, fun na => ?_⟩
        have P := S'.put (o := ExV (.ref C) dd a) ha
        have rep : Rep X.K X.mg (upd Hs' a (ExV (.ref C) dd a)) (.ref a) (.ex y.nm y.pay.toList) := by
          cases hp : y.pay with
          | none =>
            rw [hp] at pay
            have : dd = none := pay
            subst this
            exact .ex gC upd_same
          | some fd =>
            obtain ⟨f, d⟩ := fd
            rw [hp] at pay
            obtain ⟨p, v, rfl, hp1, hp2⟩ := pay
            exact .exP gC upd_same (upd_some hp1 (S'.freshS ha)) (.cons (hp2.mono (same_new (S'.freshS ha))) .nil) (by simp)
        exact q' _ _ _ (((P.wipe (i := i) (ov := some (.ref a))).set rep).wipe (i := i) (ov := none))
      · exact q'.elim
    | nx e' => exact q
    | rt d e' => exact q
    | rn d e' => exact q
    | bk e' => exact q
    | ct e' => exact q
end
end NK

set_option Elab.async false
set_option linter.all false
set_option maxRecDepth 100000
set_option maxHeartbeats 4000000
namespace NK
open PySem PySem.Spec PyProof.Rows L2
/-! ### methods of shared things that change nothing -/
section
variable {X : Cx}
/-- list.count, flat items -/
def rCountF (K : PySem.W.Frag) : V → List V → Hp → VK → Prop := fun x xs H Q => ∃ (a : Addr) (ys : List V) (y : V), x = V.ref a ∧ xs = [y] ∧ SqL K H a ys ∧ flatV y = true ∧ ys.all flatV = true ∧ Q (.int (ys.countP fun z => eqV z y : Nat)) H
theorem eqU_count {y : V} : ∀ {ys : List V} {us : List Value}, Vals ys us → ys.all flatV = true → us.countP (eqU y) = ys.countP fun z => eqV z y
  | _, _, .nil, _ => rfl
  | z :: ys, u :: us, .cons r t, f => by
    rw [List.all_cons, Bool.and_eq_true] at f
    rw [List.countP_cons, List.countP_cons, eqU_count t f.2, eqU_of r f.1]
theorem mt_countF : MtR X "list.count" (rCountF X.K) := by
  intro pins s σ H x xs v us Q I rx rxs h
  obtain ⟨p, ys, y, rfl, rfl, hs, fy, fys, q⟩ := h
  cases rx
  obtain ⟨u, rfl, ru⟩ := rxs.one
  obtain ⟨its, rv, ⟨⟨cls, dd, data, sl⟩, n, ho, hc, hdn, hd⟩, hlen⟩ := I.list hs
  simp only at hc hd
  subst hc hd
  refine call_meets PySem.F.slot_list_count ⟨_, ho, rfl⟩ PySem.F.entry_list_count (PySem.F.args_list_count_2 _ _)
    (SeqAt.list_countAt p its.toArray n dd sl u (eqU y)) ⟨ho, fun z hz => mem_eqAt ru fy rv fys z (by simpa using hz), ?_⟩
  have ec : its.toArray.toList.countP (eqU y) = ys.countP fun z => eqV z y := by simpa using eqU_count rv fys
  refine ⟨.int (ys.countP fun z => eqV z y : Nat), H, I.tok _, ⟨s.toks, ?_⟩, q⟩
  rw [ec]
end
section
variable {K : PySem.W.Frag} {mg : Str → Option Value}
def OpMt (K : PySem.W.Frag) (mg : Str → Option Value) (T : String) (r : V → List V → Hp → VK → Prop) (tq : D → Bool) (g : D → List D → Option D) : Prop :=
  (∀ (Hs H : Hp) (x : V) (o : D), Same Hs H → Rep K mg Hs x o → tq o = true → tyV K T x H) ∧
  ∀ (c : Ct) (Hs H : Hp) (σ : L2.St) (env : Env) (x : V) (xs : List V) (o : D) (ds : List D) (d : D) (Q : VK), Sta K mg c Hs H σ env → Rep K mg Hs x o → RepL K mg Hs xs ds → g o ds = some d →
    (∀ Hs' H' v, Sta K mg c Hs' H' σ env → Same Hs Hs' → Rep K mg Hs' v d → Q v H') → r x xs H Q
/-- .. where a new owned thing comes of it -/
def OpMtW (K : PySem.W.Frag) (mg : Str → Option Value) (T : String) (r : V → List V → Hp → VK → Prop) (tq : D → Bool) (g : D → List D → Option D) : Prop :=
  (∀ (Hs H : Hp) (x : V) (o : D), Same Hs H → Rep K mg Hs x o → tq o = true → tyV K T x H) ∧
  ∀ (c : Ct) (Hs H : Hp) (σ : L2.St) (env : Env) (x : V) (xs : List V) (o : D) (ds : List D) (d : D) (Q : VK), Sta K mg c Hs H σ env → Rep K mg Hs x o → RepL K mg Hs xs ds → g o ds = some d →
    (∀ Hs' H' v, Sta K mg c Hs' H' (σ ++ [some v]) (env ++ [.ow d]) → Same Hs Hs' → Q v H') → r x xs H Q
def mthM (tq : D → Bool) (g : D → List D → Option D) (fo : M D) (h : M (List Arg)) : M D := bindM fo fun o => if tq o = true then bindM (lisM h) fun ds => liftM (g o ds) else failM
@[simp] theorem q_mth {tq : D → Bool} {g : D → List D → Option D} {fo : M D} {h : M (List Arg)} : mthM tq g fo h = NK.bindM fo fun o => if tq o = true then NK.bindM (lisM h) fun ds => NK.liftM (g o ds) else failM := rfl
variable {W : WX} {T : String} {r : V → List V → Hp → VK → Prop} {tq : D → Bool} {g : D → List D → Option D}
theorem vA_lisS {c : Ct} {Hs0 : Hp} {env : Env} {h : M (List Arg)} {k : List D → M D} {σ : L2.St} {H : Hp} {R : D → Env → Hp → Hp → Prop} {P : List V → Hp → Prop} (S : Sta K mg c Hs0 H σ env)
    (q : Wp K mg W c σ Hs0 (bindM (lisM h) k env) R)
    (kk : ∀ Hs H1 env vs ds, Sta K mg c Hs H1 σ env → Same Hs0 Hs → RepL K mg Hs vs ds → Wp K mg W c σ Hs (k ds env) R → P vs H1) : vA K mg W h σ H P := by
  have q1 := Wp.bind q
  refine ⟨c, Hs0, env, S, (Wp.bind q1).weak fun as e1 Hs1 H1 S1 z1 w1 vs r1 => ?_⟩
  obtain ⟨ds, hd, k2⟩ := w1.2.lift
  obtain ⟨s2, w2⟩ := k2 Hs1 H1 w1.1 (Same.refl _)
  exact kk Hs1 H1 e1 vs ds s2 z1 (r1.vals hd) w2
theorem vA_lisSN {c : Ct} {Hs0 : Hp} {env : Env} {h : M (List Arg)} {k : List D → M D} {σ : L2.St} {H : Hp} {Q : VK} {P : List V → Hp → Prop} (S : Sta K mg c Hs0 H σ env)
    (q : WpN K mg W c σ Hs0 (bindM (lisM h) k env) Q)
    (kk : ∀ Hs H1 env vs ds, Sta K mg c Hs H1 σ env → Same Hs0 Hs → RepL K mg Hs vs ds → WpN K mg W c σ Hs (k ds env) Q → P vs H1) : vA K mg W h σ H P := by
  have q1 := WpN.bind q
  refine ⟨c, Hs0, env, S, (Wp.bind q1).weak fun as e1 Hs1 H1 S1 z1 w1 vs r1 => ?_⟩
  obtain ⟨ds, hd, k2⟩ := w1.2.lift
  obtain ⟨s2, w2⟩ := k2 Hs1 H1 w1.1 (Same.refl _)
  exact kk Hs1 H1 e1 vs ds s2 z1 (r1.vals hd) w2
theorem tBM_of {fo : M D} {h : M (List Arg)} (O : OpMt K mg T r tq g) {σ : L2.St} {H : Hp} {Q : VK} (q : vE K mg W (mthM tq g fo h) σ H Q) : tBM K T r (vE K mg W fo) (vA K mg W h) σ H Q := by
  obtain ⟨c, Hs, env, S, q⟩ := q
  refine ⟨c, Hs, env, S, (Wp.bind q).weak fun o e1 Hs1 H1 S1 z1 w v rv => ?_⟩
  obtain ⟨s1, w⟩ := w
  have w' : Wp K mg W c σ Hs1 ((if tq o = true then bindM (lisM h) fun ds => liftM (g o ds) else failM : M D) e1) fun d _ Hs' H' => ∀ v, Rep K mg Hs' v d → Q v H' := w
  split at w'
  · rename_i ht
    refine ⟨O.1 Hs1 H1 v o s1.s1 rv ht, vA_lisS s1 w' fun Hs2 H2 e2 vs ds s2 z2 rl w2 => ?_⟩
    obtain ⟨d, hd, k⟩ := w2.lift
    exact O.2 c Hs2 H2 σ e2 v vs o ds d Q s2 (rv.mono z2) rl hd fun Hs' H' v s z r => k Hs' H' s z v r
  · exact w'.elim
theorem tBMN_of {fo : M D} {h : M (List Arg)} (O : OpMtW K mg T r tq g) {σ : L2.St} {H : Hp} {Q : VK} (q : vN K mg W (mthM tq g fo h) σ H Q) : tBM K T r (vE K mg W fo) (vA K mg W h) σ H Q := by
  obtain ⟨c, Hs, env, S, q⟩ := q
  refine ⟨c, Hs, env, S, (WpN.bind q).weak fun o e1 Hs1 H1 S1 z1 w v rv => ?_⟩
  obtain ⟨s1, w⟩ := w
  have w' : WpN K mg W c σ Hs1 ((if tq o = true then bindM (lisM h) fun ds => liftM (g o ds) else failM : M D) e1) Q := w
  split at w'
  · rename_i ht
    refine ⟨O.1 Hs1 H1 v o s1.s1 rv ht, vA_lisSN s1 w' fun Hs2 H2 e2 vs ds s2 z2 rl w2 => ?_⟩
    obtain ⟨d, hd, k⟩ := w2.lift
    exact O.2 c Hs2 H2 σ e2 v vs o ds d Q s2 (rv.mono z2) rl hd fun Hs' H' v s z => k Hs' H' v s z
  · exact w'.elim
end
section
variable {X : Cx} {W : WX} {o e : Expr} {es : List Expr} {name : Str} {apos cpos : Pos} {T id : String} {r : V → List V → Hp → VK → Prop} {tq : D → Bool} {g : D → List D → Option D} {fo : M D} {h : M (List Arg)}
theorem e_mth (pa : PlainAttrs T) (slot : Slot T name id) (hty : typeOf (.builtin id) = pure (.type "method_descriptor")) (hm : MtR X id r) (O : OpMt X.K X.mg T r tq g) (ho : E' X W o fo) (ha : A' X W (e :: es) h)
    (hbase : attributeBase o name X.env (eval o X.env) = eval o X.env := by rfl)
    (hfew : ((backTo cpos (starEach (e :: es) X.env)).all (fun x => !x.1) && (backToKw cpos (keywordEach [] X.env)).all (fun x => x.1.isSome)
      && decide ((e :: es).length + ([] : List Keyword).length + (if ([] : List Keyword).isEmpty then 0 else 1) < 30)) = true := by rfl)
    (hline : (apos.endLine == cpos.line) = true := by rfl) (hs : starEach (e :: es) X.env = (false, eval e X.env) :: starEach es X.env := by rfl) (hplain : (backTo cpos (starEach es X.env)).any (·.1) = false := by rfl) :
    E' X W (.Call (.Attribute o name apos) (e :: es) [] cpos) (mthM tq g fo h) := (pe_bm pa slot hty hm ho ha hbase hfew hline hs hplain).mono fun _ _ _ q => tBM_of O q
theorem n_mth (pa : PlainAttrs T) (slot : Slot T name id) (hty : typeOf (.builtin id) = pure (.type "method_descriptor")) (hm : MtR X id r) (O : OpMtW X.K X.mg T r tq g) (ho : E' X W o fo) (ha : A' X W (e :: es) h)
    (hbase : attributeBase o name X.env (eval o X.env) = eval o X.env := by rfl)
    (hfew : ((backTo cpos (starEach (e :: es) X.env)).all (fun x => !x.1) && (backToKw cpos (keywordEach [] X.env)).all (fun x => x.1.isSome)
      && decide ((e :: es).length + ([] : List Keyword).length + (if ([] : List Keyword).isEmpty then 0 else 1) < 30)) = true := by rfl)
    (hline : (apos.endLine == cpos.line) = true := by rfl) (hs : starEach (e :: es) X.env = (false, eval e X.env) :: starEach es X.env := by rfl) (hplain : (backTo cpos (starEach es X.env)).any (·.1) = false := by rfl) :
    N' X W (.Call (.Attribute o name apos) (e :: es) [] cpos) (mthM tq g fo h) := (pe_bm pa slot hty hm ho ha hbase hfew hline hs hplain).mono fun _ _ _ q => tBMN_of O q
end
/-! list.index, list.count -/
def lsQ : D → Bool
  | .lst _ => true
  | .fl _ => true
  | _ => false
@[simp] theorem lsQ_l {xs : List D} : lsQ (.lst xs) = true := rfl
@[simp] theorem lsQ_f {xs : List D} : lsQ (.fl xs) = true := rfl
def idxD (o : D) : List D → Option D
  | [y] => match listOf o with
    | some ys => if flatD y = true ∧ ys.all flatD = true then (ys.findIdx? fun z => eqF z y).map fun j => .int (j : Nat) else none
    | none => none
  | _ => none
def cntD (o : D) : List D → Option D
  | [y] => match listOf o with
    | some ys => if flatD y = true ∧ ys.all flatD = true then some (.int (ys.countP fun z => eqF z y : Nat)) else none
    | none => none
  | _ => none
section
variable {K : PySem.W.Frag} {mg : Str → Option Value}
theorem lsQ_ty {Hs H : Hp} {x : V} {o : D} (e : Same Hs H) (r : Rep K mg Hs x o) (h : lsQ o = true) : tyV K "list" x H := by
  cases r with
  | lst h1 _ => exact .inl ⟨rfl, _, SqL.of (e _ _ h1)⟩
  | fl h1 _ => exact .inl ⟨rfl, _, e.seq h1⟩
  | _ => simp [lsQ] at h
theorem eqF_at {Hs : Hp} {y : V} {d : D} (ry : Rep K mg Hs y d) (fy : flatD d = true) : ∀ {vs : List V} {ds : List D}, RepL K mg Hs vs ds → ds.all flatD = true → vs.map (fun z => eqV z y) = ds.map fun z => eqF z d
  | _, _, .nil, _ => rfl
  | _, _, .cons r t, f => by
    rw [List.all_cons, Bool.and_eq_true] at f
    rw [List.map_cons, List.map_cons, eqF_at ry fy t f.2, eqF_of r ry f.1 fy]
theorem countP_map' {α β : Type} {p : α → Bool} {q : β → Bool} : ∀ {xs : List α} {ys : List β}, xs.map p = ys.map q → xs.countP p = ys.countP q
  | [], [], _ => rfl
  | [], _ :: _, h => by simp at h
  | _ :: _, [], h => by simp at h
  | x :: xs, y :: ys, h => by
    simp only [List.map_cons, List.cons.injEq] at h
    rw [List.countP_cons, List.countP_cons, countP_map' h.2, h.1]
theorem o_cnt : OpMt K mg "list" (rCountF K) lsQ cntD := ⟨fun Hs H x o e r h => lsQ_ty e r h, fun c Hs H σ env x xs o ds d Q S ro rl h q => by
  unfold cntD at h
  split at h
  · rename_i y
    split at h
    · rename_i ys hys
      split at h
      · rename_i hc
        cases h
        obtain ⟨v, rfl, rv⟩ := rl.one_inv
        obtain ⟨a, vs, rfl, hl, r⟩ := list_of S.s1 ro hys
        exact ⟨a, vs, v, rfl, rfl, hl, flat_of rv hc.1, flats_of r hc.2, by rw [countP_map' (eqF_at rv hc.1 r hc.2)]; exact q Hs H _ S (Same.refl _) (.int _)⟩
      · cases h
    · cases h
  · cases h⟩
theorem o_idx : OpMt K mg "list" (rIndex K) lsQ idxD := ⟨fun Hs H x o e r h => lsQ_ty e r h, fun c Hs H σ env x xs o ds d Q S ro rl h q => by
  unfold idxD at h
  split at h
  · rename_i y
    split at h
    · rename_i ys hys
      split at h
      · rename_i hc
        cases e : ys.findIdx? (fun z => eqF z y) with
        | none => rw [e] at h; cases h
        | some j =>
          rw [e] at h
          cases h
          obtain ⟨v, rfl, rv⟩ := rl.one_inv
          obtain ⟨a, vs, rfl, hl, r⟩ := list_of S.s1 ro hys
          obtain ⟨hj, e1, e2⟩ := List.findIdx?_eq_some_iff_getElem.mp e
          have em := eqF_at rv hc.1 r hc.2
          obtain ⟨z, hz, rz⟩ := r.get (List.getElem?_eq_getElem hj)
          have at_ : ∀ (m : Nat) (z' : V), vs[m]? = some z' → ∃ w, ys[m]? = some w ∧ eqV z' v = eqF w y := fun m z' hz' => by
            obtain ⟨w, hw, rw⟩ := r.get' hz'
            exact ⟨w, hw, eqF_of rw rv (List.all_eq_true.mp hc.2 w (List.mem_of_getElem? hw)) hc.1⟩
          refine ⟨a, vs, v, j, z, rfl, rfl, hl, flat_of rv hc.1, flats_of r hc.2, hz, ?_, fun m z' hm hz' => ?_, q Hs H _ S (Same.refl _) (.int _)⟩
          · obtain ⟨w, hw, ew⟩ := at_ j z hz
            rw [List.getElem?_eq_getElem hj] at hw; cases hw
            rw [ew]; exact e1
          · obtain ⟨w, hw, ew⟩ := at_ m z' hz'
            have hmy : m < ys.length := by omega
            rw [List.getElem?_eq_getElem hmy] at hw; cases hw
            rw [ew]
            have := e2 m hm
            simpa using this
      · cases h
    · cases h
  · cases h⟩
end
theorem boot_RuntimeError : bootBuiltins "RuntimeError" = some (.type "RuntimeError") := by decide +kernel
/-! ### x in range(..) -/
section
variable {X : Cx}
theorem cr_range1 : CallR X (.type "range") (fun vs H Q => ∃ j, vs = [V.int j] ∧ ∀ p, H p = none → Q (.ref p) (upd H p (.rng 0 j))) := by
  intro pins s σ H vs us Q I r h
  obtain ⟨j, rfl, q⟩ := h
  cases r with
  | cons rj rr =>
    cases rr
    obtain ⟨u, rfl⟩ := rj
    exact call_range_1 ⟨.ref s.heap.objs.size, upd H s.heap.objs.size (.rng 0 j), I.laid (t' := s.toks + 2) (fun b o e => Heap.get?_push_of_some _ e) (Nat.le_refl _) (show ObjOk X.prog X.w _ _ _ (.rng 0 j) from ⟨_, _, _, Heap.get?_push_size _ rfl⟩), rfl, q _ (I.hok.fresh (Nat.le_refl _))⟩
theorem op_notin_rng : OpR X (compareOp .NotIn) (fun x y H Q => ∃ i a lo hi, x = V.int i ∧ y = V.ref a ∧ H a = some (.rng lo hi) ∧ Q (.bl (!decide (lo ≤ i ∧ i < hi))) H) := by
  intro pins s σ H x y v u Q I rx ry h
  obtain ⟨i, a, lo, hi, rfl, rfl, ha, q⟩ := h
  obtain ⟨k, rfl⟩ := rx
  obtain rfl : u = Value.ref a := ry
  obtain ⟨t1, t2, t3, ho⟩ := I.hok a _ ha
  show wpAny _ _ (do return Value.bool (!(← contains (Value.ref a) (Value.int i k)))) _ _ s
  refine wpAny_bind (wpAny_contains_slot (T := "range") ⟨_, ho, rfl⟩ F.slot_range_contains (call_meets F.slot_range_contains ⟨_, ho, rfl⟩ F.entry_range_contains (F.args_range_contains_2 _ _) (q_contains a lo hi i t1 t2 t3 k)
    ⟨ho, wpAny_truthy_bool (wpAny_pure ⟨.bl _, H, I, rfl, ?_⟩)⟩))
  rw [place1]
  exact q
end
def inRngD (neg : Bool) : D → D → D → Option D
  | .int i, .int lo, .int hi => some (.bl (if neg then !decide (lo ≤ i ∧ i < hi) else decide (lo ≤ i ∧ i < hi)))
  | _, _, _ => none
def inRngM (neg : Bool) (fa fb fc : M D) : M D := bindM fa fun x => bindM fb fun lo => bindM fc fun hi => liftM (inRngD neg x lo hi)
@[simp] theorem q_inRng {neg : Bool} {fa fb fc : M D} : inRngM neg fa fb fc = NK.bindM fa fun x => NK.bindM fb fun lo => NK.bindM fc fun hi => NK.liftM (inRngD neg x lo hi) := rfl
@[simp] theorem q_inRng2 {neg : Bool} {i lo hi : Int} : inRngD neg (.int i) (.int lo) (.int hi) = some (.bl (if neg then !decide (lo ≤ i ∧ i < hi) else decide (lo ≤ i ∧ i < hi))) := rfl
theorem inRngD_of {K : PySem.W.Frag} {mg : Str → Option Value} {Hs : Hp} {neg : Bool} {x lo hi d : D} {v w u : V} (h : inRngD neg x lo hi = some d) (r1 : Rep K mg Hs v x) (r2 : Rep K mg Hs w lo) (r3 : Rep K mg Hs u hi) :
    ∃ i a b, v = .int i ∧ w = .int a ∧ u = .int b ∧ d = .bl (if neg then !decide (a ≤ i ∧ i < b) else decide (a ≤ i ∧ i < b)) := by
  unfold inRngD at h
  split at h
  · cases h; cases r1; cases r2; cases r3; exact ⟨_, _, _, rfl, rfl, rfl, rfl⟩
  · cases h
section
variable {X : Cx} {W : WX} {a e1 e2 : Expr} {pos pos2 p : Pos} {fa fb fc : M D}
theorem inR2_of {neg : Bool} {r : R2} {σ : L2.St} {H : Hp} {Q : VK}
    (hr : ∀ (i lo hi : Int) (b : Addr) (H : Hp), H b = some (.rng lo hi) → Q (.bl (if neg then !decide (lo ≤ i ∧ i < hi) else decide (lo ≤ i ∧ i < hi))) H → r (.int i) (.ref b) H Q)
    (q : vE X.K X.mg W (inRngM neg fa fb fc) σ H Q) : tOp r (vE X.K X.mg W fa) (tCB (fun vs H Q => ∃ i j, vs = [V.int i, V.int j] ∧ ∀ p, H p = none → Q (.ref p) (upd H p (.rng i j))) (tCons (vE X.K X.mg W fb) (tCons (vE X.K X.mg W fc) tNil))) σ H Q := by
  obtain ⟨c, Hs, env, S, q⟩ := q
  refine ⟨c, Hs, env, S, (Wp.bind q).weak fun x e1 Hs1 H1 S1 z1 w v rv => ?_⟩
  refine ⟨c, Hs1, e1, w.1, (Wp.bind w.2).weak fun lo e2 Hs2 H2 S2 z2 w2 v2 rv2 => ?_⟩
  refine ⟨c, Hs2, e2, w2.1, (Wp.bind w2.2).weak fun hi e3 Hs3 H3 S3 z3 w3 v3 rv3 => ?_⟩
  obtain ⟨d, hd, k⟩ := w3.2.lift
  obtain ⟨i, a, b, rfl, rfl, rfl, rfl⟩ := inRngD_of hd ((rv.mono z2).mono z3) (rv2.mono z3) rv3
  exact ⟨a, b, rfl, fun p hp => hr i a b p _ upd_same (k _ _ (w3.1.put hp) (same_new (w3.1.freshS hp)) _ (.bl _))⟩
theorem e_inR2 {neg : Bool} {op : CmpOp} {r : R2} (ho : OpR X (compareOp op) r) (hr : ∀ (Q : VK) (i lo hi : Int) (b : Addr) (H : Hp), H b = some (.rng lo hi) → Q (.bl (if neg then !decide (lo ≤ i ∧ i < hi) else decide (lo ≤ i ∧ i < hi))) H → r (.int i) (.ref b) H Q)
    (hm : X.mg "range" = none) (ha : E' X W a fa) (hb : E' X W e1 fb) (hc : E' X W e2 fc) (hg : Gl X "range" := by rfl)
    (he : starEach [e1, e2] X.env = (false, eval e1 X.env) :: starEach [e2] X.env := by rfl) (he2 : starEach [e2] X.env = (false, eval e2 X.env) :: starEach [] X.env := by rfl) (hpl : (backTo pos2 (starEach [e2] X.env)).any (·.1) = false := by rfl) (hpl2 : (backTo pos2 (starEach [] X.env)).any (·.1) = false := by rfl)
    (hmk : behindInMarks op (.Call (.Name "range" p) [e1, e2] [] pos2) = false := by rfl) :
    E' X W (.Compare a [op] [.Call (.Name "range" p) [e1, e2] [] pos2] pos) (inRngM neg fa fb fc) :=
  (pe_cmpR ho ha (pe_callTy cr_range2 hg hm boot_range (pa_cons hb (pa_cons hc pa_nil he2) he) (by decide) (by decide) he hpl) hmk).mono fun _ _ Q q => inR2_of (hr Q) q
theorem inR1_of {neg : Bool} {r : R2} {σ : L2.St} {H : Hp} {Q : VK}
    (hr : ∀ (i lo hi : Int) (b : Addr) (H : Hp), H b = some (.rng lo hi) → Q (.bl (if neg then !decide (lo ≤ i ∧ i < hi) else decide (lo ≤ i ∧ i < hi))) H → r (.int i) (.ref b) H Q)
    (q : vE X.K X.mg W (inRngM neg fa (conM (.int 0)) fc) σ H Q) : tOp r (vE X.K X.mg W fa) (tCB (fun vs H Q => ∃ j, vs = [V.int j] ∧ ∀ p, H p = none → Q (.ref p) (upd H p (.rng 0 j))) (tCons (vE X.K X.mg W fc) tNil)) σ H Q := by
  obtain ⟨c, Hs, env, S, q⟩ := q
  refine ⟨c, Hs, env, S, (Wp.bind q).weak fun x e1 Hs1 H1 S1 z1 w v rv => ?_⟩
  have w2 : Wp X.K X.mg W c σ Hs1 (bindM fc (fun hi => liftM (inRngD neg x (.int 0) hi)) e1) (fun d _ Hs' H' => ∀ v, Rep X.K X.mg Hs' v d → Q v H') := w.2
  refine ⟨c, Hs1, e1, w.1, (Wp.bind w2).weak fun hi e3 Hs3 H3 S3 z3 w3 v3 rv3 => ?_⟩
  obtain ⟨d, hd, k⟩ := w3.2.lift
  obtain ⟨i, a, b, rfl, h0, rfl, rfl⟩ := inRngD_of hd (rv.mono z3) (.int 0) rv3
  cases h0
  exact ⟨b, rfl, fun p hp => hr i 0 b p _ upd_same (k _ _ (w3.1.put hp) (same_new (w3.1.freshS hp)) _ (.bl _))⟩
theorem e_inR1 {neg : Bool} {op : CmpOp} {r : R2} (ho : OpR X (compareOp op) r) (hr : ∀ (Q : VK) (i lo hi : Int) (b : Addr) (H : Hp), H b = some (.rng lo hi) → Q (.bl (if neg then !decide (lo ≤ i ∧ i < hi) else decide (lo ≤ i ∧ i < hi))) H → r (.int i) (.ref b) H Q)
    (hm : X.mg "range" = none) (ha : E' X W a fa) (hc : E' X W e2 fc) (hg : Gl X "range" := by rfl)
    (he2 : starEach [e2] X.env = (false, eval e2 X.env) :: starEach [] X.env := by rfl) (hpl2 : (backTo pos2 (starEach [] X.env)).any (·.1) = false := by rfl)
    (hmk : behindInMarks op (.Call (.Name "range" p) [e2] [] pos2) = false := by rfl) :
    E' X W (.Compare a [op] [.Call (.Name "range" p) [e2] [] pos2] pos) (inRngM neg fa (conM (.int 0)) fc) :=
  (pe_cmpR ho ha (pe_callTy cr_range1 hg hm boot_range (pa_cons hc pa_nil he2) (by decide) (by decide) he2 hpl2) hmk).mono fun _ _ Q q => inR1_of (hr Q) q
theorem t_inR2 {neg : Bool} {op : CmpOp} {r : R2} (ho : OpR X (compareOp op) r) (hr : ∀ (Q : VK) (i lo hi : Int) (b : Addr) (H : Hp), H b = some (.rng lo hi) → Q (.bl (if neg then !decide (lo ≤ i ∧ i < hi) else decide (lo ≤ i ∧ i < hi))) H → r (.int i) (.ref b) H Q)
    (hm : X.mg "range" = none) (ha : E' X W a fa) (hb : E' X W e1 fb) (hc : E' X W e2 fc) (hg : Gl X "range" := by rfl)
    (he : starEach [e1, e2] X.env = (false, eval e1 X.env) :: starEach [e2] X.env := by rfl) (he2 : starEach [e2] X.env = (false, eval e2 X.env) :: starEach [] X.env := by rfl) (hpl : (backTo pos2 (starEach [e2] X.env)).any (·.1) = false := by rfl) (hpl2 : (backTo pos2 (starEach [] X.env)).any (·.1) = false := by rfl)
    (hmk : behindInMarks op (.Call (.Name "range" p) [e1, e2] [] pos2) = false := by rfl) :
    T' X W (.Compare a [op] [.Call (.Name "range" p) [e1, e2] [] pos2] pos) (boolM (inRngM neg fa fb fc)) :=
  (pt_cmpR ho ha (pe_callTy cr_range2 hg hm boot_range (pa_cons hb (pa_cons hc pa_nil he2) he) (by decide) (by decide) he hpl) hmk).mono fun _ _ Q q => inR2_of (Q := fun x H' => ∃ k, x = .bl k ∧ Q k H') (hr (fun x H' => ∃ k, x = .bl k ∧ Q k H')) (vT_test q)
theorem t_inR1 {neg : Bool} {op : CmpOp} {r : R2} (ho : OpR X (compareOp op) r) (hr : ∀ (Q : VK) (i lo hi : Int) (b : Addr) (H : Hp), H b = some (.rng lo hi) → Q (.bl (if neg then !decide (lo ≤ i ∧ i < hi) else decide (lo ≤ i ∧ i < hi))) H → r (.int i) (.ref b) H Q)
    (hm : X.mg "range" = none) (ha : E' X W a fa) (hc : E' X W e2 fc) (hg : Gl X "range" := by rfl)
    (he2 : starEach [e2] X.env = (false, eval e2 X.env) :: starEach [] X.env := by rfl) (hpl2 : (backTo pos2 (starEach [] X.env)).any (·.1) = false := by rfl)
    (hmk : behindInMarks op (.Call (.Name "range" p) [e2] [] pos2) = false := by rfl) :
    T' X W (.Compare a [op] [.Call (.Name "range" p) [e2] [] pos2] pos) (boolM (inRngM neg fa (conM (.int 0)) fc)) :=
  (pt_cmpR ho ha (pe_callTy cr_range1 hg hm boot_range (pa_cons hc pa_nil he2) (by decide) (by decide) he2 hpl2) hmk).mono fun _ _ Q q => inR1_of (Q := fun x H' => ∃ k, x = .bl k ∧ Q k H') (hr (fun x H' => ∃ k, x = .bl k ∧ Q k H')) (vT_test q)
theorem hr_in (Q : VK) (i lo hi : Int) (b : Addr) (H : Hp) (h : H b = some (.rng lo hi)) (q : Q (.bl (if false then !decide (lo ≤ i ∧ i < hi) else decide (lo ≤ i ∧ i < hi))) H) : (fun x y H Q => ∃ i a lo hi, x = V.int i ∧ y = V.ref a ∧ H a = some (.rng lo hi) ∧ Q (.bl (decide (lo ≤ i ∧ i < hi))) H : R2) (.int i) (.ref b) H Q := ⟨i, b, lo, hi, rfl, rfl, h, q⟩
theorem hr_ni (Q : VK) (i lo hi : Int) (b : Addr) (H : Hp) (h : H b = some (.rng lo hi)) (q : Q (.bl (if true then !decide (lo ≤ i ∧ i < hi) else decide (lo ≤ i ∧ i < hi))) H) : (fun x y H Q => ∃ i a lo hi, x = V.int i ∧ y = V.ref a ∧ H a = some (.rng lo hi) ∧ Q (.bl (!decide (lo ≤ i ∧ i < hi))) H : R2) (.int i) (.ref b) H Q := ⟨i, b, lo, hi, rfl, rfl, h, q⟩
end
/-! ### tuple * int -/
def repT : D → D → Option D
  | .tup xs, .int k => if 1 ≤ xs.length ∧ xs.length ≤ 1000 ∧ 2 ≤ k ∧ k ≤ 1000 then some (.tup (List.replicate k.toNat xs).flatten) else none
  | _, _ => none
theorem rep_flat {K : PySem.W.Frag} {mg : Str → Option Value} {Hs : Hp} {vs : List V} {ds : List D} (r : RepL K mg Hs vs ds) : ∀ n : Nat, RepL K mg Hs (List.replicate n vs).flatten (List.replicate n ds).flatten
  | 0 => .nil
  | n + 1 => by
    rw [List.replicate_succ, List.replicate_succ, List.flatten_cons, List.flatten_cons]
    exact r.app (rep_flat r n)
theorem o_repT {K : PySem.W.Frag} {mg : Str → Option Value} : Op2 K mg (rRepT K) repT := fun c Hs H σ env x y d1 d2 d Q S r1 r2 h q => by
  unfold repT at h
  split at h
  · rename_i ds k
    split at h
    · rename_i hc
      cases h
      cases r2
      obtain ⟨a, xs, rfl, hl, r⟩ := tup_of S.s1 r1 (ds := ds) rfl
      have e := r.len
      refine ⟨a, k, xs, rfl, rfl, hl, fun z => ?_, hc.2.2.1, hc.2.2.2, by omega, fun p hp => q _ _ _ (S.put hp) (same_new (S.freshS hp)) (.tup (SqT.of upd_same) ((rep_flat r _).mono (same_new (S.freshS hp))))⟩
      rw [z] at e
      have : ds.length = 0 := e.symm
      omega
    · cases h
  · cases h
@[simp] theorem q_repT {xs : List D} {k : Int} : repT (.tup xs) (.int k) = if 1 ≤ xs.length ∧ xs.length ≤ 1000 ∧ 2 ≤ k ∧ k ≤ 1000 then some (.tup (List.replicate k.toNat xs).flatten) else none := rfl
end NK

set_option Elab.async false
set_option linter.all false
set_option maxRecDepth 100000
set_option maxHeartbeats 4000000
namespace NK
open PySem PySem.Spec PyProof.Rows L2

/-! ### the program's own classes -/
def clsAll : List Str := ["State", "Keep", "Store"]
def fldAll : List Str := ["table", "rules", "nights", "pinned", "last", "longest", "wholes", "shelf"]
def ObjF (K : PySem.W.Frag) (mg : Str → Option Value) : Prop := ∀ c ∈ clsAll, ∀ C, mg c = some (.ref C) → Cls K C ∧ ∀ f ∈ fldAll, NoAttr K C f
def clsFB (K : PySem.W.Frag) (A : Addr) : Bool := PySem.W.plainGet K A Str.empty && PySem.W.hasDictIn K A && PySem.W.plainOver K A && (PySem.W.findIn K (.ref A) "__setattr__" == some (some (.builtin "object.__setattr__")))
theorem clsFB_of {K : PySem.W.Frag} {A : Addr} (h : clsFB K A = true) : Cls K A := by
  simp only [clsFB, Bool.and_eq_true, beq_iff_eq] at h
  obtain ⟨⟨⟨a, b⟩, c⟩, d⟩ := h
  exact ⟨a, b, c, d⟩
def objB (K : PySem.W.Frag) : Bool := clsAll.all fun c => match PySem.W.nsIn K mainGlobals c with
  | some none => true
  | some (some (.ref C)) => clsFB K C && fldAll.all fun f => PySem.W.findIn K (.ref C) f == some none
  | _ => false
theorem obj_ok {K : PySem.W.Frag} {h : Heap} {mg : Str → Option Value} (X : K.In h) (G : h.Ns mainGlobals mg) (t : objB K = true) : ObjF K mg := fun c hc C hC => by
  simp only [objB, List.all_eq_true] at t
  have q := t c hc
  split at q
  · rename_i e
    have := PySem.W.mg_none_of X G e
    rw [hC] at this; cases this
  · rename_i C' e
    have := PySem.W.mg_of X G e
    rw [hC] at this; cases this
    simp only [Bool.and_eq_true, List.all_eq_true, beq_iff_eq] at q
    exact ⟨clsFB_of q.1, q.2⟩
  · cases q

section
variable {K : PySem.W.Frag} {mg : Str → Option Value} {Hs H : Hp}
theorem RepF.get {f : Str} : ∀ {ks : List (Str × V)} {ds : List (Str × D)} {d : D}, RepF K mg Hs ks ds → ds.lookup f = some d → ∃ v, ks.lookup f = some v ∧ Rep K mg Hs v d
  | _, _, d, .nil, h => by cases h
  | _, _, d, .cons (k := k) (v := v) (d := d') (vs := vs) (ds := ds) r t, h => by
    rw [List.lookup_cons] at h ⊢
    cases e : f == k with
    | true => rw [e] at h; cases h; exact ⟨v, rfl, r⟩
    | false => rw [e] at h; exact RepF.get t h
theorem RepF.none {f : Str} : ∀ {ks : List (Str × V)} {ds : List (Str × D)}, RepF K mg Hs ks ds → ds.lookup f = none → ks.lookup f = none
  | _, _, .nil, h => rfl
  | _, _, .cons (k := k) (v := v) (d := d') (vs := vs) (ds := ds) r t, h => by
    rw [List.lookup_cons] at h ⊢
    cases e : f == k with
    | true => rw [e] at h; cases h
    | false => rw [e] at h; exact RepF.none t h
theorem OwnF.noneA {f : Str} {A : List Addr} : ∀ {ks : List (Str × V)} {ds : List (Str × D)} {A : List Addr}, OwnF K mg Hs H ks ds A → ds.lookup f = none → ks.lookup f = none
  | _, _, _, .nil, h => rfl
  | _, _, _, .sh (k := k) n r t, h => by
    rw [List.lookup_cons] at h ⊢
    cases e : f == k with
    | true => rw [e] at h; cases h
    | false => rw [e] at h; exact OwnF.noneA (A := []) t h
  | _, _, _, .mu (k := k) r t n, h => by
    rw [List.lookup_cons] at h ⊢
    cases e : f == k with
    | true => rw [e] at h; cases h
    | false => rw [e] at h; exact OwnF.noneA (A := []) t h
/-- the value behind the mark -/
def unmu : D → D
  | .mu d => d
  | d => d
theorem Rep.unmu {v : V} {d : D} (r : Rep K mg Hs v d) : Rep K mg Hs v (unmu d) := by
  cases r with
  | mu r => exact r
  | _ => constructor <;> assumption
def fldD (f : Str) : D → Option D
  | .ob _ fs => (fs.lookup f).map unmu
  | _ => none
def fldM (f : Str) (fa : M D) : M D := bindM fa fun d => liftM (fldD f d)
end
section
variable {X : Cx} {e o : Expr} {es : List Expr} {pos apos : Pos} {W : WX}
/-- e.f, e shared -/
theorem e_fld {f : Str} {fa : M D} (ha : E' X W e fa) (hb : attributeBase e f X.env (eval e X.env) = eval e X.env := by rfl) : E' X W (.Attribute e f pos) (fldM f fa) := (pe_fld ha hb).mono fun σ H Q q => by
  obtain ⟨c, Hs, env, S, q⟩ := q
  refine ⟨c, Hs, env, S, (Wp.bind q).weak fun d e1 Hs1 H1 s1 z1 w v r => ?_⟩
  obtain ⟨S1, w⟩ := w
  obtain ⟨d', hd, k⟩ := w.lift
  unfold fldD at hd
  split at hd
  · rename_i c' fs
    cases e1 : fs.lookup f with
    | none => rw [e1] at hd; cases hd
    | some dd =>
      rw [e1] at hd
      cases hd
      cases r with
      | @ob a C dx _ ks _ g t h rf =>
        obtain ⟨y, hy, ry⟩ := rf.get e1
        exact ⟨a, C, dx, ks, y, rfl, S1.s1 _ _ h, t.1, t.2 f (by rw [hy]; simp), hy, k Hs1 H1 S1 (Same.refl _) y ry.unmu⟩
  · cases hd

/-! ### calls of methods -/
/-- a method of a class of the program, by its plain function -/
structure Mth (P : Program) (w : World) (K : PySem.W.Frag) (mg : Str → Option Value) (base : Heap) (c m : Str) (k : Nat) (F : Fn) (np : Nat) : Prop where
  ex : ∀ C, mg c = some (.ref C) → ∃ f fd ps, Cls K C ∧ Meth K C m f ∧ Binds K fd ps [] ∧ FnOk P w K mg base (L2.CX P w) k f fd ps (vF K mg F np)
def tMethS (C : Addr) (m : Str) (sp : Sp) (E : L2.St → XK) (ta : TE) (t : TA) : TE := fun σ H Q => ta σ H fun x H1 => ∃ a dx fs, x = .ref a ∧ H1 a = some (.ins C dx fs) ∧ fs.lookup m = none ∧
  t σ H1 fun vs H2 => sp (x :: vs) H2 Q (E σ)
theorem pe_methS {pl : Sem Bool} {CX : CXT} {k : Nat} {f C : Addr} {fd : FuncData} {ps : List Str} {sp : Sp} {E : L2.St → XK} {m : Str} {ta : TE} {t : TA} (he : PE X o ta) (c : Cls X.K C) (hm : Meth X.K C m f)
    (F : FnOk X.prog X.w X.K X.mg X.base CX k f fd ps sp) (hr : Room k X.A) (hb : Binds X.K fd ps []) (hx : ∀ σ, PassesAt CX X σ (E σ)) (ha : PA X (e :: es) t)
    (hst : starEach (e :: es) X.env = (false, eval e X.env) :: starEach es X.env := by rfl) (hpl : (backTo pos (starEach es X.env)).any (·.1) = false := by rfl)
    (ht : eval (.Call (.Attribute o m apos) (e :: es) [] pos) X.env = (do
      let ov ← eval o X.env
      standAt apos.atName
      let (f, first) ← holding [ov] (getMethod ov m pl)
      callWith pos f first (backTo pos (starEach (e :: es) X.env)) (backToKw pos (keywordEach [] X.env))) := by rfl) :
    PE X (.Call (.Attribute o m apos) (e :: es) [] pos) (tMethS C m sp E ta t) := by
  refine ⟨fun pins s σ H Q I h => ?_⟩
  refine PySem.W.methodCall_KW (pl := pl) (thn (he.run pins s σ H _ I h) fun u s1 ⟨x, H1, I1, rx, a, dx, fs, ex, ea, l, q⟩ => ?_) ht
  subst ex
  obtain rfl : u = Value.ref a := rx
  refine getmeth_ok I1 ea c hm l ?_
  refine PySem.W.callWith_K (first := [.ref a]) (h₀ := X.base) I.ok.mod.kin hm.kp (thn (ha.run pos pins s1 σ H1 _ I1 q) fun us s2 ⟨vs, H2, I2, r, q2⟩ => ⟨I2.kIn, ?_⟩) hst hpl
  exact run_fnS (us := .ref a :: us) (vs := .ref a :: vs) F hr hb (hx σ) I2 (.cons rfl r) q2
theorem pe_methS0 {pl : Sem Bool} {CX : CXT} {k : Nat} {f C : Addr} {fd : FuncData} {ps : List Str} {sp : Sp} {E : L2.St → XK} {m : Str} {ta : TE} (he : PE X o ta) (c : Cls X.K C) (hm : Meth X.K C m f)
    (F : FnOk X.prog X.w X.K X.mg X.base CX k f fd ps sp) (hr : Room k X.A) (hb : Binds X.K fd ps []) (hx : ∀ σ, PassesAt CX X σ (E σ))
    (ht : eval (.Call (.Attribute o m apos) [] [] pos) X.env = (do
      let ov ← eval o X.env
      standAt apos.atName
      let (f, first) ← holding [ov] (getMethod ov m pl)
      callWith pos f first (backTo pos (starEach [] X.env)) (backToKw pos (keywordEach [] X.env))) := by rfl) :
    PE X (.Call (.Attribute o m apos) [] [] pos) (tMethS C m sp E ta tNil) := by
  refine ⟨fun pins s σ H Q I h => ?_⟩
  refine PySem.W.methodCall_KW (pl := pl) (thn (he.run pins s σ H _ I h) fun u s1 ⟨x, H1, I1, rx, a, dx, fs, ex, ea, l, q⟩ => ?_) ht
  subst ex
  obtain rfl : u = Value.ref a := rx
  refine getmeth_ok I1 ea c hm l ?_
  exact PySem.W.callWith_K0 (first := [.ref a]) I1.kIn hm.kp (run_fnS (us := [.ref a]) (vs := [.ref a]) F hr hb (hx σ) I1 (.cons rfl .nil) q)
def endE (F : Fn) (np : Nat) (as : List Arg) : M D := fun env => match appF F np as env with
  | some (.val r e) => some (.val r.2 e)
  | some (.exc x e) => some (.exc x e)
  | none => none
def endN (F : Fn) (np : Nat) (as : List Arg) : M D := fun env => match appF F np as env with
  | some (.val (true, d) e) => some (.val d e)
  | some (.val (false, d) e) => none
  | some (.exc x e) => some (.exc x e)
  | none => none
section
variable {K : PySem.W.Frag} {mg : Str → Option Value} {F : Fn} {np : Nat} {as : List Arg} {c : Ct} {σ : L2.St} {Hs H : Hp} {env : Env} {Q : VK} {vs : List V}
theorem vF_E (S : Sta K mg c Hs H σ env) (r : ArgsOk K mg Hs σ vs as) (w : Wp K mg W c σ Hs (endE F np as env) fun d _ Hs' H' => ∀ v, Rep K mg Hs' v d → Q v H') : vF K mg F np vs H Q (WE W σ) := by
  refine vF_of S r ?_
  unfold endE at w
  cases e : appF F np as env with
  | none => rw [e] at w; exact w.elim
  | some o =>
    rw [e] at w
    cases o with
    | exc x e2 => exact w
    | val p e2 =>
      obtain ⟨fr, d⟩ := p
      cases fr with
      | true =>
        show (if true = true then _ else _)
        rw [if_pos rfl]
        intro Hs' H' v s z
        obtain ⟨Hs2, q2, r, s2⟩ := s.settle
        exact w Hs2 H' s2 (z.trans q2) v r
      | false =>
        show (if false = true then _ else _)
        rw [if_neg Bool.false_ne_true]
        exact fun Hs' H' v s z r => w Hs' H' s z v r
theorem vF_N (S : Sta K mg c Hs H σ env) (r : ArgsOk K mg Hs σ vs as) (w : WpN K mg W c σ Hs (endN F np as env) Q) : vF K mg F np vs H Q (WE W σ) := by
  refine vF_of S r ?_
  unfold endN at w
  cases e : appF F np as env with
  | none => rw [e] at w; exact w.elim
  | some o =>
    rw [e] at w
    cases o with
    | exc x e2 => exact w
    | val p e2 =>
      obtain ⟨fr, d⟩ := p
      cases fr with
      | true =>
        show (if true = true then _ else _)
        rw [if_pos rfl]
        exact w
      | false => exact w.elim
end
/-- the object of a call: of the class c, without the name m of its own -/
def isObj (c m : Str) : D → Bool
  | .ob c' fs => decide (c' = c) && (fs.lookup m).isNone
  | _ => false
theorem isObj_of {K : PySem.W.Frag} {mg : Str → Option Value} {Hs H : Hp} {c m : Str} {C : Addr} {v : V} {d : D} (hC : mg c = some (.ref C)) (e : Same Hs H) (h : isObj c m d = true) (r : Rep K mg Hs v d) : ∃ a dx ks, v = .ref a ∧ H a = some (.ins C dx ks) ∧ ks.lookup m = none := by
  cases d with
  | ob c' fs =>
    simp only [isObj, Bool.and_eq_true, decide_eq_true_eq, Option.isNone_iff_eq_none] at h
    obtain ⟨rfl, hn⟩ := h
    cases r with
    | @ob a C' dx _ ks _ g t hh rf =>
      rw [hC] at g; cases g
      exact ⟨a, dx, ks, rfl, e _ _ hh, rf.none hn⟩
  | _ => cases h
/-- a method of a shared object -/
def methM (c m : Str) (F : Fn) (np : Nat) (fo : M D) (h : M (List Arg)) : M D := bindM fo fun d => if isObj c m d = true then bindM h fun as => endE F np (.val d :: as) else failM
def methN (c m : Str) (F : Fn) (np : Nat) (fo : M D) (h : M (List Arg)) : M D := bindM fo fun d => if isObj c m d = true then bindM h fun as => endN F np (.val d :: as) else failM
section
variable {K : PySem.W.Frag} {mg : Str → Option Value} {C : Addr} {c m : Str} {F : Fn} {np : Nat} {fo : M D} {h : M (List Arg)} {σ : L2.St} {H : Hp} {Q : VK}
theorem tMethS_of (hC : mg c = some (.ref C)) (q : vE K mg W (methM c m F np fo h) σ H Q) : tMethS C m (vF K mg F np) (WE W) (vE K mg W fo) (vA K mg W h) σ H Q := by
  obtain ⟨ct, Hs, env, S, q⟩ := q
  refine ⟨ct, Hs, env, S, (Wp.bind q).weak fun d e1 Hs1 H1 s1 z1 w v r => ?_⟩
  obtain ⟨S1, w⟩ := w
  split at w
  · rename_i hc
    obtain ⟨a, dx, ks, rfl, h1, h2⟩ := isObj_of hC S1.s1 hc r
    refine ⟨a, dx, ks, rfl, h1, h2, ct, Hs1, e1, S1, (Wp.bind w).weak fun as e2 Hs2 H2 s2 z2 w2 vs ra => ?_⟩
    exact vF_E (as := .val d :: as) w2.1 (.cons (show ArgOk K mg Hs2 σ (.ref a) (.val d) from r.mono z2) ra) w2.2
  · exact w.elim
theorem tMethN_of (hC : mg c = some (.ref C)) (q : vN K mg W (methN c m F np fo h) σ H Q) : tMethS C m (vF K mg F np) (WE W) (vE K mg W fo) (vA K mg W h) σ H Q := by
  obtain ⟨ct, Hs, env, S, q⟩ := q
  refine ⟨ct, Hs, env, S, (WpN.bind q).weak fun d e1 Hs1 H1 s1 z1 w v r => ?_⟩
  obtain ⟨S1, w⟩ := w
  split at w
  · rename_i hc
    obtain ⟨a, dx, ks, rfl, h1, h2⟩ := isObj_of hC S1.s1 hc r
    refine ⟨a, dx, ks, rfl, h1, h2, ct, Hs1, e1, S1, (WpN.bind w).weak fun as e2 Hs2 H2 s2 z2 w2 vs ra => ?_⟩
    exact vF_N (as := .val d :: as) w2.1 (.cons (show ArgOk K mg Hs2 σ (.ref a) (.val d) from r.mono z2) ra) w2.2
  · exact w.elim
end
section
variable {c m : Str} {F : Fn} {np k : Nat} {fo : M D} {h : M (List Arg)} {pl : Sem Bool}
theorem vA_nil {K : PySem.W.Frag} {mg : Str → Option Value} {σ : L2.St} {H : Hp} {Q : List V → Hp → Prop} (q : vA K mg W nilM σ H Q) : tNil σ H Q := by
  obtain ⟨c, Hs, env, S, q⟩ := q
  exact q Hs H S (Same.refl _) [] .nil
theorem tMethS.mono0 {C : Addr} {m : Str} {sp : Sp} {E : L2.St → XK} {ta : TE} {t t' : TA} (ht : ∀ σ H Q, t σ H Q → t' σ H Q) {σ : L2.St} {H : Hp} {Q : VK} (hta : ∀ P P' : VK, (∀ v H, P v H → P' v H) → ta σ H P → ta σ H P') (q : tMethS C m sp E ta t σ H Q) : tMethS C m sp E ta t' σ H Q :=
  hta _ _ (fun v H1 ⟨a, dx, fs, e, h1, h2, q⟩ => ⟨a, dx, fs, e, h1, h2, ht _ _ _ q⟩) q
theorem vE_mono {K : PySem.W.Frag} {mg : Str → Option Value} {f : M D} {σ : L2.St} {H : Hp} : ∀ P P' : VK, (∀ v H, P v H → P' v H) → vE K mg W f σ H P → vE K mg W f σ H P' := fun P P' k ⟨c, Hs, env, S, q⟩ => ⟨c, Hs, env, S, q.weak fun _ _ _ _ _ _ w v r => k _ _ (w v r)⟩
theorem e_meth (T : Mth X.prog X.w X.K X.mg X.base c m k F np) (hm : ∃ C, X.mg c = some (.ref C)) (hr : Room k X.A) (tk : Takes X W) (ho : E' X W o fo) (ha : A' X W (e :: es) h)
    (hst : starEach (e :: es) X.env = (false, eval e X.env) :: starEach es X.env := by rfl) (hpl : (backTo pos (starEach es X.env)).any (·.1) = false := by rfl)
    (ht : eval (.Call (.Attribute o m apos) (e :: es) [] pos) X.env = (do
      let ov ← eval o X.env
      standAt apos.atName
      let (f, first) ← holding [ov] (getMethod ov m pl)
      callWith pos f first (backTo pos (starEach (e :: es) X.env)) (backToKw pos (keywordEach [] X.env))) := by rfl) : E' X W (.Call (.Attribute o m apos) (e :: es) [] pos) (methM c m F np fo h) := by
  obtain ⟨C, hC⟩ := hm
  obtain ⟨f, fd, ps, c1, c2, b, G⟩ := T.ex C hC
  exact (pe_methS (pl := pl) ho c1 c2 G hr b (fun σ => passW tk σ) ha hst hpl ht).mono fun _ _ _ q => tMethS_of hC q
theorem n_meth (T : Mth X.prog X.w X.K X.mg X.base c m k F np) (hm : ∃ C, X.mg c = some (.ref C)) (hr : Room k X.A) (tk : Takes X W) (ho : E' X W o fo) (ha : A' X W (e :: es) h)
    (hst : starEach (e :: es) X.env = (false, eval e X.env) :: starEach es X.env := by rfl) (hpl : (backTo pos (starEach es X.env)).any (·.1) = false := by rfl)
    (ht : eval (.Call (.Attribute o m apos) (e :: es) [] pos) X.env = (do
      let ov ← eval o X.env
      standAt apos.atName
      let (f, first) ← holding [ov] (getMethod ov m pl)
      callWith pos f first (backTo pos (starEach (e :: es) X.env)) (backToKw pos (keywordEach [] X.env))) := by rfl) : N' X W (.Call (.Attribute o m apos) (e :: es) [] pos) (methN c m F np fo h) := by
  obtain ⟨C, hC⟩ := hm
  obtain ⟨f, fd, ps, c1, c2, b, G⟩ := T.ex C hC
  exact (pe_methS (pl := pl) ho c1 c2 G hr b (fun σ => passW tk σ) ha hst hpl ht).mono fun _ _ _ q => tMethN_of hC q
theorem e_meth0 (T : Mth X.prog X.w X.K X.mg X.base c m k F np) (hm : ∃ C, X.mg c = some (.ref C)) (hr : Room k X.A) (tk : Takes X W) (ho : E' X W o fo)
    (ht : eval (.Call (.Attribute o m apos) [] [] pos) X.env = (do
      let ov ← eval o X.env
      standAt apos.atName
      let (f, first) ← holding [ov] (getMethod ov m pl)
      callWith pos f first (backTo pos (starEach [] X.env)) (backToKw pos (keywordEach [] X.env))) := by rfl) : E' X W (.Call (.Attribute o m apos) [] [] pos) (methM c m F np fo nilM) := by
  obtain ⟨C, hC⟩ := hm
  obtain ⟨f, fd, ps, c1, c2, b, G⟩ := T.ex C hC
  exact (pe_methS0 (pl := pl) ho c1 c2 G hr b (fun σ => passW tk σ) ht).mono fun _ _ _ q => tMethS.mono0 (fun _ _ _ q => vA_nil q) (vE_mono) (tMethS_of hC q)
theorem n_meth0 (T : Mth X.prog X.w X.K X.mg X.base c m k F np) (hm : ∃ C, X.mg c = some (.ref C)) (hr : Room k X.A) (tk : Takes X W) (ho : E' X W o fo)
    (ht : eval (.Call (.Attribute o m apos) [] [] pos) X.env = (do
      let ov ← eval o X.env
      standAt apos.atName
      let (f, first) ← holding [ov] (getMethod ov m pl)
      callWith pos f first (backTo pos (starEach [] X.env)) (backToKw pos (keywordEach [] X.env))) := by rfl) : N' X W (.Call (.Attribute o m apos) [] [] pos) (methN c m F np fo nilM) := by
  obtain ⟨C, hC⟩ := hm
  obtain ⟨f, fd, ps, c1, c2, b, G⟩ := T.ex C hC
  exact (pe_methS0 (pl := pl) ho c1 c2 G hr b (fun σ => passW tk σ) ht).mono fun _ _ _ q => tMethS.mono0 (fun _ _ _ q => vA_nil q) (vE_mono) (tMethN_of hC q)
end
end
end NK

set_option Elab.async false
set_option linter.all false
set_option maxRecDepth 100000
set_option maxHeartbeats 4000000
namespace NK
open PySem PySem.Spec PyProof.Rows L2

/-! ### a new object -/
def tMakeS (C : Addr) (sp : Sp) (E : L2.St → XK) (t : TA) : TE := fun σ H Q => t σ H fun vs H1 => ∀ x dx, H1 x = none → H1 dx = none → dx ≠ x →
  sp (.ref x :: vs) (upd (upd H1 dx (.own x)) x (.ins C dx [])) (fun v H2 => v = .non ∧ Q (.ref x) H2) (E σ)
section
variable {X : Cx} {CX : CXT} {k : Nat} {f C : Addr} {fd : FuncData} {ps : List Str} {sp : Sp} {E : L2.St → XK} {x : Str} {p pos : Pos} {e : Expr} {es : List Expr} {t : TA}
theorem run_makeS {pins : List (Addr × Obj)} {σ : L2.St} {H : Hp} {s : Shared} {Q : VK} {us : List Value} {vs : List V} (M : Mk X.K C f) (F : FnOk X.prog X.w X.K X.mg X.base CX k f fd ps sp) (hr : Room (k + 1) X.A) (hb : Binds X.K fd ps [])
    (hx : PassesAt CX X σ (E σ)) (I : Inv X pins σ H s) (r : Vals vs us)
    (h : ∀ x dx, H x = none → H dx = none → dx ≠ x → sp (.ref x :: vs) (upd (upd H dx (.own x)) x (.ins C dx [])) (fun v H2 => v = .non ∧ Q (.ref x) H2) (E σ)) :
    wpAny (model X.prog X.w) X.A (call (.ref C) us) (EP X pins σ Q) X.xe s := by
  have hq := h (s.heap.objs.size + 1) s.heap.objs.size (I.hok.fresh (Nat.le_succ _)) (I.hok.fresh (Nat.le_refl _)) (Nat.ne_of_lt (Nat.lt_succ_self _))
  have I2 := Inv.made (C := C) I
  have r2 : Vals (V.ref (s.heap.objs.size + 1) :: vs) (Value.ref (s.heap.objs.size + 1) :: us) := .cons rfl r
  have hl : (Value.ref (s.heap.objs.size + 1) :: us).length = ps.length := by
    have e := r2.length
    rw [F.len _ _ _ _ hq] at e
    exact e.symm
  have b := hb _ (Value.ref (s.heap.objs.size + 1) :: us) I2.kIn (by rw [List.append_nil]; exact hl)
  rw [List.append_nil] at b
  refine wpAny_call (make_map (f := f) I.kIn M.makes M.init (beq_iff_eq.mp M.fn) (codeAny_mono (F.run _ X.stack _ _ ⟨Value.ref (s.heap.objs.size + 1) :: us, []⟩ (Value.ref (s.heap.objs.size + 1) :: us) _ _ (E σ) (hr.make C us [])
    (I2.env0.make C us []) b r2 hq) fun r s' hq' => ?_))
  cases r with
  | error e => exact hx pins _ _ e s' I2 hq'
  | ok fl =>
    cases fl with
    | ret u =>
      obtain ⟨v, H', I3, rv, ev, q3⟩ := I2.after hq'
      subst ev
      exact ⟨rv, ⟨V.ref (s.heap.objs.size + 1), H', I3, rfl, q3⟩⟩
    | next => exact False.elim hq'
    | brk => exact False.elim hq'
    | cont => exact False.elim hq'
theorem pe_makeS (M : Mk X.K C f) (F : FnOk X.prog X.w X.K X.mg X.base CX k f fd ps sp) (hr : Room (k + 1) X.A) (hg : Gl X x) (hm : X.mg x = some (.ref C)) (hb : Binds X.K fd ps []) (hx : ∀ σ, PassesAt CX X σ (E σ))
    (ha : PA X (e :: es) t) (hdb : (x == ("__debug__" : Str)) = false := by decide) (he : starEach (e :: es) X.env = (false, eval e X.env) :: starEach es X.env := by rfl) (hpl : (backTo pos (starEach es X.env)).any (·.1) = false := by rfl) :
    PE X (.Call (.Name x p) (e :: es) [] pos) (tMakeS C sp E t) := by
  refine ⟨fun pins s σ H Q I h => ?_⟩
  refine wpAny_Call_Name_kw (ld_glob I hg hm ?_ hdb)
  refine PySem.W.callWith_K (h₀ := X.base) I.ok.mod.kin M.kp (thn (ha.run pos pins s σ H _ I h) fun us s1 ⟨vs, H1, I1, r, q⟩ => ⟨I1.kIn, ?_⟩) he hpl
  exact run_makeS M F hr hb (hx σ) I1 r q
end
/-- how a class is made: its __init__ as a method, by its plain function -/
structure Mkr (P : Program) (w : World) (K : PySem.W.Frag) (mg : Str → Option Value) (base : Heap) (c : Str) (k : Nat) (F : Fn) (np : Nat) : Prop where
  ex : ∃ C f fd ps, mg c = some (.ref C) ∧ Cls K C ∧ Mk K C f ∧ Binds K fd ps [] ∧ FnOk P w K mg base (L2.CX P w) k f fd ps (vF K mg F np)
/-- the slots, and a new object behind them; what __init__ does to it -/
def makeE (c : Str) (F : Fn) (np : Nat) (as : List Arg) : M D := fun env => match appF F np (.own env.length :: as) (env ++ [.ow (.ob c [])]) with
  | some (.val (false, .non) e) => (match e.getLast? with | some (.ow d) => some (.val d e.dropLast) | _ => none)
  | some (.exc x e) => some (.exc x e.dropLast)
  | _ => none
def makeM (c : Str) (F : Fn) (np : Nat) (h : M (List Arg)) : M D := bindM h fun as => makeE c F np as
section
variable {K : PySem.W.Frag} {mg : Str → Option Value} {W : WX} {F : Fn} {np : Nat} {as : List Arg} {c : Ct} {σ : L2.St} {Hs H : Hp} {env : Env} {Q : VK} {vs : List V}
theorem last_split {α : Type} {l : List α} {x : α} (h : l.getLast? = some x) : l = l.dropLast ++ [x] := by
  have hne : l ≠ [] := by intro e; subst e; cases h
  have h2 := List.dropLast_concat_getLast hne
  rw [List.getLast?_eq_some_getLast hne] at h
  cases h
  exact h2.symm
theorem ArgOk.pad {x : Option V} {v : V} {a : Arg} (h : ArgOk K mg Hs σ v a) : ArgOk K mg Hs (σ ++ [x]) v a := by
  cases a with
  | val d => exact h
  | own i =>
    have h' : σ[i]? = some (some v) := h
    have hi := (List.getElem?_eq_some_iff.mp h').1
    show (σ ++ [x])[i]? = some (some v)
    rw [app_lt hi]; exact h'
  | bor i =>
    have h' : σ[i]? = some (some v) := h
    have hi := (List.getElem?_eq_some_iff.mp h').1
    show (σ ++ [x])[i]? = some (some v)
    rw [app_lt hi]; exact h'
theorem ArgsOk.pad {x : Option V} : ∀ {vs : List V} {as : List Arg}, ArgsOk K mg Hs σ vs as → ArgsOk K mg Hs (σ ++ [x]) vs as
  | _, _, .nil => .nil
  | _, _, .cons h r => .cons h.pad (ArgsOk.pad r)
theorem Sta.dropL {x : Option V} (S : Sta K mg c Hs H (σ ++ [x]) env) : Sta K mg c Hs H σ env.dropLast := by
  have hl : env.length = σ.length + 1 := by have := S.len; simpa using this
  cases e : env.getLast? with
  | none => rw [List.getLast?_eq_none_iff] at e; subst e; simp at hl
  | some cl =>
    rw [last_split e] at S
    exact S.drop
theorem ob_nil {C : Addr} (h : Cls K C) : ObT K C [] := ⟨h, fun f q => absurd rfl q⟩
theorem make_of {cn : Str} {C : Addr} (hC : mg cn = some (.ref C)) (hcl : Cls K C) (S : Sta K mg c Hs H σ env) (r : ArgsOk K mg Hs σ vs as) (w : WpN K mg W c σ Hs (makeE cn F np as env) Q) :
    ∀ x dx, H x = none → H dx = none → dx ≠ x → vF K mg F np (.ref x :: vs) (upd (upd H dx (.own x)) x (.ins C dx [])) (fun v H2 => v = .non ∧ Q (.ref x) H2) (WE W σ) := by
  intro x dx hx hdx hne
  have S1 := S.putN (o := .own x) hdx
  have hx1 : upd H dx (.own x) x = none := by rw [upd_ne (Ne.symm hne)]; exact hx
  have S2 := S1.pushG hx1 (o := .ins C dx []) (d := .ob cn []) (.ob hC (ob_nil hcl) upd_same .nil (by simp))
  have hl : env.length = σ.length := S.len
  have r2 : ArgsOk K mg Hs (σ ++ [some (.ref x)]) (.ref x :: vs) (.own env.length :: as) := .cons (show (σ ++ [some (V.ref x)])[env.length]? = some (some (.ref x)) by rw [hl]; exact sig_last) r.pad
  have key : vF K mg F np (.ref x :: vs) (upd (upd H dx (.own x)) x (.ins C dx [])) (fun v H2 => v = .non ∧ Q (.ref x) H2) (fun cls dd H' => W cls dd σ H') := by
    refine vF_of S2 r2 ?_
    unfold makeE at w
    cases e : appF F np (.own env.length :: as) (env ++ [.ow (.ob cn [])]) with
    | none => rw [e] at w; exact w.elim
    | some o =>
      rw [e] at w
      cases o with
      | exc y e2 => exact fun Hs' H' cls dd s z q => w Hs' H' cls dd s.dropL z q
      | val p e2 =>
        obtain ⟨fr, d⟩ := p
        cases fr with
        | true => exact w.elim
        | false =>
          cases d with
          | non =>
            show (if false = true then _ else _)
            rw [if_neg Bool.false_ne_true]
            intro Hs' H' v s z rv
            cases rv
            have w' : WpN K mg W c σ Hs (match e2.getLast? with | some (.ow d) => some (.val d e2.dropLast) | _ => none) Q := w
            split at w'
            · rename_i d hd
              refine ⟨rfl, ?_⟩
              rw [last_split hd] at s
              exact w' Hs' H' (.ref x) s z
            · exact w'.elim
          | _ => exact w.elim
  exact key
theorem tMakeS_of {cn : Str} {C : Addr} {h : M (List Arg)} (hC : mg cn = some (.ref C)) (hcl : Cls K C) (q : vN K mg W (makeM cn F np h) σ H Q) : tMakeS C (vF K mg F np) (WE W) (vA K mg W h) σ H Q := by
  obtain ⟨c, Hs, env, S, q⟩ := q
  refine ⟨c, Hs, env, S, (WpN.bind q).weak fun as e1 Hs1 H1 s1 z1 w vs r => ?_⟩
  exact make_of hC hcl w.1 r w.2
end
section
variable {X : Cx} {e o value : Expr} {es : List Expr} {st : Stmt} {pos pos' p : Pos} {W : WX} {c : Str} {F : Fn} {np k : Nat} {h : M (List Arg)}
/-- C(..): a new object of its own -/
theorem n_make (T : Mkr X.prog X.w X.K X.mg X.base c k F np) (hr : Room (k + 1) X.A) (tk : Takes X W) (ha : A' X W (e :: es) h) (hg : Gl X c := by rfl) (hdb : (c == ("__debug__" : Str)) = false := by decide)
    (he : starEach (e :: es) X.env = (false, eval e X.env) :: starEach es X.env := by rfl) (hpl : (backTo pos (starEach es X.env)).any (·.1) = false := by rfl) : N' X W (.Call (.Name c p) (e :: es) [] pos) (makeM c F np h) := by
  obtain ⟨C, f, fd, ps, hm, hcl, mk, hb, G⟩ := T.ex
  exact (pe_makeS mk G hr hg hm hb (fun σ => passW tk σ) ha hdb he hpl).mono fun _ _ _ q => tMakeS_of hm hcl q

/-! ### a field of a slot's own object is written -/
end
section
variable {K : PySem.W.Frag} {mg : Str → Option Value} {W : WX} {c : Ct} {σ : L2.St} {Hs H : Hp} {env : Env}
def putFD (f : Str) (d : D) : List (Str × D) → List (Str × D)
  | [] => [(f, d)]
  | (k, x) :: r => if k = f then (k, d) :: r else (k, x) :: putFD f d r
/-- a field gets a shared value -/
theorem OwnF.putS {f : Str} {y : V} {d : D} (hd : d.isMu = false) (ry : Rep K mg Hs y d) : ∀ {ks : List (Str × V)} {ds : List (Str × D)} {A : List Addr}, OwnF K mg Hs H ks ds A → ∃ A', OwnF K mg Hs H (putF f y ks) (putFD f d ds) A' ∧ ∀ a ∈ A', a ∈ A
  | _, _, _, .nil => ⟨[], .sh hd ry .nil, fun a h => h⟩
  | _, _, _, .sh (k := k) (v := v) (d := d1) (vs := vs) (ds := ds) n r t => by
    show ∃ A', OwnF K mg Hs H (if k = f then (k, y) :: vs else (k, v) :: putF f y vs) (if k = f then (k, d) :: ds else (k, d1) :: putFD f d ds) A' ∧ _
    by_cases e : k = f
    · rw [if_pos e, if_pos e]; exact ⟨_, .sh hd ry t, fun a h => h⟩
    · rw [if_neg e, if_neg e]
      obtain ⟨A', o, s⟩ := OwnF.putS hd ry t
      exact ⟨A', .sh n r o, s⟩
  | _, _, _, .mu (k := k) (v := v) (d := d1) (vs := vs) (ds := ds) (B := B) (A := A) r t n => by
    show ∃ A', OwnF K mg Hs H (if k = f then (k, y) :: vs else (k, v) :: putF f y vs) (if k = f then (k, d) :: ds else (k, .mu d1) :: putFD f d ds) A' ∧ _
    by_cases e : k = f
    · rw [if_pos e, if_pos e]; exact ⟨_, .sh hd ry t, fun a h => List.mem_append_right _ h⟩
    · rw [if_neg e, if_neg e]
      obtain ⟨A', o, s⟩ := OwnF.putS hd ry t
      refine ⟨B ++ A', .mu r o fun a ha z => n a ha (s a z), fun a h => ?_⟩
      rcases List.mem_append.mp h with h | h
      · exact List.mem_append_left _ h
      · exact List.mem_append_right _ (s a h)
/-- a field gets an owned thing -/
theorem OwnF.putM {f : Str} {y : V} {d : D} {C : List Addr} (ry : Own K mg Hs H y d C) : ∀ {ks : List (Str × V)} {ds : List (Str × D)} {A : List Addr}, OwnF K mg Hs H ks ds A → (∀ a ∈ C, a ∉ A) → ∃ A', OwnF K mg Hs H (putF f y ks) (putFD f (.mu d) ds) A' ∧ ∀ a ∈ A', a ∈ A ∨ a ∈ C
  | _, _, _, .nil, _ => ⟨C ++ [], .mu ry .nil (fun a _ h => nomatch h), fun a h => .inr (by simpa using h)⟩
  | _, _, _, .sh (k := k) (v := v) (d := d1) (vs := vs) (ds := ds) (A := A) n r t, nc => by
    show ∃ A', OwnF K mg Hs H (if k = f then (k, y) :: vs else (k, v) :: putF f y vs) (if k = f then (k, .mu d) :: ds else (k, d1) :: putFD f (.mu d) ds) A' ∧ _
    by_cases e : k = f
    · rw [if_pos e, if_pos e]
      refine ⟨C ++ A, .mu ry t nc, fun a h => (List.mem_append.mp h).symm⟩
    · rw [if_neg e, if_neg e]
      obtain ⟨A', o, s⟩ := OwnF.putM ry t nc
      exact ⟨A', .sh n r o, s⟩
  | _, _, _, .mu (k := k) (v := v) (d := d1) (vs := vs) (ds := ds) (B := B) (A := A) r t n, nc => by
    show ∃ A', OwnF K mg Hs H (if k = f then (k, y) :: vs else (k, v) :: putF f y vs) (if k = f then (k, .mu d) :: ds else (k, .mu d1) :: putFD f (.mu d) ds) A' ∧ _
    have nc2 : ∀ a ∈ C, a ∉ A := fun a h z => nc a h (List.mem_append_right _ z)
    by_cases e : k = f
    · rw [if_pos e, if_pos e]
      refine ⟨C ++ A, .mu ry t nc2, fun a h => ?_⟩
      rcases List.mem_append.mp h with h | h
      · exact .inr h
      · exact .inl (List.mem_append_right _ h)
    · rw [if_neg e, if_neg e]
      obtain ⟨A', o, s⟩ := OwnF.putM ry t nc2
      refine ⟨B ++ A', .mu r o fun a ha z => ?_, fun a h => ?_⟩
      · rcases s a z with q | q
        · exact n a ha q
        · exact nc a q (List.mem_append_left _ ha)
      · rcases List.mem_append.mp h with h | h
        · exact .inl (List.mem_append_left _ h)
        · rcases s a h with q | q
          · exact .inl (List.mem_append_right _ q)
          · exact .inr q
theorem OwnF.noneB {f : Str} : ∀ {ks : List (Str × V)} {ds : List (Str × D)} {A : List Addr}, OwnF K mg Hs H ks ds A → ks.lookup f = Option.none → ds.lookup f = Option.none
  | _, _, _, .nil, h => rfl
  | _, _, _, .sh (k := k) n r t, h => by
    rw [List.lookup_cons] at h ⊢
    cases e : f == k with
    | true => rw [e] at h; cases h
    | false => rw [e] at h; exact OwnF.noneB t h
  | _, _, _, .mu (k := k) r t n, h => by
    rw [List.lookup_cons] at h ⊢
    cases e : f == k with
    | true => rw [e] at h; cases h
    | false => rw [e] at h; exact OwnF.noneB t h
theorem OwnF.len : ∀ {ks : List (Str × V)} {ds : List (Str × D)} {A : List Addr}, OwnF K mg Hs H ks ds A → ks.length = ds.length
  | _, _, _, .nil => rfl
  | _, _, _, .sh _ _ t => by rw [List.length_cons, List.length_cons, t.len]
  | _, _, _, .mu _ t _ => by rw [List.length_cons, List.length_cons, t.len]
theorem lookup_putF' (f : Str) (v : V) (g : Str) : ∀ fs : List (Str × V), (putF f v fs).lookup g = if g = f then some v else fs.lookup g := fun fs => by rw [lookup_putF]
theorem ObT.put {C : Addr} {ks : List (Str × V)} {f : Str} {y : V} (t : ObT K C ks) (n : NoAttr K C f) : ObT K C (putF f y ks) := ⟨t.1, fun g hg => by
  rw [lookup_putF'] at hg
  by_cases e : g = f
  · subst e; exact n
  · rw [if_neg e] at hg; exact t.2 g hg⟩
/-- an owned thing and a new one are put together -/
theorem Sta.owned2 {i : Nat} {cl : Cell} {d d2 : D} {v2 : V} (S : Sta K mg c Hs H (σ ++ [some v2]) (env ++ [.ow d2])) (h : env[i]? = some cl) (ho : cl.own = some d) :
    ∃ v A A2, σ[i]? = some (some v) ∧ Own K mg Hs H v d A ∧ Own K mg Hs H v2 d2 A2 ∧ (∀ a ∈ A, a ∉ A2) ∧
      ∀ H' d' A', Own K mg Hs H' v d' A' → (∀ p o, p ∉ A → H p = some o → H' p = some o) → (∀ p, H p ≠ none → H' p ≠ none) → (∀ a ∈ A', a ∈ A ∨ a ∈ A2) →
        Sta K mg c Hs H' σ (env.set i (cl.put d')) := by
  have hl : env.length = σ.length := by have := S.len; simpa using this
  have hi : i < env.length := (List.getElem?_eq_some_iff.mp h).1
  obtain ⟨B, hA, hN, hD, hX⟩ := S.cells
  have g := hA i cl (by rw [app_lt hi]; exact h)
  have gL := hA env.length (.ow d2) env_last
  obtain ⟨v2', q1, q2, q3⟩ := gL
  rw [hl, sig_last] at q1
  cases q1
  obtain ⟨v, g1, g2, g3, g4⟩ : ∃ v, (σ ++ [some v2])[i]? = some (some v) ∧ Own K mg Hs H v d (B i) ∧ (∀ a ∈ B i, Hs a = none ∧ (a ∈ c.A ∨ c.H a = none)) ∧ ((∃ e, cl = .io e) → c.par i = some v) := by
    cases cl with
    | no => cases ho
    | sh d => cases ho
    | al s k => cases ho
    | ro d => cases ho
    | ow e =>
      cases ho
      obtain ⟨v, g1, g2, g3⟩ := g
      exact ⟨v, g1, g2, g3, fun ⟨_, z⟩ => nomatch z⟩
    | io e =>
      cases ho
      obtain ⟨v, g1, g2, g3, g4⟩ := g
      exact ⟨v, g1, g2, g3, fun _ => g4⟩
  rw [app_lt (by rw [← hl]; exact hi)] at g1
  refine ⟨v, B i, B env.length, g1, g2, q2, hX i env.length (by omega), fun H' d' A' o' k kh fr => ?_⟩
  have sH : Same Hs H' := fun p o e => k p o (fun z => by rw [(g3 p z).1] at e; cases e) (S.s1 p o e)
  have frA : ∀ a ∈ A', Hs a = none ∧ (a ∈ c.A ∨ c.H a = none) := fun a ha => by
    rcases fr a ha with z | z
    · exact g3 a z
    · exact q3 a z
  refine ⟨S.s0, sH, fun p o e q => ?_, S.fh, fun p q => kh p (S.hh p q), S.ro, by rw [List.length_set]; exact hl, fun j => if j = i then A' else if j < env.length then B j else [], fun j cl' h' => ?_, fun j h' => ?_, fun j => ?_, fun j l hjl a ha => ?_⟩
  · refine k p o (fun z => ?_) (S.fr p o e q)
    rcases (g3 p z).2 with w | w
    · exact q w
    · rw [w] at e; cases e
  · by_cases e : j = i
    · subst e
      rw [List.getElem?_set_self hi] at h'
      cases h'
      show CellOk K mg c Hs H' σ j (cl.put d') (if j = j then A' else if j < env.length then B j else [])
      rw [if_pos rfl]
      cases cl with
      | no => cases ho
      | sh d => cases ho
      | al s k => cases ho
      | ro d => cases ho
      | ow e => exact ⟨v, g1, o', frA⟩
      | io e => exact ⟨v, g1, o', frA, g4 ⟨e, rfl⟩⟩
    · rw [eget_ne (Ne.symm e)] at h'
      have hj : j < env.length := (List.getElem?_eq_some_iff.mp h').1
      show CellOk K mg c Hs H' σ j cl' (if j = i then A' else if j < env.length then B j else [])
      rw [if_neg e, if_pos hj]
      have g := (hA j cl' (by rw [app_lt hj]; exact h')).slot (σ' := σ) (by rw [app_lt (by rw [← hl]; exact hj)])
      have kj : ∀ a ∈ B j, ∀ o, H a = some o → H' a = some o := fun a ha o q => k a o (fun z => hX j i e a ha z) q
      cases cl' with
      | no => exact g
      | sh d => exact g
      | ow d => obtain ⟨v, g1, g2, g3⟩ := g; exact ⟨v, g1, g2.mono (Same.refl _) kj, g3⟩
      | io d => obtain ⟨v, g1, g2, g3, g4⟩ := g; exact ⟨v, g1, g2.mono (Same.refl _) kj, g3, g4⟩
      | al s k => exact g
      | ro d => exact g
  · show (if j = i then A' else if j < env.length then B j else []) = []
    by_cases e : j = i
    · subst e
      rw [List.getElem?_eq_none_iff, List.length_set] at h'
      omega
    · rw [if_neg e]
      rw [eget_ne (Ne.symm e), List.getElem?_eq_none_iff] at h'
      rw [if_neg (by omega)]
  · show (if j = i then A' else if j < env.length then B j else []).Nodup
    by_cases e : j = i
    · rw [if_pos e]; exact o'.nodup
    · rw [if_neg e]
      split
      · exact hD j
      · simp
  · have ha' : a ∈ (if j = i then A' else if j < env.length then B j else []) := ha
    show a ∉ (if l = i then A' else if l < env.length then B l else [])
    have two : ∀ m, m ≠ i → m < env.length → ∀ a ∈ A', a ∉ B m := fun m hm hml a ha => by
      rcases fr a ha with z | z
      · exact hX i m (Ne.symm hm) a z
      · exact hX env.length m (by omega) a z
    by_cases e : j = i
    · rw [if_pos e] at ha'
      have e2 : l ≠ i := fun z => hjl (e.trans z.symm)
      rw [if_neg e2]
      split
      · rename_i hll; exact two l e2 hll a ha'
      · simp
    · rw [if_neg e] at ha'
      split at ha'
      · rename_i hjl2
        by_cases e2 : l = i
        · rw [if_pos e2]; exact fun z => two j e hjl2 a z ha'
        · rw [if_neg e2]
          split
          · exact hX j l hjl a ha'
          · simp
      · cases ha'
/-- the object that a slot owns -/
theorem Sta.ownO {i : Nat} {cl : Cell} {cn : Str} {fs : List (Str × D)} (S : Sta K mg c Hs H σ env) (h : env[i]? = some cl) (ho : cl.own = some (.ob cn fs)) :
    ∃ a C dx ks, σ[i]? = some (some (.ref a)) ∧ mg cn = some (.ref C) ∧ ObT K C ks ∧ H a = some (.ins C dx ks) ∧ ks.length = fs.length ∧ (∀ f, fs.lookup f = none → ks.lookup f = none) ∧ (∀ f, fs.lookup f ≠ none → ks.lookup f ≠ none) ∧
      ∀ f y d, d.isMu = false → Rep K mg Hs y d → NoAttr K C f → Sta K mg c Hs (upd H a (.ins C dx (putF f y ks))) σ (env.set i (cl.put (.ob cn (putFD f d fs)))) := by
  obtain ⟨v, A, g1, o, g3, k⟩ := S.owned h ho
  cases o with
  | @ob a C dx _ ks _ A g t hh rf na =>
    refine ⟨a, C, dx, ks, g1, g, t, hh, rf.len, fun f hf => OwnF.noneA (A := []) rf hf, fun f hf => ?_, fun f y d hd ry n => ?_⟩
    · exact fun z => hf (OwnF.noneB rf z)
    · obtain ⟨A', o', s⟩ := OwnF.putS (f := f) hd ry rf
      have na' : a ∉ A' := fun z => na (s a z)
      refine k _ _ (a :: A') (.ob g (t.put n) upd_same (o'.mono (Same.refl _) fun b hb o q => ?_) na') (fun p o hp e => ?_) (fun p hp => ?_) (fun b hb => ?_)
      · rw [upd_ne (fun e : b = a => na' (by rw [← e]; exact hb))]; exact q
      · rw [upd_ne (fun e => hp (by rw [e]; simp))]; exact e
      · by_cases e : p = a
        · subst e; rw [upd_same]; simp
        · rw [upd_ne e]; exact hp
      · rcases List.mem_cons.mp hb with e | e
        · exact .inl (by rw [e]; simp)
        · exact .inl (List.mem_cons_of_mem _ (s b e))
theorem Sta.ownO2 {i : Nat} {cl : Cell} {cn : Str} {fs : List (Str × D)} {y : V} {d : D} (S : Sta K mg c Hs H (σ ++ [some y]) (env ++ [.ow d])) (h : env[i]? = some cl) (ho : cl.own = some (.ob cn fs)) :
    ∃ a C dx ks, σ[i]? = some (some (.ref a)) ∧ mg cn = some (.ref C) ∧ ObT K C ks ∧ H a = some (.ins C dx ks) ∧ ks.length = fs.length ∧
      ∀ f, NoAttr K C f → Sta K mg c Hs (upd H a (.ins C dx (putF f y ks))) σ (env.set i (cl.put (.ob cn (putFD f (.mu d) fs)))) := by
  obtain ⟨v, A, A2, g1, o, o2, nd, k⟩ := S.owned2 h ho
  cases o with
  | @ob a C dx _ ks _ A g t hh rf na =>
    refine ⟨a, C, dx, ks, g1, g, t, hh, rf.len, fun f n => ?_⟩
    obtain ⟨A', o', s⟩ := OwnF.putM (f := f) o2 rf (fun b hb z => nd b (List.mem_cons_of_mem _ z) hb)
    have na' : a ∉ A' := fun z => by
      rcases s a z with q | q
      · exact na q
      · exact nd a (by simp) q
    refine k _ _ (a :: A') (.ob g (t.put n) upd_same (o'.mono (Same.refl _) fun b hb o q => ?_) na') (fun p o hp e => ?_) (fun p hp => ?_) (fun b hb => ?_)
    · rw [upd_ne (fun e : b = a => na' (by rw [← e]; exact hb))]; exact q
    · rw [upd_ne (fun e => hp (by rw [e]; simp))]; exact e
    · by_cases e : p = a
      · subst e; rw [upd_same]; simp
      · rw [upd_ne e]; exact hp
    · rcases List.mem_cons.mp hb with e | e
      · exact .inl (by rw [e]; simp)
      · rcases s b e with q | q
        · exact .inl (List.mem_cons_of_mem _ q)
        · exact .inr q
/-- the object that a slot owns: its class, its fields -/
def viewO (i : Nat) (e : Env) : Option (Str × List (Str × D)) := match e[i]? with
  | some cl => (match cl.own with | some (.ob c fs) => some (c, fs) | _ => none)
  | none => none
def putO (i : Nat) (c : Str) (fs : List (Str × D)) (e : Env) : Option Env := match e[i]? with
  | some cl => some (e.set i (cl.put (.ob c fs)))
  | none => none
theorem viewO_of {i : Nat} {cn : Str} {fs : List (Str × D)} (h : viewO i env = some (cn, fs)) : ∃ cl, env[i]? = some cl ∧ cl.own = some (.ob cn fs) := by
  unfold viewO at h
  split at h
  · rename_i cl hc
    split at h
    · rename_i c' fs' ho
      cases h
      exact ⟨cl, hc, ho⟩
    · cases h
  · cases h
/-- may the field be written -/
def fldOk (c f : Str) (fs : List (Str × D)) : Bool := ((fs.lookup f).isSome || (clsAll.contains c && fldAll.contains f)) && decide (fs.length < 1000)
theorem fldOk_of {cn f : Str} {fs : List (Str × D)} {C : Addr} {ks : List (Str × V)} (T : ObjF K mg) (hC : mg cn = some (.ref C)) (t : ObT K C ks) (hl : ks.length = fs.length) (hk : ∀ f, fs.lookup f ≠ none → ks.lookup f ≠ none) (h : fldOk cn f fs = true) : NoAttr K C f ∧ ks.length < 1000 := by
  simp only [fldOk, Bool.and_eq_true, Bool.or_eq_true, decide_eq_true_eq] at h
  refine ⟨?_, by omega⟩
  rcases h.1 with h | h
  · exact t.2 f (hk f (by intro z; rw [z] at h; cases h))
  · exact (T cn (by simpa using h.1) C hC).2 f (by simpa using h.2)
/-- o.f = e -/
def fldS (i : Nat) (f : Str) (fa : M D) : S := withS fa fun d e => match viewO i e with
  | some (c, fs) => if fldOk c f fs = true ∧ d.isMu = false then (putO i c (putFD f d fs) e).map .nx else none
  | none => none
def fldNS (i : Nat) (f : Str) (fa : M D) : S := withS fa fun d e => match viewO i e with
  | some (c, fs) => if fldOk c f fs = true then (putO i c (putFD f (.mu d) fs) e).map .nx else none
  | none => none
end
section
variable {X : Cx} {e o value : Expr} {pos pos' : Pos} {W : WX} {i : Nat} {f : Str} {fa : M D}
theorem s_fld (T : ObjF X.K X.mg) (ho : PE X o (tVar i)) (hv : E' X W value fa) (hs : swapsWith value (some (.Attribute o f pos')) pos.line X.env = pure false := by rfl) : S' X W (.Assign [.Attribute o f pos'] value pos) (fldS i f fa) := (ps_fld ho hv hs).mono fun D σ H q => by
  obtain ⟨c, Hs, env, S, q⟩ := q
  refine ⟨c, Hs, env, S, (WpS.withE q).weak fun d e1 Hs1 H1 s1 z1 w v r => ?_⟩
  split at w
  · rename_i cn fs hv
    split at w
    · rename_i hc
      obtain ⟨cl, h1, h2⟩ := viewO_of hv
      obtain ⟨a, C, dx, ks, g1, g2, g3, g4, g5, g6, g7, k⟩ := s1.ownO h1 h2
      obtain ⟨n, hlt⟩ := fldOk_of T g2 g3 g5 g7 hc.1
      refine ⟨.ref a, g1, a, C, dx, ks, rfl, g4, g3.1, n, hlt, ?_⟩
      unfold putO at w
      rw [h1] at w
      exact w _ _ σ (k f v d hc.2 r n)
    · exact w.elim
  · exact w.elim
theorem s_fldN (T : ObjF X.K X.mg) (ho : PE X o (tVar i)) (hv : N' X W value fa) (hs : swapsWith value (some (.Attribute o f pos')) pos.line X.env = pure false := by rfl) : S' X W (.Assign [.Attribute o f pos'] value pos) (fldNS i f fa) := (ps_fld ho hv hs).mono fun D σ H q => by
  obtain ⟨c, Hs, env, S, q⟩ := q
  refine ⟨c, Hs, env, S, WpS.withN q fun d e1 Hs1 H1 v w s1 => ?_⟩
  split at w
  · rename_i cn fs hv
    split at w
    · rename_i hc
      obtain ⟨cl, h1, h2⟩ := viewO_of hv
      have hl : e1.length = σ.length := by have := s1.len; simpa using this
      obtain ⟨a, C, dx, ks, g1, g2, g3, g4, g5, g6, g7, _⟩ := s1.drop.ownO h1 h2
      obtain ⟨a', C', dx', ks', g1', g2', g3', g4', g5', k⟩ := s1.ownO2 h1 h2
      rw [g1] at g1'; cases g1'
      rw [g4] at g4'; cases g4'
      obtain ⟨n, hlt⟩ := fldOk_of T g2 g3 g5 g7 hc
      refine ⟨.ref a, g1, a, C, dx, ks, rfl, g4, g3.1, n, hlt, ?_⟩
      unfold putO at w
      rw [h1] at w
      exact w _ _ σ (k f n)
    · exact w.elim
  · exact w.elim
end
end NK

set_option Elab.async false
set_option linter.all false
set_option maxRecDepth 100000
set_option maxHeartbeats 4000000
namespace NK
open PySem PySem.Spec PyProof.Rows L2

/-! ### a def of a class, called through the class -/
structure Clf (P : Program) (w : World) (K : PySem.W.Frag) (mg : Str → Option Value) (base : Heap) (c m : Str) (k : Nat) (F : Fn) (np : Nat) : Prop where
  ex : ∃ C mc f fd ps, mg c = some (.ref C) ∧ ClX.CRead K C mc ∧ PySem.W.findCls K (.ref C) mc m = some (.val (.ref f)) ∧ PySem.W.keepIn K (.ref f) = true ∧ Binds K fd ps [] ∧ FnOk P w K mg base (L2.CX P w) k f fd ps (vF K mg F np)
section
variable {X : Cx} {e o : Expr} {es : List Expr} {pos apos p : Pos} {W : WX} {c m : Str} {F : Fn} {np k : Nat} {h : M (List Arg)} {pl : Sem Bool}
theorem pe_clsS {CX : CXT} {f C : Addr} {mc : Value} {fd : FuncData} {ps : List Str} {sp : Sp} {E : L2.St → XK} {t : TA} (hg : Gl X c) (hm : X.mg c = some (.ref C)) (r : ClX.CRead X.K C mc) (hf : PySem.W.findCls X.K (.ref C) mc m = some (.val (.ref f))) (hk : PySem.W.keepIn X.K (.ref f) = true)
    (F : FnOk X.prog X.w X.K X.mg X.base CX k f fd ps sp) (hr : Room k X.A) (hb : Binds X.K fd ps []) (hx : ∀ σ, PassesAt CX X σ (E σ)) (ha : PA X (e :: es) t) (hdb : (c == ("__debug__" : Str)) = false)
    (hst : starEach (e :: es) X.env = (false, eval e X.env) :: starEach es X.env) (hpl : (backTo pos (starEach es X.env)).any (·.1) = false)
    (ht : eval (.Call (.Attribute (.Name c p) m apos) (e :: es) [] pos) X.env = (do
      let ov ← eval (.Name c p) X.env
      standAt apos.atName
      let (f, first) ← holding [ov] (getMethod ov m pl)
      callWith pos f first (backTo pos (starEach (e :: es) X.env)) (backToKw pos (keywordEach [] X.env)))) :
    PE X (.Call (.Attribute (.Name c p) m apos) (e :: es) [] pos) (tCallS sp E t) := by
  refine ⟨fun pins s σ H Q I h => ?_⟩
  have he : PE X (.Name c p) (tC (.ref C)) := pe_glob hg hm rfl hdb
  refine PySem.W.methodCall_KW (pl := pl) (thn (he.run pins s σ H (fun v H1 => v = .ref C ∧ H1 = H) I ⟨rfl, rfl⟩) fun u s1 ⟨x, H1, I1, rx, ex, eH⟩ => ?_) ht
  subst ex eH
  obtain rfl : u = Value.ref C := rx
  refine PySem.W.method_cls I1.kIn r.ga (PySem.W.cls_value I1.kIn r.rd hf rfl ?_)
  refine PySem.W.callWith_K (first := []) (h₀ := X.base) I.ok.mod.kin hk (thn (ha.run pos pins _ σ H1 _ (I1.tok _) h) fun us s2 ⟨vs, H2, I2, r, q2⟩ => ⟨I2.kIn, ?_⟩) hst hpl
  exact run_fnS F hr hb (hx σ) I2 r q2
theorem e_cls_call (T : Clf X.prog X.w X.K X.mg X.base c m k F np) (hr : Room k X.A) (tk : Takes X W) (ha : A' X W (e :: es) h) (hg : Gl X c := by rfl) (hdb : (c == ("__debug__" : Str)) = false := by decide)
    (hst : starEach (e :: es) X.env = (false, eval e X.env) :: starEach es X.env := by rfl) (hpl : (backTo pos (starEach es X.env)).any (·.1) = false := by rfl)
    (ht : eval (.Call (.Attribute (.Name c p) m apos) (e :: es) [] pos) X.env = (do
      let ov ← eval (.Name c p) X.env
      standAt apos.atName
      let (f, first) ← holding [ov] (getMethod ov m pl)
      callWith pos f first (backTo pos (starEach (e :: es) X.env)) (backToKw pos (keywordEach [] X.env))) := by rfl) : E' X W (.Call (.Attribute (.Name c p) m apos) (e :: es) [] pos) (callM F np h) := by
  obtain ⟨C, mc, f, fd, ps, hm, r, hf, hk, hb, G⟩ := T.ex
  exact (pe_clsS hg hm r hf hk G hr hb (fun σ => passW tk σ) ha hdb hst hpl ht).mono fun _ _ _ q => tCallS_of q
end

/-! ### a new object by a call with a keyword -/
def tMakeNS (C : Addr) (n m : Nat) (sp : Sp) (gV : List V → List V → List V) (E : L2.St → XK) (t tk : TA) : TE := fun σ H Q => t σ H fun vs H1 => tk σ H1 fun zs H2 => vs.length = n ∧ zs.length = m ∧
  ∀ x dx, H2 x = none → H2 dx = none → dx ≠ x → sp (gV (.ref x :: vs) zs) (upd (upd H2 dx (.own x)) x (.ins C dx [])) (fun v H3 => v = .non ∧ Q (.ref x) H3) (E σ)
section
variable {X : Cx} {CX : CXT} {k n : Nat} {f C : Addr} {fd : FuncData} {ps ks : List Str} {sp : Sp} {E : L2.St → XK} {x : Str} {p pos : Pos} {e : Expr} {es : List Expr} {kws : List Keyword} {t tk : TA} {g : List Value → List Value → List Value} {gV : List V → List V → List V}
theorem run_makeNS {pins : List (Addr × Obj)} {σ : L2.St} {H : Hp} {s : Shared} {Q : VK} {us ws : List Value} {vs zs : List V} (M : Mk X.K C f) (F : FnOk X.prog X.w X.K X.mg X.base CX k f fd ps sp) (hr : Room (k + 1) X.A) (hb : KBn X.K fd ps (n + 1) ks g gV)
    (hx : PassesAt CX X σ (E σ)) (I : Inv X pins σ H s) (r : Vals vs us) (rz : Vals zs ws) (l1 : vs.length = n) (l2 : zs.length = ks.length)
    (h : ∀ x dx, H x = none → H dx = none → dx ≠ x → sp (gV (.ref x :: vs) zs) (upd (upd H dx (.own x)) x (.ins C dx [])) (fun v H2 => v = .non ∧ Q (.ref x) H2) (E σ)) :
    wpAny (model X.prog X.w) X.A (call (.ref C) us (ks.zip ws)) (EP X pins σ Q) X.xe s := by
  have hq := h (s.heap.objs.size + 1) s.heap.objs.size (I.hok.fresh (Nat.le_succ _)) (I.hok.fresh (Nat.le_refl _)) (Nat.ne_of_lt (Nat.lt_succ_self _))
  have I2 := Inv.made (C := C) I
  have r1 : Vals (V.ref (s.heap.objs.size + 1) :: vs) (Value.ref (s.heap.objs.size + 1) :: us) := .cons rfl r
  have r2 := hb.rel r1 rz
  have e1 : (Value.ref (s.heap.objs.size + 1) :: us).length = n + 1 := r1.length.symm.trans (congrArg Nat.succ l1)
  have e2 : ws.length = ks.length := rz.length.symm.trans l2
  refine wpAny_call (make_map (f := f) I.kIn M.makes M.init (beq_iff_eq.mp M.fn) (codeAny_mono (F.run _ X.stack _ _ ⟨Value.ref (s.heap.objs.size + 1) :: us, ks.zip ws⟩ (g (Value.ref (s.heap.objs.size + 1) :: us) ws) _ _ (E σ) (hr.make C us (ks.zip ws))
    (I2.env0.make C us (ks.zip ws)) (hb.to _ (Value.ref (s.heap.objs.size + 1) :: us) ws I2.kIn e1 e2) r2 hq) fun r s' hq' => ?_))
  cases r with
  | error e => exact hx pins _ _ e s' I2 hq'
  | ok fl =>
    cases fl with
    | ret u =>
      obtain ⟨v, H', I3, rv, ev, q3⟩ := I2.after hq'
      subst ev
      exact ⟨rv, ⟨V.ref (s.heap.objs.size + 1), H', I3, rfl, q3⟩⟩
    | next => exact False.elim hq'
    | brk => exact False.elim hq'
    | cont => exact False.elim hq'
theorem pe_makeNS (M : Mk X.K C f) (F : FnOk X.prog X.w X.K X.mg X.base CX k f fd ps sp) (hr : Room (k + 1) X.A) (hg : Gl X x) (hm : X.mg x = some (.ref C)) (hb : KBn X.K fd ps (n + 1) ks g gV) (hx : ∀ σ, PassesAt CX X σ (E σ))
    (ha : PA X (e :: es) t) (hkw : PK X kws tk) (hall : (backToKw pos (keywordEach kws X.env)).all (·.1.isSome) = true := by rfl) (hks : (backToKw pos (keywordEach kws X.env)).filterMap (·.1) = ks := by rfl)
    (hdb : (x == ("__debug__" : Str)) = false := by decide) (he : starEach (e :: es) X.env = (false, eval e X.env) :: starEach es X.env := by rfl)
    (hpl : ((backTo pos (starEach (e :: es) X.env)).any (·.1) || (backToKw pos (keywordEach kws X.env)).any (·.1.isNone)) = false := by rfl) :
    PE X (.Call (.Name x p) (e :: es) kws pos) (tMakeNS C n ks.length sp gV E t tk) := by
  refine ⟨fun pins s σ H Q I h => ?_⟩
  refine wpAny_Call_Name_kw (ld_glob I hg hm ?_ hdb)
  refine PySem.W.callWith_KW (h₀ := X.base) I.ok.mod.kin M.kp hall (thn (ha.run pos pins s σ H _ I h) fun us s1 ⟨vs, H1, I1, r, q⟩ => ?_) hpl he
  refine thn (hkw.run pos pins s1 σ H1 _ I1 q) fun ws s2 ⟨zs, H2, I2, rz, l1, l2, q2⟩ => ⟨I2.kIn, ?_⟩
  rw [hks]
  exact run_makeNS M F hr hb (hx σ) I2 r rz l1 l2 q2
end
/-- a class whose __init__ has one default: by places (all; without the last), by the name of the last -/
structure MkrD (P : Program) (w : World) (K : PySem.W.Frag) (mg : Str → Option Value) (base : Heap) (c : Str) (k : Nat) (F : Fn) (np : Nat) (y : Str) (dv : V) : Prop where
  ex : ∃ C f fd ps, mg c = some (.ref C) ∧ Cls K C ∧ Mk K C f ∧ Binds K fd ps [] ∧ (∃ ds, Vals [dv] ds ∧ Binds K fd ps ds) ∧ KBn K fd ps (np - 1) [y] (fun us ws => us ++ ws) (fun vs zs => vs ++ zs) ∧ FnOk P w K mg base (L2.CX P w) k f fd ps (vF K mg F np)
theorem MkrD.all {P : Program} {w : World} {K : PySem.W.Frag} {mg : Str → Option Value} {base : Heap} {c : Str} {k : Nat} {F : Fn} {np : Nat} {y : Str} {dv : V} (T : MkrD P w K mg base c k F np y dv) : Mkr P w K mg base c k F np := by
  obtain ⟨C, f, fd, ps, a, b, m, d, _, _, G⟩ := T.ex
  exact ⟨C, f, fd, ps, a, b, m, d, G⟩
def makeK (c : Str) (F : Fn) (np n : Nat) (h : M (List Arg)) (g : M D) : M D := bindM h fun as => bindM g fun d => if as.length = n then makeE c F np (as ++ [.val d]) else failM
section
variable {K : PySem.W.Frag} {mg : Str → Option Value} {F : Fn} {np n : Nat} {σ : L2.St} {H : Hp} {W : WX}
theorem ArgsOk.snoc {Hs : Hp} {v : V} {a : Arg} (q : ArgOk K mg Hs σ v a) : ∀ {vs : List V} {as : List Arg}, ArgsOk K mg Hs σ vs as → ArgsOk K mg Hs σ (vs ++ [v]) (as ++ [a])
  | _, _, .nil => .cons q .nil
  | _, _, .cons h r => .cons h (ArgsOk.snoc q r)
theorem tMakeNS_of {cn : Str} {C : Addr} {h : M (List Arg)} {g : M D} (hC : mg cn = some (.ref C)) (hcl : Cls K C) {Q : VK} (q : vN K mg W (makeK cn F np n h g) σ H Q) :
    tMakeNS C n 1 (vF K mg F np) (fun vs zs => vs ++ zs) (WE W) (vA K mg W h) (tCons (vE K mg W g) tNil) σ H Q := by
  obtain ⟨c, Hs, env, S, q⟩ := q
  refine ⟨c, Hs, env, S, (WpN.bind q).weak fun as e1 Hs1 H1 s1 z1 w vs r => ?_⟩
  refine ⟨c, Hs1, e1, w.1, (WpN.bind w.2).weak fun d e2 Hs2 H2 s2 z2 w2 v rv => ?_⟩
  obtain ⟨S2, w2⟩ := w2
  split at w2
  · rename_i hn
    refine ⟨by rw [r.len]; exact hn, rfl, ?_⟩
    exact make_of (as := as ++ [.val d]) hC hcl S2 (ArgsOk.snoc (show ArgOk K mg Hs2 σ v (.val d) from rv) (r.mono z2)) w2
  · exact w2.elim
end
section
variable {X : Cx} {e a : Expr} {es : List Expr} {pos p kpos : Pos} {W : WX} {c y : Str} {dv : V} {F : Fn} {np k : Nat} {h : M (List Arg)} {g : M D}
theorem n_makeK (T : MkrD X.prog X.w X.K X.mg X.base c k F np y dv) (hnp : np = n + 2) (hr : Room (k + 1) X.A) (tk : Takes X W) (ha : A' X W (e :: es) h) (hv : E' X W a g) (hg : Gl X c := by rfl) (hdb : (c == ("__debug__" : Str)) = false := by decide)
    (he : starEach (e :: es) X.env = (false, eval e X.env) :: starEach es X.env := by rfl)
    (hall : (backToKw pos (keywordEach [⟨some y, a, kpos⟩] X.env)).all (·.1.isSome) = true := by rfl) (hks : (backToKw pos (keywordEach [⟨some y, a, kpos⟩] X.env)).filterMap (·.1) = [y] := by rfl)
    (hpl : ((backTo pos (starEach (e :: es) X.env)).any (·.1) || (backToKw pos (keywordEach [⟨some y, a, kpos⟩] X.env)).any (·.1.isNone)) = false := by rfl) : N' X W (.Call (.Name c p) (e :: es) [⟨some y, a, kpos⟩] pos) (makeK c F np n h g) := by
  obtain ⟨C, f, fd, ps, hm, hcl, mk, _, _, kb, G⟩ := T.ex
  subst hnp
  exact (pe_makeNS (n := n) (ks := [y]) mk G hr hg hm kb (fun σ => passW tk σ) ha (pk_cons hv pk_nil) hall hks hdb he hpl).mono fun _ _ _ q => tMakeNS_of hm hcl q
end

/-! ### a def with defaults keeps its promise -/
section
variable {P : Program} {w : World} {K : PySem.W.Frag} {mg : Str → Option Value} {base : Heap}
theorem def_okD {x qual : Str} {st : Stmt} {dvs : List V} {kws : List (Str × V)} {f : Addr} {fd : FuncData} {N ps : List Str} {k np nl : Nat} {m : S} {Fn_ : Fn} (hF : Fn_ = funM m np nl) (h1 : ps.length = np) (h2 : N.length = nl) (F : FunD K x qual (defArgs st) (defBody st) (defScope st) dvs kws f fd) (S : FnScope N ps (defScope st))
    (h : ∀ (cdv : Value) (A : Around) (outer : List PySem.Env) (s : Shared) (H : Hp) (E : XK), Room k (A.deeper (envOfC qual (defScope st) s.heap.objs.size f cdv)) →
      Takes (cxOf (L2.CX P w) P w K mg base N qual (defScope st) f cdv A outer s H E) (wE E) →
      PassesOwn (model P w) (A.deeper (envOfC qual (defScope st) s.heap.objs.size f cdv)) (envOfC qual (defScope st) s.heap.objs.size f cdv) (cxOf (L2.CX P w) P w K mg base N qual (defScope st) f cdv A outer s H E).xe →
      B' (cxOf (L2.CX P w) P w K mg base N qual (defScope st) f cdv A outer s H E) (wE E) (defBody st) m) :
    FnOk P w K mg base (L2.CX P w) (k + 1) f fd ps (vF K mg Fn_ np) := by
  subst hF h1 h2
  refine F.ok S (fun vs H Q E h => h.1) fun cdv A outer s H vs Q E hr hsp => ?_
  refine ⟨_, h cdv A outer s H E hr (takes_of rfl rfl rfl rfl) (passes_of (K := fun e s'' => L2.CX P w outer H s E e s'') rfl), ?_⟩
  obtain ⟨hlen, c, Hs, cs, Sc, hp, q⟩ := hsp
  have hl2 : cs.length = vs.length := by have := Sc.len; simpa using this
  show vS K mg (wE E) m _ (L2.start N vs) H
  refine ⟨c, Hs, cs ++ List.replicate (N.length - ps.length) .no, ?_, ?_⟩
  · unfold L2.start; rw [hlen]; exact Sc.pad _
  · unfold funM at q
    cases e : m (cs ++ List.replicate (N.length - ps.length) .no) with
    | none => rw [e] at q; exact q
    | some r =>
      rw [e] at q
      cases r with
      | nx e1 => exact fun Hs' H' σ' s => q Hs' H' .non (by rw [← hlen]; exact s.exit hp) .non
      | rt d e1 => exact fun Hs' H' σ' v s r => q Hs' H' v (by rw [← hlen]; exact s.exit hp) r
      | rn d e1 => exact fun Hs' H' σ' v s => q Hs' H' v (by rw [← hlen]; exact s.exitN hp)
      | bk e1 => exact q.elim
      | ct e1 => exact q.elim
      | exc x e1 => exact fun Hs' H' σ' cls dd s z => q Hs' H' cls dd (by rw [← hlen]; exact s.exit hp) z
end

/-! ### list * int -/
def repLM (fa fb : M D) : M D := bindM fa fun x => bindM fb fun y => match x, y with
  | .lst xs, .int k => if xs.length * k.toNat ≤ 1000000 ∧ -1000000 ≤ k ∧ k ≤ 1000000 then pureM (.lst (List.replicate k.toNat xs).flatten) else failM
  | _, _ => failM
section
variable {X : Cx} {a b : Expr} {pos : Pos} {W : WX}
theorem n_rep {fa fb : M D} (ha : E' X W a fa) (hb : E' X W b fb) : N' X W (.BinOp a .Mult b pos) (repLM fa fb) := (pe_op op_rep ha hb).mono fun σ H Q q => by
  obtain ⟨c, Hs, env, S, q⟩ := q
  refine ⟨c, Hs, env, S, (WpN.bind q).weak fun d1 e1 Hs1 H1 s1 z1 w v r => ?_⟩
  refine ⟨c, Hs1, e1, w.1, (WpN.bind w.2).weak fun d2 e2 Hs2 H2 s2 z2 w2 v2 r2 => ?_⟩
  obtain ⟨S2, w3⟩ := w2
  split at w3
  · rename_i xs k
    split at w3
    · rename_i hn
      cases r with
      | lst h1 q1 =>
        cases r2
        exact ⟨_, _, _, rfl, rfl, S2.s1 _ _ (z2 _ _ h1), by omega, by omega, by rw [q1.len]; exact small_of hn.1, fun p hp => w3 _ _ _ (S2.push hp (rep_flat (q1.mono z2) _)) (Same.refl _)⟩
    · exact w3.elim
  · exact w3.elim
end
end NK

set_option Elab.async false
set_option linter.all false
set_option maxRecDepth 100000
set_option maxHeartbeats 4000000
namespace NK
open PySem PySem.Spec PyProof.Rows L2

/-! ### all that is owned stands still for one part -/
def frzC : Cell → Cell
  | .no => .no
  | .sh d => .sh d
  | .ow d => .sh d
  | .io d => .sh d
  | .ro d => .sh d
  | .al _ _ => .no
def frzEnv (env : Env) : Env := env.map frzC
mutual
/-- data that holds nothing that may change -/
def thawB : D → Bool
  | .non => true
  | .bl _ => true
  | .int _ => true
  | .str _ => true
  | .ty _ => true
  | .cl _ => true
  | .tup ds => thawBs ds
  | _ => false
def thawBs : List D → Bool
  | [] => true
  | d :: ds => thawB d && thawBs ds
end
section
variable {K : PySem.W.Frag} {mg : Str → Option Value} {W : WX} {c : Ct} {σ : L2.St} {Hs H : Hp} {env : Env}
/-- what of the heap stands still -/
def FrzA (K : PySem.W.Frag) (mg : Str → Option Value) (Hs H : Hp) (σ : L2.St) (env : Env) (a : Addr) : Prop :=
  ∃ (i : Nat) (cl : Cell) (d : D) (v : V) (A : List Addr), env[i]? = some cl ∧ cl.view = some d ∧ σ[i]? = some (some v) ∧ Own K mg Hs H v d A ∧ a ∈ A ∧ Hs a = none
noncomputable def frzP (Hs H : Hp) (F : Addr → Prop) : Hp := fun p => @ite _ (F p) (Classical.propDecidable _) (H p) (Hs p)
noncomputable def unfP (Hs : Hp) (F : Addr → Prop) : Hp := fun p => @ite _ (F p) (Classical.propDecidable _) none (Hs p)
theorem frzP_in {F : Addr → Prop} {p : Addr} (h : F p) : frzP Hs H F p = H p := if_pos h
theorem frzP_out {F : Addr → Prop} {p : Addr} (h : ¬ F p) : frzP Hs H F p = Hs p := if_neg h
theorem unfP_in {F : Addr → Prop} {p : Addr} (h : F p) : unfP Hs F p = none := if_pos h
theorem unfP_out {F : Addr → Prop} {p : Addr} (h : ¬ F p) : unfP Hs F p = Hs p := if_neg h
/-- the kinds of what is owned -/
def OwnK (o : Option HO) : Prop := (∃ xs, o = some (.lst xs)) ∨ (∃ ks, o = some (.dK ks)) ∨ ∃ C dx ks, o = some (.ins C dx ks)
mutual
theorem Own.kind : ∀ {v : V} {d : D} {A : List Addr}, Own K mg Hs H v d A → ∀ a ∈ A, OwnK (H a)
  | _, _, _, .lst h r => by intro a ha; simp at ha; subst ha; exact .inl ⟨_, h⟩
  | _, _, _, .dk h r => by intro a ha; simp at ha; subst ha; exact .inr (.inl ⟨_, h⟩)
  | _, _, _, .ob g t h r n => by
    intro a ha
    rcases List.mem_cons.mp ha with e | e
    · subst e; exact .inr (.inr ⟨_, _, _, h⟩)
    · exact OwnF.kind r a e
  | _, _, _, .ml h r n => by
    intro a ha
    rcases List.mem_cons.mp ha with e | e
    · subst e; exact .inl ⟨_, h⟩
    · exact OwnL.kind r a e
  | _, _, _, .tup h r => OwnL.kind r
theorem OwnL.kind : ∀ {v : List V} {d : List D} {A : List Addr}, OwnL K mg Hs H v d A → ∀ a ∈ A, OwnK (H a)
  | _, _, _, .nil => by intro a ha; cases ha
  | _, _, _, .sh n h r => OwnL.kind r
  | _, _, _, .mu h r n => by
    intro a ha
    rcases List.mem_append.mp ha with e | e
    · exact Own.kind h a e
    · exact OwnL.kind r a e
theorem OwnF.kind : ∀ {v : List (Str × V)} {d : List (Str × D)} {A : List Addr}, OwnF K mg Hs H v d A → ∀ a ∈ A, OwnK (H a)
  | _, _, _, .nil => by intro a ha; cases ha
  | _, _, _, .sh n h r => OwnF.kind r
  | _, _, _, .mu h r n => by
    intro a ha
    rcases List.mem_append.mp ha with e | e
    · exact Own.kind h a e
    · exact OwnF.kind r a e
end
/-- what a slot shows, with a footprint that is not stable -/
theorem Sta.seen {i : Nat} {cl : Cell} {d : D} (S : Sta K mg c Hs H σ env) (h : env[i]? = some cl) (ho : cl.view = some d) : ∃ v A, σ[i]? = some (some v) ∧ Own K mg Hs H v d A ∧ ∀ a ∈ A, Hs a = none := by
  obtain ⟨B, hA, hN, hD, hX⟩ := S.cells
  have g := hA i cl h
  cases cl with
  | no => cases ho
  | sh d => cases ho
  | ow e => cases ho; obtain ⟨v, g1, g2, g3⟩ := g; exact ⟨v, _, g1, g2, fun a ha => (g3 a ha).1⟩
  | io e => cases ho; obtain ⟨v, g1, g2, g3, _⟩ := g; exact ⟨v, _, g1, g2, fun a ha => (g3 a ha).1⟩
  | al s k => cases ho
  | ro e =>
    cases ho
    obtain ⟨_, v, g1, g2⟩ := g
    obtain ⟨C, o, q⟩ := S.ro i v _ g2
    exact ⟨v, C, g1, o.mono S.s0 fun a ha o' z => S.fr a o' z (q a ha).2, fun a ha => S.fh a (q a ha).1 (o.has a ha) (q a ha).2⟩
/-- IN: the frame of the part -/
noncomputable abbrev frzCt (Hs H : Hp) (F : Addr → Prop) : Ct := ⟨frzP Hs H F, H, [], fun _ => none, fun _ => none⟩
theorem frz_same {F : Addr → Prop} (s1 : Same Hs H) : Same Hs (frzP Hs H F) := fun p o q => by
  by_cases h : F p
  · rw [frzP_in h]; exact s1 p o q
  · rw [frzP_out h]; exact q
theorem frz_sameH {F : Addr → Prop} (s1 : Same Hs H) : Same (frzP Hs H F) H := fun p o q => by
  by_cases h : F p
  · rw [frzP_in h] at q; exact q
  · rw [frzP_out h] at q; exact s1 p o q
theorem Sta.fzz (S : Sta K mg c Hs H σ env) : Sta K mg (frzCt Hs H (FrzA K mg Hs H σ env)) (frzP Hs H (FrzA K mg Hs H σ env)) H σ (frzEnv env) := by
  refine ⟨Same.refl _, frz_sameH S.s1, fun _ _ h _ => h, fun _ h _ _ => h, fun _ h => h, fun _ _ _ h => (nomatch h), by unfold frzEnv; rw [List.length_map]; exact S.len, fun _ => [], fun i cl h => ?_, fun _ _ => rfl, fun _ => List.nodup_nil, fun _ _ _ _ h => nomatch h⟩
  unfold frzEnv at h
  rw [List.getElem?_map] at h
  cases e : env[i]? with
  | none => rw [e] at h; cases h
  | some cl0 =>
    rw [e] at h
    have h' : frzC cl0 = cl := Option.some.inj h
    subst h'
    have see : ∀ d, cl0.view = some d → ∃ v, σ[i]? = some (some v) ∧ Rep K mg (frzP Hs H (FrzA K mg Hs H σ env)) v d := fun d hv => by
      obtain ⟨v, A, g1, g2, g3⟩ := S.seen e hv
      exact ⟨v, g1, g2.rep (frz_same S.s1) fun a ha o q => by rw [frzP_in ⟨i, cl0, d, v, A, e, hv, g1, g2, ha, g3 a ha⟩]; exact q⟩
    cases cl0 with
    | no => rfl
    | sh d => obtain ⟨v, g1, g2⟩ := S.shared e; exact ⟨rfl, v, g1, g2.mono (frz_same S.s1)⟩
    | ow d => obtain ⟨v, g1, g2⟩ := see d rfl; exact ⟨rfl, v, g1, g2⟩
    | io d => obtain ⟨v, g1, g2⟩ := see d rfl; exact ⟨rfl, v, g1, g2⟩
    | al s k => rfl
    | ro d => obtain ⟨v, g1, g2⟩ := see d rfl; exact ⟨rfl, v, g1, g2⟩
/-- OUT: as it was -/
theorem Sta.unf_same {σ' : L2.St} {Hs' H' : Hp} {e' : Env} (S : Sta K mg c Hs H σ env) (S' : Sta K mg (frzCt Hs H (FrzA K mg Hs H σ env)) Hs' H' σ' e') : Same Hs (unfP Hs' (FrzA K mg Hs H σ env)) := fun p o q => by
  have nf : ¬ FrzA K mg Hs H σ env p := fun ⟨_, _, _, _, _, _, _, _, _, _, z⟩ => by rw [z] at q; cases q
  rw [unfP_out nf]
  exact S'.s0 p o (by show frzP Hs H _ p = some o; rw [frzP_out nf]; exact q)
theorem Sta.unf {σ' : L2.St} {Hs' H' : Hp} {e' : Env} (S : Sta K mg c Hs H σ env) (S' : Sta K mg (frzCt Hs H (FrzA K mg Hs H σ env)) Hs' H' σ' e') : Sta K mg c (unfP Hs' (FrzA K mg Hs H σ env)) H' σ env := by
  have sm := S.unf_same S'
  have keep : ∀ a o, H a = some o → H' a = some o := fun a o q => S'.fr a o q (by simp)
  obtain ⟨B, hA, hN, hD, hX⟩ := S.cells
  refine ⟨S.s0.trans sm, fun p o q => ?_, fun p o h q => keep p o (S.fr p o h q), fun p h q w => ?_, fun p h => S'.hh p (S.hh p h), S.ro, S.len, B, fun i cl h => ?_, hN, hD, hX⟩
  · by_cases nf : FrzA K mg Hs H σ env p
    · rw [unfP_in nf] at q; cases q
    · rw [unfP_out nf] at q; exact S'.s1 p o q
  · by_cases nf : FrzA K mg Hs H σ env p
    · rw [unfP_in nf]
    · rw [unfP_out nf]
      exact S'.fh p (by show frzP Hs H _ p = none; rw [frzP_out nf]; exact S.fh p h q w) (S.hh p q) (by simp)
  · have g := hA i cl h
    have un : ∀ v d A, cl.view = some d → σ[i]? = some (some v) → Own K mg Hs H v d A → (∀ a ∈ A, Hs a = none) → ∀ a ∈ A, unfP Hs' (FrzA K mg Hs H σ env) a = none := fun v d A hv h1 h2 h3 a ha => unfP_in ⟨i, cl, d, v, A, h, hv, h1, h2, ha, h3 a ha⟩
    cases cl with
    | no => exact g
    | sh d => obtain ⟨g0, v, g1, g2⟩ := g; exact ⟨g0, v, g1, g2.mono sm⟩
    | ow d =>
      obtain ⟨v, g1, g2, g3⟩ := g
      exact ⟨v, g1, g2.mono sm fun a _ o q => keep a o q, fun a ha => ⟨un v d _ rfl g1 g2 (fun a ha => (g3 a ha).1) a ha, (g3 a ha).2⟩⟩
    | io d =>
      obtain ⟨v, g1, g2, g3, g4⟩ := g
      exact ⟨v, g1, g2.mono sm fun a _ o q => keep a o q, fun a ha => ⟨un v d _ rfl g1 g2 (fun a ha => (g3 a ha).1) a ha, (g3 a ha).2⟩, g4⟩
    | al s k => obtain ⟨g0, v, a, vs, g1, g2, g3, g4⟩ := g; exact ⟨g0, v, a, vs, g1, g2, sm _ _ g3, g4⟩
    | ro d => exact g
/-- an address that stood still holds a list, a dict or an object -/
theorem FrzA.kind {σ' : L2.St} {Hs' H' : Hp} {e' : Env} (S' : Sta K mg (frzCt Hs H (FrzA K mg Hs H σ env)) Hs' H' σ' e') {a : Addr} (h : FrzA K mg Hs H σ env a) : OwnK (H' a) := by
  obtain ⟨i, cl, d, v, A, h1, h2, h3, h4, h5, h6⟩ := h
  rcases h4.kind a h5 with ⟨xs, e⟩ | ⟨xs, e⟩ | ⟨C, dx, ks, e⟩
  · exact .inl ⟨xs, S'.fr a _ e (by simp)⟩
  · exact .inr (.inl ⟨xs, S'.fr a _ e (by simp)⟩)
  · exact .inr (.inr ⟨C, dx, ks, S'.fr a _ e (by simp)⟩)
theorem unf_tup {σ' : L2.St} {Hs' H' : Hp} {e' : Env} (S' : Sta K mg (frzCt Hs H (FrzA K mg Hs H σ env)) Hs' H' σ' e') {a : Addr} {xs : List V} (h : SqT K Hs' a xs) : SqT K (unfP Hs' (FrzA K mg Hs H σ env)) a xs := by
  rcases h with (h | ⟨o, h⟩) | h
  · have nf : ¬ FrzA K mg Hs H σ env a := fun z => by
      have e := S'.s1 a _ h
      rcases FrzA.kind S' z with ⟨xs, q⟩ | ⟨xs, q⟩ | ⟨C, dx, ks, q⟩ <;> rw [e] at q <;> cases q
    exact .inl (.inl (by rw [unfP_out nf]; exact h))
  · have nf : ¬ FrzA K mg Hs H σ env a := fun z => by
      have e := S'.s1 a _ h
      rcases FrzA.kind S' z with ⟨xs, q⟩ | ⟨xs, q⟩ | ⟨C, dx, ks, q⟩ <;> rw [e] at q <;> cases q
    exact .inl (.inr ⟨o, by rw [unfP_out nf]; exact h⟩)
  · exact .inr h
mutual
theorem Rep.thaw {σ' : L2.St} {Hs' H' : Hp} {e' : Env} (S' : Sta K mg (frzCt Hs H (FrzA K mg Hs H σ env)) Hs' H' σ' e') : ∀ {v : V} {d : D}, Rep K mg Hs' v d → thawB d = true → Rep K mg (unfP Hs' (FrzA K mg Hs H σ env)) v d
  | _, _, .non, _ => .non
  | _, _, .bl b, _ => .bl b
  | _, _, .int b, _ => .int b
  | _, _, .str b, _ => .str b
  | _, _, .ty b, _ => .ty b
  | _, _, .cl b, _ => .cl b
  | _, _, .tup h r, t => .tup (unf_tup S' h) (RepL.thaw S' r (by simpa [thawB] using t))
  | _, _, .lst _ _, t => nomatch t
  | _, _, .fl _ _, t => nomatch t
  | _, _, .dk _ _, t => nomatch t
  | _, _, .ob _ _ _ _, t => nomatch t
  | _, _, .mu _, t => nomatch t
  | _, _, .ml _ _, t => nomatch t
  | _, _, .ex _ _, t => nomatch t
  | _, _, .exP _ _ _ _ _, t => nomatch t
theorem RepL.thaw {σ' : L2.St} {Hs' H' : Hp} {e' : Env} (S' : Sta K mg (frzCt Hs H (FrzA K mg Hs H σ env)) Hs' H' σ' e') : ∀ {v : List V} {d : List D}, RepL K mg Hs' v d → thawBs d = true → RepL K mg (unfP Hs' (FrzA K mg Hs H σ env)) v d
  | _, _, .nil, _ => .nil
  | _, _, .cons h r, t => by
    simp only [thawBs, Bool.and_eq_true] at t
    exact .cons (Rep.thaw S' h t.1) (RepL.thaw S' r t.2)
end
def thawX (x : Exn) : Bool := match x.pay with
  | none => true
  | some (_, d) => thawB d
theorem ExnOk.thaw {σ' : L2.St} {Hs' H' : Hp} {e' : Env} (S' : Sta K mg (frzCt Hs H (FrzA K mg Hs H σ env)) Hs' H' σ' e') {x : Exn} {cls : Value} {dd : Option Addr} (h : ExnOk K mg Hs' H' x cls dd) (t : thawX x = true) : ExnOk K mg (unfP Hs' (FrzA K mg Hs H σ env)) H' x cls dd := by
  obtain ⟨C, h1, h2, h3⟩ := h
  refine ⟨C, h1, h2, ?_⟩
  unfold thawX at t
  cases e : x.pay with
  | none => rw [e] at h3; exact h3
  | some p =>
    obtain ⟨f, d⟩ := p
    rw [e] at h3 t
    obtain ⟨p, v, q1, q2, q3⟩ := h3
    have nf : ¬ FrzA K mg Hs H σ env p := fun z => by
      have e := S'.s1 p _ q2
      rcases FrzA.kind S' z with ⟨xs, q⟩ | ⟨xs, q⟩ | ⟨C, dx, ks, q⟩ <;> rw [e] at q <;> cases q
    exact ⟨p, v, q1, by rw [unfP_out nf]; exact q2, q3.thaw S' t⟩
theorem CellOk.unf {σ' : L2.St} {Hs' H' : Hp} {e' : Env} (S : Sta K mg c Hs H σ env) (S' : Sta K mg (frzCt Hs H (FrzA K mg Hs H σ env)) Hs' H' σ' e') {i : Nat} {cl : Cell} {A : List Addr} (h : env[i]? = some cl) (g : CellOk K mg c Hs H σ i cl A) : CellOk K mg c (unfP Hs' (FrzA K mg Hs H σ env)) H' σ i cl A := by
  have sm := S.unf_same S'
  have keep : ∀ a o, H a = some o → H' a = some o := fun a o q => S'.fr a o q (by simp)
  have un : ∀ v d A, cl.view = some d → σ[i]? = some (some v) → Own K mg Hs H v d A → (∀ a ∈ A, Hs a = none) → ∀ a ∈ A, unfP Hs' (FrzA K mg Hs H σ env) a = none := fun v d A hv h1 h2 h3 a ha => unfP_in ⟨i, cl, d, v, A, h, hv, h1, h2, ha, h3 a ha⟩
  cases cl with
  | no => exact g
  | sh d => obtain ⟨g0, v, g1, g2⟩ := g; exact ⟨g0, v, g1, g2.mono sm⟩
  | ow d =>
    obtain ⟨v, g1, g2, g3⟩ := g
    exact ⟨v, g1, g2.mono sm fun a _ o q => keep a o q, fun a ha => ⟨un v d _ rfl g1 g2 (fun a ha => (g3 a ha).1) a ha, (g3 a ha).2⟩⟩
  | io d =>
    obtain ⟨v, g1, g2, g3, g4⟩ := g
    exact ⟨v, g1, g2.mono sm fun a _ o q => keep a o q, fun a ha => ⟨un v d _ rfl g1 g2 (fun a ha => (g3 a ha).1) a ha, (g3 a ha).2⟩, g4⟩
  | al s k => obtain ⟨g0, v, a, vs, g1, g2, g3, g4⟩ := g; exact ⟨g0, v, a, vs, g1, g2, sm _ _ g3, g4⟩
  | ro d => exact g
/-- .. and a new thing beside -/
theorem Sta.unfN {σ' : L2.St} {Hs' H' : Hp} {e' : Env} {v : V} {d : D} {A : List Addr} (S : Sta K mg c Hs H σ env) (S' : Sta K mg (frzCt Hs H (FrzA K mg Hs H σ env)) Hs' H' σ' e') (o : Own K mg (unfP Hs' (FrzA K mg Hs H σ env)) H' v d A)
    (n : ∀ a ∈ A, H a = none ∧ unfP Hs' (FrzA K mg Hs H σ env) a = none) : Sta K mg c (unfP Hs' (FrzA K mg Hs H σ env)) H' (σ ++ [some v]) (env ++ [.ow d]) := by
  have Su := S.unf S'
  obtain ⟨B, hA, hN, hD, hX⟩ := S.cells
  have nB : ∀ j a, a ∈ B j → H a ≠ none := fun j a ha => by
    cases e : env[j]? with
    | none => rw [hN j e] at ha; cases ha
    | some cl => exact ((hA j cl e).has ha).1
  refine ⟨Su.s0, Su.s1, Su.fr, Su.fh, Su.hh, Su.ro, by simp [S.len], fun j => if j = env.length then A else B j, fun j cl h => ?_, fun j h => ?_, fun j => ?_, fun j k hjk a ha => ?_⟩
  · by_cases e : j = env.length
    · subst e
      rw [env_last] at h
      cases h
      show CellOk K mg c _ _ _ env.length (.ow d) (if env.length = env.length then A else B env.length)
      rw [if_pos rfl]
      exact ⟨v, by rw [S.len]; exact sig_last, o, fun a ha => ⟨(n a ha).2, .inr (S.fresh (n a ha).1)⟩⟩
    · have hlt : j < env.length := by
        have := (List.getElem?_eq_some_iff.mp h).1
        simp at this
        omega
      rw [app_lt hlt] at h
      show CellOk K mg c _ _ _ j cl (if j = env.length then A else B j)
      rw [if_neg e]
      exact ((hA j cl h).unf S S' h).of_lt (app_lt (by rw [← S.len]; exact hlt)).symm
  · show (if j = env.length then A else B j) = []
    rw [List.getElem?_eq_none_iff, List.length_append] at h
    have h' : env.length + 1 ≤ j := h
    rw [if_neg (by omega)]
    exact hN j (List.getElem?_eq_none_iff.mpr (by omega))
  · show (if j = env.length then A else B j).Nodup
    split
    · exact o.nodup
    · exact hD j
  · have ha' : a ∈ (if j = env.length then A else B j) := ha
    show a ∉ (if k = env.length then A else B k)
    split at ha'
    · rename_i hj
      rw [if_neg (by omega)]
      exact fun z => nB k a z (n a ha').1
    · split
      · exact fun z => nB j a ha' (n a z).1
      · exact hX j k hjk a ha'
end
/-- a part, while all that is owned stands still -/
def frzM (f : M D) : M D := fun env => match f (frzEnv env) with
  | some (.val d _) => if thawB d = true then some (.val d env) else none
  | some (.exc x _) => if thawX x = true then some (.exc x env) else none
  | none => none
def frzT (f : M Bool) : M Bool := fun env => match f (frzEnv env) with
  | some (.val d _) => some (.val d env)
  | some (.exc x _) => if thawX x = true then some (.exc x env) else none
  | none => none
def thawN : D → Bool
  | .lst ds => thawBs ds
  | _ => false
def frzN (f : M D) : M D := fun env => match f (frzEnv env) with
  | some (.val d _) => if thawN d = true then some (.val d env) else none
  | some (.exc x _) => if thawX x = true then some (.exc x env) else none
  | none => none
section
variable {X : Cx} {e : Expr} {W : WX}
theorem e_fz {f : M D} (h : E' X W e f) : E' X W e (frzM f) := h.mono fun σ H Q q => by
  obtain ⟨c, Hs, env, S, q⟩ := q
  refine ⟨_, _, _, S.fzz, ?_⟩
  unfold frzM at q
  cases e1 : f (frzEnv env) with
  | none => rw [e1] at q; exact q
  | some o =>
    rw [e1] at q
    cases o with
    | val d e2 =>
      have q' : Wp X.K X.mg W c σ Hs (if thawB d = true then some (Out.val d env) else none) fun d _ Hs' H' => ∀ v, Rep X.K X.mg Hs' v d → Q v H' := q
      split at q'
      · rename_i ht
        intro Hs' H' S' z v r
        exact q' _ H' (S.unf S') (S.unf_same S') v (r.thaw S' ht)
      · exact q'.elim
    | exc x e2 =>
      have q' : Wp X.K X.mg W c σ Hs (if thawX x = true then some (Out.exc x env) else none) fun d _ Hs' H' => ∀ v, Rep X.K X.mg Hs' v d → Q v H' := q
      split at q'
      · rename_i ht
        intro Hs' H' cls dd S' z ok
        exact q' _ H' cls dd (S.unf S') (S.unf_same S') (ok.thaw S' ht)
      · exact q'.elim
theorem t_fz {f : M Bool} (h : T' X W e f) : T' X W e (frzT f) := h.mono fun σ H Q q => by
  obtain ⟨c, Hs, env, S, q⟩ := q
  refine ⟨_, _, _, S.fzz, ?_⟩
  unfold frzT at q
  cases e1 : f (frzEnv env) with
  | none => rw [e1] at q; exact q
  | some o =>
    rw [e1] at q
    cases o with
    | val d e2 =>
      intro Hs' H' S' z
      exact q _ H' (S.unf S') (S.unf_same S')
    | exc x e2 =>
      have q' : Wp X.K X.mg W c σ Hs (if thawX x = true then some (Out.exc x env) else none) fun b _ _ H' => Q b H' := q
      split at q'
      · rename_i ht
        intro Hs' H' cls dd S' z ok
        exact q' _ H' cls dd (S.unf S') (S.unf_same S') (ok.thaw S' ht)
      · exact q'.elim
theorem n_fz {f : M D} (h : N' X W e f) : N' X W e (frzN f) := h.mono fun σ H Q q => by
  obtain ⟨c, Hs, env, S, q⟩ := q
  refine ⟨_, _, _, S.fzz, ?_⟩
  unfold frzN at q
  cases e1 : f (frzEnv env) with
  | none => rw [e1] at q; exact q
  | some o =>
    rw [e1] at q
    cases o with
    | val d e2 =>
      have q' : WpN X.K X.mg W c σ Hs (if thawN d = true then some (Out.val d env) else none) Q := q
      split at q'
      · rename_i ht
        intro Hs' H' v S2 z
        have S' := S2.drop
        have hl : e2.length = σ.length := S'.len
        obtain ⟨B, hA, hN, hD, hX⟩ := S2.cells
        obtain ⟨v', q1, q2, q3⟩ := hA e2.length (.ow d) env_last
        rw [hl, sig_last] at q1
        cases q1
        cases d with
        | lst ds =>
          generalize B e2.length = A at q2 q3
          cases q2 with
          | @lst a xs _ h r =>
            refine q' _ H' _ (S.unfN S' (.lst h (r.thaw S' ht)) fun b hb => ?_) (S.unf_same S')
            obtain ⟨g1, g2⟩ := q3 b hb
            have hn : H b = none := by
              rcases g2 with g2 | g2
              · cases g2
              · exact g2
            refine ⟨hn, ?_⟩
            by_cases nf : FrzA X.K X.mg Hs H σ env b
            · exact unfP_in nf
            · rw [unfP_out nf]; exact g1
        | _ => cases ht
      · exact q'.elim
    | exc x e2 =>
      have q' : WpN X.K X.mg W c σ Hs (if thawX x = true then some (Out.exc x env) else none) Q := q
      split at q'
      · rename_i ht
        intro Hs' H' cls dd S' z ok
        exact q' _ H' cls dd (S.unf S') (S.unf_same S') (ok.thaw S' ht)
      · exact q'.elim
end
end NK

set_option Elab.async false
set_option linter.all false
set_option maxRecDepth 100000
set_option maxHeartbeats 4000000
namespace NK
open PySem PySem.Spec PyProof.Rows L2

/-! ### a part of an owned tree is changed -/
section
variable {K : PySem.W.Frag} {mg : Str → Option Value} {W : WX} {c : Ct} {σ : L2.St} {Hs H : Hp} {env : Env}
/-- what a change of an owned part may do to the heap -/
structure Chg (H H' : Hp) (B B' : List Addr) : Prop where
  k : ∀ p o, p ∉ B → H p = some o → H' p = some o
  h : ∀ p, H p ≠ none → H' p ≠ none
  f : ∀ a ∈ B', a ∈ B ∨ H a = none
theorem OwnF.upd {f : Str} {d0 : D} : ∀ {ks : List (Str × V)} {ds : List (Str × D)} {A : List Addr}, OwnF K mg Hs H ks ds A → ds.lookup f = some (.mu d0) →
    ∃ y B, ks.lookup f = some y ∧ Own K mg Hs H y d0 B ∧ (∀ a ∈ B, a ∈ A) ∧ ∀ H' d1 B', Own K mg Hs H' y d1 B' → Chg H H' B B' → ∃ A', OwnF K mg Hs H' ks (putFD f (.mu d1) ds) A' ∧ ∀ a ∈ A', a ∈ A ∨ H a = none
  | _, _, _, .nil, h => by cases h
  | _, _, _, .sh (k := k) (v := v) (d := d) (vs := vs) (ds := ds) n r t, h => by
    rw [List.lookup_cons] at h
    cases e : f == k with
    | true =>
      rw [e] at h
      have h' : d = .mu d0 := Option.some.inj h
      subst h'; cases n
    | false =>
      rw [e] at h
      obtain ⟨y, B, h1, h2, h3, h4⟩ := OwnF.upd t h
      refine ⟨y, B, by rw [List.lookup_cons, e]; exact h1, h2, h3, fun H' d1 B' o ch => ?_⟩
      obtain ⟨A', o', s⟩ := h4 H' d1 B' o ch
      have hk : k ≠ f := fun z => by subst z; simp at e
      refine ⟨A', ?_, s⟩
      show OwnF K mg Hs H' ((k, v) :: vs) (if k = f then (k, .mu d1) :: ds else (k, d) :: putFD f (.mu d1) ds) A'
      rw [if_neg hk]
      exact .sh n r o'
  | _, _, _, .mu (k := k) (v := v) (d := d2) (vs := vs) (ds := ds) (B := C) (A := A) r t n, h => by
    rw [List.lookup_cons] at h
    cases e : f == k with
    | true =>
      rw [e] at h
      have h' : D.mu d2 = .mu d0 := Option.some.inj h
      cases h'
      refine ⟨v, C, by rw [List.lookup_cons, e], r, fun a ha => List.mem_append_left _ ha, fun H' d1 B' o ch => ?_⟩
      have hk : k = f := (beq_iff_eq.mp e).symm
      refine ⟨B' ++ A, ?_, fun a ha => ?_⟩
      · show OwnF K mg Hs H' ((k, v) :: vs) (if k = f then (k, .mu d1) :: ds else (k, .mu d0) :: putFD f (.mu d1) ds) (B' ++ A)
        rw [if_pos hk]
        refine .mu o (t.mono (Same.refl _) fun a ha o q => ch.k a o (fun z => n a z ha) q) fun a ha z => ?_
        rcases ch.f a ha with w | w
        · exact n a w z
        · exact t.has a z w
      · rcases List.mem_append.mp ha with ha | ha
        · rcases ch.f a ha with w | w
          · exact .inl (List.mem_append_left _ w)
          · exact .inr w
        · exact .inl (List.mem_append_right _ ha)
    | false =>
      rw [e] at h
      obtain ⟨y, B, h1, h2, h3, h4⟩ := OwnF.upd t h
      refine ⟨y, B, by rw [List.lookup_cons, e]; exact h1, h2, fun a ha => List.mem_append_right _ (h3 a ha), fun H' d1 B' o ch => ?_⟩
      obtain ⟨A', o', s⟩ := h4 H' d1 B' o ch
      have hk : k ≠ f := fun z => by subst z; simp at e
      refine ⟨C ++ A', ?_, fun a ha => ?_⟩
      · show OwnF K mg Hs H' ((k, v) :: vs) (if k = f then (k, .mu d1) :: ds else (k, .mu d2) :: putFD f (.mu d1) ds) (C ++ A')
        rw [if_neg hk]
        refine .mu (r.mono (Same.refl _) fun a ha o q => ch.k a o (fun z => n a ha (h3 a z)) q) o' fun a ha z => ?_
        rcases s a z with w | w
        · exact n a ha w
        · exact r.has a ha w
      · rcases List.mem_append.mp ha with ha | ha
        · exact .inl (List.mem_append_left _ ha)
        · rcases s a ha with w | w
          · exact .inl (List.mem_append_right _ w)
          · exact .inr w
/-- a field that a slot's object owns -/
theorem Sta.ownFld {i : Nat} {cl : Cell} {cn f : Str} {fs : List (Str × D)} {d0 : D} (S : Sta K mg c Hs H σ env) (h : env[i]? = some cl) (ho : cl.own = some (.ob cn fs)) (hf : fs.lookup f = some (.mu d0)) :
    ∃ a C dx ks y B, σ[i]? = some (some (.ref a)) ∧ H a = some (.ins C dx ks) ∧ Cls K C ∧ NoAttr K C f ∧ ks.lookup f = some y ∧ Own K mg Hs H y d0 B ∧
      ∀ H' d1 B', Own K mg Hs H' y d1 B' → Chg H H' B B' → Sta K mg c Hs H' σ (env.set i (cl.put (.ob cn (putFD f (.mu d1) fs)))) := by
  obtain ⟨v, A, g1, o, g3, k⟩ := S.owned h ho
  cases o with
  | @ob a C dx _ ks _ A g t hh rf na =>
    obtain ⟨y, B, h1, h2, h3, h4⟩ := rf.upd hf
    refine ⟨a, C, dx, ks, y, B, g1, hh, t.1, t.2 f (by rw [h1]; simp), h1, h2, fun H' d1 B' o ch => ?_⟩
    obtain ⟨A', o', s⟩ := h4 H' d1 B' o ch
    have hn : H a ≠ none := by rw [hh]; simp
    have na' : a ∉ A' := fun z => by
      rcases s a z with w | w
      · exact na w
      · exact hn w
    refine k _ _ (a :: A') (.ob g t (ch.k a _ (fun z => na (h3 a z)) hh) o' na') (fun p o hp e => ch.k p o (fun z => hp (List.mem_cons_of_mem _ (h3 p z))) e) ch.h fun b hb => ?_
    rcases List.mem_cons.mp hb with e | e
    · exact .inl (by rw [e]; simp)
    · rcases s b e with w | w
      · exact .inl (List.mem_cons_of_mem _ w)
      · exact .inr w
theorem Chg.one {a : Addr} {o : HO} (h : H a ≠ none) : Chg H (upd H a o) [a] [a] := ⟨fun p o hp e => by rw [upd_ne (by simpa using hp)]; exact e, fun p hp => by
    by_cases e : p = a
    · subst e; rw [upd_same]; simp
    · rw [upd_ne e]; exact hp, fun b hb => .inl hb⟩
/-- the list in a field of a slot's own object -/
def viewFL (i : Nat) (f : Str) (e : Env) : Option (Str × List (Str × D) × List D) := match viewO i e with
  | some (c, fs) => (match fs.lookup f with | some (.mu (.lst xs)) => some (c, fs, xs) | _ => none)
  | none => none
theorem viewFL_of {i : Nat} {f cn : Str} {fs : List (Str × D)} {xs : List D} (h : viewFL i f env = some (cn, fs, xs)) : ∃ cl, env[i]? = some cl ∧ cl.own = some (.ob cn fs) ∧ fs.lookup f = some (.mu (.lst xs)) := by
  unfold viewFL at h
  split at h
  · rename_i c' fs' hv
    split at h
    · rename_i xs' hl
      cases h
      obtain ⟨cl, h1, h2⟩ := viewO_of hv
      exact ⟨cl, h1, h2, hl⟩
    · cases h
  · cases h
end
section
variable {X : Cx} {e o : Expr} {es : List Expr} {pos apos : Pos} {W : WX}
/-- a value of a part, while all that is owned stands still; and what it stood on -/
theorem fz_keep {K : PySem.W.Frag} {mg : Str → Option Value} {c : Ct} {Hs H : Hp} {σ : L2.St} {env : Env} (S : Sta K mg c Hs H σ env) {fa : M D} {P : VK}
    (q : match fa (frzEnv env) with
      | some (.val d _) => thawB d = true ∧ ∀ Hs' H' v, Sta K mg c Hs' H' σ env → Same Hs Hs' → Same H H' → Rep K mg Hs' v d → P v H'
      | some (.exc x _) => thawX x = true ∧ ∀ Hs' H' cls dd, Sta K mg c Hs' H' σ env → Same Hs Hs' → ExnOk K mg Hs' H' x cls dd → W cls dd σ H'
      | none => False) : vE K mg W fa σ H P := by
  refine ⟨_, _, _, S.fzz, ?_⟩
  cases e1 : fa (frzEnv env) with
  | none => rw [e1] at q; exact q
  | some o =>
    rw [e1] at q
    cases o with
    | val d e2 => exact fun Hs' H' S' z v r => q.2 _ H' v (S.unf S') (S.unf_same S') (fun a o h => S'.fr a o h (by simp)) (r.thaw S' q.1)
    | exc x e2 => exact fun Hs' H' cls dd S' z ok => q.2 _ H' cls dd (S.unf S') (S.unf_same S') (ok.thaw S' q.1)
/-- o.f.append(e), o a slot's own object -/
def appFM (i : Nat) (f : Str) (fa : M D) : M D := fun env => match viewFL i f env with
  | some (c, fs, xs) => (match fa (frzEnv env) with
    | some (.val d _) => if thawB d = true ∧ xs.length < 1000000 then (putO i c (putFD f (.mu (.lst (xs ++ [d]))) fs) env).map (.val .non) else none
    | some (.exc x _) => if thawX x = true then some (.exc x env) else none
    | none => none)
  | none => none
theorem e_appF {i : Nat} {f : Str} {fa : M D} (h : PE X e (tBM X.K "list" rAppend (tFld X.K (tVar i) f) (tCons (vE X.K X.mg W fa) tNil))) : E' X W e (appFM i f fa) := h.mono fun σ H Q q => by
  obtain ⟨c, Hs, env, S, q⟩ := q
  unfold appFM at q
  split at q
  · rename_i cn fs xs hv
    obtain ⟨cl, h1, h2, h3⟩ := viewFL_of hv
    obtain ⟨a, C, dx, ks, y, B, g1, g2, g3, g4, g5, g6, _⟩ := S.ownFld h1 h2 h3
    cases g6 with
    | @lst b ys _ hb rb =>
      refine ⟨.ref a, g1, a, C, dx, ks, .ref b, rfl, g2, g3, g4, g5, .inl ⟨rfl, ys, SqL.of hb⟩, fz_keep S ?_⟩
      split at q
      · rename_i d e2 he
        split at q
        · rename_i hc
          refine ⟨hc.1, fun Hs' H' v S' z zh r => ?_⟩
          obtain ⟨a', C', dx', ks', y', B', g1', g2', g3', g4', g5', g6', k⟩ := S'.ownFld h1 h2 h3
          rw [g1] at g1'; cases g1'
          rw [zh _ _ g2] at g2'; cases g2'
          rw [g5] at g5'; cases g5'
          cases g6' with
          | @lst _ zs _ hb' rb' =>
            refine ⟨b, zs, v, rfl, rfl, hb', by rw [rb'.len]; exact small_lt hc.2, ?_⟩
            have hp : putO i cn (putFD f (.mu (.lst (xs ++ [d]))) fs) env = some (env.set i (cl.put (.ob cn (putFD f (.mu (.lst (xs ++ [d]))) fs)))) := by unfold putO; rw [h1]
            rw [hp] at q
            exact q Hs' _ (k _ _ [b] (.lst upd_same (rb'.app (.one r))) (Chg.one (by rw [hb']; simp))) z _ .non
        · exact q.elim
      · rename_i x e2 he
        split at q
        · rename_i hc
          exact ⟨hc, fun Hs' H' cls dd S' z ok => q Hs' H' cls dd S' z ok⟩
        · exact q.elim
      · exact q.elim
  · exact q.elim
end
end NK

set_option Elab.async false
set_option linter.all false
set_option maxRecDepth 100000
set_option maxHeartbeats 4000000
namespace NK
open PySem PySem.Spec PyProof.Rows L2

/-! ### methods of a slot's own object -/
def methOM (c m : Str) (F : Fn) (np i : Nat) (h : M (List Arg)) : M D := fun env => match viewO i env with
  | some (c', fs) => if c' = c ∧ fs.lookup m = none then bindM h (fun as => endE F np (.own i :: as)) env else none
  | none => none
def methON (c m : Str) (F : Fn) (np i : Nat) (h : M (List Arg)) : M D := fun env => match viewO i env with
  | some (c', fs) => if c' = c ∧ fs.lookup m = none then bindM h (fun as => endN F np (.own i :: as)) env else none
  | none => none
section
variable {K : PySem.W.Frag} {mg : Str → Option Value} {W : WX} {C : Addr} {c m : Str} {F : Fn} {np i : Nat} {h : M (List Arg)} {σ : L2.St} {H : Hp} {Q : VK}
theorem tMethO_of (hC : mg c = some (.ref C)) (q : vE K mg W (methOM c m F np i h) σ H Q) : tMethS C m (vF K mg F np) (WE W) (tVar i) (vA K mg W h) σ H Q := by
  obtain ⟨ct, Hs, env, S, q⟩ := q
  unfold methOM at q
  split at q
  · rename_i c' fs hv
    split at q
    · rename_i hc
      obtain ⟨rfl, hn⟩ := hc
      obtain ⟨cl, h1, h2⟩ := viewO_of hv
      obtain ⟨a, C', dx, ks, g1, g2, g3, g4, g5, g6, g7, _⟩ := S.ownO h1 h2
      rw [hC] at g2; cases g2
      refine ⟨.ref a, g1, a, dx, ks, rfl, g4, g6 m hn, ct, Hs, env, S, (Wp.bind q).weak fun as e2 Hs2 H2 s2 z2 w2 vs ra => ?_⟩
      exact vF_E (as := .own i :: as) w2.1 (.cons (show ArgOk K mg Hs2 σ (.ref a) (.own i) from g1) ra) w2.2
    · exact q.elim
  · exact q.elim
theorem tMethON_of (hC : mg c = some (.ref C)) (q : vN K mg W (methON c m F np i h) σ H Q) : tMethS C m (vF K mg F np) (WE W) (tVar i) (vA K mg W h) σ H Q := by
  obtain ⟨ct, Hs, env, S, q⟩ := q
  unfold methON at q
  split at q
  · rename_i c' fs hv
    split at q
    · rename_i hc
      obtain ⟨rfl, hn⟩ := hc
      obtain ⟨cl, h1, h2⟩ := viewO_of hv
      obtain ⟨a, C', dx, ks, g1, g2, g3, g4, g5, g6, g7, _⟩ := S.ownO h1 h2
      rw [hC] at g2; cases g2
      refine ⟨.ref a, g1, a, dx, ks, rfl, g4, g6 m hn, ct, Hs, env, S, (WpN.bind q).weak fun as e2 Hs2 H2 s2 z2 w2 vs ra => ?_⟩
      exact vF_N (as := .own i :: as) w2.1 (.cons (show ArgOk K mg Hs2 σ (.ref a) (.own i) from g1) ra) w2.2
    · exact q.elim
  · exact q.elim
end
section
variable {X : Cx} {e o : Expr} {es : List Expr} {st : Stmt} {pos apos : Pos} {W : WX} {c m : Str} {F : Fn} {np k i : Nat} {h : M (List Arg)} {pl : Sem Bool}
theorem e_methO (T : Mth X.prog X.w X.K X.mg X.base c m k F np) (hm : ∃ C, X.mg c = some (.ref C)) (hr : Room k X.A) (tk : Takes X W) (ho : PE X o (tVar i)) (ha : A' X W (e :: es) h)
    (hst : starEach (e :: es) X.env = (false, eval e X.env) :: starEach es X.env := by rfl) (hpl : (backTo pos (starEach es X.env)).any (·.1) = false := by rfl)
    (ht : eval (.Call (.Attribute o m apos) (e :: es) [] pos) X.env = (do
      let ov ← eval o X.env
      standAt apos.atName
      let (f, first) ← holding [ov] (getMethod ov m pl)
      callWith pos f first (backTo pos (starEach (e :: es) X.env)) (backToKw pos (keywordEach [] X.env))) := by rfl) : E' X W (.Call (.Attribute o m apos) (e :: es) [] pos) (methOM c m F np i h) := by
  obtain ⟨C, hC⟩ := hm
  obtain ⟨f, fd, ps, c1, c2, b, G⟩ := T.ex C hC
  exact (pe_methS (pl := pl) ho c1 c2 G hr b (fun σ => passW tk σ) ha hst hpl ht).mono fun _ _ _ q => tMethO_of hC q
theorem tVar_mono : ∀ {σ : L2.St} {H : Hp} (P P' : VK), (∀ v H, P v H → P' v H) → tVar i σ H P → tVar i σ H P' := fun P P' k ⟨v, h, q⟩ => ⟨v, h, k _ _ q⟩
theorem e_methO0 (T : Mth X.prog X.w X.K X.mg X.base c m k F np) (hm : ∃ C, X.mg c = some (.ref C)) (hr : Room k X.A) (tk : Takes X W) (ho : PE X o (tVar i))
    (ht : eval (.Call (.Attribute o m apos) [] [] pos) X.env = (do
      let ov ← eval o X.env
      standAt apos.atName
      let (f, first) ← holding [ov] (getMethod ov m pl)
      callWith pos f first (backTo pos (starEach [] X.env)) (backToKw pos (keywordEach [] X.env))) := by rfl) : E' X W (.Call (.Attribute o m apos) [] [] pos) (methOM c m F np i nilM) := by
  obtain ⟨C, hC⟩ := hm
  obtain ⟨f, fd, ps, c1, c2, b, G⟩ := T.ex C hC
  exact (pe_methS0 (pl := pl) ho c1 c2 G hr b (fun σ => passW tk σ) ht).mono fun _ _ _ q => tMethS.mono0 (fun _ _ _ q => vA_nil q) tVar_mono (tMethO_of hC q)
theorem n_methO0 (T : Mth X.prog X.w X.K X.mg X.base c m k F np) (hm : ∃ C, X.mg c = some (.ref C)) (hr : Room k X.A) (tk : Takes X W) (ho : PE X o (tVar i))
    (ht : eval (.Call (.Attribute o m apos) [] [] pos) X.env = (do
      let ov ← eval o X.env
      standAt apos.atName
      let (f, first) ← holding [ov] (getMethod ov m pl)
      callWith pos f first (backTo pos (starEach [] X.env)) (backToKw pos (keywordEach [] X.env))) := by rfl) : N' X W (.Call (.Attribute o m apos) [] [] pos) (methON c m F np i nilM) := by
  obtain ⟨C, hC⟩ := hm
  obtain ⟨f, fd, ps, c1, c2, b, G⟩ := T.ex C hC
  exact (pe_methS0 (pl := pl) ho c1 c2 G hr b (fun σ => passW tk σ) ht).mono fun _ _ _ q => tMethS.mono0 (fun _ _ _ q => vA_nil q) tVar_mono (tMethON_of hC q)
end

/-! ### a list that owns lists -/
section
variable {K : PySem.W.Frag} {mg : Str → Option Value} {W : WX} {c : Ct} {σ : L2.St} {Hs H : Hp} {env : Env}
theorem OwnL.len : ∀ {ks : List V} {ds : List D} {A : List Addr}, OwnL K mg Hs H ks ds A → ks.length = ds.length
  | _, _, _, .nil => rfl
  | _, _, _, .sh _ _ t => by rw [List.length_cons, List.length_cons, t.len]
  | _, _, _, .mu _ t _ => by rw [List.length_cons, List.length_cons, t.len]
theorem OwnL.upd {d0 : D} : ∀ {n : Nat} {ks : List V} {ds : List D} {A : List Addr}, OwnL K mg Hs H ks ds A → ds[n]? = some (.mu d0) →
    ∃ y B, ks[n]? = some y ∧ Own K mg Hs H y d0 B ∧ (∀ a ∈ B, a ∈ A) ∧ ∀ H' d1 B', Own K mg Hs H' y d1 B' → Chg H H' B B' → ∃ A', OwnL K mg Hs H' ks (ds.set n (.mu d1)) A' ∧ ∀ a ∈ A', a ∈ A ∨ H a = none
  | _, _, _, _, .nil, h => by simp at h
  | 0, _, _, _, .sh (d := d) n r t, h => by
    have h' : d = .mu d0 := by simpa using h
    subst h'; cases n
  | n + 1, _, _, _, .sh (v := v) (d := d) (vs := vs) (ds := ds) nm r t, h => by
    obtain ⟨y, B, h1, h2, h3, h4⟩ := OwnL.upd (n := n) t (by simpa using h)
    refine ⟨y, B, by simpa using h1, h2, h3, fun H' d1 B' o ch => ?_⟩
    obtain ⟨A', o', s⟩ := h4 H' d1 B' o ch
    exact ⟨A', .sh nm r o', s⟩
  | 0, _, _, _, .mu (v := v) (d := d2) (vs := vs) (ds := ds) (B := C) (A := A) r t n, h => by
    have h' : d2 = d0 := by simpa using h
    subst h'
    refine ⟨v, C, rfl, r, fun a ha => List.mem_append_left _ ha, fun H' d1 B' o ch => ?_⟩
    refine ⟨B' ++ A, .mu o (t.mono (Same.refl _) fun a ha o q => ch.k a o (fun z => n a z ha) q) fun a ha z => ?_, fun a ha => ?_⟩
    · rcases ch.f a ha with w | w
      · exact n a w z
      · exact t.has a z w
    · rcases List.mem_append.mp ha with ha | ha
      · rcases ch.f a ha with w | w
        · exact .inl (List.mem_append_left _ w)
        · exact .inr w
      · exact .inl (List.mem_append_right _ ha)
  | i + 1, _, _, _, .mu (v := v) (d := d2) (vs := vs) (ds := ds) (B := C) (A := A) r t n, h => by
    obtain ⟨y, B, h1, h2, h3, h4⟩ := OwnL.upd (n := i) t (by simpa using h)
    refine ⟨y, B, by simpa using h1, h2, fun a ha => List.mem_append_right _ (h3 a ha), fun H' d1 B' o ch => ?_⟩
    obtain ⟨A', o', s⟩ := h4 H' d1 B' o ch
    refine ⟨C ++ A', .mu (r.mono (Same.refl _) fun a ha o q => ch.k a o (fun z => n a ha (h3 a z)) q) o' fun a ha z => ?_, fun a ha => ?_⟩
    · rcases s a z with w | w
      · exact n a ha w
      · exact r.has a ha w
    · rcases List.mem_append.mp ha with ha | ha
      · exact .inl (List.mem_append_left _ ha)
      · rcases s a ha with w | w
        · exact .inl (List.mem_append_right _ w)
        · exact .inr w
theorem OwnL.setS {y : V} {d : D} (hd : d.isMu = false) (ry : Rep K mg Hs y d) : ∀ {n : Nat} {ks : List V} {ds : List D} {A : List Addr}, OwnL K mg Hs H ks ds A → ∃ A', OwnL K mg Hs H (ks.set n y) (ds.set n d) A' ∧ ∀ a ∈ A', a ∈ A
  | _, _, _, _, .nil => ⟨[], .nil, fun a h => h⟩
  | 0, _, _, _, .sh n r t => ⟨_, .sh hd ry t, fun a h => h⟩
  | n + 1, _, _, _, .sh nm r t => by
    obtain ⟨A', o, s⟩ := OwnL.setS hd ry (n := n) t
    exact ⟨A', .sh nm r o, s⟩
  | 0, _, _, _, .mu r t n => ⟨_, .sh hd ry t, fun a h => List.mem_append_right _ h⟩
  | i + 1, _, _, _, .mu (B := B) (A := A) r t n => by
    obtain ⟨A', o, s⟩ := OwnL.setS hd ry (n := i) t
    refine ⟨B ++ A', .mu r o fun a ha z => n a ha (s a z), fun a h => ?_⟩
    rcases List.mem_append.mp h with h | h
    · exact List.mem_append_left _ h
    · exact List.mem_append_right _ (s a h)
theorem OwnL.setM {y : V} {d : D} {C : List Addr} (ry : Own K mg Hs H y d C) : ∀ {n : Nat} {ks : List V} {ds : List D} {A : List Addr}, OwnL K mg Hs H ks ds A → (∀ a ∈ C, a ∉ A) → ∃ A', OwnL K mg Hs H (ks.set n y) (ds.set n (.mu d)) A' ∧ ∀ a ∈ A', a ∈ A ∨ a ∈ C
  | _, _, _, _, .nil, _ => ⟨[], .nil, fun a h => nomatch h⟩
  | 0, _, _, _, .sh (A := A) n r t, nc => ⟨C ++ A, .mu ry t nc, fun a h => (List.mem_append.mp h).symm⟩
  | n + 1, _, _, _, .sh nm r t, nc => by
    obtain ⟨A', o, s⟩ := OwnL.setM ry (n := n) t nc
    exact ⟨A', .sh nm r o, s⟩
  | 0, _, _, _, .mu (B := B) (A := A) r t n, nc => ⟨C ++ A, .mu ry t fun a h z => nc a h (List.mem_append_right _ z), fun a h => by
      rcases List.mem_append.mp h with h | h
      · exact .inr h
      · exact .inl (List.mem_append_right _ h)⟩
  | i + 1, _, _, _, .mu (B := B) (A := A) r t n, nc => by
    obtain ⟨A', o, s⟩ := OwnL.setM ry (n := i) t fun a h z => nc a h (List.mem_append_right _ z)
    refine ⟨B ++ A', .mu r o fun a ha z => ?_, fun a h => ?_⟩
    · rcases s a z with q | q
      · exact n a ha q
      · exact nc a q (List.mem_append_left _ ha)
    · rcases List.mem_append.mp h with h | h
      · exact .inl (List.mem_append_left _ h)
      · rcases s a h with q | q
        · exact .inl (List.mem_append_right _ q)
        · exact .inr q
/-- the list of lists that a slot owns -/
def viewM (i : Nat) (e : Env) : Option (List D) := match e[i]? with
  | some cl => (match cl.own with | some (.ml ds) => some ds | _ => none)
  | none => none
def putM (i : Nat) (ds : List D) (e : Env) : Option Env := match e[i]? with
  | some cl => some (e.set i (cl.put (.ml ds)))
  | none => none
theorem viewM_of {i : Nat} {ds : List D} (h : viewM i env = some ds) : ∃ cl, env[i]? = some cl ∧ cl.own = some (.ml ds) := by
  unfold viewM at h
  split at h
  · rename_i cl hc
    split at h
    · rename_i ds' ho
      cases h
      exact ⟨cl, hc, ho⟩
    · cases h
  · cases h
theorem Sta.ownM {i : Nat} {cl : Cell} {ds : List D} (S : Sta K mg c Hs H σ env) (h : env[i]? = some cl) (ho : cl.own = some (.ml ds)) :
    ∃ a xs, σ[i]? = some (some (.ref a)) ∧ H a = some (.lst xs) ∧ xs.length = ds.length ∧
      (∀ n d0, ds[n]? = some (.mu d0) → ∃ y B, xs[n]? = some y ∧ Own K mg Hs H y d0 B ∧ ∀ H' d1 B', Own K mg Hs H' y d1 B' → Chg H H' B B' → Sta K mg c Hs H' σ (env.set i (cl.put (.ml (ds.set n (.mu d1)))))) ∧
      ∀ n y d, d.isMu = false → Rep K mg Hs y d → Sta K mg c Hs (upd H a (.lst (xs.set n y))) σ (env.set i (cl.put (.ml (ds.set n d)))) := by
  obtain ⟨v, A, g1, o, g3, k⟩ := S.owned h ho
  cases o with
  | @ml a xs _ A hh rl na =>
    refine ⟨a, xs, g1, hh, rl.len, fun n d0 hn => ?_, fun n y d hd ry => ?_⟩
    · obtain ⟨y, B, h1, h2, h3, h4⟩ := rl.upd hn
      refine ⟨y, B, h1, h2, fun H' d1 B' o ch => ?_⟩
      obtain ⟨A', o', s⟩ := h4 H' d1 B' o ch
      have hn : H a ≠ none := by rw [hh]; simp
      have na' : a ∉ A' := fun z => by
        rcases s a z with w | w
        · exact na w
        · exact hn w
      refine k _ _ (a :: A') (.ml (ch.k a _ (fun z => na (h3 a z)) hh) o' na') (fun p o hp e => ch.k p o (fun z => hp (List.mem_cons_of_mem _ (h3 p z))) e) ch.h fun b hb => ?_
      rcases List.mem_cons.mp hb with e | e
      · exact .inl (by rw [e]; simp)
      · rcases s b e with w | w
        · exact .inl (List.mem_cons_of_mem _ w)
        · exact .inr w
    · obtain ⟨A', o', s⟩ := rl.setS (n := n) hd ry
      have na' : a ∉ A' := fun z => na (s a z)
      refine k _ _ (a :: A') (.ml upd_same (o'.mono (Same.refl _) fun b hb o q => ?_) na') (fun p o hp e => ?_) (fun p hp => ?_) (fun b hb => ?_)
      · rw [upd_ne (fun e : b = a => na' (by rw [← e]; exact hb))]; exact q
      · rw [upd_ne (fun e => hp (by rw [e]; simp))]; exact e
      · by_cases e : p = a
        · subst e; rw [upd_same]; simp
        · rw [upd_ne e]; exact hp
      · rcases List.mem_cons.mp hb with e | e
        · exact .inl (by rw [e]; simp)
        · exact .inl (List.mem_cons_of_mem _ (s b e))
theorem Sta.ownM2 {i : Nat} {cl : Cell} {ds : List D} {y : V} {d : D} (S : Sta K mg c Hs H (σ ++ [some y]) (env ++ [.ow d])) (h : env[i]? = some cl) (ho : cl.own = some (.ml ds)) :
    ∃ a xs, σ[i]? = some (some (.ref a)) ∧ H a = some (.lst xs) ∧ xs.length = ds.length ∧ ∀ n, Sta K mg c Hs (upd H a (.lst (xs.set n y))) σ (env.set i (cl.put (.ml (ds.set n (.mu d))))) := by
  obtain ⟨v, A, A2, g1, o, o2, nd, k⟩ := S.owned2 h ho
  cases o with
  | @ml a xs _ A hh rl na =>
    refine ⟨a, xs, g1, hh, rl.len, fun n => ?_⟩
    obtain ⟨A', o', s⟩ := rl.setM (n := n) o2 (fun b hb z => nd b (List.mem_cons_of_mem _ z) hb)
    have na' : a ∉ A' := fun z => by
      rcases s a z with q | q
      · exact na q
      · exact nd a (by simp) q
    refine k _ _ (a :: A') (.ml upd_same (o'.mono (Same.refl _) fun b hb o q => ?_) na') (fun p o hp e => ?_) (fun p hp => ?_) (fun b hb => ?_)
    · rw [upd_ne (fun e : b = a => na' (by rw [← e]; exact hb))]; exact q
    · rw [upd_ne (fun e => hp (by rw [e]; simp))]; exact e
    · by_cases e : p = a
      · subst e; rw [upd_same]; simp
      · rw [upd_ne e]; exact hp
    · rcases List.mem_cons.mp hb with e | e
      · exact .inl (by rw [e]; simp)
      · rcases s b e with q | q
        · exact .inl (List.mem_cons_of_mem _ q)
        · exact .inr q
end
end NK

set_option Elab.async false
set_option linter.all false
set_option maxRecDepth 100000
set_option maxHeartbeats 4000000
namespace NK
open PySem PySem.Spec PyProof.Rows L2

/-! ### a list that owns lists: read, changed, made -/
def ixMD : D → D → Option D
  | .ml xs, .int i => (atI xs i).map unmu
  | _, _ => none
section
variable {K : PySem.W.Frag} {mg : Str → Option Value}
theorem o_ixM : Op2 K mg (rIx K) ixMD := fun c Hs H σ env x y d1 d2 d Q S r1 r2 h q => by
  unfold ixMD at h
  split at h
  · rename_i ds i
    cases e : atI ds i with
    | none => rw [e] at h; cases h
    | some dd =>
      rw [e] at h
      cases h
      cases r2
      cases r1 with
      | @ml a xs _ hh r =>
        obtain ⟨v, hv, rv⟩ := atI_rep r e
        exact .inl ⟨a, xs, i, v, rfl, rfl, SqL.of (S.s1 _ _ hh), hv, q Hs H v S (Same.refl _) rv.unmu⟩
  · cases h
theorem ixN_nat {m n : Nat} (h : n < m) : ixN m (n : Int) = some n := by
  first
  | (unfold ixN; simp; omega)
  | (simp [ixN]; omega)
theorem atI_nat {α : Type} {xs : List α} {n : Nat} {y : α} (h : xs[n]? = some y) : atI xs (n : Int) = some y := by
  have hl : n < xs.length := (List.getElem?_eq_some_iff.mp h).1
  unfold atI
  rw [ixN_nat hl]
  exact h
/-- a new thing with its parts -/
theorem Sta.pushT {c : Ct} {σ : L2.St} {Hs H H' : Hp} {env : Env} {v : V} {d : D} {A : List Addr} (S : Sta K mg c Hs H σ env) (k : Same H H') (o : Own K mg Hs H' v d A) (n : ∀ a ∈ A, H a = none) : Sta K mg c Hs H' (σ ++ [some v]) (env ++ [.ow d]) := by
  obtain ⟨B, hA, hN, hD, hX⟩ := S.cells
  have nB : ∀ j a, a ∈ B j → H a ≠ none := fun j a ha => by
    cases e : env[j]? with
    | none => rw [hN j e] at ha; cases ha
    | some cl => exact ((hA j cl e).has ha).1
  refine ⟨S.s0, S.s1.trans k, fun p o h q => k _ _ (S.fr p o h q), S.fh, fun p h => Same.has k (S.hh p h), S.ro, by simp [S.len], fun j => if j = env.length then A else B j, fun j cl h => ?_, fun j h => ?_, fun j => ?_, fun j l hjl a ha => ?_⟩
  · by_cases e : j = env.length
    · subst e
      rw [env_last] at h
      cases h
      show CellOk K mg c _ _ _ env.length (.ow d) (if env.length = env.length then A else B env.length)
      rw [if_pos rfl]
      exact ⟨v, by rw [S.len]; exact sig_last, o, fun a ha => ⟨S.freshS (n a ha), .inr (S.fresh (n a ha))⟩⟩
    · have hlt : j < env.length := by
        have := (List.getElem?_eq_some_iff.mp h).1
        simp at this
        omega
      rw [app_lt hlt] at h
      show CellOk K mg c _ _ _ j cl (if j = env.length then A else B j)
      rw [if_neg e]
      have g := (hA j cl h).of_lt (σ' := σ ++ [some v]) (app_lt (by rw [← S.len]; exact hlt)).symm
      cases cl with
      | no => exact g
      | sh d => exact g
      | ow d => obtain ⟨v, g1, g2, g3⟩ := g; exact ⟨v, g1, g2.mono (Same.refl _) fun _ _ _ q => k _ _ q, g3⟩
      | io d => obtain ⟨v, g1, g2, g3, g4⟩ := g; exact ⟨v, g1, g2.mono (Same.refl _) fun _ _ _ q => k _ _ q, g3, g4⟩
      | al s k => exact g
      | ro d => exact g
  · show (if j = env.length then A else B j) = []
    rw [List.getElem?_eq_none_iff, List.length_append] at h
    have h' : env.length + 1 ≤ j := h
    rw [if_neg (by omega)]
    exact hN j (List.getElem?_eq_none_iff.mpr (by omega))
  · show (if j = env.length then A else B j).Nodup
    split
    · exact o.nodup
    · exact hD j
  · have ha' : a ∈ (if j = env.length then A else B j) := ha
    show a ∉ (if l = env.length then A else B l)
    split at ha'
    · rename_i hj
      rw [if_neg (by omega)]
      exact fun z => nB l a z (n a ha')
    · split
      · exact fun z => nB j a ha' (n a z)
      · exact hX j l hjl a ha'
end
section
variable {X : Cx} {e o a b : Expr} {es : List Expr} {st : Stmt} {pos apos p1 p2 p3 : Pos} {W : WX} {i : Nat} {fa fb : M D}
theorem e_ixM (ha : E' X W a fa) (hb : E' X W b fb) (hs : PlainIx b := by exact fun _ _ => rfl) : E' X W (.Subscript a b pos) (op2M ixMD fa fb) := (pe_ix ix_seq ha hb hs).mono fun _ _ _ q => tOp_of o_ixM q
/-- m[n].append(e), m a slot's own list of lists -/
def appMM (i n : Nat) (fa : M D) : M D := fun env => match viewM i env with
  | some ds => (match ds[n]? with
    | some (.mu (.lst xs)) => (match fa (frzEnv env) with
      | some (.val d _) => if thawB d = true ∧ xs.length < 1000000 then (putM i (ds.set n (.mu (.lst (xs ++ [d])))) env).map (.val .non) else none
      | some (.exc x _) => if thawX x = true then some (.exc x env) else none
      | none => none)
    | _ => none)
  | none => none
theorem e_appM {n : Nat} (h : PE X e (tBM X.K "list" rAppend (tOp (rIx X.K) (tVar i) (tC (.int (n : Int)))) (tCons (vE X.K X.mg W fa) tNil))) : E' X W e (appMM i n fa) := h.mono fun σ H Q q => by
  obtain ⟨c, Hs, env, S, q⟩ := q
  unfold appMM at q
  split at q
  · rename_i ds hv
    split at q
    · rename_i xs hx
      obtain ⟨cl, h1, h2⟩ := viewM_of hv
      obtain ⟨a, ys, g1, g2, g3, g4, _⟩ := S.ownM h1 h2
      obtain ⟨y, B, m1, m2, _⟩ := g4 n _ hx
      cases m2 with
      | @lst b zs _ hb rb =>
        refine ⟨.ref a, g1, .inl ⟨a, ys, n, .ref b, rfl, rfl, SqL.of g2, atI_nat m1, .inl ⟨rfl, zs, SqL.of hb⟩, fz_keep S ?_⟩⟩
        cases he : fa (frzEnv env) with
        | none => rw [he] at q; exact q.elim
        | some r0 =>
          rw [he] at q
          cases r0 with
          | val d e2 =>
            have q' : Wp X.K X.mg W c σ Hs (if thawB d = true ∧ xs.length < 1000000 then (putM i (ds.set n (.mu (.lst (xs ++ [d])))) env).map (.val .non) else none) (fun d _ Hs' H' => ∀ v, Rep X.K X.mg Hs' v d → Q v H') := q
            split at q'
            · rename_i hc
              refine ⟨hc.1, fun Hs' H' v S' z zh r => ?_⟩
              obtain ⟨a', ys', g1', g2', g3', g4', _⟩ := S'.ownM h1 h2
              rw [g1] at g1'; cases g1'
              rw [zh _ _ g2] at g2'; cases g2'
              obtain ⟨y', B', m1', m2', k⟩ := g4' n _ hx
              rw [m1] at m1'; cases m1'
              cases m2' with
              | @lst _ ws _ hb' rb' =>
                refine ⟨b, ws, v, rfl, rfl, hb', by rw [rb'.len]; exact small_lt hc.2, ?_⟩
                have hp : putM i (ds.set n (.mu (.lst (xs ++ [d])))) env = some (env.set i (cl.put (.ml (ds.set n (.mu (.lst (xs ++ [d]))))))) := by unfold putM; rw [h1]
                rw [hp] at q'
                exact q' Hs' _ (k _ _ [b] (.lst upd_same (rb'.app (.one r))) (Chg.one (by rw [hb']; simp))) z _ .non
            · exact q'.elim
          | exc x e2 =>
            have q' : Wp X.K X.mg W c σ Hs (if thawX x = true then some (Out.exc x env) else none) (fun d _ Hs' H' => ∀ v, Rep X.K X.mg Hs' v d → Q v H') := q
            split at q'
            · rename_i hc
              exact ⟨hc, fun Hs' H' cls dd S' z ok => q' Hs' H' cls dd S' z ok⟩
            · exact q'.elim
    · exact q.elim
  · exact q.elim
/-- m[n] = e -/
def setMS (i n : Nat) (f : M D) : S := withS f fun d e => match viewM i e with
  | some ds => if n < ds.length ∧ d.isMu = false then (putM i (ds.set n d) e).map .nx else none
  | none => none
def setMN (i n : Nat) (f : M D) : S := withS f fun d e => match viewM i e with
  | some ds => if n < ds.length then (putM i (ds.set n (.mu d)) e).map .nx else none
  | none => none
theorem s_setMS {n : Nat} {f : M D} (h : PS X st (tAsg (vE X.K X.mg W f) (gSub (tVar i) (tC (.int (n : Int))) rSetL))) : S' X W st (setMS i n f) := h.mono fun D σ H q => by
  obtain ⟨c, Hs, env, S, q⟩ := q
  refine ⟨c, Hs, env, S, (WpS.withE q).weak fun d e1 Hs1 H1 s1 z1 w v r => ?_⟩
  split at w
  · rename_i ds hv
    split at w
    · rename_i hc
      obtain ⟨cl, h1, h2⟩ := viewM_of hv
      obtain ⟨a, ys, g1, g2, g3, _, k⟩ := s1.ownM h1 h2
      have hp : putM i (ds.set n d) e1 = some (e1.set i (cl.put (.ml (ds.set n d)))) := by unfold putM; rw [h1]
      rw [hp] at w
      exact ⟨.ref a, g1, a, ys, n, n, rfl, rfl, g2, by rw [g3]; exact ixN_nat hc.1, w _ _ σ (k n v d hc.2 r)⟩
    · exact w.elim
  · exact w.elim
theorem s_setMN {n : Nat} {f : M D} (h : PS X st (tAsg (vN X.K X.mg W f) (gSub (tVar i) (tC (.int (n : Int))) rSetL))) : S' X W st (setMN i n f) := h.mono fun D σ H q => by
  obtain ⟨c, Hs, env, S, q⟩ := q
  refine ⟨c, Hs, env, S, WpS.withN q fun d e1 Hs1 H1 v w s1 => ?_⟩
  split at w
  · rename_i ds hv
    split at w
    · rename_i hc
      obtain ⟨cl, h1, h2⟩ := viewM_of hv
      obtain ⟨a, ys, g1, g2, g3, k⟩ := s1.ownM2 h1 h2
      have hp : putM i (ds.set n (.mu d)) e1 = some (e1.set i (cl.put (.ml (ds.set n (.mu d))))) := by unfold putM; rw [h1]
      rw [hp] at w
      exact ⟨.ref a, g1, a, ys, n, n, rfl, rfl, g2, by rw [g3]; exact ixN_nat hc, w _ _ σ (k n)⟩
    · exact w.elim
  · exact w.elim
/-- [[], [], None] -/
theorem n_model {j : Nat} : N' X W (.List [.List [] p1, .List [] p2, .Constant .none j p3] pos) (conM (.ml [.mu (.lst []), .mu (.lst []), .non])) :=
  (pe_lst (pa_cons (pe_lst pa_nil) (pa_cons (pe_lst pa_nil) (pa_cons pe_non pa_nil)))).mono fun σ H Q q => by
    obtain ⟨c, Hs, env, S, q⟩ := q
    refine ⟨by simp, fun a ha => ⟨by simp, fun b hb => ⟨(by rw [sizeLine_eq]; simp), fun p hp => ?_⟩⟩⟩
    have nab : b ≠ a := fun z => by subst z; rw [upd_same] at hb; cases hb
    have hb0 : H b = none := by rw [upd_ne nab] at hb; exact hb
    have npb : p ≠ b := fun z => by subst z; rw [upd_same] at hp; cases hp
    rw [upd_ne npb] at hp
    have npa : p ≠ a := fun z => by subst z; rw [upd_same] at hp; cases hp
    have hp0 : H p = none := by rw [upd_ne npa] at hp; exact hp
    have k : Same H (upd (upd (upd H a (.lst [])) b (.lst [])) p (.lst [.ref a, .ref b, .non])) := fun q o hq => by
      rw [upd_ne (ne_of_none hq hp0), upd_ne (ne_of_none hq hb0), upd_ne (ne_of_none hq ha)]; exact hq
    refine q _ _ _ (S.pushT k (A := p :: ([a] ++ ([b] ++ []))) (.ml upd_same (.mu (.lst ?_ .nil) (.mu (.lst ?_ .nil) (.sh rfl .non .nil) (by simp)) (by simpa using Ne.symm nab)) (by simp [npa, npb])) fun z hz => ?_) (Same.refl _)
    · rw [upd_ne (Ne.symm npa), upd_ne (Ne.symm nab), upd_same]
    · rw [upd_ne (Ne.symm npb), upd_same]
    · simp at hz
      rcases hz with e | e | e <;> subst e <;> assumption
end
end NK

set_option Elab.async false
set_option linter.all false
set_option maxRecDepth 100000
set_option maxHeartbeats 4000000
namespace NK
open PySem PySem.Spec PyProof.Rows L2

/-! ### an owned thing within a tuple that is lent -/
section
variable {K : PySem.W.Frag} {mg : Str → Option Value} {W : WX} {c : Ct} {σ : L2.St} {Hs H : Hp} {env : Env}
/-- the slot's thing goes into a new tuple beside -/
theorem Sta.totup {i : Nat} {cl : Cell} {t d : D} {p : Addr} {v w : V} (S : Sta K mg c Hs H σ env) (h : env[i]? = some cl) (ho : cl.own = some t) (hv : σ[i]? = some (some v)) (hp : H p = none) (hd : d.isMu = false) (rw_ : Rep K mg Hs w d) :
    Sta K mg c (upd Hs p (.tup [v, w])) (upd H p (.tup [v, w])) (σ ++ [some (.ref p)]) (env.set i .no ++ [.ow (.tup [.mu t, d])]) := by
  have S1 := S.put (o := .tup [v, w]) hp
  have e1 : Same Hs (upd Hs p (.tup [v, w])) := same_new (S.freshS hp)
  obtain ⟨B, hA, hN, hD, hX⟩ := S1.cells
  have hi : i < env.length := (List.getElem?_eq_some_iff.mp h).1
  obtain ⟨v', g1, g2, g3⟩ : ∃ v', σ[i]? = some (some v') ∧ Own K mg (upd Hs p (.tup [v, w])) (upd H p (.tup [v, w])) v' t (B i) ∧ ∀ a ∈ B i, upd Hs p (.tup [v, w]) a = none ∧ (a ∈ c.A ∨ c.H a = none) := by
    have g := hA i cl h
    cases cl with
    | no => cases ho
    | sh d => cases ho
    | ro d => cases ho
    | al s k => cases ho
    | ow e => cases ho; obtain ⟨v, g1, g2, g3⟩ := g; exact ⟨v, g1, g2, g3⟩
    | io e => cases ho; obtain ⟨v, g1, g2, g3, _⟩ := g; exact ⟨v, g1, g2, g3⟩
  rw [hv] at g1; cases g1
  have own : Own K mg (upd Hs p (.tup [v, w])) (upd H p (.tup [v, w])) (.ref p) (.tup [.mu t, d]) (B i) := by
    have := Own.tup (K := K) (mg := mg) (Hs := upd Hs p (.tup [v, w])) (H := upd H p (.tup [v, w])) (a := p) (xs := [v, w]) upd_same (.mu g2 (.sh hd (rw_.mono e1) .nil) (by simp))
    rwa [List.append_nil] at this
  have hl : (env.set i .no).length = env.length := List.length_set ..
  refine ⟨S1.s0, S1.s1, S1.fr, S1.fh, S1.hh, S1.ro, by simp [S.len], fun j => if j = env.length then B i else if j = i then [] else B j, fun j cl' hj => ?_, fun j hj => ?_, fun j => ?_, fun j l hjl a ha => ?_⟩
  · by_cases e : j = env.length
    · subst e
      rw [show env.length = (env.set i .no).length from hl.symm, env_last] at hj
      cases hj
      show CellOk K mg c _ _ _ env.length _ (if env.length = env.length then B i else _)
      rw [if_pos rfl]
      exact ⟨.ref p, by rw [S.len]; exact sig_last, own, g3⟩
    · have hlt : j < env.length := by
        have := (List.getElem?_eq_some_iff.mp hj).1
        simp at this
        omega
      rw [app_lt (by rw [hl]; exact hlt)] at hj
      show CellOk K mg c _ _ _ j cl' (if j = env.length then B i else if j = i then [] else B j)
      rw [if_neg e]
      by_cases e2 : j = i
      · subst e2
        rw [List.getElem?_set_self hi] at hj
        cases hj
        rw [if_pos rfl]; rfl
      · rw [eget_ne (Ne.symm e2)] at hj
        rw [if_neg e2]
        exact (hA j cl' hj).of_lt (app_lt (by rw [← S.len]; exact hlt)).symm
  · show (if j = env.length then B i else if j = i then [] else B j) = []
    rw [List.getElem?_eq_none_iff, List.length_append, hl] at hj
    have h' : env.length + 1 ≤ j := hj
    rw [if_neg (by omega), if_neg (by omega)]
    exact hN j (List.getElem?_eq_none_iff.mpr (by omega))
  · show (if j = env.length then B i else if j = i then [] else B j).Nodup
    split
    · exact hD i
    · split
      · simp
      · exact hD j
  · have ha' : a ∈ (if j = env.length then B i else if j = i then [] else B j) := ha
    show a ∉ (if l = env.length then B i else if l = i then [] else B l)
    split at ha'
    · rename_i hj
      rw [if_neg (by omega)]
      split
      · simp
      · rename_i hli; exact hX i l (Ne.symm hli) a ha'
    · split at ha'
      · cases ha'
      · rename_i hj hji
        split
        · exact hX j i hji a ha'
        · split
          · simp
          · exact hX j l hjl a ha'
/-- .. and back into its slot -/
theorem Sta.untup {i : Nat} {cl : Cell} {t t0 d : D} {p : Addr} {v w : V} (S : Sta K mg c Hs H (σ ++ [some (.ref p)]) (env ++ [.ow (.tup [.mu t, d])])) (hi : i < env.length) (ho : cl.own = some t0) (hio : ∀ e, cl = .io e → c.par i = some v) (hv : σ[i]? = some (some v)) (hp : Hs p = some (.tup [v, w])) :
    Sta K mg c Hs H σ (env.set i (cl.put t)) := by
  have hl : env.length = σ.length := by have := S.len; simpa using this
  obtain ⟨B, hA, hN, hD, hX⟩ := S.cells
  obtain ⟨v', q1, q2, q3⟩ := hA env.length (.ow (.tup [.mu t, d])) env_last
  rw [hl, sig_last] at q1
  cases q1
  obtain ⟨C, o, hC⟩ : ∃ C, Own K mg Hs H v t C ∧ ∀ a ∈ C, a ∈ B env.length := by
    generalize B env.length = A at q2 q3
    cases q2 with
    | @tup _ xs _ A hh r =>
      rw [hp] at hh
      cases hh
      cases r with
      | sh n _ _ => cases n
      | mu o r n => exact ⟨_, o, fun a ha => List.mem_append_left _ ha⟩
  refine ⟨S.s0, S.s1, S.fr, S.fh, S.hh, S.ro, by rw [List.length_set]; exact hl, fun j => if j = i then C else if j < env.length then B j else [], fun j cl' hj => ?_, fun j hj => ?_, fun j => ?_, fun j l hjl a ha => ?_⟩
  · by_cases e : j = i
    · subst e
      rw [List.getElem?_set_self hi] at hj
      cases hj
      show CellOk K mg c Hs H σ j (cl.put t) (if j = j then C else _)
      rw [if_pos rfl]
      cases cl with
      | no => cases ho
      | sh d => cases ho
      | ro d => cases ho
      | al s k => cases ho
      | ow e => exact ⟨v, hv, o, fun a ha => q3 a (hC a ha)⟩
      | io e => exact ⟨v, hv, o, fun a ha => q3 a (hC a ha), hio e rfl⟩
    · rw [eget_ne (Ne.symm e)] at hj
      have hlt : j < env.length := (List.getElem?_eq_some_iff.mp hj).1
      show CellOk K mg c Hs H σ j cl' (if j = i then C else if j < env.length then B j else [])
      rw [if_neg e, if_pos hlt]
      exact (hA j cl' (by rw [app_lt hlt]; exact hj)).slot (by rw [app_lt (by rw [← hl]; exact hlt)])
  · show (if j = i then C else if j < env.length then B j else []) = []
    rw [List.getElem?_eq_none_iff, List.length_set] at hj
    rw [if_neg (by omega), if_neg (by omega)]
  · show (if j = i then C else if j < env.length then B j else []).Nodup
    split
    · exact o.nodup
    · split
      · exact hD j
      · simp
  · have ha' : a ∈ (if j = i then C else if j < env.length then B j else []) := ha
    show a ∉ (if l = i then C else if l < env.length then B l else [])
    split at ha'
    · rename_i hj
      rw [if_neg (by omega)]
      split
      · exact hX env.length l (by omega) a (hC a ha')
      · simp
    · split at ha'
      · rename_i hj hjl2
        split
        · exact fun z => hX env.length j (by omega) a (hC a z) ha'
        · split
          · exact hX j l hjl a ha'
          · simp
      · cases ha'
/-- the callee gets a tuple that holds the slot's own thing -/
def tupE (F : Fn) (i : Nat) (d1 d2 : D) : M D := fun env => match env[i]? with
  | some cl => (match cl.own with
    | some t => if d2.isMu = false then (match appF F 2 [.val d1, .own env.length] (env.set i .no ++ [.ow (.tup [.mu t, d2])]) with
      | some (.val r e) => (match e.getLast? with | some (.ow (.tup [.mu t', _])) => if i < e.length - 1 then some (.val r.2 (e.dropLast.set i (cl.put t'))) else none | _ => none)
      | some (.exc x e) => (match e.getLast? with | some (.ow (.tup [.mu t', _])) => if i < e.length - 1 then some (.exc x (e.dropLast.set i (cl.put t'))) else none | _ => none)
      | none => none) else none
    | none => none)
  | none => none
def chkV (i : Nat) (m : M D) : M D := fun env => if hasV i env = true then m env else none
def callT (F : Fn) (i : Nat) (fa fb : M D) : M D := bindM fa fun d1 => chkV i (bindM fb fun d2 => tupE F i d1 d2)
theorem tup_of_call {i : Nat} {F : Fn} {d1 d2 : D} {x v w : V} {Q : VK} (S : Sta K mg c Hs H σ env) (r1 : Rep K mg Hs x d1) (r2 : Rep K mg Hs w d2) (hv : σ[i]? = some (some v)) (q : Wp K mg W c σ Hs (tupE F i d1 d2 env) fun d _ Hs' H' => ∀ v, Rep K mg Hs' v d → Q v H') :
    ∀ p, H p = none → vF K mg F 2 [x, .ref p] (upd H p (.tup [v, w])) Q (WE W σ) := by
  intro p hp
  unfold tupE at q
  cases he : env[i]? with
  | none => rw [he] at q; exact q.elim
  | some cl =>
    rw [he] at q
    cases ho : cl.own with
    | none =>
      have q' : Wp K mg W c σ Hs (match cl.own with
        | some t => if d2.isMu = false then (match appF F 2 [.val d1, .own env.length] (env.set i .no ++ [.ow (.tup [.mu t, d2])]) with
          | some (.val r e) => (match e.getLast? with | some (.ow (.tup [.mu t', _])) => if i < e.length - 1 then some (.val r.2 (e.dropLast.set i (cl.put t'))) else none | _ => none)
          | some (.exc x e) => (match e.getLast? with | some (.ow (.tup [.mu t', _])) => if i < e.length - 1 then some (.exc x (e.dropLast.set i (cl.put t'))) else none | _ => none)
          | none => none) else none
        | none => none) (fun d _ Hs' H' => ∀ v, Rep K mg Hs' v d → Q v H') := q
      rw [ho] at q'; exact q'.elim
    | some t =>
      have q' : Wp K mg W c σ Hs (match cl.own with
        | some t => if d2.isMu = false then (match appF F 2 [.val d1, .own env.length] (env.set i .no ++ [.ow (.tup [.mu t, d2])]) with
          | some (.val r e) => (match e.getLast? with | some (.ow (.tup [.mu t', _])) => if i < e.length - 1 then some (.val r.2 (e.dropLast.set i (cl.put t'))) else none | _ => none)
          | some (.exc x e) => (match e.getLast? with | some (.ow (.tup [.mu t', _])) => if i < e.length - 1 then some (.exc x (e.dropLast.set i (cl.put t'))) else none | _ => none)
          | none => none) else none
        | none => none) (fun d _ Hs' H' => ∀ v, Rep K mg Hs' v d → Q v H') := q
      rw [ho] at q'
      dsimp only at q'
      split at q'
      · rename_i hd
        have S2 := S.totup he ho hv hp hd r2
        have e1 : Same Hs (upd Hs p (.tup [v, w])) := same_new (S.freshS hp)
        have hio : ∀ e, cl = .io e → c.par i = some v := fun e z => by
          subst z
          obtain ⟨v', h1, h2⟩ := S.io_par he
          rw [hv] at h1; cases h1
          exact h2
        have hl : (env.set i .no).length = env.length := List.length_set ..
        have ra : ArgsOk K mg (upd Hs p (.tup [v, w])) (σ ++ [some (.ref p)]) [x, .ref p] [.val d1, .own env.length] :=
          .cons (show ArgOk K mg _ _ x (.val d1) from r1.mono e1) (.cons (show (σ ++ [some (V.ref p)])[env.length]? = some (some (.ref p)) by rw [S.len]; exact sig_last) .nil)
        have back : ∀ Hs' H' e t' d', Sta K mg c Hs' H' (σ ++ [some (.ref p)]) e → Same (upd Hs p (.tup [v, w])) Hs' → e.getLast? = some (.ow (.tup [.mu t', d'])) → i < e.length - 1 → Sta K mg c Hs' H' σ (e.dropLast.set i (cl.put t')) := fun Hs' H' e t' d' s z g hi => by
          rw [last_split g] at s
          exact s.untup (by rw [List.length_dropLast]; exact hi) ho hio hv (z _ _ upd_same)
        have key : vF K mg F 2 [x, .ref p] (upd H p (.tup [v, w])) Q (fun cls dd H' => W cls dd σ H') := by
          refine vF_of S2 ra ?_
          cases e : appF F 2 [.val d1, .own env.length] (env.set i .no ++ [.ow (.tup [.mu t, d2])]) with
          | none => rw [e] at q'; exact q'.elim
          | some o =>
            rw [e] at q'
            cases o with
            | exc y e2 =>
              dsimp only at q'
              split at q'
              · rename_i t' d' hg
                split at q'
                · rename_i hi
                  exact fun Hs' H' cls dd s z ok => q' Hs' H' cls dd (back Hs' H' e2 t' d' s z hg hi) (e1.trans z) ok
                · exact q'.elim
              · exact q'.elim
            | val pr e2 =>
              obtain ⟨fr, d⟩ := pr
              dsimp only at q'
              split at q'
              · rename_i t' d' hg
                split at q'
                · rename_i hi
                  cases fr with
                  | true =>
                    show (if true = true then _ else _)
                    rw [if_pos rfl]
                    intro Hs' H' u s z
                    obtain ⟨Hs2, z2, ru, s2⟩ := s.settle
                    exact q' Hs2 H' (back Hs2 H' e2 t' d' s2 (z.trans z2) hg hi) (e1.trans (z.trans z2)) u ru
                  | false =>
                    show (if false = true then _ else _)
                    rw [if_neg Bool.false_ne_true]
                    exact fun Hs' H' u s z ru => q' Hs' H' (back Hs' H' e2 t' d' s z hg hi) (e1.trans z) u ru
                · exact q'.elim
              · exact q'.elim
        exact key
      · exact q'.elim
theorem tCallT_of {i : Nat} {F : Fn} {fa fb : M D} {Q : VK} (q : vE K mg W (callT F i fa fb) σ H Q) :
    tCallS (vF K mg F 2) (WE W) (tCons (vE K mg W fa) (tCons (tTup (tCons (tVar i) (tCons (vE K mg W fb) tNil))) tNil)) σ H Q := by
  obtain ⟨c, Hs, env, S, q⟩ := q
  refine ⟨c, Hs, env, S, (Wp.bind q).weak fun d1 e1 Hs1 H1 s1 z1 w1 x r1 => ?_⟩
  obtain ⟨S1, w1⟩ := w1
  unfold chkV at w1
  split at w1
  · rename_i hv
    obtain ⟨v, h1⟩ := S1.view_slot (hasV_of hv)
    refine ⟨v, h1, c, Hs1, e1, S1, (Wp.bind w1).weak fun d2 e2 Hs2 H2 s2 z2 w2 u r2 => ?_⟩
    exact ⟨by rw [sizeLine_eq]; simp, fun p hp => tup_of_call w2.1 (r1.mono z2) r2 h1 w2.2 p hp⟩
  · exact w1.elim
end
section
variable {X : Cx} {e o a b : Expr} {es : List Expr} {st : Stmt} {pos p p2 p3 : Pos} {W : WX} {i k : Nat} {x : Str} {fa fb : M D} {F : Fn}
/-- f(a, (x, b)), x a slot's own thing -/
theorem e_calT (C : Cal X.prog X.w X.K X.mg X.base x k F 2) (hr : Room k X.A) (tk : Takes X W) (ha : E' X W a fa) (ho : PE X o (tVar i)) (hb : E' X W b fb) (hg : Gl X x := by rfl) {x1} (hdb : (x == ("__debug__" : Str)) = false := by decide)
    (h1 : starEach [a, .Tuple [o, b] x1 p2] X.env = (false, eval a X.env) :: starEach [.Tuple [o, b] x1 p2] X.env := by rfl) (hpl : (backTo pos (starEach [.Tuple [o, b] x1 p2] X.env)).any (·.1) = false := by rfl)
    (h2 : starEach [.Tuple [o, b] x1 p2] X.env = (false, eval (.Tuple [o, b] x1 p2) X.env) :: starEach [] X.env := by rfl) (h3 : starEach [o, b] X.env = (false, eval o X.env) :: starEach [b] X.env := by rfl) (h4 : starEach [b] X.env = (false, eval b X.env) :: starEach [] X.env := by rfl) :
    E' X W (.Call (.Name x p) [a, .Tuple [o, b] x1 p2] [] pos) (callT F i fa fb) := by
  obtain ⟨f, fd, ps, hm, hk, hbd, G⟩ := C.ex
  exact (pe_callS G hr hg hm hk hbd (fun σ => passW tk σ) (pa_cons ha (pa_cons (pe_tup (pa_cons ho (pa_cons hb pa_nil h4) h3)) pa_nil h2) h1) hdb h1 hpl).mono fun _ _ _ q => tCallT_of q
end
end NK

set_option Elab.async false
set_option linter.all false
set_option maxRecDepth 100000
set_option maxHeartbeats 4000000
namespace NK
open PySem PySem.Spec PyProof.Rows L2

/-! ### a name for the thing within a lent tuple -/
section
variable {K : PySem.W.Frag} {mg : Str → Option Value} {W : WX} {c : Ct} {σ : L2.St} {Hs H : Hp} {env : Env}
theorem Sta.setAl {i s n : Nat} {a : Addr} {v : V} {vs : List V} (S : Sta K mg c Hs H σ env) (hp : c.par s = some (.ref a)) (ht : Hs a = some (.tup vs)) (hk : vs[n]? = some v) : Sta K mg c Hs H (σ.set i (some v)) (env.set i (.al s n)) := by
  obtain ⟨A, hA, hN, hD, hX⟩ := S.cells
  refine ⟨S.s0, S.s1, S.fr, S.fh, S.hh, S.ro, by rw [List.length_set, List.length_set]; exact S.len, fun j => if j = i then [] else A j, fun j cl h => ?_, fun j h => ?_, fun j => ?_, fun j k hjk b hb => ?_⟩
  · by_cases e : j = i
    · subst e
      have hlt : j < env.length := by
        have := (List.getElem?_eq_some_iff.mp h).1
        simpa using this
      rw [List.getElem?_set_self hlt] at h
      cases h
      show CellOk K mg c Hs H _ j (.al s n) (if j = j then [] else A j)
      rw [if_pos rfl]
      exact ⟨rfl, v, a, vs, List.getElem?_set_self (by rw [← S.len]; exact hlt), hp, ht, hk⟩
    · rw [eget_ne (Ne.symm e)] at h
      show CellOk K mg c Hs H _ j cl (if j = i then [] else A j)
      rw [if_neg e]
      exact (hA j cl h).slot (sget_ne (Ne.symm e))
  · show (if j = i then [] else A j) = []
    by_cases e : j = i
    · rw [if_pos e]
    · rw [if_neg e]
      rw [eget_ne (Ne.symm e)] at h
      exact hN j h
  · show (if j = i then [] else A j).Nodup
    by_cases e : j = i
    · rw [if_pos e]; simp
    · rw [if_neg e]; exact hD j
  · have hb' : b ∈ (if j = i then [] else A j) := hb
    show b ∉ (if k = i then [] else A k)
    by_cases e : j = i
    · rw [if_pos e] at hb'; simp at hb'
    · rw [if_neg e] at hb'
      by_cases e2 : k = i
      · rw [if_pos e2]; simp
      · rw [if_neg e2]; exact hX j k hjk b hb'
/-- what a lent tuple is made of -/
theorem Sta.lent {s : Nat} {t d : D} (S : Sta K mg c Hs H σ env) (h : env[s]? = some (.io (.tup [.mu t, d]))) (hd : d.isMu = false) :
    ∃ a v w, σ[s]? = some (some (.ref a)) ∧ c.par s = some (.ref a) ∧ Hs a = some (.tup [v, w]) ∧ Rep K mg Hs w d := by
  obtain ⟨B, hA, hN, hD, hX⟩ := S.cells
  obtain ⟨v, g1, g2, g3, g4⟩ := hA s _ h
  generalize B s = A at g2
  cases g2 with
  | @tup a xs _ A hh r =>
    cases r with
    | sh n _ _ => cases n
    | @mu v0 _ vs _ B0 A0 o r n =>
      cases r with
      | @sh w _ ws _ _ nm rp r =>
        cases r
        exact ⟨a, v0, w, g1, g4, hh, rp⟩
      | mu _ _ _ => cases hd
def unpackS (s k j : Nat) : S := fun env => match env[s]? with
  | some (.io (.tup [.mu t, d])) => if s ≠ k ∧ s ≠ j ∧ k ≠ j ∧ d.isMu = false then some (.nx ((env.set k (.al s 0)).set j (.sh d))) else none
  | _ => none
end
section
variable {X : Cx} {st : Stmt} {W : WX}
theorem s_unpack {s k j : Nat} (h : PS X st (tAsg (tVar s) (gTup X.K 2 (gCons (gName k) (gCons (gName j) gNil))))) : S' X W st (unpackS s k j) := h.mono fun D σ H q => by
  obtain ⟨c, Hs, env, S, q⟩ := q
  unfold unpackS at q
  split at q
  · rename_i t d he
    split at q
    · rename_i hc
      obtain ⟨a, v, w, h1, h2, h3, h4⟩ := S.lent he hc.2.2.2
      refine ⟨.ref a, h1, a, [v, w], rfl, SqT.of (S.s1 _ _ h3), rfl, v, [w], rfl, w, [], rfl, rfl, ?_⟩
      exact q Hs H _ ((S.setAl (i := k) h2 h3 rfl).set h4)
    · exact q.elim
  · exact q.elim
end

/-! ### that thing, by its name -/
section
variable {K : PySem.W.Frag} {mg : Str → Option Value} {W : WX} {c : Ct} {σ : L2.St} {Hs H : Hp} {env : Env}
theorem Sta.focus {s k : Nat} {t d : D} (S : Sta K mg c Hs H σ env) (hk : env[k]? = some (.al s 0)) (hs : env[s]? = some (.io (.tup [.mu t, d]))) (hd : d.isMu = false) (ne : k ≠ s) :
    Sta K mg c Hs H σ ((env.set s .no).set k (.ow t)) ∧ ∀ Hs' H' e t', Sta K mg c Hs' H' σ e → Same Hs Hs' → e[k]? = some (.ow t') → s < e.length → Sta K mg c Hs' H' σ ((e.set k (.al s 0)).set s (.io (.tup [.mu t', d]))) := by
  obtain ⟨a, v, w, h1, h2, h3, h4⟩ := S.lent hs hd
  obtain ⟨B, hA, hN, hD, hX⟩ := S.cells
  obtain ⟨_, v', a', vs', k1, k2, k3, k4⟩ := hA k _ hk
  rw [h2] at k2; cases k2
  rw [h3] at k3; cases k3
  have k4' : v = v' := by simpa using k4
  subst k4'
  obtain ⟨u, g1, g2, g3, g4⟩ := hA s _ hs
  rw [h1] at g1; cases g1
  obtain ⟨C, o, hC⟩ : ∃ C, Own K mg Hs H v t C ∧ ∀ b ∈ C, b ∈ B s := by
    generalize B s = A at g2
    cases g2 with
    | @tup _ xs _ A hh r =>
      rw [h3] at hh
      cases hh
      cases r with
      | sh n _ _ => cases n
      | mu o r n => exact ⟨_, o, fun b hb => List.mem_append_left _ hb⟩
  have hks : k < env.length := (List.getElem?_eq_some_iff.mp hk).1
  have hss : s < env.length := (List.getElem?_eq_some_iff.mp hs).1
  refine ⟨⟨S.s0, S.s1, S.fr, S.fh, S.hh, S.ro, by rw [List.length_set, List.length_set]; exact S.len, fun j => if j = k then C else if j = s then [] else B j, fun j cl h => ?_, fun j h => ?_, fun j => ?_, fun j l hjl b hb => ?_⟩, fun Hs' H' e t' S' z hek hse => ?_⟩
  · show CellOk K mg c Hs H σ j cl (if j = k then C else if j = s then [] else B j)
    by_cases e : j = k
    · subst e
      rw [List.getElem?_set_self (by rw [List.length_set]; exact hks)] at h
      cases h
      rw [if_pos rfl]
      exact ⟨v, k1, o, fun b hb => g3 b (hC b hb)⟩
    · rw [eget_ne (Ne.symm e)] at h
      rw [if_neg e]
      by_cases e2 : j = s
      · subst e2
        rw [List.getElem?_set_self hss] at h
        cases h
        rw [if_pos rfl]; rfl
      · rw [eget_ne (Ne.symm e2)] at h
        rw [if_neg e2]
        exact hA j cl h
  · show (if j = k then C else if j = s then [] else B j) = []
    rw [List.getElem?_eq_none_iff, List.length_set, List.length_set] at h
    rw [if_neg (by omega), if_neg (by omega)]
    exact hN j (List.getElem?_eq_none_iff.mpr h)
  · show (if j = k then C else if j = s then [] else B j).Nodup
    split
    · exact o.nodup
    · split
      · simp
      · exact hD j
  · have hb' : b ∈ (if j = k then C else if j = s then [] else B j) := hb
    show b ∉ (if l = k then C else if l = s then [] else B l)
    split at hb'
    · rename_i hj
      rw [if_neg (by omega)]
      split
      · simp
      · rename_i hl; exact hX s l (Ne.symm hl) b (hC b hb')
    · split at hb'
      · cases hb'
      · rename_i hj hjs
        split
        · exact fun z => hX j s hjs b hb' (hC b z)
        · split
          · simp
          · exact hX j l hjl b hb'
  · obtain ⟨B', hA', hN', hD', hX'⟩ := S'.cells
    obtain ⟨v2, q1, q2, q3⟩ := hA' k _ hek
    rw [k1] at q1; cases q1
    have hke : k < e.length := (List.getElem?_eq_some_iff.mp hek).1
    have h3' : Hs' a = some (.tup [v, w]) := z _ _ h3
    have own : Own K mg Hs' H' (.ref a) (.tup [.mu t', d]) (B' k) := by
      have := Own.tup (K := K) (mg := mg) (Hs := Hs') (H := H') (a := a) (xs := [v, w]) h3' (.mu q2 (.sh hd (h4.mono z) .nil) (by simp))
      rwa [List.append_nil] at this
    refine ⟨S'.s0, S'.s1, S'.fr, S'.fh, S'.hh, S'.ro, by rw [List.length_set, List.length_set]; exact S'.len, fun j => if j = s then B' k else if j = k then [] else B' j, fun j cl h => ?_, fun j h => ?_, fun j => ?_, fun j l hjl b hb => ?_⟩
    · show CellOk K mg c Hs' H' σ j cl (if j = s then B' k else if j = k then [] else B' j)
      by_cases e1 : j = s
      · subst e1
        rw [List.getElem?_set_self (by rw [List.length_set]; exact hse)] at h
        cases h
        rw [if_pos rfl]
        exact ⟨.ref a, h1, own, q3, h2⟩
      · rw [eget_ne (Ne.symm e1)] at h
        rw [if_neg e1]
        by_cases e2 : j = k
        · subst e2
          rw [List.getElem?_set_self hke] at h
          cases h
          rw [if_pos rfl]
          exact ⟨rfl, v, a, [v, w], k1, h2, h3', rfl⟩
        · rw [eget_ne (Ne.symm e2)] at h
          rw [if_neg e2]
          exact hA' j cl h
    · show (if j = s then B' k else if j = k then [] else B' j) = []
      rw [List.getElem?_eq_none_iff, List.length_set, List.length_set] at h
      rw [if_neg (by omega), if_neg (by omega)]
      exact hN' j (List.getElem?_eq_none_iff.mpr h)
    · show (if j = s then B' k else if j = k then [] else B' j).Nodup
      split
      · exact hD' k
      · split
        · simp
        · exact hD' j
    · have hb' : b ∈ (if j = s then B' k else if j = k then [] else B' j) := hb
      show b ∉ (if l = s then B' k else if l = k then [] else B' l)
      split at hb'
      · rename_i hj
        rw [if_neg (by omega)]
        split
        · simp
        · rename_i hl; exact hX' k l (Ne.symm hl) b hb'
      · split at hb'
        · cases hb'
        · rename_i hj hjk
          split
          · exact hX' j k hjk b hb'
          · split
            · simp
            · exact hX' j l hjl b hb'
/-- a part that takes the name for the thing's own -/
def unfocus (k s : Nat) (d : D) (e : Env) : Option Env := match e[k]? with
  | some (.ow t') => if s < e.length then some ((e.set k (.al s 0)).set s (.io (.tup [.mu t', d]))) else none
  | _ => none
def focusM (k : Nat) (f : M D) : M D := fun env => match env[k]? with
  | some (.al s 0) => (match env[s]? with
    | some (.io (.tup [.mu t, d])) => if k ≠ s ∧ d.isMu = false then (match f ((env.set s .no).set k (.ow t)) with
      | some (.val r e) => (unfocus k s d e).map (.val r)
      | some (.exc x e) => (unfocus k s d e).map (.exc x)
      | none => none) else none
    | _ => none)
  | _ => none
end
section
variable {X : Cx} {e : Expr} {W : WX}
theorem e_focus {k : Nat} {f : M D} (h : E' X W e f) : E' X W e (focusM k f) := h.mono fun σ H Q q => by
  obtain ⟨c, Hs, env, S, q⟩ := q
  unfold focusM at q
  split at q
  · rename_i s hk
    split at q
    · rename_i t d hs
      split at q
      · rename_i hc
        obtain ⟨S1, back⟩ := S.focus hk hs hc.2 hc.1
        refine ⟨c, Hs, _, S1, ?_⟩
        cases e1 : f ((env.set s .no).set k (.ow t)) with
        | none => rw [e1] at q; exact q
        | some o =>
          rw [e1] at q
          cases o with
          | val r e2 =>
            have q' : Wp X.K X.mg W c σ Hs ((unfocus k s d e2).map (Out.val r)) fun d _ Hs' H' => ∀ v, Rep X.K X.mg Hs' v d → Q v H' := q
            unfold unfocus at q'
            split at q'
            · rename_i t' ht
              split at q'
              · rename_i hl
                exact fun Hs' H' S' z => q' Hs' H' (back Hs' H' e2 t' S' z ht hl) z
              · exact q'.elim
            · exact q'.elim
          | exc x e2 =>
            have q' : Wp X.K X.mg W c σ Hs ((unfocus k s d e2).map (Out.exc x)) fun d _ Hs' H' => ∀ v, Rep X.K X.mg Hs' v d → Q v H' := q
            unfold unfocus at q'
            split at q'
            · rename_i t' ht
              split at q'
              · rename_i hl
                exact fun Hs' H' cls dd S' z ok => q' Hs' H' cls dd (back Hs' H' e2 t' S' z ht hl) z ok
              · exact q'.elim
            · exact q'.elim
      · exact q.elim
    · exact q.elim
  · exact q.elim
end
end NK

set_option Elab.async false
set_option linter.all false
set_option maxRecDepth 100000
set_option maxHeartbeats 4000000
namespace NK
open PySem PySem.Spec PyProof.Rows L2

/-! ### len(x) by an own __len__ -/
def tLenO (C : Addr) (sp : Sp) (E : L2.St → XK) (ta : TE) : TE := fun σ H Q => ta σ H fun x H1 => ∃ a dx fs, x = .ref a ∧ H1 a = some (.ins C dx fs) ∧
  sp [.ref a] H1 (fun v H2 => ∃ n : Int, v = .int n ∧ 0 ≤ n ∧ n < 2 ^ 63 ∧ Q (.int n) H2) (E σ)
section
variable {X : Cx} {CX : CXT} {k : Nat} {f C : Addr} {fd : FuncData} {ps : List Str} {sp : Sp} {E : L2.St → XK} {p pos : Pos} {o : Expr} {ta : TE}
theorem pe_lenO (he : PE X o ta) (hs : PySem.W.findIn X.K (.ref C) "__len__" = some (some (.ref f))) (hf : PySem.W.isFn X.K (.ref f) = true) (F : FnOk X.prog X.w X.K X.mg X.base CX k f fd ps sp) (hr : Room (k + 1) X.A) (hb : Binds X.K fd ps []) (hx : ∀ σ, PassesAt CX X σ (E σ))
    (hm : X.mg "len" = none) (hg : Gl X "len") (h1 : starEach [o] X.env = (false, eval o X.env) :: starEach [] X.env) (hpl : (backTo pos (starEach [] X.env)).any (·.1) = false) : PE X (.Call (.Name "len" p) [o] [] pos) (tLenO C sp E ta) := by
  refine ⟨fun pins s σ H Q I h => ?_⟩
  refine wpAny_Call_Name_kw (ld_blt I hg hm boot_len ?_ (by decide) (by decide))
  have h' : tCons ta tNil σ H fun vs H1 => ∃ a dx fs, vs = [V.ref a] ∧ H1 a = some (.ins C dx fs) ∧ sp [.ref a] H1 (fun v H2 => ∃ n : Int, v = .int n ∧ 0 ≤ n ∧ n < 2 ^ 63 ∧ Q (.int n) H2) (E σ) := by
    unfold tCons tNil
    have q : ta σ H fun x H1 => ∃ a dx fs, x = V.ref a ∧ H1 a = some (.ins C dx fs) ∧ sp [.ref a] H1 (fun v H2 => ∃ n : Int, v = .int n ∧ 0 ≤ n ∧ n < 2 ^ 63 ∧ Q (.int n) H2) (E σ) := h
    have e : (fun x H1 => ∃ a dx fs, [x] = [V.ref a] ∧ H1 a = some (HO.ins C dx fs) ∧ sp [.ref a] H1 (fun v H2 => ∃ n : Int, v = .int n ∧ 0 ≤ n ∧ n < 2 ^ 63 ∧ Q (.int n) H2) (E σ)) = fun x H1 => ∃ a dx fs, x = V.ref a ∧ H1 a = some (.ins C dx fs) ∧ sp [.ref a] H1 (fun v H2 => ∃ n : Int, v = .int n ∧ 0 ≤ n ∧ n < 2 ^ 63 ∧ Q (.int n) H2) (E σ) := by
      funext x H1
      simp only [List.cons.injEq, and_true]
    rw [e]; exact q
  refine PyProof.Rows.callWith_builtin1 (thn ((pa_cons he pa_nil h1).run pos pins s σ H _ I h') fun us s1 ⟨vs, H1, I1, r1, a, dx, fs, ev, ea, q⟩ => ?_) h1 hpl
  subst ev
  cases r1 with
  | cons ru rn =>
    cases rn
    cases ru
    obtain ⟨mA, O, _⟩ := ins_get I1.hok ea
    obtain ⟨od, J, _⟩ := O.look
    obtain ⟨m, hF⟩ := I1.fr
    refine PySem.W.len_K hF I1.ok.mod.kin J hs hf ?_
    have hl := F.len _ _ _ _ q
    have b := hb s1 [Value.ref a] I1.kIn (by simpa using hl)
    rw [List.append_nil] at b
    refine wpAny_call (codeAny_mono (F.run X.A.in1 X.stack s1 H1 ⟨[.ref a], []⟩ [.ref a] [.ref a] _ (E σ) hr.in1 I1.env0.in1 b (.cons rfl .nil) q) fun r s' hq => ?_)
    cases r with
    | error e => exact hx σ pins _ _ e s' I1 hq
    | ok fl =>
      cases fl with
      | ret u =>
        obtain ⟨v, H', I3, rv, n, en, n0, n1, q3⟩ := I1.after hq
        subst en
        obtain ⟨t, rfl⟩ := rv
        exact ⟨⟨n0, n1⟩, .int n, H', I3.tok _, ⟨_, rfl⟩, q3⟩
      | next => exact False.elim hq
      | brk => exact False.elim hq
      | cont => exact False.elim hq
end
noncomputable def lenI : D → M D
  | .int n => fun env => @ite _ (0 ≤ n ∧ n < 2 ^ 62) (Classical.propDecidable _) (some (.val (.int n) env)) none
  | _ => failM
noncomputable def lenOM (c : Str) (F : Fn) (fo : M D) : M D := bindM fo fun d => if isObj c "__len__" d = true then bindM (endE F 1 [.val d]) lenI else failM
section
variable {X : Cx} {e o : Expr} {pos p : Pos} {W : WX} {c : Str} {F : Fn} {k : Nat} {fo : M D}
theorem e_lenOb (T : Mth X.prog X.w X.K X.mg X.base c "__len__" k F 1) (hm : ∃ C, X.mg c = some (.ref C)) (hr : Room (k + 1) X.A) (tk : Takes X W) (hl : X.mg "len" = none) (ho : E' X W o fo) (hg : Gl X "len" := by rfl)
    (h1 : starEach [o] X.env = (false, eval o X.env) :: starEach [] X.env := by rfl) (hpl : (backTo pos (starEach [] X.env)).any (·.1) = false := by rfl) : E' X W (.Call (.Name "len" p) [o] [] pos) (lenOM c F fo) := by
  obtain ⟨C, hC⟩ := hm
  obtain ⟨f, fd, ps, c1, c2, b, G⟩ := T.ex C hC
  refine (pe_lenO ho c2.at_ c2.fn G hr b (fun σ => passW tk σ) hl hg h1 hpl).mono fun σ H Q q => ?_
  obtain ⟨ct, Hs, env, S, q⟩ := q
  refine ⟨ct, Hs, env, S, (Wp.bind q).weak fun d e1 Hs1 H1 s1 z1 w v r => ?_⟩
  obtain ⟨S1, w⟩ := w
  split at w
  · rename_i hc
    obtain ⟨a, dx, ks, rfl, g1, g2⟩ := isObj_of hC S1.s1 hc r
    refine ⟨a, dx, ks, rfl, g1, ?_⟩
    refine vF_E (as := [.val d]) S1 (.cons (show ArgOk X.K X.mg Hs1 σ (.ref a) (.val d) from r) .nil) ((Wp.bind w).weak fun d2 e2 Hs2 H2 s2 z2 w2 v2 r2 => ?_)
    obtain ⟨S2, w2⟩ := w2
    cases d2 with
    | int n =>
      cases r2
      have w3 : Wp X.K X.mg W ct σ Hs2 (@ite _ (0 ≤ n ∧ n < 2 ^ 62) (Classical.propDecidable _) (some (Out.val (D.int n) e2)) none) (fun d _ Hs' H' => ∀ v, Rep X.K X.mg Hs' v d → Q v H') := w2
      split at w3
      · rename_i hn
        exact ⟨n, rfl, hn.1, by omega, w3 Hs2 H2 S2 (Same.refl _) _ (.int n)⟩
      · exact w3.elim
    | _ => exact w2.elim
  · exact w.elim
end
end NK

set_option Elab.async false
set_option linter.all false
set_option maxRecDepth 100000
set_option maxHeartbeats 4000000
/-! raise Elder(e): the kit's own worked block for an own error over ValueError, turned to Elder over KeepError over RuntimeError -/
namespace PySem
namespace EldX
open PySem.W PySem.Calls PyProof.Rows PySem.HandSPX Builtin Builtin.ObjectAttr
abbrev reTail : List Value := [.type "RuntimeError", .type "Exception", .type "BaseException", .type "object"]
/-- own classes, then RuntimeError's mro -/
def refsRE : List Value → Bool
  | .ref _ :: r => refsRE r
  | l => l == reTail
theorem refsRE_cases : ∀ l : List Value, refsRE l = true → (∃ c r, l = .ref c :: r ∧ refsRE r = true) ∨ l = reTail
  | [], e => .inr (beq_iff_eq.mp e)
  | .ref c :: r, e => .inl ⟨c, r, rfl, e⟩
  | .none :: _, e => .inr (beq_iff_eq.mp e)
  | .ellipsis :: _, e => .inr (beq_iff_eq.mp e)
  | .notImplemented :: _, e => .inr (beq_iff_eq.mp e)
  | .bool _ :: _, e => .inr (beq_iff_eq.mp e)
  | .int _ _ :: _, e => .inr (beq_iff_eq.mp e)
  | .float _ _ :: _, e => .inr (beq_iff_eq.mp e)
  | .str _ _ :: _, e => .inr (beq_iff_eq.mp e)
  | .bytes _ _ :: _, e => .inr (beq_iff_eq.mp e)
  | .type _ :: _, e => .inr (beq_iff_eq.mp e)
  | .builtin _ :: _, e => .inr (beq_iff_eq.mp e)
theorem refsRE_pass (self : Value) : ∀ l : List Value, refsRE l = true → refuseLoop self "__setattr__" l = pure () := by
  intro l
  induction l with
  | nil => intro e; exact absurd e (by decide)
  | cons a r ih =>
    intro e
    rcases refsRE_cases (a :: r) e with ⟨c, r', q, h⟩ | q
    · obtain ⟨rfl, rfl⟩ := List.cons.inj q
      rw [refuseLoop_ref]; exact ih h
    · rw [q]; exact PySem.F.store_RuntimeError.passes self
theorem refsRE_contains (X : String) : ∀ l : List Value, refsRE l = true → l.contains (.type X) = reTail.contains (.type X) := by
  intro l
  induction l with
  | nil => intro e; exact absurd e (by decide)
  | cons a r ih =>
    intro e
    rcases refsRE_cases (a :: r) e with ⟨c, r', q, h⟩ | q
    · obtain ⟨rfl, rfl⟩ := List.cons.inj q
      rw [List.contains_cons, ih h]; rfl
    · rw [q]
theorem refsRE_ne {l : List Value} (e : refsRE l = true) : l.isEmpty = false := by
  cases l with
  | nil => exact absurd e (by decide)
  | cons _ _ => rfl
section
variable {prog : Program} {w : World} {A : Around} {R : Result → Shared → Prop} {hp : Heap} {g : Array GenState} {d : Drawn} {t : Nat} {os : OsState}
theorem exc_osaR {K : W.Frag} {name : Str} {tk : Tok} {v : Value} {x C : Addr} {fv : Array Value} {cd : ClassData}
    (X : K.In hp) (hx : hp.get? x = some { cls := .ref C, data := .fields fv }) (hcd : W.clsIn K C = some cd) (hm : refsRE cd.mro = true) (hh : cd.hasDict = true) (ha : W.findIn K (.ref C) name = some none)
    (hq : ∀ h' tk' dx, (∀ b o, b ≠ x → hp.get? b = some o → h'.get? b = some o) → hp.objs.size ≤ dx → dx ≠ x → h'.get? x = some { cls := .ref C, dict := some dx, data := .fields fv } →
      h'.Ns1 dx (fun y => if y = name then some v else none) → R (.ok (.ret .none)) ⟨h', g, d, tk', os⟩) :
    codeAny (model prog w) A (.call (.builtin "object.__setattr__") ⟨[.ref x, .str name tk, v], []⟩) R ⟨hp, g, d, t, os⟩ := by
  have I : W.InstAt hp x { cls := .ref C, data := .fields fv } C none := ⟨hx, rfl, rfl, trivial⟩
  have SF := F.store_object
  have ne := refsRE_ne hm
  have hob : cd.mro.contains (.type "object") = true := (refsRE_contains "object" _ hm).trans (by decide +kernel)
  have hxs : x ≠ hp.objs.size := Nat.ne_of_lt (Heap.lt_size hx)
  have sub : W.Looks (model prog w) hp (isInstance (.ref x) (.type "object")) true := I.type.andThen (W.looks_mroIn X (by unfold W.mroIn; rw [hcd, Option.bind_some, if_neg (by rw [ne]; decide), hob]))
  refine codeAny_call_builtin SF.slot.plain SF.entry (@W.check_slot (model prog w) _ _ ⟨hp, g, d, t, os⟩ "object.__setattr__" "object" "__setattr__" (.ref x) [.str name tk, v] [] _ SF.kind SF.split sub (SF.args (.ref x) (.str name tk) v) ?_)
  have hmr : W.Looks (model prog w) hp (mroOf (.ref C)) cd.mro := (W.looks_clsIn X hcd).andThen .now
  have L3 : W.Looks (model prog w) hp (storeTaker? none) none := .now
  have hcls : W.Looks (model prog w) hp (classData C) cd := W.looks_clsIn X hcd
  rw [W.osa_eq, refuse_eq]
  refine wpAny_bind (wpAny_bind (I.type.at (wpAny_bind (hmr.at ?_))))
  rw [refsRE_pass _ _ hm]
  refine wpAny_pure (wpAny_bind (I.type.at (wpAny_bind ((W.looks_findIn X ha).at (wpAny_bind (L3.at ?_))))))
  show wpAny _ _ (storeInOwnDict (.ref x) (.ref C) (.str name tk) name v false) _ _ _
  obtain ⟨nm, bs, mro, ns, qn, hd, sn, sb, ab, col, del⟩ := cd
  dsimp only at hh
  subst hh
  unfold storeInOwnDict ownDictForStores
  repeat (first | with_reducible refine store_in_new ?_ ?_ | with_reducible refine wpAny_loadPart_at hx ?_ | with_reducible refine hcls.at ?_ | wp_step)
  · exact ⟨_, #[], _, (Heap.get?_update_ne _ _ _ _ hxs.symm).trans (Heap.get?_push_at rfl rfl), rfl, fun e he => absurd he (by simp), fun _ => rfl⟩
  · intro h' tk' hn' hs
    have hx₁ : (hp.push { cls := .type "dict", data := .dict #[] }).get? x = some { cls := .ref C, data := .fields fv } := Heap.get?_push_of_some _ hx
    refine hq h' tk' hp.objs.size (fun b o hb ho => ?_) (Nat.le_refl _) hxs.symm ?_ hn'
    · exact (hs.2 b (Nat.ne_of_lt (Heap.lt_size ho))).trans ((Heap.get?_update_ne _ _ _ _ hb).trans (Heap.get?_push_of_some _ ho))
    · exact (hs.2 x hxs).trans (Heap.get?_update_self _ hx₁ rfl)
end
/-! ### the text of __init__ -/
def iA (p1 p2 : Pos) : Arguments := { posonlyargs := [], args := [{ arg := "self", annotation := none, pos := p1 }, { arg := "last", annotation := none, pos := p2 }], vararg := none, kwonlyargs := [], kw_defaults := [], kwarg := none, defaults := [] }
def iB (q1 q2 q3 q4 : Pos) : List Stmt := [.Assign [.Attribute (.Name "self" q1) "last" q2] (.Name "last" q3) q4]
def iS : Scope := { kind := .function, names := [(PySem.Str.ofString "self", .local), (PySem.Str.ofString "last", .local)], isGenerator := false, isCoroutine := false, more := [] }
/-- what the written part says of Low, at C, and of its __init__, at fI -/
structure EldTxt (K : Frag) (mg : Str → Option Value) (C fI : Addr) : Prop where
  gC : mg "Elder" = some (.ref C)
  cls : ∃ nm q N bs bm sn sub ab col dd k0 k1 k2 k3 k5, K.lookup C = some (excClassObj nm q C N bs bm true sn sub ab col dd k0 k1 k2 k3 k5 "RuntimeError.__new__") ∧ refsRE bm = true
  sa : findIn K (.ref C) "__setattr__" = some (some (.builtin "object.__setattr__"))
  ga : findIn K (.ref C) "__getattribute__" = some (some (.builtin "BaseException.__getattribute__"))
  gg : findIn K (.ref C) "__getattr__" = some none
  noN : findIn K (.ref C) "last" = some none
  iC : findIn K (.ref C) "__init__" = some (some (.ref fI))
  tC : typeIn K (.ref fI) = some (.type "function")
  kC : keepIn K (.ref C) = true
  exC : subIn K (.ref C) (.type "BaseException") = some true
  tyC : typeIn K (.ref C) = some (.type "type")
  hdC : hasDictIn K C = true
  te : exmOne K (.ref C) (.ref C) = some true
  fn : ∃ (oc : Value) (od : Option Addr) (doc pm : Value) (an : Option Addr) (cdv ct : Value) (osl : Array (Option Value)) (p1 p2 q1 q2 q3 q4 : Pos),
    K.lookup fI = some ⟨oc, od, .func (fnOf "__init__" "Elder.__init__" (iA p1 p2) (iB q1 q2 q3 q4) iS .none .none doc pm an cdv ct), osl⟩ ∧ codeIn K cdv "Elder.__init__" = true
theorem one_size (v : Value) : [v].length ≤ sizeLine := by
  rw [sizeLine_eq]
  exact (by decide : 1 ≤ 16777216)
theorem kept_but {K : Frag} {h h' : Heap} {x : Addr} (X : K.In h) (hx : K.lookup x = none) (k : ∀ b o, b ≠ x → h.get? b = some o → h'.get? b = some o) : K.In h' := fun a o e =>
  k a o (fun z => by rw [z, hx] at e; cases e) (X a o e)
theorem ldC {M : Model} {s : Shared} {name : Str} {scope : Scope} {L a : Addr} {cd : Value} {m : Str → Option Value} {x : Str} {pos : Pos} {v : Value} {Q : Value → Shared → Prop} {A : Around} {E : Value → Shared → Prop} (hn : s.heap.Ns L m) (hv : m x = some v) (h : Q v s)
    (hk : scope.kind = .function := by rfl) (hl : (envOfC name scope L a cd).kindOf x = some .local := by rfl) (hd : (x == ("__debug__" : Str)) = false := by decide) :
    wpAny M A (eval (.Name x pos) (envOfC name scope L a cd)) Q E s := wpAny_Name (wpAny_loadName_local hk hl hn hv h) hd
/-- what __init__ leaves of a fresh exception at x -/
structure InitEnd (h h' : Heap) (x C dx t1 : Addr) (v : Value) : Prop where
  keep : ∀ b o, b ≠ x → h.get? b = some o → h'.get? b = some o
  obj : h'.get? x = some { cls := .ref C, dict := some dx, data := .fields #[.ref t1, .none, .none, .none, .bool false, .none] }
  dbig : h.objs.size ≤ dx
  dne : dx ≠ x
  ns : h'.Ns1 dx (fun y => if y = "last" then some v else none)
/-- a made Low -/
structure OwnMade (h h' : Heap) (e C d : Addr) (v : Value) : Prop where
  keep : ∀ b o, h.get? b = some o → h'.get? b = some o
  new : h.objs.size ≤ e
  obj : ∃ oe vs, h'.get? e = some oe ∧ oe.cls = .ref C ∧ oe.dict = some d ∧ oe.data = .fields vs ∧ vs[1]? = some .none
  dbig : h.objs.size ≤ d
  dne : d ≠ e
  ns : h'.Ns1 d (fun y => if y = "last" then some v else none)
section
variable {prog : Program} {w : World} {A : Around} {E : Value → Shared → Prop} {R : Result → Shared → Prop} {s : Shared} {K : Frag} {mg : Str → Option Value} {C fI : Addr}
theorem eld_init (T : EldTxt K mg C fI) {x t0 : Addr} {v : Value} (X : K.In s.heap) (hlim : s.heap.NoLimit) (hx : s.heap.get? x = some (excO C t0)) (hnx : K.lookup x = none) (hroom : A.depth < recursionLimit)
    (hq : ∀ h' tk dx, InitEnd s.heap h' x C dx t0 v → R (.ok (.ret .none)) { s with heap := h', toks := tk }) :
    codeAny (model prog w) A (.call (.ref fI) ⟨[.ref x, v], []⟩) R s := by
  obtain ⟨oc, od, doc, pm, an, cdv, ct, osl, p1, p2, q1, q2, q3, q4, ho, hcd⟩ := T.fn
  obtain ⟨nm, q, N, bs, bm, sn, sub, ab, col, dd, k0, k1, k2, k3, k5, hC, hbm⟩ := T.cls
  have hcl : clsIn K C = some { name := nm, bases := bs, mro := .ref C :: bm, ns := N, qualname := q, hasDict := true, slotNames := sn, subclasses := sub, abstract := ab, collection := col, hasDel := false } := by unfold clsIn; rw [hC] <;> rfl
  refine Att.call_fn (binds := [("self", .ref x), ("last", v)]) X hlim ho hcd hroom (BindsTo.of_eq (by first | rfl | with_unfolding_all rfl)) (by first | rfl | decide | with_unfolding_all rfl) (fun s₁ IC => ?_) rfl rfl rfl
  obtain ⟨h₁, tk₁, rfl⟩ := IC.toInCall.same
  have k : ∀ b o, s.heap.get? b = some o → h₁.get? b = some o := IC.toInCall.keep
  have hn := IC.toInCall.ns
  have hxL : s.heap.objs.size ≠ x := Nat.ne_of_gt (Heap.lt_size hx)
  have X₁ : K.In h₁ := X.keeps k
  have hx₁ := k _ _ hx
  -- self.by = by
  show wpAny _ _ (execs _ _) _ _ _
  refine wpAny_execs_cons (plainObj_wpAny_Assign_Attribute ?_)
  refine ldC (v := v) hn (by first | rfl | with_unfolding_all rfl | kernel_rfl) (ldC (v := .ref x) hn (by first | rfl | with_unfolding_all rfl | kernel_rfl) ?_)
  refine set_plain X₁ (ox := excO C t0) (od := none) ⟨hx₁, rfl, rfl, trivial⟩ T.sa ?_
  refine exc_osaR X₁ hx₁ hcl (show refsRE (.ref C :: bm) = true from hbm) rfl T.noN (fun h₃ tk₃ dx k₃ dn dne hx₃ hn₃ => ?_)
  show wpAny _ _ (execs _ _) _ _ _
  have z : s.heap.objs.size < h₁.objs.size := hn.lt
  exact wpAny_execs_nil (hq h₃ tk₃ dx ⟨fun b o hb e => k₃ b o hb (k b o e), hx₃, Nat.le_of_lt (Nat.lt_of_lt_of_le z dn), dne, hn₃⟩)
theorem eld_made (T : EldTxt K mg C fI) {v : Value} (X : K.In s.heap) (hlim : s.heap.NoLimit) (hroom : A.depth + 1 < recursionLimit)
    (hq : ∀ h' tk e d, OwnMade s.heap h' e C d v → R (.ok (.ret (.ref e))) { s with heap := h', toks := tk }) :
    codeAny (model prog w) A (.call (.ref C) ⟨[v], []⟩) R s := by
  obtain ⟨nm, q, N, bs, bm, sn, sub, ab, col, dd, k0, k1, k2, k3, k5, hC, hbm⟩ := T.cls
  obtain ⟨hp, g, dr, tk, os⟩ := s
  have k : ∀ b o, hp.get? b = some o → ((hp.push (kdv_tup [v])).push (excO C hp.objs.size)).get? b = some o := fun b o e => Heap.get?_push_of_some _ (Heap.get?_push_of_some _ e)
  have hget : ((hp.push (kdv_tup [v])).push (excO C hp.objs.size)).get? (hp.objs.size + 1) = some (excO C hp.objs.size) := by heap_get
  have hnx : K.lookup (hp.objs.size + 1) = none := by
    cases e : K.lookup (hp.objs.size + 1) with
    | none => rfl
    | some o =>
      have z : hp.get? (hp.objs.size + 1) = some o := X _ _ e
      exact absurd (Nat.lt_of_succ_lt (Heap.lt_size z)) (Nat.lt_irrefl _)
  refine call_own F.excBase_RuntimeError (fun X => refsRE_contains X bm hbm) (X _ _ hC) (looks_findIn X T.iC) (fun self => bind_fn X self T.tC) (one_size v) ?_
  refine eld_init (s := ⟨(hp.push (kdv_tup [v])).push (excO C hp.objs.size), g, dr, tk, os⟩) T (X.keeps k) (hlim.keeps k) hget hnx ?_ fun h' tk' dx ⟨k', hx, dn, dne, hns⟩ => ?_
  · show A.depth + 1 < recursionLimit
    exact hroom
  · have old : ∀ b o, hp.get? b = some o → h'.get? b = some o := fun b o e => k' b o (Nat.ne_of_lt (Nat.lt_succ_of_lt (Heap.lt_size e))) (k b o e)
    have z : hp.objs.size + 1 + 1 ≤ dx := by
      first
        | (simpa only [Heap.size_push] using dn)
        | exact dn
        | (have q := dn; rw [Heap.size_push, Heap.size_push] at q; exact q)
    exact ⟨rfl, hq h' tk' (hp.objs.size + 1) dx ⟨old, Nat.le_succ _, ⟨_, _, hx, rfl, rfl, rfl, rfl⟩, Nat.le_trans (Nat.le_trans (Nat.le_succ _) (Nat.le_succ _)) z, dne, hns⟩⟩
end
end EldX
end PySem
namespace NK
open PySem PySem.Spec PyProof.Rows L2
theorem relO_eld {v : V} {v' : Value} (r : RelV v v') (f : Str) : RelO (List.lookup f [(("last" : Str), v)]) (if f = "last" then some v' else none) := by
  by_cases hw : f = "last"
  · subst hw
    rw [if_pos rfl]
    have q : List.lookup ("last" : Str) [(("last" : Str), v)] = some v := by simp [List.lookup]
    rw [q]
    exact r
  · rw [if_neg hw]
    have qw : (f == ("last" : Str)) = false := by simpa using hw
    have q2 : List.lookup f [(("last" : Str), v)] = none := by simp [List.lookup, qw]
    rw [q2]
    trivial
section
variable {X : Cx} {C fI : Addr}
/-- Low(e) -/
def tMkEld (C : Addr) (ta : TA) : L2.St → Hp → XK → Prop := fun σ H Q => ta σ H fun vs H1 => ∃ v, vs = [v] ∧ ∀ d, H1 d = none → Q (.ref C) (some d) (upd H1 d (.xd [(("last" : Str), v)]))
theorem pmk_eld {a : Expr} {ta : TA} {p pos : Pos} {k : Nat} (T : PySem.EldX.EldTxt X.K X.mg C fI) (hr : Room k X.A) (ha : PA X [a] ta) (hg : Gl X "Elder" := by rfl)
    (he : starEach (a :: []) X.env = (false, eval a X.env) :: starEach [] X.env := by rfl) (hpl : (backTo pos (starEach [] X.env)).any (·.1) = false := by rfl) :
    PMk X (.Call (.Name "Elder" p) [a] [] pos) (tMkEld C ta) := by
  intro pins s σ H Q I h
  refine wpAny_Call_Name_kw (ld_glob I hg T.gC ?_)
  refine PySem.W.callWith_K (h₀ := X.base) I.ok.mod.kin T.kC (thn (ha.run pos pins s σ H _ I h) fun us s1 hh => ?_) he hpl
  obtain ⟨vs, H1, I1, r1, v, ev, q1⟩ := hh
  subst ev
  refine ⟨I1.kIn, ?_⟩
  cases r1 with
  | cons rv rn =>
    rename_i v' us'
    cases rn
    show wpAny _ _ (call (.ref C) [v']) _ _ _
    have hlim := I1.nolimit
    obtain ⟨hp, g, dr, tk, os⟩ := s1
    refine wpAny_call (PySem.EldX.eld_made T I1.kIn hlim (by have := hr.dp; omega) fun h' tk' e d M => ?_)
    show MkP X pins σ Q (.ref e) ⟨h', g, dr, tk', os⟩
    obtain ⟨oe, fv, hoe, hc, hd, hdat, h1⟩ := M.obj
    have hns := M.ns
    obtain ⟨G', g1, g2⟩ := restrict h' fun b => decide (b ≠ e)
    have gk : ∀ b, b ≠ e → G'.get? b = h'.get? b := fun b hb => g1 b (decide_eq_true hb)
    have ge : G'.get? e = none := g2 e (by simp)
    have old : ∀ b o, hp.get? b = some o → G'.get? b = some o := fun b o q => (gk b (Nat.ne_of_lt (Nat.lt_of_lt_of_le (Heap.lt_size q) M.new))).trans (M.keep b o q)
    have ob : ObjOk X.prog X.w (upd H1 d (.xd [(("last" : Str), v)])) G' d (.xd [(("last" : Str), v)]) :=
      ⟨_, hns.at (fun o q => (gk d M.dne).trans q), fun f => relO_eld rv f⟩
    have J : Inv X pins σ (upd H1 d (.xd [(("last" : Str), v)])) ⟨G', g, dr, tk', os⟩ := I1.laid (t' := tk') old M.dbig ob
    refine ⟨e, oe, fv, ⟨G', g, dr, tk', os⟩, _, .ref C, some d, rfl, J, fun b o q => ?_, ge, hoe, ⟨hc, hd⟩, hdat, h1, ?_, rfl, I1.bare, raises_own T.exC T.tyC, q1 d (I1.hok.fresh M.dbig)⟩
    · by_cases hb : b = e
      · have q' : G'.get? b = some o := q
        rw [hb, ge] at q'; cases q'
      · exact (gk b hb).symm.trans q
    · rw [upd_ne (Ne.symm M.dne)]
      exact I1.hok.fresh M.new
/-- raise Low(e) -/
def tRaiseEld (C : Addr) (W : WX) (ta : TA) : TS := fun _ σ H => tMkEld C ta σ H fun cls d H' => W cls d σ H'
theorem ps_raiseEld {a : Expr} {ta : TA} {W : WX} {p pos pos2 : Pos} {k : Nat} (hc : X.calm = true) (T : PySem.EldX.EldTxt X.K X.mg C fI) (hr : Room k X.A) (tk : Takes X W) (ha : PA X [a] ta) (hg : Gl X "Elder" := by rfl)
    (he : starEach (a :: []) X.env = (false, eval a X.env) :: starEach [] X.env := by rfl) (hpl : (backTo pos (starEach [] X.env)).any (·.1) = false := by rfl) :
    PS X (.Raise (some (.Call (.Name "Elder" p) [a] [] pos)) none pos2) (tRaiseEld C W ta) := ps_raise hc tk (pmk_eld T hr ha hg he hpl)
/-- low.by, low the exception that the suite holds (at a; its class cls, its dict d) -/
def tByEld (C : Addr) (a : Addr) (cls : Value) (d : Option Addr) (te : TE) : TE := fun σ H Q => te σ H fun x H1 => x = .ref a ∧ cls = .ref C ∧ ∃ (dd : Addr) (v : V), d = some dd ∧ H1 dd = some (.xd [(("last" : Str), v)]) ∧ Q v H1
theorem pe_byEld {a : Addr} {oe : Obj} {cls : Value} {d : Option Addr} {pn : List (Addr × Obj)} {e : Expr} {te : TE} {pos : Pos} (T : PySem.EldX.EldTxt X.K X.mg C fI) (hz : Zc cls d oe) (hf : ∃ vs, oe.data = .fields vs) (he : PE (X.suite a ((a, oe) :: pn)) e te)
    (hb : attributeBase e "last" X.env (eval e X.env) = eval e X.env := by rfl) :
    PE (X.suite a ((a, oe) :: pn)) (.Attribute e "last" pos) (tByEld C a cls d te) := by
  refine ⟨fun pins s σ H Q I h => ?_⟩
  refine attr_of hb (thn (he.run pins s σ H _ I h) fun u s1 hh => ?_)
  obtain ⟨x, H1, I1, rx, ex, ec, dd, v, ed, ea, q⟩ := hh
  subst ex
  obtain rfl : u = Value.ref a := rx
  subst ec
  subst ed
  obtain ⟨ha, _⟩ := I1.pin (a, oe) (List.mem_append_left _ List.mem_cons_self)
  obtain ⟨vs, hd⟩ := hf
  have hx : ObjOk X.prog X.w H1 s1.heap dd (.xd [(("last" : Str), v)]) := I1.hok dd _ ea
  obtain ⟨mA, hns, hr⟩ := hx
  obtain ⟨od, ho, hl⟩ := lookIn_ns hns
  have l : List.lookup ("last" : Str) [(("last" : Str), v)] = some v := by simp [List.lookup]
  obtain ⟨u, hu, ru⟩ := RelO.some_of (v := v) (o := mA "last") (by rw [← l]; exact hr "last")
  have J : PySem.W.InstAt s1.heap a oe C (some od) := ⟨ha, hz.1, by unfold PySem.W.notCls; rw [hd] <;> rfl, by rw [hz.2]; exact ho⟩
  exact HandSPX.exc_get I1.kIn J T.ga T.gg T.exC (PySem.W.findObj_own T.hdC T.noN rfl (by rw [hl, hu])) (handed_of ru) ⟨v, H1, I1.tok _, ru, q⟩
end

/-! ### raise Elder(e); except Elder as n: t = n.last -/
def raiseP (x f : Str) (fa : M D) : S := withS fa fun d e => some (.exc { nm := x, pay := some (f, d) } e)
section
variable {X : Cx} {W : WX} {a : Expr} {p pos pos2 : Pos} {k : Nat} {fa : M D}
theorem s_raiseEl (T : ∃ C fI, PySem.EldX.EldTxt X.K X.mg C fI) (hr : Room k X.A) (tk : Takes X W) (ha : E' X W a fa) (hc : X.calm = true := by rfl) (hg : Gl X "Elder" := by rfl)
    (he : starEach (a :: []) X.env = (false, eval a X.env) :: starEach [] X.env := by rfl) (hpl : (backTo pos (starEach [] X.env)).any (·.1) = false := by rfl) :
    S' X W (.Raise (some (.Call (.Name "Elder" p) [a] [] pos)) none pos2) (raiseP "Elder" "last" fa) := by
  obtain ⟨C, fI, T⟩ := T
  refine (ps_raiseEld hc T hr tk (pa_cons ha pa_nil he) hg he hpl).mono fun D σ H q => ?_
  obtain ⟨c, Hs, env, S, q⟩ := q
  refine ⟨c, Hs, env, S, (WpS.withE q).weak fun d e1 Hs1 H1 s1 z1 w v r => ⟨v, rfl, fun dd hd => ?_⟩⟩
  exact w _ _ σ _ _ (s1.put hd) ⟨C, T.gC, rfl, dd, v, rfl, upd_same, r.mono (same_new (s1.freshS hd))⟩
def tryLS (i j : Nat) (mb : S) : S := fun env => match mb env with
  | some (.exc y e) => (match y.pay with
    | some (f, d) => if y.nm = "Elder" ∧ f = "last" ∧ i < e.length then some (.nx (((e.set i .no).set j (.sh d)).set i .no)) else none
    | none => none)
  | r => r
theorem s_tryLast {ob ex tg hd : List Str} {n : Str} {i j : Nat} {body : List Stmt} {st : Stmt} {np pos pos' : Pos} {mb : S} (TE : ∃ C fI, PySem.EldX.EldTxt X.K X.mg C fI) (T : TabOk X.K X.mg ob ex tg hd) (hx : ("Elder" : Str) ∈ hd) (hex2 : ("Elder" : Str) ∈ ex)
    (hs : X.stack = X.env :: X.outer) (hf : X.env.frame = some X.env.locals) (hex : X.ex = []) (hN : X.N.Nodup) (hi : X.N[i]? = some n) (hln : X.env.kindOf n = some .local)
    (hb : ∀ (W : WX) (pn : List (Addr × Obj)) (xe : Value → Shared → Prop), Takes (X.tr pn xe) W → PassesOwn (model X.prog X.w) X.A X.env xe → B' (X.tr pn xe) W body mb)
    (hsu : ∀ (C fI : Addr), PySem.EldX.EldTxt X.K X.mg C fI → ∀ (a : Addr) (oe : Obj) (cls : Value) (d : Option Addr) (pn : List (Addr × Obj)), Zc cls d oe → (∃ vs, oe.data = .fields vs) → PSs (X.suite a ((a, oe) :: pn)) [st] (tAsg (tByEld C a cls d (tVar i)) (gName j)))
    (hg : Gl X "Elder" := by rfl) :
    S' X W (.Try body [.ExceptHandler (some (.Name "Elder" np)) (some n) [st] pos'] [] [] pos) (tryLS i j mb) := by
  obtain ⟨Ce, fI, TE⟩ := TE
  obtain ⟨Cx, gx, km⟩ := T.fhd "Elder" hx
  refine (ps_try_keep (tb := fun W => vS X.K X.mg W mb) (ts := fun a cls d => tAsg (tByEld Ce a cls d (tVar i)) (gName j)) hs hf hex hN hi hln (c := .ref Cx) ⟨hg, by decide, .inl gx⟩ hb (hsu Ce fI TE)).mono fun D σ H q => ?_
  obtain ⟨c, Hs, env, S, q⟩ := q
  refine ⟨c, Hs, env, S, ?_⟩
  unfold tryLS at q
  cases e : mb env with
  | none => rw [e] at q; exact q
  | some r =>
    rw [e] at q
    cases r with
    | exc y e' =>
      show ∀ Hs' H' σ' cls dd, Sta X.K X.mg c Hs' H' σ' e' → ExnOk X.K X.mg Hs' H' y cls dd → _
      intro Hs' H' σ' cls dd S' ok
      obtain ⟨C, gC, rfl, pay⟩ := ok
      cases hp : y.pay with
      | none =>
        have q' : WpS X.K X.mg W c (match y.pay with
          | some (f, d) => if y.nm = "Elder" ∧ f = "last" ∧ i < e'.length then some (.nx (((e'.set i .no).set j (.sh d)).set i .no)) else none
          | none => none) D := q
        rw [hp] at q'; exact q'.elim
      | some fd =>
        obtain ⟨f, d⟩ := fd
        have q' : WpS X.K X.mg W c (match y.pay with
          | some (f, d) => if y.nm = "Elder" ∧ f = "last" ∧ i < e'.length then some (.nx (((e'.set i .no).set j (.sh d)).set i .no)) else none
          | none => none) D := q
        rw [hp] at q'
        dsimp only at q'
        rw [hp] at pay
        split at q'
        · rename_i hc
          obtain ⟨h1, rfl, h3⟩ := hc
          rw [h1] at gC
          have hC : C = Ce := by have := TE.gC; rw [gC] at this; cases this; rfl
          subst hC
          obtain ⟨pd, v, rfl, hp1, hp2⟩ := pay
          refine ⟨by rw [km "Elder" hex2 C gC]; decide +kernel, fun a ha => ?_⟩
          have hl : i < σ'.length := by rw [← S'.len]; exact h3
          refine ⟨.ref a, List.getElem?_set_self hl, rfl, rfl, pd, v, rfl, S'.s1 _ _ hp1, fun na => ?_⟩
          have P := S'.put (o := ExV (.ref C) (some pd) a) ha
          exact q' _ _ _ (((P.wipe (i := i) (ov := some (.ref a))).set (hp2.mono (same_new (S'.freshS ha)))).wipe (i := i) (ov := none))
        · exact q'.elim
    | nx e' => exact q
    | rt d e' => exact q
    | rn d e' => exact q
    | bk e' => exact q
    | ct e' => exact q
end

/-! ### f() -/
section
variable {X : Cx} {W : WX} {p pos : Pos} {x : Str}
theorem pe_callS0 {CX : CXT} {k : Nat} {f : Addr} {fd : FuncData} {ps : List Str} {sp : Sp} {E : L2.St → XK} (F : FnOk X.prog X.w X.K X.mg X.base CX k f fd ps sp) (hr : Room k X.A) (hg : Gl X x) (hm : X.mg x = some (.ref f)) (hk : PySem.W.keepIn X.K (.ref f) = true) (hb : Binds X.K fd ps []) (hx : ∀ σ, PassesAt CX X σ (E σ))
    (hdb : (x == ("__debug__" : Str)) = false) : PE X (.Call (.Name x p) [] [] pos) (tCallS sp E tNil) := by
  refine ⟨fun pins s σ H Q I h => ?_⟩
  refine wpAny_Call_Name_kw (ld_glob I hg hm ?_ hdb)
  exact PySem.W.callWith_K0 I.kIn hk (run_fnS (us := []) F hr hb (hx σ) I .nil h)
theorem n_cal0 {F : Fn} {k : Nat} (C : Cal X.prog X.w X.K X.mg X.base x k F 0) (hr : Room k X.A) (tk : Takes X W) (hg : Gl X x := by rfl) (hdb : (x == ("__debug__" : Str)) = false := by decide) : N' X W (.Call (.Name x p) [] [] pos) (callN F 0 nilM) := by
  obtain ⟨f, fd, ps, hm, hk, hb, G⟩ := C.ex
  exact (pe_callS0 G hr hg hm hk hb (fun σ => passW tk σ) hdb).mono fun σ H Q q => vA_nil (tCallN_of q)
end
/-- an error of the class at S is what «except S» names -/
theorem exm_self {K : PySem.W.Frag} {S : Addr} (h1 : PySem.W.subIn K (.ref S) (.type "BaseException") = some true) (h2 : PySem.W.isClsIn K S = true) (h3 : PySem.W.typeIn K (.ref S) = some (.type "type")) (h4 : PySem.W.subIn K (.ref S) (.ref S) = some true) :
    PySem.W.exmOne K (.ref S) (.ref S) = some true := by
  have e1 : (PySem.W.subIn K (.ref S) (.type "BaseException") == some true) = true := by rw [h1] <;> rfl
  have e2 : ((PySem.W.clsIn K S).isSome && PySem.W.typeIn K (.ref S) == some (.type "type")) = true := by
    have h2' : (PySem.W.clsIn K S).isSome = true := h2
    rw [h2', h3] <;> rfl
  show (if (PySem.W.subIn K (.ref S) (.type "BaseException") == some true) = true then (if ((PySem.W.clsIn K S).isSome && PySem.W.typeIn K (.ref S) == some (.type "type")) = true then PySem.W.subIn K (.ref S) (.ref S) else none) else none) = some true
  rw [if_pos e1, if_pos e2]
  exact h4
end NK

set_option Elab.async false
set_option linter.all false
set_option maxRecDepth 100000
set_option maxHeartbeats 4000000
namespace NK
open PySem PySem.Spec PyProof.Rows L2

/-! ### all that is owned stands still for one part, but one list -/
section
variable {K : PySem.W.Frag} {mg : Str → Option Value} {W : WX} {c : Ct} {σ : L2.St} {Hs H : Hp} {env : Env}
/-- what of the heap stands still beside one slot's list -/
def FrzK (K : PySem.W.Frag) (mg : Str → Option Value) (Hs H : Hp) (σ : L2.St) (env : Env) (k : Nat) (a : Addr) (p : Addr) : Prop := FrzA K mg Hs H σ (env.set k .no) p ∧ p ≠ a
/-- what the slot shows -/
theorem Sta.list_at {k : Nat} {cl : Cell} {ds : List D} (S : Sta K mg c Hs H σ env) (h : env[k]? = some cl) (ho : cl.own = some (.lst ds)) :
    ∃ a xs, σ[k]? = some (some (.ref a)) ∧ H a = some (.lst xs) ∧ RepL K mg Hs xs ds ∧ Hs a = none ∧ (a ∈ c.A ∨ c.H a = none) ∧
      (∀ i cl d, i ≠ k → env[i]? = some cl → cl.view = some d → ∃ v A, σ[i]? = some (some v) ∧ Own K mg Hs H v d A ∧ (∀ b ∈ A, Hs b = none) ∧ a ∉ A) := by
  obtain ⟨B, hA, hN, hD, hX⟩ := S.cells
  have g := hA k cl h
  obtain ⟨v, g1, g2, g3⟩ : ∃ v, σ[k]? = some (some v) ∧ Own K mg Hs H v (.lst ds) (B k) ∧ (∀ a ∈ B k, Hs a = none ∧ (a ∈ c.A ∨ c.H a = none)) := by
    cases cl with
    | ow e => cases ho; exact g
    | io e => cases ho; obtain ⟨v, g1, g2, g3, g4⟩ := g; exact ⟨v, g1, g2, g3⟩
    | _ => cases ho
  generalize hB : B k = A at g2 g3
  cases g2 with
  | @lst a xs _ e r =>
    have ha := g3 a (by simp)
    refine ⟨a, xs, g1, e, r, ha.1, ha.2, fun i cl' d hi h' hv => ?_⟩
    have two : ∀ b ∈ B i, b ≠ a := fun b hb z => hX i k hi b hb (by rw [hB]; simp [z])
    have g' := hA i cl' h'
    cases cl' with
    | no => cases hv
    | sh d => cases hv
    | al s k => cases hv
    | ow e => cases hv; obtain ⟨v, g1, g2, g3⟩ := g'; exact ⟨v, _, g1, g2, fun a ha => (g3 a ha).1, fun z => two _ z rfl⟩
    | io e => cases hv; obtain ⟨v, g1, g2, g3, _⟩ := g'; exact ⟨v, _, g1, g2, fun a ha => (g3 a ha).1, fun z => two _ z rfl⟩
    | ro e =>
      cases hv
      obtain ⟨_, v, g1, g2⟩ := g'
      obtain ⟨C, o, q⟩ := S.ro i v _ g2
      refine ⟨v, C, g1, o.mono S.s0 fun a ha o' z => S.fr a o' z (q a ha).2, fun a ha => S.fh a (q a ha).1 (o.has a ha) (q a ha).2, fun z => ?_⟩
      rcases ha.2 with w | w
      · exact (q a z).2 w
      · exact o.has a z w
noncomputable abbrev fzkCt (Hs H : Hp) (F : Addr → Prop) (a : Addr) : Ct := ⟨frzP Hs H F, H, [a], fun _ => none, fun _ => none⟩
def fzkEnv (k : Nat) (ds : List D) (env : Env) : Env := (frzEnv env).set k (.ow (.lst ds))
theorem set_get {α : Type} {l : List α} {i j : Nat} {x y : α} (h : (l.set i x)[j]? = some y) : (j = i ∧ y = x) ∨ (j ≠ i ∧ l[j]? = some y) := by
  by_cases e : j = i
  · subst e
    have hl : j < l.length := by have := (List.getElem?_eq_some_iff.mp h).1; simpa using this
    rw [List.getElem?_set_self hl] at h
    exact .inl ⟨rfl, (Option.some.inj h).symm⟩
  · rw [List.getElem?_set_ne (Ne.symm e)] at h
    exact .inr ⟨e, h⟩
theorem Sta.fzk {k : Nat} {cl : Cell} {ds : List D} {a : Addr} {xs : List V} (S : Sta K mg c Hs H σ env) (h : env[k]? = some cl)
    (h1 : σ[k]? = some (some (.ref a))) (h2 : H a = some (.lst xs)) (h3 : RepL K mg Hs xs ds) (h4 : Hs a = none)
    (h6 : ∀ i cl d, i ≠ k → env[i]? = some cl → cl.view = some d → ∃ v A, σ[i]? = some (some v) ∧ Own K mg Hs H v d A ∧ (∀ b ∈ A, Hs b = none) ∧ a ∉ A) :
    Sta K mg (fzkCt Hs H (FrzK K mg Hs H σ env k a) a) (frzP Hs H (FrzK K mg Hs H σ env k a)) H σ (fzkEnv k ds env) := by
  have na : ¬ FrzK K mg Hs H σ env k a a := fun z => z.2 rfl
  refine ⟨Same.refl _, frz_sameH S.s1, fun _ _ h _ => h, fun _ h _ _ => h, fun _ h => h, fun _ _ _ h => (nomatch h), by unfold fzkEnv frzEnv; rw [List.length_set, List.length_map]; exact S.len, fun i => if i = k then [a] else [], fun i cl h => ?_, fun i hi => ?_, fun i => ?_, fun i j hij b hb => ?_⟩
  · unfold fzkEnv at h
    rcases set_get h with ⟨e1, e2⟩ | ⟨e1, e2⟩
    · subst e1 e2
      show CellOk K mg _ _ _ _ _ (.ow (.lst ds)) (if i = i then [a] else [])
      rw [if_pos rfl]
      exact ⟨.ref a, h1, .lst h2 (h3.mono (frz_same S.s1)), fun b hb => by simp at hb; subst hb; exact ⟨by rw [frzP_out na]; exact h4, .inl (by simp)⟩⟩
    · show CellOk K mg _ _ _ _ _ cl (if i = k then [a] else [])
      rw [if_neg e1]
      unfold frzEnv at e2
      rw [List.getElem?_map] at e2
      cases e : env[i]? with
      | none => rw [e] at e2; cases e2
      | some cl0 =>
        rw [e] at e2
        have h' : frzC cl0 = cl := Option.some.inj e2
        subst h'
        have see : ∀ d, cl0.view = some d → ∃ v, σ[i]? = some (some v) ∧ Rep K mg (frzP Hs H (FrzK K mg Hs H σ env k a)) v d := fun d hv => by
          obtain ⟨v, A, g1, g2, g3, g4⟩ := h6 i cl0 d e1 e hv
          exact ⟨v, g1, g2.rep (frz_same S.s1) fun b hb o q => by
            rw [frzP_in ⟨⟨i, cl0, d, v, A, by rw [List.getElem?_set_ne (Ne.symm e1)]; exact e, hv, g1, g2, hb, g3 b hb⟩, fun z => g4 (z ▸ hb)⟩]; exact q⟩
        cases cl0 with
        | no => rfl
        | sh d => obtain ⟨v, g1, g2⟩ := S.shared e; exact ⟨rfl, v, g1, g2.mono (frz_same S.s1)⟩
        | ow d => obtain ⟨v, g1, g2⟩ := see d rfl; exact ⟨rfl, v, g1, g2⟩
        | io d => obtain ⟨v, g1, g2⟩ := see d rfl; exact ⟨rfl, v, g1, g2⟩
        | al s k => rfl
        | ro d => obtain ⟨v, g1, g2⟩ := see d rfl; exact ⟨rfl, v, g1, g2⟩
  · show (if i = k then [a] else []) = []
    by_cases e : i = k
    · subst e
      have hl : i < env.length := (List.getElem?_eq_some_iff.mp h).1
      unfold fzkEnv frzEnv at hi
      rw [List.getElem?_eq_none_iff, List.length_set, List.length_map] at hi
      omega
    · rw [if_neg e]
  · show (if i = k then [a] else []).Nodup
    split <;> simp
  · have hb' : b ∈ (if i = k then [a] else []) := hb
    show b ∉ (if j = k then [a] else [])
    split at hb'
    · rw [if_neg (by omega)]; simp
    · cases hb'
theorem FrzK.kind {Hs' H' : Hp} {σ' : L2.St} {e' : Env} {k : Nat} {a p : Addr} (S' : Sta K mg (fzkCt Hs H (FrzK K mg Hs H σ env k a) a) Hs' H' σ' e') (h : FrzK K mg Hs H σ env k a p) : OwnK (H' p) := by
  obtain ⟨⟨i, cl, d, v, A, h1, h2, h3, h4, h5, h6⟩, hp⟩ := h
  have nm : p ∉ [a] := by simpa using hp
  rcases h4.kind p h5 with ⟨xs, e⟩ | ⟨xs, e⟩ | ⟨C, dx, ks, e⟩
  · exact .inl ⟨xs, S'.fr p _ e nm⟩
  · exact .inr (.inl ⟨xs, S'.fr p _ e nm⟩)
  · exact .inr (.inr ⟨C, dx, ks, S'.fr p _ e nm⟩)
/-- data without what may change, seen from outside -/
theorem unfk_tup {F : Addr → Prop} {Hs' H' : Hp} (s1 : Same Hs' H') (hF : ∀ p, F p → OwnK (H' p)) {a : Addr} {xs : List V} (h : SqT K Hs' a xs) : SqT K (unfP Hs' F) a xs := by
  rcases h with (h | ⟨o, h⟩) | h
  · have nf : ¬ F a := fun z => by
      have e := s1 a _ h
      rcases hF a z with ⟨xs, q⟩ | ⟨xs, q⟩ | ⟨C, dx, ks, q⟩ <;> rw [e] at q <;> cases q
    exact .inl (.inl (by rw [unfP_out nf]; exact h))
  · have nf : ¬ F a := fun z => by
      have e := s1 a _ h
      rcases hF a z with ⟨xs, q⟩ | ⟨xs, q⟩ | ⟨C, dx, ks, q⟩ <;> rw [e] at q <;> cases q
    exact .inl (.inr ⟨o, by rw [unfP_out nf]; exact h⟩)
  · exact .inr h
mutual
theorem Rep.thawF {F : Addr → Prop} {Hs' H' : Hp} (s1 : Same Hs' H') (hF : ∀ p, F p → OwnK (H' p)) : ∀ {v : V} {d : D}, Rep K mg Hs' v d → thawB d = true → Rep K mg (unfP Hs' F) v d
  | _, _, .non, _ => .non
  | _, _, .bl b, _ => .bl b
  | _, _, .int b, _ => .int b
  | _, _, .str b, _ => .str b
  | _, _, .ty b, _ => .ty b
  | _, _, .cl b, _ => .cl b
  | _, _, .tup h r, t => .tup (unfk_tup s1 hF h) (RepL.thawF s1 hF r (by simpa [thawB] using t))
  | _, _, .lst _ _, t => nomatch t
  | _, _, .fl _ _, t => nomatch t
  | _, _, .dk _ _, t => nomatch t
  | _, _, .ob _ _ _ _, t => nomatch t
  | _, _, .mu _, t => nomatch t
  | _, _, .ml _ _, t => nomatch t
  | _, _, .ex _ _, t => nomatch t
  | _, _, .exP _ _ _ _ _, t => nomatch t
theorem RepL.thawF {F : Addr → Prop} {Hs' H' : Hp} (s1 : Same Hs' H') (hF : ∀ p, F p → OwnK (H' p)) : ∀ {v : List V} {d : List D}, RepL K mg Hs' v d → thawBs d = true → RepL K mg (unfP Hs' F) v d
  | _, _, .nil, _ => .nil
  | _, _, .cons h r, t => by
    simp only [thawBs, Bool.and_eq_true] at t
    exact .cons (Rep.thawF s1 hF h t.1) (RepL.thawF s1 hF r t.2)
end
theorem Sta.unfk {k : Nat} {cl : Cell} {ds ds' : List D} {a : Addr} {Hs' H' : Hp} {e' : Env} (S : Sta K mg c Hs H σ env) (h : env[k]? = some cl) (ho : cl.own = some (.lst ds))
    (h1 : σ[k]? = some (some (.ref a))) (h4 : Hs a = none) (h5 : a ∈ c.A ∨ c.H a = none)
    (S' : Sta K mg (fzkCt Hs H (FrzK K mg Hs H σ env k a) a) Hs' H' σ e') (he : e'[k]? = some (.ow (.lst ds'))) (ht : thawBs ds' = true) :
    Sta K mg c (unfP Hs' (FrzK K mg Hs H σ env k a)) H' σ (env.set k (cl.put (.lst ds'))) ∧ Same Hs (unfP Hs' (FrzK K mg Hs H σ env k a)) ∧
      (∀ v d, Rep K mg Hs' v d → thawB d = true → Rep K mg (unfP Hs' (FrzK K mg Hs H σ env k a)) v d) ∧
      (∀ x cls dd, ExnOk K mg Hs' H' x cls dd → thawX x = true → ExnOk K mg (unfP Hs' (FrzK K mg Hs H σ env k a)) H' x cls dd) := by
  have hF : ∀ p, FrzK K mg Hs H σ env k a p → OwnK (H' p) := fun p z => FrzK.kind S' z
  have na : ¬ FrzK K mg Hs H σ env k a a := fun z => z.2 rfl
  have sm : Same Hs (unfP Hs' (FrzK K mg Hs H σ env k a)) := fun p o q => by
    have nf : ¬ FrzK K mg Hs H σ env k a p := fun ⟨⟨_, _, _, _, _, _, _, _, _, _, z⟩, _⟩ => by rw [z] at q; cases q
    rw [unfP_out nf]
    exact S'.s0 p o (by show frzP Hs H _ p = some o; rw [frzP_out nf]; exact q)
  have keep : ∀ b o, b ≠ a → H b = some o → H' b = some o := fun b o n q => S'.fr b o q (by simpa using n)
  have th : ∀ v d, Rep K mg Hs' v d → thawB d = true → Rep K mg (unfP Hs' (FrzK K mg Hs H σ env k a)) v d := fun v d r t => r.thawF S'.s1 hF t
  -- what the slot holds at the end
  obtain ⟨xs', g1, g2, g3⟩ : ∃ xs', H' a = some (.lst xs') ∧ RepL K mg Hs' xs' ds' ∧ Hs' a = none := by
    obtain ⟨B', hA', _, _, _⟩ := S'.cells
    obtain ⟨v, q1, q2, q3⟩ := hA' k _ he
    rw [h1] at q1; cases q1
    generalize hB : B' k = A at q2 q3
    cases q2 with
    | lst e r => exact ⟨_, e, r, (q3 a (by simp)).1⟩
  obtain ⟨B, hA, hN, hD, hX⟩ := S.cells
  have hk := hA k cl h
  have hBk : B k = [a] := by
    obtain ⟨v, q1, q2⟩ : ∃ v, σ[k]? = some (some v) ∧ Own K mg Hs H v (.lst ds) (B k) := by
      cases cl with
      | ow e => cases ho; obtain ⟨v, q1, q2, _⟩ := hk; exact ⟨v, q1, q2⟩
      | io e => cases ho; obtain ⟨v, q1, q2, _⟩ := hk; exact ⟨v, q1, q2⟩
      | _ => cases ho
    rw [h1] at q1; cases q1
    generalize B k = A at q2
    cases q2 with
    | lst e r => rfl
  have pa : ∀ p, c.H p ≠ none → p ∉ c.A → p ≠ a := fun p q w z => by
    subst z
    rcases h5 with y | y
    · exact w y
    · exact q y
  refine ⟨⟨S.s0.trans sm, fun p o q => ?_, fun p o q w => keep p o (pa p (by rw [q]; simp) w) (S.fr p o q w), fun p q w z => ?_, fun p q => S'.hh p (S.hh p q), S.ro, by rw [List.length_set]; exact S.len, B, fun i cl' h' => ?_, fun i hi => ?_, hD, hX⟩, sm, th, fun x cls dd ok t => ?_⟩
  · by_cases nf : FrzK K mg Hs H σ env k a p
    · rw [unfP_in nf] at q; cases q
    · rw [unfP_out nf] at q; exact S'.s1 p o q
  · by_cases nf : FrzK K mg Hs H σ env k a p
    · rw [unfP_in nf]
    · rw [unfP_out nf]
      exact S'.fh p (by show frzP Hs H _ p = none; rw [frzP_out nf]; exact S.fh p q w z) (S.hh p w) (by simpa using pa p w z)
  · rcases set_get h' with ⟨e1, e2⟩ | ⟨e1, e2⟩
    · subst e1 e2
      rw [hBk]
      have own' : Own K mg (unfP Hs' (FrzK K mg Hs H σ env i a)) H' (.ref a) (.lst ds') [a] := .lst g1 (RepL.thawF S'.s1 hF g2 ht)
      have fin : ∀ b ∈ [a], unfP Hs' (FrzK K mg Hs H σ env i a) b = none ∧ (b ∈ c.A ∨ c.H b = none) := fun b hb => by
        simp at hb; subst hb; exact ⟨by rw [unfP_out na]; exact g3, h5⟩
      cases cl with
      | ow e => exact ⟨_, h1, own', fin⟩
      | io e =>
        obtain ⟨v, q1, q2, q3, q4⟩ := hk
        rw [h1] at q1; cases q1
        exact ⟨_, h1, own', fin, q4⟩
      | _ => cases ho
    · have g := hA i cl' e2
      have two : ∀ b ∈ B i, b ≠ a := fun b hb z => hX i k e1 b hb (by rw [hBk]; simp [z])
      have un : ∀ v d, cl'.view = some d → σ[i]? = some (some v) → Own K mg Hs H v d (B i) → (∀ b ∈ B i, Hs b = none) → ∀ b ∈ B i, unfP Hs' (FrzK K mg Hs H σ env k a) b = none := fun v d hv q1 q2 q3 b hb =>
        unfP_in ⟨⟨i, cl', d, v, B i, by rw [List.getElem?_set_ne (Ne.symm e1)]; exact e2, hv, q1, q2, hb, q3 b hb⟩, two b hb⟩
      cases cl' with
      | no => exact g
      | sh d => obtain ⟨g0, v, g1, g2⟩ := g; exact ⟨g0, v, g1, g2.mono sm⟩
      | ow d =>
        obtain ⟨v, q1, q2, q3⟩ := g
        exact ⟨v, q1, q2.mono sm fun b hb o q => keep b o (two b hb) q, fun b hb => ⟨un v d rfl q1 q2 (fun b hb => (q3 b hb).1) b hb, (q3 b hb).2⟩⟩
      | io d =>
        obtain ⟨v, q1, q2, q3, q4⟩ := g
        exact ⟨v, q1, q2.mono sm fun b hb o q => keep b o (two b hb) q, fun b hb => ⟨un v d rfl q1 q2 (fun b hb => (q3 b hb).1) b hb, (q3 b hb).2⟩, q4⟩
      | al s k => obtain ⟨g0, v, a, vs, q1, q2, q3, q4⟩ := g; exact ⟨g0, v, a, vs, q1, q2, sm _ _ q3, q4⟩
      | ro d => exact g
  · by_cases e : i = k
    · subst e
      have hl : i < env.length := (List.getElem?_eq_some_iff.mp h).1
      rw [List.getElem?_eq_none_iff, List.length_set] at hi
      omega
    · rw [List.getElem?_set_ne (Ne.symm e)] at hi
      exact hN i hi
  · obtain ⟨C, q1, q2, q3⟩ := ok
    refine ⟨C, q1, q2, ?_⟩
    unfold thawX at t
    cases e : x.pay with
    | none => rw [e] at q3; exact q3
    | some pd =>
      obtain ⟨f, d⟩ := pd
      rw [e] at q3 t
      obtain ⟨p, v, r1, r2, r3⟩ := q3
      have nf : ¬ FrzK K mg Hs H σ env k a p := fun z => by
        have e := S'.s1 p _ r2
        rcases hF p z with ⟨xs, q⟩ | ⟨xs, q⟩ | ⟨C, dx, ks, q⟩ <;> rw [e] at q <;> cases q
      exact ⟨p, v, r1, by rw [unfP_out nf]; exact r2, th _ _ r3 t⟩
end
/-- a part, while all that is owned stands still but the list of one slot -/
def fzkPut (k : Nat) (env e : Env) : Option Env := match env[k]?, e[k]? with
  | some cl, some (.ow (.lst ds)) => if thawBs ds = true then some (env.set k (cl.put (.lst ds))) else none
  | _, _ => none
def fzkM (k : Nat) (f : M D) : M D := fun env => match env[k]? with
  | some cl => (match cl.own with
    | some (.lst ds) => (match f (fzkEnv k ds env) with
      | some (.val d e) => if thawB d = true then (fzkPut k env e).map (.val d) else none
      | some (.exc x e) => if thawX x = true then (fzkPut k env e).map (.exc x) else none
      | none => none)
    | _ => none)
  | none => none
section
variable {X : Cx} {e : Expr} {W : WX}
theorem fzkPut_of {k : Nat} {env e env' : Env} (h : fzkPut k env e = some env') : ∃ cl ds, env[k]? = some cl ∧ e[k]? = some (.ow (.lst ds)) ∧ thawBs ds = true ∧ env' = env.set k (cl.put (.lst ds)) := by
  unfold fzkPut at h
  split at h
  · rename_i cl ds h1 h2
    split at h
    · rename_i h3
      cases h
      exact ⟨cl, ds, h1, h2, h3, rfl⟩
    · cases h
  · cases h
theorem e_fzk {k : Nat} {f : M D} (h : E' X W e f) : E' X W e (fzkM k f) := h.mono fun σ H Q q => by
  obtain ⟨c, Hs, env, S, q⟩ := q
  unfold fzkM at q
  cases hc : env[k]? with
  | none => rw [hc] at q; exact q.elim
  | some cl =>
    rw [hc] at q
    dsimp only at q
    cases ho : cl.own with
    | none => rw [ho] at q; exact q.elim
    | some d0 =>
      rw [ho] at q
      cases d0 with
      | lst ds =>
        obtain ⟨a, xs, h1, h2, h3, h4, h5, h6⟩ := S.list_at hc ho
        refine ⟨_, _, _, S.fzk hc h1 h2 h3 h4 h6, ?_⟩
        cases e1 : f (fzkEnv k ds env) with
        | none => dsimp only at q; rw [e1] at q; exact q
        | some o =>
          dsimp only at q
          rw [e1] at q
          cases o with
          | val d e2 =>
            have q' : Wp X.K X.mg W c σ Hs (if thawB d = true then (fzkPut k env e2).map (.val d) else none) fun d _ Hs' H' => ∀ v, Rep X.K X.mg Hs' v d → Q v H' := q
            split at q'
            · rename_i ht
              cases hp : fzkPut k env e2 with
              | none => rw [hp] at q'; exact q'.elim
              | some env' =>
                rw [hp] at q'
                obtain ⟨cl', ds', p1, p2, p3, p4⟩ := fzkPut_of hp
                rw [hc] at p1; cases p1; subst p4
                intro Hs' H' S' z v r
                obtain ⟨S2, sm, th, _⟩ := S.unfk hc ho h1 h4 h5 S' p2 p3
                exact q' _ H' S2 sm v (th _ _ r ht)
            · exact q'.elim
          | exc x e2 =>
            have q' : Wp X.K X.mg W c σ Hs (if thawX x = true then (fzkPut k env e2).map (.exc x) else none) fun d _ Hs' H' => ∀ v, Rep X.K X.mg Hs' v d → Q v H' := q
            split at q'
            · rename_i ht
              cases hp : fzkPut k env e2 with
              | none => rw [hp] at q'; exact q'.elim
              | some env' =>
                rw [hp] at q'
                obtain ⟨cl', ds', p1, p2, p3, p4⟩ := fzkPut_of hp
                rw [hc] at p1; cases p1; subst p4
                intro Hs' H' cls dd S' z ok
                obtain ⟨S2, sm, _, tx⟩ := S.unfk hc ho h1 h4 h5 S' p2 p3
                exact q' _ H' cls dd S2 sm (tx _ _ _ ok ht)
            · exact q'.elim
      | _ => exact q.elim
theorem q_fzk {k : Nat} {f : M D} {env : Env} : fzkM k f env = match env[k]? with
  | some cl => (match cl.own with
    | some (.lst ds) => (match f (fzkEnv k ds env) with
      | some (.val d e) => if thawB d = true then (fzkPut k env e).map (.val d) else none
      | some (.exc x e) => if thawX x = true then (fzkPut k env e).map (.exc x) else none
      | none => none)
    | _ => none)
  | none => none := rfl
end
end NK

set_option Elab.async false
set_option linter.all false
set_option maxRecDepth 100000
namespace NK
open PySem PySem.Spec PyProof.Rows L2
noncomputable section
def m_law_town : S := (withS (catLM (lstM (consM (conM (.int 0)) nilM)) (cbM listD (consM (varM 0) nilM))) fun d e => some (.rn d e))
def F_law_town : Fn := funM m_law_town 1 1
def m_law_draw : S := (seqS (setO 1 (op2M addD (ixO 1 (conM (.int 0))) (conM (.int 1))) (conM (.int 0)))
    (seqS (iteS (boolM (op2M eqD (varM 0) (lstM nilM))) (withS (op2M modD (op2M divD (op2M mulD (op2M mulD (ixO 1 (conM (.int 0))) (ixO 1 (conM (.int 0)))) (conM (.int 7))) (conM (.int 3))) (varM 2)) fun d e => some (.rt d e)) nxS)
    (seqS (setS 3 (op2M modD (ixO 1 (conM (.int 0))) (cbM lenD (consM (varM 0) nilM))))
    (seqS (setS 4 (ixO 1 (op2M addD (conM (.int 1)) (varM 3))))
    (seqS (iteS (andB (boolM (op2M geD (op2M ixD (varM 0) (varM 3)) (op2M powD (conM (.int 10)) (conM (.int 18))))) (boolM (op2M gtD (varM 4) (conM (.int 0))))) (seqS (setO 1 (op2M divD (varM 4) (varM 2)) (op2M addD (conM (.int 1)) (varM 3)))
    (withS (op2M modD (varM 4) (varM 2)) fun d e => some (.rt d e))) nxS)
    (seqS (setS 5 (op2M modD (op2M addD (op2M ixD (varM 0) (varM 3)) (op2M mulD (conM (.int 104729)) (ixO 1 (conM (.int 0))))) (conM (.int 4294967291))))
    (seqS (setS 5 (op2M modD (op2M powD (varM 5) (conM (.int 5))) (conM (.int 4294967279))))
    (withS (op2M modD (op2M divD (op2M modD (op2M addD (op2M mulD (op2M divD (varM 5) (conM (.int 64))) (conM (.int 69621))) (varM 5)) (conM (.int 4294967231))) (conM (.int 8))) (varM 2)) fun d e => some (.rt d e)))))))))
def F_law_draw : Fn := funM m_law_draw 3 6
def c1_law_rounds : M D := (op2M addD (conM (.int 1)) (callM F_law_draw 3 (consM (varM 0) (ownA 1 (consM (varM 3) nilM)))))
def m_law_rounds : S := (seqS (setS 4 (op2M addD (conM (.int 1)) (callM F_law_draw 3 (consM (varM 0) (ownA 1 (consM (varM 2) nilM))))))
    (withS (cbM tupleD (consM (lcM (itsM rng1D (consM (varM 4) nilM)) (setT 5) yesM c1_law_rounds [5]) nilM)) fun d e => some (.rt d e)))
def F_law_rounds : Fn := funM m_law_rounds 4 6
def m_law_pick : S := (withS (op2M ixD (varM 2) (callM F_law_draw 3 (consM (varM 0) (ownA 1 (consM (cbM lenD (consM (varM 2) nilM)) nilM))))) fun d e => some (.rt d e))
def F_law_pick : Fn := funM m_law_pick 3 3
def m_is_number : S := (withS (andM (cbM isiD (consM (varM 0) (consM (conM (.ty "int")) nilM))) (andM (notM (cbM isiD (consM (varM 0) (consM (conM (.ty "bool")) nilM)))) (chainM leD leD (varM 1) (varM 0) (varM 2)))) fun d e => some (.rt d e))
def F_is_number : Fn := funM m_is_number 3 3
def c1_is_rounds : M D := (callM F_is_number 3 (consM (varM 1) (consM (conM (.int 1)) (consM (conM (.int 31)) nilM))))
def m_is_rounds : S := (seqS (iteS (orB (notB (boolM (cbM isiD (consM (varM 0) (consM (conM (.ty "tuple")) nilM))))) (notB (boolM (chainM leD leD (conM (.int 1)) (cbM lenD (consM (varM 0) nilM)) (conM (.int 12)))))) (withS (conM (.bl false)) fun d e => some (.rt d e)) nxS)
    (withS (cbM allD (consM (lcM (itM tupOf (varM 0)) (setT 1) yesM c1_is_rounds [1]) nilM)) fun d e => some (.rt d e)))
def F_is_rounds : Fn := funM m_is_rounds 1 2
def m_look_rounds : S := (iteS (notB (boolM (callM F_is_rounds 1 (consM (varM 0) nilM)))) (raiseS "BadRounds") nxS)
def F_look_rounds : Fn := funM m_look_rounds 1 1
def m_first_of : S := (withS (op2M addD (op2M mulD (op2M divD (varM 1) (cbM lenD (consM (varM 0) nilM))) (cbM sumD (consM (varM 0) nilM))) (cbM sumD (consM (cutM cutTD (varM 0) (pureM none) (partM (op2M modD (varM 1) (cbM lenD (consM (varM 0) nilM))))) nilM))) fun d e => some (.rt d e))
def F_first_of : Fn := funM m_first_of 2 2
def m_nights_of : S := (seqS (withS (callM F_look_rounds 1 (consM (varM 0) nilM)) fun _ => nxS)
    (seqS (iteS (notB (boolM (callM F_is_number 3 (consM (varM 1) (consM (conM (.int 0)) (consM (conM (.int 1000000000)) nilM)))))) (raiseS "BadNumber") nxS)
    (withS (tupM (consM (callM F_first_of 2 (consM (varM 0) (consM (varM 1) nilM))) (consM (op2M subD (callM F_first_of 2 (consM (varM 0) (consM (op2M addD (varM 1) (conM (.int 1))) nilM))) (conM (.int 1))) nilM))) fun d e => some (.rt d e))))
def F_nights_of : Fn := funM m_nights_of 2 2
def m_look_night : S := (iteS (notB (boolM (callM F_is_number 3 (consM (varM 0) (consM (conM (.int 0)) (consM (conM (.int 1000000000)) nilM)))))) (raiseS "BadNight") nxS)
def F_look_night : Fn := funM m_look_night 1 1
def b1_number_of : S := (seqS (iteS (boolM (op2M ltD (varM 4) (varM 5))) (withS (varM 3) fun d e => some (.rt d e)) nxS)
    (seqS (setS 4 (op2M subD (varM 4) (varM 5)))
    (setS 3 (op2M addD (varM 3) (conM (.int 1))))))
def m_number_of : S := (seqS (setS 2 (cbM sumD (consM (varM 0) nilM)))
    (seqS (setS 3 (op2M mulD (op2M divD (varM 1) (varM 2)) (cbM lenD (consM (varM 0) nilM))))
    (seqS (setS 4 (op2M modD (varM 1) (varM 2)))
    (seqS (forS (itM tupOf (varM 0)) (setT 5) b1_number_of)
    (withS (varM 3) fun d e => some (.rt d e))))))
def F_number_of : Fn := funM m_number_of 2 6
def m_round_of : S := (seqS (withS (callM F_look_rounds 1 (consM (varM 0) nilM)) fun _ => nxS)
    (seqS (withS (callM F_look_night 1 (consM (varM 1) nilM)) fun _ => nxS)
    (withS (callM F_number_of 2 (consM (varM 0) (consM (varM 1) nilM))) fun d e => some (.rt d e))))
def F_round_of : Fn := funM m_round_of 2 2
def m_law_whole : S := (withS (andM (cbM isiD (consM (varM 0) (consM (conM (.ty "int")) nilM))) (notM (cbM isiD (consM (varM 0) (consM (conM (.ty "bool")) nilM))))) fun d e => some (.rt d e))
def F_law_whole : Fn := funM m_law_whole 1 1
def p1_law_wholes : M Bool := (notB (boolM (callM F_law_whole 1 (consM (varM 1) nilM))))
def c2_law_wholes : M D := (varM 1)
def m_law_wholes : S := (withS (andM (cbM isiD (consM (varM 0) (consM (conM (.ty "list")) nilM))) (op2M eqD (lcM (itM listOf (varM 0)) (setT 1) p1_law_wholes c2_law_wholes [1]) (lstM nilM))) fun d e => some (.rt d e))
def F_law_wholes : Fn := funM m_law_wholes 1 2
def b1_law_rules : S := (withS (appM 7 (tupM (consM (callM F_law_rounds 4 (consM (varM 0) (ownA 1 (consM (varM 3) (consM (varM 4) nilM))))) (consM (op2M addD (conM (.int 1)) (callM F_law_draw 3 (consM (varM 0) (ownA 1 (consM (varM 5) nilM))))) nilM)))) fun _ => nxS)
def m_law_rules : S := (seqS (setS 6 (op2M addD (conM (.int 1)) (callM F_law_draw 3 (consM (varM 0) (ownA 1 (consM (varM 2) nilM))))))
    (seqS (newS 7 (lstM nilM))
    (seqS (forS (itsM rng1D (consM (varM 6) nilM)) (setT 8) b1_law_rules)
    (seqS (iteS (andB (boolM (op2M gtD (varM 6) (conM (.int 1)))) (boolM (op2M eqD (callM F_law_draw 3 (consM (varM 0) (ownA 1 (consM (conM (.int 6)) nilM)))) (conM (.int 0))))) (setO 7 (ixO 7 (conM (.int 0))) (op2M subD (varM 6) (conM (.int 1)))) nxS)
    (withS (vwM 7 fun xs => some (.tup xs)) fun d e => some (.rt d e))))))
def F_law_rules : Fn := funM m_law_rules 6 9
def b1_law_nights : S := (seqS (withS (appM 5 (varM 4)) fun _ => nxS)
    (setS 4 (op2M addD (op2M addD (varM 4) (conM (.int 1))) (callM F_law_draw 3 (consM (varM 0) (ownA 1 (consM (callM F_law_pick 3 (consM (varM 0) (ownA 1 (consM (lstM (consM (conM (.int 1)) (consM (conM (.int 2)) (consM (varM 3) nilM)))) nilM)))) nilM)))))))
def m_law_nights : S := (seqS (setS 4 (callM F_law_draw 3 (consM (varM 0) (ownA 1 (consM (op2M addD (op2M mulD (conM (.int 2)) (varM 3)) (conM (.int 1))) nilM)))))
    (seqS (newS 5 (lstM nilM))
    (seqS (forS (itsM rng1D (consM (callM F_law_draw 3 (consM (varM 0) (ownA 1 (consM (op2M addD (varM 2) (conM (.int 1))) nilM)))) nilM)) (setT 6) b1_law_nights)
    (rtOwn 5))))
def F_law_nights : Fn := funM m_law_nights 4 7
def m_is_rule : S := (withS (andM (cbM isiD (consM (varM 0) (consM (conM (.ty "tuple")) nilM))) (andM (op2M eqD (cbM lenD (consM (varM 0) nilM)) (conM (.int 2))) (andM (callM F_is_rounds 1 (consM (op2M ixD (varM 0) (conM (.int 0))) nilM)) (callM F_is_number 3 (consM (op2M ixD (varM 0) (conM (.int 1))) (consM (conM (.int 1)) (consM (conM (.int 20)) nilM))))))) fun d e => some (.rt d e))
def F_is_rule : Fn := funM m_is_rule 1 1
def c1_look_rules : M D := (callM F_is_rule 1 (consM (varM 1) nilM))
def m_look_rules : S := (iteS (orB (notB (boolM (cbM isiD (consM (varM 0) (consM (conM (.ty "tuple")) nilM))))) (orB (notB (boolM (chainM leD leD (conM (.int 1)) (cbM lenD (consM (varM 0) nilM)) (conM (.int 5))))) (notB (boolM (cbM allD (consM (lcM (itM tupOf (varM 0)) (setT 1) yesM c1_look_rules [1]) nilM)))))) (raiseS "BadRules") nxS)
def F_look_rules : Fn := funM m_look_rules 1 2
def c1_look_nights : M D := (callM F_is_number 3 (consM (varM 1) (consM (conM (.int 0)) (consM (conM (.int 1000000000)) nilM))))
def b2_look_nights : S := (iteS (boolM (op2M geD (varM 1) (varM 2))) (raiseS "BadNights") nxS)
def m_look_nights : S := (seqS (iteS (orB (notB (boolM (cbM isiD (consM (varM 0) (consM (conM (.ty "list")) nilM))))) (boolM (op2M gtD (cbM lenD (consM (varM 0) nilM)) (conM (.int 100))))) (raiseS "BadNights") nxS)
    (seqS (iteS (notB (boolM (cbM allD (consM (lcM (itM listOf (varM 0)) (setT 1) yesM c1_look_nights [1]) nilM)))) (raiseS "BadNights") nxS)
    (forS (itsM zipD (consM (varM 0) (consM (cutM cutLD (varM 0) (partM (conM (.int 1))) (pureM none)) nilM))) (tupT 2 (consT (setT 1) (consT (setT 2) nilT))) b2_look_nights)))
def F_look_nights : Fn := funM m_look_nights 1 3
def b1_kept_by : S := (seqS (setS 5 (callM F_number_of 2 (consM (op2M ixD (varM 0) (conM (.int 0))) (consM (varM 4) nilM))))
    (seqS (iteS (boolM (op2M neD (varM 5) (varM 3))) (seqS (withS (appM 2 (varM 4)) fun _ => nxS)
    (setS 3 (varM 5))) nxS)
    (iteS (boolM (op2M eqD (vwM 2 fun xs => some (.int (xs.length : Int))) (op2M ixD (varM 0) (conM (.int 1))))) (rtOwn 2) nxS)))
def m_kept_by : S := (seqS (newS 2 (lstM nilM))
    (seqS (setS 3 (conM .non))
    (seqS (forS (itsM revD (consM (varM 1) nilM)) (setT 4) b1_kept_by)
    (rtOwn 2))))
def F_kept_by : Fn := funM m_kept_by 2 6
def b1_kept_of : S := (putKS 2 (conM (.bl true)) (varM 4))
def b2_kept_of : S := (forS (itM listOf (callM F_kept_by 2 (consM (varM 3) (consM (varM 1) nilM)))) (setT 4) b1_kept_of)
def m_kept_of : S := (seqS (newS 2 (conM (.dk [])))
    (seqS (forS (itM tupOf (varM 0)) (setT 3) b2_kept_of)
    (withS (vwK 2 sortedKD) fun d e => some (.rt d e))))
def F_kept_of : Fn := funM m_kept_of 2 5
def m_kept : S := (seqS (withS (callM F_look_rules 1 (consM (varM 0) nilM)) fun _ => nxS)
    (seqS (withS (callM F_look_nights 1 (consM (varM 1) nilM)) fun _ => nxS)
    (withS (callM F_kept_of 2 (consM (varM 0) (consM (varM 1) nilM))) fun d e => some (.rt d e))))
def F_kept : Fn := funM m_kept 2 2
def b1_law_spot : S := (seqS (iteS (boolM (op2M ltD (varM 1) (op2M addD (varM 3) (varM 5)))) (withS (tupM (consM (varM 4) (consM (varM 3) nilM))) fun d e => some (.rt d e)) nxS)
    (seqS (setS 3 (op2M addD (varM 3) (varM 5)))
    (setS 4 (op2M addD (varM 4) (conM (.int 1))))))
def m_law_spot : S := (seqS (setS 2 (cbM sumD (consM (varM 0) nilM)))
    (seqS (setS 3 (op2M mulD (op2M divD (varM 1) (varM 2)) (varM 2)))
    (seqS (setS 4 (op2M mulD (op2M divD (varM 1) (varM 2)) (cbM lenD (consM (varM 0) nilM))))
    (seqS (forS (itM tupOf (varM 0)) (setT 5) b1_law_spot)
    (withS (conM .non) fun d e => some (.rt d e))))))
def F_law_spot : Fn := funM m_law_spot 2 6
def b1_law_by : S := (seqS (setS 7 (op2M ixD (callM F_law_spot 2 (consM (varM 2) (consM (varM 6) nilM))) (conM (.int 0))))
    (iteS (orB (boolM (op2M eqD (op2M addD (varM 5) (conM (.int 1))) (cbM lenD (consM (varM 1) nilM)))) (boolM (op2M neD (op2M ixD (callM F_law_spot 2 (consM (varM 2) (consM (op2M ixD (varM 1) (op2M addD (varM 5) (conM (.int 1)))) nilM))) (conM (.int 0))) (varM 7)))) (withS (appM 4 (varM 6)) fun _ => nxS) nxS))
def m_law_by : S := (seqS (asgS (varM 0) (tupT 2 (consT (setT 2) (consT (setT 3) nilT))))
    (seqS (newS 4 (lstM nilM))
    (seqS (forS (itsM enumD (consM (varM 1) nilM)) (tupT 2 (consT (setT 5) (consT (setT 6) nilT))) b1_law_by)
    (fun e => (withS (cutM cutLD (varM 4) (partM (cbM max2D (consM (conM (.int 0)) (consM (op2M subD (cbM lenD (consM (varM 4) nilM)) (varM 3)) nilM)))) (pureM none)) fun d e => some (.rt d e)) (frzE 4 e)))))
def F_law_by : Fn := funM m_law_by 2 8
def c1_law_kept : M D := (callM F_law_by 2 (consM (varM 3) (consM (varM 1) nilM)))
def p2_law_kept : M Bool := (boolM (op2M (inD false) (varM 4) (varM 5)))
def c3_law_kept : M D := (conM (.int 1))
def p4_law_kept : M Bool := (boolM (op2M neD (lcM (itM listOf (varM 2)) (setT 5) p2_law_kept c3_law_kept [5]) (lstM nilM)))
def c5_law_kept : M D := (varM 4)
def m_law_kept : S := (seqS (setS 2 (lcM (itM tupOf (varM 0)) (setT 3) yesM c1_law_kept [3]))
    (withS (lcM (itM listOf (varM 1)) (setT 4) p4_law_kept c5_law_kept [4]) fun d e => some (.rt d e)))
def F_law_kept : Fn := funM m_law_kept 2 6
def c1_reasons : M D := (callM F_kept_by 2 (consM (varM 3) (consM (varM 1) nilM)))
def p2_reasons : M Bool := (boolM (op2M (inD false) (varM 6) (varM 5)))
def c3_reasons : M D := (varM 4)
def c4_reasons : M D := (tupM (consM (varM 6) (consM (cbM tupleD (consM (lcM (itsM enumD (consM (varM 2) nilM)) (tupT 2 (consT (setT 4) (consT (setT 5) nilT))) p2_reasons c3_reasons [4, 5]) nilM)) nilM)))
def m_reasons : S := (seqS (withS (callM F_look_rules 1 (consM (varM 0) nilM)) fun _ => nxS)
    (seqS (withS (callM F_look_nights 1 (consM (varM 1) nilM)) fun _ => nxS)
    (seqS (setS 2 (lcM (itM tupOf (varM 0)) (setT 3) yesM c1_reasons [3]))
    (withS (lcM (itM listOf (varM 1)) (setT 6) yesM c4_reasons [6]) fun d e => some (.rt d e)))))
def F_reasons : Fn := funM m_reasons 2 7
def b1_standing_at : S := (putKS 2 (conM (.bl true)) (op2M subD (callM F_first_of 2 (consM (varM 3) (consM (op2M addD (varM 6) (conM (.int 1))) nilM))) (conM (.int 1))))
def b2_standing_at : S := (seqS (setS 5 (callM F_number_of 2 (consM (varM 3) (consM (varM 1) nilM))))
    (forS (itsM rng2D (consM (cbM max2D (consM (conM (.int 0)) (consM (op2M addD (op2M subD (varM 5) (varM 4)) (conM (.int 1))) nilM))) (consM (varM 5) nilM))) (setT 6) b1_standing_at))
def m_standing_at : S := (seqS (newS 2 (dispM (((varM 1), (conM (.bl true))) :: [])))
    (seqS (forS (itM tupOf (varM 0)) (tupT 2 (consT (setT 3) (consT (setT 4) nilT))) b2_standing_at)
    (withS (vwK 2 sortedKD) fun d e => some (.rt d e))))
def F_standing_at : Fn := funM m_standing_at 2 7
def m_held_at : S := (seqS (withS (callM F_look_rules 1 (consM (varM 0) nilM)) fun _ => nxS)
    (seqS (withS (callM F_look_night 1 (consM (varM 1) nilM)) fun _ => nxS)
    (withS (callM F_standing_at 2 (consM (varM 0) (consM (varM 1) nilM))) fun d e => some (.rt d e))))
def F_held_at : Fn := funM m_held_at 2 2
def c1_gap : M D := (op2M subD (varM 4) (varM 3))
def m_gap : S := (seqS (setS 2 (callM F_held_at 2 (consM (varM 0) (consM (varM 1) nilM))))
    (withS (cbM maxD (consM (catLM (lcM (itsM zipD (consM (varM 2) (consM (cutM cutLD (varM 2) (partM (conM (.int 1))) (pureM none)) nilM))) (tupT 2 (consT (setT 3) (consT (setT 4) nilT))) yesM c1_gap [3, 4]) (lstM (consM (conM (.int 0)) nilM))) nilM)) fun d e => some (.rt d e)))
def F_gap : Fn := funM m_gap 2 5
def m_law_word : S := (seqS (iteS (notB (boolM (cbM (isiX [] exAll exAll) (consM (varM 0) (consM (conM (.ty "RuntimeError")) nilM))))) (withS (negM (conM (.int 1))) fun d e => some (.rt d e)) nxS)
    (seqS (setS 1 (lstM (consM (cbM (isiX [] exAll exAll) (consM (varM 0) (consM (conM (.cl "BadRounds")) nilM))) (consM (cbM (isiX [] exAll exAll) (consM (varM 0) (consM (conM (.cl "BadNight")) nilM))) (consM (cbM (isiX [] exAll exAll) (consM (varM 0) (consM (conM (.cl "BadNumber")) nilM))) nilM)))))
    (seqS (setS 1 (catLM (varM 1) (lstM (consM (cbM (isiX [] exAll exAll) (consM (varM 0) (consM (conM (.cl "BadRules")) nilM))) (consM (cbM (isiX [] exAll exAll) (consM (varM 0) (consM (conM (.cl "BadNights")) nilM))) (consM (cbM (isiX [] exAll exAll) (consM (varM 0) (consM (conM (.cl "Elder")) nilM))) nilM))))))
    (seqS (setS 1 (catLM (varM 1) (lstM (consM (cbM (isiX [] exAll exAll) (consM (varM 0) (consM (conM (.cl "Full")) nilM))) (consM (cbM (isiX [] exAll exAll) (consM (varM 0) (consM (conM (.cl "NotHeld")) nilM))) (consM (cbM (isiX [] exAll exAll) (consM (varM 0) (consM (conM (.cl "Pinned")) nilM))) nilM))))))
    (seqS (setS 1 (catLM (varM 1) (lstM (consM (cbM (isiX [] exAll exAll) (consM (varM 0) (consM (conM (.cl "NotPinned")) nilM))) (consM (cbM (isiX [] exAll exAll) (consM (varM 0) (consM (conM (.cl "BadState")) nilM))) (consM (cbM (isiX [] exAll exAll) (consM (varM 0) (consM (conM (.cl "BadPart")) nilM))) nilM))))))
    (seqS (setS 1 (catLM (varM 1) (lstM (consM (cbM (isiX [] exAll exAll) (consM (varM 0) (consM (conM (.cl "NotFit")) nilM))) (consM (cbM (isiX [] exAll exAll) (consM (varM 0) (consM (conM (.cl "IsWhole")) nilM))) (consM (cbM (isiX [] exAll exAll) (consM (varM 0) (consM (conM (.cl "BadPlan")) nilM))) nilM))))))
    (seqS (setS 1 (catLM (varM 1) (lstM (consM (cbM (isiX [] exAll exAll) (consM (varM 0) (consM (conM (.cl "Unlike")) nilM))) (consM (cbM (isiX [] exAll exAll) (consM (varM 0) (consM (conM (.cl "BadText")) nilM))) nilM)))))
    (withS (iteM (boolM (op2M eqD (mthM lsQ cntD (varM 1) (consM (conM (.bl true)) nilM)) (conM (.int 1)))) (mthM lsQ idxD (varM 1) (consM (conM (.bl true)) nilM)) (negM (conM (.int 1)))) fun d e => some (.rt d e)))))))))
def F_law_word : Fn := funM m_law_word 1 2
def m_law_refused : S := (seqS (setS 1 (lstM (consM (conM (.str "rounds")) (consM (conM (.str "night")) (consM (conM (.str "number")) (consM (conM (.str "rules")) (consM (conM (.str "nights")) (consM (conM (.str "elder")) (consM (conM (.str "full")) (consM (conM (.str "held")) (consM (conM (.str "pinned")) (consM (conM (.str "not pinned")) (consM (conM (.str "state")) nilM)))))))))))))
    (seqS (setS 1 (catLM (varM 1) (lstM (consM (conM (.str "part")) (consM (conM (.str "fit")) (consM (conM (.str "whole")) (consM (conM (.str "plan")) (consM (conM (.str "unlike")) (consM (conM (.str "text")) nilM)))))))))
    (withS (tupM (consM (conM (.str "refused")) (consM (mthM lsQ idxD (varM 1) (consM (varM 0) nilM)) nilM))) fun d e => some (.rt d e))))
def F_law_refused : Fn := funM m_law_refused 1 2
def t1_divisor : M Bool := (boolM (op2M gtD (varM 1) (conM (.int 0))))
def b2_divisor : S := (parS 0 1 (consM (varM 1) (consM (op2M modD (varM 0) (varM 1)) nilM)))
def m_divisor : S := (seqS (whileS t1_divisor b2_divisor 100000)
    (withS (varM 0) fun d e => some (.rt d e)))
def F_divisor : Fn := funM m_divisor 2 2
def b1_turn_of : S := (setS 1 (op2M divD (op2M mulD (varM 1) (cbM sumD (consM (varM 2) nilM))) (callM F_divisor 2 (consM (varM 1) (consM (cbM sumD (consM (varM 2) nilM)) nilM)))))
def m_turn_of : S := (seqS (setS 1 (conM (.int 1)))
    (seqS (forS (itM tupOf (varM 0)) (tupT 2 (consT (setT 2) (consT (setT 3) nilT))) b1_turn_of)
    (withS (varM 1) fun d e => some (.rt d e))))
def F_turn_of : Fn := funM m_turn_of 1 4
def m_turn : S := (seqS (withS (callM F_look_rules 1 (consM (varM 0) nilM)) fun _ => nxS)
    (withS (callM F_turn_of 1 (consM (varM 0) nilM)) fun d e => some (.rt d e)))
def F_turn : Fn := funM m_turn 1 1
def m_Keep_init : S := (seqS (withS (callM F_look_rules 1 (consM (varM 1) nilM)) fun _ => nxS)
    (seqS (fldS 0 "rules" (varM 1))
    (seqS (fldNS 0 "nights" (lstM nilM))
    (seqS (fldNS 0 "pinned" (lstM nilM))
    (fldS 0 "last" (conM .non))))))
def F_Keep_init : Fn := funM m_Keep_init 2 2
def m_law_model : S := (withS (conM (.ml [.mu (.lst []), .mu (.lst []), .non])) fun d e => some (.rn d e))
def F_law_model : Fn := funM m_law_model 0 0
def m_look_taken : S := (seqS (withS (callM F_look_night 1 (consM (varM 1) nilM)) fun _ => nxS)
    (seqS (iteS (andB (boolM (op2M isnD (fldM "last" (varM 0)) (conM .non))) (boolM (op2M leD (varM 1) (fldM "last" (varM 0))))) (raiseP "Elder" "last" (fldM "last" (varM 0))) nxS)
    (iteS (boolM (op2M geD (cbM lenD (consM (fldM "nights" (varM 0)) nilM)) (conM (.int 100)))) (raiseS "Full") nxS)))
def F_look_taken : Fn := funM m_look_taken 2 2
def m_Keep_take : S := (seqS (withS (frzM (callM F_look_taken 2 (consM (varM 0) (consM (varM 1) nilM)))) fun _ => nxS)
    (seqS (withS (appFM 0 "nights" (varM 1)) fun _ => nxS)
    (fldS 0 "last" (varM 1))))
def F_Keep_take : Fn := funM m_Keep_take 2 2
def p1_gone_of : M Bool := (boolM (op2M (inD true) (varM 2) (varM 1)))
def c2_gone_of : M D := (varM 2)
def m_gone_of : S := (seqS (setS 1 (catLM (callM F_kept_of 2 (consM (fldM "rules" (varM 0)) (consM (fldM "nights" (varM 0)) nilM))) (fldM "pinned" (varM 0))))
    (withS (lcM (itM listOf (fldM "nights" (varM 0))) (setT 2) p1_gone_of c2_gone_of [2]) fun d e => some (.rn d e)))
def F_gone_of : Fn := funM m_gone_of 1 3
def p1_Keep_let_go : M Bool := (boolM (op2M (inD true) (varM 2) (varM 1)))
def c2_Keep_let_go : M D := (varM 2)
def m_Keep_let_go : S := (seqS (setS 1 (frzN (callN F_gone_of 1 (consM (varM 0) nilM))))
    (seqS (fldNS 0 "nights" (frzN (lcM (itM listOf (fldM "nights" (varM 0))) (setT 2) p1_Keep_let_go c2_Keep_let_go [2])))
    (withS (varM 1) fun d e => some (.rt d e))))
def F_Keep_let_go : Fn := funM m_Keep_let_go 1 3
def m_look_held : S := (iteS (orB (notB (boolM (callM F_is_number 3 (consM (varM 1) (consM (conM (.int 0)) (consM (varM 1) nilM)))))) (boolM (op2M (inD true) (varM 1) (fldM "nights" (varM 0))))) (raiseS "NotHeld") nxS)
def F_look_held : Fn := funM m_look_held 2 2
def m_Keep_pin : S := (seqS (withS (frzM (callM F_look_held 2 (consM (varM 0) (consM (varM 1) nilM)))) fun _ => nxS)
    (seqS (iteS (frzT (boolM (op2M (inD false) (varM 1) (fldM "pinned" (varM 0))))) (raiseS "Pinned") nxS)
    (fldNS 0 "pinned" (frzN (cbM sortedD (consM (catLM (fldM "pinned" (varM 0)) (lstM (consM (varM 1) nilM))) nilM))))))
def F_Keep_pin : Fn := funM m_Keep_pin 2 2
def p1_Keep_unpin : M Bool := (boolM (op2M neD (varM 2) (varM 1)))
def c2_Keep_unpin : M D := (varM 2)
def m_Keep_unpin : S := (seqS (iteS (frzT (orB (notB (boolM (callM F_is_number 3 (consM (varM 1) (consM (conM (.int 0)) (consM (varM 1) nilM)))))) (boolM (op2M (inD true) (varM 1) (fldM "pinned" (varM 0)))))) (raiseS "NotPinned") nxS)
    (fldNS 0 "pinned" (frzN (lcM (itM listOf (fldM "pinned" (varM 0))) (setT 2) p1_Keep_unpin c2_Keep_unpin [2]))))
def F_Keep_unpin : Fn := funM m_Keep_unpin 2 3
def m_law_keep_one : S := (seqS (unpackS 1 2 3)
    (seqS (iteS (boolM (op2M ltD (varM 0) (conM (.int 2)))) (withS (iteM (boolM (op2M eqD (varM 0) (conM (.int 0)))) (focusM 2 (methOM "Keep" "take" F_Keep_take 2 2 (consM (varM 3) nilM))) (focusM 2 (methOM "Keep" "let_go" F_Keep_let_go 1 2 nilM))) fun d e => some (.rt d e)) nxS)
    (withS (iteM (boolM (op2M eqD (varM 0) (conM (.int 2)))) (focusM 2 (methOM "Keep" "pin" F_Keep_pin 2 2 (consM (varM 3) nilM))) (focusM 2 (methOM "Keep" "unpin" F_Keep_unpin 2 2 (consM (varM 3) nilM)))) fun d e => some (.rt d e))))
def F_law_keep_one : Fn := funM m_law_keep_one 2 4
def p1_law_gone : M Bool := (boolM (op2M (inD true) (varM 3) (varM 2)))
def c2_law_gone : M D := (varM 3)
def m_law_gone : S := (seqS (setS 2 (catLM (callM F_law_kept 2 (consM (varM 0) (consM (op2M ixMD (varM 1) (conM (.int 0))) nilM))) (op2M ixMD (varM 1) (conM (.int 1)))))
    (withS (lcM (itM listOf (op2M ixMD (varM 1) (conM (.int 0)))) (setT 3) p1_law_gone c2_law_gone [3]) fun d e => some (.rn d e)))
def F_law_gone : Fn := funM m_law_gone 2 4
def p1_law_done : M Bool := (boolM (op2M (inD true) (varM 5) (varM 4)))
def c2_law_done : M D := (varM 5)
def p3_law_done : M Bool := (boolM (op2M neD (varM 5) (varM 3)))
def c4_law_done : M D := (varM 5)
def m_law_done : S := (seqS (iteS (boolM (op2M eqD (varM 2) (conM (.int 0)))) (seqS (iteS (orB (notB (boolM (callM F_law_whole 1 (consM (varM 3) nilM)))) (orB (boolM (op2M ltD (varM 3) (conM (.int 0)))) (boolM (op2M gtD (varM 3) (op2M powD (conM (.int 10)) (conM (.int 9))))))) (withS (callM F_law_refused 1 (consM (conM (.str "night")) nilM)) fun d e => some (.rt d e)) nxS)
    (seqS (iteS (frzT (andB (boolM (op2M isnD (op2M ixMD (varM 1) (conM (.int 2))) (conM .non))) (boolM (op2M leD (varM 3) (op2M ixMD (varM 1) (conM (.int 2))))))) (withS (callM F_law_refused 1 (consM (conM (.str "elder")) nilM)) fun d e => some (.rt d e)) nxS)
    (seqS (iteS (frzT (boolM (op2M eqD (cbM lenD (consM (op2M ixMD (varM 1) (conM (.int 0))) nilM)) (conM (.int 100))))) (withS (callM F_law_refused 1 (consM (conM (.str "full")) nilM)) fun d e => some (.rt d e)) nxS)
    (seqS (withS (appMM 1 0 (varM 3)) fun _ => nxS)
    (setMS 1 2 (varM 3)))))) nxS)
    (seqS (iteS (boolM (op2M eqD (varM 2) (conM (.int 1)))) (seqS (setS 4 (frzN (callN F_law_gone 2 (consM (varM 0) (consM (varM 1) nilM)))))
    (seqS (setMN 1 0 (frzN (lcM (itM listOf (op2M ixMD (varM 1) (conM (.int 0)))) (setT 5) p1_law_done c2_law_done [5])))
    (withS (tupM (consM (conM (.str "found")) (consM (varM 4) nilM))) fun d e => some (.rt d e)))) nxS)
    (seqS (iteS (boolM (op2M eqD (varM 2) (conM (.int 2)))) (seqS (iteS (frzT (orB (notB (boolM (callM F_law_whole 1 (consM (varM 3) nilM)))) (boolM (op2M (inD true) (varM 3) (op2M ixMD (varM 1) (conM (.int 0))))))) (withS (callM F_law_refused 1 (consM (conM (.str "held")) nilM)) fun d e => some (.rt d e)) nxS)
    (seqS (iteS (frzT (boolM (op2M (inD false) (varM 3) (op2M ixMD (varM 1) (conM (.int 1)))))) (withS (callM F_law_refused 1 (consM (conM (.str "pinned")) nilM)) fun d e => some (.rt d e)) nxS)
    (setMN 1 1 (frzN (cbM sortedD (consM (catLM (op2M ixMD (varM 1) (conM (.int 1))) (lstM (consM (varM 3) nilM))) nilM)))))) nxS)
    (seqS (iteS (boolM (op2M eqD (varM 2) (conM (.int 3)))) (seqS (iteS (frzT (orB (notB (boolM (callM F_law_whole 1 (consM (varM 3) nilM)))) (boolM (op2M (inD true) (varM 3) (op2M ixMD (varM 1) (conM (.int 1))))))) (withS (callM F_law_refused 1 (consM (conM (.str "not pinned")) nilM)) fun d e => some (.rt d e)) nxS)
    (setMN 1 1 (frzN (lcM (itM listOf (op2M ixMD (varM 1) (conM (.int 1)))) (setT 5) p3_law_done c4_law_done [5])))) nxS)
    (withS (tupM (consM (conM (.str "found")) (consM (conM .non) nilM))) fun d e => some (.rt d e))))))
def F_law_done : Fn := funM m_law_done 4 6
def m_Keep_len : S := (withS (cbM lenD (consM (fldM "nights" (varM 0)) nilM)) fun d e => some (.rt d e))
def F_Keep_len : Fn := funM m_Keep_len 1 1
def m_Keep_held : S := (withS (cbM listD (consM (fldM "nights" (varM 0)) nilM)) fun d e => some (.rt d e))
def F_Keep_held : Fn := funM m_Keep_held 1 1
def m_Keep_pins : S := (withS (cbM listD (consM (fldM "pinned" (varM 0)) nilM)) fun d e => some (.rt d e))
def F_Keep_pins : Fn := funM m_Keep_pins 1 1
def m_law_like : S := (seqS (iteS (orB (boolM (op2M neD (methM "Keep" "held" F_Keep_held 1 (varM 0) nilM) (op2M ixMD (varM 1) (conM (.int 0))))) (orB (boolM (op2M neD (methM "Keep" "pins" F_Keep_pins 1 (varM 0) nilM) (op2M ixMD (varM 1) (conM (.int 1))))) (notB (boolM (callM F_law_wholes 1 (consM (catLM (methM "Keep" "held" F_Keep_held 1 (varM 0) nilM) (methM "Keep" "pins" F_Keep_pins 1 (varM 0) nilM)) nilM)))))) (withS (conM (.bl false)) fun d e => some (.rt d e)) nxS)
    (withS (op2M eqD (lenOM "Keep" F_Keep_len (varM 0)) (cbM lenD (consM (op2M ixMD (varM 1) (conM (.int 0))) nilM))) fun d e => some (.rt d e)))
def F_law_like : Fn := funM m_law_like 2 2
end
end NK

set_option Elab.async false
set_option linter.all false
set_option maxRecDepth 100000
set_option maxHeartbeats 4000000
namespace K21
open PySem PySem.Spec PyProof.Rows L2 NK
noncomputable section
def p1_law : M Bool := (boolM (op2M (inD false) (varM 9) (varM 11)))
def c2_law : M D := (varM 9)
def p3_law : M Bool := (boolM (op2M neD (varM 9) (varM 12)))
def c4_law : M D := (varM 9)
def b5_law : S := (seqS (withS (methOM "Keep" "take" F_Keep_take 2 4 (consM (varM 9) nilM)) fun _ => nxS)
    (seqS (withS (methOM "Keep" "take" F_Keep_take 2 5 (consM (varM 9) nilM)) fun _ => nxS)
    (seqS (setS 10 (callM F_law_draw 3 (consM (varM 0) (ownA 1 (consM (conM (.int 6)) nilM)))))
    (seqS (iteS (boolM (op2M ltD (varM 10) (conM (.int 2)))) (seqS (setS 6 (catLM (varM 6) (methOM "Keep" "let_go" F_Keep_let_go 1 4 nilM)))
    (seqS (setS 11 (frzN (catLM (callM F_law_kept 2 (consM (varM 2) (consM (cutM cutLD (varM 3) (pureM none) (partM (op2M addD (varM 8) (conM (.int 1))))) nilM))) (varM 7))))
    (iteS (frzT (boolM (op2M neD (methM "Keep" "held" F_Keep_held 1 (varM 4) nilM) (lcM (itM listOf (cutM cutLD (varM 3) (pureM none) (partM (op2M addD (varM 8) (conM (.int 1)))))) (setT 9) p1_law c2_law [9])))) (withS (conM (.bl false)) fun d e => some (.rt d e)) nxS))) nxS)
    (seqS (iteS (boolM (op2M eqD (varM 10) (conM (.int 2)))) (seqS (setS 12 (fzkM 1 (callM F_law_pick 3 (consM (varM 0) (ownA 1 (consM (methM "Keep" "held" F_Keep_held 1 (varM 4) nilM) nilM))))))
    (iteS (frzT (boolM (op2M (inD true) (varM 12) (varM 7)))) (seqS (withS (methOM "Keep" "pin" F_Keep_pin 2 4 (consM (varM 12) nilM)) fun _ => nxS)
    (withS (appM 7 (varM 12)) fun _ => nxS)) nxS)) nxS)
    (iteS (frzT (andB (boolM (op2M eqD (varM 10) (conM (.int 3)))) (boolM (op2M neD (varM 7) (lstM nilM))))) (seqS (setS 12 (fzkM 1 (callM F_law_pick 3 (consM (varM 0) (ownA 1 (consM (varM 7) nilM))))))
    (seqS (withS (methOM "Keep" "unpin" F_Keep_unpin 2 4 (consM (varM 12) nilM)) fun _ => nxS)
    (newS 7 (frzN (lcM (itM listOf (varM 7)) (setT 9) p3_law c4_law [9]))))) nxS))))))
def p6_law : M Bool := (boolM (op2M (inD false) (varM 9) (catLM (varM 11) (varM 7))))
def c7_law : M D := (varM 9)
def b8_law : S := (withS (methOM "Keep" "unpin" F_Keep_unpin 2 4 (consM (varM 9) nilM)) fun _ => nxS)
def m_law : S := (seqS (newS 1 (callN F_law_town 1 (consM (varM 0) nilM)))
    (seqS (setS 2 (callM F_law_rules 6 (consM (varM 0) (ownA 1 (consM (conM (.int 4)) (consM (conM (.int 3)) (consM (callM F_law_pick 3 (consM (varM 0) (ownA 1 (consM (lstM (consM (conM (.int 2)) (consM (conM (.int 7)) nilM))) nilM)))) (consM (callM F_law_pick 3 (consM (varM 0) (ownA 1 (consM (lstM (consM (conM (.int 1)) (consM (conM (.int 3)) (consM (conM (.int 9)) nilM)))) nilM)))) nilM))))))))
    (seqS (setS 3 (callM F_law_nights 4 (consM (varM 0) (ownA 1 (consM (conM (.int 24)) (consM (callM F_law_pick 3 (consM (varM 0) (ownA 1 (consM (lstM (consM (conM (.int 1)) (consM (conM (.int 3)) (consM (conM (.int 12)) nilM)))) nilM)))) nilM))))))
    (seqS (newS 4 (makeM "Keep" F_Keep_init 2 (consM (varM 2) nilM)))
    (seqS (newS 5 (makeM "Keep" F_Keep_init 2 (consM (varM 2) nilM)))
    (seqS (setS 6 (lstM nilM))
    (seqS (newS 7 (lstM nilM))
    (seqS (forS (itsM enumD (consM (varM 3) nilM)) (tupT 2 (consT (setT 8) (consT (setT 9) nilT))) b5_law)
    (seqS (setS 6 (catLM (varM 6) (methOM "Keep" "let_go" F_Keep_let_go 1 4 nilM)))
    (seqS (setS 11 (callM F_law_kept 2 (consM (varM 2) (consM (varM 3) nilM))))
    (seqS (iteS (frzT (orB (boolM (op2M neD (methM "Keep" "held" F_Keep_held 1 (varM 4) nilM) (lcM (itM listOf (varM 3)) (setT 9) p6_law c7_law [9]))) (boolM (op2M neD (methM "Keep" "pins" F_Keep_pins 1 (varM 4) nilM) (cbM sortedD (consM (varM 7) nilM)))))) (withS (conM (.bl false)) fun d e => some (.rt d e)) nxS)
    (seqS (fun e => (forS (itM listOf (varM 7)) (setT 9) b8_law) (frzE 7 e))
    (seqS (setS 6 (catLM (varM 6) (methOM "Keep" "let_go" F_Keep_let_go 1 4 nilM)))
    (seqS (iteS (orB (boolM (op2M neD (methOM "Keep" "let_go" F_Keep_let_go 1 5 nilM) (cbM sortedD (consM (varM 6) nilM)))) (orB (frzT (boolM (op2M neD (methM "Keep" "held" F_Keep_held 1 (varM 4) nilM) (methM "Keep" "held" F_Keep_held 1 (varM 5) nilM)))) (frzT (boolM (op2M neD (methM "Keep" "held" F_Keep_held 1 (varM 4) nilM) (varM 11)))))) (withS (conM (.bl false)) fun d e => some (.rt d e)) nxS)
    (withS (andM (op2M eqD (cbM sortedD (consM (catLM (varM 6) (varM 11)) nilM)) (varM 3)) (andM (op2M eqD (methOM "Keep" "let_go" F_Keep_let_go 1 4 nilM) (lstM nilM)) (frzM (op2M eqD (methM "Keep" "pins" F_Keep_pins 1 (varM 4) nilM) (lstM nilM))))) fun d e => some (.rt d e))))))))))))))))
def F_law : Fn := funM m_law 1 13
end
end K21

set_option Elab.async false
set_option linter.all false
set_option maxRecDepth 100000
set_option maxHeartbeats 4000000
namespace K21
open PySem PySem.Spec PyProof.Rows L2 NK

def topS (i : Nat) : Stmt := PySem.Challenge.pw_nightkeep_k21_whole_let_go_by_the_way.main.body.getD i (.Pass ⟨0, 0, 0, 0⟩)
def mthS (i j : Nat) : Stmt := (match topS i with | .ClassDef (body := b) .. => b | _ => []).getD j (.Pass ⟨0, 0, 0, 0⟩)
abbrev s_law_town : Stmt := topS 31
abbrev N_law_town : List Str := ["_law_script"]
theorem sc_law_town : FnScope N_law_town ["_law_script"] (defScope s_law_town) := ⟨rfl, rfl, rfl, by decide +kernel, rfl, by decide +kernel, by decide +kernel⟩
abbrev s_law_draw : Stmt := topS 32
abbrev N_law_draw : List Str := ["_law_script", "_law_town_here", "_law_many", "_law_at", "_law_left", "_law_number"]
theorem sc_law_draw : FnScope N_law_draw ["_law_script", "_law_town_here", "_law_many"] (defScope s_law_draw) := ⟨rfl, rfl, rfl, by decide +kernel, rfl, by decide +kernel, by decide +kernel⟩
abbrev s_law_rounds : Stmt := topS 34
abbrev N_law_rounds : List Str := ["_law_script", "_law_town_here", "_law_long", "_law_top", "_law_many", "_law_k"]
theorem sc_law_rounds : FnScope N_law_rounds ["_law_script", "_law_town_here", "_law_long", "_law_top"] (defScope s_law_rounds) := ⟨rfl, rfl, rfl, by decide +kernel, rfl, by decide +kernel, by decide +kernel⟩
abbrev s_law_rules : Stmt := topS 36
abbrev N_law_rules : List Str := ["_law_script", "_law_town_here", "_law_many", "_law_long", "_law_top", "_law_most_many", "_law_count", "_law_found", "_law_k"]
theorem sc_law_rules : FnScope N_law_rules ["_law_script", "_law_town_here", "_law_many", "_law_long", "_law_top", "_law_most_many"] (defScope s_law_rules) := ⟨rfl, rfl, rfl, by decide +kernel, rfl, by decide +kernel, by decide +kernel⟩
abbrev s_law_pick : Stmt := topS 33
abbrev N_law_pick : List Str := ["_law_script", "_law_town_here", "_law_some"]
theorem sc_law_pick : FnScope N_law_pick ["_law_script", "_law_town_here", "_law_some"] (defScope s_law_pick) := ⟨rfl, rfl, rfl, by decide +kernel, rfl, by decide +kernel, by decide +kernel⟩
abbrev s_law_nights : Stmt := topS 37
abbrev N_law_nights : List Str := ["_law_script", "_law_town_here", "_law_many", "_law_step", "_law_at", "_law_found", "_law_k"]
theorem sc_law_nights : FnScope N_law_nights ["_law_script", "_law_town_here", "_law_many", "_law_step"] (defScope s_law_nights) := ⟨rfl, rfl, rfl, by decide +kernel, rfl, by decide +kernel, by decide +kernel⟩
abbrev s_is_number : Stmt := topS 12
abbrev N_is_number : List Str := ["thing", "least", "most"]
theorem sc_is_number : FnScope N_is_number ["thing", "least", "most"] (defScope s_is_number) := ⟨rfl, rfl, rfl, by decide +kernel, rfl, by decide +kernel, by decide +kernel⟩
abbrev s_is_rounds : Stmt := topS 13
abbrev N_is_rounds : List Str := ["thing", "one"]
theorem sc_is_rounds : FnScope N_is_rounds ["thing"] (defScope s_is_rounds) := ⟨rfl, rfl, rfl, by decide +kernel, rfl, by decide +kernel, by decide +kernel⟩
abbrev s_is_rule : Stmt := topS 19
abbrev N_is_rule : List Str := ["thing"]
theorem sc_is_rule : FnScope N_is_rule ["thing"] (defScope s_is_rule) := ⟨rfl, rfl, rfl, by decide +kernel, rfl, by decide +kernel, by decide +kernel⟩
abbrev s_look_rules : Stmt := topS 20
abbrev N_look_rules : List Str := ["rules", "one"]
theorem sc_look_rules : FnScope N_look_rules ["rules"] (defScope s_look_rules) := ⟨rfl, rfl, rfl, by decide +kernel, rfl, by decide +kernel, by decide +kernel⟩
abbrev s_Keep_init : Stmt := mthS 29 0
abbrev N_Keep_init : List Str := ["self", "rules"]
theorem sc_Keep_init : FnScope N_Keep_init ["self", "rules"] (defScope s_Keep_init) := ⟨rfl, rfl, rfl, by decide +kernel, rfl, by decide +kernel, by decide +kernel⟩
abbrev s_look_night : Stmt := topS 14
abbrev N_look_night : List Str := ["night"]
theorem sc_look_night : FnScope N_look_night ["night"] (defScope s_look_night) := ⟨rfl, rfl, rfl, by decide +kernel, rfl, by decide +kernel, by decide +kernel⟩
abbrev s_look_taken : Stmt := topS 25
abbrev N_look_taken : List Str := ["keep", "night"]
theorem sc_look_taken : FnScope N_look_taken ["keep", "night"] (defScope s_look_taken) := ⟨rfl, rfl, rfl, by decide +kernel, rfl, by decide +kernel, by decide +kernel⟩
abbrev s_Keep_take : Stmt := mthS 29 2
abbrev N_Keep_take : List Str := ["self", "night"]
theorem sc_Keep_take : FnScope N_Keep_take ["self", "night"] (defScope s_Keep_take) := ⟨rfl, rfl, rfl, by decide +kernel, rfl, by decide +kernel, by decide +kernel⟩
abbrev s_Keep_unpin : Stmt := mthS 29 5
abbrev N_Keep_unpin : List Str := ["self", "night", "one"]
theorem sc_Keep_unpin : FnScope N_Keep_unpin ["self", "night"] (defScope s_Keep_unpin) := ⟨rfl, rfl, rfl, by decide +kernel, rfl, by decide +kernel, by decide +kernel⟩
abbrev s_number_of : Stmt := topS 15
abbrev N_number_of : List Str := ["rounds", "night", "whole", "found", "left", "long"]
theorem sc_number_of : FnScope N_number_of ["rounds", "night"] (defScope s_number_of) := ⟨rfl, rfl, rfl, by decide +kernel, rfl, by decide +kernel, by decide +kernel⟩
abbrev s_kept_by : Stmt := topS 22
abbrev N_kept_by : List Str := ["rule", "nights", "found", "ahead", "night", "number"]
theorem sc_kept_by : FnScope N_kept_by ["rule", "nights"] (defScope s_kept_by) := ⟨rfl, rfl, rfl, by decide +kernel, rfl, by decide +kernel, by decide +kernel⟩
abbrev s_kept_of : Stmt := topS 23
abbrev N_kept_of : List Str := ["rules", "nights", "found", "rule", "night"]
theorem sc_kept_of : FnScope N_kept_of ["rules", "nights"] (defScope s_kept_of) := ⟨rfl, rfl, rfl, by decide +kernel, rfl, by decide +kernel, by decide +kernel⟩
abbrev s_gone_of : Stmt := topS 27
abbrev N_gone_of : List Str := ["keep", "stay", "night"]
theorem sc_gone_of : FnScope N_gone_of ["keep"] (defScope s_gone_of) := ⟨rfl, rfl, rfl, by decide +kernel, rfl, by decide +kernel, by decide +kernel⟩
abbrev s_Keep_let_go : Stmt := mthS 29 3
abbrev N_Keep_let_go : List Str := ["self", "gone", "night"]
theorem sc_Keep_let_go : FnScope N_Keep_let_go ["self"] (defScope s_Keep_let_go) := ⟨rfl, rfl, rfl, by decide +kernel, rfl, by decide +kernel, by decide +kernel⟩
abbrev s_law_spot : Stmt := topS 35
abbrev N_law_spot : List Str := ["_law_rounds_here", "_law_night", "_law_whole", "_law_at", "_law_number", "_law_long"]
theorem sc_law_spot : FnScope N_law_spot ["_law_rounds_here", "_law_night"] (defScope s_law_spot) := ⟨rfl, rfl, rfl, by decide +kernel, rfl, by decide +kernel, by decide +kernel⟩
abbrev s_law_by : Stmt := topS 38
abbrev N_law_by : List Str := ["_law_rule", "_law_nights_here", "_law_rounds_here", "_law_many", "_law_ends", "_law_k", "_law_night", "_law_number"]
theorem sc_law_by : FnScope N_law_by ["_law_rule", "_law_nights_here"] (defScope s_law_by) := ⟨rfl, rfl, rfl, by decide +kernel, rfl, by decide +kernel, by decide +kernel⟩
abbrev s_law_kept : Stmt := topS 39
abbrev N_law_kept : List Str := ["_law_rules_here", "_law_nights_here", "_law_some", "_law_rule", "_law_night", "_law_one"]
theorem sc_law_kept : FnScope N_law_kept ["_law_rules_here", "_law_nights_here"] (defScope s_law_kept) := ⟨rfl, rfl, rfl, by decide +kernel, rfl, by decide +kernel, by decide +kernel⟩
abbrev s_Keep_held : Stmt := mthS 29 6
abbrev N_Keep_held : List Str := ["self"]
theorem sc_Keep_held : FnScope N_Keep_held ["self"] (defScope s_Keep_held) := ⟨rfl, rfl, rfl, by decide +kernel, rfl, by decide +kernel, by decide +kernel⟩
abbrev s_look_held : Stmt := topS 26
abbrev N_look_held : List Str := ["keep", "night"]
theorem sc_look_held : FnScope N_look_held ["keep", "night"] (defScope s_look_held) := ⟨rfl, rfl, rfl, by decide +kernel, rfl, by decide +kernel, by decide +kernel⟩
abbrev s_Keep_pin : Stmt := mthS 29 4
abbrev N_Keep_pin : List Str := ["self", "night"]
theorem sc_Keep_pin : FnScope N_Keep_pin ["self", "night"] (defScope s_Keep_pin) := ⟨rfl, rfl, rfl, by decide +kernel, rfl, by decide +kernel, by decide +kernel⟩
abbrev s_Keep_pins : Stmt := mthS 29 7
abbrev N_Keep_pins : List Str := ["self"]
theorem sc_Keep_pins : FnScope N_Keep_pins ["self"] (defScope s_Keep_pins) := ⟨rfl, rfl, rfl, by decide +kernel, rfl, by decide +kernel, by decide +kernel⟩
abbrev s_law : Stmt := topS 40
abbrev N_law : List Str := ["_law_script", "_law_town_here", "_law_rules_here", "_law_nights_here", "_law_one", "_law_other", "_law_gone", "_law_pinned", "_law_k", "_law_night", "_law_way", "_law_due", "_law_thing"]
theorem sc_law : FnScope N_law ["_law_script"] (defScope s_law) := ⟨rfl, rfl, rfl, by decide +kernel, rfl, by decide +kernel, by decide +kernel⟩
structure Tx (K : PySem.W.Frag) (mg : Str → Option Value) : Prop where
  b_all : mg "all" = none
  b_bool : mg "bool" = none
  b_enumerate : mg "enumerate" = none
  b_int : mg "int" = none
  b_isinstance : mg "isinstance" = none
  b_len : mg "len" = none
  b_list : mg "list" = none
  b_max : mg "max" = none
  b_range : mg "range" = none
  b_reversed : mg "reversed" = none
  b_sorted : mg "sorted" = none
  b_sum : mg "sum" = none
  b_tuple : mg "tuple" = none
  c_MOST_HELD : ConF K mg "MOST_HELD" (.int 100)
  c_MOST_NIGHT : ConF K mg "MOST_NIGHT" (.int 1000000000)
  x_BadNight : ∃ C, ExcC K mg "BadNight" C
  x_BadRules : ∃ C, ExcC K mg "BadRules" C
  x_Full : ∃ C, ExcC K mg "Full" C
  x_NotHeld : ∃ C, ExcC K mg "NotHeld" C
  x_NotPinned : ∃ C, ExcC K mg "NotPinned" C
  x_Pinned : ∃ C, ExcC K mg "Pinned" C
  k_Keep : ∃ C, mg "Keep" = some (.ref C)
  objF : ObjF K mg
  eld : ∃ C fI, PySem.EldX.EldTxt K mg C fI
section
variable {P : Program} {w : World} {K : PySem.W.Frag} {mg : Str → Option Value} {base : Heap}
theorem cal_law_town {a : Addr} {fd : FuncData} (T : Tx K mg) (F : Fun K "_law_town" "_law_town" s_law_town a fd) (hg : mg "_law_town" = some (.ref a)) (b : Binds K fd ["_law_script"] [])  : Cal P w K mg base "_law_town" 1 F_law_town 1 :=
  ⟨a, fd, _, hg, F.kp, b, def_ok (m := m_law_town) (Fn_ := F_law_town) rfl rfl rfl F sc_law_town fun cdv A outer s H E hr tk hp =>
    (b_one (s_retN (n_cat (n_e (n_lst (a_cons e_int a_nil))) (n_e (n_ct call_list_of o_list T.b_list boot_list (a_cons (e_var (pv 0)) a_nil))))))⟩
theorem cal_law_draw {a : Addr} {fd : FuncData} (T : Tx K mg) (F : Fun K "_law_draw" "_law_draw" s_law_draw a fd) (hg : mg "_law_draw" = some (.ref a)) (b : Binds K fd ["_law_script", "_law_town_here", "_law_many"] [])  : Cal P w K mg base "_law_draw" 1 F_law_draw 3 :=
  ⟨a, fd, _, hg, F.kp, b, def_ok (m := m_law_draw) (Fn_ := F_law_draw) rfl rfl rfl F sc_law_draw fun cdv A outer s H E hr tk hp =>
    (b_cons (s_setO (ps_asg (e_op op_add o_add (e_ixO (pe_ix ix_seq (pv 1) e_int (fun _ _ => rfl))) e_int) (pg_sub (pv 1) e_int set_list)))
    (b_cons (s_if (t_cmp (op_eqD hr.units) o_eqD (e_var (pv 0)) (n_e (n_lst a_nil)) (nomark _)) (b_one (s_ret (e_op op_mod o_mod (e_op op_fdiv o_div (e_op op_mul o_mul (e_op op_mul o_mul (e_ixO (pe_ix ix_seq (pv 1) e_int (fun _ _ => rfl))) (e_ixO (pe_ix ix_seq (pv 1) e_int (fun _ _ => rfl)))) e_int) e_int) (e_var (pv 2))))) b_nil)
    (b_cons (s_set (ps_set (i := 3) sc_law_draw.nd rfl (by first | exact Or.inl rfl | exact Or.inr rfl) (e_op op_mod o_mod (e_ixO (pe_ix ix_seq (pv 1) e_int (fun _ _ => rfl))) (e_cb call_len o_len T.b_len boot_len (a_cons (e_var (pv 0)) a_nil)))))
    (b_cons (s_set (ps_set (i := 4) sc_law_draw.nd rfl (by first | exact Or.inl rfl | exact Or.inr rfl) (e_ixO (pe_ix ix_seq (pv 1) (e_op op_add o_add e_int (e_var (pv 3))) (fun _ _ => rfl)))))
    (b_cons (s_if (PW.pt (w_and (t_cmp op_ge o_ge (e_ix (e_var (pv 0)) (e_var (pv 3))) (e_op op_pow o_pow e_int e_int) (nomark _)) (w_and1 (t_cmp op_gt o_gt (e_var (pv 4)) e_int (nomark _))))) (b_cons (s_setO (ps_asg (e_op op_fdiv o_div (e_var (pv 4)) (e_var (pv 2))) (pg_sub (pv 1) (e_op op_add o_add e_int (e_var (pv 3))) set_list)))
    (b_one (s_ret (e_op op_mod o_mod (e_var (pv 4)) (e_var (pv 2)))))) b_nil)
    (b_cons (s_set (ps_set (i := 5) sc_law_draw.nd rfl (by first | exact Or.inl rfl | exact Or.inr rfl) (e_op op_mod o_mod (e_op op_add o_add (e_ix (e_var (pv 0)) (e_var (pv 3))) (e_op op_mul o_mul e_int (e_ixO (pe_ix ix_seq (pv 1) e_int (fun _ _ => rfl))))) e_int)))
    (b_cons (s_set (ps_set (i := 5) sc_law_draw.nd rfl (by first | exact Or.inl rfl | exact Or.inr rfl) (e_op op_mod o_mod (e_op op_pow o_pow (e_var (pv 5)) e_int) e_int)))
    (b_one (s_ret (e_op op_mod o_mod (e_op op_fdiv o_div (e_op op_mod o_mod (e_op op_add o_add (e_op op_mul o_mul (e_op op_fdiv o_div (e_var (pv 5)) e_int) e_int) (e_var (pv 5))) e_int) e_int) (e_var (pv 2))))))))))))⟩
theorem cal_law_rounds {a : Addr} {fd : FuncData} (T : Tx K mg) (F : Fun K "_law_rounds" "_law_rounds" s_law_rounds a fd) (hg : mg "_law_rounds" = some (.ref a)) (b : Binds K fd ["_law_script", "_law_town_here", "_law_long", "_law_top"] []) (C_law_draw : Cal P w K mg base "_law_draw" 1 F_law_draw 3) : Cal P w K mg base "_law_rounds" 2 F_law_rounds 4 :=
  ⟨a, fd, _, hg, F.kp, b, def_ok (m := m_law_rounds) (Fn_ := F_law_rounds) rfl rfl rfl F sc_law_rounds fun cdv A outer s H E hr tk hp =>
    (b_cons (s_set (ps_set (i := 4) sc_law_rounds.nd rfl (by first | exact Or.inl rfl | exact Or.inr rfl) (e_op op_add o_add e_int (e_calC C_law_draw (hr.mono (by decide)) tk (a_cons (e_var (pv 0)) (a_own (pv 1) (a_cons (e_var (pv 2)) a_nil)))))))
    (b_one (s_ret (e_ct call_tuple_of o_tuple T.b_tuple boot_tuple (a_cons (n_e (n_lc sc_law_rounds.nd (i_rng1 T.b_range (a_cons (e_var (pv 4)) a_nil)) (blkOk_by (own := [("_law_k", 5)]) (N := N_law_rounds) (sc := defScope s_law_rounds) (by decide +kernel)) (fun _ _ _ _ _ => (g_name (pg_name (i := 5) sc_law_rounds.nd rfl (by first | exact Or.inl rfl | exact Or.inr rfl)))) (fun _ _ _ _ _ => p_nil) (fun _ _ _ _ _ => (e_op op_add o_add e_int (e_calC C_law_draw (hr.mono (by decide)) takes0 (a_cons (e_var (pv 0)) (a_own (pv 1) (a_cons (e_var (pv 3)) a_nil)))))))) a_nil)))))⟩
theorem cal_law_rules {a : Addr} {fd : FuncData} (T : Tx K mg) (F : Fun K "_law_rules" "_law_rules" s_law_rules a fd) (hg : mg "_law_rules" = some (.ref a)) (b : Binds K fd ["_law_script", "_law_town_here", "_law_many", "_law_long", "_law_top", "_law_most_many"] []) (C_law_draw : Cal P w K mg base "_law_draw" 1 F_law_draw 3) (C_law_rounds : Cal P w K mg base "_law_rounds" 2 F_law_rounds 4) : Cal P w K mg base "_law_rules" 3 F_law_rules 6 :=
  ⟨a, fd, _, hg, F.kp, b, def_ok (m := m_law_rules) (Fn_ := F_law_rules) rfl rfl rfl F sc_law_rules fun cdv A outer s H E hr tk hp =>
    (b_cons (s_set (ps_set (i := 6) sc_law_rules.nd rfl (by first | exact Or.inl rfl | exact Or.inr rfl) (e_op op_add o_add e_int (e_calC C_law_draw (hr.mono (by decide)) tk (a_cons (e_var (pv 0)) (a_own (pv 1) (a_cons (e_var (pv 2)) a_nil)))))))
    (b_cons (s_new (ps_set (i := 7) sc_law_rules.nd rfl (by first | exact Or.inl rfl | exact Or.inr rfl) (n_lst a_nil)))
    (b_cons (s_for (i_rng1 T.b_range (a_cons (e_var (pv 6)) a_nil)) (g_name (pg_name (i := 8) sc_law_rules.nd rfl (by first | exact Or.inl rfl | exact Or.inr rfl))) (b_one (s_expr (e_app (pe_bm PySem.F.plainAttrs_list PySem.F.slot_list_append PySem.F.type_list_append mt_append (pv 7) (pa_cons (e_tup (a_cons (e_calC C_law_rounds (hr.mono (by decide)) tk (a_cons (e_var (pv 0)) (a_own (pv 1) (a_cons (e_var (pv 3)) (a_cons (e_var (pv 4)) a_nil))))) (a_cons (e_op op_add o_add e_int (e_calC C_law_draw (hr.mono (by decide)) tk (a_cons (e_var (pv 0)) (a_own (pv 1) (a_cons (e_var (pv 5)) a_nil))))) a_nil))) pa_nil))))) hp)
    (b_cons (s_if (PW.pt (w_and (t_cmp op_gt o_gt (e_var (pv 6)) e_int (nomark _)) (w_and1 (t_cmp (op_eqD hr.units) o_eqD (e_calC C_law_draw (hr.mono (by decide)) tk (a_cons (e_var (pv 0)) (a_own (pv 1) (a_cons e_int a_nil)))) e_int (nomark _))))) (b_one (s_setO (ps_asg (e_ixO (pe_ix ix_seq (pv 7) e_int (fun _ _ => rfl))) (pg_sub (pv 7) (e_op op_sub o_sub (e_var (pv 6)) e_int) set_list)))) b_nil)
    (b_one (s_ret (e_tupleO (pe_callTy call_tuple_of (by rfl) T.b_tuple boot_tuple (pa_cons (pv 7) pa_nil)))))))))⟩
theorem cal_law_pick {a : Addr} {fd : FuncData} (T : Tx K mg) (F : Fun K "_law_pick" "_law_pick" s_law_pick a fd) (hg : mg "_law_pick" = some (.ref a)) (b : Binds K fd ["_law_script", "_law_town_here", "_law_some"] []) (C_law_draw : Cal P w K mg base "_law_draw" 1 F_law_draw 3) : Cal P w K mg base "_law_pick" 2 F_law_pick 3 :=
  ⟨a, fd, _, hg, F.kp, b, def_ok (m := m_law_pick) (Fn_ := F_law_pick) rfl rfl rfl F sc_law_pick fun cdv A outer s H E hr tk hp =>
    (b_one (s_ret (e_ix (e_var (pv 2)) (e_calC C_law_draw (hr.mono (by decide)) tk (a_cons (e_var (pv 0)) (a_own (pv 1) (a_cons (e_cb call_len o_len T.b_len boot_len (a_cons (e_var (pv 2)) a_nil)) a_nil)))))))⟩
theorem cal_law_nights {a : Addr} {fd : FuncData} (T : Tx K mg) (F : Fun K "_law_nights" "_law_nights" s_law_nights a fd) (hg : mg "_law_nights" = some (.ref a)) (b : Binds K fd ["_law_script", "_law_town_here", "_law_many", "_law_step"] []) (C_law_draw : Cal P w K mg base "_law_draw" 1 F_law_draw 3) (C_law_pick : Cal P w K mg base "_law_pick" 2 F_law_pick 3) : Cal P w K mg base "_law_nights" 3 F_law_nights 4 :=
  ⟨a, fd, _, hg, F.kp, b, def_ok (m := m_law_nights) (Fn_ := F_law_nights) rfl rfl rfl F sc_law_nights fun cdv A outer s H E hr tk hp =>
    (b_cons (s_set (ps_set (i := 4) sc_law_nights.nd rfl (by first | exact Or.inl rfl | exact Or.inr rfl) (e_calC C_law_draw (hr.mono (by decide)) tk (a_cons (e_var (pv 0)) (a_own (pv 1) (a_cons (e_op op_add o_add (e_op op_mul o_mul e_int (e_var (pv 3))) e_int) a_nil))))))
    (b_cons (s_new (ps_set (i := 5) sc_law_nights.nd rfl (by first | exact Or.inl rfl | exact Or.inr rfl) (n_lst a_nil)))
    (b_cons (s_for (i_rng1 T.b_range (a_cons (e_calC C_law_draw (hr.mono (by decide)) tk (a_cons (e_var (pv 0)) (a_own (pv 1) (a_cons (e_op op_add o_add (e_var (pv 2)) e_int) a_nil)))) a_nil)) (g_name (pg_name (i := 6) sc_law_nights.nd rfl (by first | exact Or.inl rfl | exact Or.inr rfl))) (b_cons (s_expr (e_app (pe_bm PySem.F.plainAttrs_list PySem.F.slot_list_append PySem.F.type_list_append mt_append (pv 5) (pa_cons (e_var (pv 4)) pa_nil))))
    (b_one (s_set (ps_set (i := 4) sc_law_nights.nd rfl (by first | exact Or.inl rfl | exact Or.inr rfl) (e_op op_add o_add (e_op op_add o_add (e_var (pv 4)) e_int) (e_calC C_law_draw (hr.mono (by decide)) tk (a_cons (e_var (pv 0)) (a_own (pv 1) (a_cons (e_calC C_law_pick (hr.mono (by decide)) tk (a_cons (e_var (pv 0)) (a_own (pv 1) (a_cons (n_e (n_lst (a_cons e_int (a_cons e_int (a_cons (e_var (pv 3)) a_nil))))) a_nil)))) a_nil))))))))) hp)
    (b_one (s_rtOwn (pv 5))))))⟩
theorem cal_is_number {a : Addr} {fd : FuncData} (T : Tx K mg) (F : Fun K "is_number" "is_number" s_is_number a fd) (hg : mg "is_number" = some (.ref a)) (b : Binds K fd ["thing", "least", "most"] [])  : Cal P w K mg base "is_number" 1 F_is_number 3 :=
  ⟨a, fd, _, hg, F.kp, b, def_ok (m := m_is_number) (Fn_ := F_is_number) rfl rfl rfl F sc_is_number fun cdv A outer s H E hr tk hp =>
    (b_one (s_ret (e_and (e_cb call_isi o_isi T.b_isinstance boot_isinstance (a_cons (e_var (pv 0)) (a_cons (e_ty T.b_int boot_int) a_nil))) (e_and (e_not (e_cb call_isi o_isi T.b_isinstance boot_isinstance (a_cons (e_var (pv 0)) (a_cons (e_ty T.b_bool boot_bool) a_nil)))) (e_one (e_chain op_le o_le op_le o_le (e_var (pv 1)) (e_var (pv 0)) (e_var (pv 2))))))))⟩
theorem cal_is_rounds {a : Addr} {fd : FuncData} (T : Tx K mg) (F : Fun K "is_rounds" "is_rounds" s_is_rounds a fd) (hg : mg "is_rounds" = some (.ref a)) (b : Binds K fd ["thing"] []) (C_is_number : Cal P w K mg base "is_number" 1 F_is_number 3) : Cal P w K mg base "is_rounds" 2 F_is_rounds 1 :=
  ⟨a, fd, _, hg, F.kp, b, def_ok (m := m_is_rounds) (Fn_ := F_is_rounds) rfl rfl rfl F sc_is_rounds fun cdv A outer s H E hr tk hp =>
    (b_cons (s_if (PW.pt (w_or (t_not (t_val (e_cb call_isi o_isi T.b_isinstance boot_isinstance (a_cons (e_var (pv 0)) (a_cons (e_ty T.b_tuple boot_tuple) a_nil))))) (w_or1 (t_not (t_chain op_le o_le op_le o_le e_int (e_cb call_len o_len T.b_len boot_len (a_cons (e_var (pv 0)) a_nil)) e_int))))) (b_one (s_ret e_bl)) b_nil)
    (b_one (s_ret (e_cb (cr_all rfl) o_all T.b_all boot_all (a_cons (n_e (n_lc sc_is_rounds.nd (i_tup (e_var (pv 0))) (blkOk_by (own := [("one", 1)]) (N := N_is_rounds) (sc := defScope s_is_rounds) (by decide +kernel)) (fun _ _ _ _ _ => (g_name (pg_name (i := 1) sc_is_rounds.nd rfl (by first | exact Or.inl rfl | exact Or.inr rfl)))) (fun _ _ _ _ _ => p_nil) (fun _ _ _ _ _ => (e_calC C_is_number (hr.mono (by decide)) takes0 (a_cons (e_var (pv 1)) (a_cons e_int (a_cons e_int a_nil))))))) a_nil)))))⟩
theorem cal_is_rule {a : Addr} {fd : FuncData} (T : Tx K mg) (F : Fun K "is_rule" "is_rule" s_is_rule a fd) (hg : mg "is_rule" = some (.ref a)) (b : Binds K fd ["thing"] []) (C_is_number : Cal P w K mg base "is_number" 1 F_is_number 3) (C_is_rounds : Cal P w K mg base "is_rounds" 2 F_is_rounds 1) : Cal P w K mg base "is_rule" 3 F_is_rule 1 :=
  ⟨a, fd, _, hg, F.kp, b, def_ok (m := m_is_rule) (Fn_ := F_is_rule) rfl rfl rfl F sc_is_rule fun cdv A outer s H E hr tk hp =>
    (b_one (s_ret (e_and (e_cb call_isi o_isi T.b_isinstance boot_isinstance (a_cons (e_var (pv 0)) (a_cons (e_ty T.b_tuple boot_tuple) a_nil))) (e_and (e_cmp (op_eqD hr.units) o_eqD (e_cb call_len o_len T.b_len boot_len (a_cons (e_var (pv 0)) a_nil)) e_int (nomark _)) (e_and (e_calC C_is_rounds (hr.mono (by decide)) tk (a_cons (e_ix (e_var (pv 0)) e_int) a_nil)) (e_one (e_calC C_is_number (hr.mono (by decide)) tk (a_cons (e_ix (e_var (pv 0)) e_int) (a_cons e_int (a_cons e_int a_nil))))))))))⟩
theorem cal_look_rules {a : Addr} {fd : FuncData} (T : Tx K mg) (F : Fun K "look_rules" "look_rules" s_look_rules a fd) (hg : mg "look_rules" = some (.ref a)) (b : Binds K fd ["rules"] []) (C_is_rule : Cal P w K mg base "is_rule" 3 F_is_rule 1) : Cal P w K mg base "look_rules" 4 F_look_rules 1 :=
  ⟨a, fd, _, hg, F.kp, b, def_ok (m := m_look_rules) (Fn_ := F_look_rules) rfl rfl rfl F sc_look_rules fun cdv A outer s H E hr tk hp =>
    (b_one (s_if (PW.pt (w_or (t_not (t_val (e_cb call_isi o_isi T.b_isinstance boot_isinstance (a_cons (e_var (pv 0)) (a_cons (e_ty T.b_tuple boot_tuple) a_nil))))) (w_or (t_not (t_chain op_le o_le op_le o_le e_int (e_cb call_len o_len T.b_len boot_len (a_cons (e_var (pv 0)) a_nil)) e_int)) (w_or1 (t_not (t_val (e_cb (cr_all rfl) o_all T.b_all boot_all (a_cons (n_e (n_lc sc_look_rules.nd (i_tup (e_var (pv 0))) (blkOk_by (own := [("one", 1)]) (N := N_look_rules) (sc := defScope s_look_rules) (by decide +kernel)) (fun _ _ _ _ _ => (g_name (pg_name (i := 1) sc_look_rules.nd rfl (by first | exact Or.inl rfl | exact Or.inr rfl)))) (fun _ _ _ _ _ => p_nil) (fun _ _ _ _ _ => (e_calC C_is_rule (hr.mono (by decide)) takes0 (a_cons (e_var (pv 1)) a_nil))))) a_nil)))))))) (b_one (s_raiseE T.x_BadRules tk)) b_nil))⟩
theorem fn_Keep_init {a : Addr} {fd : FuncData} (T : Tx K mg) (F : Fun K "__init__" "Keep.__init__" s_Keep_init a fd) (C_look_rules : Cal P w K mg base "look_rules" 4 F_look_rules 1) : FnOk P w K mg base (L2.CX P w) 5 a fd ["self", "rules"] (vF K mg F_Keep_init 2) :=
  def_ok (m := m_Keep_init) (Fn_ := F_Keep_init) rfl rfl rfl F sc_Keep_init fun cdv A outer s H E hr tk hp =>
    (b_cons (s_expr (e_calC C_look_rules (hr.mono (by decide)) tk (a_cons (e_var (pv 1)) a_nil)))
    (b_cons (s_fld T.objF (pv 0) (e_var (pv 1)))
    (b_cons (s_fldN T.objF (pv 0) (n_lst a_nil))
    (b_cons (s_fldN T.objF (pv 0) (n_lst a_nil))
    (b_one (s_fld T.objF (pv 0) e_non))))))
theorem cal_look_night {a : Addr} {fd : FuncData} (T : Tx K mg) (F : Fun K "look_night" "look_night" s_look_night a fd) (hg : mg "look_night" = some (.ref a)) (b : Binds K fd ["night"] []) (C_is_number : Cal P w K mg base "is_number" 1 F_is_number 3) : Cal P w K mg base "look_night" 2 F_look_night 1 :=
  ⟨a, fd, _, hg, F.kp, b, def_ok (m := m_look_night) (Fn_ := F_look_night) rfl rfl rfl F sc_look_night fun cdv A outer s H E hr tk hp =>
    (b_one (s_if (t_not (t_val (e_calC C_is_number (hr.mono (by decide)) tk (a_cons (e_var (pv 0)) (a_cons e_int (a_cons (e_glob T.c_MOST_NIGHT) a_nil)))))) (b_one (s_raiseE T.x_BadNight tk)) b_nil))⟩
theorem cal_look_taken {a : Addr} {fd : FuncData} (T : Tx K mg) (F : Fun K "look_taken" "look_taken" s_look_taken a fd) (hg : mg "look_taken" = some (.ref a)) (b : Binds K fd ["keep", "night"] []) (C_look_night : Cal P w K mg base "look_night" 2 F_look_night 1) : Cal P w K mg base "look_taken" 3 F_look_taken 2 :=
  ⟨a, fd, _, hg, F.kp, b, def_ok (m := m_look_taken) (Fn_ := F_look_taken) rfl rfl rfl F sc_look_taken fun cdv A outer s H E hr tk hp =>
    (b_cons (s_expr (e_calC C_look_night (hr.mono (by decide)) tk (a_cons (e_var (pv 1)) a_nil)))
    (b_cons (s_if (PW.pt (w_and (t_cmp op_notN o_isn (e_fld (e_var (pv 0))) e_non (nomark _)) (w_and1 (t_cmp op_le o_le (e_var (pv 1)) (e_fld (e_var (pv 0))) (nomark _))))) (b_one (s_raiseEl T.eld hr tk (e_fld (e_var (pv 0))))) b_nil)
    (b_one (s_if (t_cmp op_ge o_ge (e_cb call_len o_len T.b_len boot_len (a_cons (e_fld (e_var (pv 0))) a_nil)) (e_glob T.c_MOST_HELD) (nomark _)) (b_one (s_raiseE T.x_Full tk)) b_nil))))⟩
theorem fn_Keep_take {a : Addr} {fd : FuncData} (T : Tx K mg) (F : Fun K "take" "Keep.take" s_Keep_take a fd) (C_look_taken : Cal P w K mg base "look_taken" 3 F_look_taken 2) : FnOk P w K mg base (L2.CX P w) 4 a fd ["self", "night"] (vF K mg F_Keep_take 2) :=
  def_ok (m := m_Keep_take) (Fn_ := F_Keep_take) rfl rfl rfl F sc_Keep_take fun cdv A outer s H E hr tk hp =>
    (b_cons (s_expr (e_fz (e_calC C_look_taken (hr.mono (by decide)) tk (a_cons (e_var (pv 0)) (a_cons (e_var (pv 1)) a_nil)))))
    (b_cons (s_expr (e_appF (pe_bm PySem.F.plainAttrs_list PySem.F.slot_list_append PySem.F.type_list_append mt_append (pe_fld (pv 0) rfl) (pa_cons (e_var (pv 1)) pa_nil))))
    (b_one (s_fld T.objF (pv 0) (e_var (pv 1))))))
theorem fn_Keep_unpin {a : Addr} {fd : FuncData} (T : Tx K mg) (F : Fun K "unpin" "Keep.unpin" s_Keep_unpin a fd) (C_is_number : Cal P w K mg base "is_number" 1 F_is_number 3) : FnOk P w K mg base (L2.CX P w) 2 a fd ["self", "night"] (vF K mg F_Keep_unpin 2) :=
  def_ok (m := m_Keep_unpin) (Fn_ := F_Keep_unpin) rfl rfl rfl F sc_Keep_unpin fun cdv A outer s H E hr tk hp =>
    (b_cons (s_if (t_fz (PW.pt (w_or (t_not (t_val (e_calC C_is_number (hr.mono (by decide)) tk (a_cons (e_var (pv 1)) (a_cons e_int (a_cons (e_var (pv 1)) a_nil)))))) (w_or1 (t_cmp op_notIn_seq o_in (e_var (pv 1)) (e_fld (e_var (pv 0))) (by rfl)))))) (b_one (s_raiseE T.x_NotPinned tk)) b_nil)
    (b_one (s_fldN T.objF (pv 0) (n_fz (n_lc sc_Keep_unpin.nd (i_list (e_fld (e_var (pv 0)))) (blkOk_by (own := [("one", 2)]) (N := N_Keep_unpin) (sc := defScope s_Keep_unpin) (by decide +kernel)) (fun _ _ _ _ _ => (g_name (pg_name (i := 2) sc_Keep_unpin.nd rfl (by first | exact Or.inl rfl | exact Or.inr rfl)))) (fun _ _ _ _ _ => (p_one (t_cmp (op_neD hr.units) o_neD (e_var (pv 2)) (e_var (pv 1)) (nomark _)))) (fun _ _ _ _ _ => (e_var (pv 2))))))))
theorem cal_number_of {a : Addr} {fd : FuncData} (T : Tx K mg) (F : Fun K "number_of" "number_of" s_number_of a fd) (hg : mg "number_of" = some (.ref a)) (b : Binds K fd ["rounds", "night"] [])  : Cal P w K mg base "number_of" 1 F_number_of 2 :=
  ⟨a, fd, _, hg, F.kp, b, def_ok (m := m_number_of) (Fn_ := F_number_of) rfl rfl rfl F sc_number_of fun cdv A outer s H E hr tk hp =>
    (b_cons (s_set (ps_set (i := 2) sc_number_of.nd rfl (by first | exact Or.inl rfl | exact Or.inr rfl) (e_cb (cr_sumA rfl) o_sum T.b_sum boot_sum (a_cons (e_var (pv 0)) a_nil))))
    (b_cons (s_set (ps_set (i := 3) sc_number_of.nd rfl (by first | exact Or.inl rfl | exact Or.inr rfl) (e_op op_mul o_mul (e_op op_fdiv o_div (e_var (pv 1)) (e_var (pv 2))) (e_cb call_len o_len T.b_len boot_len (a_cons (e_var (pv 0)) a_nil)))))
    (b_cons (s_set (ps_set (i := 4) sc_number_of.nd rfl (by first | exact Or.inl rfl | exact Or.inr rfl) (e_op op_mod o_mod (e_var (pv 1)) (e_var (pv 2)))))
    (b_cons (s_for (i_tup (e_var (pv 0))) (g_name (pg_name (i := 5) sc_number_of.nd rfl (by first | exact Or.inl rfl | exact Or.inr rfl))) (b_cons (s_if (t_cmp op_lt o_lt (e_var (pv 4)) (e_var (pv 5)) (nomark _)) (b_one (s_ret (e_var (pv 3)))) b_nil)
    (b_cons (s_set (ps_set (i := 4) sc_number_of.nd rfl (by first | exact Or.inl rfl | exact Or.inr rfl) (e_op op_sub o_sub (e_var (pv 4)) (e_var (pv 5)))))
    (b_one (s_set (ps_set (i := 3) sc_number_of.nd rfl (by first | exact Or.inl rfl | exact Or.inr rfl) (e_op op_add o_add (e_var (pv 3)) e_int)))))) hp)
    (b_one (s_ret (e_var (pv 3))))))))⟩
theorem cal_kept_by {a : Addr} {fd : FuncData} (T : Tx K mg) (F : Fun K "kept_by" "kept_by" s_kept_by a fd) (hg : mg "kept_by" = some (.ref a)) (b : Binds K fd ["rule", "nights"] []) (C_number_of : Cal P w K mg base "number_of" 1 F_number_of 2) : Cal P w K mg base "kept_by" 2 F_kept_by 2 :=
  ⟨a, fd, _, hg, F.kp, b, def_ok (m := m_kept_by) (Fn_ := F_kept_by) rfl rfl rfl F sc_kept_by fun cdv A outer s H E hr tk hp =>
    (b_cons (s_new (ps_set (i := 2) sc_kept_by.nd rfl (by first | exact Or.inl rfl | exact Or.inr rfl) (n_lst a_nil)))
    (b_cons (s_set (ps_set (i := 3) sc_kept_by.nd rfl (by first | exact Or.inl rfl | exact Or.inr rfl) e_non))
    (b_cons (s_for (i_rev T.b_reversed (a_cons (e_var (pv 1)) a_nil)) (g_name (pg_name (i := 4) sc_kept_by.nd rfl (by first | exact Or.inl rfl | exact Or.inr rfl))) (b_cons (s_set (ps_set (i := 5) sc_kept_by.nd rfl (by first | exact Or.inl rfl | exact Or.inr rfl) (e_calC C_number_of (hr.mono (by decide)) tk (a_cons (e_ix (e_var (pv 0)) e_int) (a_cons (e_var (pv 4)) a_nil)))))
    (b_cons (s_if (t_cmp (op_neD hr.units) o_neD (e_var (pv 5)) (e_var (pv 3)) (nomark _)) (b_cons (s_expr (e_app (pe_bm PySem.F.plainAttrs_list PySem.F.slot_list_append PySem.F.type_list_append mt_append (pv 2) (pa_cons (e_var (pv 4)) pa_nil))))
    (b_one (s_set (ps_set (i := 3) sc_kept_by.nd rfl (by first | exact Or.inl rfl | exact Or.inr rfl) (e_var (pv 5)))))) b_nil)
    (b_one (s_if (t_cmp (op_eqD hr.units) o_eqD (e_lenO (pe_callB call_len (by rfl) T.b_len boot_len (pa_cons (pv 2) pa_nil))) (e_ix (e_var (pv 0)) e_int) (nomark _)) (b_one (s_rtOwn (pv 2))) b_nil)))) hp)
    (b_one (s_rtOwn (pv 2))))))⟩
theorem cal_kept_of {a : Addr} {fd : FuncData} (T : Tx K mg) (F : Fun K "kept_of" "kept_of" s_kept_of a fd) (hg : mg "kept_of" = some (.ref a)) (b : Binds K fd ["rules", "nights"] []) (C_kept_by : Cal P w K mg base "kept_by" 2 F_kept_by 2) : Cal P w K mg base "kept_of" 3 F_kept_of 2 :=
  ⟨a, fd, _, hg, F.kp, b, def_ok (m := m_kept_of) (Fn_ := F_kept_of) rfl rfl rfl F sc_kept_of fun cdv A outer s H E hr tk hp =>
    (b_cons (s_new (ps_set (i := 2) sc_kept_of.nd rfl (by first | exact Or.inl rfl | exact Or.inr rfl) n_dnew))
    (b_cons (s_for (i_tup (e_var (pv 0))) (g_name (pg_name (i := 3) sc_kept_of.nd rfl (by first | exact Or.inl rfl | exact Or.inr rfl))) (b_one (s_for (i_list (e_calC C_kept_by (hr.mono (by decide)) tk (a_cons (e_var (pv 3)) (a_cons (e_var (pv 1)) a_nil)))) (g_name (pg_name (i := 4) sc_kept_of.nd rfl (by first | exact Or.inl rfl | exact Or.inr rfl))) (b_one (s_putK (ps_dput (hu_of hr) (pv 2) (e_var (pv 4)) e_bl rfl))) hp)) hp)
    (b_one (s_ret (n_e (n_sortedK (pe_sortedKeys rfl (by rfl) T.b_sorted (pv 2))))))))⟩
theorem cal_gone_of {a : Addr} {fd : FuncData} (T : Tx K mg) (F : Fun K "gone_of" "gone_of" s_gone_of a fd) (hg : mg "gone_of" = some (.ref a)) (b : Binds K fd ["keep"] []) (C_kept_of : Cal P w K mg base "kept_of" 3 F_kept_of 2) : Cal P w K mg base "gone_of" 4 F_gone_of 1 :=
  ⟨a, fd, _, hg, F.kp, b, def_ok (m := m_gone_of) (Fn_ := F_gone_of) rfl rfl rfl F sc_gone_of fun cdv A outer s H E hr tk hp =>
    (b_cons (s_set (ps_set (i := 1) sc_gone_of.nd rfl (by first | exact Or.inl rfl | exact Or.inr rfl) (n_e (n_cat (e_calC C_kept_of (hr.mono (by decide)) tk (a_cons (e_fld (e_var (pv 0))) (a_cons (e_fld (e_var (pv 0))) a_nil))) (e_fld (e_var (pv 0)))))))
    (b_one (s_retN (n_lc sc_gone_of.nd (i_list (e_fld (e_var (pv 0)))) (blkOk_by (own := [("night", 2)]) (N := N_gone_of) (sc := defScope s_gone_of) (by decide +kernel)) (fun _ _ _ _ _ => (g_name (pg_name (i := 2) sc_gone_of.nd rfl (by first | exact Or.inl rfl | exact Or.inr rfl)))) (fun _ _ _ _ _ => (p_one (t_cmp op_notIn_seq o_in (e_var (pv 2)) (e_var (pv 1)) (by rfl)))) (fun _ _ _ _ _ => (e_var (pv 2)))))))⟩
theorem fn_Keep_let_go {a : Addr} {fd : FuncData} (T : Tx K mg) (F : Fun K "let_go" "Keep.let_go" s_Keep_let_go a fd) (C_gone_of : Cal P w K mg base "gone_of" 4 F_gone_of 1) : FnOk P w K mg base (L2.CX P w) 5 a fd ["self"] (vF K mg F_Keep_let_go 1) :=
  def_ok (m := m_Keep_let_go) (Fn_ := F_Keep_let_go) rfl rfl rfl F sc_Keep_let_go fun cdv A outer s H E hr tk hp =>
    (b_cons (s_set (ps_set (i := 1) sc_Keep_let_go.nd rfl (by first | exact Or.inl rfl | exact Or.inr rfl) (n_e (n_fz (n_calC C_gone_of (hr.mono (by decide)) tk (a_cons (e_var (pv 0)) a_nil))))))
    (b_cons (s_fldN T.objF (pv 0) (n_fz (n_lc sc_Keep_let_go.nd (i_list (e_fld (e_var (pv 0)))) (blkOk_by (own := [("night", 2)]) (N := N_Keep_let_go) (sc := defScope s_Keep_let_go) (by decide +kernel)) (fun _ _ _ _ _ => (g_name (pg_name (i := 2) sc_Keep_let_go.nd rfl (by first | exact Or.inl rfl | exact Or.inr rfl)))) (fun _ _ _ _ _ => (p_one (t_cmp op_notIn_seq o_in (e_var (pv 2)) (e_var (pv 1)) (by rfl)))) (fun _ _ _ _ _ => (e_var (pv 2))))))
    (b_one (s_ret (e_var (pv 1))))))
theorem cal_law_spot {a : Addr} {fd : FuncData} (T : Tx K mg) (F : Fun K "_law_spot" "_law_spot" s_law_spot a fd) (hg : mg "_law_spot" = some (.ref a)) (b : Binds K fd ["_law_rounds_here", "_law_night"] [])  : Cal P w K mg base "_law_spot" 1 F_law_spot 2 :=
  ⟨a, fd, _, hg, F.kp, b, def_ok (m := m_law_spot) (Fn_ := F_law_spot) rfl rfl rfl F sc_law_spot fun cdv A outer s H E hr tk hp =>
    (b_cons (s_set (ps_set (i := 2) sc_law_spot.nd rfl (by first | exact Or.inl rfl | exact Or.inr rfl) (e_cb (cr_sumA rfl) o_sum T.b_sum boot_sum (a_cons (e_var (pv 0)) a_nil))))
    (b_cons (s_set (ps_set (i := 3) sc_law_spot.nd rfl (by first | exact Or.inl rfl | exact Or.inr rfl) (e_op op_mul o_mul (e_op op_fdiv o_div (e_var (pv 1)) (e_var (pv 2))) (e_var (pv 2)))))
    (b_cons (s_set (ps_set (i := 4) sc_law_spot.nd rfl (by first | exact Or.inl rfl | exact Or.inr rfl) (e_op op_mul o_mul (e_op op_fdiv o_div (e_var (pv 1)) (e_var (pv 2))) (e_cb call_len o_len T.b_len boot_len (a_cons (e_var (pv 0)) a_nil)))))
    (b_cons (s_for (i_tup (e_var (pv 0))) (g_name (pg_name (i := 5) sc_law_spot.nd rfl (by first | exact Or.inl rfl | exact Or.inr rfl))) (b_cons (s_if (t_cmp op_lt o_lt (e_var (pv 1)) (e_op op_add o_add (e_var (pv 3)) (e_var (pv 5))) (nomark _)) (b_one (s_ret (e_tup (a_cons (e_var (pv 4)) (a_cons (e_var (pv 3)) a_nil))))) b_nil)
    (b_cons (s_set (ps_set (i := 3) sc_law_spot.nd rfl (by first | exact Or.inl rfl | exact Or.inr rfl) (e_op op_add o_add (e_var (pv 3)) (e_var (pv 5)))))
    (b_one (s_set (ps_set (i := 4) sc_law_spot.nd rfl (by first | exact Or.inl rfl | exact Or.inr rfl) (e_op op_add o_add (e_var (pv 4)) e_int)))))) hp)
    (b_one (s_ret e_non))))))⟩
theorem cal_law_by {a : Addr} {fd : FuncData} (T : Tx K mg) (F : Fun K "_law_by" "_law_by" s_law_by a fd) (hg : mg "_law_by" = some (.ref a)) (b : Binds K fd ["_law_rule", "_law_nights_here"] []) (C_law_spot : Cal P w K mg base "_law_spot" 1 F_law_spot 2) : Cal P w K mg base "_law_by" 2 F_law_by 2 :=
  ⟨a, fd, _, hg, F.kp, b, def_ok (m := m_law_by) (Fn_ := F_law_by) rfl rfl rfl F sc_law_by fun cdv A outer s H E hr tk hp =>
    (b_cons (s_asg (e_var (pv 0)) (g_tup (gs_cons (g_name (pg_name (i := 2) sc_law_by.nd rfl (by first | exact Or.inl rfl | exact Or.inr rfl))) (gs_cons (g_name (pg_name (i := 3) sc_law_by.nd rfl (by first | exact Or.inl rfl | exact Or.inr rfl))) gs_nil))))
    (b_cons (s_new (ps_set (i := 4) sc_law_by.nd rfl (by first | exact Or.inl rfl | exact Or.inr rfl) (n_lst a_nil)))
    (b_cons (s_for (i_enum T.b_enumerate (a_cons (e_var (pv 1)) a_nil)) (g_tup (gs_cons (g_name (pg_name (i := 5) sc_law_by.nd rfl (by first | exact Or.inl rfl | exact Or.inr rfl))) (gs_cons (g_name (pg_name (i := 6) sc_law_by.nd rfl (by first | exact Or.inl rfl | exact Or.inr rfl))) gs_nil))) (b_cons (s_set (ps_set (i := 7) sc_law_by.nd rfl (by first | exact Or.inl rfl | exact Or.inr rfl) (e_ix (e_calC C_law_spot (hr.mono (by decide)) tk (a_cons (e_var (pv 2)) (a_cons (e_var (pv 6)) a_nil))) e_int)))
    (b_one (s_if (PW.pt (w_or (t_cmp (op_eqD hr.units) o_eqD (e_op op_add o_add (e_var (pv 5)) e_int) (e_cb call_len o_len T.b_len boot_len (a_cons (e_var (pv 1)) a_nil)) (nomark _)) (w_or1 (t_cmp (op_neD hr.units) o_neD (e_ix (e_calC C_law_spot (hr.mono (by decide)) tk (a_cons (e_var (pv 2)) (a_cons (e_ix (e_var (pv 1)) (e_op op_add o_add (e_var (pv 5)) e_int)) a_nil))) e_int) (e_var (pv 7)) (nomark _))))) (b_one (s_expr (e_app (pe_bm PySem.F.plainAttrs_list PySem.F.slot_list_append PySem.F.type_list_append mt_append (pv 4) (pa_cons (e_var (pv 6)) pa_nil))))) b_nil))) hp)
    (b_one (s_frz 4 (s_ret (n_e (n_cutL (e_var (pv 4)) (l_some (e_cb (call_max2 rfl) o_max2 T.b_max boot_max (a_cons e_int (a_cons (e_op op_sub o_sub (e_cb call_len o_len T.b_len boot_len (a_cons (e_var (pv 4)) a_nil)) (e_var (pv 3))) a_nil)))) l_none))))))))⟩
theorem cal_law_kept {a : Addr} {fd : FuncData} (T : Tx K mg) (F : Fun K "_law_kept" "_law_kept" s_law_kept a fd) (hg : mg "_law_kept" = some (.ref a)) (b : Binds K fd ["_law_rules_here", "_law_nights_here"] []) (C_law_by : Cal P w K mg base "_law_by" 2 F_law_by 2) : Cal P w K mg base "_law_kept" 3 F_law_kept 2 :=
  ⟨a, fd, _, hg, F.kp, b, def_ok (m := m_law_kept) (Fn_ := F_law_kept) rfl rfl rfl F sc_law_kept fun cdv A outer s H E hr tk hp =>
    (b_cons (s_set (ps_set (i := 2) sc_law_kept.nd rfl (by first | exact Or.inl rfl | exact Or.inr rfl) (n_e (n_lc sc_law_kept.nd (i_tup (e_var (pv 0))) (blkOk_by (own := [("_law_rule", 3)]) (N := N_law_kept) (sc := defScope s_law_kept) (by decide +kernel)) (fun _ _ _ _ _ => (g_name (pg_name (i := 3) sc_law_kept.nd rfl (by first | exact Or.inl rfl | exact Or.inr rfl)))) (fun _ _ _ _ _ => p_nil) (fun _ _ _ _ _ => (e_calC C_law_by (hr.mono (by decide)) takes0 (a_cons (e_var (pv 3)) (a_cons (e_var (pv 1)) a_nil))))))))
    (b_one (s_ret (n_e (n_lc sc_law_kept.nd (i_list (e_var (pv 1))) (blkOk_by (own := [("_law_night", 4)]) (N := N_law_kept) (sc := defScope s_law_kept) (by decide +kernel)) (fun _ _ _ _ _ => (g_name (pg_name (i := 4) sc_law_kept.nd rfl (by first | exact Or.inl rfl | exact Or.inr rfl)))) (fun _ _ _ _ _ => (p_one (t_cmp (op_neD hr.units) o_neD (n_e (n_lc sc_law_kept.nd (i_list (e_var (pv 2))) (by refine blkOk_by (own := [("_law_one", 5)]) (N := N_law_kept) ?_; kernel_rfl) (fun _ _ _ _ _ => (g_name (pg_name (i := 5) sc_law_kept.nd rfl (by first | exact Or.inl rfl | exact Or.inr rfl)))) (fun _ _ _ _ _ => (p_one (t_cmp op_in_seq o_in (e_var (pv 4)) (e_var (pv 5)) (by rfl)))) (fun _ _ _ _ _ => e_int))) (n_e (n_lst a_nil)) (nomark _)))) (fun _ _ _ _ _ => (e_var (pv 4))))))))⟩
theorem fn_Keep_held {a : Addr} {fd : FuncData} (T : Tx K mg) (F : Fun K "held" "Keep.held" s_Keep_held a fd)  : FnOk P w K mg base (L2.CX P w) 1 a fd ["self"] (vF K mg F_Keep_held 1) :=
  def_ok (m := m_Keep_held) (Fn_ := F_Keep_held) rfl rfl rfl F sc_Keep_held fun cdv A outer s H E hr tk hp =>
    (b_one (s_ret (n_e (n_ct call_list_of o_list T.b_list boot_list (a_cons (e_fld (e_var (pv 0))) a_nil)))))
theorem cal_look_held {a : Addr} {fd : FuncData} (T : Tx K mg) (F : Fun K "look_held" "look_held" s_look_held a fd) (hg : mg "look_held" = some (.ref a)) (b : Binds K fd ["keep", "night"] []) (C_is_number : Cal P w K mg base "is_number" 1 F_is_number 3) : Cal P w K mg base "look_held" 2 F_look_held 2 :=
  ⟨a, fd, _, hg, F.kp, b, def_ok (m := m_look_held) (Fn_ := F_look_held) rfl rfl rfl F sc_look_held fun cdv A outer s H E hr tk hp =>
    (b_one (s_if (PW.pt (w_or (t_not (t_val (e_calC C_is_number (hr.mono (by decide)) tk (a_cons (e_var (pv 1)) (a_cons e_int (a_cons (e_var (pv 1)) a_nil)))))) (w_or1 (t_cmp op_notIn_seq o_in (e_var (pv 1)) (e_fld (e_var (pv 0))) (by rfl))))) (b_one (s_raiseE T.x_NotHeld tk)) b_nil))⟩
theorem fn_Keep_pin {a : Addr} {fd : FuncData} (T : Tx K mg) (F : Fun K "pin" "Keep.pin" s_Keep_pin a fd) (C_look_held : Cal P w K mg base "look_held" 2 F_look_held 2) : FnOk P w K mg base (L2.CX P w) 3 a fd ["self", "night"] (vF K mg F_Keep_pin 2) :=
  def_ok (m := m_Keep_pin) (Fn_ := F_Keep_pin) rfl rfl rfl F sc_Keep_pin fun cdv A outer s H E hr tk hp =>
    (b_cons (s_expr (e_fz (e_calC C_look_held (hr.mono (by decide)) tk (a_cons (e_var (pv 0)) (a_cons (e_var (pv 1)) a_nil)))))
    (b_cons (s_if (t_fz (t_cmp op_in_seq o_in (e_var (pv 1)) (e_fld (e_var (pv 0))) (by rfl))) (b_one (s_raiseE T.x_Pinned tk)) b_nil)
    (b_one (s_fldN T.objF (pv 0) (n_fz (n_cb cr_sortedI o_sorted T.b_sorted boot_sorted (a_cons (n_e (n_cat (e_fld (e_var (pv 0))) (n_e (n_lst (a_cons (e_var (pv 1)) a_nil))))) a_nil)))))))
theorem fn_Keep_pins {a : Addr} {fd : FuncData} (T : Tx K mg) (F : Fun K "pins" "Keep.pins" s_Keep_pins a fd)  : FnOk P w K mg base (L2.CX P w) 1 a fd ["self"] (vF K mg F_Keep_pins 1) :=
  def_ok (m := m_Keep_pins) (Fn_ := F_Keep_pins) rfl rfl rfl F sc_Keep_pins fun cdv A outer s H E hr tk hp =>
    (b_one (s_ret (n_e (n_ct call_list_of o_list T.b_list boot_list (a_cons (e_fld (e_var (pv 0))) a_nil)))))
theorem cal_law {a : Addr} {fd : FuncData} (T : Tx K mg) (F : Fun K "law" "law" s_law a fd) (C_law_draw : Cal P w K mg base "_law_draw" 1 F_law_draw 3) (C_law_kept : Cal P w K mg base "_law_kept" 3 F_law_kept 2) (C_law_nights : Cal P w K mg base "_law_nights" 3 F_law_nights 4) (C_law_pick : Cal P w K mg base "_law_pick" 2 F_law_pick 3) (C_law_rules : Cal P w K mg base "_law_rules" 3 F_law_rules 6) (C_law_town : Cal P w K mg base "_law_town" 1 F_law_town 1) (R_Keep : Mkr P w K mg base "Keep" 5 F_Keep_init 2) (M_Keep_held : Mth P w K mg base "Keep" "held" 1 F_Keep_held 1) (M_Keep_let_go : Mth P w K mg base "Keep" "let_go" 5 F_Keep_let_go 1) (M_Keep_pin : Mth P w K mg base "Keep" "pin" 3 F_Keep_pin 2) (M_Keep_pins : Mth P w K mg base "Keep" "pins" 1 F_Keep_pins 1) (M_Keep_take : Mth P w K mg base "Keep" "take" 4 F_Keep_take 2) (M_Keep_unpin : Mth P w K mg base "Keep" "unpin" 2 F_Keep_unpin 2) : FnOk P w K mg base (L2.CX P w) 7 a fd ["_law_script"] (vF K mg F_law 1) :=
  def_ok (m := m_law) (Fn_ := F_law) rfl rfl rfl F sc_law fun cdv A outer s H E hr tk hp =>
    (b_cons (s_new (ps_set (i := 1) sc_law.nd rfl (by first | exact Or.inl rfl | exact Or.inr rfl) (n_calC C_law_town (hr.mono (by decide)) tk (a_cons (e_var (pv 0)) a_nil))))
    (b_cons (s_set (ps_set (i := 2) sc_law.nd rfl (by first | exact Or.inl rfl | exact Or.inr rfl) (e_calC C_law_rules (hr.mono (by decide)) tk (a_cons (e_var (pv 0)) (a_own (pv 1) (a_cons e_int (a_cons e_int (a_cons (e_calC C_law_pick (hr.mono (by decide)) tk (a_cons (e_var (pv 0)) (a_own (pv 1) (a_cons (n_e (n_lst (a_cons e_int (a_cons e_int a_nil)))) a_nil)))) (a_cons (e_calC C_law_pick (hr.mono (by decide)) tk (a_cons (e_var (pv 0)) (a_own (pv 1) (a_cons (n_e (n_lst (a_cons e_int (a_cons e_int (a_cons e_int a_nil))))) a_nil)))) a_nil)))))))))
    (b_cons (s_set (ps_set (i := 3) sc_law.nd rfl (by first | exact Or.inl rfl | exact Or.inr rfl) (e_calC C_law_nights (hr.mono (by decide)) tk (a_cons (e_var (pv 0)) (a_own (pv 1) (a_cons e_int (a_cons (e_calC C_law_pick (hr.mono (by decide)) tk (a_cons (e_var (pv 0)) (a_own (pv 1) (a_cons (n_e (n_lst (a_cons e_int (a_cons e_int (a_cons e_int a_nil))))) a_nil)))) a_nil)))))))
    (b_cons (s_new (ps_set (i := 4) sc_law.nd rfl (by first | exact Or.inl rfl | exact Or.inr rfl) (n_make R_Keep (hr.mono (by decide)) tk (a_cons (e_var (pv 2)) a_nil))))
    (b_cons (s_new (ps_set (i := 5) sc_law.nd rfl (by first | exact Or.inl rfl | exact Or.inr rfl) (n_make R_Keep (hr.mono (by decide)) tk (a_cons (e_var (pv 2)) a_nil))))
    (b_cons (s_set (ps_set (i := 6) sc_law.nd rfl (by first | exact Or.inl rfl | exact Or.inr rfl) (n_e (n_lst a_nil))))
    (b_cons (s_new (ps_set (i := 7) sc_law.nd rfl (by first | exact Or.inl rfl | exact Or.inr rfl) (n_lst a_nil)))
    (b_cons (s_for (i_enum T.b_enumerate (a_cons (e_var (pv 3)) a_nil)) (g_tup (gs_cons (g_name (pg_name (i := 8) sc_law.nd rfl (by first | exact Or.inl rfl | exact Or.inr rfl))) (gs_cons (g_name (pg_name (i := 9) sc_law.nd rfl (by first | exact Or.inl rfl | exact Or.inr rfl))) gs_nil))) (b_cons (s_expr (e_methO M_Keep_take T.k_Keep (hr.mono (by decide)) tk (pv 4) (a_cons (e_var (pv 9)) a_nil)))
    (b_cons (s_expr (e_methO M_Keep_take T.k_Keep (hr.mono (by decide)) tk (pv 5) (a_cons (e_var (pv 9)) a_nil)))
    (b_cons (s_set (ps_set (i := 10) sc_law.nd rfl (by first | exact Or.inl rfl | exact Or.inr rfl) (e_calC C_law_draw (hr.mono (by decide)) tk (a_cons (e_var (pv 0)) (a_own (pv 1) (a_cons e_int a_nil))))))
    (b_cons (s_if (t_cmp op_lt o_lt (e_var (pv 10)) e_int (nomark _)) (b_cons (s_set (ps_set (i := 6) sc_law.nd rfl (by first | exact Or.inl rfl | exact Or.inr rfl) (n_e (n_cat (e_var (pv 6)) (e_methO0 M_Keep_let_go T.k_Keep (hr.mono (by decide)) tk (pv 4))))))
    (b_cons (s_set (ps_set (i := 11) sc_law.nd rfl (by first | exact Or.inl rfl | exact Or.inr rfl) (n_e (n_fz (n_cat (e_calC C_law_kept (hr.mono (by decide)) tk (a_cons (e_var (pv 2)) (a_cons (n_e (n_cutL (e_var (pv 3)) l_none (l_some (e_op op_add o_add (e_var (pv 8)) e_int)))) a_nil))) (e_var (pv 7)))))))
    (b_one (s_if (t_fz (t_cmp (op_neD hr.units) o_neD (e_meth0 M_Keep_held T.k_Keep (hr.mono (by decide)) tk (e_var (pv 4))) (n_e (n_lc sc_law.nd (i_list (n_e (n_cutL (e_var (pv 3)) l_none (l_some (e_op op_add o_add (e_var (pv 8)) e_int))))) (blkOk_by (own := [("_law_night", 9)]) (N := N_law) (sc := defScope s_law) (by decide +kernel)) (fun _ _ _ _ _ => (g_name (pg_name (i := 9) sc_law.nd rfl (by first | exact Or.inl rfl | exact Or.inr rfl)))) (fun _ _ _ _ _ => (p_one (t_cmp op_in_seq o_in (e_var (pv 9)) (e_var (pv 11)) (by rfl)))) (fun _ _ _ _ _ => (e_var (pv 9))))) (nomark _))) (b_one (s_ret e_bl)) b_nil)))) b_nil)
    (b_cons (s_if (t_cmp (op_eqD hr.units) o_eqD (e_var (pv 10)) e_int (nomark _)) (b_cons (s_set (ps_set (i := 12) sc_law.nd rfl (by first | exact Or.inl rfl | exact Or.inr rfl) (e_fzk (k := 1) (e_calC C_law_pick (hr.mono (by decide)) tk (a_cons (e_var (pv 0)) (a_own (pv 1) (a_cons (e_meth0 M_Keep_held T.k_Keep (hr.mono (by decide)) tk (e_var (pv 4))) a_nil)))))))
    (b_one (s_if (t_fz (t_cmp op_notIn_seq o_in (e_var (pv 12)) (e_var (pv 7)) (by rfl))) (b_cons (s_expr (e_methO M_Keep_pin T.k_Keep (hr.mono (by decide)) tk (pv 4) (a_cons (e_var (pv 12)) a_nil)))
    (b_one (s_expr (e_app (pe_bm PySem.F.plainAttrs_list PySem.F.slot_list_append PySem.F.type_list_append mt_append (pv 7) (pa_cons (e_var (pv 12)) pa_nil)))))) b_nil))) b_nil)
    (b_one (s_if (t_fz (PW.pt (w_and (t_cmp (op_eqD hr.units) o_eqD (e_var (pv 10)) e_int (nomark _)) (w_and1 (t_cmp (op_neD hr.units) o_neD (e_var (pv 7)) (n_e (n_lst a_nil)) (nomark _)))))) (b_cons (s_set (ps_set (i := 12) sc_law.nd rfl (by first | exact Or.inl rfl | exact Or.inr rfl) (e_fzk (k := 1) (e_calC C_law_pick (hr.mono (by decide)) tk (a_cons (e_var (pv 0)) (a_own (pv 1) (a_cons (e_var (pv 7)) a_nil)))))))
    (b_cons (s_expr (e_methO M_Keep_unpin T.k_Keep (hr.mono (by decide)) tk (pv 4) (a_cons (e_var (pv 12)) a_nil)))
    (b_one (s_new (ps_set (i := 7) sc_law.nd rfl (by first | exact Or.inl rfl | exact Or.inr rfl) (n_fz (n_lc sc_law.nd (i_list (e_var (pv 7))) (blkOk_by (own := [("_law_night", 9)]) (N := N_law) (sc := defScope s_law) (by decide +kernel)) (fun _ _ _ _ _ => (g_name (pg_name (i := 9) sc_law.nd rfl (by first | exact Or.inl rfl | exact Or.inr rfl)))) (fun _ _ _ _ _ => (p_one (t_cmp (op_neD hr.units) o_neD (e_var (pv 9)) (e_var (pv 12)) (nomark _)))) (fun _ _ _ _ _ => (e_var (pv 9)))))))))) b_nil))))))) hp)
    (b_cons (s_set (ps_set (i := 6) sc_law.nd rfl (by first | exact Or.inl rfl | exact Or.inr rfl) (n_e (n_cat (e_var (pv 6)) (e_methO0 M_Keep_let_go T.k_Keep (hr.mono (by decide)) tk (pv 4))))))
    (b_cons (s_set (ps_set (i := 11) sc_law.nd rfl (by first | exact Or.inl rfl | exact Or.inr rfl) (e_calC C_law_kept (hr.mono (by decide)) tk (a_cons (e_var (pv 2)) (a_cons (e_var (pv 3)) a_nil)))))
    (b_cons (s_if (t_fz (PW.pt (w_or (t_cmp (op_neD hr.units) o_neD (e_meth0 M_Keep_held T.k_Keep (hr.mono (by decide)) tk (e_var (pv 4))) (n_e (n_lc sc_law.nd (i_list (e_var (pv 3))) (blkOk_by (own := [("_law_night", 9)]) (N := N_law) (sc := defScope s_law) (by decide +kernel)) (fun _ _ _ _ _ => (g_name (pg_name (i := 9) sc_law.nd rfl (by first | exact Or.inl rfl | exact Or.inr rfl)))) (fun _ _ _ _ _ => (p_one (t_cmp op_in_seq o_in (e_var (pv 9)) (n_e (n_cat (e_var (pv 11)) (e_var (pv 7)))) (by rfl)))) (fun _ _ _ _ _ => (e_var (pv 9))))) (nomark _)) (w_or1 (t_cmp (op_neD hr.units) o_neD (e_meth0 M_Keep_pins T.k_Keep (hr.mono (by decide)) tk (e_var (pv 4))) (n_e (n_cb cr_sortedI o_sorted T.b_sorted boot_sorted (a_cons (e_var (pv 7)) a_nil))) (nomark _)))))) (b_one (s_ret e_bl)) b_nil)
    (b_cons (s_frz 7 (s_for (i_list (e_var (pv 7))) (g_name (pg_name (i := 9) sc_law.nd rfl (by first | exact Or.inl rfl | exact Or.inr rfl))) (b_one (s_expr (e_methO M_Keep_unpin T.k_Keep (hr.mono (by decide)) tk (pv 4) (a_cons (e_var (pv 9)) a_nil)))) hp))
    (b_cons (s_set (ps_set (i := 6) sc_law.nd rfl (by first | exact Or.inl rfl | exact Or.inr rfl) (n_e (n_cat (e_var (pv 6)) (e_methO0 M_Keep_let_go T.k_Keep (hr.mono (by decide)) tk (pv 4))))))
    (b_cons (s_if (PW.pt (w_or (t_cmp (op_neD hr.units) o_neD (e_methO0 M_Keep_let_go T.k_Keep (hr.mono (by decide)) tk (pv 5)) (n_e (n_cb cr_sortedI o_sorted T.b_sorted boot_sorted (a_cons (e_var (pv 6)) a_nil))) (nomark _)) (w_or (t_fz (t_cmp (op_neD hr.units) o_neD (e_meth0 M_Keep_held T.k_Keep (hr.mono (by decide)) tk (e_var (pv 4))) (e_meth0 M_Keep_held T.k_Keep (hr.mono (by decide)) tk (e_var (pv 5))) (nomark _))) (w_or1 (t_fz (t_cmp (op_neD hr.units) o_neD (e_meth0 M_Keep_held T.k_Keep (hr.mono (by decide)) tk (e_var (pv 4))) (e_var (pv 11)) (nomark _))))))) (b_one (s_ret e_bl)) b_nil)
    (b_one (s_ret (e_and (e_cmp (op_eqD hr.units) o_eqD (n_e (n_cb cr_sortedI o_sorted T.b_sorted boot_sorted (a_cons (n_e (n_cat (e_var (pv 6)) (e_var (pv 11)))) a_nil))) (e_var (pv 3)) (nomark _)) (e_and (e_cmp (op_eqD hr.units) o_eqD (e_methO0 M_Keep_let_go T.k_Keep (hr.mono (by decide)) tk (pv 4)) (n_e (n_lst a_nil)) (nomark _)) (e_one (e_fz (e_cmp (op_eqD hr.units) o_eqD (e_meth0 M_Keep_pins T.k_Keep (hr.mono (by decide)) tk (e_var (pv 4))) (n_e (n_lst a_nil)) (nomark _))))))))))))))))))))))
end
/-! ### what the top has written -/
theorem all_mk {l : PySem.W.OpenLaw} {w : World} {K : PySem.W.Frag} {h : Heap} {mg : Str → Option Value} {fa f0 f1 f2 f3 f4 f5 f6 f7 f8 f9 f10 f11 f12 f13 f14 f15 f16 f17 f18 f19 f20 f21 f22 f23 f24 f25 f26 f27 : Addr} (X : K.In h) (G : h.Ns mainGlobals mg) (hfa : mg "law" = some (.ref fa))
    {od0 an0 od1 an1 od2 an2 od3 an3 od4 an4 od5 an5 od6 an6 od7 an7 od8 an8 od9 an9 od10 an10 od11 an11 od12 an12 od13 an13 od14 an14 od15 an15 od16 an16 od17 an17 od18 an18 od19 an19 od20 an20 od21 an21 od22 an22 od23 an23 od24 an24 od25 an25 od26 an26 od27 an27 : Option Addr} {sl0 sl1 sl2 sl3 sl4 sl5 sl6 sl7 sl8 sl9 sl10 sl11 sl12 sl13 sl14 sl15 sl16 sl17 sl18 sl19 sl20 sl21 sl22 sl23 sl24 sl25 sl26 sl27 : Array (Option Value)} {oc0 kV0 dc0 pm0 cd0 ct0 oc1 kV1 dc1 pm1 cd1 ct1 oc2 kV2 dc2 pm2 cd2 ct2 oc3 kV3 dc3 pm3 cd3 ct3 oc4 kV4 dc4 pm4 cd4 ct4 oc5 kV5 dc5 pm5 cd5 ct5 oc6 kV6 dc6 pm6 cd6 ct6 oc7 kV7 dc7 pm7 cd7 ct7 oc8 kV8 dc8 pm8 cd8 ct8 oc9 kV9 dc9 pm9 cd9 ct9 oc10 kV10 dc10 pm10 cd10 ct10 oc11 kV11 dc11 pm11 cd11 ct11 oc12 kV12 dc12 pm12 cd12 ct12 oc13 kV13 dc13 pm13 cd13 ct13 oc14 kV14 dc14 pm14 cd14 ct14 oc15 kV15 dc15 pm15 cd15 ct15 oc16 kV16 dc16 pm16 cd16 ct16 oc17 kV17 dc17 pm17 cd17 ct17 oc18 kV18 dc18 pm18 cd18 ct18 oc19 kV19 dc19 pm19 cd19 ct19 oc20 kV20 dc20 pm20 cd20 ct20 oc21 kV21 dc21 pm21 cd21 ct21 oc22 kV22 dc22 pm22 cd22 ct22 oc23 kV23 dc23 pm23 cd23 ct23 oc24 kV24 dc24 pm24 cd24 ct24 oc25 kV25 dc25 pm25 cd25 ct25 oc26 kV26 dc26 pm26 cd26 ct26 oc27 kV27 dc27 pm27 cd27 ct27 : Value}
    {C_Keep : Addr} (g_Keep : PySem.W.nsIn K mainGlobals "Keep" = some (some (.ref C_Keep))) (y_Keep : clsFB K C_Keep = true)
    (m_Keep : PySem.W.makesIn K C_Keep = true) (q_Keep : PySem.W.keepIn K (.ref C_Keep) = true)
    (a0 : PySem.W.nsIn K mainGlobals "_law_town" = some (some (.ref f0))) (l0 : K.lookup f0 = some ⟨oc0, od0, .func (PySem.W.fnOf "_law_town" "_law_town" (defArgs s_law_town) (defBody s_law_town) (defScope s_law_town) .none kV0 dc0 pm0 an0 cd0 ct0), sl0⟩) (c0 : PySem.W.codeIn K cd0 "_law_town" = true) (k0 : PySem.W.keepIn K (.ref f0) = true)
    (a1 : PySem.W.nsIn K mainGlobals "_law_draw" = some (some (.ref f1))) (l1 : K.lookup f1 = some ⟨oc1, od1, .func (PySem.W.fnOf "_law_draw" "_law_draw" (defArgs s_law_draw) (defBody s_law_draw) (defScope s_law_draw) .none kV1 dc1 pm1 an1 cd1 ct1), sl1⟩) (c1 : PySem.W.codeIn K cd1 "_law_draw" = true) (k1 : PySem.W.keepIn K (.ref f1) = true)
    (a2 : PySem.W.nsIn K mainGlobals "_law_rounds" = some (some (.ref f2))) (l2 : K.lookup f2 = some ⟨oc2, od2, .func (PySem.W.fnOf "_law_rounds" "_law_rounds" (defArgs s_law_rounds) (defBody s_law_rounds) (defScope s_law_rounds) .none kV2 dc2 pm2 an2 cd2 ct2), sl2⟩) (c2 : PySem.W.codeIn K cd2 "_law_rounds" = true) (k2 : PySem.W.keepIn K (.ref f2) = true)
    (a3 : PySem.W.nsIn K mainGlobals "_law_rules" = some (some (.ref f3))) (l3 : K.lookup f3 = some ⟨oc3, od3, .func (PySem.W.fnOf "_law_rules" "_law_rules" (defArgs s_law_rules) (defBody s_law_rules) (defScope s_law_rules) .none kV3 dc3 pm3 an3 cd3 ct3), sl3⟩) (c3 : PySem.W.codeIn K cd3 "_law_rules" = true) (k3 : PySem.W.keepIn K (.ref f3) = true)
    (a4 : PySem.W.nsIn K mainGlobals "_law_pick" = some (some (.ref f4))) (l4 : K.lookup f4 = some ⟨oc4, od4, .func (PySem.W.fnOf "_law_pick" "_law_pick" (defArgs s_law_pick) (defBody s_law_pick) (defScope s_law_pick) .none kV4 dc4 pm4 an4 cd4 ct4), sl4⟩) (c4 : PySem.W.codeIn K cd4 "_law_pick" = true) (k4 : PySem.W.keepIn K (.ref f4) = true)
    (a5 : PySem.W.nsIn K mainGlobals "_law_nights" = some (some (.ref f5))) (l5 : K.lookup f5 = some ⟨oc5, od5, .func (PySem.W.fnOf "_law_nights" "_law_nights" (defArgs s_law_nights) (defBody s_law_nights) (defScope s_law_nights) .none kV5 dc5 pm5 an5 cd5 ct5), sl5⟩) (c5 : PySem.W.codeIn K cd5 "_law_nights" = true) (k5 : PySem.W.keepIn K (.ref f5) = true)
    (a6 : PySem.W.nsIn K mainGlobals "is_number" = some (some (.ref f6))) (l6 : K.lookup f6 = some ⟨oc6, od6, .func (PySem.W.fnOf "is_number" "is_number" (defArgs s_is_number) (defBody s_is_number) (defScope s_is_number) .none kV6 dc6 pm6 an6 cd6 ct6), sl6⟩) (c6 : PySem.W.codeIn K cd6 "is_number" = true) (k6 : PySem.W.keepIn K (.ref f6) = true)
    (a7 : PySem.W.nsIn K mainGlobals "is_rounds" = some (some (.ref f7))) (l7 : K.lookup f7 = some ⟨oc7, od7, .func (PySem.W.fnOf "is_rounds" "is_rounds" (defArgs s_is_rounds) (defBody s_is_rounds) (defScope s_is_rounds) .none kV7 dc7 pm7 an7 cd7 ct7), sl7⟩) (c7 : PySem.W.codeIn K cd7 "is_rounds" = true) (k7 : PySem.W.keepIn K (.ref f7) = true)
    (a8 : PySem.W.nsIn K mainGlobals "is_rule" = some (some (.ref f8))) (l8 : K.lookup f8 = some ⟨oc8, od8, .func (PySem.W.fnOf "is_rule" "is_rule" (defArgs s_is_rule) (defBody s_is_rule) (defScope s_is_rule) .none kV8 dc8 pm8 an8 cd8 ct8), sl8⟩) (c8 : PySem.W.codeIn K cd8 "is_rule" = true) (k8 : PySem.W.keepIn K (.ref f8) = true)
    (a9 : PySem.W.nsIn K mainGlobals "look_rules" = some (some (.ref f9))) (l9 : K.lookup f9 = some ⟨oc9, od9, .func (PySem.W.fnOf "look_rules" "look_rules" (defArgs s_look_rules) (defBody s_look_rules) (defScope s_look_rules) .none kV9 dc9 pm9 an9 cd9 ct9), sl9⟩) (c9 : PySem.W.codeIn K cd9 "look_rules" = true) (k9 : PySem.W.keepIn K (.ref f9) = true)
    (a10 : PySem.W.findIn K (.ref C_Keep) "__init__" = some (some (.ref f10))) (l10 : K.lookup f10 = some ⟨oc10, od10, .func (PySem.W.fnOf "__init__" "Keep.__init__" (defArgs s_Keep_init) (defBody s_Keep_init) (defScope s_Keep_init) .none kV10 dc10 pm10 an10 cd10 ct10), sl10⟩) (c10 : PySem.W.codeIn K cd10 "Keep.__init__" = true) (k10 : PySem.W.keepIn K (.ref f10) = true)
    (i10 : PySem.W.isFn K (.ref f10) = true)
    (a11 : PySem.W.nsIn K mainGlobals "look_night" = some (some (.ref f11))) (l11 : K.lookup f11 = some ⟨oc11, od11, .func (PySem.W.fnOf "look_night" "look_night" (defArgs s_look_night) (defBody s_look_night) (defScope s_look_night) .none kV11 dc11 pm11 an11 cd11 ct11), sl11⟩) (c11 : PySem.W.codeIn K cd11 "look_night" = true) (k11 : PySem.W.keepIn K (.ref f11) = true)
    (a12 : PySem.W.nsIn K mainGlobals "look_taken" = some (some (.ref f12))) (l12 : K.lookup f12 = some ⟨oc12, od12, .func (PySem.W.fnOf "look_taken" "look_taken" (defArgs s_look_taken) (defBody s_look_taken) (defScope s_look_taken) .none kV12 dc12 pm12 an12 cd12 ct12), sl12⟩) (c12 : PySem.W.codeIn K cd12 "look_taken" = true) (k12 : PySem.W.keepIn K (.ref f12) = true)
    (a13 : PySem.W.findIn K (.ref C_Keep) "take" = some (some (.ref f13))) (l13 : K.lookup f13 = some ⟨oc13, od13, .func (PySem.W.fnOf "take" "Keep.take" (defArgs s_Keep_take) (defBody s_Keep_take) (defScope s_Keep_take) .none kV13 dc13 pm13 an13 cd13 ct13), sl13⟩) (c13 : PySem.W.codeIn K cd13 "Keep.take" = true) (k13 : PySem.W.keepIn K (.ref f13) = true)
    (i13 : PySem.W.isFn K (.ref f13) = true)
    (a14 : PySem.W.findIn K (.ref C_Keep) "unpin" = some (some (.ref f14))) (l14 : K.lookup f14 = some ⟨oc14, od14, .func (PySem.W.fnOf "unpin" "Keep.unpin" (defArgs s_Keep_unpin) (defBody s_Keep_unpin) (defScope s_Keep_unpin) .none kV14 dc14 pm14 an14 cd14 ct14), sl14⟩) (c14 : PySem.W.codeIn K cd14 "Keep.unpin" = true) (k14 : PySem.W.keepIn K (.ref f14) = true)
    (i14 : PySem.W.isFn K (.ref f14) = true)
    (a15 : PySem.W.nsIn K mainGlobals "number_of" = some (some (.ref f15))) (l15 : K.lookup f15 = some ⟨oc15, od15, .func (PySem.W.fnOf "number_of" "number_of" (defArgs s_number_of) (defBody s_number_of) (defScope s_number_of) .none kV15 dc15 pm15 an15 cd15 ct15), sl15⟩) (c15 : PySem.W.codeIn K cd15 "number_of" = true) (k15 : PySem.W.keepIn K (.ref f15) = true)
    (a16 : PySem.W.nsIn K mainGlobals "kept_by" = some (some (.ref f16))) (l16 : K.lookup f16 = some ⟨oc16, od16, .func (PySem.W.fnOf "kept_by" "kept_by" (defArgs s_kept_by) (defBody s_kept_by) (defScope s_kept_by) .none kV16 dc16 pm16 an16 cd16 ct16), sl16⟩) (c16 : PySem.W.codeIn K cd16 "kept_by" = true) (k16 : PySem.W.keepIn K (.ref f16) = true)
    (a17 : PySem.W.nsIn K mainGlobals "kept_of" = some (some (.ref f17))) (l17 : K.lookup f17 = some ⟨oc17, od17, .func (PySem.W.fnOf "kept_of" "kept_of" (defArgs s_kept_of) (defBody s_kept_of) (defScope s_kept_of) .none kV17 dc17 pm17 an17 cd17 ct17), sl17⟩) (c17 : PySem.W.codeIn K cd17 "kept_of" = true) (k17 : PySem.W.keepIn K (.ref f17) = true)
    (a18 : PySem.W.nsIn K mainGlobals "gone_of" = some (some (.ref f18))) (l18 : K.lookup f18 = some ⟨oc18, od18, .func (PySem.W.fnOf "gone_of" "gone_of" (defArgs s_gone_of) (defBody s_gone_of) (defScope s_gone_of) .none kV18 dc18 pm18 an18 cd18 ct18), sl18⟩) (c18 : PySem.W.codeIn K cd18 "gone_of" = true) (k18 : PySem.W.keepIn K (.ref f18) = true)
    (a19 : PySem.W.findIn K (.ref C_Keep) "let_go" = some (some (.ref f19))) (l19 : K.lookup f19 = some ⟨oc19, od19, .func (PySem.W.fnOf "let_go" "Keep.let_go" (defArgs s_Keep_let_go) (defBody s_Keep_let_go) (defScope s_Keep_let_go) .none kV19 dc19 pm19 an19 cd19 ct19), sl19⟩) (c19 : PySem.W.codeIn K cd19 "Keep.let_go" = true) (k19 : PySem.W.keepIn K (.ref f19) = true)
    (i19 : PySem.W.isFn K (.ref f19) = true)
    (a20 : PySem.W.nsIn K mainGlobals "_law_spot" = some (some (.ref f20))) (l20 : K.lookup f20 = some ⟨oc20, od20, .func (PySem.W.fnOf "_law_spot" "_law_spot" (defArgs s_law_spot) (defBody s_law_spot) (defScope s_law_spot) .none kV20 dc20 pm20 an20 cd20 ct20), sl20⟩) (c20 : PySem.W.codeIn K cd20 "_law_spot" = true) (k20 : PySem.W.keepIn K (.ref f20) = true)
    (a21 : PySem.W.nsIn K mainGlobals "_law_by" = some (some (.ref f21))) (l21 : K.lookup f21 = some ⟨oc21, od21, .func (PySem.W.fnOf "_law_by" "_law_by" (defArgs s_law_by) (defBody s_law_by) (defScope s_law_by) .none kV21 dc21 pm21 an21 cd21 ct21), sl21⟩) (c21 : PySem.W.codeIn K cd21 "_law_by" = true) (k21 : PySem.W.keepIn K (.ref f21) = true)
    (a22 : PySem.W.nsIn K mainGlobals "_law_kept" = some (some (.ref f22))) (l22 : K.lookup f22 = some ⟨oc22, od22, .func (PySem.W.fnOf "_law_kept" "_law_kept" (defArgs s_law_kept) (defBody s_law_kept) (defScope s_law_kept) .none kV22 dc22 pm22 an22 cd22 ct22), sl22⟩) (c22 : PySem.W.codeIn K cd22 "_law_kept" = true) (k22 : PySem.W.keepIn K (.ref f22) = true)
    (a23 : PySem.W.findIn K (.ref C_Keep) "held" = some (some (.ref f23))) (l23 : K.lookup f23 = some ⟨oc23, od23, .func (PySem.W.fnOf "held" "Keep.held" (defArgs s_Keep_held) (defBody s_Keep_held) (defScope s_Keep_held) .none kV23 dc23 pm23 an23 cd23 ct23), sl23⟩) (c23 : PySem.W.codeIn K cd23 "Keep.held" = true) (k23 : PySem.W.keepIn K (.ref f23) = true)
    (i23 : PySem.W.isFn K (.ref f23) = true)
    (a24 : PySem.W.nsIn K mainGlobals "look_held" = some (some (.ref f24))) (l24 : K.lookup f24 = some ⟨oc24, od24, .func (PySem.W.fnOf "look_held" "look_held" (defArgs s_look_held) (defBody s_look_held) (defScope s_look_held) .none kV24 dc24 pm24 an24 cd24 ct24), sl24⟩) (c24 : PySem.W.codeIn K cd24 "look_held" = true) (k24 : PySem.W.keepIn K (.ref f24) = true)
    (a25 : PySem.W.findIn K (.ref C_Keep) "pin" = some (some (.ref f25))) (l25 : K.lookup f25 = some ⟨oc25, od25, .func (PySem.W.fnOf "pin" "Keep.pin" (defArgs s_Keep_pin) (defBody s_Keep_pin) (defScope s_Keep_pin) .none kV25 dc25 pm25 an25 cd25 ct25), sl25⟩) (c25 : PySem.W.codeIn K cd25 "Keep.pin" = true) (k25 : PySem.W.keepIn K (.ref f25) = true)
    (i25 : PySem.W.isFn K (.ref f25) = true)
    (a26 : PySem.W.findIn K (.ref C_Keep) "pins" = some (some (.ref f26))) (l26 : K.lookup f26 = some ⟨oc26, od26, .func (PySem.W.fnOf "pins" "Keep.pins" (defArgs s_Keep_pins) (defBody s_Keep_pins) (defScope s_Keep_pins) .none kV26 dc26 pm26 an26 cd26 ct26), sl26⟩) (c26 : PySem.W.codeIn K cd26 "Keep.pins" = true) (k26 : PySem.W.keepIn K (.ref f26) = true)
    (i26 : PySem.W.isFn K (.ref f26) = true)
    (a27 : PySem.W.nsIn K mainGlobals "law" = some (some (.ref f27))) (l27 : K.lookup f27 = some ⟨oc27, od27, .func (PySem.W.fnOf "law" "law" (defArgs s_law) (defBody s_law) (defScope s_law) .none kV27 dc27 pm27 an27 cd27 ct27), sl27⟩) (c27 : PySem.W.codeIn K cd27 "law" = true) (k27 : PySem.W.keepIn K (.ref f27) = true)
    (z_all : PySem.W.nsIn K mainGlobals "all" = some none)
    (z_bool : PySem.W.nsIn K mainGlobals "bool" = some none)
    (z_enumerate : PySem.W.nsIn K mainGlobals "enumerate" = some none)
    (z_int : PySem.W.nsIn K mainGlobals "int" = some none)
    (z_isinstance : PySem.W.nsIn K mainGlobals "isinstance" = some none)
    (z_len : PySem.W.nsIn K mainGlobals "len" = some none)
    (z_list : PySem.W.nsIn K mainGlobals "list" = some none)
    (z_max : PySem.W.nsIn K mainGlobals "max" = some none)
    (z_range : PySem.W.nsIn K mainGlobals "range" = some none)
    (z_reversed : PySem.W.nsIn K mainGlobals "reversed" = some none)
    (z_sorted : PySem.W.nsIn K mainGlobals "sorted" = some none)
    (z_sum : PySem.W.nsIn K mainGlobals "sum" = some none)
    (z_tuple : PySem.W.nsIn K mainGlobals "tuple" = some none)
    {t_MOST_HELD : Tok} (g_MOST_HELD : PySem.W.nsIn K mainGlobals "MOST_HELD" = some (some (.int 100 t_MOST_HELD)))
    {t_MOST_NIGHT : Tok} (g_MOST_NIGHT : PySem.W.nsIn K mainGlobals "MOST_NIGHT" = some (some (.int 1000000000 t_MOST_NIGHT)))
    {C_BadNight : Addr} (g_BadNight : PySem.W.nsIn K mainGlobals "BadNight" = some (some (.ref C_BadNight))) (x_BadNight : PySem.W.excIn K C_BadNight [.type "RuntimeError", .type "Exception", .type "BaseException", .type "object"] "RuntimeError.__new__" = true) (k_BadNight : PySem.W.keepIn K (.ref C_BadNight) = true) (b_BadNight : PySem.W.subIn K (.ref C_BadNight) (.type "BaseException") = some true) (t_BadNight : PySem.W.typeIn K (.ref C_BadNight) = some (.type "type"))
    {C_BadRules : Addr} (g_BadRules : PySem.W.nsIn K mainGlobals "BadRules" = some (some (.ref C_BadRules))) (x_BadRules : PySem.W.excIn K C_BadRules [.type "RuntimeError", .type "Exception", .type "BaseException", .type "object"] "RuntimeError.__new__" = true) (k_BadRules : PySem.W.keepIn K (.ref C_BadRules) = true) (b_BadRules : PySem.W.subIn K (.ref C_BadRules) (.type "BaseException") = some true) (t_BadRules : PySem.W.typeIn K (.ref C_BadRules) = some (.type "type"))
    {C_Full : Addr} (g_Full : PySem.W.nsIn K mainGlobals "Full" = some (some (.ref C_Full))) (x_Full : PySem.W.excIn K C_Full [.type "RuntimeError", .type "Exception", .type "BaseException", .type "object"] "RuntimeError.__new__" = true) (k_Full : PySem.W.keepIn K (.ref C_Full) = true) (b_Full : PySem.W.subIn K (.ref C_Full) (.type "BaseException") = some true) (t_Full : PySem.W.typeIn K (.ref C_Full) = some (.type "type"))
    {C_NotHeld : Addr} (g_NotHeld : PySem.W.nsIn K mainGlobals "NotHeld" = some (some (.ref C_NotHeld))) (x_NotHeld : PySem.W.excIn K C_NotHeld [.type "RuntimeError", .type "Exception", .type "BaseException", .type "object"] "RuntimeError.__new__" = true) (k_NotHeld : PySem.W.keepIn K (.ref C_NotHeld) = true) (b_NotHeld : PySem.W.subIn K (.ref C_NotHeld) (.type "BaseException") = some true) (t_NotHeld : PySem.W.typeIn K (.ref C_NotHeld) = some (.type "type"))
    {C_NotPinned : Addr} (g_NotPinned : PySem.W.nsIn K mainGlobals "NotPinned" = some (some (.ref C_NotPinned))) (x_NotPinned : PySem.W.excIn K C_NotPinned [.type "RuntimeError", .type "Exception", .type "BaseException", .type "object"] "RuntimeError.__new__" = true) (k_NotPinned : PySem.W.keepIn K (.ref C_NotPinned) = true) (b_NotPinned : PySem.W.subIn K (.ref C_NotPinned) (.type "BaseException") = some true) (t_NotPinned : PySem.W.typeIn K (.ref C_NotPinned) = some (.type "type"))
    {C_Pinned : Addr} (g_Pinned : PySem.W.nsIn K mainGlobals "Pinned" = some (some (.ref C_Pinned))) (x_Pinned : PySem.W.excIn K C_Pinned [.type "RuntimeError", .type "Exception", .type "BaseException", .type "object"] "RuntimeError.__new__" = true) (k_Pinned : PySem.W.keepIn K (.ref C_Pinned) = true) (b_Pinned : PySem.W.subIn K (.ref C_Pinned) (.type "BaseException") = some true) (t_Pinned : PySem.W.typeIn K (.ref C_Pinned) = some (.type "type"))
    (z_obj : objB K = true)
    {eC eK eF : Addr} {enm eqn : Str} {eN : Addr} {ebs : List Value} {esn : List Str} {esub : List Value} {eab : Bool} {ecol : Option Bool} {edd : Option Addr} {em0 em1 em2 em3 em5 : Option Value} {eod ean : Option Addr} {esl : Array (Option Value)} {eoc edc epm ecd ect : Value} {ep1 ep2 eq1 eq2 eq3 eq4 : PySem.Pos}
    (e_aC : PySem.W.nsIn K mainGlobals "Elder" = some (some (.ref eC)))
    (e_xL : K.lookup eC = some (excClassObj enm eqn eC eN ebs [.ref eK, .type "RuntimeError", .type "Exception", .type "BaseException", .type "object"] true esn esub eab ecol edd em0 em1 em2 em3 em5 "RuntimeError.__new__"))
    (e_sa : PySem.W.findIn K (.ref eC) "__setattr__" = some (some (.builtin "object.__setattr__")))
    (e_ga : PySem.W.findIn K (.ref eC) "__getattribute__" = some (some (.builtin "BaseException.__getattribute__")))
    (e_gg : PySem.W.findIn K (.ref eC) "__getattr__" = some none)
    (e_nb : PySem.W.findIn K (.ref eC) "last" = some none)
    (e_a1 : PySem.W.findIn K (.ref eC) "__init__" = some (some (.ref eF)))
    (e_t1 : PySem.W.typeIn K (.ref eF) = some (.type "function"))
    (e_l1 : K.lookup eF = some ⟨eoc, eod, .func (PySem.W.fnOf "__init__" "Elder.__init__" (PySem.EldX.iA ep1 ep2) (PySem.EldX.iB eq1 eq2 eq3 eq4) PySem.EldX.iS .none .none edc epm ean ecd ect), esl⟩)
    (e_c1 : PySem.W.codeIn K ecd "Elder.__init__" = true)
    (e_kC : PySem.W.keepIn K (.ref eC) = true)
    (e_bC : PySem.W.subIn K (.ref eC) (.type "BaseException") = some true)
    (e_tC : PySem.W.typeIn K (.ref eC) = some (.type "type"))
    (e_hC : PySem.W.hasDictIn K eC = true)
    (e_iC : PySem.W.isClsIn K eC = true)
    (e_sC : PySem.W.subIn K (.ref eC) (.ref eC) = some true)
    (hF : ∀ ns : List Int, ns.length ≤ 63 → ∃ fr cs, F_law [.sh (.fl (ns.map .int))] = some (.val (fr, .bl true) cs)) :
    ∃ fd : FuncData, (∀ (s : Shared) (v : Value), BindsTo s fd ⟨[v], []⟩ [("_law_script", v)]) ∧ ∀ base : Heap, K.In base → base.Ns mainGlobals mg → FnOk l.prog w K mg base (L2.CX l.prog w) 7 fa fd ["_law_script"] (spLaw K) := by
  have e := hfa.symm.trans (PySem.W.mg_of X G a27)
  cases e
  have T : Tx K mg := ⟨PySem.W.mg_none_of X G z_all, PySem.W.mg_none_of X G z_bool, PySem.W.mg_none_of X G z_enumerate, PySem.W.mg_none_of X G z_int, PySem.W.mg_none_of X G z_isinstance, PySem.W.mg_none_of X G z_len, PySem.W.mg_none_of X G z_list, PySem.W.mg_none_of X G z_max, PySem.W.mg_none_of X G z_range, PySem.W.mg_none_of X G z_reversed, PySem.W.mg_none_of X G z_sorted, PySem.W.mg_none_of X G z_sum, PySem.W.mg_none_of X G z_tuple, ConF.int (PySem.W.mg_of X G g_MOST_HELD), ConF.int (PySem.W.mg_of X G g_MOST_NIGHT), ⟨_, PySem.W.mg_of X G g_BadNight, x_BadNight, k_BadNight, b_BadNight, t_BadNight⟩, ⟨_, PySem.W.mg_of X G g_BadRules, x_BadRules, k_BadRules, b_BadRules, t_BadRules⟩, ⟨_, PySem.W.mg_of X G g_Full, x_Full, k_Full, b_Full, t_Full⟩, ⟨_, PySem.W.mg_of X G g_NotHeld, x_NotHeld, k_NotHeld, b_NotHeld, t_NotHeld⟩, ⟨_, PySem.W.mg_of X G g_NotPinned, x_NotPinned, k_NotPinned, b_NotPinned, t_NotPinned⟩, ⟨_, PySem.W.mg_of X G g_Pinned, x_Pinned, k_Pinned, b_Pinned, t_Pinned⟩, ⟨_, PySem.W.mg_of X G g_Keep⟩, obj_ok X G z_obj, ⟨eC, eF, { gC := PySem.W.mg_of X G e_aC, cls := ⟨enm, eqn, eN, ebs, _, esn, esub, eab, ecol, edd, em0, em1, em2, em3, em5, e_xL, (show PySem.EldX.refsRE PySem.EldX.reTail = true by decide +kernel)⟩, sa := e_sa, ga := e_ga, gg := e_gg, noN := e_nb, iC := e_a1, tC := e_t1, kC := e_kC, exC := e_bC, tyC := e_tC, hdC := e_hC, te := exm_self e_bC e_iC e_tC e_sC, fn := ⟨_, _, _, _, _, _, _, _, _, _, _, _, _, _, e_l1, e_c1⟩ }⟩⟩
  have F0 := fun_mk (st := s_law_town) l0 c0 k0
  have b0 := F0.binds (ps := ["_law_script"]) fun _ _ _ _ _ _ us hl => match us, hl with | [_], _ => rfl
  have F1 := fun_mk (st := s_law_draw) l1 c1 k1
  have b1 := F1.binds (ps := ["_law_script", "_law_town_here", "_law_many"]) fun _ _ _ _ _ _ us hl => match us, hl with | [_, _, _], _ => rfl
  have F2 := fun_mk (st := s_law_rounds) l2 c2 k2
  have b2 := F2.binds (ps := ["_law_script", "_law_town_here", "_law_long", "_law_top"]) fun _ _ _ _ _ _ us hl => match us, hl with | [_, _, _, _], _ => rfl
  have F3 := fun_mk (st := s_law_rules) l3 c3 k3
  have b3 := F3.binds (ps := ["_law_script", "_law_town_here", "_law_many", "_law_long", "_law_top", "_law_most_many"]) fun _ _ _ _ _ _ us hl => match us, hl with | [_, _, _, _, _, _], _ => rfl
  have F4 := fun_mk (st := s_law_pick) l4 c4 k4
  have b4 := F4.binds (ps := ["_law_script", "_law_town_here", "_law_some"]) fun _ _ _ _ _ _ us hl => match us, hl with | [_, _, _], _ => rfl
  have F5 := fun_mk (st := s_law_nights) l5 c5 k5
  have b5 := F5.binds (ps := ["_law_script", "_law_town_here", "_law_many", "_law_step"]) fun _ _ _ _ _ _ us hl => match us, hl with | [_, _, _, _], _ => rfl
  have F6 := fun_mk (st := s_is_number) l6 c6 k6
  have b6 := F6.binds (ps := ["thing", "least", "most"]) fun _ _ _ _ _ _ us hl => match us, hl with | [_, _, _], _ => rfl
  have F7 := fun_mk (st := s_is_rounds) l7 c7 k7
  have b7 := F7.binds (ps := ["thing"]) fun _ _ _ _ _ _ us hl => match us, hl with | [_], _ => rfl
  have F8 := fun_mk (st := s_is_rule) l8 c8 k8
  have b8 := F8.binds (ps := ["thing"]) fun _ _ _ _ _ _ us hl => match us, hl with | [_], _ => rfl
  have F9 := fun_mk (st := s_look_rules) l9 c9 k9
  have b9 := F9.binds (ps := ["rules"]) fun _ _ _ _ _ _ us hl => match us, hl with | [_], _ => rfl
  have F10 := fun_mk (st := s_Keep_init) l10 c10 k10
  have b10 := F10.binds (ps := ["self", "rules"]) fun _ _ _ _ _ _ us hl => match us, hl with | [_, _], _ => rfl
  have F11 := fun_mk (st := s_look_night) l11 c11 k11
  have b11 := F11.binds (ps := ["night"]) fun _ _ _ _ _ _ us hl => match us, hl with | [_], _ => rfl
  have F12 := fun_mk (st := s_look_taken) l12 c12 k12
  have b12 := F12.binds (ps := ["keep", "night"]) fun _ _ _ _ _ _ us hl => match us, hl with | [_, _], _ => rfl
  have F13 := fun_mk (st := s_Keep_take) l13 c13 k13
  have b13 := F13.binds (ps := ["self", "night"]) fun _ _ _ _ _ _ us hl => match us, hl with | [_, _], _ => rfl
  have F14 := fun_mk (st := s_Keep_unpin) l14 c14 k14
  have b14 := F14.binds (ps := ["self", "night"]) fun _ _ _ _ _ _ us hl => match us, hl with | [_, _], _ => rfl
  have F15 := fun_mk (st := s_number_of) l15 c15 k15
  have b15 := F15.binds (ps := ["rounds", "night"]) fun _ _ _ _ _ _ us hl => match us, hl with | [_, _], _ => rfl
  have F16 := fun_mk (st := s_kept_by) l16 c16 k16
  have b16 := F16.binds (ps := ["rule", "nights"]) fun _ _ _ _ _ _ us hl => match us, hl with | [_, _], _ => rfl
  have F17 := fun_mk (st := s_kept_of) l17 c17 k17
  have b17 := F17.binds (ps := ["rules", "nights"]) fun _ _ _ _ _ _ us hl => match us, hl with | [_, _], _ => rfl
  have F18 := fun_mk (st := s_gone_of) l18 c18 k18
  have b18 := F18.binds (ps := ["keep"]) fun _ _ _ _ _ _ us hl => match us, hl with | [_], _ => rfl
  have F19 := fun_mk (st := s_Keep_let_go) l19 c19 k19
  have b19 := F19.binds (ps := ["self"]) fun _ _ _ _ _ _ us hl => match us, hl with | [_], _ => rfl
  have F20 := fun_mk (st := s_law_spot) l20 c20 k20
  have b20 := F20.binds (ps := ["_law_rounds_here", "_law_night"]) fun _ _ _ _ _ _ us hl => match us, hl with | [_, _], _ => rfl
  have F21 := fun_mk (st := s_law_by) l21 c21 k21
  have b21 := F21.binds (ps := ["_law_rule", "_law_nights_here"]) fun _ _ _ _ _ _ us hl => match us, hl with | [_, _], _ => rfl
  have F22 := fun_mk (st := s_law_kept) l22 c22 k22
  have b22 := F22.binds (ps := ["_law_rules_here", "_law_nights_here"]) fun _ _ _ _ _ _ us hl => match us, hl with | [_, _], _ => rfl
  have F23 := fun_mk (st := s_Keep_held) l23 c23 k23
  have b23 := F23.binds (ps := ["self"]) fun _ _ _ _ _ _ us hl => match us, hl with | [_], _ => rfl
  have F24 := fun_mk (st := s_look_held) l24 c24 k24
  have b24 := F24.binds (ps := ["keep", "night"]) fun _ _ _ _ _ _ us hl => match us, hl with | [_, _], _ => rfl
  have F25 := fun_mk (st := s_Keep_pin) l25 c25 k25
  have b25 := F25.binds (ps := ["self", "night"]) fun _ _ _ _ _ _ us hl => match us, hl with | [_, _], _ => rfl
  have F26 := fun_mk (st := s_Keep_pins) l26 c26 k26
  have b26 := F26.binds (ps := ["self"]) fun _ _ _ _ _ _ us hl => match us, hl with | [_], _ => rfl
  have F27 := fun_mk (st := s_law) l27 c27 k27
  have b27 := F27.binds (ps := ["_law_script"]) fun _ _ _ _ _ _ us hl => match us, hl with | [_], _ => rfl
  refine ⟨PySem.W.fnOf "law" "law" (defArgs s_law) (defBody s_law) (defScope s_law) .none kV27 dc27 pm27 an27 cd27 ct27, fun s v => .of_eq rfl, fun base _ _ => ?_⟩
  have C0 : Cal l.prog w K mg base "_law_town" 1 F_law_town 1 := cal_law_town T F0 (PySem.W.mg_of X G a0) b0 
  have C1 : Cal l.prog w K mg base "_law_draw" 1 F_law_draw 3 := cal_law_draw T F1 (PySem.W.mg_of X G a1) b1 
  have C2 : Cal l.prog w K mg base "_law_rounds" 2 F_law_rounds 4 := cal_law_rounds T F2 (PySem.W.mg_of X G a2) b2 C1
  have C3 : Cal l.prog w K mg base "_law_rules" 3 F_law_rules 6 := cal_law_rules T F3 (PySem.W.mg_of X G a3) b3 C1 C2
  have C4 : Cal l.prog w K mg base "_law_pick" 2 F_law_pick 3 := cal_law_pick T F4 (PySem.W.mg_of X G a4) b4 C1
  have C5 : Cal l.prog w K mg base "_law_nights" 3 F_law_nights 4 := cal_law_nights T F5 (PySem.W.mg_of X G a5) b5 C1 C4
  have C6 : Cal l.prog w K mg base "is_number" 1 F_is_number 3 := cal_is_number T F6 (PySem.W.mg_of X G a6) b6 
  have C7 : Cal l.prog w K mg base "is_rounds" 2 F_is_rounds 1 := cal_is_rounds T F7 (PySem.W.mg_of X G a7) b7 C6
  have C8 : Cal l.prog w K mg base "is_rule" 3 F_is_rule 1 := cal_is_rule T F8 (PySem.W.mg_of X G a8) b8 C6 C7
  have C9 : Cal l.prog w K mg base "look_rules" 4 F_look_rules 1 := cal_look_rules T F9 (PySem.W.mg_of X G a9) b9 C8
  have G10 := fn_Keep_init (P := l.prog) (w := w) (base := base) T F10 C9
  have C11 : Cal l.prog w K mg base "look_night" 2 F_look_night 1 := cal_look_night T F11 (PySem.W.mg_of X G a11) b11 C6
  have C12 : Cal l.prog w K mg base "look_taken" 3 F_look_taken 2 := cal_look_taken T F12 (PySem.W.mg_of X G a12) b12 C11
  have G13 := fn_Keep_take (P := l.prog) (w := w) (base := base) T F13 C12
  have G14 := fn_Keep_unpin (P := l.prog) (w := w) (base := base) T F14 C6
  have C15 : Cal l.prog w K mg base "number_of" 1 F_number_of 2 := cal_number_of T F15 (PySem.W.mg_of X G a15) b15 
  have C16 : Cal l.prog w K mg base "kept_by" 2 F_kept_by 2 := cal_kept_by T F16 (PySem.W.mg_of X G a16) b16 C15
  have C17 : Cal l.prog w K mg base "kept_of" 3 F_kept_of 2 := cal_kept_of T F17 (PySem.W.mg_of X G a17) b17 C16
  have C18 : Cal l.prog w K mg base "gone_of" 4 F_gone_of 1 := cal_gone_of T F18 (PySem.W.mg_of X G a18) b18 C17
  have G19 := fn_Keep_let_go (P := l.prog) (w := w) (base := base) T F19 C18
  have C20 : Cal l.prog w K mg base "_law_spot" 1 F_law_spot 2 := cal_law_spot T F20 (PySem.W.mg_of X G a20) b20 
  have C21 : Cal l.prog w K mg base "_law_by" 2 F_law_by 2 := cal_law_by T F21 (PySem.W.mg_of X G a21) b21 C20
  have C22 : Cal l.prog w K mg base "_law_kept" 3 F_law_kept 2 := cal_law_kept T F22 (PySem.W.mg_of X G a22) b22 C21
  have G23 := fn_Keep_held (P := l.prog) (w := w) (base := base) T F23 
  have C24 : Cal l.prog w K mg base "look_held" 2 F_look_held 2 := cal_look_held T F24 (PySem.W.mg_of X G a24) b24 C6
  have G25 := fn_Keep_pin (P := l.prog) (w := w) (base := base) T F25 C24
  have G26 := fn_Keep_pins (P := l.prog) (w := w) (base := base) T F26 
  have R_Keep : Mkr l.prog w K mg base "Keep" 5 F_Keep_init 2 := ⟨⟨C_Keep, f10, _, _, PySem.W.mg_of X G g_Keep, clsFB_of y_Keep, ⟨m_Keep, a10, i10, q_Keep⟩, b10, G10⟩⟩
  have M_Keep_held : Mth l.prog w K mg base "Keep" "held" 1 F_Keep_held 1 := ⟨fun C hC => (show C = C_Keep by have e := PySem.W.mg_of X G g_Keep; rw [hC] at e; cases e; rfl) ▸ ⟨f23, _, _, clsFB_of y_Keep, ⟨a23, i23, k23⟩, b23, G23⟩⟩
  have M_Keep_let_go : Mth l.prog w K mg base "Keep" "let_go" 5 F_Keep_let_go 1 := ⟨fun C hC => (show C = C_Keep by have e := PySem.W.mg_of X G g_Keep; rw [hC] at e; cases e; rfl) ▸ ⟨f19, _, _, clsFB_of y_Keep, ⟨a19, i19, k19⟩, b19, G19⟩⟩
  have M_Keep_pin : Mth l.prog w K mg base "Keep" "pin" 3 F_Keep_pin 2 := ⟨fun C hC => (show C = C_Keep by have e := PySem.W.mg_of X G g_Keep; rw [hC] at e; cases e; rfl) ▸ ⟨f25, _, _, clsFB_of y_Keep, ⟨a25, i25, k25⟩, b25, G25⟩⟩
  have M_Keep_pins : Mth l.prog w K mg base "Keep" "pins" 1 F_Keep_pins 1 := ⟨fun C hC => (show C = C_Keep by have e := PySem.W.mg_of X G g_Keep; rw [hC] at e; cases e; rfl) ▸ ⟨f26, _, _, clsFB_of y_Keep, ⟨a26, i26, k26⟩, b26, G26⟩⟩
  have M_Keep_take : Mth l.prog w K mg base "Keep" "take" 4 F_Keep_take 2 := ⟨fun C hC => (show C = C_Keep by have e := PySem.W.mg_of X G g_Keep; rw [hC] at e; cases e; rfl) ▸ ⟨f13, _, _, clsFB_of y_Keep, ⟨a13, i13, k13⟩, b13, G13⟩⟩
  have M_Keep_unpin : Mth l.prog w K mg base "Keep" "unpin" 2 F_Keep_unpin 2 := ⟨fun C hC => (show C = C_Keep by have e := PySem.W.mg_of X G g_Keep; rw [hC] at e; cases e; rfl) ▸ ⟨f14, _, _, clsFB_of y_Keep, ⟨a14, i14, k14⟩, b14, G14⟩⟩
  exact law_ok (cal_law T F27 C1 C22 C5 C4 C3 C0 R_Keep M_Keep_held M_Keep_let_go M_Keep_pin M_Keep_pins M_Keep_take M_Keep_unpin) hF
end K21

set_option Elab.async false
set_option linter.all false
set_option maxRecDepth 100000
set_option maxHeartbeats 2000000
namespace NK
open PySem PySem.Spec PyProof.Rows L2
/-! ### the law's draws -/
/-- the draws' list: the count, the cells -/
abbrev twn (c : Int) (rest : List Int) : D := .lst (.int c :: rest.map .int)
theorem town_small (ns : List Int) (h : ns.length ≤ 63) : F_law_town [.sh (.fl (ns.map .int))] = some (.val (true, twn 0 ns) [.no]) := by
  have h2 : 1 + ns.length ≤ 1000000 := by omega
  simp [F_law_town, m_law_town, h2]
theorem draw_ok (ns rest : List Int) (c many : Int) (hc : 0 ≤ c) (hc2 : c < 4611686018427387904) (hl : rest.length = ns.length) (hm : 0 < many) (hm2 : many < 1073741824) :
    ∃ r rest', 0 ≤ r ∧ r < many ∧ rest'.length = ns.length ∧ F_law_draw [.sh (.fl (ns.map .int)), .io (twn c rest), .sh (.int many)] = some (.val (false, .int r) [.no, .io (twn (c + 1) rest'), .no]) := by
  have h1 : c + 1 < 18446744073709551616 := by omega
  have h2 : -18446744073709551616 < c + 1 := by omega
  cases ns with
  | nil =>
    refine ⟨(c + 1) * (c + 1) * 7 / 3 % many, [], Int.emod_nonneg _ (by omega), Int.emod_lt_of_pos _ hm, rfl, ?_⟩
    have h3 := eqDB_fnil []
    simp at h3
    cases rest with
    | nil => simp [F_law_draw, m_law_draw, hm, h3, h1, h2]
    | cons => simp at hl
  | cons n ns =>
    generalize hL : n :: ns = l at *
    have hpos : 0 < (l.length : Int) := by rw [← hL]; simp
    have hposN : 0 < l.length := by omega
    have hne : l.isEmpty = false := by rw [← hL]; rfl
    have k0 : 0 ≤ (c + 1) % (l.length : Int) := Int.emod_nonneg _ (by omega)
    have k1 : (c + 1) % (l.length : Int) < l.length := Int.emod_lt_of_pos _ hpos
    generalize hk : (c + 1) % (l.length : Int) = k at *
    obtain ⟨j, rfl⟩ : ∃ j : Nat, k = j := ⟨k.toNat, by omega⟩
    have hj : j < l.length := by omega
    have hj2 : j < rest.length := by omega
    have e1 : atI (l.map D.int) (j : Int) = some (.int l[j]) := atI_of (by omega) (by simp [hj])
    have e2 : atI (D.int (c + 1) :: rest.map D.int) (1 + (j : Int)) = some (.int rest[j]) := by
      refine atI_of (by omega) ?_
      rw [show (1 + (j : Int)).toNat = j + 1 by omega]
      simp [hj2]
    have e3 : ixN (rest.length + 1) (1 + (j : Int)) = some (j + 1) := by
      rw [ixN_of (by omega) (by omega)]; congr 1; omega
    by_cases hb : (1000000000000000000 ≤ l[j] ∧ 0 < rest[j])
    · refine ⟨rest[j] % many, rest.set j (rest[j] / many), Int.emod_nonneg _ (by omega), Int.emod_lt_of_pos _ hm, by simp [hl], ?_⟩
      simp [F_law_draw, m_law_draw, hm, hm2, h1, h2, hne, hposN, hk, e1, e2, e3, hb.1, hb.2, List.map_set]
    · refine ⟨((((l[j] + 104729 * (c + 1)) % 4294967291) ^ 5 % 4294967279) / 64 * 69621 + ((l[j] + 104729 * (c + 1)) % 4294967291) ^ 5 % 4294967279) % 4294967231 / 8 % many, rest, Int.emod_nonneg _ (by omega), Int.emod_lt_of_pos _ hm, hl, ?_⟩
      have z0 : 0 ≤ (l[j] + 104729 * (c + 1)) % 4294967291 := Int.emod_nonneg _ (by omega)
      have z1 : (l[j] + 104729 * (c + 1)) % 4294967291 < 4294967291 := Int.emod_lt_of_pos _ (by omega)
      have z2 : ((l[j] + 104729 * (c + 1)) % 4294967291).natAbs < 18446744073709551616 := by omega
      by_cases b1 : 1000000000000000000 ≤ l[j]
      · have b2 : ¬ 0 < rest[j] := fun z => hb ⟨b1, z⟩
        simp [F_law_draw, m_law_draw, hm, hm2, h1, h2, hne, hposN, hk, e1, e2, e3, b1, b2, z2]
      · simp [F_law_draw, m_law_draw, hm, hm2, h1, h2, hne, hposN, hk, e1, e2, e3, b1, z2]

/-! ### comprehensions that keep the slots -/
theorem lcL_pure {α : Type} {t : Tg} {p : M Bool} {f : M D} {vs : List Nat} {emb y : α → D} {e : Env} : ∀ {xs : List α}, (∀ x ∈ xs, ∃ e1 e2, t (emb x) e = some e1 ∧ p e1 = some (.val true e1) ∧ f e1 = some (.val (y x) e2) ∧ wipeE e2 vs = e) →
    lcL t p f vs (xs.map emb) e = some (xs.map y, e)
  | [], _ => rfl
  | x :: xs, h => by
    obtain ⟨e1, e2, h1, h2, h3, h4⟩ := h x (by simp)
    have ih := lcL_pure (xs := xs) fun z hz => h z (by simp [hz])
    simp only [List.map_cons, lcL_cons, h1, h2, h3, h4, ih, Option.map_some]
theorem lcL_filter {α : Type} {t : Tg} {p : M Bool} {f : M D} {vs : List Nat} {emb y : α → D} {c : α → Bool} {e : Env} : ∀ {xs : List α}, (∀ x ∈ xs, ∃ e1 e2, t (emb x) e = some e1 ∧ p e1 = some (.val (c x) e2) ∧ (c x = false → wipeE e2 vs = e) ∧ (c x = true → ∃ e3, f e2 = some (.val (y x) e3) ∧ wipeE e3 vs = e)) →
    lcL t p f vs (xs.map emb) e = some ((xs.filter c).map y, e)
  | [], _ => rfl
  | x :: xs, h => by
    obtain ⟨e1, e2, h1, h2, h3, h4⟩ := h x (by simp)
    have ih := lcL_filter (xs := xs) fun z hz => h z (by simp [hz])
    cases hc : c x with
    | true =>
      obtain ⟨e3, h5, h6⟩ := h4 hc
      rw [hc] at h2
      simp only [List.map_cons, lcL_cons, h1, h2, h5, h6, ih, Option.map_some, List.filter_cons, hc, if_true]
    | false =>
      have h6 := h3 hc
      rw [hc] at h2
      simp only [List.map_cons, lcL_cons, h1, h2, h6, ih, List.filter_cons, hc, Bool.false_eq_true, if_false]
/-! ### rounds -/
theorem is_number_int (i a b : Int) : F_is_number [.sh (.int i), .sh (.int a), .sh (.int b)] = some (.val (false, .bl (decide (a ≤ i ∧ i ≤ b))) [.no, .no, .no]) := by
  by_cases h1 : a ≤ i
  · by_cases h2 : i ≤ b <;> simp [F_is_number, m_is_number, h1, h2]
  · simp [F_is_number, m_is_number, h1]
structure GoodR (rs : List Int) : Prop where
  l1 : 1 ≤ rs.length
  l2 : rs.length ≤ 12
  all : ∀ r ∈ rs, 1 ≤ r ∧ r ≤ 31
theorem sum_bounds : ∀ (rs : List Int), (∀ r ∈ rs, 1 ≤ r ∧ r ≤ 31) → (rs.length : Int) ≤ rs.sum ∧ rs.sum ≤ 31 * rs.length
  | [], _ => by simp
  | r :: rs, h => by
    have h1 := h r (by simp)
    have h2 := sum_bounds rs fun x hx => h x (by simp [hx])
    simp only [List.sum_cons, List.length_cons]
    omega
theorem GoodR.sum {rs : List Int} (g : GoodR rs) : 1 ≤ rs.sum ∧ rs.sum ≤ 372 := by
  have h := sum_bounds rs g.all
  have h1 := g.l1
  have h2 := g.l2
  omega
def goodR (rs : List Int) : Bool := decide (1 ≤ rs.length ∧ rs.length ≤ 12) && rs.all fun r => decide (1 ≤ r ∧ r ≤ 31)
theorem goodR_iff {rs : List Int} : goodR rs = true ↔ GoodR rs := by
  unfold goodR
  simp only [Bool.and_eq_true, decide_eq_true_eq, List.all_eq_true]
  exact ⟨fun ⟨⟨a, b⟩, c⟩ => ⟨a, b, c⟩, fun h => ⟨⟨h.l1, h.l2⟩, h.all⟩⟩
theorem is_rounds_ints (rs : List Int) (hl : rs.length ≤ 1000) : F_is_rounds [.sh (.tup (rs.map .int))] = some (.val (false, .bl (goodR rs)) [.no]) := by
  have hl2 : rs.length ≤ 1000000 := by omega
  have e := lcL_pure (t := setT 1) (p := yesM) (f := c1_is_rounds) (vs := [1]) (emb := D.int) (y := fun r => .bl (decide (1 ≤ r ∧ r ≤ 31))) (e := [.sh (.tup (rs.map .int)), .no]) (xs := rs)
    (fun r _ => ⟨_, [.sh (.tup (rs.map .int)), .sh (.int r)], rfl, rfl, by simp [c1_is_rounds, is_number_int], rfl⟩)
  have e2 : rs.map (fun r => D.bl (decide (1 ≤ r ∧ r ≤ 31))) = (rs.map fun r => decide (1 ≤ r ∧ r ≤ 31)).map D.bl := by simp
  rw [e2] at e
  by_cases h1 : 1 ≤ rs.length
  · by_cases h2 : rs.length ≤ 12
    · have h1' : (1 : Int) ≤ rs.length := by omega
      have h2' : (rs.length : Int) ≤ 12 := by omega
      simp [F_is_rounds, m_is_rounds, h1', h2', hl2, e, goodR, h1, h2, List.all_map, -List.map_map]
    · have h1' : (1 : Int) ≤ rs.length := by omega
      have h2' : ¬ (rs.length : Int) ≤ 12 := by omega
      simp [F_is_rounds, m_is_rounds, h1', h2', goodR, h1, h2]
  · have h1' : ¬ (1 : Int) ≤ rs.length := by omega
    simp [F_is_rounds, m_is_rounds, h1', goodR, h1]

theorem look_rounds_ok {rs : List Int} (g : GoodR rs) : F_look_rounds [.sh (.tup (rs.map .int))] = some (.val (false, .non) [.no]) := by
  have h := is_rounds_ints rs (by have := g.l2; omega)
  rw [goodR_iff.mpr g] at h
  simp [F_look_rounds, m_look_rounds, h]
theorem look_night_ok {n : Int} (h : 0 ≤ n ∧ n ≤ 1000000000) : F_look_night [.sh (.int n)] = some (.val (false, .non) [.no]) := by
  simp [F_look_night, m_look_night, is_number_int, h.1, h.2]
theorem loop_nx {t : Tg} {m : S} {d : D} {ds : List D} {e e1 e2 : Env} (h : t d e = some e1) (h2 : m e1 = some (.nx e2)) : loopS t m (d :: ds) e = loopS t m ds e2 := by rw [loopS_cons, h]; simp only [h2]
theorem loop_rt {t : Tg} {m : S} {d x : D} {ds : List D} {e e1 e2 : Env} (h : t d e = some e1) (h2 : m e1 = some (.rt x e2)) : loopS t m (d :: ds) e = some (.rt x e2) := by rw [loopS_cons, h]; simp only [h2]
/-- the round in which a rest lies -/
def spot : List Int → Int → Int → Int
  | [], _, f => f
  | r :: rs, l, f => if l < r then f else spot rs (l - r) (f + 1)
def numberOf (rs : List Int) (n : Int) : Int := spot rs (n % rs.sum) (n / rs.sum * rs.length)
theorem number_loop (R W : D) (n : Int) : ∀ (rs : List Int) (l f : Int) (x : Cell), l < rs.sum → 0 ≤ l →
    ∃ e, loopS (setT 5) b1_number_of (rs.map .int) [.sh R, .sh (.int n), .sh W, .sh (.int f), .sh (.int l), x] = some (.rt (.int (spot rs l f)) e) ∧ outC 2 e = [.no, .no]
  | [], l, f, x, h, h0 => by simp at h; omega
  | r :: rs, l, f, x, h, h0 => by
    by_cases hl : l < r
    · refine ⟨[.sh R, .sh (.int n), .sh W, .sh (.int f), .sh (.int l), .sh (.int r)], ?_, by simp⟩
      rw [List.map_cons, loop_rt (x := .int f) (e1 := [.sh R, .sh (.int n), .sh W, .sh (.int f), .sh (.int l), .sh (.int r)]) (e2 := [.sh R, .sh (.int n), .sh W, .sh (.int f), .sh (.int l), .sh (.int r)]) rfl (by simp [b1_number_of, hl])]
      simp [spot, hl]
    · obtain ⟨e, h1, h2⟩ := number_loop R W n rs (l - r) (f + 1) (.sh (.int r)) (by simp at h; omega) (by omega)
      refine ⟨e, ?_, h2⟩
      rw [List.map_cons, loop_nx (e1 := [.sh R, .sh (.int n), .sh W, .sh (.int f), .sh (.int l), .sh (.int r)]) (e2 := [.sh R, .sh (.int n), .sh W, .sh (.int (f + 1)), .sh (.int (l - r)), .sh (.int r)]) rfl (by simp [b1_number_of, hl]), h1]
      simp [spot, hl]
theorem number_of_ok {rs : List Int} (g : GoodR rs) (n : Int) : F_number_of [.sh (.tup (rs.map .int)), .sh (.int n)] = some (.val (false, .int (numberOf rs n)) [.no, .no]) := by
  have h1 := g.sum
  have h2 := g.l2
  obtain ⟨e, he, ho⟩ := number_loop (.tup (rs.map .int)) (.int rs.sum) n rs (n % rs.sum) (n / rs.sum * rs.length) .no (Int.emod_lt_of_pos _ (by omega)) (Int.emod_nonneg _ (by omega))
  have c1 : 0 < rs.sum := by omega
  have c2 : rs.sum < 1073741824 := by omega
  have c3 : (rs.length : Int) < 18446744073709551616 := by omega
  have c4 : (-18446744073709551616 : Int) < rs.length := by omega
  simp [F_number_of, m_number_of, c1, c2, c3, c4, he]
  simpa [numberOf] using ho
/-- the first night of a round -/
def firstOf (rs : List Int) (m : Int) : Int := m / rs.length * rs.sum + (rs.take (m % rs.length).toNat).sum
theorem cutL_take (xs : List D) {k : Int} (h0 : 0 ≤ k) (h : k ≤ xs.length) : cutL xs none (some k) = xs.take k.toNat := by
  have h1 : ¬ k < 0 := by omega
  have h2 : min k.toNat xs.length = k.toNat := by omega
  simp [cutL, HT.sIx, h1, h2]
theorem first_of_ok {rs : List Int} (g : GoodR rs) (m : Int) : F_first_of [.sh (.tup (rs.map .int)), .sh (.int m)] = some (.val (false, .int (firstOf rs m)) [.no, .no]) := by
  have h1 := g.sum
  have h2 := g.l2
  have h3 := g.l1
  have c1 : 0 < rs.length := by omega
  have c2 : (rs.length : Int) < 1073741824 := by omega
  have c3 : (rs.sum : Int) < 18446744073709551616 := by omega
  have c4 : (-18446744073709551616 : Int) < rs.sum := by omega
  have z0 : 0 ≤ m % (rs.length : Int) := Int.emod_nonneg _ (by omega)
  have z1 : m % (rs.length : Int) < rs.length := Int.emod_lt_of_pos _ (by omega)
  have e := cutL_take (rs.map D.int) z0 (by rw [List.length_map]; omega)
  rw [← List.map_take] at e
  simp [F_first_of, m_first_of, c1, c2, c3, c4, e, firstOf, -List.map_take]
theorem round_of_ok {rs : List Int} (g : GoodR rs) {n : Int} (h : 0 ≤ n ∧ n ≤ 1000000000) : F_round_of [.sh (.tup (rs.map .int)), .sh (.int n)] = some (.val (false, .int (numberOf rs n)) [.no, .no]) := by
  simp [F_round_of, m_round_of, look_rounds_ok g, look_night_ok h, number_of_ok g]
theorem nights_of_ok {rs : List Int} (g : GoodR rs) {m : Int} (h : 0 ≤ m ∧ m ≤ 1000000000) : F_nights_of [.sh (.tup (rs.map .int)), .sh (.int m)] = some (.val (false, .tup [.int (firstOf rs m), .int (firstOf rs (m + 1) - 1)]) [.no, .no]) := by
  simp [F_nights_of, m_nights_of, look_rounds_ok g, is_number_int, first_of_ok g, h.1, h.2]
/-! the mathematics of rounds -/
theorem spot_at : ∀ (rs : List Int) (i : Nat) (s f : Int), (∀ r ∈ rs, 1 ≤ r ∧ r ≤ 31) → i < rs.length → (rs.take i).sum ≤ s → s < (rs.take (i + 1)).sum → spot rs s f = f + i
  | [], i, s, f, _, h, _, _ => by simp at h
  | r :: rs, 0, s, f, g, h, h1, h2 => by
    simp at h2
    simp [spot, h2]
  | r :: rs, i + 1, s, f, g, h, h1, h2 => by
    simp at h1 h2 h
    have hb := sum_bounds (rs.take i) fun x hx => g x (by simp [List.mem_of_mem_take hx])
    have hs : ¬ s < r := by omega
    have ih := spot_at rs i (s - r) (f + 1) (fun x hx => g x (by simp [hx])) h (by omega) (by omega)
    simp [spot, hs, ih]
    omega
theorem take_succ_sum (rs : List Int) (i : Nat) (h : i < rs.length) : (rs.take (i + 1)).sum = (rs.take i).sum + rs[i] := by
  exact sum_take (List.getElem?_eq_getElem h)
theorem firstOf_at (rs : List Int) (q : Int) (i : Nat) (h : i < rs.length) : firstOf rs (q * rs.length + i) = q * rs.sum + (rs.take i).sum := by
  have hl : (0 : Int) < rs.length := by omega
  have e1 : (q * rs.length + i) / (rs.length : Int) = q := by
    rw [Int.add_comm, Int.add_mul_ediv_right _ _ (by omega), Int.ediv_eq_zero_of_lt (by omega) (by omega)]; omega
  have e2 : (q * rs.length + i) % (rs.length : Int) = i := by
    rw [Int.add_comm, Int.add_mul_emod_self_right, Int.emod_eq_of_lt (by omega) (by omega)]
  unfold firstOf
  rw [e1, e2]
  simp
theorem firstOf_top (rs : List Int) (q : Int) (h : 0 < rs.length) : firstOf rs (q * rs.length) = q * rs.sum := by
  have := firstOf_at rs q 0 h
  simpa using this
/-- a round's number by turns -/
theorem split_round (rs : List Int) (m : Int) (h : 0 < rs.length) : ∃ q : Int, ∃ i : Nat, i < rs.length ∧ m = q * rs.length + i ∧ (m % rs.length).toNat = i ∧ (0 ≤ m → 0 ≤ q) := by
  have z0 : 0 ≤ m % (rs.length : Int) := Int.emod_nonneg _ (by omega)
  have z1 : m % (rs.length : Int) < rs.length := Int.emod_lt_of_pos _ (by omega)
  have e := Int.mul_ediv_add_emod m rs.length
  refine ⟨m / rs.length, (m % rs.length).toNat, by omega, ?_, rfl, fun h0 => Int.ediv_nonneg h0 (by omega)⟩
  rw [Int.mul_comm] at e
  omega
theorem firstOf_succ {rs : List Int} (g : GoodR rs) (m : Int) {i : Nat} (hi : (m % rs.length).toNat = i) (h : i < rs.length) : firstOf rs (m + 1) = firstOf rs m + rs[i] := by
  obtain ⟨q, j, hj, rfl, hij, _⟩ := split_round rs m (by have := g.l1; omega)
  obtain rfl : i = j := by omega
  rw [firstOf_at rs q i hj]
  by_cases e : i + 1 < rs.length
  · have := firstOf_at rs q (i + 1) e
    rw [show q * (rs.length : Int) + i + 1 = q * rs.length + ((i + 1 : Nat) : Int) by omega, this, take_succ_sum rs i hj]
    omega
  · have el : i + 1 = rs.length := by omega
    have := firstOf_top rs (q + 1) (by omega)
    rw [show q * (rs.length : Int) + i + 1 = (q + 1) * rs.length by rw [Int.add_mul]; omega, this]
    have e2 := take_succ_sum rs i hj
    rw [el, List.take_length] at e2
    rw [Int.add_mul]
    omega
theorem numberOf_in {rs : List Int} (g : GoodR rs) (m k : Int) {i : Nat} (hi : (m % rs.length).toNat = i) (h : i < rs.length) (h0 : 0 ≤ k) (h1 : k < rs[i]) : numberOf rs (firstOf rs m + k) = m := by
  obtain ⟨q, j, hj, rfl, hij, _⟩ := split_round rs m (by have := g.l1; omega)
  obtain rfl : i = j := by omega
  rw [firstOf_at rs q i hj]
  have hs := g.sum
  have b1 := sum_bounds (rs.take i) fun x hx => g.all x (List.mem_of_mem_take hx)
  have e2 := take_succ_sum rs i hj
  have b2 : (rs.take (i + 1)).sum ≤ rs.sum := by
    have e := List.take_append_drop (i + 1) rs
    have b3 := sum_bounds (rs.drop (i + 1)) fun x hx => g.all x (List.mem_of_mem_drop hx)
    have : (rs.take (i + 1)).sum + (rs.drop (i + 1)).sum = rs.sum := by rw [← List.sum_append, e]
    omega
  have d1 : (q * rs.sum + (rs.take i).sum + k) / rs.sum = q := by
    rw [Int.add_assoc, Int.add_comm, Int.add_mul_ediv_right _ _ (by omega), Int.ediv_eq_zero_of_lt (by omega) (by omega)]; omega
  have d2 : (q * rs.sum + (rs.take i).sum + k) % rs.sum = (rs.take i).sum + k := by
    rw [Int.add_assoc, Int.add_comm, Int.add_mul_emod_self_right, Int.emod_eq_of_lt (by omega) (by omega)]
  unfold numberOf
  rw [d1, d2]
  exact spot_at rs i _ _ g.all hj (by omega) (by omega)

/-! ### more of the law's helpers -/
theorem whole_int (i : Int) : F_law_whole [.sh (.int i)] = some (.val (false, .bl true) [.no]) := by simp [F_law_whole, m_law_whole]
theorem wholes_ints (l : List Int) (h : l.length ≤ 1000000) : F_law_wholes [.sh (.lst (l.map .int))] = some (.val (false, .bl true) [.no]) := by
  have e := lcL_filter (t := setT 1) (p := p1_law_wholes) (f := c2_law_wholes) (vs := [1]) (emb := D.int) (y := D.int) (c := fun _ => false) (e := [.sh (.lst (l.map .int)), .no]) (xs := l)
    (fun r _ => ⟨[.sh (.lst (l.map .int)), .sh (.int r)], [.sh (.lst (l.map .int)), .sh (.int r)], rfl, by simp [p1_law_wholes, whole_int], fun _ => rfl, fun z => nomatch z⟩)
  have e2 : l.filter (fun _ => false) = [] := by simp
  rw [e2] at e
  have h3 := eqDB_nils []
  simp at h3
  simp [F_law_wholes, m_law_wholes, h, e, h3]
theorem rounds_loop (ns : List Int) (hn : ns.length ≤ 63) (lo m top : Int) (h0 : 0 < top) (h1 : top < 1073741824) : ∀ (ds : List D) (c : Int) (rest : List Int), 0 ≤ c → c + ds.length < 4611686018427387904 → rest.length = ns.length →
    ∃ (out rest' : List Int), out.length = ds.length ∧ (∀ r ∈ out, 1 ≤ r ∧ r ≤ top) ∧ rest'.length = ns.length ∧
      lcL (setT 5) yesM c1_law_rounds [5] ds [.sh (.fl (ns.map .int)), .io (twn c rest), .sh (.int lo), .sh (.int top), .sh (.int m), .no] = some (out.map .int, [.sh (.fl (ns.map .int)), .io (twn (c + ds.length) rest'), .sh (.int lo), .sh (.int top), .sh (.int m), .no])
  | [], c, rest, hc, hc2, hl => ⟨[], rest, rfl, by simp, hl, by simp⟩
  | d :: ds, c, rest, hc, hc2, hl => by
    simp at hc2
    obtain ⟨r, rest1, r0, r1, l1, e1⟩ := draw_ok ns rest c top hc (by omega) hl h0 h1
    obtain ⟨out, rest2, o1, o2, o3, e2⟩ := rounds_loop ns hn lo m top h0 h1 ds (c + 1) rest1 (by omega) (by omega) l1
    refine ⟨(1 + r) :: out, rest2, by simp [o1], ?_, o3, ?_⟩
    · intro x hx
      rcases List.mem_cons.mp hx with rfl | hx
      · omega
      · exact o2 x hx
    · have hc1 : c1_law_rounds [.sh (.fl (ns.map .int)), .io (twn c rest), .sh (.int lo), .sh (.int top), .sh (.int m), .sh d] = some (.val (.int (1 + r)) [.sh (.fl (ns.map .int)), .io (twn (c + 1) rest1), .sh (.int lo), .sh (.int top), .sh (.int m), .sh d]) := by
        simp [c1_law_rounds, e1]
      rw [lcL_cons]
      simp only [q_setT, List.set_cons_succ, List.set_cons_zero, q_yes, hc1, q_wipe1, q_wipe0, e2, Option.map_some, List.map_cons]
      simp
      omega
theorem rngL_len (n : Int) : (rngL 0 n).length = n.toNat := by simp [rngL]
theorem law_rounds_ok (ns rest : List Int) (hn : ns.length ≤ 63) (c lo top : Int) (hc : 0 ≤ c) (hc2 : c + lo + 1 < 4611686018427387904) (hl : rest.length = ns.length) (h0 : 0 < top) (h1 : top < 1073741824) (h2 : 0 < lo) (h3 : lo ≤ 1000000) :
    ∃ (rs rest' : List Int) (c' : Int), 1 ≤ rs.length ∧ (rs.length : Int) ≤ lo ∧ (∀ r ∈ rs, 1 ≤ r ∧ r ≤ top) ∧ rest'.length = ns.length ∧ c ≤ c' ∧ c' ≤ c + lo + 1 ∧
      F_law_rounds [.sh (.fl (ns.map .int)), .io (twn c rest), .sh (.int lo), .sh (.int top)] = some (.val (false, .tup (rs.map .int)) [.no, .io (twn c' rest'), .no, .no]) := by
  obtain ⟨r, rest1, r0, r1, l1, e1⟩ := draw_ok ns rest c lo hc (by omega) hl h2 (by omega)
  have hlen : (rngL 0 (1 + r)).length = (1 + r).toNat := rngL_len _
  obtain ⟨out, rest2, o1, o2, o3, e2⟩ := rounds_loop ns hn lo (1 + r) top h0 h1 (rngL 0 (1 + r)) (c + 1) rest1 (by omega) (by omega) l1
  have k1 : (-4611686018427387904 : Int) ≤ 1 + r := by omega
  have k2 : 1 + r < 4611686018427387904 := by omega
  have k3 : (1 + r).toNat ≤ 1000000 := by omega
  refine ⟨out, rest2, c + 1 + (1 + r).toNat, by omega, by omega, o2, o3, by omega, by omega, ?_⟩
  rw [hlen] at e2
  simp [F_law_rounds, m_law_rounds, e1, k1, k2, hlen, k3, e2]
theorem law_pick_ok (ns rest : List Int) (c : Int) (ds : List D) (hc : 0 ≤ c) (hc2 : c < 4611686018427387904) (hl : rest.length = ns.length) (h0 : 0 < ds.length) (h1 : ds.length < 1000000) :
    ∃ (j : Nat) (d : D) (rest' : List Int), ds[j]? = some d ∧ rest'.length = ns.length ∧ F_law_pick [.sh (.fl (ns.map .int)), .io (twn c rest), .sh (.lst ds)] = some (.val (false, d) [.no, .io (twn (c + 1) rest'), .no]) := by
  obtain ⟨r, rest1, r0, r1, l1, e1⟩ := draw_ok ns rest c ds.length hc (by omega) hl (by omega) (by omega)
  have hj : r.toNat < ds.length := by omega
  refine ⟨r.toNat, ds[r.toNat], rest1, List.getElem?_eq_getElem hj, l1, ?_⟩
  have e2 : atI ds r = some ds[r.toNat] := atI_of r0 (List.getElem?_eq_getElem hj)
  simp [F_law_pick, m_law_pick, e1, e2]
end NK

set_option Elab.async false
set_option linter.all false
set_option maxRecDepth 100000
set_option maxHeartbeats 2000000
namespace NK
open PySem PySem.Spec PyProof.Rows L2
/-! ### what a rule keeps, plainly -/
/-- the last nights of rounds, from the last night on; p: the round of the night behind -/
def endsR (num : Int → Int) : Option Int → List Int → List Int
  | _, [] => []
  | p, n :: r => if some (num n) = p then endsR num p r else n :: endsR num (some (num n)) r
/-- the last nights of rounds, rising -/
def ends (num : Int → Int) : List Int → List Int
  | [] => []
  | n :: r => match r with
    | [] => [n]
    | n' :: _ => if num n' = num n then ends num r else n :: ends num r
theorem ends_cons (num : Int → Int) (n n' : Int) (r : List Int) : ends num (n :: n' :: r) = if num n' = num n then ends num (n' :: r) else n :: ends num (n' :: r) := rfl
def lastP (num : Int → Int) (p : Option Int) : List Int → Option Int
  | [] => p
  | n :: r => lastP num (some (num n)) r
theorem endsR_app (num : Int → Int) : ∀ (l m : List Int) (p : Option Int), endsR num p (l ++ m) = endsR num p l ++ endsR num (lastP num p l) m
  | [], m, p => rfl
  | n :: l, m, p => by
    simp only [List.cons_append, endsR, lastP]
    split
    · rename_i e
      rw [endsR_app num l m p, e]
    · rw [endsR_app num l m (some (num n))]; rfl
theorem lastP_app (num : Int → Int) : ∀ (l : List Int) (n : Int) (p : Option Int), lastP num p (l ++ [n]) = some (num n)
  | [], n, p => rfl
  | m :: l, n, p => lastP_app num l n _
theorem endsR_rev (num : Int → Int) : ∀ l : List Int, endsR num none l.reverse = (ends num l).reverse
  | [] => rfl
  | [n] => rfl
  | n :: n' :: r => by
    have ih := endsR_rev num (n' :: r)
    rw [List.reverse_cons, endsR_app, ih, ends_cons]
    have e : lastP num none (n' :: r).reverse = some (num n') := by rw [List.reverse_cons]; exact lastP_app num _ _ _
    rw [e]
    by_cases h : num n' = num n
    · simp [endsR, h]
    · have h2 : ¬ num n = num n' := fun z => h z.symm
      simp [endsR, h, h2]
theorem ends_sub (num : Int → Int) : ∀ l : List Int, (ends num l).Sublist l
  | [] => .slnil
  | [n] => List.Sublist.refl _
  | n :: n' :: r => by
    rw [ends_cons]
    split
    · exact (ends_sub num (n' :: r)).cons _
    · exact (ends_sub num (n' :: r)).cons₂ _
/-- what a rule keeps, rising -/
def keepR (num : Int → Int) (m : Int) (l : List Int) : List Int := (ends num l).drop ((ends num l).length - m.toNat)
theorem take_rev (l : List Int) (m : Nat) : (l.reverse).take m = (l.drop (l.length - m)).reverse := by
  rw [List.take_reverse]
/-- a rule: its rounds, its number -/
abbrev Rule := List Int × Int
abbrev ruleD (r : Rule) : D := .tup [.tup (r.1.map .int), .int r.2]
structure GoodU (r : Rule) : Prop where
  rounds : GoodR r.1
  m1 : 1 ≤ r.2
  m2 : r.2 ≤ 20
abbrev keepU (r : Rule) (l : List Int) : List Int := keepR (numberOf r.1) r.2 l
@[simp] theorem eqDB_in (i : Int) : eqDB (.int i) .non = some false := by rw [eqDB_of (by simp) (by simp)]; simp [eqv]
def aheadD : Option Int → D
  | none => .non
  | some i => .int i
theorem eqDB_ahead (i : Int) (p : Option Int) : eqDB (.int i) (aheadD p) = some (decide (some i = p)) := by
  cases p with
  | none => simp [aheadD]
  | some j => simp [aheadD]
theorem kept_by_loop {u : Rule} (g : GoodU u) (N : D) : ∀ (r : List Int) (p : Option Int) (f : List Int) (x4 x5 : Cell), f.length < u.2.toNat → f.length + r.length ≤ 100000 →
    (∃ e, loopS (setT 4) b1_kept_by (r.map .int) [.sh (ruleD u), .sh N, .ow (.lst (f.map .int)), .sh (aheadD p), x4, x5] = some (.rt (.lst (((f ++ endsR (numberOf u.1) p r).take u.2.toNat).map .int)) e) ∧ outC 2 e = [.no, .no]) ∨
    ∃ x3 x4' x5', loopS (setT 4) b1_kept_by (r.map .int) [.sh (ruleD u), .sh N, .ow (.lst (f.map .int)), .sh (aheadD p), x4, x5] = some (.nx [.sh (ruleD u), .sh N, .ow (.lst (((f ++ endsR (numberOf u.1) p r).take u.2.toNat).map .int)), x3, x4', x5'])
  | [], p, f, x4, x5, h, _ => .inr ⟨.sh (aheadD p), x4, x5, by simp [endsR]; rw [List.take_of_length_le (by simp; omega)]⟩
  | n :: r, p, f, x4, x5, h, hz => by
    have q := number_of_ok g.rounds n
    have g1 := g.m1
    simp only [List.length_cons] at hz
    by_cases e : some (numberOf u.1 n) = p
    · have hne : ¬ (f.length : Int) = u.2 := by omega
      have hb : b1_kept_by [.sh (ruleD u), .sh N, .ow (.lst (f.map .int)), .sh (aheadD p), .sh (.int n), x5] = some (.nx [.sh (ruleD u), .sh N, .ow (.lst (f.map .int)), .sh (aheadD p), .sh (.int n), .sh (.int (numberOf u.1 n))]) := by
        simp [b1_kept_by, q, eqDB_ahead, e, hne]
      rw [List.map_cons, loop_nx (by rfl) hb]
      have er : endsR (numberOf u.1) p (n :: r) = endsR (numberOf u.1) p r := by simp [endsR, e]
      rw [er]
      exact kept_by_loop g N r p f _ _ h (by omega)
    · have er : endsR (numberOf u.1) p (n :: r) = n :: endsR (numberOf u.1) (some (numberOf u.1 n)) r := by simp [endsR, e]
      rw [er]
      have hl : f.length < 1000000 := by omega
      by_cases hm : f.length + 1 = u.2.toNat
      · have hm2 : (f.length : Int) + 1 = u.2 := by omega
        have hb : b1_kept_by [.sh (ruleD u), .sh N, .ow (.lst (f.map .int)), .sh (aheadD p), .sh (.int n), x5] = some (.rt (.lst ((f ++ [n]).map .int)) [.sh (ruleD u), .sh N, .no, .sh (.int (numberOf u.1 n)), .sh (.int n), .sh (.int (numberOf u.1 n))]) := by
          simp [b1_kept_by, q, eqDB_ahead, e, hm2, hl]
        refine .inl ⟨[.sh (ruleD u), .sh N, .no, .sh (.int (numberOf u.1 n)), .sh (.int n), .sh (.int (numberOf u.1 n))], ?_, ?_⟩
        · rw [List.map_cons, loop_rt (by rfl) hb]
          have e3 : (f ++ n :: endsR (numberOf u.1) (some (numberOf u.1 n)) r).take u.2.toNat = f ++ [n] := by
            rw [← hm, List.take_append, List.take_of_length_le (by omega)]
            congr 1
            rw [show f.length + 1 - f.length = 1 by omega]; rfl
          rw [e3]
        · simp
      · have hm2 : ¬ (f.length : Int) + 1 = u.2 := by omega
        have hb : b1_kept_by [.sh (ruleD u), .sh N, .ow (.lst (f.map .int)), .sh (aheadD p), .sh (.int n), x5] = some (.nx [.sh (ruleD u), .sh N, .ow (.lst ((f ++ [n]).map .int)), .sh (.int (numberOf u.1 n)), .sh (.int n), .sh (.int (numberOf u.1 n))]) := by
          simp [b1_kept_by, q, eqDB_ahead, e, hm2, hl]
        rw [List.map_cons, loop_nx (by rfl) hb]
        have := kept_by_loop g N r (some (numberOf u.1 n)) (f ++ [n]) (.sh (.int n)) (.sh (.int (numberOf u.1 n))) (by simp; omega) (by simp; omega)
        rw [List.append_assoc] at this
        exact this
theorem kept_by_ok {u : Rule} (g : GoodU u) (l : List Int) (hl : l.length ≤ 100000) : F_kept_by [.sh (ruleD u), .sh (.lst (l.map .int))] = some (.val (false, .lst ((keepU u l).reverse.map .int)) [.no, .no]) := by
  have g1 := g.m1
  have e0 : (([] : List Int) ++ endsR (numberOf u.1) none l.reverse).take u.2.toNat = (keepU u l).reverse := by
    rw [List.nil_append, endsR_rev, take_rev]; rfl
  have hh := kept_by_loop g (.lst (l.map .int)) l.reverse none [] .no .no (by simp; omega) (by simpa using hl)
  rw [e0] at hh
  have er : revD [.lst (l.map .int)] = some (l.reverse.map .int) := by simp [revD]
  rcases hh with ⟨e, h1, h2⟩ | ⟨x3, x4, x5, h1⟩
  · simp only [List.map_nil] at h1
    simp [F_kept_by, m_kept_by, -List.map_reverse, er, aheadD] at h1 h2 ⊢
    rw [h1]
    simp [h2]
  · simp only [List.map_nil] at h1
    simp [F_kept_by, m_kept_by, -List.map_reverse, er, aheadD] at h1 ⊢
    rw [h1]
    simp
theorem spot_loop (R W : D) (n : Int) : ∀ (rs : List Int) (a f : Int) (x : Cell), n - a < rs.sum → 0 ≤ n - a →
    ∃ e y, loopS (setT 5) b1_law_spot (rs.map .int) [.sh R, .sh (.int n), .sh W, .sh (.int a), .sh (.int f), x] = some (.rt (.tup [.int (spot rs (n - a) f), .int y]) e) ∧ outC 2 e = [.no, .no]
  | [], a, f, x, h, h0 => by simp at h; omega
  | r :: rs, a, f, x, h, h0 => by
    by_cases hl : n < a + r
    · have hl2 : n - a < r := by omega
      refine ⟨[.sh R, .sh (.int n), .sh W, .sh (.int a), .sh (.int f), .sh (.int r)], a, ?_, by simp⟩
      rw [List.map_cons, loop_rt (x := .tup [.int f, .int a]) (e1 := [.sh R, .sh (.int n), .sh W, .sh (.int a), .sh (.int f), .sh (.int r)]) (e2 := [.sh R, .sh (.int n), .sh W, .sh (.int a), .sh (.int f), .sh (.int r)]) rfl (by simp [b1_law_spot, hl])]
      simp [spot, hl2]
    · obtain ⟨e, y, h1, h2⟩ := spot_loop R W n rs (a + r) (f + 1) (.sh (.int r)) (by simp at h; omega) (by omega)
      have hl2 : ¬ n - a < r := by omega
      refine ⟨e, y, ?_, h2⟩
      rw [List.map_cons, loop_nx (e1 := [.sh R, .sh (.int n), .sh W, .sh (.int a), .sh (.int f), .sh (.int r)]) (e2 := [.sh R, .sh (.int n), .sh W, .sh (.int (a + r)), .sh (.int (f + 1)), .sh (.int r)]) rfl (by simp [b1_law_spot, hl]), h1]
      simp [spot, hl2]
      congr 1; omega
theorem spot_ok {rs : List Int} (g : GoodR rs) (n : Int) : ∃ y, F_law_spot [.sh (.tup (rs.map .int)), .sh (.int n)] = some (.val (false, .tup [.int (numberOf rs n), .int y]) [.no, .no]) := by
  have h1 := g.sum
  have h2 := g.l2
  have z0 := Int.emod_nonneg n (show rs.sum ≠ 0 by omega)
  have z1 := Int.emod_lt_of_pos n (show (0 : Int) < rs.sum by omega)
  have z2 := Int.mul_ediv_add_emod n rs.sum
  rw [Int.mul_comm] at z2
  have ee : n - n / rs.sum * rs.sum = n % rs.sum := by omega
  obtain ⟨e, y, he, ho⟩ := spot_loop (.tup (rs.map .int)) (.int rs.sum) n rs (n / rs.sum * rs.sum) (n / rs.sum * rs.length) .no (by omega) (by omega)
  have c1 : 0 < rs.sum := by omega
  have c2 : rs.sum < 18446744073709551616 := by omega
  have c2' : -18446744073709551616 < rs.sum := by omega
  have c5 : rs.sum < 1073741824 := by omega
  have c3 : (rs.length : Int) < 18446744073709551616 := by omega
  have c4 : (-18446744073709551616 : Int) < rs.length := by omega
  refine ⟨y, ?_⟩
  rw [ee] at he
  simp [F_law_spot, m_law_spot, c1, c2, c2', c3, c4, c5, he]
  simpa [numberOf] using ho
theorem cutL_drop (xs : List D) {k : Int} (h0 : 0 ≤ k) : cutL xs (some k) none = xs.drop k.toNat := by
  have h1 : ¬ k < 0 := by omega
  simp only [cutL, HT.sIx, h1, if_false]
  rcases Nat.le_total k.toNat xs.length with h | h
  · rw [Nat.min_eq_left h, List.take_of_length_le (by simp)]
  · rw [Nat.min_eq_right h, List.drop_of_length_le (Nat.le_refl _), List.drop_of_length_le h]; simp
abbrev eT : Tg := tupT 2 (consT (setT 5) (consT (setT 6) nilT))
theorem law_by_loop {u : Rule} (g : GoodU u) (l : List Int) (hz : l.length ≤ 100000) : ∀ (r pre : List Int) (f : List Int) (x5 x6 x7 : Cell), pre ++ r = l → f.length ≤ pre.length →
    ∃ y5 y6 y7, loopS eT b1_law_by (enumL (pre.length : Int) (r.map .int)) [.sh (ruleD u), .sh (.lst (l.map .int)), .sh (.tup (u.1.map .int)), .sh (.int u.2), .ow (.lst (f.map .int)), x5, x6, x7] =
      some (.nx [.sh (ruleD u), .sh (.lst (l.map .int)), .sh (.tup (u.1.map .int)), .sh (.int u.2), .ow (.lst ((f ++ ends (numberOf u.1) r).map .int)), y5, y6, y7])
  | [], pre, f, x5, x6, x7, e, h => ⟨x5, x6, x7, by simp [enumL, ends]⟩
  | [n], pre, f, x5, x6, x7, e, h => by
    obtain ⟨y, q⟩ := spot_ok g.rounds n
    have hl : (pre.length : Int) + 1 = l.length := by rw [← e]; simp
    have hf : f.length < 1000000 := by
      have : pre.length + 1 = l.length := by rw [← e]; simp
      omega
    refine ⟨.sh (.int pre.length), .sh (.int n), .sh (.int (numberOf u.1 n)), ?_⟩
    have hb : b1_law_by [.sh (ruleD u), .sh (.lst (l.map .int)), .sh (.tup (u.1.map .int)), .sh (.int u.2), .ow (.lst (f.map .int)), .sh (.int pre.length), .sh (.int n), x7] =
        some (.nx [.sh (ruleD u), .sh (.lst (l.map .int)), .sh (.tup (u.1.map .int)), .sh (.int u.2), .ow (.lst ((f ++ [n]).map .int)), .sh (.int pre.length), .sh (.int n), .sh (.int (numberOf u.1 n))]) := by
      simp [b1_law_by, q, hl, hf]
    show loopS eT b1_law_by [.tup [.int pre.length, .int n]] _ = _
    rw [loop_nx (by rfl) hb]
    simp [ends]
  | n :: n' :: r, pre, f, x5, x6, x7, e, h => by
    obtain ⟨y, q⟩ := spot_ok g.rounds n
    obtain ⟨y2, q2⟩ := spot_ok g.rounds n'
    have hlen : pre.length + (r.length + 2) = l.length := by rw [← e]; simp
    have hl : ¬ (pre.length : Int) + 1 = l.length := by omega
    have hf : f.length < 1000000 := by omega
    have ha : atI (l.map D.int) ((pre.length : Int) + 1) = some (.int n') := atI_of (by omega) (by
      rw [show ((pre.length : Int) + 1).toNat = pre.length + 1 by omega, ← e]
      simp)
    have e2 : (pre ++ [n]) ++ (n' :: r) = l := by rw [← e]; simp
    have el : ((pre ++ [n]).length : Int) = (pre.length : Int) + 1 := by simp
    rw [ends_cons]
    show ∃ y5 y6 y7, loopS eT b1_law_by (.tup [.int pre.length, .int n] :: enumL ((pre.length : Int) + 1) ((n' :: r).map .int)) _ = _
    by_cases hn : numberOf u.1 n' = numberOf u.1 n
    · have hb : b1_law_by [.sh (ruleD u), .sh (.lst (l.map .int)), .sh (.tup (u.1.map .int)), .sh (.int u.2), .ow (.lst (f.map .int)), .sh (.int pre.length), .sh (.int n), x7] =
          some (.nx [.sh (ruleD u), .sh (.lst (l.map .int)), .sh (.tup (u.1.map .int)), .sh (.int u.2), .ow (.lst (f.map .int)), .sh (.int pre.length), .sh (.int n), .sh (.int (numberOf u.1 n))]) := by
        simp [b1_law_by, q, q2, hl, hf, ha, hn]
      rw [loop_nx (by rfl) hb, if_pos hn]
      have ih := law_by_loop g l hz (n' :: r) (pre ++ [n]) f (.sh (.int pre.length)) (.sh (.int n)) (.sh (.int (numberOf u.1 n))) e2 (by simp; omega)
      rw [el] at ih
      exact ih
    · have hb : b1_law_by [.sh (ruleD u), .sh (.lst (l.map .int)), .sh (.tup (u.1.map .int)), .sh (.int u.2), .ow (.lst (f.map .int)), .sh (.int pre.length), .sh (.int n), x7] =
          some (.nx [.sh (ruleD u), .sh (.lst (l.map .int)), .sh (.tup (u.1.map .int)), .sh (.int u.2), .ow (.lst ((f ++ [n]).map .int)), .sh (.int pre.length), .sh (.int n), .sh (.int (numberOf u.1 n))]) := by
        simp [b1_law_by, q, q2, hl, hf, ha, hn]
      rw [loop_nx (by rfl) hb, if_neg hn]
      have ih := law_by_loop g l hz (n' :: r) (pre ++ [n]) (f ++ [n]) (.sh (.int pre.length)) (.sh (.int n)) (.sh (.int (numberOf u.1 n))) e2 (by simp; omega)
      rw [el, List.append_assoc] at ih
      exact ih
theorem law_by_ok {u : Rule} (g : GoodU u) (l : List Int) (hz : l.length ≤ 100000) : F_law_by [.sh (ruleD u), .sh (.lst (l.map .int))] = some (.val (false, .lst ((keepU u l).map .int)) [.no, .no]) := by
  obtain ⟨y5, y6, y7, h⟩ := law_by_loop g l hz l [] [] .no .no .no rfl (by simp)
  have ee : enumD [.lst (l.map .int)] = some (enumL 0 (l.map .int)) := by simp [enumD]
  have g1 := g.m1
  have c0 : (0 : Int) ≤ max 0 ((ends (numberOf u.1) l).length - u.2) := by omega
  have hc := cutL_drop ((ends (numberOf u.1) l).map D.int) c0
  have hc2 : (max 0 (((ends (numberOf u.1) l).length : Int) - u.2)).toNat = (ends (numberOf u.1) l).length - u.2.toNat := by omega
  rw [hc2, ← List.map_drop] at hc
  simp only [List.nil_append, List.map_nil, List.length_nil] at h
  have h' : loopS (tupT 2 (consT (setT 5) (consT (setT 6) nilT))) b1_law_by (enumL 0 (l.map .int)) [.sh (.tup [.tup (u.1.map .int), .int u.2]), .sh (.lst (l.map .int)), .sh (.tup (u.1.map .int)), .sh (.int u.2), .ow (.lst []), .no, .no, .no] = _ := h
  simp [F_law_by, m_law_by, ee, h', -List.map_drop]
  rw [hc]
  rfl
theorem inF_ints (n : Int) (l : List Int) : inF (.int n) (l.map .int) = decide (n ∈ l) := by
  unfold inF
  induction l with
  | nil => simp
  | cons m l ih =>
    rw [List.map_cons, List.any_cons, ih]
    by_cases e : m = n
    · subst e; simp [eqF]
    · have e2 : ¬ n = m := fun z => e z.symm
      simp [eqF, e, e2]
theorem flat_ints (l : List Int) : (l.map D.int).all flatD = true := by
  induction l with
  | nil => rfl
  | cons m l ih => rw [List.map_cons, List.all_cons, ih]; rfl
@[simp] theorem inD_ints (neg : Bool) (n : Int) (l : List Int) : inD neg (.int n) (.lst (l.map .int)) = some (.bl (if neg then !decide (n ∈ l) else decide (n ∈ l))) := by
  have h : (if flatD (.int n) = true ∧ (l.map D.int).all flatD = true then some (D.bl (if neg then !inF (.int n) (l.map .int) else inF (.int n) (l.map .int))) else none) = some (.bl (if neg then !decide (n ∈ l) else decide (n ∈ l))) := by
    rw [if_pos ⟨rfl, flat_ints l⟩, inF_ints]
  exact h
/-- what rules keep -/
def keptU (us : List Rule) (l : List Int) : List Int := l.filter fun n => us.any fun u => decide (n ∈ keepU u l)
def keysU (us : List Rule) (l : List Int) (ks : List Int) : List Int := us.foldl (fun ks u => (keepU u l).reverse.foldl addI ks) ks
theorem addI_mem (l : List Int) : ∀ (ks : List Int) (x : Int), x ∈ l.foldl addI ks ↔ x ∈ ks ∨ x ∈ l := by
  induction l with
  | nil => intro ks x; simp
  | cons n l ih =>
    intro ks x
    rw [List.foldl_cons, ih]
    unfold addI
    split
    · rename_i h
      constructor
      · rintro (z | z)
        · exact .inl z
        · exact .inr (List.mem_cons_of_mem _ z)
      · rintro (z | z)
        · exact .inl z
        · rcases List.mem_cons.mp z with e | z
          · subst e; exact .inl h
          · exact .inr z
    · simp [or_assoc]
theorem addI_nodup (l : List Int) : ∀ (ks : List Int), ks.Nodup → (l.foldl addI ks).Nodup := by
  induction l with
  | nil => intro ks h; exact h
  | cons n l ih =>
    intro ks h
    rw [List.foldl_cons]
    refine ih _ ?_
    unfold addI
    split
    · exact h
    · rename_i hn
      rw [List.nodup_append]
      exact ⟨h, by simp, fun a ha b hb => by simp at hb; subst hb; exact fun z => hn (z ▸ ha)⟩
theorem keysU_mem (l : List Int) : ∀ (us : List Rule) (ks : List Int) (x : Int), x ∈ keysU us l ks ↔ x ∈ ks ∨ ∃ u ∈ us, x ∈ keepU u l
  | [], ks, x => by simp [keysU]
  | u :: us, ks, x => by
    show x ∈ keysU us l ((keepU u l).reverse.foldl addI ks) ↔ _
    rw [keysU_mem l us, addI_mem]
    simp [or_assoc]
theorem keysU_nodup (l : List Int) : ∀ (us : List Rule) (ks : List Int), ks.Nodup → (keysU us l ks).Nodup
  | [], ks, h => h
  | u :: us, ks, h => keysU_nodup l us _ (addI_nodup _ _ h)
theorem keepU_sub (u : Rule) (l : List Int) : (keepU u l).Sublist l := (List.drop_sublist _ _).trans (ends_sub _ l)
theorem keptU_eq (us : List Rule) (l : List Int) (h : l.Pairwise (· < ·)) : keptU us l = sortI (keysU us l []) := by
  have hs : (keptU us l).Pairwise (· < ·) := h.filter _
  refine sortI_uniq ?_ (hs.imp fun h => Int.le_of_lt h)
  refine (List.perm_ext_iff_of_nodup (hs.imp fun h => Int.ne_of_lt h) (keysU_nodup l us [] .nil)).mpr fun x => ?_
  rw [keysU_mem]
  simp only [keptU, List.mem_filter, List.any_eq_true, decide_eq_true_eq, List.not_mem_nil, false_or]
  exact ⟨fun ⟨_, z⟩ => z, fun ⟨u, hu, hx⟩ => ⟨(keepU_sub u l).subset hx, u, hu, hx⟩⟩
theorem kept_of_in (R N : D) (x3 : Cell) : ∀ (ns ks : List Int) (x4 : Cell), ks.length + ns.length < 1000000 →
    ∃ y4, loopS (setT 4) b1_kept_of (ns.map .int) [.sh R, .sh N, .ow (.dk (kdk ks (.bl true))), x3, x4] = some (.nx [.sh R, .sh N, .ow (.dk (kdk (ns.foldl addI ks) (.bl true))), x3, y4])
  | [], ks, x4, h => ⟨x4, rfl⟩
  | n :: ns, ks, x4, h => by
    simp only [List.length_cons] at h
    have hl : ks.length < 1000000 := by omega
    have hb : b1_kept_of [.sh R, .sh N, .ow (.dk (kdk ks (.bl true))), x3, .sh (.int n)] = some (.nx [.sh R, .sh N, .ow (.dk (kdk (addI ks n) (.bl true))), x3, .sh (.int n)]) := by
      rw [← putA_kdk]
      simp [b1_kept_of, hl]
    rw [List.map_cons, loop_nx (by rfl) hb]
    exact kept_of_in R N x3 ns (addI ks n) _ (by have : (addI ks n).length ≤ ks.length + 1 := by unfold addI; split <;> simp
                                                 omega)
theorem keepU_len (u : Rule) (l : List Int) : (keepU u l).length ≤ l.length := (keepU_sub u l).length_le
theorem foldl_addI_len (l : List Int) : ∀ (ks : List Int), (l.foldl addI ks).length ≤ ks.length + l.length := by
  induction l with
  | nil => intro ks; simp
  | cons n l ih =>
    intro ks
    have h1 := ih (addI ks n)
    have : (addI ks n).length ≤ ks.length + 1 := by unfold addI; split <;> simp
    rw [List.foldl_cons, List.length_cons]
    omega
theorem kept_of_out (R : D) (l : List Int) (hz : l.length ≤ 10000) : ∀ (us : List Rule) (ks : List Int) (x3 x4 : Cell), (∀ u ∈ us, GoodU u) → ks.length + us.length * l.length < 1000000 →
    ∃ y3 y4, loopS (setT 3) b2_kept_of (us.map ruleD) [.sh R, .sh (.lst (l.map .int)), .ow (.dk (kdk ks (.bl true))), x3, x4] = some (.nx [.sh R, .sh (.lst (l.map .int)), .ow (.dk (kdk (keysU us l ks) (.bl true))), y3, y4])
  | [], ks, x3, x4, g, h => ⟨x3, x4, rfl⟩
  | u :: us, ks, x3, x4, g, h => by
    have hk := keepU_len u l
    have hm : (u :: us).length * l.length = us.length * l.length + l.length := by rw [List.length_cons, Nat.succ_mul]
    rw [hm] at h
    obtain ⟨y4, e⟩ := kept_of_in R (.lst (l.map .int)) (.sh (ruleD u)) (keepU u l).reverse ks x4 (by simp; omega)
    have q := kept_by_ok (g u (by simp)) l (by omega)
    have hb : b2_kept_of [.sh R, .sh (.lst (l.map .int)), .ow (.dk (kdk ks (.bl true))), .sh (ruleD u), x4] = some (.nx [.sh R, .sh (.lst (l.map .int)), .ow (.dk (kdk ((keepU u l).reverse.foldl addI ks) (.bl true))), .sh (ruleD u), y4]) := by
      simp [b2_kept_of, q, -List.map_reverse, -List.foldl_reverse]
      exact e
    rw [List.map_cons, loop_nx (by rfl) hb]
    have hh := foldl_addI_len (keepU u l).reverse ks
    rw [List.length_reverse] at hh
    exact kept_of_out R l hz us _ _ _ (fun v hv => g v (by simp [hv])) (by omega)
theorem kept_of_ok (us : List Rule) (l : List Int) (g : ∀ u ∈ us, GoodU u) (h : l.Pairwise (· < ·)) (hz : l.length ≤ 10000) (hu : us.length ≤ 20) : F_kept_of [.sh (.tup (us.map ruleD)), .sh (.lst (l.map .int))] = some (.val (false, .lst ((keptU us l).map .int)) [.no, .no]) := by
  have hm : us.length * l.length ≤ 20 * 10000 := Nat.mul_le_mul hu hz
  obtain ⟨y3, y4, e⟩ := kept_of_out (.tup (us.map ruleD)) l hz us [] .no .no g (by simp; omega)
  have e0 : kdk ([] : List Int) (.bl true) = [] := rfl
  rw [e0] at e
  rw [keptU_eq us l h]
  have ek : sortedKD (kdk (keysU us l []) (.bl true)) = some (.lst ((sortI (keysU us l [])).map .int)) := by unfold sortedKD; rw [keysI_kdk]; rfl
  simp [F_kept_of, m_kept_of, e, ek]
end NK

set_option Elab.async false
set_option linter.all false
set_option maxRecDepth 100000
set_option maxHeartbeats 2000000
namespace NK
open PySem PySem.Spec PyProof.Rows L2
theorem is_rule_ok (u : Rule) (hl : u.1.length ≤ 1000) : F_is_rule [.sh (ruleD u)] = some (.val (false, .bl (goodR u.1 && decide (1 ≤ u.2 ∧ u.2 ≤ 20))) [.no]) := by
  have h := is_rounds_ints u.1 hl
  cases hg : goodR u.1 with
  | true => rw [hg] at h; simp [F_is_rule, m_is_rule, h, is_number_int]
  | false => rw [hg] at h; simp [F_is_rule, m_is_rule, h]
theorem look_rules_ok2 (us : List Rule) (g : ∀ u ∈ us, GoodU u) (h1 : 1 ≤ us.length) (h2 : us.length ≤ 5) : F_look_rules [.sh (.tup (us.map ruleD))] = some (.val (false, .non) [.no]) := by
  have h1' : (1 : Int) ≤ us.length := by omega
  have h2' : (us.length : Int) ≤ 5 := by omega
  have hz : us.length ≤ 1000000 := by omega
  have e := lcL_pure (t := setT 1) (p := yesM) (f := c1_look_rules) (vs := [1]) (emb := ruleD) (y := fun u => .bl true) (e := [.sh (.tup (us.map ruleD)), .no]) (xs := us)
    (fun u hu => ⟨_, [.sh (.tup (us.map ruleD)), .sh (ruleD u)], rfl, rfl, by
      have gu := g u hu
      have q := is_rule_ok u (by have := gu.rounds.l2; omega)
      rw [goodR_iff.mpr gu.rounds] at q
      have m1 := gu.m1
      have m2 := gu.m2
      simp [m1, m2] at q
      simp [c1_look_rules, q], rfl⟩)
  have e2 : us.map (fun u => D.bl true) = (us.map fun u => true).map D.bl := by simp
  rw [e2] at e
  have ea : ((us.map fun u => true).all id) = true := by simp
  simp [F_look_rules, m_look_rules, h1', h2', hz, e, -List.map_map, ea]
theorem zip_loop (N : D) : ∀ (l : List Int) (x1 x2 : Cell), l.Pairwise (· < ·) → ∃ y1 y2, loopS (tupT 2 (consT (setT 1) (consT (setT 2) nilT))) b2_look_nights (zipL (l.map .int) (l.tail.map .int)) [.sh N, x1, x2] = some (.nx [.sh N, y1, y2])
  | [], x1, x2, _ => ⟨x1, x2, rfl⟩
  | [n], x1, x2, _ => ⟨x1, x2, rfl⟩
  | n :: n' :: r, x1, x2, h => by
    have hlt : n < n' := (List.pairwise_cons.mp h).1 n' (by simp)
    have hn : ¬ n' ≤ n := by omega
    obtain ⟨y1, y2, e⟩ := zip_loop N (n' :: r) (.sh (.int n)) (.sh (.int n')) (List.pairwise_cons.mp h).2
    refine ⟨y1, y2, ?_⟩
    have hb : b2_look_nights [.sh N, .sh (.int n), .sh (.int n')] = some (.nx [.sh N, .sh (.int n), .sh (.int n')]) := by simp [b2_look_nights, hn]
    show loopS _ _ (.tup [.int n, .int n'] :: zipL ((n' :: r).map .int) (r.map .int)) _ = _
    rw [loop_nx (by rfl) hb]
    exact e
theorem look_nights_ok (l : List Int) (h : l.Pairwise (· < ·)) (hl : l.length ≤ 100) (hr : ∀ n ∈ l, 0 ≤ n ∧ n ≤ 1000000000) : F_look_nights [.sh (.lst (l.map .int))] = some (.val (false, .non) [.no]) := by
  have h1 : ¬ (100 : Int) < l.length := by omega
  have hz : l.length ≤ 1000000 := by omega
  have e := lcL_pure (t := setT 1) (p := yesM) (f := c1_look_nights) (vs := [1]) (emb := D.int) (y := fun u => .bl true) (e := [.sh (.lst (l.map .int)), .no, .no]) (xs := l)
    (fun n hn => ⟨_, [.sh (.lst (l.map .int)), .sh (.int n), .no], rfl, rfl, by
      have := hr n hn
      simp [c1_look_nights, is_number_int, this.1, this.2], rfl⟩)
  have e2 : l.map (fun u => D.bl true) = (l.map fun u => true).map D.bl := by simp
  rw [e2] at e
  have ea : ((l.map fun u => true).all id) = true := by simp
  obtain ⟨y1, y2, ez⟩ := zip_loop (.lst (l.map .int)) l .no .no h
  have hc := cutL_drop (l.map D.int) (k := 1) (by decide)
  have hc2 : (l.map D.int).drop (1 : Int).toNat = l.tail.map .int := by cases l <;> simp
  rw [hc2] at hc
  have ez2 : zipD [.lst (l.map .int), .lst (l.tail.map .int)] = some (zipL (l.map .int) (l.tail.map .int)) := rfl
  simp [F_look_nights, m_look_nights, h1, hz, e, -List.map_map, -List.map_tail, ea, hc, ez2, ez]
theorem kept_ok (us : List Rule) (l : List Int) (g : ∀ u ∈ us, GoodU u) (h1 : 1 ≤ us.length) (h2 : us.length ≤ 5) (h : l.Pairwise (· < ·)) (hl : l.length ≤ 100) (hr : ∀ n ∈ l, 0 ≤ n ∧ n ≤ 1000000000) :
    F_kept [.sh (.tup (us.map ruleD)), .sh (.lst (l.map .int))] = some (.val (false, .lst ((keptU us l).map .int)) [.no, .no]) := by
  simp [F_kept, m_kept, look_rules_ok2 us g h1 h2, look_nights_ok l h hl hr, kept_of_ok us l g h (by omega) (by omega)]
theorem law_kept_ok (us : List Rule) (l : List Int) (g : ∀ u ∈ us, GoodU u) (hl : l.length ≤ 10000) (hu : us.length ≤ 20) :
    F_law_kept [.sh (.tup (us.map ruleD)), .sh (.lst (l.map .int))] = some (.val (false, .lst ((keptU us l).map .int)) [.no, .no]) := by
  have hz : us.length ≤ 1000000 := by omega
  have hz2 : l.length ≤ 1000000 := by omega
  have e1 := lcL_pure (t := setT 3) (p := yesM) (f := c1_law_kept) (vs := [3]) (emb := ruleD) (y := fun u => .lst ((keepU u l).map .int)) (e := [.sh (.tup (us.map ruleD)), .sh (.lst (l.map .int)), .no, .no, .no, .no]) (xs := us)
    (fun u hu => ⟨_, [.sh (.tup (us.map ruleD)), .sh (.lst (l.map .int)), .no, .sh (ruleD u), .no, .no], rfl, rfl, by simp [c1_law_kept, law_by_ok (g u hu) l (by omega)], rfl⟩)
  have e2 : ∀ n x3, lcL (setT 5) p2_law_kept c3_law_kept [5] (us.map fun u => .lst ((keepU u l).map .int)) [.sh (.tup (us.map ruleD)), .sh (.lst (l.map .int)), .sh (.lst (us.map fun u => .lst ((keepU u l).map .int))), x3, .sh (.int n), .no] =
      some (((us.filter fun u => decide (n ∈ keepU u l)).map fun _ => .int 1), [.sh (.tup (us.map ruleD)), .sh (.lst (l.map .int)), .sh (.lst (us.map fun u => .lst ((keepU u l).map .int))), x3, .sh (.int n), .no]) := fun n x3 =>
    lcL_filter (emb := fun u : Rule => D.lst ((keepU u l).map .int)) (y := fun _ => .int 1) (c := fun u => decide (n ∈ keepU u l)) (xs := us)
      (fun u hu => ⟨[.sh (.tup (us.map ruleD)), .sh (.lst (l.map .int)), .sh (.lst (us.map fun u => .lst ((keepU u l).map .int))), x3, .sh (.int n), .sh (.lst ((keepU u l).map .int))], [.sh (.tup (us.map ruleD)), .sh (.lst (l.map .int)), .sh (.lst (us.map fun u => .lst ((keepU u l).map .int))), x3, .sh (.int n), .sh (.lst ((keepU u l).map .int))], rfl, by simp [p2_law_kept], fun _ => rfl, fun _ => ⟨_, rfl, rfl⟩⟩)
  have e3 := lcL_filter (t := setT 4) (p := p4_law_kept) (f := c5_law_kept) (vs := [4]) (emb := D.int) (y := D.int) (c := fun n => us.any fun u => decide (n ∈ keepU u l)) (e := [.sh (.tup (us.map ruleD)), .sh (.lst (l.map .int)), .sh (.lst (us.map fun u => .lst ((keepU u l).map .int))), .no, .no, .no]) (xs := l)
    (fun n hn => ⟨[.sh (.tup (us.map ruleD)), .sh (.lst (l.map .int)), .sh (.lst (us.map fun u => .lst ((keepU u l).map .int))), .no, .sh (.int n), .no], [.sh (.tup (us.map ruleD)), .sh (.lst (l.map .int)), .sh (.lst (us.map fun u => .lst ((keepU u l).map .int))), .no, .sh (.int n), .no], rfl, by
      have h3 := eqDB_nils ((us.filter fun u => decide (n ∈ keepU u l)).map fun _ => (1 : Int))
      rw [List.map_map] at h3
      have h4 : ((us.filter fun u => decide (n ∈ keepU u l)).map fun _ => D.int 1) = ((us.filter fun u => decide (n ∈ keepU u l)).map (D.int ∘ fun _ => (1 : Int))) := rfl
      have h5 : (!((us.filter fun u => decide (n ∈ keepU u l)).map fun _ => (1 : Int)).isEmpty) = us.any fun u => decide (n ∈ keepU u l) := by
        rw [Bool.eq_iff_iff]
        simp [List.filter_eq_nil_iff]
      have e2' := e2 n .no
      rw [h4] at e2'
      simp [p4_law_kept, hz, e2', h3, -List.map_map, -List.isEmpty_map, h5], fun _ => rfl, fun _ => ⟨_, rfl, rfl⟩⟩)
  simp [F_law_kept, m_law_kept, hz, hz2, e1, e3, -List.map_map]
  rfl
/-! ### the law's rules, the law's nights -/
theorem rules_loop (ns : List Int) (hn : ns.length ≤ 63) (many long top most cnt : Int) (g1 : 0 < long) (g2 : long ≤ 12) (g3 : 0 < top) (g4 : top ≤ 31) (g5 : 0 < most) (g6 : most ≤ 20) : ∀ (ds : List D) (c : Int) (rest : List Int) (f : List Rule) (x8 : Cell), 0 ≤ c → c + 20 * ds.length < 1000000000 → rest.length = ns.length → f.length + ds.length < 1000000 →
    (∀ u ∈ f, GoodU u ∧ u.2 ≤ most ∧ (u.1.length : Int) ≤ long ∧ ∀ r ∈ u.1, r ≤ top) →
    ∃ (us : List Rule) (rest' : List Int) (c' : Int) (y8 : Cell), us.length = f.length + ds.length ∧ (∀ u ∈ us, GoodU u ∧ u.2 ≤ most ∧ (u.1.length : Int) ≤ long ∧ ∀ r ∈ u.1, r ≤ top) ∧ rest'.length = ns.length ∧ c ≤ c' ∧ c' ≤ c + 20 * ds.length ∧
      loopS (setT 8) b1_law_rules ds [.sh (.fl (ns.map .int)), .io (twn c rest), .sh (.int many), .sh (.int long), .sh (.int top), .sh (.int most), .sh (.int cnt), .ow (.lst (f.map ruleD)), x8] =
        some (.nx [.sh (.fl (ns.map .int)), .io (twn c' rest'), .sh (.int many), .sh (.int long), .sh (.int top), .sh (.int most), .sh (.int cnt), .ow (.lst (us.map ruleD)), y8])
  | [], c, rest, f, x8, hc, hc2, hl, hf, g => ⟨f, rest, c, x8, by simp, g, hl, by omega, by simp, rfl⟩
  | d :: ds, c, rest, f, x8, hc, hc2, hl, hf, g => by
    simp only [List.length_cons] at hc2 hf
    obtain ⟨rs, rest1, c1, r1, r2, r3, l1, d1, d2, e1⟩ := law_rounds_ok ns rest hn c long top hc (by omega) hl g3 (by omega) g1 (by omega)
    obtain ⟨m, rest2, m0, m1, l2, e2⟩ := draw_ok ns rest1 c1 most (by omega) (by omega) l1 g5 (by omega)
    have gu : GoodU (rs, 1 + m) := ⟨⟨r1, by show rs.length ≤ 12; omega, fun r hr => by have := r3 r hr; omega⟩, by show 1 ≤ 1 + m; omega, by show 1 + m ≤ 20; omega⟩
    obtain ⟨us, rest3, c3, y8, u1, u2, l3, d3, d4, e3⟩ := rules_loop ns hn many long top most cnt g1 g2 g3 g4 g5 g6 ds (c1 + 1) rest2 (f ++ [(rs, 1 + m)]) (.sh d) (by omega) (by omega) l2 (by simp; omega) (fun u hu => by
      rcases List.mem_append.mp hu with h | h
      · exact g u h
      · have : u = (rs, 1 + m) := by simpa using h
        subst this
        exact ⟨gu, by show 1 + m ≤ most; omega, r2, fun r hr => (r3 r hr).2⟩)
    refine ⟨us, rest3, c3, y8, by rw [u1]; simp; omega, u2, l3, by omega, by simp; omega, ?_⟩
    have hfl : f.length < 1000000 := by omega
    have hb : b1_law_rules [.sh (.fl (ns.map .int)), .io (twn c rest), .sh (.int many), .sh (.int long), .sh (.int top), .sh (.int most), .sh (.int cnt), .ow (.lst (f.map ruleD)), .sh d] =
        some (.nx [.sh (.fl (ns.map .int)), .io (twn (c1 + 1) rest2), .sh (.int many), .sh (.int long), .sh (.int top), .sh (.int most), .sh (.int cnt), .ow (.lst ((f ++ [(rs, 1 + m)]).map ruleD)), .sh d]) := by
      simp [b1_law_rules, e1, e2, hfl]
    rw [loop_nx (by rfl) hb]
    exact e3
theorem law_rules_ok (ns rest : List Int) (hn : ns.length ≤ 63) (c many long top most : Int) (hc : 0 ≤ c) (hc2 : c < 1000000) (hl : rest.length = ns.length) (g0 : 0 < many) (g00 : many ≤ 20) (g1 : 0 < long) (g2 : long ≤ 12) (g3 : 0 < top) (g4 : top ≤ 31) (g5 : 0 < most) (g6 : most ≤ 20) :
    ∃ (us : List Rule) (rest' : List Int) (c' : Int), 1 ≤ us.length ∧ (us.length : Int) ≤ many ∧ (∀ u ∈ us, GoodU u ∧ u.2 ≤ most ∧ (u.1.length : Int) ≤ long ∧ ∀ r ∈ u.1, r ≤ top) ∧ rest'.length = ns.length ∧ c ≤ c' ∧ c' ≤ c + 20 * many + 2 ∧
      F_law_rules [.sh (.fl (ns.map .int)), .io (twn c rest), .sh (.int many), .sh (.int long), .sh (.int top), .sh (.int most)] = some (.val (false, .tup (us.map ruleD)) [.no, .io (twn c' rest'), .no, .no, .no, .no]) := by
  obtain ⟨r, rest1, r0, r1, l1, e1⟩ := draw_ok ns rest c many hc (by omega) hl g0 (by omega)
  have hlen : (rngL 0 (1 + r)).length = (1 + r).toNat := rngL_len _
  obtain ⟨us, rest2, c2, y8, u1, u2, l2, d1, d2, e2⟩ := rules_loop ns hn many long top most (1 + r) g1 g2 g3 g4 g5 g6 (rngL 0 (1 + r)) (c + 1) rest1 [] .no (by omega) (by rw [hlen]; omega) l1 (by rw [hlen]; simp; omega) (fun u hu => by cases hu)
  rw [hlen] at d2 u1
  have u1' : (us.length : Int) = 1 + r := by simp at u1; omega
  have k1 : (-4611686018427387904 : Int) ≤ 1 + r := by omega
  have k2 : 1 + r < 4611686018427387904 := by omega
  have hz : us.length ≤ 1000000 := by omega
  simp only [List.map_nil] at e2
  by_cases hr : 1 < 1 + r
  · obtain ⟨s, rest3, s0, s1, l3, e3⟩ := draw_ok ns rest2 c2 6 (by omega) (by omega) l2 (by omega) (by omega)
    by_cases hs : s = 0
    · have hp : 0 < us.length := by omega
      have a0 : atI (us.map ruleD) 0 = some (ruleD us[0]) := atI_of (by decide) (by simp [hp])
      have ix : ixN us.length (1 + r - 1) = some (us.length - 1) := by rw [ixN_of (by omega) (by omega)]; congr 1; omega
      refine ⟨us.set (us.length - 1) us[0], rest3, c2 + 1, by simp; omega, by simp; omega, fun u hu => ?_, l3, by omega, by omega, ?_⟩
      · rcases List.mem_or_eq_of_mem_set hu with h | h
        · exact u2 u h
        · subst h; exact u2 _ (List.getElem_mem _)
      · have hs2 : (us.map ruleD).set (us.length - 1) (ruleD us[0]) = (us.set (us.length - 1) us[0]).map ruleD := by rw [List.map_set]
        simp [F_law_rules, m_law_rules, e1, k1, k2, e2, e3, hs, hr, a0, ix, -List.map_set]
        exact hs2
    · exact ⟨us, rest3, c2 + 1, by omega, by omega, u2, l3, by omega, by omega, by simp [F_law_rules, m_law_rules, e1, k1, k2, e2, e3, hs, hr]⟩
  · exact ⟨us, rest2, c2, by omega, by omega, u2, l2, by omega, by omega, by simp [F_law_rules, m_law_rules, e1, k1, k2, e2, hr]⟩
theorem nights_loop (ns : List Int) (hn : ns.length ≤ 63) (many step : Int) (g1 : 0 < step) (g2 : step ≤ 1000) : ∀ (ds : List D) (c : Int) (rest : List Int) (f : List Int) (at_ : Int) (x6 : Cell), 0 ≤ c → c + 2 * ds.length < 1000000000 → rest.length = ns.length → f.length + ds.length < 1000000 →
    0 ≤ at_ → f.Pairwise (· < ·) → (∀ n ∈ f, 0 ≤ n ∧ n < at_) →
    ∃ (l : List Int) (rest' : List Int) (c' at2 : Int) (y6 : Cell), l.length = f.length + ds.length ∧ l.Pairwise (· < ·) ∧ (∀ n ∈ l, 0 ≤ n ∧ n < at_ + (step + 1) * ds.length) ∧ rest'.length = ns.length ∧ c ≤ c' ∧ c' ≤ c + 2 * ds.length ∧
      loopS (setT 6) b1_law_nights ds [.sh (.fl (ns.map .int)), .io (twn c rest), .sh (.int many), .sh (.int step), .sh (.int at_), .ow (.lst (f.map .int)), x6] =
        some (.nx [.sh (.fl (ns.map .int)), .io (twn c' rest'), .sh (.int many), .sh (.int step), .sh (.int at2), .ow (.lst (l.map .int)), y6])
  | [], c, rest, f, at_, x6, hc, hc2, hl, hf, h0, hp, hb => ⟨f, rest, c, at_, x6, by simp, hp, fun n hn => by have := hb n hn; simp; omega, hl, by omega, by simp, rfl⟩
  | d :: ds, c, rest, f, at_, x6, hc, hc2, hl, hf, h0, hp, hb => by
    simp only [List.length_cons] at hc2 hf
    obtain ⟨j, dd, rest1, hj, l1, e1⟩ := law_pick_ok ns rest c [.int 1, .int 2, .int step] hc (by omega) hl (by simp) (by simp)
    obtain ⟨t, rfl, ht0, ht1⟩ : ∃ t, dd = .int t ∧ 1 ≤ t ∧ t ≤ step + 1 := by
      match j, hj with
      | 0, hj => cases hj; exact ⟨1, rfl, by decide, by omega⟩
      | 1, hj => cases hj; exact ⟨2, rfl, by decide, by omega⟩
      | 2, hj => cases hj; exact ⟨step, rfl, by omega, by omega⟩
      | j + 3, hj => simp at hj
    obtain ⟨r, rest2, r0, r1, l2, e2⟩ := draw_ok ns rest1 (c + 1) t (by omega) (by omega) l1 (by omega) (by omega)
    obtain ⟨l, rest3, c3, at3, y6, u1, u2, u3, l3, d3, d4, e3⟩ := nights_loop ns hn many step g1 g2 ds (c + 1 + 1) rest2 (f ++ [at_]) (at_ + 1 + r) (.sh d) (by omega) (by omega) l2 (by simp; omega) (by omega)
      (by rw [List.pairwise_append]; exact ⟨hp, by simp, fun a ha b hb2 => by have := hb a ha; simp at hb2; omega⟩) (fun n hn => by
        rcases List.mem_append.mp hn with h | h
        · have := hb n h; omega
        · simp at h; omega)
    have hm : (step + 1) * ((ds.length : Int) + 1) = (step + 1) * ds.length + (step + 1) := by rw [Int.mul_add, Int.mul_one]
    refine ⟨l, rest3, c3, at3, y6, by rw [u1]; simp; omega, u2, fun n hn => ?_, l3, by omega, by simp; omega, ?_⟩
    · have := u3 n hn
      have e : (((d :: ds).length : Nat) : Int) = (ds.length : Int) + 1 := by simp
      rw [e, hm]
      omega
    have hfl : f.length < 1000000 := by omega
    have hbd : b1_law_nights [.sh (.fl (ns.map .int)), .io (twn c rest), .sh (.int many), .sh (.int step), .sh (.int at_), .ow (.lst (f.map .int)), .sh d] =
        some (.nx [.sh (.fl (ns.map .int)), .io (twn (c + 1 + 1) rest2), .sh (.int many), .sh (.int step), .sh (.int (at_ + 1 + r)), .ow (.lst ((f ++ [at_]).map .int)), .sh d]) := by
      simp [b1_law_nights, e1, e2, hfl]
    rw [loop_nx (by rfl) hbd]
    exact e3
theorem law_nights_ok (ns rest : List Int) (hn : ns.length ≤ 63) (c many step : Int) (hc : 0 ≤ c) (hc2 : c < 1000000) (hl : rest.length = ns.length) (g0 : 0 ≤ many) (g00 : many ≤ 200) (g1 : 0 < step) (g2 : step ≤ 1000) :
    ∃ (l : List Int) (rest' : List Int) (c' : Int), (l.length : Int) ≤ many ∧ l.Pairwise (· < ·) ∧ (∀ n ∈ l, 0 ≤ n ∧ n ≤ 2 * step + (step + 1) * many) ∧ rest'.length = ns.length ∧ c ≤ c' ∧ c' ≤ c + 2 * many + 2 ∧
      F_law_nights [.sh (.fl (ns.map .int)), .io (twn c rest), .sh (.int many), .sh (.int step)] = some (.val (false, .lst (l.map .int)) [.no, .io (twn c' rest'), .no, .no]) := by
  obtain ⟨a, rest1, a0, a1, l1, e1⟩ := draw_ok ns rest c (2 * step + 1) hc (by omega) hl (by omega) (by omega)
  obtain ⟨r, rest2, r0, r1, l2, e2⟩ := draw_ok ns rest1 (c + 1) (many + 1) (by omega) (by omega) l1 (by omega) (by omega)
  have hlen : (rngL 0 r).length = r.toNat := rngL_len _
  obtain ⟨l, rest3, c3, at3, y6, u1, u2, u3, l3, d3, d4, e3⟩ := nights_loop ns hn many step g1 g2 (rngL 0 r) (c + 1 + 1) rest2 [] a .no (by omega) (by rw [hlen]; omega) l2 (by rw [hlen]; simp; omega) a0 .nil (fun n h => by cases h)
  rw [hlen] at d4 u1
  have k1 : (-4611686018427387904 : Int) ≤ r := by omega
  have k2 : r < 4611686018427387904 := by omega
  refine ⟨l, rest3, c3, by simp at u1; omega, u2, fun n hn => ?_, l3, by omega, by omega, ?_⟩
  · have := u3 n hn
    have h1 : ((rngL 0 r).length : Int) = r := by rw [hlen]; omega
    rw [h1] at this
    have h2 : (step + 1) * r ≤ (step + 1) * many := Int.mul_le_mul_of_nonneg_left (by omega) (by omega)
    omega
  · simp only [List.map_nil] at e3
    have k3 : (-18446744073709551616 : Int) < step := by omega
    have k4 : step < 18446744073709551616 := by omega
    simp [F_law_nights, m_law_nights, e1, e2, k1, k2, k3, k4, e3]
end NK

set_option Elab.async false
set_option linter.all false
set_option maxRecDepth 100000
set_option maxHeartbeats 4000000
namespace NK
open PySem PySem.Spec PyProof.Rows L2
/-! ### names of fields, of classes, of methods -/
@[simp] theorem fn1 : (Str.ofString "table" = Str.ofString "rules") = False := by simp only [eq_iff_iff, iff_false]; decide +kernel
@[simp] theorem fb1 : (Str.ofString "table" == Str.ofString "rules") = false := by decide +kernel
@[simp] theorem fn2 : (Str.ofString "table" = Str.ofString "nights") = False := by simp only [eq_iff_iff, iff_false]; decide +kernel
@[simp] theorem fb2 : (Str.ofString "table" == Str.ofString "nights") = false := by decide +kernel
@[simp] theorem fn3 : (Str.ofString "table" = Str.ofString "pinned") = False := by simp only [eq_iff_iff, iff_false]; decide +kernel
@[simp] theorem fb3 : (Str.ofString "table" == Str.ofString "pinned") = false := by decide +kernel
@[simp] theorem fn4 : (Str.ofString "table" = Str.ofString "last") = False := by simp only [eq_iff_iff, iff_false]; decide +kernel
@[simp] theorem fb4 : (Str.ofString "table" == Str.ofString "last") = false := by decide +kernel
@[simp] theorem fn5 : (Str.ofString "table" = Str.ofString "longest") = False := by simp only [eq_iff_iff, iff_false]; decide +kernel
@[simp] theorem fb5 : (Str.ofString "table" == Str.ofString "longest") = false := by decide +kernel
@[simp] theorem fn6 : (Str.ofString "table" = Str.ofString "wholes") = False := by simp only [eq_iff_iff, iff_false]; decide +kernel
@[simp] theorem fb6 : (Str.ofString "table" == Str.ofString "wholes") = false := by decide +kernel
@[simp] theorem fn7 : (Str.ofString "table" = Str.ofString "shelf") = False := by simp only [eq_iff_iff, iff_false]; decide +kernel
@[simp] theorem fb7 : (Str.ofString "table" == Str.ofString "shelf") = false := by decide +kernel
@[simp] theorem fn8 : (Str.ofString "rules" = Str.ofString "table") = False := by simp only [eq_iff_iff, iff_false]; decide +kernel
@[simp] theorem fb8 : (Str.ofString "rules" == Str.ofString "table") = false := by decide +kernel
@[simp] theorem fn9 : (Str.ofString "rules" = Str.ofString "nights") = False := by simp only [eq_iff_iff, iff_false]; decide +kernel
@[simp] theorem fb9 : (Str.ofString "rules" == Str.ofString "nights") = false := by decide +kernel
@[simp] theorem fn10 : (Str.ofString "rules" = Str.ofString "pinned") = False := by simp only [eq_iff_iff, iff_false]; decide +kernel
@[simp] theorem fb10 : (Str.ofString "rules" == Str.ofString "pinned") = false := by decide +kernel
@[simp] theorem fn11 : (Str.ofString "rules" = Str.ofString "last") = False := by simp only [eq_iff_iff, iff_false]; decide +kernel
@[simp] theorem fb11 : (Str.ofString "rules" == Str.ofString "last") = false := by decide +kernel
@[simp] theorem fn12 : (Str.ofString "rules" = Str.ofString "longest") = False := by simp only [eq_iff_iff, iff_false]; decide +kernel
@[simp] theorem fb12 : (Str.ofString "rules" == Str.ofString "longest") = false := by decide +kernel
@[simp] theorem fn13 : (Str.ofString "rules" = Str.ofString "wholes") = False := by simp only [eq_iff_iff, iff_false]; decide +kernel
@[simp] theorem fb13 : (Str.ofString "rules" == Str.ofString "wholes") = false := by decide +kernel
@[simp] theorem fn14 : (Str.ofString "rules" = Str.ofString "shelf") = False := by simp only [eq_iff_iff, iff_false]; decide +kernel
@[simp] theorem fb14 : (Str.ofString "rules" == Str.ofString "shelf") = false := by decide +kernel
@[simp] theorem fn15 : (Str.ofString "nights" = Str.ofString "table") = False := by simp only [eq_iff_iff, iff_false]; decide +kernel
@[simp] theorem fb15 : (Str.ofString "nights" == Str.ofString "table") = false := by decide +kernel
@[simp] theorem fn16 : (Str.ofString "nights" = Str.ofString "rules") = False := by simp only [eq_iff_iff, iff_false]; decide +kernel
@[simp] theorem fb16 : (Str.ofString "nights" == Str.ofString "rules") = false := by decide +kernel
@[simp] theorem fn17 : (Str.ofString "nights" = Str.ofString "pinned") = False := by simp only [eq_iff_iff, iff_false]; decide +kernel
@[simp] theorem fb17 : (Str.ofString "nights" == Str.ofString "pinned") = false := by decide +kernel
@[simp] theorem fn18 : (Str.ofString "nights" = Str.ofString "last") = False := by simp only [eq_iff_iff, iff_false]; decide +kernel
@[simp] theorem fb18 : (Str.ofString "nights" == Str.ofString "last") = false := by decide +kernel
@[simp] theorem fn19 : (Str.ofString "nights" = Str.ofString "longest") = False := by simp only [eq_iff_iff, iff_false]; decide +kernel
@[simp] theorem fb19 : (Str.ofString "nights" == Str.ofString "longest") = false := by decide +kernel
@[simp] theorem fn20 : (Str.ofString "nights" = Str.ofString "wholes") = False := by simp only [eq_iff_iff, iff_false]; decide +kernel
@[simp] theorem fb20 : (Str.ofString "nights" == Str.ofString "wholes") = false := by decide +kernel
@[simp] theorem fn21 : (Str.ofString "nights" = Str.ofString "shelf") = False := by simp only [eq_iff_iff, iff_false]; decide +kernel
@[simp] theorem fb21 : (Str.ofString "nights" == Str.ofString "shelf") = false := by decide +kernel
@[simp] theorem fn22 : (Str.ofString "pinned" = Str.ofString "table") = False := by simp only [eq_iff_iff, iff_false]; decide +kernel
@[simp] theorem fb22 : (Str.ofString "pinned" == Str.ofString "table") = false := by decide +kernel
@[simp] theorem fn23 : (Str.ofString "pinned" = Str.ofString "rules") = False := by simp only [eq_iff_iff, iff_false]; decide +kernel
@[simp] theorem fb23 : (Str.ofString "pinned" == Str.ofString "rules") = false := by decide +kernel
@[simp] theorem fn24 : (Str.ofString "pinned" = Str.ofString "nights") = False := by simp only [eq_iff_iff, iff_false]; decide +kernel
@[simp] theorem fb24 : (Str.ofString "pinned" == Str.ofString "nights") = false := by decide +kernel
@[simp] theorem fn25 : (Str.ofString "pinned" = Str.ofString "last") = False := by simp only [eq_iff_iff, iff_false]; decide +kernel
@[simp] theorem fb25 : (Str.ofString "pinned" == Str.ofString "last") = false := by decide +kernel
@[simp] theorem fn26 : (Str.ofString "pinned" = Str.ofString "longest") = False := by simp only [eq_iff_iff, iff_false]; decide +kernel
@[simp] theorem fb26 : (Str.ofString "pinned" == Str.ofString "longest") = false := by decide +kernel
@[simp] theorem fn27 : (Str.ofString "pinned" = Str.ofString "wholes") = False := by simp only [eq_iff_iff, iff_false]; decide +kernel
@[simp] theorem fb27 : (Str.ofString "pinned" == Str.ofString "wholes") = false := by decide +kernel
@[simp] theorem fn28 : (Str.ofString "pinned" = Str.ofString "shelf") = False := by simp only [eq_iff_iff, iff_false]; decide +kernel
@[simp] theorem fb28 : (Str.ofString "pinned" == Str.ofString "shelf") = false := by decide +kernel
@[simp] theorem fn29 : (Str.ofString "last" = Str.ofString "table") = False := by simp only [eq_iff_iff, iff_false]; decide +kernel
@[simp] theorem fb29 : (Str.ofString "last" == Str.ofString "table") = false := by decide +kernel
@[simp] theorem fn30 : (Str.ofString "last" = Str.ofString "rules") = False := by simp only [eq_iff_iff, iff_false]; decide +kernel
@[simp] theorem fb30 : (Str.ofString "last" == Str.ofString "rules") = false := by decide +kernel
@[simp] theorem fn31 : (Str.ofString "last" = Str.ofString "nights") = False := by simp only [eq_iff_iff, iff_false]; decide +kernel
@[simp] theorem fb31 : (Str.ofString "last" == Str.ofString "nights") = false := by decide +kernel
@[simp] theorem fn32 : (Str.ofString "last" = Str.ofString "pinned") = False := by simp only [eq_iff_iff, iff_false]; decide +kernel
@[simp] theorem fb32 : (Str.ofString "last" == Str.ofString "pinned") = false := by decide +kernel
@[simp] theorem fn33 : (Str.ofString "last" = Str.ofString "longest") = False := by simp only [eq_iff_iff, iff_false]; decide +kernel
@[simp] theorem fb33 : (Str.ofString "last" == Str.ofString "longest") = false := by decide +kernel
@[simp] theorem fn34 : (Str.ofString "last" = Str.ofString "wholes") = False := by simp only [eq_iff_iff, iff_false]; decide +kernel
@[simp] theorem fb34 : (Str.ofString "last" == Str.ofString "wholes") = false := by decide +kernel
@[simp] theorem fn35 : (Str.ofString "last" = Str.ofString "shelf") = False := by simp only [eq_iff_iff, iff_false]; decide +kernel
@[simp] theorem fb35 : (Str.ofString "last" == Str.ofString "shelf") = false := by decide +kernel
@[simp] theorem fn36 : (Str.ofString "longest" = Str.ofString "table") = False := by simp only [eq_iff_iff, iff_false]; decide +kernel
@[simp] theorem fb36 : (Str.ofString "longest" == Str.ofString "table") = false := by decide +kernel
@[simp] theorem fn37 : (Str.ofString "longest" = Str.ofString "rules") = False := by simp only [eq_iff_iff, iff_false]; decide +kernel
@[simp] theorem fb37 : (Str.ofString "longest" == Str.ofString "rules") = false := by decide +kernel
@[simp] theorem fn38 : (Str.ofString "longest" = Str.ofString "nights") = False := by simp only [eq_iff_iff, iff_false]; decide +kernel
@[simp] theorem fb38 : (Str.ofString "longest" == Str.ofString "nights") = false := by decide +kernel
@[simp] theorem fn39 : (Str.ofString "longest" = Str.ofString "pinned") = False := by simp only [eq_iff_iff, iff_false]; decide +kernel
@[simp] theorem fb39 : (Str.ofString "longest" == Str.ofString "pinned") = false := by decide +kernel
@[simp] theorem fn40 : (Str.ofString "longest" = Str.ofString "last") = False := by simp only [eq_iff_iff, iff_false]; decide +kernel
@[simp] theorem fb40 : (Str.ofString "longest" == Str.ofString "last") = false := by decide +kernel
@[simp] theorem fn41 : (Str.ofString "longest" = Str.ofString "wholes") = False := by simp only [eq_iff_iff, iff_false]; decide +kernel
@[simp] theorem fb41 : (Str.ofString "longest" == Str.ofString "wholes") = false := by decide +kernel
@[simp] theorem fn42 : (Str.ofString "longest" = Str.ofString "shelf") = False := by simp only [eq_iff_iff, iff_false]; decide +kernel
@[simp] theorem fb42 : (Str.ofString "longest" == Str.ofString "shelf") = false := by decide +kernel
@[simp] theorem fn43 : (Str.ofString "wholes" = Str.ofString "table") = False := by simp only [eq_iff_iff, iff_false]; decide +kernel
@[simp] theorem fb43 : (Str.ofString "wholes" == Str.ofString "table") = false := by decide +kernel
@[simp] theorem fn44 : (Str.ofString "wholes" = Str.ofString "rules") = False := by simp only [eq_iff_iff, iff_false]; decide +kernel
@[simp] theorem fb44 : (Str.ofString "wholes" == Str.ofString "rules") = false := by decide +kernel
@[simp] theorem fn45 : (Str.ofString "wholes" = Str.ofString "nights") = False := by simp only [eq_iff_iff, iff_false]; decide +kernel
@[simp] theorem fb45 : (Str.ofString "wholes" == Str.ofString "nights") = false := by decide +kernel
@[simp] theorem fn46 : (Str.ofString "wholes" = Str.ofString "pinned") = False := by simp only [eq_iff_iff, iff_false]; decide +kernel
@[simp] theorem fb46 : (Str.ofString "wholes" == Str.ofString "pinned") = false := by decide +kernel
@[simp] theorem fn47 : (Str.ofString "wholes" = Str.ofString "last") = False := by simp only [eq_iff_iff, iff_false]; decide +kernel
@[simp] theorem fb47 : (Str.ofString "wholes" == Str.ofString "last") = false := by decide +kernel
@[simp] theorem fn48 : (Str.ofString "wholes" = Str.ofString "longest") = False := by simp only [eq_iff_iff, iff_false]; decide +kernel
@[simp] theorem fb48 : (Str.ofString "wholes" == Str.ofString "longest") = false := by decide +kernel
@[simp] theorem fn49 : (Str.ofString "wholes" = Str.ofString "shelf") = False := by simp only [eq_iff_iff, iff_false]; decide +kernel
@[simp] theorem fb49 : (Str.ofString "wholes" == Str.ofString "shelf") = false := by decide +kernel
@[simp] theorem fn50 : (Str.ofString "shelf" = Str.ofString "table") = False := by simp only [eq_iff_iff, iff_false]; decide +kernel
@[simp] theorem fb50 : (Str.ofString "shelf" == Str.ofString "table") = false := by decide +kernel
@[simp] theorem fn51 : (Str.ofString "shelf" = Str.ofString "rules") = False := by simp only [eq_iff_iff, iff_false]; decide +kernel
@[simp] theorem fb51 : (Str.ofString "shelf" == Str.ofString "rules") = false := by decide +kernel
@[simp] theorem fn52 : (Str.ofString "shelf" = Str.ofString "nights") = False := by simp only [eq_iff_iff, iff_false]; decide +kernel
@[simp] theorem fb52 : (Str.ofString "shelf" == Str.ofString "nights") = false := by decide +kernel
@[simp] theorem fn53 : (Str.ofString "shelf" = Str.ofString "pinned") = False := by simp only [eq_iff_iff, iff_false]; decide +kernel
@[simp] theorem fb53 : (Str.ofString "shelf" == Str.ofString "pinned") = false := by decide +kernel
@[simp] theorem fn54 : (Str.ofString "shelf" = Str.ofString "last") = False := by simp only [eq_iff_iff, iff_false]; decide +kernel
@[simp] theorem fb54 : (Str.ofString "shelf" == Str.ofString "last") = false := by decide +kernel
@[simp] theorem fn55 : (Str.ofString "shelf" = Str.ofString "longest") = False := by simp only [eq_iff_iff, iff_false]; decide +kernel
@[simp] theorem fb55 : (Str.ofString "shelf" == Str.ofString "longest") = false := by decide +kernel
@[simp] theorem fn56 : (Str.ofString "shelf" = Str.ofString "wholes") = False := by simp only [eq_iff_iff, iff_false]; decide +kernel
@[simp] theorem fb56 : (Str.ofString "shelf" == Str.ofString "wholes") = false := by decide +kernel
@[simp] theorem fn57 : (Str.ofString "take" = Str.ofString "table") = False := by simp only [eq_iff_iff, iff_false]; decide +kernel
@[simp] theorem fb57 : (Str.ofString "take" == Str.ofString "table") = false := by decide +kernel
@[simp] theorem fn58 : (Str.ofString "take" = Str.ofString "rules") = False := by simp only [eq_iff_iff, iff_false]; decide +kernel
@[simp] theorem fb58 : (Str.ofString "take" == Str.ofString "rules") = false := by decide +kernel
@[simp] theorem fn59 : (Str.ofString "take" = Str.ofString "nights") = False := by simp only [eq_iff_iff, iff_false]; decide +kernel
@[simp] theorem fb59 : (Str.ofString "take" == Str.ofString "nights") = false := by decide +kernel
@[simp] theorem fn60 : (Str.ofString "take" = Str.ofString "pinned") = False := by simp only [eq_iff_iff, iff_false]; decide +kernel
@[simp] theorem fb60 : (Str.ofString "take" == Str.ofString "pinned") = false := by decide +kernel
@[simp] theorem fn61 : (Str.ofString "take" = Str.ofString "last") = False := by simp only [eq_iff_iff, iff_false]; decide +kernel
@[simp] theorem fb61 : (Str.ofString "take" == Str.ofString "last") = false := by decide +kernel
@[simp] theorem fn62 : (Str.ofString "take" = Str.ofString "longest") = False := by simp only [eq_iff_iff, iff_false]; decide +kernel
@[simp] theorem fb62 : (Str.ofString "take" == Str.ofString "longest") = false := by decide +kernel
@[simp] theorem fn63 : (Str.ofString "take" = Str.ofString "wholes") = False := by simp only [eq_iff_iff, iff_false]; decide +kernel
@[simp] theorem fb63 : (Str.ofString "take" == Str.ofString "wholes") = false := by decide +kernel
@[simp] theorem fn64 : (Str.ofString "take" = Str.ofString "shelf") = False := by simp only [eq_iff_iff, iff_false]; decide +kernel
@[simp] theorem fb64 : (Str.ofString "take" == Str.ofString "shelf") = false := by decide +kernel
@[simp] theorem fn65 : (Str.ofString "let_go" = Str.ofString "table") = False := by simp only [eq_iff_iff, iff_false]; decide +kernel
@[simp] theorem fb65 : (Str.ofString "let_go" == Str.ofString "table") = false := by decide +kernel
@[simp] theorem fn66 : (Str.ofString "let_go" = Str.ofString "rules") = False := by simp only [eq_iff_iff, iff_false]; decide +kernel
@[simp] theorem fb66 : (Str.ofString "let_go" == Str.ofString "rules") = false := by decide +kernel
@[simp] theorem fn67 : (Str.ofString "let_go" = Str.ofString "nights") = False := by simp only [eq_iff_iff, iff_false]; decide +kernel
@[simp] theorem fb67 : (Str.ofString "let_go" == Str.ofString "nights") = false := by decide +kernel
@[simp] theorem fn68 : (Str.ofString "let_go" = Str.ofString "pinned") = False := by simp only [eq_iff_iff, iff_false]; decide +kernel
@[simp] theorem fb68 : (Str.ofString "let_go" == Str.ofString "pinned") = false := by decide +kernel
@[simp] theorem fn69 : (Str.ofString "let_go" = Str.ofString "last") = False := by simp only [eq_iff_iff, iff_false]; decide +kernel
@[simp] theorem fb69 : (Str.ofString "let_go" == Str.ofString "last") = false := by decide +kernel
@[simp] theorem fn70 : (Str.ofString "let_go" = Str.ofString "longest") = False := by simp only [eq_iff_iff, iff_false]; decide +kernel
@[simp] theorem fb70 : (Str.ofString "let_go" == Str.ofString "longest") = false := by decide +kernel
@[simp] theorem fn71 : (Str.ofString "let_go" = Str.ofString "wholes") = False := by simp only [eq_iff_iff, iff_false]; decide +kernel
@[simp] theorem fb71 : (Str.ofString "let_go" == Str.ofString "wholes") = false := by decide +kernel
@[simp] theorem fn72 : (Str.ofString "let_go" = Str.ofString "shelf") = False := by simp only [eq_iff_iff, iff_false]; decide +kernel
@[simp] theorem fb72 : (Str.ofString "let_go" == Str.ofString "shelf") = false := by decide +kernel
@[simp] theorem fn73 : (Str.ofString "pin" = Str.ofString "table") = False := by simp only [eq_iff_iff, iff_false]; decide +kernel
@[simp] theorem fb73 : (Str.ofString "pin" == Str.ofString "table") = false := by decide +kernel
@[simp] theorem fn74 : (Str.ofString "pin" = Str.ofString "rules") = False := by simp only [eq_iff_iff, iff_false]; decide +kernel
@[simp] theorem fb74 : (Str.ofString "pin" == Str.ofString "rules") = false := by decide +kernel
@[simp] theorem fn75 : (Str.ofString "pin" = Str.ofString "nights") = False := by simp only [eq_iff_iff, iff_false]; decide +kernel
@[simp] theorem fb75 : (Str.ofString "pin" == Str.ofString "nights") = false := by decide +kernel
@[simp] theorem fn76 : (Str.ofString "pin" = Str.ofString "pinned") = False := by simp only [eq_iff_iff, iff_false]; decide +kernel
@[simp] theorem fb76 : (Str.ofString "pin" == Str.ofString "pinned") = false := by decide +kernel
@[simp] theorem fn77 : (Str.ofString "pin" = Str.ofString "last") = False := by simp only [eq_iff_iff, iff_false]; decide +kernel
@[simp] theorem fb77 : (Str.ofString "pin" == Str.ofString "last") = false := by decide +kernel
@[simp] theorem fn78 : (Str.ofString "pin" = Str.ofString "longest") = False := by simp only [eq_iff_iff, iff_false]; decide +kernel
@[simp] theorem fb78 : (Str.ofString "pin" == Str.ofString "longest") = false := by decide +kernel
@[simp] theorem fn79 : (Str.ofString "pin" = Str.ofString "wholes") = False := by simp only [eq_iff_iff, iff_false]; decide +kernel
@[simp] theorem fb79 : (Str.ofString "pin" == Str.ofString "wholes") = false := by decide +kernel
@[simp] theorem fn80 : (Str.ofString "pin" = Str.ofString "shelf") = False := by simp only [eq_iff_iff, iff_false]; decide +kernel
@[simp] theorem fb80 : (Str.ofString "pin" == Str.ofString "shelf") = false := by decide +kernel
@[simp] theorem fn81 : (Str.ofString "unpin" = Str.ofString "table") = False := by simp only [eq_iff_iff, iff_false]; decide +kernel
@[simp] theorem fb81 : (Str.ofString "unpin" == Str.ofString "table") = false := by decide +kernel
@[simp] theorem fn82 : (Str.ofString "unpin" = Str.ofString "rules") = False := by simp only [eq_iff_iff, iff_false]; decide +kernel
@[simp] theorem fb82 : (Str.ofString "unpin" == Str.ofString "rules") = false := by decide +kernel
@[simp] theorem fn83 : (Str.ofString "unpin" = Str.ofString "nights") = False := by simp only [eq_iff_iff, iff_false]; decide +kernel
@[simp] theorem fb83 : (Str.ofString "unpin" == Str.ofString "nights") = false := by decide +kernel
@[simp] theorem fn84 : (Str.ofString "unpin" = Str.ofString "pinned") = False := by simp only [eq_iff_iff, iff_false]; decide +kernel
@[simp] theorem fb84 : (Str.ofString "unpin" == Str.ofString "pinned") = false := by decide +kernel
@[simp] theorem fn85 : (Str.ofString "unpin" = Str.ofString "last") = False := by simp only [eq_iff_iff, iff_false]; decide +kernel
@[simp] theorem fb85 : (Str.ofString "unpin" == Str.ofString "last") = false := by decide +kernel
@[simp] theorem fn86 : (Str.ofString "unpin" = Str.ofString "longest") = False := by simp only [eq_iff_iff, iff_false]; decide +kernel
@[simp] theorem fb86 : (Str.ofString "unpin" == Str.ofString "longest") = false := by decide +kernel
@[simp] theorem fn87 : (Str.ofString "unpin" = Str.ofString "wholes") = False := by simp only [eq_iff_iff, iff_false]; decide +kernel
@[simp] theorem fb87 : (Str.ofString "unpin" == Str.ofString "wholes") = false := by decide +kernel
@[simp] theorem fn88 : (Str.ofString "unpin" = Str.ofString "shelf") = False := by simp only [eq_iff_iff, iff_false]; decide +kernel
@[simp] theorem fb88 : (Str.ofString "unpin" == Str.ofString "shelf") = false := by decide +kernel
@[simp] theorem fn89 : (Str.ofString "held" = Str.ofString "table") = False := by simp only [eq_iff_iff, iff_false]; decide +kernel
@[simp] theorem fb89 : (Str.ofString "held" == Str.ofString "table") = false := by decide +kernel
@[simp] theorem fn90 : (Str.ofString "held" = Str.ofString "rules") = False := by simp only [eq_iff_iff, iff_false]; decide +kernel
@[simp] theorem fb90 : (Str.ofString "held" == Str.ofString "rules") = false := by decide +kernel
@[simp] theorem fn91 : (Str.ofString "held" = Str.ofString "nights") = False := by simp only [eq_iff_iff, iff_false]; decide +kernel
@[simp] theorem fb91 : (Str.ofString "held" == Str.ofString "nights") = false := by decide +kernel
@[simp] theorem fn92 : (Str.ofString "held" = Str.ofString "pinned") = False := by simp only [eq_iff_iff, iff_false]; decide +kernel
@[simp] theorem fb92 : (Str.ofString "held" == Str.ofString "pinned") = false := by decide +kernel
@[simp] theorem fn93 : (Str.ofString "held" = Str.ofString "last") = False := by simp only [eq_iff_iff, iff_false]; decide +kernel
@[simp] theorem fb93 : (Str.ofString "held" == Str.ofString "last") = false := by decide +kernel
@[simp] theorem fn94 : (Str.ofString "held" = Str.ofString "longest") = False := by simp only [eq_iff_iff, iff_false]; decide +kernel
@[simp] theorem fb94 : (Str.ofString "held" == Str.ofString "longest") = false := by decide +kernel
@[simp] theorem fn95 : (Str.ofString "held" = Str.ofString "wholes") = False := by simp only [eq_iff_iff, iff_false]; decide +kernel
@[simp] theorem fb95 : (Str.ofString "held" == Str.ofString "wholes") = false := by decide +kernel
@[simp] theorem fn96 : (Str.ofString "held" = Str.ofString "shelf") = False := by simp only [eq_iff_iff, iff_false]; decide +kernel
@[simp] theorem fb96 : (Str.ofString "held" == Str.ofString "shelf") = false := by decide +kernel
@[simp] theorem fn97 : (Str.ofString "pins" = Str.ofString "table") = False := by simp only [eq_iff_iff, iff_false]; decide +kernel
@[simp] theorem fb97 : (Str.ofString "pins" == Str.ofString "table") = false := by decide +kernel
@[simp] theorem fn98 : (Str.ofString "pins" = Str.ofString "rules") = False := by simp only [eq_iff_iff, iff_false]; decide +kernel
@[simp] theorem fb98 : (Str.ofString "pins" == Str.ofString "rules") = false := by decide +kernel
@[simp] theorem fn99 : (Str.ofString "pins" = Str.ofString "nights") = False := by simp only [eq_iff_iff, iff_false]; decide +kernel
@[simp] theorem fb99 : (Str.ofString "pins" == Str.ofString "nights") = false := by decide +kernel
@[simp] theorem fn100 : (Str.ofString "pins" = Str.ofString "pinned") = False := by simp only [eq_iff_iff, iff_false]; decide +kernel
@[simp] theorem fb100 : (Str.ofString "pins" == Str.ofString "pinned") = false := by decide +kernel
@[simp] theorem fn101 : (Str.ofString "pins" = Str.ofString "last") = False := by simp only [eq_iff_iff, iff_false]; decide +kernel
@[simp] theorem fb101 : (Str.ofString "pins" == Str.ofString "last") = false := by decide +kernel
@[simp] theorem fn102 : (Str.ofString "pins" = Str.ofString "longest") = False := by simp only [eq_iff_iff, iff_false]; decide +kernel
@[simp] theorem fb102 : (Str.ofString "pins" == Str.ofString "longest") = false := by decide +kernel
@[simp] theorem fn103 : (Str.ofString "pins" = Str.ofString "wholes") = False := by simp only [eq_iff_iff, iff_false]; decide +kernel
@[simp] theorem fb103 : (Str.ofString "pins" == Str.ofString "wholes") = false := by decide +kernel
@[simp] theorem fn104 : (Str.ofString "pins" = Str.ofString "shelf") = False := by simp only [eq_iff_iff, iff_false]; decide +kernel
@[simp] theorem fb104 : (Str.ofString "pins" == Str.ofString "shelf") = false := by decide +kernel
@[simp] theorem fn105 : (Str.ofString "stays" = Str.ofString "table") = False := by simp only [eq_iff_iff, iff_false]; decide +kernel
@[simp] theorem fb105 : (Str.ofString "stays" == Str.ofString "table") = false := by decide +kernel
@[simp] theorem fn106 : (Str.ofString "stays" = Str.ofString "rules") = False := by simp only [eq_iff_iff, iff_false]; decide +kernel
@[simp] theorem fb106 : (Str.ofString "stays" == Str.ofString "rules") = false := by decide +kernel
@[simp] theorem fn107 : (Str.ofString "stays" = Str.ofString "nights") = False := by simp only [eq_iff_iff, iff_false]; decide +kernel
@[simp] theorem fb107 : (Str.ofString "stays" == Str.ofString "nights") = false := by decide +kernel
@[simp] theorem fn108 : (Str.ofString "stays" = Str.ofString "pinned") = False := by simp only [eq_iff_iff, iff_false]; decide +kernel
@[simp] theorem fb108 : (Str.ofString "stays" == Str.ofString "pinned") = false := by decide +kernel
@[simp] theorem fn109 : (Str.ofString "stays" = Str.ofString "last") = False := by simp only [eq_iff_iff, iff_false]; decide +kernel
@[simp] theorem fb109 : (Str.ofString "stays" == Str.ofString "last") = false := by decide +kernel
@[simp] theorem fn110 : (Str.ofString "stays" = Str.ofString "longest") = False := by simp only [eq_iff_iff, iff_false]; decide +kernel
@[simp] theorem fb110 : (Str.ofString "stays" == Str.ofString "longest") = false := by decide +kernel
@[simp] theorem fn111 : (Str.ofString "stays" = Str.ofString "wholes") = False := by simp only [eq_iff_iff, iff_false]; decide +kernel
@[simp] theorem fb111 : (Str.ofString "stays" == Str.ofString "wholes") = false := by decide +kernel
@[simp] theorem fn112 : (Str.ofString "stays" = Str.ofString "shelf") = False := by simp only [eq_iff_iff, iff_false]; decide +kernel
@[simp] theorem fb112 : (Str.ofString "stays" == Str.ofString "shelf") = false := by decide +kernel
@[simp] theorem fn113 : (Str.ofString "ahead" = Str.ofString "table") = False := by simp only [eq_iff_iff, iff_false]; decide +kernel
@[simp] theorem fb113 : (Str.ofString "ahead" == Str.ofString "table") = false := by decide +kernel
@[simp] theorem fn114 : (Str.ofString "ahead" = Str.ofString "rules") = False := by simp only [eq_iff_iff, iff_false]; decide +kernel
@[simp] theorem fb114 : (Str.ofString "ahead" == Str.ofString "rules") = false := by decide +kernel
@[simp] theorem fn115 : (Str.ofString "ahead" = Str.ofString "nights") = False := by simp only [eq_iff_iff, iff_false]; decide +kernel
@[simp] theorem fb115 : (Str.ofString "ahead" == Str.ofString "nights") = false := by decide +kernel
@[simp] theorem fn116 : (Str.ofString "ahead" = Str.ofString "pinned") = False := by simp only [eq_iff_iff, iff_false]; decide +kernel
@[simp] theorem fb116 : (Str.ofString "ahead" == Str.ofString "pinned") = false := by decide +kernel
@[simp] theorem fn117 : (Str.ofString "ahead" = Str.ofString "last") = False := by simp only [eq_iff_iff, iff_false]; decide +kernel
@[simp] theorem fb117 : (Str.ofString "ahead" == Str.ofString "last") = false := by decide +kernel
@[simp] theorem fn118 : (Str.ofString "ahead" = Str.ofString "longest") = False := by simp only [eq_iff_iff, iff_false]; decide +kernel
@[simp] theorem fb118 : (Str.ofString "ahead" == Str.ofString "longest") = false := by decide +kernel
@[simp] theorem fn119 : (Str.ofString "ahead" = Str.ofString "wholes") = False := by simp only [eq_iff_iff, iff_false]; decide +kernel
@[simp] theorem fb119 : (Str.ofString "ahead" == Str.ofString "wholes") = false := by decide +kernel
@[simp] theorem fn120 : (Str.ofString "ahead" = Str.ofString "shelf") = False := by simp only [eq_iff_iff, iff_false]; decide +kernel
@[simp] theorem fb120 : (Str.ofString "ahead" == Str.ofString "shelf") = false := by decide +kernel
@[simp] theorem fn121 : (Str.ofString "__len__" = Str.ofString "table") = False := by simp only [eq_iff_iff, iff_false]; decide +kernel
@[simp] theorem fb121 : (Str.ofString "__len__" == Str.ofString "table") = false := by decide +kernel
@[simp] theorem fn122 : (Str.ofString "__len__" = Str.ofString "rules") = False := by simp only [eq_iff_iff, iff_false]; decide +kernel
@[simp] theorem fb122 : (Str.ofString "__len__" == Str.ofString "rules") = false := by decide +kernel
@[simp] theorem fn123 : (Str.ofString "__len__" = Str.ofString "nights") = False := by simp only [eq_iff_iff, iff_false]; decide +kernel
@[simp] theorem fb123 : (Str.ofString "__len__" == Str.ofString "nights") = false := by decide +kernel
@[simp] theorem fn124 : (Str.ofString "__len__" = Str.ofString "pinned") = False := by simp only [eq_iff_iff, iff_false]; decide +kernel
@[simp] theorem fb124 : (Str.ofString "__len__" == Str.ofString "pinned") = false := by decide +kernel
@[simp] theorem fn125 : (Str.ofString "__len__" = Str.ofString "last") = False := by simp only [eq_iff_iff, iff_false]; decide +kernel
@[simp] theorem fb125 : (Str.ofString "__len__" == Str.ofString "last") = false := by decide +kernel
@[simp] theorem fn126 : (Str.ofString "__len__" = Str.ofString "longest") = False := by simp only [eq_iff_iff, iff_false]; decide +kernel
@[simp] theorem fb126 : (Str.ofString "__len__" == Str.ofString "longest") = false := by decide +kernel
@[simp] theorem fn127 : (Str.ofString "__len__" = Str.ofString "wholes") = False := by simp only [eq_iff_iff, iff_false]; decide +kernel
@[simp] theorem fb127 : (Str.ofString "__len__" == Str.ofString "wholes") = false := by decide +kernel
@[simp] theorem fn128 : (Str.ofString "__len__" = Str.ofString "shelf") = False := by simp only [eq_iff_iff, iff_false]; decide +kernel
@[simp] theorem fb128 : (Str.ofString "__len__" == Str.ofString "shelf") = false := by decide +kernel
@[simp] theorem fn129 : (Str.ofString "State" = Str.ofString "Keep") = False := by simp only [eq_iff_iff, iff_false]; decide +kernel
@[simp] theorem fb129 : (Str.ofString "State" == Str.ofString "Keep") = false := by decide +kernel
@[simp] theorem fn130 : (Str.ofString "State" = Str.ofString "Store") = False := by simp only [eq_iff_iff, iff_false]; decide +kernel
@[simp] theorem fb130 : (Str.ofString "State" == Str.ofString "Store") = false := by decide +kernel
@[simp] theorem fn131 : (Str.ofString "Keep" = Str.ofString "State") = False := by simp only [eq_iff_iff, iff_false]; decide +kernel
@[simp] theorem fb131 : (Str.ofString "Keep" == Str.ofString "State") = false := by decide +kernel
@[simp] theorem fn132 : (Str.ofString "Keep" = Str.ofString "Store") = False := by simp only [eq_iff_iff, iff_false]; decide +kernel
@[simp] theorem fb132 : (Str.ofString "Keep" == Str.ofString "Store") = false := by decide +kernel
@[simp] theorem fn133 : (Str.ofString "Store" = Str.ofString "State") = False := by simp only [eq_iff_iff, iff_false]; decide +kernel
@[simp] theorem fb133 : (Str.ofString "Store" == Str.ofString "State") = false := by decide +kernel
@[simp] theorem fn134 : (Str.ofString "Store" = Str.ofString "Keep") = False := by simp only [eq_iff_iff, iff_false]; decide +kernel
@[simp] theorem fb134 : (Str.ofString "Store" == Str.ofString "Keep") = false := by decide +kernel
@[simp] theorem ca_State : Str.ofString "State" ∈ clsAll := by decide +kernel
@[simp] theorem ca_Keep : Str.ofString "Keep" ∈ clsAll := by decide +kernel
@[simp] theorem ca_Store : Str.ofString "Store" ∈ clsAll := by decide +kernel
@[simp] theorem fa_table : Str.ofString "table" ∈ fldAll := by decide +kernel
@[simp] theorem fa_rules : Str.ofString "rules" ∈ fldAll := by decide +kernel
@[simp] theorem fa_nights : Str.ofString "nights" ∈ fldAll := by decide +kernel
@[simp] theorem fa_pinned : Str.ofString "pinned" ∈ fldAll := by decide +kernel
@[simp] theorem fa_last : Str.ofString "last" ∈ fldAll := by decide +kernel
@[simp] theorem fa_longest : Str.ofString "longest" ∈ fldAll := by decide +kernel
@[simp] theorem fa_wholes : Str.ofString "wholes" ∈ fldAll := by decide +kernel
@[simp] theorem fa_shelf : Str.ofString "shelf" ∈ fldAll := by decide +kernel
@[simp] theorem fz_nil : frzEnv [] = [] := rfl
@[simp] theorem fz_cons (c : Cell) (e : NK.Env) : frzEnv (c :: e) = frzC c :: frzEnv e := rfl
@[simp] theorem fz_no : frzC .no = .no := rfl
@[simp] theorem fz_sh (d : D) : frzC (.sh d) = .sh d := rfl
@[simp] theorem fz_ow (d : D) : frzC (.ow d) = .sh d := rfl
@[simp] theorem fz_io (d : D) : frzC (.io d) = .sh d := rfl
@[simp] theorem fz_ro (d : D) : frzC (.ro d) = .sh d := rfl
@[simp] theorem fz_al (s k : Nat) : frzC (.al s k) = .no := rfl
theorem thaw_ints (l : List Int) : thawBs (l.map .int) = true := by
  induction l with
  | nil => rfl
  | cons a l ih => simp [thawBs, thawB, ih]
end NK

set_option Elab.async false
set_option linter.all false
set_option maxRecDepth 100000
set_option maxHeartbeats 4000000
namespace NK
open PySem PySem.Spec PyProof.Rows L2
/-- a keep: rules, held, pinned, the last night taken -/
abbrev lastD : Option Int → D
  | none => .non
  | some i => .int i
abbrev keepD (us : List Rule) (N P : List Int) (l : Option Int) : D := .ob "Keep" [("rules", .tup (us.map ruleD)), ("nights", .mu (.lst (N.map .int))), ("pinned", .mu (.lst (P.map .int))), ("last", lastD l)]
theorem keep_init_ok (us : List Rule) (g : ∀ u ∈ us, GoodU u) (h1 : 1 ≤ us.length) (h2 : us.length ≤ 5) : F_Keep_init [.io (.ob "Keep" []), .sh (.tup (us.map ruleD))] = some (.val (false, .non) [.io (keepD us [] [] none), .no]) := by
  have e := look_rules_ok2 us g h1 h2
  simp [F_Keep_init, m_Keep_init, e, List.lookup_cons, fldS, fldNS, viewO, putO, fldOk, putFD, D.isMu, Cell.own, Cell.put]

def elder (n : Int) : Option Int → Bool
  | none => false
  | some m => decide (n ≤ m)
/-- what take refuses of a night -/
theorem look_taken_ok (us : List Rule) (N P : List Int) (l : Option Int) (n : Int) (hn : 0 ≤ n ∧ n ≤ 1000000000) : F_look_taken [.sh (keepD us N P l), .sh (.int n)] =
    if elder n l = true then some (.exc { nm := "Elder", pay := some ("last", lastD l) } [.no, .no]) else if 100 ≤ N.length then some (.exc { nm := "Full" } [.no, .no]) else some (.val (false, .non) [.no, .no]) := by
  have e := look_night_ok hn
  cases l with
  | none =>
    by_cases h : 100 ≤ N.length
    · have h' : (100 : Int) ≤ N.length := by omega
      simp [F_look_taken, m_look_taken, e, fldM, fldD, List.lookup_cons, unmu, elder, isNonB, h, h']
    · have h' : ¬ (100 : Int) ≤ N.length := by omega
      simp [F_look_taken, m_look_taken, e, fldM, fldD, List.lookup_cons, unmu, elder, isNonB, h, h']
  | some m =>
    by_cases hm : n ≤ m
    · simp [F_look_taken, m_look_taken, e, fldM, fldD, List.lookup_cons, unmu, elder, isNonB, hm, raiseP]
    · by_cases h : 100 ≤ N.length
      · have h' : (100 : Int) ≤ N.length := by omega
        simp [F_look_taken, m_look_taken, e, fldM, fldD, List.lookup_cons, unmu, elder, isNonB, h, h', hm]
      · have h' : ¬ (100 : Int) ≤ N.length := by omega
        simp [F_look_taken, m_look_taken, e, fldM, fldD, List.lookup_cons, unmu, elder, isNonB, h, h', hm]
theorem take_ok (us : List Rule) (N P : List Int) (l : Option Int) (n : Int) (hn : 0 ≤ n ∧ n ≤ 1000000000) : F_Keep_take [.io (keepD us N P l), .sh (.int n)] =
    if elder n l = true then some (.exc { nm := "Elder", pay := some ("last", lastD l) } [.io (keepD us N P l), .no]) else if 100 ≤ N.length then some (.exc { nm := "Full" } [.io (keepD us N P l), .no]) else some (.val (false, .non) [.io (keepD us (N ++ [n]) P (some n)), .no]) := by
  have e := look_taken_ok us N P l n hn
  by_cases h1 : elder n l = true
  · rw [if_pos h1] at e ⊢
    cases l with
    | none => cases h1
    | some m => simp [F_Keep_take, m_Keep_take, frzM, e, thawX, thawB]
  · rw [if_neg h1] at e ⊢
    by_cases h2 : 100 ≤ N.length
    · rw [if_pos h2] at e ⊢
      simp [F_Keep_take, m_Keep_take, frzM, e, thawX, thawB]
    · rw [if_neg h2] at e ⊢
      have h3 : N.length < 1000000 := by omega
      simp [F_Keep_take, m_Keep_take, frzM, e, thawX, thawB, appFM, viewFL, viewO, putO, putFD, fldS, fldOk, List.lookup_cons, h3, D.isMu, Cell.own, Cell.put]
end NK

set_option Elab.async false
set_option linter.all false
set_option maxRecDepth 100000
set_option maxHeartbeats 2000000
namespace NK
open PySem PySem.Spec PyProof.Rows L2
mutual
theorem eqv_refl : ∀ d : D, clay d = true → eqv d d = true
  | .non, _ => rfl
  | .bl b, _ => by simp [eqv]
  | .int i, _ => by simp [eqv]
  | .str s, _ => by simp [eqv]
  | .lst xs, h => by simp only [eqv]; exact eqvs_refl xs (by simpa [clay] using h)
  | .fl xs, h => by simp only [eqv]; exact eqvs_refl xs (by simpa [clay] using h)
  | .tup xs, h => by simp only [eqv]; exact eqvs_refl xs (by simpa [clay] using h)
  | .dk _, h => by simp [clay] at h
  | .ob _ _, h => by simp [clay] at h
  | .ty _, h => by simp [clay] at h
  | .cl _, h => by simp [clay] at h
  | .ex _ _, h => by simp [clay] at h
  | .mu _, h => by simp [clay] at h
  | .ml _, h => by simp [clay] at h
theorem eqvs_refl : ∀ ds : List D, clays ds = true → eqvs ds ds = true
  | [], _ => rfl
  | d :: ds, h => by
    simp [clays] at h
    simp only [eqvs, Bool.and_eq_true]
    exact ⟨eqv_refl d h.1, eqvs_refl ds h.2⟩
end
theorem fit_clay {d : D} (h : fit d = true) : clay d = true := by
  unfold fit at h
  simp at h
  exact h.1
theorem eqDB_refl {d : D} (h : fit d = true) : eqDB d d = some true := by rw [eqDB_of h h, eqv_refl d (fit_clay h)]
@[simp] theorem eqDB_tnil (l : List Int) : eqDB (.tup (l.map .int)) (.tup []) = some l.isEmpty := by rw [eqDB_of (by simp) (by simp)]; simp [eqv]
def numU (k : Int) : List Rule → List (Int × Rule)
  | [] => []
  | u :: us => (k, u) :: numU (k + 1) us
theorem enum_num (f : Rule → D) : ∀ (us : List Rule) (k : Int), enumL k (us.map f) = (numU k us).map fun p => .tup [.int p.1, f p.2]
  | [], k => rfl
  | u :: us, k => by
    show D.tup [.int k, f u] :: enumL (k + 1) (us.map f) = _
    rw [enum_num f us (k + 1)]; rfl
theorem num_at : ∀ (us : List Rule) (k : Int) (p : Int × Rule), p ∈ numU k us → ∃ i : Nat, p.1 = k + i ∧ us[i]? = some p.2
  | [], k, p, h => by cases h
  | u :: us, k, p, h => by
    rcases List.mem_cons.mp h with e | h
    · subst e; exact ⟨0, by simp, rfl⟩
    · obtain ⟨i, h1, h2⟩ := num_at us (k + 1) p h
      exact ⟨i + 1, by rw [h1]; omega, by simpa using h2⟩
theorem rng_num : ∀ (us : List Rule) (k : Int), ((List.range us.length).map fun (i : Nat) => D.int (k + (i : Int))) = (numU k us).map fun p => .int p.1
  | [], k => rfl
  | u :: us, k => by
    rw [List.length_cons, List.range_succ_eq_map, List.map_cons, List.map_map]
    show _ :: _ = D.int k :: (numU (k + 1) us).map _
    rw [← rng_num us (k + 1)]
    congr 1
    · congr 1; simp
    · congr 1; funext i; simp; omega
theorem num_any (c : Rule → Bool) : ∀ (us : List Rule) (k : Int), (numU k us).any (fun p => c p.2) = us.any c
  | [], k => rfl
  | u :: us, k => by show (c u || _) = (c u || _); rw [num_any c us (k + 1)]
/-- the numbers of the rules that keep a night -/
def whoU (us : List Rule) (l : List Int) (n : Int) : List Int := ((numU 0 us).filter fun p => decide (n ∈ keepU p.2 l)).map (·.1)
abbrev whyD (us : List Rule) (l : List Int) (n : Int) : D := .tup [.int n, .tup ((whoU us l n).map .int)]
theorem num_len : ∀ (us : List Rule) (k : Int), (numU k us).length = us.length
  | [], k => rfl
  | u :: us, k => by show (numU (k + 1) us).length + 1 = us.length + 1; rw [num_len us (k + 1)]
theorem whoU_len (us : List Rule) (l : List Int) (n : Int) : (whoU us l n).length ≤ us.length := by
  unfold whoU
  rw [List.length_map]
  exact Nat.le_trans (List.length_filter_le _ _) (by rw [num_len]; omega)
theorem whoU_some (us : List Rule) (l : List Int) (n : Int) : (!(whoU us l n).isEmpty) = us.any fun u => decide (n ∈ keepU u l) := by
  rw [← num_any (fun u => decide (n ∈ keepU u l)) us 0, Bool.eq_iff_iff]
  simp [whoU, List.filter_eq_nil_iff]
theorem fit_why (us : List Rule) (l m : List Int) : fit (.lst (m.map (whyD us l))) = true := by
  refine fit_lst (clays_map (fun n => by simp [clay, clays]) m) ?_
  refine Nat.le_trans (deps_map (n := 3) (fun n => ?_) m) (by decide)
  have := deps_int (whoU us l n)
  simp only [dep, deps]; omega
theorem reasons_ok (us : List Rule) (l : List Int) (g : ∀ u ∈ us, GoodU u) (h1 : 1 ≤ us.length) (h2 : us.length ≤ 5) (h : l.Pairwise (· < ·)) (hl : l.length ≤ 100) (hr : ∀ n ∈ l, 0 ≤ n ∧ n ≤ 1000000000) :
    F_reasons [.sh (.tup (us.map ruleD)), .sh (.lst (l.map .int))] = some (.val (false, .lst (l.map (whyD us l))) [.no, .no]) := by
  have hz : us.length ≤ 1000000 := by omega
  have hz2 : l.length ≤ 1000000 := by omega
  have e1 := lcL_pure (t := setT 3) (p := yesM) (f := c1_reasons) (vs := [3]) (emb := ruleD) (y := fun u => .lst ((keepU u l).reverse.map .int)) (e := [.sh (.tup (us.map ruleD)), .sh (.lst (l.map .int)), .no, .no, .no, .no, .no]) (xs := us)
    (fun u hu => ⟨_, [.sh (.tup (us.map ruleD)), .sh (.lst (l.map .int)), .no, .sh (ruleD u), .no, .no, .no], rfl, rfl, by simp [c1_reasons, kept_by_ok (g u hu) l (by omega), -List.map_reverse], rfl⟩)
  have e2 : ∀ n x3, lcL (tupT 2 (consT (setT 4) (consT (setT 5) nilT))) p2_reasons c3_reasons [4, 5] ((numU 0 us).map fun p => .tup [.int p.1, .lst ((keepU p.2 l).reverse.map .int)]) [.sh (.tup (us.map ruleD)), .sh (.lst (l.map .int)), .sh (.lst (us.map fun u => .lst ((keepU u l).reverse.map .int))), x3, .no, .no, .sh (.int n)] =
      some (((numU 0 us).filter fun p => decide (n ∈ keepU p.2 l)).map fun p => .int p.1, [.sh (.tup (us.map ruleD)), .sh (.lst (l.map .int)), .sh (.lst (us.map fun u => .lst ((keepU u l).reverse.map .int))), x3, .no, .no, .sh (.int n)]) := fun n x3 =>
    lcL_filter (emb := fun p : Int × Rule => D.tup [.int p.1, .lst ((keepU p.2 l).reverse.map .int)]) (y := fun p => .int p.1) (c := fun p => decide (n ∈ keepU p.2 l)) (xs := numU 0 us)
      (fun p hp => ⟨[.sh (.tup (us.map ruleD)), .sh (.lst (l.map .int)), .sh (.lst (us.map fun u => .lst ((keepU u l).reverse.map .int))), x3, .sh (.int p.1), .sh (.lst ((keepU p.2 l).reverse.map .int)), .sh (.int n)], [.sh (.tup (us.map ruleD)), .sh (.lst (l.map .int)), .sh (.lst (us.map fun u => .lst ((keepU u l).reverse.map .int))), x3, .sh (.int p.1), .sh (.lst ((keepU p.2 l).reverse.map .int)), .sh (.int n)], by simp, by simp [p2_reasons, -List.map_reverse], fun _ => rfl, fun _ => ⟨_, rfl, rfl⟩⟩)
  have e3 := lcL_pure (t := setT 6) (p := yesM) (f := c4_reasons) (vs := [6]) (emb := D.int) (y := whyD us l) (e := [.sh (.tup (us.map ruleD)), .sh (.lst (l.map .int)), .sh (.lst (us.map fun u => .lst ((keepU u l).reverse.map .int))), .no, .no, .no, .no]) (xs := l)
    (fun n hn => ⟨[.sh (.tup (us.map ruleD)), .sh (.lst (l.map .int)), .sh (.lst (us.map fun u => .lst ((keepU u l).reverse.map .int))), .no, .no, .no, .sh (.int n)], [.sh (.tup (us.map ruleD)), .sh (.lst (l.map .int)), .sh (.lst (us.map fun u => .lst ((keepU u l).reverse.map .int))), .no, .no, .no, .sh (.int n)], rfl, rfl, by
      have ee : enumD [.lst (us.map fun u => .lst ((keepU u l).reverse.map .int))] = some ((numU 0 us).map fun p => .tup [.int p.1, .lst ((keepU p.2 l).reverse.map .int)]) := by
        show some (enumL 0 _) = _
        rw [enum_num]
      have hz3 : (numU 0 us).length ≤ 1000000 := by rw [num_len]; exact hz
      simp [c4_reasons, ee, e2, hz3, -List.map_reverse, whoU], rfl⟩)
  simp [F_reasons, m_reasons, look_rules_ok2 us g h1 h2, look_nights_ok l h hl hr, hz, hz2, e1, e3, -List.map_map, -List.map_reverse]
end NK

set_option Elab.async false
set_option linter.all false
set_option maxRecDepth 100000
set_option maxHeartbeats 2000000
namespace NK
open PySem PySem.Spec PyProof.Rows L2
theorem keepU_rev (u : Rule) (l : List Int) : (keepU u l).reverse = (endsR (numberOf u.1) none l.reverse).take u.2.toNat := by
  rw [endsR_rev, take_rev]; rfl
/-- what is not among the first that are kept may go -/
theorem endsR_cut (num : Int → Int) {r' r : List Int} (h : r'.Sublist r) : ∀ (p : Option Int) (m : Nat), r.Nodup → (∀ x ∈ (endsR num p r).take m, x ∈ r') → (endsR num p r').take m = (endsR num p r).take m := by
  induction h with
  | slnil => intro p m _ _; rfl
  | @cons r' s n h ih =>
    intro p m nd k
    have nd' := List.nodup_cons.mp nd
    by_cases e : some (num n) = p
    · have e1 : endsR num p (n :: s) = endsR num p s := by simp [endsR, e]
      rw [e1] at k ⊢
      exact ih p m nd'.2 k
    · have e1 : endsR num p (n :: s) = n :: endsR num (some (num n)) s := by simp [endsR, e]
      rw [e1] at k ⊢
      cases m with
      | zero => simp
      | succ m => exact absurd (h.subset (k n (by simp))) nd'.1
  | @cons_cons r' s n h ih =>
    intro p m nd k
    have nd' := List.nodup_cons.mp nd
    have sub : ∀ p m, ∀ x ∈ (endsR num p s).take m, x ∈ n :: r' → x ∈ r' := fun p m x hx hm => by
      rcases List.mem_cons.mp hm with e | hm
      · subst e
        have : ∀ (q : Option Int) (t : List Int), ∀ y ∈ endsR num q t, y ∈ t := by
          intro q t
          induction t generalizing q with
          | nil => intro y hy; simp [endsR] at hy
          | cons z t ih2 =>
            intro y hy
            by_cases e : some (num z) = q
            · simp only [endsR, e, if_true] at hy; exact List.mem_cons_of_mem _ (ih2 _ y hy)
            · simp only [endsR, e, if_false] at hy
              rcases List.mem_cons.mp hy with e | hy
              · subst e; simp
              · exact List.mem_cons_of_mem _ (ih2 _ y hy)
        exact absurd (this _ _ _ (List.mem_of_mem_take hx)) nd'.1
      · exact hm
    by_cases e : some (num n) = p
    · have e1 : ∀ t, endsR num p (n :: t) = endsR num p t := fun t => by simp [endsR, e]
      rw [e1] at k
      rw [e1, e1]
      exact ih p m nd'.2 fun x hx => sub p m x hx (k x hx)
    · have e1 : ∀ t, endsR num p (n :: t) = n :: endsR num (some (num n)) t := fun t => by simp [endsR, e]
      rw [e1] at k
      rw [e1, e1]
      cases m with
      | zero => simp
      | succ m =>
        rw [List.take_succ_cons, List.take_succ_cons]
        congr 1
        exact ih _ m nd'.2 fun x hx => sub _ m x hx (k x (by rw [List.take_succ_cons]; exact List.mem_cons_of_mem _ hx))
abbrev Rising (l : List Int) : Prop := l.Pairwise (· < ·)
theorem Rising.nodup {l : List Int} (h : Rising l) : l.Nodup := h.imp fun h => Int.ne_of_lt h
theorem keepU_cut (u : Rule) {l' l : List Int} (h : l'.Sublist l) (r : Rising l) (k : ∀ x ∈ keepU u l, x ∈ l') : keepU u l' = keepU u l := by
  have := endsR_cut (numberOf u.1) (List.reverse_sublist.mpr h) none u.2.toNat (by rw [List.Nodup, List.pairwise_reverse]; exact r.imp fun h => (Int.ne_of_lt h).symm) (fun x hx => by
    rw [← keepU_rev, List.mem_reverse] at hx
    exact List.mem_reverse.mpr (k x hx))
  rw [← keepU_rev, ← keepU_rev] at this
  exact List.reverse_inj.mp this
theorem endsR_less (num : Int → Int) (c : Int) (m : Nat) : ∀ r : List Int, ∀ x ∈ (endsR num (some c) r).take m, x ∈ (endsR num none r).take (m + 1)
  | [], x, h => by simp [endsR] at h
  | n :: s, x, h => by
    have e0 : endsR num none (n :: s) = n :: endsR num (some (num n)) s := by simp [endsR]
    rw [e0, List.take_succ_cons]
    by_cases e : num n = c
    · have e1 : endsR num (some c) (n :: s) = endsR num (some c) s := by simp [endsR, e]
      rw [e1, ← e] at h
      exact List.mem_cons_of_mem _ h
    · have e1 : endsR num (some c) (n :: s) = n :: endsR num (some (num n)) s := by simp [endsR, e]
      rw [e1] at h
      cases m with
      | zero => simp at h
      | succ m =>
        rw [List.take_succ_cons] at h
        rcases List.mem_cons.mp h with e2 | h
        · subst e2; simp
        · refine List.mem_cons_of_mem _ ?_
          exact List.mem_of_mem_take (i := m) (by rw [List.take_take]; simpa using h)
theorem keepU_snoc (u : Rule) (g : 1 ≤ u.2) (l : List Int) (n : Int) : ∀ x ∈ keepU u (l ++ [n]), x ∈ keepU u l ∨ x = n := by
  intro x hx
  have hx' := List.mem_reverse.mpr hx
  rw [keepU_rev, List.reverse_append] at hx'
  obtain ⟨m, hm⟩ : ∃ m, u.2.toNat = m + 1 := ⟨u.2.toNat - 1, by omega⟩
  rw [hm] at hx'
  have e : endsR (numberOf u.1) none ([n].reverse ++ l.reverse) = n :: endsR (numberOf u.1) (some (numberOf u.1 n)) l.reverse := by simp [endsR]
  rw [e, List.take_succ_cons] at hx'
  rcases List.mem_cons.mp hx' with h | h
  · exact .inr h
  · left
    have := endsR_less _ _ m _ x h
    rw [← hm, ← keepU_rev, List.mem_reverse] at this
    exact this
theorem keepU_last (u : Rule) (g : 1 ≤ u.2) (l : List Int) (n : Int) : n ∈ keepU u (l ++ [n]) := by
  rw [← List.mem_reverse, keepU_rev, List.reverse_append]
  obtain ⟨m, hm⟩ : ∃ m, u.2.toNat = m + 1 := ⟨u.2.toNat - 1, by omega⟩
  rw [hm]
  have e : endsR (numberOf u.1) none ([n].reverse ++ l.reverse) = n :: endsR (numberOf u.1) (some (numberOf u.1 n)) l.reverse := by simp [endsR]
  rw [e, List.take_succ_cons]
  simp
theorem filter_cut (P : Int → Bool) {l' l : List Int} (h : l'.Sublist l) : l.Nodup → (∀ x ∈ l, P x = true → x ∈ l') → l'.filter P = l.filter P := by
  induction h with
  | slnil => intro _ _; rfl
  | @cons r' s n h ih =>
    intro nd k
    have nd' := List.nodup_cons.mp nd
    have : P n = false := by
      cases e : P n with
      | false => rfl
      | true => exact absurd (h.subset (k n (by simp) e)) nd'.1
    rw [List.filter_cons, this]
    exact ih nd'.2 fun x hx hp => k x (by simp [hx]) hp
  | @cons_cons r' s n h ih =>
    intro nd k
    have nd' := List.nodup_cons.mp nd
    rw [List.filter_cons, List.filter_cons, ih nd'.2 fun x hx hp => by
      rcases List.mem_cons.mp (k x (by simp [hx]) hp) with e | h
      · subst e; exact absurd hx nd'.1
      · exact h]
theorem keptU_cut (us : List Rule) {l' l : List Int} (h : l'.Sublist l) (r : Rising l) (k : ∀ u ∈ us, ∀ x ∈ keepU u l, x ∈ l') : keptU us l' = keptU us l := by
  have e : keptU us l' = l'.filter fun n => us.any fun u => decide (n ∈ keepU u l) := by
    unfold keptU
    congr 1
    funext n
    rw [Bool.eq_iff_iff]
    simp only [List.any_eq_true, decide_eq_true_eq]
    constructor
    · rintro ⟨u, hu, hx⟩; exact ⟨u, hu, by rw [← keepU_cut u h r (k u hu)]; exact hx⟩
    · rintro ⟨u, hu, hx⟩; exact ⟨u, hu, by rw [keepU_cut u h r (k u hu)]; exact hx⟩
  rw [e]
  refine filter_cut _ h r.nodup fun x hx hp => ?_
  simp only [List.any_eq_true, decide_eq_true_eq] at hp
  obtain ⟨u, hu, hx⟩ := hp
  exact k u hu x hx
theorem keptU_mem {us : List Rule} {l : List Int} {u : Rule} (hu : u ∈ us) {x : Int} (hx : x ∈ keepU u l) : x ∈ keptU us l := by
  simp only [keptU, List.mem_filter, List.any_eq_true, decide_eq_true_eq]
  exact ⟨(keepU_sub u l).subset hx, u, hu, hx⟩
theorem keptU_twice (us : List Rule) (l : List Int) (r : Rising l) : keptU us (keptU us l) = keptU us l :=
  keptU_cut us List.filter_sublist r fun u hu x hx => keptU_mem hu hx
theorem keepR_len (num : Int → Int) (m : Int) (l : List Int) : (keepR num m l).length ≤ m.toNat := by
  unfold keepR
  rw [List.length_drop]
  omega
theorem addI_len_in (x : Int) : ∀ (L ks : List Int), x ∈ ks → x ∈ L → (L.foldl addI ks).length + 1 ≤ ks.length + L.length
  | [], ks, h, k => by cases k
  | n :: L, ks, h, k => by
    rw [List.foldl_cons, List.length_cons]
    by_cases e : n = x
    · subst e
      have : addI ks n = ks := by unfold addI; rw [if_pos h]
      rw [this]
      have := foldl_addI_len L ks
      omega
    · have hx : x ∈ addI ks n := by unfold addI; split <;> simp [h]
      have hl : (addI ks n).length ≤ ks.length + 1 := by unfold addI; split <;> simp
      have := addI_len_in x L (addI ks n) hx (by rcases List.mem_cons.mp k with z | z; exact absurd z.symm e; exact z)
      omega
theorem keysU_len (l : List Int) (x : Int) : ∀ (us : List Rule) (ks : List Int), (∀ u ∈ us, GoodU u) → (∀ u ∈ us, x ∈ keepU u l) → x ∈ ks → ((keysU us l ks).length : Int) + us.length ≤ ks.length + (us.map (·.2)).sum
  | [], ks, g, h, k => by simp [keysU]
  | u :: us, ks, g, h, k => by
    have h1 := addI_len_in x (keepU u l).reverse ks k (by simpa using h u (by simp))
    have hx : x ∈ (keepU u l).reverse.foldl addI ks := (addI_mem _ _ _).mpr (.inl k)
    have h2 := keysU_len l x us ((keepU u l).reverse.foldl addI ks) (fun v hv => g v (by simp [hv])) (fun v hv => h v (by simp [hv])) hx
    have h3 : (keepU u l).length ≤ u.2.toNat := keepR_len (numberOf u.1) u.2 l
    have g1 := (g u (by simp)).m1
    show ((keysU us l ((keepU u l).reverse.foldl addI ks)).length : Int) + _ ≤ _
    rw [List.length_reverse] at h1
    simp only [List.length_cons, List.map_cons, List.sum_cons]
    omega
theorem keptU_len (us : List Rule) (l : List Int) (r : Rising l) (g : ∀ u ∈ us, GoodU u) (h1 : 1 ≤ us.length) (x : Int) (h : ∀ u ∈ us, x ∈ keepU u l) : ((keptU us l).length : Int) + us.length ≤ (us.map (·.2)).sum + 1 := by
  rw [keptU_eq us l r]
  have e : (sortI (keysU us l [])).length = (keysU us l []).length := (List.mergeSort_perm _ _).length_eq
  rw [e]
  cases us with
  | nil => simp at h1
  | cons u us =>
    have hx : x ∈ (keepU u l).reverse.foldl addI [] := (addI_mem _ _ _).mpr (.inr (by simpa using h u (by simp)))
    have h2 := keysU_len l x us ((keepU u l).reverse.foldl addI []) (fun v hv => g v (by simp [hv])) (fun v hv => h v (by simp [hv])) hx
    have h3 : (keepU u l).length ≤ u.2.toNat := keepR_len (numberOf u.1) u.2 l
    have h4 := foldl_addI_len (keepU u l).reverse []
    have g1 := (g u (by simp)).m1
    have e1 : keysU (u :: us) l [] = keysU us l ((keepU u l).reverse.foldl addI []) := rfl
    rw [e1]
    rw [List.length_reverse] at h4
    simp only [List.length_cons, List.map_cons, List.sum_cons, List.length_nil] at h4 ⊢
    omega
theorem keptU_last (us : List Rule) (h1 : 1 ≤ us.length) (g : ∀ u ∈ us, GoodU u) (l : List Int) (n : Int) : ∃ p, keptU us (l ++ [n]) = p ++ [n] := by
  refine ⟨l.filter fun x => us.any fun u => decide (x ∈ keepU u (l ++ [n])), ?_⟩
  unfold keptU
  rw [List.filter_append]
  congr 1
  have : (us.any fun u => decide (n ∈ keepU u (l ++ [n]))) = true := by
    cases us with
    | nil => simp at h1
    | cons u us =>
      have := keepU_last u (g u (by simp)).m1 l n
      simp [this]
  simp [this]
theorem cutL_last (xs : List D) (x : D) : cutL (xs ++ [x]) (some (-1)) none = [x] := by
  have e : HT.sIx (xs ++ [x]).length 0 (some (-1)) = xs.length := by
    simp only [HT.sIx]
    simp
    try omega
  have e2 : HT.sIx (xs ++ [x]).length (xs ++ [x]).length none = xs.length + 1 := by simp [HT.sIx]
  unfold cutL
  rw [e, e2]
  simp
theorem cutL_last0 : cutL [] (some (-1)) none = [] := by simp [cutL]
theorem spot_shift : ∀ (rs : List Int) (l f c : Int), spot rs l (f + c) = spot rs l f + c
  | [], l, f, c => rfl
  | r :: rs, l, f, c => by
    simp only [spot]
    split
    · rfl
    · rw [← spot_shift rs (l - r) (f + 1) c]; congr 1; omega
theorem numberOf_shift {rs : List Int} (g : GoodR rs) (n q : Int) : numberOf rs (n + q * rs.sum) = numberOf rs n + q * rs.length := by
  have hs := g.sum
  unfold numberOf
  rw [← spot_shift, Int.add_mul_emod_self_right, Int.add_mul_ediv_right _ _ (by omega), Int.add_mul]
theorem ends_shift (num : Int → Int) (f c : Int) (h : ∀ x, num (x + f) = num x + c) : ∀ l : List Int, ends num (l.map (· + f)) = (ends num l).map (· + f)
  | [] => rfl
  | [n] => rfl
  | n :: n' :: r => by
    have ih := ends_shift num f c h (n' :: r)
    show ends num ((n + f) :: (n' + f) :: r.map (· + f)) = _
    rw [ends_cons, ends_cons, h, h]
    by_cases e : num n' = num n
    · rw [if_pos (by omega), if_pos e]; exact ih
    · rw [if_neg (by omega), if_neg e, List.map_cons]; exact congrArg _ ih
theorem keepU_shift {u : Rule} (g : GoodU u) (l : List Int) (q : Int) : keepU u (l.map (· + q * u.1.sum)) = (keepU u l).map (· + q * u.1.sum) := by
  have e := ends_shift (numberOf u.1) (q * u.1.sum) (q * u.1.length) (fun x => numberOf_shift g.rounds x q) l
  show keepR _ _ _ = (keepR _ _ _).map _
  unfold keepR
  rw [e, List.length_map, List.map_drop]
theorem keptU_shift (us : List Rule) (g : ∀ u ∈ us, GoodU u) (l : List Int) (f : Int) (h : ∀ u ∈ us, ∃ q, f = q * u.1.sum) : keptU us (l.map (· + f)) = (keptU us l).map (· + f) := by
  unfold keptU
  rw [List.filter_map]
  congr 1
  apply List.filter_congr
  intro x hx
  rw [Bool.eq_iff_iff]
  simp only [Function.comp, List.any_eq_true, decide_eq_true_eq]
  constructor
  · rintro ⟨u, hu, hk⟩
    obtain ⟨q, e⟩ := h u hu
    rw [e, keepU_shift (g u hu)] at hk
    obtain ⟨y, hy, e2⟩ := List.mem_map.mp hk
    have : y = x := by omega
    exact ⟨u, hu, this ▸ hy⟩
  · rintro ⟨u, hu, hk⟩
    obtain ⟨q, e⟩ := h u hu
    refine ⟨u, hu, ?_⟩
    rw [e, keepU_shift (g u hu)]
    exact List.mem_map.mpr ⟨x, hk, rfl⟩
end NK

set_option Elab.async false
set_option linter.all false
set_option maxRecDepth 100000
set_option maxHeartbeats 2000000
namespace NK
open PySem PySem.Spec PyProof.Rows L2
/-! ### rounds, further -/
theorem at_exists : ∀ (rs : List Int) (l : Int), (∀ r ∈ rs, 1 ≤ r ∧ r ≤ 31) → 0 ≤ l → l < rs.sum → ∃ i : Nat, ∃ h : i < rs.length, (rs.take i).sum ≤ l ∧ l < (rs.take i).sum + rs[i]
  | [], l, _, h0, h => by simp at h; omega
  | r :: rs, l, g, h0, h => by
    by_cases hl : l < r
    · exact ⟨0, by simp, by simpa using h0, by simpa using hl⟩
    · simp at h
      obtain ⟨i, hi, a, b⟩ := at_exists rs (l - r) (fun x hx => g x (by simp [hx])) (by omega) (by omega)
      refine ⟨i + 1, by simpa using hi, ?_, ?_⟩
      · simp; omega
      · simp; omega
theorem round_at {rs : List Int} (g : GoodR rs) {n : Int} (h0 : 0 ≤ n) : ∃ i : Nat, ∃ h : i < rs.length, (numberOf rs n % rs.length).toNat = i ∧ firstOf rs (numberOf rs n) ≤ n ∧ n < firstOf rs (numberOf rs n) + rs[i] ∧ 0 ≤ numberOf rs n ∧ numberOf rs n ≤ n := by
  have hs := g.sum
  have hl := g.l1
  have z0 := Int.emod_nonneg n (show rs.sum ≠ 0 by omega)
  have z1 := Int.emod_lt_of_pos n (show (0 : Int) < rs.sum by omega)
  have z2 := Int.mul_ediv_add_emod n rs.sum
  have z3 : 0 ≤ n / rs.sum := Int.ediv_nonneg h0 (by omega)
  obtain ⟨i, hi, a, b⟩ := at_exists rs (n % rs.sum) g.all z0 z1
  have e := take_succ_sum rs i hi
  have hb := sum_bounds (rs.take i) fun x hx => g.all x (List.mem_of_mem_take hx)
  have sp : numberOf rs n = n / rs.sum * rs.length + i := spot_at rs i _ _ g.all hi a (by omega)
  have lt : (rs.take i).length = i := by simp; omega
  rw [lt] at hb
  have m1 : n / rs.sum * rs.length ≤ n / rs.sum * rs.sum := Int.mul_le_mul_of_nonneg_left (sum_bounds rs g.all).1 z3
  have m2 : 0 ≤ n / rs.sum * rs.length := Int.mul_nonneg z3 (by omega)
  rw [Int.mul_comm] at z2
  refine ⟨i, hi, ?_, ?_, ?_, ?_, ?_⟩
  · rw [sp, Int.add_comm, Int.add_mul_emod_self_right, Int.emod_eq_of_lt (by omega) (by omega)]; simp
  · rw [sp, firstOf_at rs _ i hi]; omega
  · rw [sp, firstOf_at rs _ i hi]; omega
  · omega
  · omega
/-- a night lies within its round -/
theorem num_at' {rs : List Int} (g : GoodR rs) {n : Int} (h0 : 0 ≤ n) : firstOf rs (numberOf rs n) ≤ n ∧ n < firstOf rs (numberOf rs n + 1) ∧ 0 ≤ numberOf rs n ∧ numberOf rs n ≤ n := by
  obtain ⟨i, hi, a, b, c, d, e⟩ := round_at g h0
  have := firstOf_succ g (numberOf rs n) a hi
  exact ⟨b, by omega, d, e⟩
theorem first_step {rs : List Int} (g : GoodR rs) {m : Int} (h0 : 0 ≤ m) : firstOf rs m + 1 ≤ firstOf rs (m + 1) ∧ firstOf rs (m + 1) ≤ firstOf rs m + 31 := by
  have h1 := g.l1
  have z0 : 0 ≤ m % (rs.length : Int) := Int.emod_nonneg _ (by omega)
  have z1 : m % (rs.length : Int) < rs.length := Int.emod_lt_of_pos _ (by omega)
  have hi : (m % (rs.length : Int)).toNat < rs.length := by omega
  have := firstOf_succ g m rfl hi
  have := g.all _ (List.getElem_mem hi)
  omega
theorem first_zero {rs : List Int} (g : GoodR rs) : firstOf rs 0 = 0 := by
  have := firstOf_top rs 0 (by have := g.l1; omega)
  simpa using this
theorem first_mono {rs : List Int} (g : GoodR rs) : ∀ (k : Nat) (m : Int), 0 ≤ m → firstOf rs m + k ≤ firstOf rs (m + k)
  | 0, m, h => by simp
  | k + 1, m, h => by
    have := first_mono g k m h
    have := (first_step g (m := m + k) (by omega)).1
    have e : m + ((k + 1 : Nat) : Int) = m + k + 1 := by omega
    rw [e]; omega
theorem first_lt {rs : List Int} (g : GoodR rs) {a b : Int} (h0 : 0 ≤ a) (h : a < b) : firstOf rs a < firstOf rs b := by
  have := first_mono g (b - a).toNat a h0
  have e : a + ((b - a).toNat : Int) = b := by omega
  rw [e] at this
  omega
/-- the number by the ends -/
theorem num_of {rs : List Int} (g : GoodR rs) {n m : Int} (h0 : 0 ≤ n) (hm : 0 ≤ m) (h1 : firstOf rs m ≤ n) (h2 : n < firstOf rs (m + 1)) : numberOf rs n = m := by
  obtain ⟨a, b, c, d⟩ := num_at' g h0
  rcases Int.lt_trichotomy (numberOf rs n) m with h | h | h
  · have : firstOf rs (numberOf rs n + 1) ≤ firstOf rs m := by
      rcases Int.lt_or_le (numberOf rs n + 1) m with h' | h'
      · exact Int.le_of_lt (first_lt g (by omega) h')
      · have : numberOf rs n + 1 = m := by omega
        rw [this]; exact Int.le_refl _
    omega
  · exact h
  · have : firstOf rs (m + 1) ≤ firstOf rs (numberOf rs n) := by
      rcases Int.lt_or_le (m + 1) (numberOf rs n) with h' | h'
      · exact Int.le_of_lt (first_lt g (by omega) h')
      · have : m + 1 = numberOf rs n := by omega
        rw [this]; exact Int.le_refl _
    omega
theorem num_succ {rs : List Int} (g : GoodR rs) {n : Int} (h0 : 0 ≤ n) : numberOf rs (n + 1) = numberOf rs n ∨ (numberOf rs (n + 1) = numberOf rs n + 1 ∧ n = firstOf rs (numberOf rs n + 1) - 1) := by
  obtain ⟨a, b, c, d⟩ := num_at' g h0
  by_cases h : n + 1 < firstOf rs (numberOf rs n + 1)
  · exact .inl (num_of g (by omega) c (by omega) h)
  · refine .inr ⟨num_of g (by omega) (by omega) (by omega) ?_, by omega⟩
    have := (first_step g (m := numberOf rs n + 1) (by omega)).1
    omega
theorem num_zero {rs : List Int} (g : GoodR rs) : numberOf rs 0 = 0 := by
  have := num_at' g (n := 0) (by omega)
  omega
theorem num_mono {rs : List Int} (g : GoodR rs) {a b : Int} (h0 : 0 ≤ a) (h : a ≤ b) : numberOf rs a ≤ numberOf rs b := by
  obtain ⟨a1, b1, c1, d1⟩ := num_at' g h0
  obtain ⟨a2, b2, c2, d2⟩ := num_at' g (n := b) (by omega)
  by_cases h' : numberOf rs a ≤ numberOf rs b
  · exact h'
  · have : firstOf rs (numberOf rs b + 1) ≤ firstOf rs (numberOf rs a) := by
      rcases Int.lt_or_le (numberOf rs b + 1) (numberOf rs a) with h' | h'
      · exact Int.le_of_lt (first_lt g (by omega) h')
      · have : numberOf rs b + 1 = numberOf rs a := by omega
        rw [this]; exact Int.le_refl _
    omega
/-! ### each night has a copy -/
/-- the nights 0 .. n - 1 -/
def upI (n : Nat) : List Int := (List.range n).map fun (i : Nat) => (i : Int)
theorem upI_succ (n : Nat) : upI (n + 1) = upI n ++ [(n : Int)] := by simp [upI, List.range_succ]
theorem upI_len (n : Nat) : (upI n).length = n := by simp [upI]
theorem upI_mem {n : Nat} {x : Int} : x ∈ upI n ↔ 0 ≤ x ∧ x < n := by
  simp only [upI, List.mem_map, List.mem_range]
  constructor
  · rintro ⟨i, h, rfl⟩; omega
  · rintro ⟨h0, h1⟩; exact ⟨x.toNat, by omega, by omega⟩
theorem upI_ris : ∀ n : Nat, Rising (upI n)
  | 0 => .nil
  | n + 1 => by
    rw [upI_succ]
    refine List.pairwise_append.mpr ⟨upI_ris n, by simp, fun a ha b hb => ?_⟩
    have := (upI_mem.mp ha).2
    simp at hb
    omega
theorem rng_up (n : Nat) : rngL 0 n = (upI n).map .int := by
  unfold rngL upI
  rw [Int.sub_zero, Int.toNat_natCast, List.map_map]
  exact List.map_congr_left fun i _ => by simp
/-- the last nights of the rounds below a number, from the last on -/
def lasts (rs : List Int) : Nat → List Int
  | 0 => []
  | j + 1 => (firstOf rs ((j : Int) + 1) - 1) :: lasts rs j
theorem endsR_up {rs : List Int} (g : GoodR rs) : ∀ (n : Nat) (p : Option Int), endsR (numberOf rs) p (upI (n + 1)).reverse = if p = some (numberOf rs n) then lasts rs (numberOf rs n).toNat else (n : Int) :: lasts rs (numberOf rs n).toNat
  | 0, p => by
    have e : upI (0 + 1) = [0] := rfl
    rw [e]
    have e2 := num_zero g
    simp only [List.reverse_cons, List.reverse_nil, List.nil_append, endsR, Int.natCast_zero, e2]
    by_cases h : p = some 0
    · subst h; simp [lasts]
    · have h' : ¬ some 0 = p := fun z => h z.symm
      simp [lasts, h, h']
  | n + 1, p => by
    have ih := endsR_up g n
    have hc := (num_at' g (n := (n : Int)) (by omega)).2.2.1
    rw [upI_succ, List.reverse_append]
    simp only [List.reverse_cons, List.reverse_nil, List.nil_append, List.cons_append, endsR]
    have e : ((n + 1 : Nat) : Int) = (n : Int) + 1 := by omega
    rw [e]
    have key : endsR (numberOf rs) (some (numberOf rs ((n : Int) + 1))) (upI (n + 1)).reverse = lasts rs (numberOf rs ((n : Int) + 1)).toNat := by
      rw [ih]
      rcases num_succ g (n := (n : Int)) (by omega) with h | ⟨h, h2⟩
      · rw [h, if_pos rfl]
      · rw [h, if_neg (by simp; omega)]
        have e2 : (numberOf rs (n : Int) + 1).toNat = (numberOf rs (n : Int)).toNat + 1 := by omega
        have e3 : (((numberOf rs (n : Int)).toNat : Nat) : Int) = numberOf rs n := by omega
        rw [e2]
        show _ = (firstOf rs ((((numberOf rs (n : Int)).toNat : Nat) : Int) + 1) - 1) :: _
        rw [e3, ← h2]
    by_cases h : p = some (numberOf rs ((n : Int) + 1))
    · subst h
      simp [key]
    · have h' : ¬ some (numberOf rs ((n : Int) + 1)) = p := fun z => h z.symm
      rw [if_neg h', if_neg h, key]
theorem mem_lasts_take (rs : List Int) : ∀ (j m : Nat) (x : Int), x ∈ (lasts rs j).take m ↔ ∃ k : Nat, j - m ≤ k ∧ k < j ∧ x = firstOf rs ((k : Int) + 1) - 1
  | 0, m, x => by simp [lasts]
  | j + 1, 0, x => by simp; omega
  | j + 1, m + 1, x => by
    simp only [lasts, List.take_succ_cons, List.mem_cons, mem_lasts_take rs j m x]
    constructor
    · rintro (h | ⟨k, h1, h2, h3⟩)
      · exact ⟨j, by omega, by omega, h⟩
      · exact ⟨k, by omega, by omega, h3⟩
    · rintro ⟨k, h1, h2, h3⟩
      by_cases e : k = j
      · subst e; exact .inl h3
      · exact .inr ⟨k, by omega, by omega, h3⟩
theorem keepU_up {u : Rule} (g : GoodU u) (n : Nat) (x : Int) : x ∈ keepU u (upI (n + 1)) ↔ x = n ∨ ∃ k : Nat, (numberOf u.1 n).toNat - (u.2.toNat - 1) ≤ k ∧ k < (numberOf u.1 n).toNat ∧ x = firstOf u.1 ((k : Int) + 1) - 1 := by
  rw [← List.mem_reverse, keepU_rev, endsR_up g.rounds, if_neg (by simp)]
  have := g.m1
  obtain ⟨m, hm⟩ : ∃ m, u.2.toNat = m + 1 := ⟨u.2.toNat - 1, by omega⟩
  rw [hm, List.take_succ_cons, List.mem_cons, mem_lasts_take]
  simp
/-- what is held, as it is made -/
def stepK (rs : List Int) (lo hi : Int) : List Int := (List.range (hi - lo).toNat).map fun (i : Nat) => firstOf rs (lo + i + 1) - 1
def standKeys (us : List Rule) (n : Int) : List Int := us.foldl (fun ks u => (stepK u.1 (max 0 (numberOf u.1 n - u.2 + 1)) (numberOf u.1 n)).foldl addI ks) [n]
def standU (us : List Rule) (n : Int) : List Int := sortI (standKeys us n)
theorem stand_mem (n : Int) : ∀ (us : List Rule) (ks : List Int) (x : Int), x ∈ us.foldl (fun ks u => (stepK u.1 (max 0 (numberOf u.1 n - u.2 + 1)) (numberOf u.1 n)).foldl addI ks) ks ↔ x ∈ ks ∨ ∃ u ∈ us, x ∈ stepK u.1 (max 0 (numberOf u.1 n - u.2 + 1)) (numberOf u.1 n)
  | [], ks, x => by simp
  | u :: us, ks, x => by
    rw [List.foldl_cons, stand_mem n us, addI_mem]
    simp [or_assoc]
theorem stand_nodup (n : Int) : ∀ (us : List Rule) (ks : List Int), ks.Nodup → (us.foldl (fun ks u => (stepK u.1 (max 0 (numberOf u.1 n - u.2 + 1)) (numberOf u.1 n)).foldl addI ks) ks).Nodup
  | [], ks, h => h
  | u :: us, ks, h => stand_nodup n us _ (addI_nodup _ _ h)
theorem stepK_mem {rs : List Int} {lo hi x : Int} : x ∈ stepK rs lo hi ↔ ∃ k : Int, lo ≤ k ∧ k < hi ∧ x = firstOf rs (k + 1) - 1 := by
  simp only [stepK, List.mem_map, List.mem_range]
  constructor
  · rintro ⟨i, h, rfl⟩; exact ⟨lo + i, by omega, by omega, rfl⟩
  · rintro ⟨k, h0, h1, rfl⟩
    refine ⟨(k - lo).toNat, by omega, ?_⟩
    have : lo + ((k - lo).toNat : Int) = k := by omega
    rw [this]
theorem standU_mem (us : List Rule) (n x : Int) : x ∈ standU us n ↔ x = n ∨ ∃ u ∈ us, ∃ k : Int, max 0 (numberOf u.1 n - u.2 + 1) ≤ k ∧ k < numberOf u.1 n ∧ x = firstOf u.1 (k + 1) - 1 := by
  unfold standU standKeys
  rw [show sortI _ = List.mergeSort _ _ from rfl, List.mem_mergeSort, stand_mem]
  simp [stepK_mem]
theorem sortI_ris {ks : List Int} (h : ks.Nodup) : Rising (sortI ks) := by
  have hp : (sortI ks).Pairwise (· ≤ ·) := by
    have := List.pairwise_mergeSort (le := fun a b : Int => decide (a ≤ b)) (fun a b c h1 h2 => by simp at *; omega) (fun a b => by simp; omega) ks
    exact this.imp fun h => by simpa using h
  have hn : (sortI ks).Nodup := (List.mergeSort_perm ks _).nodup_iff.mpr h
  exact (hp.and hn).imp fun ⟨a, b⟩ => by omega
theorem standU_ris (us : List Rule) (n : Int) : Rising (standU us n) := sortI_ris (stand_nodup n us [n] (by simp))
theorem rising_ext {a b : List Int} (ha : Rising a) (hb : Rising b) (h : ∀ x, x ∈ a ↔ x ∈ b) : a = b := by
  have p : a.Perm b := (List.perm_ext_iff_of_nodup ha.nodup hb.nodup).mpr h
  have e1 := sortI_uniq p (ha.imp fun h => Int.le_of_lt h)
  have e2 := sortI_uniq (List.Perm.refl b) (hb.imp fun h => Int.le_of_lt h)
  rw [e1, ← e2]
theorem stand_kept (us : List Rule) (g : ∀ u ∈ us, GoodU u) (h1 : 1 ≤ us.length) (n : Nat) : standU us n = keptU us (upI (n + 1)) := by
  refine rising_ext (standU_ris us n) ((upI_ris _).sublist List.filter_sublist) fun x => ?_
  have hk : x ∈ keptU us (upI (n + 1)) ↔ ∃ u ∈ us, x ∈ keepU u (upI (n + 1)) := by
    simp only [keptU, List.mem_filter, List.any_eq_true, decide_eq_true_eq]
    exact ⟨fun ⟨_, z⟩ => z, fun ⟨u, hu, hx⟩ => ⟨(keepU_sub u _).subset hx, u, hu, hx⟩⟩
  rw [hk, standU_mem]
  constructor
  · rintro (h | ⟨u, hu, k, a, b, c⟩)
    · match us, h1 with
      | u :: us, _ => exact ⟨u, by simp, (keepU_up (g u (by simp)) n x).mpr (.inl h)⟩
    · have := (g u hu).m1
      refine ⟨u, hu, (keepU_up (g u hu) n x).mpr (.inr ⟨k.toNat, by omega, by omega, ?_⟩)⟩
      have e : ((k.toNat : Nat) : Int) = k := by omega
      rw [e]; exact c
  · rintro ⟨u, hu, hx⟩
    have := (g u hu).m1
    rcases (keepU_up (g u hu) n x).mp hx with h | ⟨k, a, b, c⟩
    · exact .inl h
    · exact .inr ⟨u, hu, k, by omega, by omega, c⟩
/-! ### standing_at, held_at, gap -/
theorem stepK_len (rs : List Int) (lo hi : Int) : (stepK rs lo hi).length = (hi - lo).toNat := by simp [stepK]
theorem addI_len1 (ks : List Int) (k : Int) : (addI ks k).length ≤ ks.length + 1 := by unfold addI; split <;> simp
theorem stand_in {rs : List Int} (g : GoodR rs) (U N : D) (m k0 : Cell) : ∀ (is : List Int) (ks : List Int) (x6 : Cell), (∀ k ∈ is, -(2 ^ 40) < k ∧ k < 2 ^ 40) → ks.length + is.length < 1000000 →
    ∃ y6, loopS (setT 6) b1_standing_at (is.map .int) [.sh U, .sh N, .ow (.dk (kdk ks (.bl true))), .sh (.tup (rs.map .int)), m, k0, x6] =
      some (.nx [.sh U, .sh N, .ow (.dk (kdk ((is.map fun k => firstOf rs (k + 1) - 1).foldl addI ks) (.bl true))), .sh (.tup (rs.map .int)), m, k0, y6])
  | [], ks, x6, hb, h => ⟨x6, rfl⟩
  | k :: is, ks, x6, hb, h => by
    simp only [List.length_cons] at h
    have hl : ks.length < 1000000 := by omega
    have q := first_of_ok g (k + 1)
    have hbd : b1_standing_at [.sh U, .sh N, .ow (.dk (kdk ks (.bl true))), .sh (.tup (rs.map .int)), m, k0, .sh (.int k)] = some (.nx [.sh U, .sh N, .ow (.dk (kdk (addI ks (firstOf rs (k + 1) - 1)) (.bl true))), .sh (.tup (rs.map .int)), m, k0, .sh (.int k)]) := by
      rw [← putA_kdk]
      simp [b1_standing_at, q, hl]
    rw [List.map_cons, loop_nx (by rfl) hbd]
    exact stand_in g U N m k0 is (addI ks (firstOf rs (k + 1) - 1)) _ (fun x hx => hb x (by simp [hx])) (by have := addI_len1 ks (firstOf rs (k + 1) - 1); omega)
theorem rng_ints (lo hi : Int) : rngL lo hi = ((List.range (hi - lo).toNat).map fun (i : Nat) => lo + (i : Int)).map .int := by
  unfold rngL; rw [List.map_map]; rfl
theorem stand_out (U : D) (n : Int) (hn : 0 ≤ n) (hn2 : n ≤ 2000000000) : ∀ (us : List Rule) (ks : List Int) (x3 x4 x5 x6 : Cell), (∀ u ∈ us, GoodU u) → ks.length + us.length * 20 < 1000000 →
    ∃ y3 y4 y5 y6, loopS (tupT 2 (consT (setT 3) (consT (setT 4) nilT))) b2_standing_at (us.map ruleD) [.sh U, .sh (.int n), .ow (.dk (kdk ks (.bl true))), x3, x4, x5, x6] =
      some (.nx [.sh U, .sh (.int n), .ow (.dk (kdk (us.foldl (fun ks u => (stepK u.1 (max 0 (numberOf u.1 n - u.2 + 1)) (numberOf u.1 n)).foldl addI ks) ks) (.bl true))), y3, y4, y5, y6])
  | [], ks, x3, x4, x5, x6, g, h => ⟨x3, x4, x5, x6, rfl⟩
  | u :: us, ks, x3, x4, x5, x6, g, h => by
    have gu := g u (by simp)
    simp only [List.length_cons] at h
    have hm := num_at' gu.rounds hn
    have m1 := gu.m1
    have m2 := gu.m2
    have hlen := stepK_len u.1 (max 0 (numberOf u.1 n - u.2 + 1)) (numberOf u.1 n)
    have q := number_of_ok gu.rounds n
    obtain ⟨y6, e⟩ := stand_in gu.rounds U (.int n) (.sh (.int u.2)) (.sh (.int (numberOf u.1 n))) ((List.range (numberOf u.1 n - max 0 (numberOf u.1 n - u.2 + 1)).toNat).map fun (i : Nat) => max 0 (numberOf u.1 n - u.2 + 1) + (i : Int)) ks x6
      (fun k hk => by
        simp only [List.mem_map, List.mem_range] at hk
        obtain ⟨i, hi, rfl⟩ := hk
        omega) (by simp; omega)
    rw [← rng_ints, List.map_map] at e
    have e' : loopS (setT 6) b1_standing_at (rngL (max 0 (numberOf u.1 n - u.2 + 1)) (numberOf u.1 n)) [.sh U, .sh (.int n), .ow (.dk (kdk ks (.bl true))), .sh (.tup (u.1.map .int)), .sh (.int u.2), .sh (.int (numberOf u.1 n)), x6] =
      some (.nx [.sh U, .sh (.int n), .ow (.dk (kdk ((stepK u.1 (max 0 (numberOf u.1 n - u.2 + 1)) (numberOf u.1 n)).foldl addI ks) (.bl true))), .sh (.tup (u.1.map .int)), .sh (.int u.2), .sh (.int (numberOf u.1 n)), y6]) := e
    have er : rng2D [.int (max 0 (numberOf u.1 n - u.2 + 1)), .int (numberOf u.1 n)] = some (rngL (max 0 (numberOf u.1 n - u.2 + 1)) (numberOf u.1 n)) := by
      rw [q_rng2, if_pos ⟨by omega, by omega, by omega, by omega⟩]
    have hbd : b2_standing_at [.sh U, .sh (.int n), .ow (.dk (kdk ks (.bl true))), .sh (.tup (u.1.map .int)), .sh (.int u.2), x5, x6] = some (.nx [.sh U, .sh (.int n), .ow (.dk (kdk ((stepK u.1 (max 0 (numberOf u.1 n - u.2 + 1)) (numberOf u.1 n)).foldl addI ks) (.bl true))), .sh (.tup (u.1.map .int)), .sh (.int u.2), .sh (.int (numberOf u.1 n)), y6]) := by
      simp [b2_standing_at, q, -q_rng2, er, e']
    rw [List.map_cons, loop_nx (e1 := [.sh U, .sh (.int n), .ow (.dk (kdk ks (.bl true))), .sh (.tup (u.1.map .int)), .sh (.int u.2), x5, x6]) (by rfl) hbd]
    have hh := foldl_addI_len (stepK u.1 (max 0 (numberOf u.1 n - u.2 + 1)) (numberOf u.1 n)) ks
    rw [hlen] at hh
    exact stand_out U n hn hn2 us _ _ _ _ _ (fun v hv => g v (by simp [hv])) (by omega)
theorem standing_ok (us : List Rule) (g : ∀ u ∈ us, GoodU u) (hu : us.length ≤ 20) (n : Int) (hn : 0 ≤ n) (hn2 : n ≤ 2000000000) : F_standing_at [.sh (.tup (us.map ruleD)), .sh (.int n)] = some (.val (false, .lst ((standU us n).map .int)) [.no, .no]) := by
  obtain ⟨y3, y4, y5, y6, e⟩ := stand_out (.tup (us.map ruleD)) n hn hn2 us [n] .no .no .no .no g (by simp; omega)
  have e0 : kdk [n] (.bl true) = [(.inl n, .bl true)] := rfl
  rw [e0] at e
  have ek : sortedKD (kdk (standKeys us n) (.bl true)) = some (.lst ((standU us n).map .int)) := by unfold sortedKD; rw [keysI_kdk]; rfl
  have ep : putA ([] : List (Key × D)) (.inl n) (.bl true) = [(.inl n, .bl true)] := rfl
  have e' : loopS (tupT 2 (consT (setT 3) (consT (setT 4) nilT))) b2_standing_at (us.map ruleD) [.sh (.tup (us.map ruleD)), .sh (.int n), .ow (.dk [(.inl n, .bl true)]), .no, .no, .no, .no] =
      some (.nx [.sh (.tup (us.map ruleD)), .sh (.int n), .ow (.dk (kdk (standKeys us n) (.bl true))), y3, y4, y5, y6]) := e
  simp [F_standing_at, m_standing_at, ep, e', ek]
theorem held_at_ok (us : List Rule) (g : ∀ u ∈ us, GoodU u) (h1 : 1 ≤ us.length) (h2 : us.length ≤ 5) {n : Int} (hn : 0 ≤ n ∧ n ≤ 1000000000) : F_held_at [.sh (.tup (us.map ruleD)), .sh (.int n)] = some (.val (false, .lst ((standU us n).map .int)) [.no, .no]) := by
  simp [F_held_at, m_held_at, look_rules_ok2 us g h1 h2, look_night_ok hn, standing_ok us g (by omega) n hn.1 (by omega)]
/-- the greatest difference -/
def diffs : List Int → List Int
  | [] => []
  | x :: r => match r with
    | [] => []
    | y :: _ => (y - x) :: diffs r
theorem diffs_cons (x y : Int) (r : List Int) : diffs (x :: y :: r) = (y - x) :: diffs (y :: r) := rfl
theorem stand_len (us : List Rule) (n : Int) : (standU us n).length = (standKeys us n).length := List.length_mergeSort _
theorem cutL_tail (x : D) (xs : List D) : cutL (x :: xs) (some 1) none = xs := by
  have := cutL_drop (x :: xs) (k := 1) (by omega)
  simpa using this
theorem cutL_tail0 : cutL [] (some 1) none = [] := by simp [cutL]
theorem cutL_one (l : List Int) : cutL (l.map D.int) (some 1) none = l.tail.map D.int := by
  cases l with
  | nil => exact cutL_tail0
  | cons x r => exact cutL_tail _ _
theorem gap_lc (U N S : D) : ∀ (l : List Int), lcL (tupT 2 (consT (setT 3) (consT (setT 4) nilT))) yesM c1_gap [3, 4] (zipL (l.map .int) (l.tail.map .int)) [.sh U, .sh N, .sh S, .no, .no] = some ((diffs l).map .int, [.sh U, .sh N, .sh S, .no, .no])
  | [] => rfl
  | [x] => rfl
  | x :: y :: r => by
    have ih := gap_lc U N S (y :: r)
    show lcL _ _ _ _ (.tup [.int x, .int y] :: zipL ((y :: r).map .int) (r.map .int)) _ = _
    have ih' : lcL (tupT 2 (consT (setT 3) (consT (setT 4) nilT))) yesM c1_gap [3, 4] (zipL ((y :: r).map .int) (r.map .int)) [.sh U, .sh N, .sh S, .no, .no] = some ((diffs (y :: r)).map .int, [.sh U, .sh N, .sh S, .no, .no]) := ih
    have ih2 := ih'
    simp only [List.map_cons] at ih2
    have hc : c1_gap [.sh U, .sh N, .sh S, .sh (.int x), .sh (.int y)] = some (.val (.int (y - x)) [.sh U, .sh N, .sh S, .sh (.int x), .sh (.int y)]) := by simp [c1_gap]
    rw [lcL_cons]
    simp [hc, diffs_cons, ih2]
def gapI (l : List Int) : Int := (diffs l ++ [0]).foldl max 0
theorem maxL_gap (ds : List Int) : maxL (ds ++ [0]) = some ((ds ++ [0]).foldl max 0) := by
  cases h : maxL (ds ++ [0]) with
  | none => cases ds <;> simp [maxL] at h
  | some m =>
    have e : (ds ++ [0]).foldl max 0 = m := maxL_uniq h (by
      rcases foldl_max_mem (ds ++ [0]) 0 with e | e
      · rw [e]; simp
      · exact e) (foldl_max_le (ds ++ [0]) 0).2
    rw [e]
theorem diffs_len : ∀ l : List Int, (diffs l).length ≤ l.length
  | [] => by simp [diffs]
  | [x] => by simp [diffs]
  | x :: y :: r => by
    have := diffs_len (y :: r)
    rw [diffs_cons]; simp at *; omega
theorem standU_len (us : List Rule) (g : ∀ u ∈ us, GoodU u) (n : Int) (hn : 0 ≤ n) : (standU us n).length ≤ 1 + us.length * 20 := by
  rw [stand_len]
  have : ∀ (us : List Rule) (ks : List Int), (∀ u ∈ us, GoodU u) → (us.foldl (fun ks u => (stepK u.1 (max 0 (numberOf u.1 n - u.2 + 1)) (numberOf u.1 n)).foldl addI ks) ks).length ≤ ks.length + us.length * 20 := by
    intro us
    induction us with
    | nil => intro ks _; simp
    | cons u us ih =>
      intro ks g
      have gu := g u (by simp)
      have h1 := ih ((stepK u.1 (max 0 (numberOf u.1 n - u.2 + 1)) (numberOf u.1 n)).foldl addI ks) fun v hv => g v (by simp [hv])
      have h2 := foldl_addI_len (stepK u.1 (max 0 (numberOf u.1 n - u.2 + 1)) (numberOf u.1 n)) ks
      rw [stepK_len] at h2
      have := gu.m2
      rw [List.foldl_cons, List.length_cons]
      omega
  exact this us [n] g
theorem gap_ok (us : List Rule) (g : ∀ u ∈ us, GoodU u) (h1 : 1 ≤ us.length) (h2 : us.length ≤ 5) {n : Int} (hn : 0 ≤ n ∧ n ≤ 1000000000) : F_gap [.sh (.tup (us.map ruleD)), .sh (.int n)] = some (.val (false, .int (gapI (standU us n))) [.no, .no]) := by
  have q := held_at_ok us g h1 h2 hn
  have k := gap_lc (.tup (us.map ruleD)) (.int n) (.lst ((standU us n).map .int)) (standU us n)
  have hl := standU_len us g n hn.1
  have hz : (zipL ((standU us n).map D.int) ((standU us n).tail.map D.int)).length ≤ 1000000 := by rw [zipL_len]; simp; omega
  have hd := diffs_len (standU us n)
  have hd2 : (diffs (standU us n)).length + 1 ≤ 1000000 := by omega
  have e := maxL_gap (diffs (standU us n))
  have ez : zipD [.lst ((standU us n).map .int), .lst (cutL ((standU us n).map .int) (some 1) none)] = some (zipL ((standU us n).map .int) ((standU us n).tail.map .int)) := by rw [cutL_one]; simp [zipD, listOf]
  have em : (diffs (standU us n)).map D.int ++ [D.int 0] = (diffs (standU us n) ++ [0]).map .int := by simp
  simp [F_gap, m_gap, q, k, -List.map_tail, ez, hz, hd2, em, e, -List.map_append, gapI]
end NK

set_option Elab.async false
set_option linter.all false
set_option maxRecDepth 100000
set_option maxHeartbeats 2000000
namespace NK
open PySem PySem.Spec PyProof.Rows L2
/-! ### refusals, told -/
@[simp] theorem q_try {ex : List Str} {x : Str} {i j : Nat} {mb : S} {env : Env} : tryS ex x i j mb env = match mb env with
  | some (.exc y e) => if y.nm ∈ ex ∧ (clsUp y.nm).contains x = true ∧ i < e.length then some (.nx (((e.set i .no).set j (.sh (.ex y.nm y.pay.toList))).set i .no)) else none
  | r => r := rfl
@[simp] theorem word_0 (pay : List (Str × D)) : F_law_word [.sh (.ex "BadRounds" pay)] = some (.val (false, .int 0) [.no]) := by kernel_rfl
@[simp] theorem refused_0 : F_law_refused [.sh (.str "rounds")] = some (.val (false, .tup [.str "refused", .int 0]) [.no]) := by kernel_rfl
@[simp] theorem exin_0 : ("BadRounds" : Str) ∈ exAll := by decide +kernel
@[simp] theorem exup_0 : (("KeepError" : Str) ∈ clsUp "BadRounds") := by decide +kernel
@[simp] theorem word_1 (pay : List (Str × D)) : F_law_word [.sh (.ex "BadNight" pay)] = some (.val (false, .int 1) [.no]) := by kernel_rfl
@[simp] theorem refused_1 : F_law_refused [.sh (.str "night")] = some (.val (false, .tup [.str "refused", .int 1]) [.no]) := by kernel_rfl
@[simp] theorem exin_1 : ("BadNight" : Str) ∈ exAll := by decide +kernel
@[simp] theorem exup_1 : (("KeepError" : Str) ∈ clsUp "BadNight") := by decide +kernel
@[simp] theorem word_2 (pay : List (Str × D)) : F_law_word [.sh (.ex "BadNumber" pay)] = some (.val (false, .int 2) [.no]) := by kernel_rfl
@[simp] theorem refused_2 : F_law_refused [.sh (.str "number")] = some (.val (false, .tup [.str "refused", .int 2]) [.no]) := by kernel_rfl
@[simp] theorem exin_2 : ("BadNumber" : Str) ∈ exAll := by decide +kernel
@[simp] theorem exup_2 : (("KeepError" : Str) ∈ clsUp "BadNumber") := by decide +kernel
@[simp] theorem word_3 (pay : List (Str × D)) : F_law_word [.sh (.ex "BadRules" pay)] = some (.val (false, .int 3) [.no]) := by kernel_rfl
@[simp] theorem refused_3 : F_law_refused [.sh (.str "rules")] = some (.val (false, .tup [.str "refused", .int 3]) [.no]) := by kernel_rfl
@[simp] theorem exin_3 : ("BadRules" : Str) ∈ exAll := by decide +kernel
@[simp] theorem exup_3 : (("KeepError" : Str) ∈ clsUp "BadRules") := by decide +kernel
@[simp] theorem word_4 (pay : List (Str × D)) : F_law_word [.sh (.ex "BadNights" pay)] = some (.val (false, .int 4) [.no]) := by kernel_rfl
@[simp] theorem refused_4 : F_law_refused [.sh (.str "nights")] = some (.val (false, .tup [.str "refused", .int 4]) [.no]) := by kernel_rfl
@[simp] theorem exin_4 : ("BadNights" : Str) ∈ exAll := by decide +kernel
@[simp] theorem exup_4 : (("KeepError" : Str) ∈ clsUp "BadNights") := by decide +kernel
@[simp] theorem word_5 (pay : List (Str × D)) : F_law_word [.sh (.ex "Elder" pay)] = some (.val (false, .int 5) [.no]) := by kernel_rfl
@[simp] theorem refused_5 : F_law_refused [.sh (.str "elder")] = some (.val (false, .tup [.str "refused", .int 5]) [.no]) := by kernel_rfl
@[simp] theorem exin_5 : ("Elder" : Str) ∈ exAll := by decide +kernel
@[simp] theorem exup_5 : (("KeepError" : Str) ∈ clsUp "Elder") := by decide +kernel
@[simp] theorem word_6 (pay : List (Str × D)) : F_law_word [.sh (.ex "Full" pay)] = some (.val (false, .int 6) [.no]) := by kernel_rfl
@[simp] theorem refused_6 : F_law_refused [.sh (.str "full")] = some (.val (false, .tup [.str "refused", .int 6]) [.no]) := by kernel_rfl
@[simp] theorem exin_6 : ("Full" : Str) ∈ exAll := by decide +kernel
@[simp] theorem exup_6 : (("KeepError" : Str) ∈ clsUp "Full") := by decide +kernel
@[simp] theorem word_7 (pay : List (Str × D)) : F_law_word [.sh (.ex "NotHeld" pay)] = some (.val (false, .int 7) [.no]) := by kernel_rfl
@[simp] theorem refused_7 : F_law_refused [.sh (.str "held")] = some (.val (false, .tup [.str "refused", .int 7]) [.no]) := by kernel_rfl
@[simp] theorem exin_7 : ("NotHeld" : Str) ∈ exAll := by decide +kernel
@[simp] theorem exup_7 : (("KeepError" : Str) ∈ clsUp "NotHeld") := by decide +kernel
@[simp] theorem word_8 (pay : List (Str × D)) : F_law_word [.sh (.ex "Pinned" pay)] = some (.val (false, .int 8) [.no]) := by kernel_rfl
@[simp] theorem refused_8 : F_law_refused [.sh (.str "pinned")] = some (.val (false, .tup [.str "refused", .int 8]) [.no]) := by kernel_rfl
@[simp] theorem exin_8 : ("Pinned" : Str) ∈ exAll := by decide +kernel
@[simp] theorem exup_8 : (("KeepError" : Str) ∈ clsUp "Pinned") := by decide +kernel
@[simp] theorem word_9 (pay : List (Str × D)) : F_law_word [.sh (.ex "NotPinned" pay)] = some (.val (false, .int 9) [.no]) := by kernel_rfl
@[simp] theorem refused_9 : F_law_refused [.sh (.str "not pinned")] = some (.val (false, .tup [.str "refused", .int 9]) [.no]) := by kernel_rfl
@[simp] theorem exin_9 : ("NotPinned" : Str) ∈ exAll := by decide +kernel
@[simp] theorem exup_9 : (("KeepError" : Str) ∈ clsUp "NotPinned") := by decide +kernel
@[simp] theorem word_10 (pay : List (Str × D)) : F_law_word [.sh (.ex "BadState" pay)] = some (.val (false, .int 10) [.no]) := by kernel_rfl
@[simp] theorem refused_10 : F_law_refused [.sh (.str "state")] = some (.val (false, .tup [.str "refused", .int 10]) [.no]) := by kernel_rfl
@[simp] theorem exin_10 : ("BadState" : Str) ∈ exAll := by decide +kernel
@[simp] theorem exup_10 : (("KeepError" : Str) ∈ clsUp "BadState") := by decide +kernel
@[simp] theorem word_11 (pay : List (Str × D)) : F_law_word [.sh (.ex "BadPart" pay)] = some (.val (false, .int 11) [.no]) := by kernel_rfl
@[simp] theorem refused_11 : F_law_refused [.sh (.str "part")] = some (.val (false, .tup [.str "refused", .int 11]) [.no]) := by kernel_rfl
@[simp] theorem exin_11 : ("BadPart" : Str) ∈ exAll := by decide +kernel
@[simp] theorem exup_11 : (("KeepError" : Str) ∈ clsUp "BadPart") := by decide +kernel
@[simp] theorem word_12 (pay : List (Str × D)) : F_law_word [.sh (.ex "NotFit" pay)] = some (.val (false, .int 12) [.no]) := by kernel_rfl
@[simp] theorem refused_12 : F_law_refused [.sh (.str "fit")] = some (.val (false, .tup [.str "refused", .int 12]) [.no]) := by kernel_rfl
@[simp] theorem exin_12 : ("NotFit" : Str) ∈ exAll := by decide +kernel
@[simp] theorem exup_12 : (("KeepError" : Str) ∈ clsUp "NotFit") := by decide +kernel
@[simp] theorem word_13 (pay : List (Str × D)) : F_law_word [.sh (.ex "IsWhole" pay)] = some (.val (false, .int 13) [.no]) := by kernel_rfl
@[simp] theorem refused_13 : F_law_refused [.sh (.str "whole")] = some (.val (false, .tup [.str "refused", .int 13]) [.no]) := by kernel_rfl
@[simp] theorem exin_13 : ("IsWhole" : Str) ∈ exAll := by decide +kernel
@[simp] theorem exup_13 : (("KeepError" : Str) ∈ clsUp "IsWhole") := by decide +kernel
@[simp] theorem word_14 (pay : List (Str × D)) : F_law_word [.sh (.ex "BadPlan" pay)] = some (.val (false, .int 14) [.no]) := by kernel_rfl
@[simp] theorem refused_14 : F_law_refused [.sh (.str "plan")] = some (.val (false, .tup [.str "refused", .int 14]) [.no]) := by kernel_rfl
@[simp] theorem exin_14 : ("BadPlan" : Str) ∈ exAll := by decide +kernel
@[simp] theorem exup_14 : (("KeepError" : Str) ∈ clsUp "BadPlan") := by decide +kernel
@[simp] theorem word_15 (pay : List (Str × D)) : F_law_word [.sh (.ex "Unlike" pay)] = some (.val (false, .int 15) [.no]) := by kernel_rfl
@[simp] theorem refused_15 : F_law_refused [.sh (.str "unlike")] = some (.val (false, .tup [.str "refused", .int 15]) [.no]) := by kernel_rfl
@[simp] theorem exin_15 : ("Unlike" : Str) ∈ exAll := by decide +kernel
@[simp] theorem exup_15 : (("KeepError" : Str) ∈ clsUp "Unlike") := by decide +kernel
@[simp] theorem word_16 (pay : List (Str × D)) : F_law_word [.sh (.ex "BadText" pay)] = some (.val (false, .int 16) [.no]) := by kernel_rfl
@[simp] theorem refused_16 : F_law_refused [.sh (.str "text")] = some (.val (false, .tup [.str "refused", .int 16]) [.no]) := by kernel_rfl
@[simp] theorem exin_16 : ("BadText" : Str) ∈ exAll := by decide +kernel
@[simp] theorem exup_16 : (("KeepError" : Str) ∈ clsUp "BadText") := by decide +kernel
/-! ### any things -/
def plainD : D → Bool
  | .non => true
  | .bl _ => true
  | .int _ => true
  | .str _ => true
  | .lst _ => true
  | .tup _ => true
  | .dk _ => true
  | _ => false
def numB : D → Int → Int → Bool
  | .int i, a, b => decide (a ≤ i ∧ i ≤ b)
  | _, _, _ => false
def intB : D → Bool
  | .int _ => true
  | _ => false
theorem is_number_any {d : D} (h : plainD d = true) (a b : Int) : F_is_number [.sh d, .sh (.int a), .sh (.int b)] = some (.val (false, .bl (numB d a b)) [.no, .no, .no]) := by
  cases d with
  | int i => exact is_number_int i a b
  | ex _ _ => cases h
  | mu _ => cases h
  | ml _ => cases h
  | ty _ => cases h
  | cl _ => cases h
  | ob _ _ => cases h
  | fl _ => cases h
  | _ => simp [F_is_number, m_is_number, numB]
theorem whole_any {d : D} (h : plainD d = true) : F_law_whole [.sh d] = some (.val (false, .bl (intB d)) [.no]) := by
  cases d with
  | ex _ _ => cases h
  | mu _ => cases h
  | ml _ => cases h
  | ty _ => cases h
  | cl _ => cases h
  | ob _ _ => cases h
  | fl _ => cases h
  | _ => simp [F_law_whole, m_law_whole, intB]
def roundsB : D → Bool
  | .tup ds => decide (1 ≤ ds.length ∧ ds.length ≤ 12) && ds.all fun d => numB d 1 31
  | _ => false
theorem bl_map {α : Type} (f : α → Bool) (l : List α) : (l.map fun a => D.bl (f a)) = (l.map f).map D.bl := by simp
theorem is_rounds_any {d : D} (h : plainD d = true) (ht : ∀ ds, d = .tup ds → ds.length ≤ 1000000 ∧ ∀ x ∈ ds, plainD x = true) : F_is_rounds [.sh d] = some (.val (false, .bl (roundsB d)) [.no]) := by
  cases d with
  | tup ds =>
    obtain ⟨hz, ha⟩ := ht ds rfl
    have e := lcL_pure (t := setT 1) (p := yesM) (f := c1_is_rounds) (vs := [1]) (emb := fun d : D => d) (y := fun d => .bl (numB d 1 31)) (e := [.sh (.tup ds), .no]) (xs := ds)
      (fun r hr => ⟨_, [.sh (.tup ds), .sh r], rfl, rfl, by simp [c1_is_rounds, is_number_any (ha r hr)], rfl⟩)
    rw [List.map_id'] at e
    have e2 : ds.map (fun d => D.bl (numB d 1 31)) = (ds.map fun d => numB d 1 31).map D.bl := bl_map _ _
    rw [e2] at e
    by_cases h1 : 1 ≤ ds.length
    · by_cases h2 : ds.length ≤ 12
      · have h1' : (1 : Int) ≤ ds.length := by omega
        have h2' : (ds.length : Int) ≤ 12 := by omega
        simp [F_is_rounds, m_is_rounds, h1', h2', hz, e, roundsB, h1, h2, List.all_map, -List.map_map]
      · have h1' : (1 : Int) ≤ ds.length := by omega
        have h2' : ¬ (ds.length : Int) ≤ 12 := by omega
        simp [F_is_rounds, m_is_rounds, h1', h2', roundsB, h1, h2]
    · have h1' : ¬ (1 : Int) ≤ ds.length := by omega
      simp [F_is_rounds, m_is_rounds, h1', roundsB, h1]
  | ex _ _ => cases h
  | mu _ => cases h
  | ml _ => cases h
  | ty _ => cases h
  | cl _ => cases h
  | ob _ _ => cases h
  | fl _ => cases h
  | _ => simp [F_is_rounds, m_is_rounds, roundsB]
theorem ints_all {ds : List D} {a b : Int} (h : (ds.all fun d => numB d a b) = true) : ∃ rs : List Int, ds = rs.map .int ∧ ∀ r ∈ rs, a ≤ r ∧ r ≤ b := by
  induction ds with
  | nil => exact ⟨[], rfl, by simp⟩
  | cons d ds ih =>
    rw [List.all_cons, Bool.and_eq_true] at h
    obtain ⟨rs, rfl, hr⟩ := ih h.2
    cases d with
    | int i =>
      have h1 : a ≤ i ∧ i ≤ b := by simpa [numB] using h.1
      exact ⟨i :: rs, rfl, fun r hr' => by
        rcases List.mem_cons.mp hr' with e | e
        · subst e; exact h1
        · exact hr r e⟩
    | _ => simp [numB] at h
theorem roundsB_of {d : D} (h : roundsB d = true) : ∃ rs : List Int, d = .tup (rs.map .int) ∧ GoodR rs := by
  cases d with
  | tup ds =>
    simp only [roundsB, Bool.and_eq_true, decide_eq_true_eq] at h
    obtain ⟨rs, rfl, hr⟩ := ints_all h.2
    exact ⟨rs, rfl, ⟨by simpa using h.1.1, by simpa using h.1.2, hr⟩⟩
  | _ => simp [roundsB] at h
theorem look_rounds_any {d : D} (h : plainD d = true) (ht : ∀ ds, d = .tup ds → ds.length ≤ 1000000 ∧ ∀ x ∈ ds, plainD x = true) : F_look_rounds [.sh d] = if roundsB d = true then some (.val (false, .non) [.no]) else some (.exc { nm := "BadRounds" } [.no]) := by
  have e := is_rounds_any h ht
  cases hb : roundsB d with
  | true => rw [hb] at e; simp [F_look_rounds, m_look_rounds, e]
  | false => rw [hb] at e; simp [F_look_rounds, m_look_rounds, e]
theorem look_night_any {d : D} (h : plainD d = true) : F_look_night [.sh d] = if numB d 0 1000000000 = true then some (.val (false, .non) [.no]) else some (.exc { nm := "BadNight" } [.no]) := by
  have e := is_number_any h 0 1000000000
  cases hb : numB d 0 1000000000 with
  | true => rw [hb] at e; simp [F_look_night, m_look_night, e]
  | false => rw [hb] at e; simp [F_look_night, m_look_night, e]
theorem numB_of {d : D} {a b : Int} (h : numB d a b = true) : ∃ i, d = .int i ∧ a ≤ i ∧ i ≤ b := by
  cases d with
  | int i => exact ⟨i, rfl, by simpa [numB] using h⟩
  | _ => simp [numB] at h
/-- data that may stand within data that is compared -/
def okE (x : D) : Prop := plainD x = true ∧ clay x = true ∧ dep x ≤ 60
theorem fits_lst {ds : List D} (h : ∀ x ∈ ds, okE x) : clays ds = true ∧ deps ds ≤ 60 := by
  induction ds with
  | nil => exact ⟨rfl, Nat.zero_le _⟩
  | cons d ds ih =>
    obtain ⟨h1, h2, h3⟩ := h d (by simp)
    obtain ⟨i1, i2⟩ := ih fun x hx => h x (by simp [hx])
    simp only [clays, deps, h2, i1, Bool.and_self]
    exact ⟨trivial, by omega⟩
theorem eqDB_lnil {ds : List D} (h : ∀ x ∈ ds, okE x) : eqDB (.lst ds) (.lst []) = some ds.isEmpty := by
  obtain ⟨h1, h2⟩ := fits_lst h
  rw [eqDB_of (fit_lst h1 (by omega)) (by simp)]
  simp [eqv]
def okT (d : D) : Prop := plainD d = true ∧ ∀ ds, d = .tup ds → ds.length ≤ 1000000 ∧ ∀ x ∈ ds, okE x
theorem okE_int (i : Int) : okE (.int i) := ⟨rfl, rfl, by simp [dep]⟩
theorem ints_okE (rs : List Int) : ∀ x ∈ rs.map D.int, okE x := fun x hx => by
  obtain ⟨i, _, rfl⟩ := List.mem_map.mp hx; exact okE_int i
theorem cutL_mem {xs : List D} {lo hi : Option Int} {x : D} (h : x ∈ cutL xs lo hi) : x ∈ xs := List.mem_of_mem_drop (List.mem_of_mem_take h)
theorem cutL_len (xs : List D) (lo hi : Option Int) : (cutL xs lo hi).length ≤ xs.length := by unfold cutL; rw [List.length_take, List.length_drop]; omega
theorem okT_tup {ds : List D} (hz : ds.length ≤ 1000000) (h : ∀ x ∈ ds, okE x) : okT (.tup ds) := ⟨rfl, fun es e => by cases e; exact ⟨hz, h⟩⟩
theorem okT_of {d : D} (h : plainD d = true) (n : ∀ ds, d ≠ .tup ds) : okT d := ⟨h, fun ds e => absurd e (n ds)⟩
theorem okT.rounds {d : D} (h : okT d) : ∀ ds, d = .tup ds → ds.length ≤ 1000000 ∧ ∀ x ∈ ds, plainD x = true := fun ds e => ⟨(h.2 ds e).1, fun x hx => ((h.2 ds e).2 x hx).1⟩
@[simp] theorem fr_ne : ¬ (Str.ofString "found" = Str.ofString "refused") := by decide +kernel
@[simp] theorem rf_ne : ¬ (Str.ofString "refused" = Str.ofString "found") := by decide +kernel
theorem strok {s : Str} (h : PyData.strOk s = true) (d : Nat) : clay (.str s) = true := h
@[simp] theorem eqDB_ref (i j : Int) : eqDB (.tup [.str "refused", .int i]) (.tup [.str "refused", .int j]) = some (decide (i = j)) := by
  rw [eqDB_of (by simp [fit, clay, clays, dep, deps]; decide +kernel) (by simp [fit, clay, clays, dep, deps]; decide +kernel)]
  simp [eqv, eqvs]; rfl
theorem eqDB_fr {d : D} (h : clay d = true) (h2 : dep d ≤ 60) (j : Int) : eqDB (.tup [.str "found", d]) (.tup [.str "refused", .int j]) = some false := by
  rw [eqDB_of (by simp [fit, clay, clays, dep, deps, h]; exact ⟨by decide +kernel, by omega⟩) (by simp [fit, clay, clays, dep, deps]; decide +kernel)]
  simp [eqv, eqvs, fr_ne]
@[simp] theorem eqDB_found : eqDB (.str "found") (.str "found") = some true := by
  rw [eqDB_of (by simp [fit, clay, dep]; decide +kernel) (by simp [fit, clay, dep]; decide +kernel)]; simp [eqv]
@[simp] theorem eqDB_refound : eqDB (.str "refused") (.str "found") = some false := by
  rw [eqDB_of (by simp [fit, clay, dep]; decide +kernel) (by simp [fit, clay, dep]; decide +kernel)]; simp [eqv]
end NK

set_option Elab.async false
set_option linter.all false
set_option maxRecDepth 100000
set_option maxHeartbeats 4000000
namespace NK
open PySem PySem.Spec PyProof.Rows L2
noncomputable section
/-- what a deed tells, or its refusal: the body of the law's _law_told, whatever deed it runs (the second thing is lent) -/
def toldOS (F1 : Fn) : S := (seqS (setS 2 (conM .non))
    (seqS (setS 3 (conM .non))
    (seqS (tryS exAll "KeepError" 4 2 (setS 3 (callM F1 2 (consM (varM 0) (ownA 1 nilM)))))
    (seqS (iteS (boolM (op2M isD (varM 2) (conM .non))) (withS (tupM (consM (conM (.str "found")) (consM (varM 3) nilM))) fun d e => some (.rt d e)) nxS)
    (withS (tupM (consM (conM (.str "refused")) (consM (callM F_law_word 1 (consM (varM 2) nilM)) nilM))) fun d e => some (.rt d e))))))
def toldO (F1 : Fn) : Fn := funM (toldOS F1) 2 5
/-- the same, where the second thing is shared -/
def toldVS (F1 : Fn) : S := (seqS (setS 2 (conM .non))
    (seqS (setS 3 (conM .non))
    (seqS (tryS exAll "KeepError" 4 2 (setS 3 (callM F1 2 (consM (varM 0) (consM (varM 1) nilM)))))
    (seqS (iteS (boolM (op2M isD (varM 2) (conM .non))) (withS (tupM (consM (conM (.str "found")) (consM (varM 3) nilM))) fun d e => some (.rt d e)) nxS)
    (withS (tupM (consM (conM (.str "refused")) (consM (callM F_law_word 1 (consM (varM 2) nilM)) nilM))) fun d e => some (.rt d e))))))
def toldV (F1 : Fn) : Fn := funM (toldVS F1) 2 5
end
theorem toldO_val {F1 : Fn} {k d T T' : D} {fr : Bool} (h : F1 [.sh k, .io T] = some (.val (fr, d) [.no, .io T'])) : toldO F1 [.sh k, .io T] = some (.val (false, .tup [.str "found", d]) [.no, .io T']) := by
  simp [toldO, toldOS, h, isNonB]
theorem toldO_exc {F1 : Fn} {k T T' : D} {x : Exn} {i : Int} (h : F1 [.sh k, .io T] = some (.exc x [.no, .io T'])) (h1 : x.nm ∈ exAll) (h2 : ("KeepError" : Str) ∈ clsUp x.nm) (h3 : F_law_word [.sh (.ex x.nm x.pay.toList)] = some (.val (false, .int i) [.no])) :
    toldO F1 [.sh k, .io T] = some (.val (false, .tup [.str "refused", .int i]) [.no, .io T']) := by
  simp [toldO, toldOS, h, h1, h2, h3, isNonB]
theorem toldV_val {F1 : Fn} {k d T : D} {fr : Bool} (h : F1 [.sh k, .sh T] = some (.val (fr, d) [.no, .no])) : toldV F1 [.sh k, .sh T] = some (.val (false, .tup [.str "found", d]) [.no, .no]) := by
  simp [toldV, toldVS, h, isNonB]
theorem toldV_exc {F1 : Fn} {k T : D} {x : Exn} {i : Int} (h : F1 [.sh k, .sh T] = some (.exc x [.no, .no])) (h1 : x.nm ∈ exAll) (h2 : ("KeepError" : Str) ∈ clsUp x.nm) (h3 : F_law_word [.sh (.ex x.nm x.pay.toList)] = some (.val (false, .int i) [.no])) :
    toldV F1 [.sh k, .sh T] = some (.val (false, .tup [.str "refused", .int i]) [.no, .no]) := by
  simp [toldV, toldVS, h, h1, h2, h3, isNonB]
/-- one deed of a keep, by its number -/
theorem one_take {K' d x : D} {fs : List (Str × D)} {fr : Bool} (hl : fs.lookup ("take" : Str) = none) (hd : d.isMu = false) (h : F_Keep_take [.io (.ob "Keep" fs), .sh d] = some (.val (fr, x) [.io K', .no])) :
    F_law_keep_one [.sh (.int 0), .io (.tup [.mu (.ob "Keep" fs), d])] = some (.val (false, x) [.no, .io (.tup [.mu K', d])]) := by
  simp [F_law_keep_one, m_law_keep_one, unpackS, focusM, methOM, viewO, Cell.own, endE, unfocus, h, hd, hl, appF]
theorem one_takeX {K' d : D} {x : Exn} {fs : List (Str × D)} (hl : fs.lookup ("take" : Str) = none) (hd : d.isMu = false) (h : F_Keep_take [.io (.ob "Keep" fs), .sh d] = some (.exc x [.io K', .no])) :
    F_law_keep_one [.sh (.int 0), .io (.tup [.mu (.ob "Keep" fs), d])] = some (.exc x [.no, .io (.tup [.mu K', d])]) := by
  simp [F_law_keep_one, m_law_keep_one, unpackS, focusM, methOM, viewO, Cell.own, endE, unfocus, h, hd, hl, appF]
theorem one_let_go {K' d x : D} {fs : List (Str × D)} {fr : Bool} (hl : fs.lookup ("let_go" : Str) = none) (hd : d.isMu = false) (h : F_Keep_let_go [.io (.ob "Keep" fs)] = some (.val (fr, x) [.io K'])) :
    F_law_keep_one [.sh (.int 1), .io (.tup [.mu (.ob "Keep" fs), d])] = some (.val (false, x) [.no, .io (.tup [.mu K', d])]) := by
  simp [F_law_keep_one, m_law_keep_one, unpackS, focusM, methOM, viewO, Cell.own, endE, unfocus, h, hd, hl, appF]
theorem one_pin {K' d x : D} {fs : List (Str × D)} {fr : Bool} (hl : fs.lookup ("pin" : Str) = none) (hd : d.isMu = false) (h : F_Keep_pin [.io (.ob "Keep" fs), .sh d] = some (.val (fr, x) [.io K', .no])) :
    F_law_keep_one [.sh (.int 2), .io (.tup [.mu (.ob "Keep" fs), d])] = some (.val (false, x) [.no, .io (.tup [.mu K', d])]) := by
  simp [F_law_keep_one, m_law_keep_one, unpackS, focusM, methOM, viewO, Cell.own, endE, unfocus, h, hd, hl, appF]
theorem one_pinX {K' d : D} {x : Exn} {fs : List (Str × D)} (hl : fs.lookup ("pin" : Str) = none) (hd : d.isMu = false) (h : F_Keep_pin [.io (.ob "Keep" fs), .sh d] = some (.exc x [.io K', .no])) :
    F_law_keep_one [.sh (.int 2), .io (.tup [.mu (.ob "Keep" fs), d])] = some (.exc x [.no, .io (.tup [.mu K', d])]) := by
  simp [F_law_keep_one, m_law_keep_one, unpackS, focusM, methOM, viewO, Cell.own, endE, unfocus, h, hd, hl, appF]
theorem one_unpin {K' d x : D} {fs : List (Str × D)} {fr : Bool} (hl : fs.lookup ("unpin" : Str) = none) (hd : d.isMu = false) (h : F_Keep_unpin [.io (.ob "Keep" fs), .sh d] = some (.val (fr, x) [.io K', .no])) :
    F_law_keep_one [.sh (.int 3), .io (.tup [.mu (.ob "Keep" fs), d])] = some (.val (false, x) [.no, .io (.tup [.mu K', d])]) := by
  simp [F_law_keep_one, m_law_keep_one, unpackS, focusM, methOM, viewO, Cell.own, endE, unfocus, h, hd, hl, appF]
theorem one_unpinX {K' d : D} {x : Exn} {fs : List (Str × D)} (hl : fs.lookup ("unpin" : Str) = none) (hd : d.isMu = false) (h : F_Keep_unpin [.io (.ob "Keep" fs), .sh d] = some (.exc x [.io K', .no])) :
    F_law_keep_one [.sh (.int 3), .io (.tup [.mu (.ob "Keep" fs), d])] = some (.exc x [.no, .io (.tup [.mu K', d])]) := by
  simp [F_law_keep_one, m_law_keep_one, unpackS, focusM, methOM, viewO, Cell.own, endE, unfocus, h, hd, hl, appF]
/-- what is due of a night that is taken -/
def dueT (N : List Int) (l : Option Int) (n : Int) : D := if elder n l = true then .tup [.str "refused", .int 5] else if 100 ≤ N.length then .tup [.str "refused", .int 6] else .tup [.str "found", .non]
def okT' (N : List Int) (l : Option Int) (n : Int) : Bool := !elder n l && decide (N.length < 100)
end NK

set_option Elab.async false
set_option linter.all false
set_option maxRecDepth 100000
set_option maxHeartbeats 4000000
namespace NK
open PySem PySem.Spec PyProof.Rows L2
/-- the law's own keep -/
abbrev mdlD (N P : List Int) (l : Option Int) : D := .ml [.mu (.lst (N.map .int)), .mu (.lst (P.map .int)), lastD l]
theorem atI0 {x y z : D} : atI [x, y, z] 0 = some x := atI_of (by omega) rfl
theorem atI1 {x y z : D} : atI [x, y, z] 1 = some y := atI_of (by omega) rfl
theorem atI2 {x y z : D} : atI [x, y, z] 2 = some z := atI_of (by omega) rfl
theorem done_take (R : D) (N P : List Int) (l : Option Int) (n : Int) (hn : 0 ≤ n ∧ n ≤ 1000000000) (hN : N.length ≤ 100) : F_law_done [.sh R, .io (mdlD N P l), .sh (.int 0), .sh (.int n)] =
    some (.val (false, dueT N l n) [.no, .io (if okT' N l n = true then mdlD (N ++ [n]) P (some n) else mdlD N P l), .no, .no]) := by
  have w := whole_any (d := .int n) rfl
  have g1 : ¬ n < 0 := by omega
  have g2 : ¬ 1000000000 < n := by omega
  have hz : N.length ≤ 1000000 := by omega
  unfold dueT okT'
  cases l with
  | none =>
    by_cases h2 : 100 ≤ N.length
    · have h3 : ¬ N.length < 100 := by omega
      have h4 : (N.length : Int) = 100 := by omega
      simp [F_law_done, m_law_done, w, intB, g1, g2, frzM, frzT, thawB, ixMD, unmu, atI0, atI2, isNonB, elder, h2, h3, h4]
    · have h3 : N.length < 100 := by omega
      have h4 : ¬ (N.length : Int) = 100 := by omega
      have h5 : N.length < 1000000 := by omega
      simp [F_law_done, m_law_done, w, intB, g1, g2, frzM, frzT, thawB, ixMD, unmu, atI0, atI2, isNonB, elder, h2, h3, h4, appMM, viewM, putM, setMS, Cell.own, Cell.put, D.isMu, h5]
  | some m =>
    by_cases h1 : n ≤ m
    · simp [F_law_done, m_law_done, w, intB, g1, g2, frzM, frzT, thawB, ixMD, unmu, atI0, atI2, isNonB, elder, h1]
    · by_cases h2 : 100 ≤ N.length
      · have h3 : ¬ N.length < 100 := by omega
        have h4 : (N.length : Int) = 100 := by omega
        simp [F_law_done, m_law_done, w, intB, g1, g2, frzM, frzT, thawB, ixMD, unmu, atI0, atI2, isNonB, elder, h1, h2, h3, h4]
      · have h3 : N.length < 100 := by omega
        have h4 : ¬ (N.length : Int) = 100 := by omega
        have h5 : N.length < 1000000 := by omega
        simp [F_law_done, m_law_done, w, intB, g1, g2, frzM, frzT, thawB, ixMD, unmu, atI0, atI2, isNonB, elder, h1, h2, h3, h4, appMM, viewM, putM, setMS, Cell.own, Cell.put, D.isMu, h5]
end NK

set_option Elab.async false
set_option linter.all false
set_option maxRecDepth 100000
set_option maxHeartbeats 4000000
namespace NK
open PySem PySem.Spec PyProof.Rows L2
def goneL (us : List Rule) (N P : List Int) : List Int := N.filter fun n => !decide (n ∈ keptU us N ++ P)
def stayL (us : List Rule) (N P : List Int) : List Int := N.filter fun n => !decide (n ∈ goneL us N P)
theorem keptU_sub (us : List Rule) (N : List Int) : (keptU us N).length ≤ N.length := by
  unfold keptU
  exact List.length_filter_le _ _
theorem gone_ok (us : List Rule) (N P : List Int) (l : Option Int) (g : ∀ u ∈ us, GoodU u) (hu : us.length ≤ 20) (h : N.Pairwise (· < ·)) (hN : N.length ≤ 10000) (hP : P.length ≤ 10000) :
    F_gone_of [.sh (keepD us N P l)] = some (.val (true, .lst ((goneL us N P).map .int)) [.no]) := by
  have e := kept_of_ok us N g h hN hu
  have k1 := keptU_sub us N
  have hz : (keptU us N).length + P.length ≤ 1000000 := by omega
  have hz2 : N.length ≤ 1000000 := by omega
  have k := lcL_filter (t := setT 2) (p := p1_gone_of) (f := c2_gone_of) (vs := [2]) (emb := D.int) (y := fun n => .int n) (c := fun n => !decide (n ∈ keptU us N ++ P)) (e := [.sh (keepD us N P l), .sh (.lst ((keptU us N ++ P).map .int)), .no]) (xs := N)
    (fun n hn => ⟨[.sh (keepD us N P l), .sh (.lst ((keptU us N ++ P).map .int)), .sh (.int n)], [.sh (keepD us N P l), .sh (.lst ((keptU us N ++ P).map .int)), .sh (.int n)], rfl, by simp [p1_gone_of, -List.map_append], fun _ => rfl, fun _ => ⟨_, rfl, rfl⟩⟩)
  have em : D.lst (List.map D.int (keptU us N) ++ List.map D.int P) = .lst ((keptU us N ++ P).map .int) := by rw [List.map_append]
  have em2 : List.map D.int (keptU us N) ++ List.map D.int P = (keptU us N ++ P).map .int := by rw [List.map_append]
  simp [F_gone_of, m_gone_of, fldM, fldD, List.lookup_cons, unmu, e, hz, hz2, -List.map_append, em2, k, goneL, -List.mem_append]
theorem let_go_ok (us : List Rule) (N P : List Int) (l : Option Int) (g : ∀ u ∈ us, GoodU u) (hu : us.length ≤ 20) (h : N.Pairwise (· < ·)) (hN : N.length ≤ 10000) (hP : P.length ≤ 10000) :
    F_Keep_let_go [.io (keepD us N P l)] = some (.val (false, .lst ((goneL us N P).map .int)) [.io (keepD us (stayL us N P) P l)]) := by
  have e := gone_ok us N P l g hu h hN hP
  have hz2 : N.length ≤ 1000000 := by omega
  have k := lcL_filter (t := setT 2) (p := p1_Keep_let_go) (f := c2_Keep_let_go) (vs := [2]) (emb := D.int) (y := fun n => .int n) (c := fun n => !decide (n ∈ goneL us N P)) (e := [.sh (keepD us N P l), .sh (.lst ((goneL us N P).map .int)), .no]) (xs := N)
    (fun n hn => ⟨[.sh (keepD us N P l), .sh (.lst ((goneL us N P).map .int)), .sh (.int n)], [.sh (keepD us N P l), .sh (.lst ((goneL us N P).map .int)), .sh (.int n)], rfl, by simp [p1_Keep_let_go], fun _ => rfl, fun _ => ⟨_, rfl, rfl⟩⟩)
  have t1 := thaw_ints (goneL us N P)
  have t2 := thaw_ints (N.filter fun n => !decide (n ∈ goneL us N P))
  simp [F_Keep_let_go, m_Keep_let_go, frzN, e, thawN, t1, fldM, fldD, List.lookup_cons, unmu, hz2, k, t2, fldNS, viewO, putO, putFD, fldOk, Cell.own, Cell.put, stayL]
theorem law_gone_ok (us : List Rule) (N P : List Int) (l : Option Int) (g : ∀ u ∈ us, GoodU u) (hu : us.length ≤ 20) (hN : N.length ≤ 10000) (hP : P.length ≤ 10000) :
    F_law_gone [.sh (.tup (us.map ruleD)), .sh (mdlD N P l)] = some (.val (true, .lst ((goneL us N P).map .int)) [.no, .no]) := by
  have e := law_kept_ok us N g hN hu
  have k1 := keptU_sub us N
  have hz : (keptU us N).length + P.length ≤ 1000000 := by omega
  have hz2 : N.length ≤ 1000000 := by omega
  have k := lcL_filter (t := setT 3) (p := p1_law_gone) (f := c2_law_gone) (vs := [3]) (emb := D.int) (y := fun n => .int n) (c := fun n => !decide (n ∈ keptU us N ++ P)) (e := [.sh (.tup (us.map ruleD)), .sh (mdlD N P l), .sh (.lst ((keptU us N ++ P).map .int)), .no]) (xs := N)
    (fun n hn => ⟨[.sh (.tup (us.map ruleD)), .sh (mdlD N P l), .sh (.lst ((keptU us N ++ P).map .int)), .sh (.int n)], [.sh (.tup (us.map ruleD)), .sh (mdlD N P l), .sh (.lst ((keptU us N ++ P).map .int)), .sh (.int n)], rfl, by simp [p1_law_gone, -List.map_append], fun _ => rfl, fun _ => ⟨_, rfl, rfl⟩⟩)
  have em2 : List.map D.int (keptU us N) ++ List.map D.int P = (keptU us N ++ P).map .int := by rw [List.map_append]
  simp [F_law_gone, m_law_gone, ixMD, atI0, atI1, unmu, e, hz, hz2, -List.map_append, em2, k, goneL, -List.mem_append]
theorem done_let_go (us : List Rule) (N P : List Int) (l : Option Int) (x : D) (g : ∀ u ∈ us, GoodU u) (hu : us.length ≤ 20) (hN : N.length ≤ 10000) (hP : P.length ≤ 10000) :
    F_law_done [.sh (.tup (us.map ruleD)), .io (mdlD N P l), .sh (.int 1), .sh x] = some (.val (false, .tup [.str "found", .lst ((goneL us N P).map .int)]) [.no, .io (mdlD (stayL us N P) P l), .no, .no]) := by
  have e := law_gone_ok us N P l g hu hN hP
  have hz2 : N.length ≤ 1000000 := by omega
  have k := lcL_filter (t := setT 5) (p := p1_law_done) (f := c2_law_done) (vs := [5]) (emb := D.int) (y := fun n => .int n) (c := fun n => !decide (n ∈ goneL us N P)) (e := [.sh (.tup (us.map ruleD)), .sh (mdlD N P l), .sh (.int 1), .sh x, .sh (.lst ((goneL us N P).map .int)), .no]) (xs := N)
    (fun n hn => ⟨[.sh (.tup (us.map ruleD)), .sh (mdlD N P l), .sh (.int 1), .sh x, .sh (.lst ((goneL us N P).map .int)), .sh (.int n)], [.sh (.tup (us.map ruleD)), .sh (mdlD N P l), .sh (.int 1), .sh x, .sh (.lst ((goneL us N P).map .int)), .sh (.int n)], rfl, by simp [p1_law_done], fun _ => rfl, fun _ => ⟨_, rfl, rfl⟩⟩)
  have t1 := thaw_ints (goneL us N P)
  have t2 := thaw_ints (N.filter fun n => !decide (n ∈ goneL us N P))
  simp [F_law_done, m_law_done, frzN, e, thawN, t1, ixMD, atI0, unmu, hz2, k, t2, setMN, viewM, putM, Cell.own, Cell.put, stayL]
end NK

set_option Elab.async false
set_option linter.all false
set_option maxRecDepth 100000
set_option maxHeartbeats 4000000
namespace NK
open PySem PySem.Spec PyProof.Rows L2
/-! ### deeds with any thing -/
def heldB (N : List Int) : D → Bool
  | .int i => decide (i ∈ N)
  | _ => false
def intOf : D → Int
  | .int i => i
  | _ => 0
theorem heldB_of {N : List Int} {d : D} (h : heldB N d = true) : ∃ i, d = .int i ∧ i ∈ N := by
  cases d with
  | int i => exact ⟨i, rfl, by simpa [heldB] using h⟩
  | _ => simp [heldB] at h
theorem plain_mu {d : D} (h : plainD d = true) : d.isMu = false := by cases d <;> first | rfl | cases h
theorem is_number_self {d : D} (h : plainD d = true) : F_is_number [.sh d, .sh (.int 0), .sh d] = some (.val (false, .bl (match d with | .int i => decide (0 ≤ i) | _ => false)) [.no, .no, .no]) := by
  cases d with
  | int i =>
    have e := is_number_int i 0 i
    simp only [e]
    simp
  | ex _ _ => cases h
  | mu _ => cases h
  | ml _ => cases h
  | ty _ => cases h
  | cl _ => cases h
  | ob _ _ => cases h
  | fl _ => cases h
  | _ => simp [F_is_number, m_is_number]
section
variable (us : List Rule) (N P : List Int) (l : Option Int)
theorem look_held_any (hN : ∀ n ∈ N, 0 ≤ n) {d : D} (h : plainD d = true) : F_look_held [.sh (keepD us N P l), .sh d] = if heldB N d = true then some (.val (false, .non) [.no, .no]) else some (.exc { nm := "NotHeld" } [.no, .no]) := by
  have e := is_number_self h
  cases d with
  | int i =>
    by_cases h0 : 0 ≤ i
    · by_cases h1 : i ∈ N
      · simp [F_look_held, m_look_held, e, h0, fldM, fldD, List.lookup_cons, unmu, heldB, h1]
      · simp [F_look_held, m_look_held, e, h0, fldM, fldD, List.lookup_cons, unmu, heldB, h1]
    · have h1 : i ∉ N := fun q => h0 (hN i q)
      simp [F_look_held, m_look_held, e, h0, heldB, h1]
  | _ => simp [F_look_held, m_look_held, e, heldB]
theorem pin_any (hN : ∀ n ∈ N, 0 ≤ n) (hP : P.length ≤ 10000) {d : D} (h : plainD d = true) : F_Keep_pin [.io (keepD us N P l), .sh d] =
    if heldB N d = true then (if heldB P d = true then some (.exc { nm := "Pinned" } [.io (keepD us N P l), .no]) else some (.val (false, .non) [.io (keepD us N (sortI (P ++ [intOf d])) l), .no])) else some (.exc { nm := "NotHeld" } [.io (keepD us N P l), .no]) := by
  have e := look_held_any us N P l hN h
  by_cases h1 : heldB N d = true
  · rw [if_pos h1] at e ⊢
    obtain ⟨i, rfl, hi⟩ := heldB_of h1
    by_cases h2 : i ∈ P
    · simp [F_Keep_pin, m_Keep_pin, frzM, frzT, e, thawX, thawB, fldM, fldD, List.lookup_cons, unmu, heldB, h2]
    · have em2 : List.map D.int P ++ [.int i] = (P ++ [i]).map .int := by simp
      have hz : P.length + 1 ≤ 1000000 := by omega
      have t := thaw_ints (sortI (P ++ [i]))
      have hz2 : P.length ≤ 999999 := by omega
      simp [F_Keep_pin, m_Keep_pin, frzM, frzT, frzN, thawN, e, thawX, thawB, fldM, fldD, List.lookup_cons, unmu, heldB, h2, em2, -List.map_append, hz, hz2, t, fldNS, viewO, putO, putFD, fldOk, Cell.own, Cell.put, intOf]
  · rw [if_neg h1] at e ⊢
    simp [F_Keep_pin, m_Keep_pin, frzM, e, thawX, thawB]
theorem unpin_any (hP0 : ∀ n ∈ P, 0 ≤ n) (hP : P.length ≤ 10000) {d : D} (h : plainD d = true) : F_Keep_unpin [.io (keepD us N P l), .sh d] =
    if heldB P d = true then some (.val (false, .non) [.io (keepD us N (P.filter fun n => !decide (n = intOf d)) l), .no]) else some (.exc { nm := "NotPinned" } [.io (keepD us N P l), .no]) := by
  have e := is_number_self h
  cases d with
  | int i =>
    have hz2 : P.length ≤ 1000000 := by omega
    have k := lcL_filter (t := setT 2) (p := p1_Keep_unpin) (f := c2_Keep_unpin) (vs := [2]) (emb := D.int) (y := fun n => .int n) (c := fun n => !decide (n = i)) (e := [.sh (keepD us N P l), .sh (.int i), .no]) (xs := P)
      (fun n hn => ⟨[.sh (keepD us N P l), .sh (.int i), .sh (.int n)], [.sh (keepD us N P l), .sh (.int i), .sh (.int n)], rfl, by simp [p1_Keep_unpin], fun _ => rfl, fun _ => ⟨_, rfl, rfl⟩⟩)
    by_cases h0 : 0 ≤ i
    · by_cases h1 : i ∈ P
      · have t := thaw_ints (P.filter fun n => !decide (n = i))
        simp [F_Keep_unpin, m_Keep_unpin, frzN, frzT, thawN, e, h0, fldM, fldD, List.lookup_cons, unmu, heldB, h1, intOf, hz2, k, t, fldNS, viewO, putO, putFD, fldOk, Cell.own, Cell.put]; rfl
      · simp [F_Keep_unpin, m_Keep_unpin, frzT, e, h0, fldM, fldD, List.lookup_cons, unmu, heldB, h1]
    · have h1 : i ∉ P := fun q => h0 (hP0 i q)
      simp [F_Keep_unpin, m_Keep_unpin, frzT, e, h0, heldB, h1]
  | _ => simp [F_Keep_unpin, m_Keep_unpin, frzT, e, heldB]
theorem take_any {d : D} (h : plainD d = true) (hb : numB d 0 1000000000 = false) : F_Keep_take [.io (keepD us N P l), .sh d] = some (.exc { nm := "BadNight" } [.io (keepD us N P l), .no]) := by
  have e := look_night_any h
  rw [hb, if_neg Bool.false_ne_true] at e
  simp [F_Keep_take, m_Keep_take, frzM, F_look_taken, m_look_taken, e, thawX]
/-! the law's own keep -/
variable (R : D)
theorem done_bad {d : D} (h : plainD d = true) (hb : numB d 0 1000000000 = false) : F_law_done [.sh R, .io (mdlD N P l), .sh (.int 0), .sh d] = some (.val (false, .tup [.str "refused", .int 1]) [.no, .io (mdlD N P l), .no, .no]) := by
  have w := whole_any h
  cases d with
  | int i =>
    have hb' : ¬ (0 ≤ i ∧ i ≤ 1000000000) := by simpa [numB] using hb
    by_cases h1 : i < 0
    · simp [F_law_done, m_law_done, w, intB, h1]
    · have h2 : 1000000000 < i := by omega
      simp [F_law_done, m_law_done, w, intB, h1, h2]
  | _ => simp [F_law_done, m_law_done, w, intB]
theorem done_pin (hP : P.length ≤ 10000) {d : D} (h : plainD d = true) : F_law_done [.sh R, .io (mdlD N P l), .sh (.int 2), .sh d] =
    if heldB N d = true then (if heldB P d = true then some (.val (false, .tup [.str "refused", .int 8]) [.no, .io (mdlD N P l), .no, .no]) else some (.val (false, .tup [.str "found", .non]) [.no, .io (mdlD N (sortI (P ++ [intOf d])) l), .no, .no])) else some (.val (false, .tup [.str "refused", .int 7]) [.no, .io (mdlD N P l), .no, .no]) := by
  have w := whole_any h
  cases d with
  | int i =>
    by_cases h1 : i ∈ N
    · by_cases h2 : i ∈ P
      · simp [F_law_done, m_law_done, w, intB, frzM, frzT, thawB, ixMD, unmu, atI0, atI1, h1, h2, heldB]
      · have em2 : List.map D.int P ++ [.int i] = (P ++ [i]).map .int := by simp
        have hz : P.length + 1 ≤ 1000000 := by omega
        have hz2 : P.length ≤ 999999 := by omega
        have t := thaw_ints (sortI (P ++ [i]))
        simp [F_law_done, m_law_done, w, intB, frzM, frzN, thawN, frzT, thawB, ixMD, unmu, atI0, atI1, h1, h2, heldB, em2, -List.map_append, hz, hz2, t, setMN, viewM, putM, Cell.own, Cell.put, intOf]
    · simp [F_law_done, m_law_done, w, intB, frzM, frzT, thawB, ixMD, unmu, atI0, atI1, h1, heldB]
  | _ => simp [F_law_done, m_law_done, w, intB, frzT, heldB]
theorem done_unpin (hP : P.length ≤ 10000) {d : D} (h : plainD d = true) : F_law_done [.sh R, .io (mdlD N P l), .sh (.int 3), .sh d] =
    if heldB P d = true then some (.val (false, .tup [.str "found", .non]) [.no, .io (mdlD N (P.filter fun n => !decide (n = intOf d)) l), .no, .no]) else some (.val (false, .tup [.str "refused", .int 9]) [.no, .io (mdlD N P l), .no, .no]) := by
  have w := whole_any h
  cases d with
  | int i =>
    have hz2 : P.length ≤ 1000000 := by omega
    have k := lcL_filter (t := setT 5) (p := p3_law_done) (f := c4_law_done) (vs := [5]) (emb := D.int) (y := fun n => .int n) (c := fun n => !decide (n = i)) (e := [.sh R, .sh (mdlD N P l), .sh (.int 3), .sh (.int i), .no, .no]) (xs := P)
      (fun n hn => ⟨[.sh R, .sh (mdlD N P l), .sh (.int 3), .sh (.int i), .no, .sh (.int n)], [.sh R, .sh (mdlD N P l), .sh (.int 3), .sh (.int i), .no, .sh (.int n)], rfl, by simp [p3_law_done], fun _ => rfl, fun _ => ⟨_, rfl, rfl⟩⟩)
    by_cases h2 : i ∈ P
    · have t := thaw_ints (P.filter fun n => !decide (n = i))
      simp [F_law_done, m_law_done, w, intB, frzM, frzN, thawN, frzT, thawB, ixMD, unmu, atI0, atI1, h2, heldB, hz2, k, t, setMN, viewM, putM, Cell.own, Cell.put, intOf]; rfl
    · simp [F_law_done, m_law_done, w, intB, frzM, frzT, thawB, ixMD, unmu, atI0, atI1, h2, heldB]
  | _ => simp [F_law_done, m_law_done, w, intB, frzT, heldB]
end
end NK

set_option Elab.async false
set_option linter.all false
set_option maxRecDepth 100000
set_option maxHeartbeats 4000000
namespace NK
open PySem PySem.Spec PyProof.Rows L2
theorem lenI_nat (n : Nat) (e : NK.Env) (h : n < 1000000) : lenI (.int n) e = some (.val (.int n) e) := by
  unfold lenI
  exact if_pos ⟨by omega, by omega⟩
theorem len_keep (us : List Rule) (N P : List Int) (l : Option Int) : F_Keep_len [.sh (keepD us N P l)] = some (.val (false, .int N.length) [.no]) := by
  simp [F_Keep_len, m_Keep_len, fldM, fldD, List.lookup_cons, unmu]
theorem held_keep (us : List Rule) (N P : List Int) (l : Option Int) : F_Keep_held [.sh (keepD us N P l)] = some (.val (false, .lst (N.map .int)) [.no]) := by
  simp [F_Keep_held, m_Keep_held, fldM, fldD, List.lookup_cons, unmu]
theorem pins_keep (us : List Rule) (N P : List Int) (l : Option Int) : F_Keep_pins [.sh (keepD us N P l)] = some (.val (false, .lst (P.map .int)) [.no]) := by
  simp [F_Keep_pins, m_Keep_pins, fldM, fldD, List.lookup_cons, unmu]
theorem like_ok (us : List Rule) (N P : List Int) (l : Option Int) (hN : N.length ≤ 10000) (hP : P.length ≤ 10000) : F_law_like [.sh (keepD us N P l), .sh (mdlD N P l)] = some (.val (false, .bl true) [.no, .no]) := by
  have w := wholes_ints (N ++ P) (by rw [List.length_append]; omega)
  have hz : N.length + P.length ≤ 1000000 := by omega
  have em2 : List.map D.int N ++ List.map D.int P = (N ++ P).map .int := by rw [List.map_append]
  have li := lenI_nat N.length [.sh (keepD us N P l), .sh (mdlD N P l)] (by omega)
  simp [F_law_like, m_law_like, methM, NK.isObj, endE, appF, List.lookup_cons, held_keep, pins_keep, len_keep, ixMD, atI0, atI1, unmu, hz, em2, -List.map_append, w, lenOM, li]
end NK

set_option Elab.async false
set_option linter.all false
set_option maxRecDepth 100000
set_option maxHeartbeats 4000000
namespace NK
open PySem PySem.Spec PyProof.Rows L2
/-! ### a deed in a keep and in the law's own keep -/
structure OneOk (F1 : Fn) (k : Int) : Prop where
  v : ∀ {T T' d : D}, F_law_keep_one [.sh (.int k), .io T] = some (.val (false, d) [.no, .io T']) → F1 [.sh (.int k), .io T] = some (.val (false, d) [.no, .io T'])
  x : ∀ {T T' : D} {e : Exn}, F_law_keep_one [.sh (.int k), .io T] = some (.exc e [.no, .io T']) → F1 [.sh (.int k), .io T] = some (.exc e [.no, .io T'])
/-- held nights rise up to the last one taken; the pinned ones are held and rise -/
structure InvP (N P : List Int) (l : Option Int) : Prop where
  c : N.length ≤ 100
  r : N.Pairwise (· < ·)
  z : ∀ n ∈ N, 0 ≤ n
  b : ∀ n ∈ N, ∃ m, l = some m ∧ n ≤ m
  e : ∀ m, l = some m → 0 ≤ m ∧ m ≤ 1000000000
  p : ∀ n ∈ P, n ∈ N
  pr : P.Pairwise (· < ·)
theorem InvP.nil : InvP [] [] none := ⟨by simp, .nil, by simp, by simp, by simp, by simp, .nil⟩
theorem sortI_perm (ns : List Int) : (sortI ns).Perm ns := List.mergeSort_perm _ _
theorem sortI_sorted (ns : List Int) : (sortI ns).Pairwise (· ≤ ·) := by
  have := List.pairwise_mergeSort (le := fun a b : Int => decide (a ≤ b)) (fun a b c h1 h2 => by simp at *; omega) (fun a b => by simp; omega) ns
  exact this.imp fun h => by simpa using h
theorem sortI_strict {ns : List Int} (h : ns.Nodup) : (sortI ns).Pairwise (· < ·) := by
  have h1 := sortI_sorted ns
  have h2 : (sortI ns).Nodup := (sortI_perm ns).nodup_iff.mpr h
  exact (h1.and h2).imp fun h => by omega
theorem pw_nodup {ns : List Int} (h : ns.Pairwise (· < ·)) : ns.Nodup := h.imp fun h e => by omega
theorem InvP.taken {N P : List Int} {l : Option Int} {n : Int} (I : InvP N P l) (hn : 0 ≤ n ∧ n ≤ 1000000000) (h : okT' N l n = true) : InvP (N ++ [n]) P (some n) := by
  simp [okT'] at h
  have he : ∀ m, l = some m → m < n := fun m hm => by subst hm; have := h.1; simp [elder] at this; omega
  refine ⟨by rw [List.length_append]; simp; omega, ?_, ?_, ?_, ?_, fun x hx => List.mem_append_left _ (I.p x hx), I.pr⟩
  · rw [List.pairwise_append]
    refine ⟨I.r, by simp, fun a ha b hb => ?_⟩
    simp at hb; subst hb
    obtain ⟨m, h1, h2⟩ := I.b a ha
    have := he m h1
    omega
  · intro x hx
    rcases List.mem_append.mp hx with q | q
    · exact I.z x q
    · simp at q; omega
  · intro x hx
    refine ⟨n, rfl, ?_⟩
    rcases List.mem_append.mp hx with q | q
    · obtain ⟨m, h1, h2⟩ := I.b x q
      have := he m h1
      omega
    · simp at q; omega
  · intro m hm; cases hm; exact hn
theorem mem_stay {us : List Rule} {N P : List Int} {n : Int} : n ∈ stayL us N P ↔ n ∈ N ∧ (n ∈ keptU us N ∨ n ∈ P) := by
  unfold stayL goneL
  simp only [List.mem_filter, Bool.not_eq_true', decide_eq_false_iff_not, List.mem_append]
  constructor
  · rintro ⟨h1, h2⟩
    refine ⟨h1, ?_⟩
    by_cases h3 : n ∈ keptU us N ∨ n ∈ P
    · exact h3
    · exact absurd ⟨h1, h3⟩ h2
  · rintro ⟨h1, h2⟩
    exact ⟨h1, fun h3 => h3.2 h2⟩
theorem stay_eq (us : List Rule) (N P : List Int) : stayL us N P = N.filter fun n => decide (n ∈ keptU us N ∨ n ∈ P) := by
  unfold stayL
  apply List.filter_congr
  intro n hn
  have := @mem_stay us N P n
  unfold stayL at this
  simp only [List.mem_filter] at this
  by_cases h : n ∈ goneL us N P
  · simp [h] at this ⊢
    have := this hn
    simp [this]
  · simp [h] at this ⊢
    have := this hn
    simpa using this
theorem stay_sub (us : List Rule) (N P : List Int) : (stayL us N P).Sublist N := List.filter_sublist
theorem InvP.stay {us : List Rule} {N P : List Int} {l : Option Int} (I : InvP N P l) : InvP (stayL us N P) P l :=
  ⟨Nat.le_trans (stay_sub us N P).length_le I.c, I.r.sublist (stay_sub us N P), fun n hn => I.z n ((stay_sub us N P).mem hn), fun n hn => I.b n ((stay_sub us N P).mem hn), I.e, fun n hn => mem_stay.mpr ⟨I.p n hn, .inr hn⟩, I.pr⟩
theorem InvP.pinned {N P : List Int} {l : Option Int} {n : Int} (I : InvP N P l) (hn : n ∈ N) (h : n ∉ P) : InvP N (sortI (P ++ [n])) l := by
  refine ⟨I.c, I.r, I.z, I.b, I.e, fun x hx => ?_, sortI_strict ?_⟩
  · rw [(sortI_perm _).mem_iff, List.mem_append] at hx
    rcases hx with q | q
    · exact I.p x q
    · simp at q; subst q; exact hn
  · rw [List.nodup_append]
    exact ⟨pw_nodup I.pr, by simp, fun a ha b hb e => by simp at hb; subst hb; subst e; exact h ha⟩
theorem InvP.unpinned {N P : List Int} {l : Option Int} {n : Int} (I : InvP N P l) : InvP N (P.filter fun x => !decide (x = n)) l :=
  ⟨I.c, I.r, I.z, I.b, I.e, fun x hx => I.p x (List.mem_filter.mp hx).1, I.pr.sublist List.filter_sublist⟩
/-- what is told of it may be compared -/
def dueD (d : D) : Prop := fit d = true ∧ (∃ x y, d = .tup [x, y])
theorem due_ref (i : Int) : dueD (.tup [.str "refused", .int i]) := ⟨by simp [fit, clay, clays, dep, deps]; decide +kernel, _, _, rfl⟩
theorem due_non : dueD (.tup [.str "found", .non]) := ⟨by simp [fit, clay, clays, dep, deps]; decide +kernel, _, _, rfl⟩
theorem due_ints (l : List Int) : dueD (.tup [.str "found", .lst (l.map .int)]) := by
  refine ⟨?_, _, _, rfl⟩
  have := deps_int l
  simp [fit, clay, clays, dep, deps]
  exact ⟨by decide +kernel, by omega⟩
theorem due_T (N : List Int) (l : Option Int) (n : Int) : dueD (dueT N l n) := by
  unfold dueT
  split
  · exact due_ref _
  · split
    · exact due_ref _
    · exact due_non
theorem lk_keep (us : List Rule) (N P : List Int) (l : Option Int) (m : Str) (h : m = "take" ∨ m = "let_go" ∨ m = "pin" ∨ m = "unpin") : ([("rules", .tup (us.map ruleD)), ("nights", .mu (.lst (N.map .int))), ("pinned", .mu (.lst (P.map .int))), ("last", lastD l)] : List (Str × D)).lookup m = none := by
  rcases h with h | h | h | h <;> subst h <;> simp [List.lookup_cons]
theorem deed_ok {F1 : Fn} {k : Int} (hk : k = 0 ∨ k = 1 ∨ k = 2 ∨ k = 3) (o : OneOk F1 k) (us : List Rule) (g : ∀ u ∈ us, GoodU u) (hu : us.length ≤ 20) {N P : List Int} {l : Option Int} (I : InvP N P l) (hP : P.length ≤ 9999) {d : D} (hd : plainD d = true) :
    ∃ N' P' l' due, InvP N' P' l' ∧ P'.length ≤ P.length + 1 ∧ dueD due ∧
      toldO F1 [.sh (.int k), .io (.tup [.mu (keepD us N P l), d])] = some (.val (false, due) [.no, .io (.tup [.mu (keepD us N' P' l'), d])]) ∧
      F_law_done [.sh (.tup (us.map ruleD)), .io (mdlD N P l), .sh (.int k), .sh d] = some (.val (false, due) [.no, .io (mdlD N' P' l'), .no, .no]) := by
  have hm := plain_mu hd
  have hc := I.c
  rcases hk with hk | hk | hk | hk
  · subst hk
    cases hb : numB d 0 1000000000 with
    | false => exact ⟨N, P, l, _, I, by omega, due_ref 1, toldO_exc (o.x (one_takeX (lk_keep us N P l "take" (by simp)) hm (take_any us N P l hd hb))) exin_1 exup_1 (word_1 _), done_bad N P l _ hd hb⟩
    | true =>
      obtain ⟨n, rfl, h0, h1⟩ := numB_of hb
      have e := take_ok us N P l n ⟨h0, h1⟩
      have f := done_take (.tup (us.map ruleD)) N P l n ⟨h0, h1⟩ hc
      by_cases h : okT' N l n = true
      · rw [if_pos h] at f
        refine ⟨N ++ [n], P, some n, _, I.taken ⟨h0, h1⟩ h, by omega, due_T N l n, ?_, f⟩
        simp [okT'] at h
        rw [if_neg (by simp [h.1]), if_neg (by omega)] at e
        have hdue : dueT N l n = .tup [.str "found", .non] := by unfold dueT; rw [if_neg (by simp [h.1]), if_neg (by omega)]
        rw [hdue]
        exact toldO_val (o.v (one_take (lk_keep us N P l "take" (by simp)) hm e))
      · rw [if_neg h] at f
        refine ⟨N, P, l, _, I, by omega, due_T N l n, ?_, f⟩
        by_cases h2 : elder n l = true
        · rw [if_pos h2] at e
          have hdue : dueT N l n = .tup [.str "refused", .int 5] := by unfold dueT; rw [if_pos h2]
          rw [hdue]
          exact toldO_exc (o.x (one_takeX (lk_keep us N P l "take" (by simp)) hm e)) exin_5 exup_5 (word_5 _)
        · rw [if_neg h2] at e
          have h3 : 100 ≤ N.length := by
            simp [okT'] at h
            have h2' : elder n l = false := by simpa using h2
            exact h h2'
          rw [if_pos h3] at e
          have hdue : dueT N l n = .tup [.str "refused", .int 6] := by unfold dueT; rw [if_neg h2, if_pos h3]
          rw [hdue]
          exact toldO_exc (o.x (one_takeX (lk_keep us N P l "take" (by simp)) hm e)) exin_6 exup_6 (word_6 _)
  · subst hk
    have e := let_go_ok us N P l g hu I.r (by omega) (by omega)
    exact ⟨stayL us N P, P, l, _, I.stay, by omega, due_ints _, toldO_val (o.v (one_let_go (lk_keep us N P l "let_go" (by simp)) hm e)), done_let_go us N P l d g hu (by omega) (by omega)⟩
  · subst hk
    have e := pin_any us N P l I.z (by omega) hd
    have f := done_pin N P l (.tup (us.map ruleD)) (by omega) hd
    by_cases h1 : heldB N d = true
    · rw [if_pos h1] at e f
      by_cases h2 : heldB P d = true
      · rw [if_pos h2] at e f
        exact ⟨N, P, l, _, I, by omega, due_ref 8, toldO_exc (o.x (one_pinX (lk_keep us N P l "pin" (by simp)) hm e)) exin_8 exup_8 (word_8 _), f⟩
      · rw [if_neg h2] at e f
        obtain ⟨i, rfl, hi⟩ := heldB_of h1
        exact ⟨N, _, l, _, I.pinned hi (by simpa [heldB] using h2), by rw [(sortI_perm _).length_eq]; simp, due_non, toldO_val (o.v (one_pin (lk_keep us N P l "pin" (by simp)) hm e)), f⟩
    · rw [if_neg h1] at e f
      exact ⟨N, P, l, _, I, by omega, due_ref 7, toldO_exc (o.x (one_pinX (lk_keep us N P l "pin" (by simp)) hm e)) exin_7 exup_7 (word_7 _), f⟩
  · subst hk
    have e := unpin_any us N P l (fun n hn => I.z n (I.p n hn)) (by omega) hd
    have f := done_unpin N P l (.tup (us.map ruleD)) (by omega) hd
    by_cases h1 : heldB P d = true
    · rw [if_pos h1] at e f
      exact ⟨N, _, l, _, I.unpinned, Nat.le_trans (List.length_filter_le _ _) (by omega), due_non, toldO_val (o.v (one_unpin (lk_keep us N P l "unpin" (by simp)) hm e)), f⟩
    · rw [if_neg h1] at e f
      exact ⟨N, P, l, _, I, by omega, due_ref 9, toldO_exc (o.x (one_unpinX (lk_keep us N P l "unpin" (by simp)) hm e)) exin_9 exup_9 (word_9 _), f⟩
end NK

set_option Elab.async false
set_option linter.all false
set_option maxRecDepth 100000
set_option maxHeartbeats 4000000
namespace NK
open PySem PySem.Spec PyProof.Rows L2
/-! ### small things that many laws want -/
@[simp] theorem eqDB_nn : eqDB (.lst []) (.lst []) = some true := by have := eqDB_nils []; simpa using this
theorem mem_of_at {α : Type} {l : List α} {j : Nat} {x : α} (h : l[j]? = some x) : x ∈ l := List.mem_of_getElem? h
theorem pick_plain (ns rest : List Int) (c : Int) (ds : List D) (hc : 0 ≤ c) (hc2 : c < 1000000) (hl : rest.length = ns.length) (h0 : 0 < ds.length) (h1 : ds.length < 1000000) (hp : ∀ d ∈ ds, plainD d = true) :
    ∃ (d : D) (rest' : List Int), plainD d = true ∧ d ∈ ds ∧ rest'.length = ns.length ∧ F_law_pick [.sh (.fl (ns.map .int)), .io (twn c rest), .sh (.lst ds)] = some (.val (false, d) [.no, .io (twn (c + 1) rest'), .no]) := by
  obtain ⟨j, d, rest', hj, hl', e⟩ := law_pick_ok ns rest c ds hc (by omega) hl h0 h1
  exact ⟨d, rest', hp d (mem_of_at hj), mem_of_at hj, hl', e⟩
theorem pick_int (ns rest : List Int) (c : Int) (is : List Int) (hc : 0 ≤ c) (hc2 : c < 1000000) (hl : rest.length = ns.length) (h0 : is ≠ []) (h1 : is.length < 1000000) :
    ∃ (i : Int) (rest' : List Int), i ∈ is ∧ rest'.length = ns.length ∧ F_law_pick [.sh (.fl (ns.map .int)), .io (twn c rest), .sh (.lst (is.map .int))] = some (.val (false, .int i) [.no, .io (twn (c + 1) rest'), .no]) := by
  obtain ⟨j, d, rest', hj, hl', e⟩ := law_pick_ok ns rest c (is.map .int) hc (by omega) hl (by rw [List.length_map]; exact List.length_pos_iff.mpr h0) (by rw [List.length_map]; exact h1)
  rw [List.getElem?_map] at hj
  obtain ⟨i, hi, rfl⟩ := Option.map_eq_some_iff.mp hj
  exact ⟨i, rest', mem_of_at hi, hl', e⟩
theorem seq_nx {m n : S} {e e' : NK.Env} (h : m e = some (.nx e')) : seqS m n e = n e' := by unfold seqS; rw [h]
theorem ite_f {t : M Bool} {m n : S} {e e' : NK.Env} (h : t e = some (.val false e')) : iteS t m n e = n e' := by unfold iteS; rw [h]
theorem ite_t {t : M Bool} {m n : S} {e e' : NK.Env} (h : t e = some (.val true e')) : iteS t m n e = m e' := by unfold iteS; rw [h]
theorem set_self {e : NK.Env} {v : Nat} {x : Cell} (h : e[v]? = some x) : e.set v x = e := by
  apply List.ext_getElem?
  intro j
  by_cases hj : v = j
  · subst hj; rw [h]; exact List.getElem?_set_self (List.getElem?_eq_some_iff.mp h).1
  · rw [List.getElem?_set_ne hj]
theorem wipe_set {e : NK.Env} {v : Nat} {x : Cell} (h : e[v]? = some .no) : wipeE (e.set v x) [v] = e := by
  simp only [wipeE, List.set_set]
  exact set_self h
/-- a list of ints that all answer, filtered -/
theorem lc_ints {t : Tg} {p : M Bool} {f : M D} {v : Nat} {c : Int → Bool} {e : NK.Env} {xs : List Int} (h : ∀ x ∈ xs, t (.int x) e = some (e.set v (.sh (.int x))) ∧ p (e.set v (.sh (.int x))) = some (.val (c x) (e.set v (.sh (.int x)))) ∧ f (e.set v (.sh (.int x))) = some (.val (.int x) (e.set v (.sh (.int x)))))
    (hv : e[v]? = some .no) : lcL t p f [v] (xs.map .int) e = some ((xs.filter c).map .int, e) :=
  lcL_filter (emb := D.int) (y := D.int) (fun x hx => ⟨_, _, (h x hx).1, (h x hx).2.1, fun _ => wipe_set hv, fun _ => ⟨_, (h x hx).2.2, wipe_set hv⟩⟩)
theorem int_map (l m : List Int) : l.map D.int ++ m.map D.int = (l ++ m).map .int := by rw [List.map_append]
end NK

set_option Elab.async false
set_option linter.all false
set_option maxRecDepth 100000
set_option maxHeartbeats 4000000
namespace K21
open PySem PySem.Spec PyProof.Rows L2 NK
structure Inv (us : List Rule) (A N P L G : List Int) (l : Option Int) : Prop where
  ip : InvP N P l
  oa : InvP A [] l
  sub : N.Sublist A
  kp : ∀ u ∈ us, ∀ x ∈ keepU u A, x ∈ N
  pl : P.Perm L
  gn : (G ++ N).Perm A
  pn : P.length ≤ A.length
theorem kept_mem {us : List Rule} {l : List Int} {x : Int} : x ∈ keptU us l ↔ ∃ u ∈ us, x ∈ keepU u l := by
  unfold keptU
  simp only [List.mem_filter, List.any_eq_true, decide_eq_true_eq]
  constructor
  · rintro ⟨_, u, hu, hx⟩; exact ⟨u, hu, hx⟩
  · rintro ⟨u, hu, hx⟩; exact ⟨(keepU_sub u l).subset hx, u, hu, hx⟩
theorem part_perm (p : Int → Bool) (l : List Int) : (l.filter p ++ l.filter fun x => !p x).Perm l := List.filter_append_perm p l
theorem gone_stay (us : List Rule) (N P : List Int) : (goneL us N P ++ stayL us N P).Perm N := by
  have h := part_perm (fun n => !decide (n ∈ keptU us N ++ P)) N
  have e : stayL us N P = N.filter fun x => !(!decide (x ∈ keptU us N ++ P)) := by
    rw [stay_eq]
    apply List.filter_congr
    intro x _
    simp
  rw [e]
  exact h
theorem Inv.let_go {us : List Rule} {A N P L G : List Int} {l : Option Int} (I : Inv us A N P L G l) :
    Inv us A (stayL us N P) P L (G ++ goneL us N P) l ∧ stayL us N P = A.filter fun n => decide (n ∈ keptU us A ++ L) := by
  have k : keptU us N = keptU us A := keptU_cut us I.sub I.oa.r I.kp
  refine ⟨⟨I.ip.stay, I.oa, (stay_sub us N P).trans I.sub, fun u hu x hx => mem_stay.mpr ⟨I.kp u hu x hx, .inl (by rw [k]; exact kept_mem.mpr ⟨u, hu, hx⟩)⟩, I.pl, ?_, I.pn⟩, ?_⟩
  · rw [List.append_assoc]
    exact ((gone_stay us N P).append_left G).trans I.gn
  · rw [stay_eq, k]
    have h1 : (N.filter fun n => decide (n ∈ keptU us A ∨ n ∈ P)) = N.filter fun n => decide (n ∈ keptU us A ++ L) := by
      apply List.filter_congr
      intro x _
      simp [I.pl.mem_iff]
    rw [h1]
    refine filter_cut _ I.sub (pw_nodup I.oa.r) fun x hx hq => ?_
    simp at hq
    rcases hq with q | q
    · obtain ⟨u, hu, hx⟩ := kept_mem.mp q
      exact I.kp u hu x hx
    · exact I.ip.p x (I.pl.mem_iff.mpr q)
theorem Inv.take {us : List Rule} (g : ∀ u ∈ us, GoodU u) {A N P L G : List Int} {l : Option Int} {n : Int} (I : Inv us A N P L G l) (hn : 0 ≤ n ∧ n ≤ 1000000000) (h : okT' A l n = true) (h2 : okT' N l n = true) : Inv us (A ++ [n]) (N ++ [n]) P L G (some n) := by
  refine ⟨I.ip.taken hn h2, I.oa.taken hn h, I.sub.append (List.Sublist.refl _), fun u hu x hx => ?_, I.pl, ?_, by rw [List.length_append]; have := I.pn; omega⟩
  · rcases keepU_snoc u (g u hu).m1 A n x hx with q | q
    · exact List.mem_append_left _ (I.kp u hu x q)
    · simp [q]
  · rw [← List.append_assoc]
    exact I.gn.append_right [n]
theorem Inv.pin {us : List Rule} {A N P L G : List Int} {l : Option Int} {n : Int} (I : Inv us A N P L G l) (hn : n ∈ N) (h : n ∉ L) (hp : P.length < A.length) : Inv us A N (sortI (P ++ [n])) (L ++ [n]) G l :=
  ⟨I.ip.pinned hn fun q => h (I.pl.mem_iff.mp q), I.oa, I.sub, I.kp, (sortI_perm _).trans (I.pl.append_right [n]), I.gn, by rw [(sortI_perm _).length_eq]; simp; omega⟩
theorem Inv.unpin {us : List Rule} {A N P L G : List Int} {l : Option Int} {n : Int} (I : Inv us A N P L G l) : Inv us A N (P.filter fun x => !decide (x = n)) (L.filter fun x => !decide (x = n)) G l :=
  ⟨I.ip.unpinned, I.oa, I.sub, I.kp, I.pl.filter _, I.gn, Nat.le_trans (List.length_filter_le _ _) I.pn⟩
abbrev en (S0 : D) (Tw : Cell) (us : List Rule) (nt A N P L G : List Int) (l : Option Int) (x8 x9 x10 x11 x12 : Cell) : NK.Env := [.sh S0, Tw, .sh (.tup (us.map ruleD)), .sh (.lst (nt.map .int)), .ow (keepD us N P l), .ow (keepD us A [] l), .sh (.lst (G.map .int)), .ow (.lst (L.map .int)), x8, x9, x10, x11, x12]
noncomputable section
def t1 : S := (withS (methOM "Keep" "take" F_Keep_take 2 4 (consM (varM 9) nilM)) fun _ => nxS)
def t2 : S := (withS (methOM "Keep" "take" F_Keep_take 2 5 (consM (varM 9) nilM)) fun _ => nxS)
def t3 : S := (setS 10 (callM F_law_draw 3 (consM (varM 0) (ownA 1 (consM (conM (.int 6)) nilM)))))
def t4a : S := (setS 6 (catLM (varM 6) (methOM "Keep" "let_go" F_Keep_let_go 1 4 nilM)))
def t4b : S := (setS 11 (frzN (catLM (callM F_law_kept 2 (consM (varM 2) (consM (cutM cutLD (varM 3) (pureM none) (partM (op2M addD (varM 8) (conM (.int 1))))) nilM))) (varM 7))))
def t4c : S := (iteS (frzT (boolM (op2M neD (methM "Keep" "held" F_Keep_held 1 (varM 4) nilM) (lcM (itM listOf (cutM cutLD (varM 3) (pureM none) (partM (op2M addD (varM 8) (conM (.int 1)))))) (setT 9) p1_law c2_law [9])))) (withS (conM (.bl false)) fun d e => some (.rt d e)) nxS)
def t5a : S := (setS 12 (fzkM 1 (callM F_law_pick 3 (consM (varM 0) (ownA 1 (consM (methM "Keep" "held" F_Keep_held 1 (varM 4) nilM) nilM))))))
def t5b : S := (iteS (frzT (boolM (op2M (inD true) (varM 12) (varM 7)))) (seqS (withS (methOM "Keep" "pin" F_Keep_pin 2 4 (consM (varM 12) nilM)) fun _ => nxS) (withS (appM 7 (varM 12)) fun _ => nxS)) nxS)
def t6a : S := (setS 12 (fzkM 1 (callM F_law_pick 3 (consM (varM 0) (ownA 1 (consM (varM 7) nilM))))))
def t6b : S := (withS (methOM "Keep" "unpin" F_Keep_unpin 2 4 (consM (varM 12) nilM)) fun _ => nxS)
def t6c : S := (newS 7 (frzN (lcM (itM listOf (varM 7)) (setT 9) p3_law c4_law [9])))
theorem b5_eq : b5_law = seqS t1 (seqS t2 (seqS t3 (seqS (iteS (boolM (op2M ltD (varM 10) (conM (.int 2)))) (seqS t4a (seqS t4b t4c)) nxS)
    (seqS (iteS (boolM (op2M eqD (varM 10) (conM (.int 2)))) (seqS t5a t5b) nxS)
    (iteS (frzT (andB (boolM (op2M eqD (varM 10) (conM (.int 3)))) (boolM (op2M neD (varM 7) (lstM nilM))))) (seqS t6a (seqS t6b t6c)) nxS))))) := rfl
end
section
variable {S0 : D} {Tw : Cell} {us : List Rule} {nt A N P L G : List Int} {l : Option Int} {x8 x9 x10 x11 x12 : Cell}
theorem okT_of {l : Option Int} {n : Int} (h : okT' N l n = true) : ¬ elder n l = true ∧ ¬ 100 ≤ N.length := by
  simp [okT'] at h
  exact ⟨by simp [h.1], by omega⟩
theorem s1 {n : Int} (hn : 0 ≤ n ∧ n ≤ 1000000000) (h : okT' N l n = true) (K5 : Cell) : t1 [.sh S0, Tw, .sh (.tup (us.map ruleD)), .sh (.lst (nt.map .int)), .ow (keepD us N P l), K5, .sh (.lst (G.map .int)), .ow (.lst (L.map .int)), x8, .sh (.int n), x10, x11, x12] =
    some (.nx [.sh S0, Tw, .sh (.tup (us.map ruleD)), .sh (.lst (nt.map .int)), .ow (keepD us (N ++ [n]) P (some n)), K5, .sh (.lst (G.map .int)), .ow (.lst (L.map .int)), x8, .sh (.int n), x10, x11, x12]) := by
  have e := take_ok us N P l n hn
  rw [if_neg (okT_of h).1, if_neg (okT_of h).2] at e
  simp [t1, methOM, viewO, Cell.own, endE, appF, List.lookup_cons, e, Cell.put]
theorem s2 {n : Int} (hn : 0 ≤ n ∧ n ≤ 1000000000) (h : okT' A l n = true) (K4 : Cell) : t2 [.sh S0, Tw, .sh (.tup (us.map ruleD)), .sh (.lst (nt.map .int)), K4, .ow (keepD us A P l), .sh (.lst (G.map .int)), .ow (.lst (L.map .int)), x8, .sh (.int n), x10, x11, x12] =
    some (.nx [.sh S0, Tw, .sh (.tup (us.map ruleD)), .sh (.lst (nt.map .int)), K4, .ow (keepD us (A ++ [n]) P (some n)), .sh (.lst (G.map .int)), .ow (.lst (L.map .int)), x8, .sh (.int n), x10, x11, x12]) := by
  have e := take_ok us A P l n hn
  rw [if_neg (okT_of h).1, if_neg (okT_of h).2] at e
  simp [t2, methOM, viewO, Cell.own, endE, appF, List.lookup_cons, e, Cell.put]
theorem s4a (g : ∀ u ∈ us, GoodU u) (hu : us.length ≤ 20) (I : Inv us A N P L G l) (hA : A.length ≤ 1000) :
    t4a (en S0 Tw us nt A N P L G l x8 x9 x10 x11 x12) = some (.nx (en S0 Tw us nt A (stayL us N P) P L (G ++ goneL us N P) l x8 x9 x10 x11 x12)) := by
  have hN := I.sub.length_le
  have hP := I.pn
  have hG : G.length ≤ A.length := by have := I.gn.length_eq; rw [List.length_append] at this; omega
  have hg : (goneL us N P).length ≤ N.length := List.length_filter_le _ _
  have e := let_go_ok us N P l g hu I.ip.r (by omega) (by omega)
  have z : G.length + (goneL us N P).length ≤ 1000000 := by omega
  simp [t4a, methOM, viewO, Cell.own, endE, appF, List.lookup_cons, e, Cell.put, z]
theorem s4b (g : ∀ u ∈ us, GoodU u) (hu : us.length ≤ 20) (hA : A.length ≤ 1000) (hL : L.length ≤ 1000) {k : Int} (hc : cutL (nt.map D.int) none (some (k + 1)) = A.map .int) :
    t4b (en S0 Tw us nt A N P L G l (.sh (.int k)) x9 x10 x11 x12) = some (.nx (en S0 Tw us nt A N P L G l (.sh (.int k)) x9 x10 (.sh (.lst ((keptU us A ++ L).map .int))) x12)) := by
  have e := law_kept_ok us A g (by omega) hu
  have hk : (keptU us A).length ≤ A.length := keptU_sub us A
  have z : (keptU us A).length + L.length ≤ 1000000 := by omega
  have t := thaw_ints (keptU us A ++ L)
  simp [t4b, frzN, hc, e, z, int_map, thawN, t, -List.map_append]
theorem s4c (hA : A.length ≤ 1000) {k n w : Int} (hc : cutL (nt.map D.int) none (some (k + 1)) = A.map .int) (hN : N = A.filter fun n => decide (n ∈ keptU us A ++ L)) :
    t4c (en S0 Tw us nt A N P L G l (.sh (.int k)) (.sh (.int n)) (.sh (.int w)) (.sh (.lst ((keptU us A ++ L).map .int))) x12) = some (.nx (en S0 Tw us nt A N P L G l (.sh (.int k)) (.sh (.int n)) (.sh (.int w)) (.sh (.lst ((keptU us A ++ L).map .int))) x12)) := by
  have h1 := held_keep us N P l
  have z : A.length ≤ 1000000 := by omega
  have lc := lc_ints (t := setT 9) (p := p1_law) (f := c2_law) (v := 9) (c := fun n => decide (n ∈ keptU us A ++ L)) (xs := A) (e := wipeE (frzEnv (en S0 Tw us nt A N P L G l (.sh (.int k)) (.sh (.int n)) (.sh (.int w)) (.sh (.lst ((keptU us A ++ L).map .int))) x12)) [9]) (fun x hx => ⟨rfl, by simp [p1_law, -List.mem_append, -List.map_append], by simp [c2_law]⟩) (by simp)
  rw [← hN] at lc
  generalize keptU us A ++ L = due at *
  simp at lc
  simp [t4c, frzT, hc, z, methM, NK.isObj, endE, appF, List.lookup_cons, h1, lc]
theorem s5a {c i : Int} {rest rest' : List Int} (e : F_law_pick [.sh S0, .io (twn c rest), .sh (.lst (N.map .int))] = some (.val (false, .int i) [.no, .io (twn (c + 1) rest'), .no])) :
    t5a (en S0 (.ow (twn c rest)) us nt A N P L G l x8 x9 x10 x11 x12) = some (.nx (en S0 (.ow (twn (c + 1) rest')) us nt A N P L G l x8 x9 x10 x11 (.sh (.int i)))) := by
  have h1 := held_keep us N P l
  simp [t5a, fzkM, fzkEnv, fzkPut, methM, NK.isObj, endE, appF, List.lookup_cons, h1, e, thawB, thawBs, thaw_ints, Cell.own, Cell.put]
theorem s5n {i : Int} (h : i ∈ L) : t5b (en S0 Tw us nt A N P L G l x8 x9 x10 x11 (.sh (.int i))) = some (.nx (en S0 Tw us nt A N P L G l x8 x9 x10 x11 (.sh (.int i)))) := by
  simp [t5b, frzT, h]
theorem s5y {i : Int} (I : Inv us A N P L G l) (hA : A.length ≤ 1000) (hi : i ∈ N) (h : i ∉ L) : t5b (en S0 Tw us nt A N P L G l x8 x9 x10 x11 (.sh (.int i))) = some (.nx (en S0 Tw us nt A N (sortI (P ++ [i])) (L ++ [i]) G l x8 x9 x10 x11 (.sh (.int i)))) := by
  have hP := I.pn
  have hL : L.length ≤ 1000 := by rw [← I.pl.length_eq]; omega
  have z : L.length < 1000000 := by omega
  have e := pin_any us N P l I.ip.z (by omega) (d := .int i) rfl
  rw [if_pos (by simp [heldB, hi]), if_neg (by simp [heldB, I.pl.mem_iff, h])] at e
  simp [t5b, frzT, h, methOM, viewO, Cell.own, endE, appF, List.lookup_cons, e, Cell.put, z, intOf]
theorem s6n {w : Int} (h : ¬ (w = 3 ∧ L ≠ [])) : iteS (frzT (andB (boolM (op2M eqD (varM 10) (conM (.int 3)))) (boolM (op2M neD (varM 7) (lstM nilM))))) (seqS t6a (seqS t6b t6c)) nxS (en S0 Tw us nt A N P L G l x8 x9 (.sh (.int w)) x11 x12) = some (.nx (en S0 Tw us nt A N P L G l x8 x9 (.sh (.int w)) x11 x12)) := by
  by_cases h1 : w = 3
  · have h2 : L = [] := Classical.byContradiction fun q => h ⟨h1, q⟩
    subst h1 h2
    simp [frzT]
  · simp [frzT, h1]
theorem s6t (h : L ≠ []) : frzT (andB (boolM (op2M eqD (varM 10) (conM (.int 3)))) (boolM (op2M neD (varM 7) (lstM nilM)))) (en S0 Tw us nt A N P L G l x8 x9 (.sh (.int 3)) x11 x12) = some (.val true (en S0 Tw us nt A N P L G l x8 x9 (.sh (.int 3)) x11 x12)) := by
  have hn : L.isEmpty = false := by cases L; exact absurd rfl h; rfl
  simp [frzT, hn]
theorem s6a {c i : Int} {rest rest' : List Int} (e : F_law_pick [.sh S0, .io (twn c rest), .sh (.lst (L.map .int))] = some (.val (false, .int i) [.no, .io (twn (c + 1) rest'), .no])) :
    t6a (en S0 (.ow (twn c rest)) us nt A N P L G l x8 x9 x10 x11 x12) = some (.nx (en S0 (.ow (twn (c + 1) rest')) us nt A N P L G l x8 x9 x10 x11 (.sh (.int i)))) := by
  simp [t6a, fzkM, fzkEnv, fzkPut, e, thawB, thawBs, thaw_ints, Cell.own, Cell.put]
theorem s6b {i : Int} (I : Inv us A N P L G l) (hA : A.length ≤ 1000) (hi : i ∈ P) : t6b (en S0 Tw us nt A N P L G l x8 x9 x10 x11 (.sh (.int i))) = some (.nx (en S0 Tw us nt A N (P.filter fun x => !decide (x = i)) L G l x8 x9 x10 x11 (.sh (.int i)))) := by
  have hP := I.pn
  have e := unpin_any us N P l (fun n hn => I.ip.z n (I.ip.p n hn)) (by omega) (d := .int i) rfl
  rw [if_pos (by simp [heldB, hi])] at e
  simp only [intOf] at e
  simp [t6b, methOM, viewO, Cell.own, endE, appF, List.lookup_cons, e, Cell.put]; rfl
theorem s6c {i n : Int} (hL : L.length ≤ 1000) : t6c (en S0 Tw us nt A N P L G l x8 (.sh (.int n)) x10 x11 (.sh (.int i))) = some (.nx (en S0 Tw us nt A N P (L.filter fun x => !decide (x = i)) G l x8 (.sh (.int n)) x10 x11 (.sh (.int i)))) := by
  have z : L.length ≤ 1000000 := by omega
  have lc := lc_ints (t := setT 9) (p := p3_law) (f := c4_law) (v := 9) (c := fun x => !decide (x = i)) (xs := L) (e := wipeE (frzEnv (en S0 Tw us nt A N P L G l x8 (.sh (.int n)) x10 x11 (.sh (.int i)))) [9]) (fun x hx => ⟨rfl, by simp [p3_law], by simp [c4_law]⟩) (by simp)
  have t := thaw_ints (L.filter fun x => !decide (x = i))
  simp at lc
  simp [t6c, frzN, z, lc, thawN, t]
end
theorem body (ns rest : List Int) (c : Int) (hc : 0 ≤ c) (hc2 : c < 100000) (hl : rest.length = ns.length) (us : List Rule) (g : ∀ u ∈ us, GoodU u) (hu : us.length ≤ 20) (nt A N P L G : List Int) (l : Option Int) (x8 x9 x10 x11 x12 : Cell) (I : Inv us A N P L G l) (hA : A.length ≤ 90) (n : Int)
    (hn : 0 ≤ n ∧ n ≤ 1000000000) (he : elder n l = false) (hcut : cutL (nt.map D.int) none (some ((A.length : Int) + 1)) = (A ++ [n]).map .int) :
    ∃ N' P' L' G' rest' c' y11 y12 y10, Inv us (A ++ [n]) N' P' L' G' (some n) ∧ rest'.length = ns.length ∧ c ≤ c' ∧ c' ≤ c + 2 ∧
      b5_law (en (.fl (ns.map .int)) (.ow (twn c rest)) us nt A N P L G l (.sh (.int A.length)) (.sh (.int n)) x10 x11 x12) =
        some (.nx (en (.fl (ns.map .int)) (.ow (twn c' rest')) us nt (A ++ [n]) N' P' L' G' (some n) (.sh (.int A.length)) (.sh (.int n)) y10 y11 y12)) := by
  have hN := I.sub.length_le
  have hP := I.pn
  have k1 : okT' N l n = true := by simp [okT', he]; omega
  have k2 : okT' A l n = true := by simp [okT', he]; omega
  obtain ⟨w, rest1, w0, w1, l1, e1⟩ := draw_ok ns rest c 6 hc (by omega) hl (by omega) (by omega)
  have I1 := I.take g hn k2 k1
  have hA1 : (A ++ [n]).length ≤ 1000 := by simp; omega
  have hL1 : L.length ≤ 1000 := by rw [← I.pl.length_eq]; omega
  have hz : (A ++ [n]).length = A.length + 1 := by simp
  rw [b5_eq, seq_nx (s1 hn k1 _), seq_nx (s2 hn k2 _)]
  have e3 : t3 (en (.fl (ns.map .int)) (.ow (twn c rest)) us nt (A ++ [n]) (N ++ [n]) P L G (some n) (.sh (.int A.length)) (.sh (.int n)) x10 x11 x12) = some (.nx (en (.fl (ns.map .int)) (.ow (twn (c + 1) rest1)) us nt (A ++ [n]) (N ++ [n]) P L G (some n) (.sh (.int A.length)) (.sh (.int n)) (.sh (.int w)) x11 x12)) := by
    simp [t3, e1]
  rw [seq_nx e3]
  by_cases h2 : w < 2
  · have h2' : ¬ w = 2 := by omega
    have q4 : iteS (boolM (op2M ltD (varM 10) (conM (.int 2)))) (seqS t4a (seqS t4b t4c)) nxS (en (.fl (ns.map .int)) (.ow (twn (c + 1) rest1)) us nt (A ++ [n]) (N ++ [n]) P L G (some n) (.sh (.int A.length)) (.sh (.int n)) (.sh (.int w)) x11 x12) =
        some (.nx (en (.fl (ns.map .int)) (.ow (twn (c + 1) rest1)) us nt (A ++ [n]) (stayL us (N ++ [n]) P) P L (G ++ goneL us (N ++ [n]) P) (some n) (.sh (.int A.length)) (.sh (.int n)) (.sh (.int w)) (.sh (.lst ((keptU us (A ++ [n]) ++ L).map .int))) x12)) := by
      rw [ite_t (e' := en (.fl (ns.map .int)) (.ow (twn (c + 1) rest1)) us nt (A ++ [n]) (N ++ [n]) P L G (some n) (.sh (.int A.length)) (.sh (.int n)) (.sh (.int w)) x11 x12) (by simp [h2]), seq_nx (s4a g hu I1 hA1), seq_nx (s4b g hu hA1 hL1 hcut), s4c hA1 hcut I1.let_go.2]
    rw [seq_nx q4, seq_nx (by rw [ite_f (e' := en (.fl (ns.map .int)) (.ow (twn (c + 1) rest1)) us nt (A ++ [n]) (stayL us (N ++ [n]) P) P L (G ++ goneL us (N ++ [n]) P) (some n) (.sh (.int A.length)) (.sh (.int n)) (.sh (.int w)) (.sh (.lst ((keptU us (A ++ [n]) ++ L).map .int))) x12) (by simp [h2'])]; rfl), s6n (by omega)]
    exact ⟨_, _, _, _, _, _, _, _, _, I1.let_go.1, l1, by omega, by omega, rfl⟩
  · rw [seq_nx (by rw [ite_f (e' := en (.fl (ns.map .int)) (.ow (twn (c + 1) rest1)) us nt (A ++ [n]) (N ++ [n]) P L G (some n) (.sh (.int A.length)) (.sh (.int n)) (.sh (.int w)) x11 x12) (by simp [h2])]; rfl)]
    by_cases h3 : w = 2
    · obtain ⟨i, rest2, hi, l2, e2⟩ := pick_int ns rest1 (c + 1) (N ++ [n]) (by omega) (by omega) l1 (by simp) (by simp; omega)
      by_cases hL : i ∈ L
      · rw [seq_nx (by rw [ite_t (e' := en (.fl (ns.map .int)) (.ow (twn (c + 1) rest1)) us nt (A ++ [n]) (N ++ [n]) P L G (some n) (.sh (.int A.length)) (.sh (.int n)) (.sh (.int w)) x11 x12) (by simp [h3]), seq_nx (s5a e2)]; exact s5n hL), s6n (by omega)]
        exact ⟨_, _, _, _, _, _, _, _, _, I1, l2, by omega, by omega, rfl⟩
      · rw [seq_nx (by rw [ite_t (e' := en (.fl (ns.map .int)) (.ow (twn (c + 1) rest1)) us nt (A ++ [n]) (N ++ [n]) P L G (some n) (.sh (.int A.length)) (.sh (.int n)) (.sh (.int w)) x11 x12) (by simp [h3]), seq_nx (s5a e2)]; exact s5y I1 hA1 hi hL), s6n (by omega)]
        exact ⟨_, _, _, _, _, _, _, _, _, I1.pin hi hL (by omega), l2, by omega, by omega, rfl⟩
    · rw [seq_nx (by rw [ite_f (e' := en (.fl (ns.map .int)) (.ow (twn (c + 1) rest1)) us nt (A ++ [n]) (N ++ [n]) P L G (some n) (.sh (.int A.length)) (.sh (.int n)) (.sh (.int w)) x11 x12) (by simp [h3])]; rfl)]
      by_cases h4 : w = 3 ∧ L ≠ []
      · obtain ⟨rfl, hL⟩ := h4
        obtain ⟨i, rest2, hi, l2, e2⟩ := pick_int ns rest1 (c + 1) L (by omega) (by omega) l1 hL (by omega)
        rw [ite_t (s6t hL), seq_nx (s6a e2), seq_nx (s6b I1 hA1 (I.pl.mem_iff.mpr hi)), s6c hL1]
        exact ⟨_, _, _, _, _, _, _, _, _, I1.unpin, l2, by omega, by omega, rfl⟩
      · rw [s6n h4]
        exact ⟨_, _, _, _, _, _, _, _, _, I1, l1, by omega, by omega, rfl⟩
theorem loop (ns : List Int) (us : List Rule) (g : ∀ u ∈ us, GoodU u) (hu : us.length ≤ 20) (nt : List Int) (hr : Rising nt) (hz : nt.length ≤ 50) (hb : ∀ x ∈ nt, 0 ≤ x ∧ x ≤ 1000000000) :
    ∀ (r A N P L G rest : List Int) (c : Int) (l : Option Int) (x8 x9 x10 x11 x12 : Cell), A ++ r = nt → 0 ≤ c → c + 2 * r.length < 100000 → rest.length = ns.length → Inv us A N P L G l → (∀ m, l = some m → m ∈ A) →
    ∃ N' P' L' G' rest' c' l' y8 y9 y10 y11 y12, Inv us nt N' P' L' G' l' ∧ rest'.length = ns.length ∧
      loopS (tupT 2 (consT (setT 8) (consT (setT 9) nilT))) b5_law (enumL (A.length : Int) (r.map .int)) (en (.fl (ns.map .int)) (.ow (twn c rest)) us nt A N P L G l x8 x9 x10 x11 x12) =
        some (.nx (en (.fl (ns.map .int)) (.ow (twn c' rest')) us nt nt N' P' L' G' l' y8 y9 y10 y11 y12))
  | [], A, N, P, L, G, rest, c, l, x8, x9, x10, x11, x12, ha, h0, h1, hl, I, hm => by
    have : A = nt := by simpa using ha
    subst this
    exact ⟨N, P, L, G, rest, c, l, x8, x9, x10, x11, x12, I, hl, rfl⟩
  | n :: r, A, N, P, L, G, rest, c, l, x8, x9, x10, x11, x12, ha, h0, h1, hl, I, hm => by
    simp only [List.length_cons] at h1
    have hl2 : A.length + (r.length + 1) = nt.length := by rw [← ha]; simp
    have he : elder n l = false := by
      cases l with
      | none => rfl
      | some m =>
        have h3 := hm m rfl
        have h4 : Rising (A ++ n :: r) := by rw [ha]; exact hr
        have := (List.pairwise_append.mp h4).2.2 m h3 n (by simp)
        simp [elder]; omega
    have hcut : cutL (nt.map D.int) none (some ((A.length : Int) + 1)) = (A ++ [n]).map .int := by
      rw [cutL_take _ (by omega) (by simp; omega)]
      have e1 : ((A.length : Int) + 1).toNat = A.length + 1 := by omega
      rw [e1, ← List.map_take, ← ha]
      congr 1
      rw [List.take_append, List.take_of_length_le (by omega)]
      simp
    obtain ⟨N', P', L', G', rest1, c1, y11, y12, y10, I', hl', d1, d2, e⟩ := body ns rest c h0 (by omega) hl us g hu nt A N P L G l (.sh (.int A.length)) (.sh (.int n)) x10 x11 x12 I (by omega) n (hb n (by rw [← ha]; simp)) he hcut
    obtain ⟨N2, P2, L2, G2, rest2, c2, l2, z8, z9, z10, z11, z12, I2, hl2', e2⟩ := loop ns us g hu nt hr hz hb r (A ++ [n]) N' P' L' G' rest1 c1 (some n) (.sh (.int A.length)) (.sh (.int n)) y10 y11 y12 (by rw [List.append_assoc]; exact ha) (by omega) (by omega) hl' I' (fun m q => by cases q; simp)
    refine ⟨N2, P2, L2, G2, rest2, c2, l2, z8, z9, z10, z11, z12, I2, hl2', ?_⟩
    have hlen : ((A ++ [n]).length : Int) = A.length + 1 := by simp
    rw [hlen] at e2
    show loopS _ _ (.tup [.int A.length, .int n] :: enumL (A.length + 1) (r.map .int)) _ = _
    rw [loop_nx (by rfl) e]
    exact e2
abbrev en2 (S0 : D) (Tw : Cell) (us : List Rule) (nt A N P G : List Int) (l : Option Int) (x7 x8 x9 x10 x11 x12 : Cell) : NK.Env := [.sh S0, Tw, .sh (.tup (us.map ruleD)), .sh (.lst (nt.map .int)), .ow (keepD us N P l), .ow (keepD us A [] l), .sh (.lst (G.map .int)), x7, x8, x9, x10, x11, x12]
theorem s4a' {S0 : D} {Tw : Cell} {us : List Rule} {nt A N P G : List Int} {l : Option Int} {x7 x8 x9 x10 x11 x12 : Cell} (g : ∀ u ∈ us, GoodU u) (hu : us.length ≤ 20) (hr : Rising N) (hN : N.length ≤ 1000) (hP : P.length ≤ 1000) (hG : G.length ≤ 1000) :
    t4a (en2 S0 Tw us nt A N P G l x7 x8 x9 x10 x11 x12) = some (.nx (en2 S0 Tw us nt A (stayL us N P) P (G ++ goneL us N P) l x7 x8 x9 x10 x11 x12)) := by
  have hg : (goneL us N P).length ≤ N.length := List.length_filter_le _ _
  have e := let_go_ok us N P l g hu hr (by omega) (by omega)
  have z : G.length + (goneL us N P).length ≤ 1000000 := by omega
  simp [t4a, methOM, viewO, Cell.own, endE, appF, List.lookup_cons, e, Cell.put, z]
theorem unpins {S0 : D} {Tw : Cell} {us : List Rule} {nt A N G L : List Int} {l : Option Int} {x8 x10 x11 x12 : Cell} (hz : ∀ n ∈ N, 0 ≤ n) : ∀ (r P : List Int) (x9 : Cell), r.Perm P → P.Nodup → (∀ n ∈ P, n ∈ N) → P.length ≤ 1000 →
    ∃ y9, loopS (setT 9) b8_law (r.map .int) (en2 S0 Tw us nt A N P G l (.sh (.lst (L.map .int))) x8 x9 x10 x11 x12) = some (.nx (en2 S0 Tw us nt A N [] G l (.sh (.lst (L.map .int))) x8 y9 x10 x11 x12))
  | [], P, x9, h, hd, hi, hl => by
    have : P = [] := List.nil_perm.mp h
    subst this
    exact ⟨x9, rfl⟩
  | i :: r, P, x9, h, hd, hi, hl => by
    have hip : i ∈ P := h.mem_iff.mp (by simp)
    have hnd : (i :: r).Nodup := h.nodup_iff.mpr hd
    have hri : i ∉ r := (List.nodup_cons.mp hnd).1
    have hp : r.Perm (P.filter fun x => !decide (x = i)) := by
      have h1 := h.filter (fun x => !decide (x = i))
      have h2 : (i :: r).filter (fun x => !decide (x = i)) = r := by
        rw [List.filter_cons_of_neg (by simp)]
        rw [List.filter_eq_self]
        intro a ha
        have : a ≠ i := fun q => hri (q ▸ ha)
        simp [this]
      rw [h2] at h1
      exact h1
    have e := unpin_any us N P l (fun n hn => hz n (hi n hn)) (by omega) (d := .int i) rfl
    rw [if_pos (by simp [heldB, hip])] at e
    simp only [intOf] at e
    obtain ⟨y9, q⟩ := unpins hz r (P.filter fun x => !decide (x = i)) (.sh (.int i)) hp (hd.sublist List.filter_sublist) (fun n hn => hi n (List.mem_filter.mp hn).1) (Nat.le_trans (List.length_filter_le _ _) hl)
    refine ⟨y9, ?_⟩
    have b : b8_law (en2 S0 Tw us nt A N P G l (.sh (.lst (L.map .int))) x8 (.sh (.int i)) x10 x11 x12) = some (.nx (en2 S0 Tw us nt A N (P.filter fun x => !decide (x = i)) G l (.sh (.lst (L.map .int))) x8 (.sh (.int i)) x10 x11 x12)) := by
      simp [b8_law, methOM, viewO, Cell.own, endE, appF, List.lookup_cons, e, Cell.put]; rfl
    rw [List.map_cons, loop_nx (by rfl) b]
    exact q
noncomputable section
def st1 : S := (newS 1 (callN F_law_town 1 (consM (varM 0) nilM)))
def st2 : S := (setS 2 (callM F_law_rules 6 (consM (varM 0) (ownA 1 (consM (conM (.int 4)) (consM (conM (.int 3)) (consM (callM F_law_pick 3 (consM (varM 0) (ownA 1 (consM (lstM (consM (conM (.int 2)) (consM (conM (.int 7)) nilM))) nilM)))) (consM (callM F_law_pick 3 (consM (varM 0) (ownA 1 (consM (lstM (consM (conM (.int 1)) (consM (conM (.int 3)) (consM (conM (.int 9)) nilM)))) nilM)))) nilM))))))))
def st3 : S := (setS 3 (callM F_law_nights 4 (consM (varM 0) (ownA 1 (consM (conM (.int 24)) (consM (callM F_law_pick 3 (consM (varM 0) (ownA 1 (consM (lstM (consM (conM (.int 1)) (consM (conM (.int 3)) (consM (conM (.int 12)) nilM)))) nilM)))) nilM))))))
def st4 : S := (newS 4 (makeM "Keep" F_Keep_init 2 (consM (varM 2) nilM)))
def st5 : S := (newS 5 (makeM "Keep" F_Keep_init 2 (consM (varM 2) nilM)))
def st6 : S := (setS 6 (lstM nilM))
def st7 : S := (newS 7 (lstM nilM))
def st8 : S := (forS (itsM enumD (consM (varM 3) nilM)) (tupT 2 (consT (setT 8) (consT (setT 9) nilT))) b5_law)
def st10 : S := (setS 11 (callM F_law_kept 2 (consM (varM 2) (consM (varM 3) nilM))))
def st11 : S := (iteS (frzT (orB (boolM (op2M neD (methM "Keep" "held" F_Keep_held 1 (varM 4) nilM) (lcM (itM listOf (varM 3)) (setT 9) p6_law c7_law [9]))) (boolM (op2M neD (methM "Keep" "pins" F_Keep_pins 1 (varM 4) nilM) (cbM sortedD (consM (varM 7) nilM)))))) (withS (conM (.bl false)) fun d e => some (.rt d e)) nxS)
def st12 : S := (fun e => (forS (itM listOf (varM 7)) (setT 9) b8_law) (frzE 7 e))
def st14 : S := (iteS (orB (boolM (op2M neD (methOM "Keep" "let_go" F_Keep_let_go 1 5 nilM) (cbM sortedD (consM (varM 6) nilM)))) (orB (frzT (boolM (op2M neD (methM "Keep" "held" F_Keep_held 1 (varM 4) nilM) (methM "Keep" "held" F_Keep_held 1 (varM 5) nilM)))) (frzT (boolM (op2M neD (methM "Keep" "held" F_Keep_held 1 (varM 4) nilM) (varM 11)))))) (withS (conM (.bl false)) fun d e => some (.rt d e)) nxS)
def st15 : S := (withS (andM (op2M eqD (cbM sortedD (consM (catLM (varM 6) (varM 11)) nilM)) (varM 3)) (andM (op2M eqD (methOM "Keep" "let_go" F_Keep_let_go 1 4 nilM) (lstM nilM)) (frzM (op2M eqD (methM "Keep" "pins" F_Keep_pins 1 (varM 4) nilM) (lstM nilM))))) fun d e => some (.rt d e))
theorem m_law_eq : m_law = (seqS st1 (seqS st2 (seqS st3 (seqS st4 (seqS st5 (seqS st6 (seqS st7 (seqS st8 (seqS t4a (seqS st10 (seqS st11 (seqS st12 (seqS t4a (seqS st14 st15)))))))))))))) := rfl
end
/-- in what order things were told, sorted they are these -/
theorem sort_of {G A B : List Int} (h : (G ++ B).Perm A) (hA : Rising A) (hB : B = A.filter fun x => decide (x ∈ B)) : sortI G = A.filter fun x => !decide (x ∈ B) := by
  refine (sortI_uniq (ms := A.filter fun x => !decide (x ∈ B)) ?_ ((hA.sublist List.filter_sublist).imp fun q => Int.le_of_lt q)).symm
  have h1 := part_perm (fun x => !decide (x ∈ B)) A
  have h2 : (A.filter fun x => !(!decide (x ∈ B))) = B := by
    simp only [Bool.not_not]
    exact hB.symm
  rw [h2] at h1
  exact (List.perm_append_right_iff B).mp (h1.trans h.symm)
theorem law_true (ns : List Int) (hn : ns.length ≤ 63) : ∃ fr cs, F_law [.sh (.fl (ns.map .int))] = some (.val (fr, .bl true) cs) := by
  have h0 := town_small ns hn
  obtain ⟨top, r1, m1, l1, e1⟩ := pick_int ns ns 0 [2, 7] (by omega) (by omega) rfl (by simp) (by simp)
  have t1 : 1 ≤ top ∧ top ≤ 7 := by simp at m1; omega
  obtain ⟨most, r2, m2, l2, e2⟩ := pick_int ns r1 (0 + 1) [1, 3, 9] (by omega) (by omega) l1 (by simp) (by simp)
  have t2 : 1 ≤ most ∧ most ≤ 9 := by simp at m2; omega
  obtain ⟨us, r3, c3, u1, u2, gu, l3, a1, b1, e3⟩ := law_rules_ok ns r2 hn (0 + 1 + 1) 4 3 top most (by omega) (by omega) l2 (by omega) (by omega) (by omega) (by omega) (by omega) (by omega) (by omega) (by omega)
  have g : ∀ u ∈ us, GoodU u := fun u hu => (gu u hu).1
  obtain ⟨step, r4, m4, l4, e4⟩ := pick_int ns r3 c3 [1, 3, 12] (by omega) (by omega) l3 (by simp) (by simp)
  have t4 : 1 ≤ step ∧ step ≤ 12 := by simp at m4; omega
  obtain ⟨nt, r5, c5, n1, n2, n3, l5, a5, b5, e5⟩ := law_nights_ok ns r4 hn (c3 + 1) 24 step (by omega) (by omega) l4 (by omega) (by omega) (by omega) (by omega)
  have hb : ∀ x ∈ nt, 0 ≤ x ∧ x ≤ 1000000000 := fun x hx => by have := n3 x hx; omega
  have I0 : Inv us [] [] [] [] [] none := ⟨InvP.nil, InvP.nil, List.Sublist.refl _, fun u hu x hx => by have := (keepU_sub u []).subset hx; simp at this, List.Perm.refl _, List.Perm.refl _, by simp⟩
  obtain ⟨N, P, L, G, r6, c6, l, y8, y9, y10, y11, y12, I, l6, e6⟩ := loop ns us g (by omega) nt n2 (by omega) hb nt [] [] [] [] [] r5 c5 none .no .no .no .no .no (by simp) (by omega) (by omega) l5 I0 (by simp)
  have ki := keep_init_ok us g u1 (by omega)
  have hz : nt.length ≤ 24 := by omega
  have hN := I.sub.length_le
  have hP := I.pn
  have hG : G.length ≤ nt.length := by have := I.gn.length_eq; rw [List.length_append] at this; omega
  have hL : L.length ≤ 24 := by rw [← I.pl.length_eq]; omega
  generalize hS0 : D.fl (ns.map .int) = S0 at *
  have s1 : st1 [.sh S0, .no, .no, .no, .no, .no, .no, .no, .no, .no, .no, .no, .no] = some (.nx [.sh S0, .ow (twn 0 ns), .no, .no, .no, .no, .no, .no, .no, .no, .no, .no, .no]) := by simp [st1, h0]
  have s2 : st2 [.sh S0, .ow (twn 0 ns), .no, .no, .no, .no, .no, .no, .no, .no, .no, .no, .no] = some (.nx [.sh S0, .ow (twn c3 r3), .sh (.tup (us.map ruleD)), .no, .no, .no, .no, .no, .no, .no, .no, .no, .no]) := by
    simp only [Int.zero_add, Int.reduceAdd, List.map_cons, List.map_nil] at e1 e2 e3
    simp [st2, e1, e2, e3]
  have s3 : st3 [.sh S0, .ow (twn c3 r3), .sh (.tup (us.map ruleD)), .no, .no, .no, .no, .no, .no, .no, .no, .no, .no] = some (.nx [.sh S0, .ow (twn c5 r5), .sh (.tup (us.map ruleD)), .sh (.lst (nt.map .int)), .no, .no, .no, .no, .no, .no, .no, .no, .no]) := by
    simp only [List.map_cons, List.map_nil] at e4
    simp [st3, e4, e5]
  have s4 : st4 [.sh S0, .ow (twn c5 r5), .sh (.tup (us.map ruleD)), .sh (.lst (nt.map .int)), .no, .no, .no, .no, .no, .no, .no, .no, .no] = some (.nx [.sh S0, .ow (twn c5 r5), .sh (.tup (us.map ruleD)), .sh (.lst (nt.map .int)), .ow (keepD us [] [] none), .no, .no, .no, .no, .no, .no, .no, .no]) := by simp [st4, makeM, makeE, appF, ki, Cell.put, Cell.own]
  have s5 : st5 [.sh S0, .ow (twn c5 r5), .sh (.tup (us.map ruleD)), .sh (.lst (nt.map .int)), .ow (keepD us [] [] none), .no, .no, .no, .no, .no, .no, .no, .no] = some (.nx [.sh S0, .ow (twn c5 r5), .sh (.tup (us.map ruleD)), .sh (.lst (nt.map .int)), .ow (keepD us [] [] none), .ow (keepD us [] [] none), .no, .no, .no, .no, .no, .no, .no]) := by simp [st5, makeM, makeE, appF, ki, Cell.put, Cell.own]
  have s6 : st6 [.sh S0, .ow (twn c5 r5), .sh (.tup (us.map ruleD)), .sh (.lst (nt.map .int)), .ow (keepD us [] [] none), .ow (keepD us [] [] none), .no, .no, .no, .no, .no, .no, .no] = some (.nx [.sh S0, .ow (twn c5 r5), .sh (.tup (us.map ruleD)), .sh (.lst (nt.map .int)), .ow (keepD us [] [] none), .ow (keepD us [] [] none), .sh (.lst []), .no, .no, .no, .no, .no, .no]) := by simp [st6]
  have s7 : st7 [.sh S0, .ow (twn c5 r5), .sh (.tup (us.map ruleD)), .sh (.lst (nt.map .int)), .ow (keepD us [] [] none), .ow (keepD us [] [] none), .sh (.lst []), .no, .no, .no, .no, .no, .no] = some (.nx (en S0 (.ow (twn c5 r5)) us nt [] [] [] [] [] none .no .no .no .no .no)) := by simp [st7]
  have s8 : st8 (en S0 (.ow (twn c5 r5)) us nt [] [] [] [] [] none .no .no .no .no .no) = some (.nx (en S0 (.ow (twn c6 r6)) us nt nt N P L G l y8 y9 y10 y11 y12)) := by
    have hz2 : nt.length ≤ 1000000 := by omega
    have ee : enumD [.lst (nt.map .int)] = some (enumL 0 (nt.map .int)) := rfl
    simp [st8, ee]
    exact e6
  have s9 := s4a (S0 := S0) (Tw := .ow (twn c6 r6)) (nt := nt) (x8 := y8) (x9 := y9) (x10 := y10) (x11 := y11) (x12 := y12) g (by omega) I (by omega)
  obtain ⟨I2, hst⟩ := I.let_go
  generalize hN2 : stayL us N P = N2 at *
  generalize hG2 : G ++ goneL us N P = G2 at *
  have s10 : st10 (en S0 (.ow (twn c6 r6)) us nt nt N2 P L G2 l y8 y9 y10 y11 y12) = some (.nx (en S0 (.ow (twn c6 r6)) us nt nt N2 P L G2 l y8 y9 y10 (.sh (.lst ((keptU us nt).map .int))) y12)) := by
    have e := law_kept_ok us nt g (by omega) (by omega)
    simp [st10, e]
  have hN2l := I2.sub.length_le
  have hP2 := I2.pn
  have hkl := keptU_sub us nt
  have s11 : st11 (en S0 (.ow (twn c6 r6)) us nt nt N2 P L G2 l y8 y9 y10 (.sh (.lst ((keptU us nt).map .int))) y12) = some (.nx (en S0 (.ow (twn c6 r6)) us nt nt N2 P L G2 l y8 y9 y10 (.sh (.lst ((keptU us nt).map .int))) y12)) := by
    have q1 := held_keep us N2 P l
    have q2 := pins_keep us N2 P l
    have zz : (keptU us nt).length + L.length ≤ 1000000 := by omega
    have zn : nt.length ≤ 1000000 := by omega
    have lc := lc_ints (t := setT 9) (p := p6_law) (f := c7_law) (v := 9) (c := fun n => decide (n ∈ keptU us nt ++ L)) (xs := nt) (e := wipeE (frzEnv (en S0 (.ow (twn c6 r6)) us nt nt N2 P L G2 l y8 y9 y10 (.sh (.lst ((keptU us nt).map .int))) y12)) [9]) (fun x hx => ⟨rfl, by simp [p6_law, zz, int_map, -List.mem_append, -List.map_append], by simp [c7_law]⟩) (by simp)
    rw [← hst] at lc
    have sp : sortI L = P := (sortI_uniq I2.pl (I2.ip.pr.imp fun q => Int.le_of_lt q)).symm
    generalize keptU us nt = due at *
    simp at lc
    simp [st11, frzT, methM, NK.isObj, endE, appF, List.lookup_cons, q1, q2, zn, lc, sp]
  obtain ⟨z9, un⟩ := unpins (S0 := S0) (us := us) (nt := nt) (A := nt) (N := N2) (G := G2) (L := L) (l := l) (x8 := y8) (x10 := y10) (Tw := .ow (twn c6 r6)) (x11 := .sh (.lst ((keptU us nt).map .int))) (x12 := y12) I2.ip.z L P y9 I2.pl.symm (pw_nodup I2.ip.pr) I2.ip.p (by omega)
  have s12 : st12 (en S0 (.ow (twn c6 r6)) us nt nt N2 P L G2 l y8 y9 y10 (.sh (.lst ((keptU us nt).map .int))) y12) = some (.nx (en2 S0 (.ow (twn c6 r6)) us nt nt N2 [] G2 l (.sh (.lst (L.map .int))) y8 z9 y10 (.sh (.lst ((keptU us nt).map .int))) y12)) := by
    have : st12 (en S0 (.ow (twn c6 r6)) us nt nt N2 P L G2 l y8 y9 y10 (.sh (.lst ((keptU us nt).map .int))) y12) = loopS (setT 9) b8_law (L.map .int) (en2 S0 (.ow (twn c6 r6)) us nt nt N2 P G2 l (.sh (.lst (L.map .int))) y8 y9 y10 (.sh (.lst ((keptU us nt).map .int))) y12) := by simp [st12]
    rw [this]
    exact un
  have hG2l : G2.length ≤ nt.length := by have := I2.gn.length_eq; rw [List.length_append] at this; omega
  have s13 := s4a' (S0 := S0) (Tw := .ow (twn c6 r6)) (nt := nt) (A := nt) (N := N2) (P := []) (G := G2) (l := l) (x7 := .sh (.lst (L.map .int))) (x8 := y8) (x9 := z9) (x10 := y10) (x11 := .sh (.lst ((keptU us nt).map .int))) (x12 := y12) g (by omega) I2.ip.r (by omega) (by simp) (by omega)
  -- all unpinned
  have kN2 : keptU us N2 = keptU us nt := keptU_cut us I2.sub n2 I2.kp
  have hkf : keptU us nt = nt.filter fun x => decide (x ∈ keptU us nt) := by
    refine rising_ext (n2.sublist List.filter_sublist) (n2.sublist List.filter_sublist) fun x => ?_
    simp only [List.mem_filter, decide_eq_true_eq]
    exact ⟨fun h => ⟨(List.filter_sublist (l := nt)).subset h, h⟩, fun h => h.2⟩
  have hN3 : stayL us N2 [] = keptU us nt := by
    rw [stay_eq, kN2]
    have h1 : (N2.filter fun n => decide (n ∈ keptU us nt ∨ n ∈ ([] : List Int))) = N2.filter fun n => decide (n ∈ keptU us nt) := by
      apply List.filter_congr; intro x _; simp
    rw [h1, filter_cut _ I2.sub (pw_nodup n2) fun x hx hq => by
      simp at hq
      obtain ⟨u, hu, hx⟩ := kept_mem.mp hq
      exact I2.kp u hu x hx]
    exact hkf.symm
  have hgn : ((G2 ++ goneL us N2 []) ++ keptU us nt).Perm nt := by
    rw [← hN3, List.append_assoc]
    exact ((gone_stay us N2 []).append_left G2).trans I2.gn
  generalize hG3 : G2 ++ goneL us N2 [] = G3 at *
  rw [hN3] at s13
  have hsort : sortI G3 = goneL us nt [] := by
    rw [sort_of hgn n2 hkf]
    unfold goneL
    apply List.filter_congr; intro x _; simp
  have hall : sortI (G3 ++ keptU us nt) = nt := (sortI_uniq hgn.symm (n2.imp fun q => Int.le_of_lt q)).symm
  have hst4 : stayL us nt [] = keptU us nt := by
    rw [stay_eq]
    have h1 : (nt.filter fun n => decide (n ∈ keptU us nt ∨ n ∈ ([] : List Int))) = nt.filter fun n => decide (n ∈ keptU us nt) := by
      apply List.filter_congr; intro x _; simp
    rw [h1]
    exact hkf.symm
  have hg3l : G3.length ≤ nt.length := by have := hgn.length_eq; rw [List.length_append] at this; omega
  have hrk : Rising (keptU us nt) := n2.sublist List.filter_sublist
  have s14 : st14 (en2 S0 (.ow (twn c6 r6)) us nt nt (keptU us nt) [] G3 l (.sh (.lst (L.map .int))) y8 z9 y10 (.sh (.lst ((keptU us nt).map .int))) y12) = some (.nx (en2 S0 (.ow (twn c6 r6)) us nt (keptU us nt) (keptU us nt) [] G3 l (.sh (.lst (L.map .int))) y8 z9 y10 (.sh (.lst ((keptU us nt).map .int))) y12)) := by
    have e := let_go_ok us nt [] l g (by omega) n2 (by omega) (by simp)
    rw [hst4] at e
    have q1 := held_keep us (keptU us nt) [] l
    generalize keptU us nt = due at *
    simp [st14, frzT, methOM, viewO, Cell.own, methM, NK.isObj, endE, appF, List.lookup_cons, e, q1, Cell.put, hsort]
  have s15 : st15 (en2 S0 (.ow (twn c6 r6)) us nt (keptU us nt) (keptU us nt) [] G3 l (.sh (.lst (L.map .int))) y8 z9 y10 (.sh (.lst ((keptU us nt).map .int))) y12) = some (.rt (.bl true) (en2 S0 (.ow (twn c6 r6)) us nt (keptU us nt) (keptU us nt) [] G3 l (.sh (.lst (L.map .int))) y8 z9 y10 (.sh (.lst ((keptU us nt).map .int))) y12)) := by
    have e := let_go_ok us (keptU us nt) [] l g (by omega) hrk (by omega) (by simp)
    have kk := keptU_twice us nt n2
    have hg0 : goneL us (keptU us nt) [] = [] := by
      unfold goneL
      rw [kk, List.filter_eq_nil_iff]
      intro x hx; simp [hx]
    have hs0 : stayL us (keptU us nt) [] = keptU us nt := by
      rw [stay_eq, kk, List.filter_eq_self]
      intro x hx; simp [hx]
    rw [hg0, hs0] at e
    have q2 := pins_keep us (keptU us nt) [] l
    have z : G3.length + (keptU us nt).length ≤ 1000000 := by omega
    generalize keptU us nt = due at *
    simp [st15, frzM, int_map, -List.map_append, z, hall, methOM, viewO, Cell.own, methM, NK.isObj, endE, appF, List.lookup_cons, e, q2, Cell.put, thawB]
  refine ⟨false, [.no], ?_⟩
  have hm : m_law [.sh S0, .no, .no, .no, .no, .no, .no, .no, .no, .no, .no, .no, .no] = some (.rt (.bl true) (en2 S0 (.ow (twn c6 r6)) us nt (keptU us nt) (keptU us nt) [] G3 l (.sh (.lst (L.map .int))) y8 z9 y10 (.sh (.lst ((keptU us nt).map .int))) y12)) := by
    rw [m_law_eq, seq_nx s1, seq_nx s2, seq_nx s3, seq_nx s4, seq_nx s5, seq_nx s6, seq_nx s7, seq_nx s8, seq_nx s9, seq_nx s10, seq_nx s11, seq_nx s12, seq_nx s13, seq_nx s14]
    exact s15
  show funM m_law 1 13 [.sh S0] = _
  have he : ([.sh S0] ++ List.replicate (13 - 1) .no : NK.Env) = [.sh S0, .no, .no, .no, .no, .no, .no, .no, .no, .no, .no, .no, .no] := rfl
  unfold funM
  rw [he, hm]
  rfl
end K21

set_option Elab.async false
set_option linter.all false
set_option maxRecDepth 100000
set_option maxHeartbeats 4000000
open PySem PySem.W PyProof.Rows
set_option maxHeartbeats 0 in
theorem PySem.Challenge.cw_nightkeep_k21_whole_let_go_by_the_way_holds : PySem.Challenge.rw_nightkeep_k21_whole_let_go_by_the_way.Holds := by
  w_on; o_law; k_head; (case hw => w_witness2)
  k_fill
  refine L2.walk_of (l := PySem.Challenge.rw_nightkeep_k21_whole_let_go_by_the_way) (n := 63) (k := 7) (x := "_law_script") (CX := fun w => L2.CX PySem.Challenge.rw_nightkeep_k21_whole_let_go_by_the_way.prog w) (sp := fun w => NK.spLaw _) rfl (by decide) rfl ⟨rfl, by decide, by decide⟩ (fun w h Y => PySem.W.kIn_of Y) ?F (fun _ _ a ns hl _ hS => ⟨a, ns, rfl, hS, hl, fun _ => rfl⟩) (fun _ _ _ _ _ h => NK.cx_none h)
  case F =>
    intro w mg fa h KX G hmg
    refine' K21.all_mk KX G hmg (g_Keep := ?g_Keep) (y_Keep := ?y_Keep) (m_Keep := ?m_Keep) (q_Keep := ?q_Keep) (a0 := ?a0) (l0 := ?l0) (c0 := ?c0) (k0 := ?k0) (a1 := ?a1) (l1 := ?l1) (c1 := ?c1) (k1 := ?k1) (a2 := ?a2) (l2 := ?l2) (c2 := ?c2) (k2 := ?k2) (a3 := ?a3) (l3 := ?l3) (c3 := ?c3) (k3 := ?k3) (a4 := ?a4) (l4 := ?l4) (c4 := ?c4) (k4 := ?k4) (a5 := ?a5) (l5 := ?l5) (c5 := ?c5) (k5 := ?k5) (a6 := ?a6) (l6 := ?l6) (c6 := ?c6) (k6 := ?k6) (a7 := ?a7) (l7 := ?l7) (c7 := ?c7) (k7 := ?k7) (a8 := ?a8) (l8 := ?l8) (c8 := ?c8) (k8 := ?k8) (a9 := ?a9) (l9 := ?l9) (c9 := ?c9) (k9 := ?k9) (a10 := ?a10) (l10 := ?l10) (c10 := ?c10) (k10 := ?k10) (i10 := ?i10) (a11 := ?a11) (l11 := ?l11) (c11 := ?c11) (k11 := ?k11) (a12 := ?a12) (l12 := ?l12) (c12 := ?c12) (k12 := ?k12) (a13 := ?a13) (l13 := ?l13) (c13 := ?c13) (k13 := ?k13) (i13 := ?i13) (a14 := ?a14) (l14 := ?l14) (c14 := ?c14) (k14 := ?k14) (i14 := ?i14) (a15 := ?a15) (l15 := ?l15) (c15 := ?c15) (k15 := ?k15) (a16 := ?a16) (l16 := ?l16) (c16 := ?c16) (k16 := ?k16) (a17 := ?a17) (l17 := ?l17) (c17 := ?c17) (k17 := ?k17) (a18 := ?a18) (l18 := ?l18) (c18 := ?c18) (k18 := ?k18) (a19 := ?a19) (l19 := ?l19) (c19 := ?c19) (k19 := ?k19) (i19 := ?i19) (a20 := ?a20) (l20 := ?l20) (c20 := ?c20) (k20 := ?k20) (a21 := ?a21) (l21 := ?l21) (c21 := ?c21) (k21 := ?k21) (a22 := ?a22) (l22 := ?l22) (c22 := ?c22) (k22 := ?k22) (a23 := ?a23) (l23 := ?l23) (c23 := ?c23) (k23 := ?k23) (i23 := ?i23) (a24 := ?a24) (l24 := ?l24) (c24 := ?c24) (k24 := ?k24) (a25 := ?a25) (l25 := ?l25) (c25 := ?c25) (k25 := ?k25) (i25 := ?i25) (a26 := ?a26) (l26 := ?l26) (c26 := ?c26) (k26 := ?k26) (i26 := ?i26) (a27 := ?a27) (l27 := ?l27) (c27 := ?c27) (k27 := ?k27) (z_all := ?z_all) (z_bool := ?z_bool) (z_enumerate := ?z_enumerate) (z_int := ?z_int) (z_isinstance := ?z_isinstance) (z_len := ?z_len) (z_list := ?z_list) (z_max := ?z_max) (z_range := ?z_range) (z_reversed := ?z_reversed) (z_sorted := ?z_sorted) (z_sum := ?z_sum) (z_tuple := ?z_tuple) (g_MOST_HELD := ?g_MOST_HELD) (g_MOST_NIGHT := ?g_MOST_NIGHT) (g_BadNight := ?g_BadNight) (x_BadNight := ?x_BadNight) (k_BadNight := ?k_BadNight) (b_BadNight := ?b_BadNight) (t_BadNight := ?t_BadNight) (g_BadRules := ?g_BadRules) (x_BadRules := ?x_BadRules) (k_BadRules := ?k_BadRules) (b_BadRules := ?b_BadRules) (t_BadRules := ?t_BadRules) (g_Full := ?g_Full) (x_Full := ?x_Full) (k_Full := ?k_Full) (b_Full := ?b_Full) (t_Full := ?t_Full) (g_NotHeld := ?g_NotHeld) (x_NotHeld := ?x_NotHeld) (k_NotHeld := ?k_NotHeld) (b_NotHeld := ?b_NotHeld) (t_NotHeld := ?t_NotHeld) (g_NotPinned := ?g_NotPinned) (x_NotPinned := ?x_NotPinned) (k_NotPinned := ?k_NotPinned) (b_NotPinned := ?b_NotPinned) (t_NotPinned := ?t_NotPinned) (g_Pinned := ?g_Pinned) (x_Pinned := ?x_Pinned) (k_Pinned := ?k_Pinned) (b_Pinned := ?b_Pinned) (t_Pinned := ?t_Pinned) (z_obj := ?z_obj) (e_aC := ?e_aC) (e_xL := ?e_xL) (e_sa := ?e_sa) (e_ga := ?e_ga) (e_gg := ?e_gg) (e_nb := ?e_nb) (e_a1 := ?e_a1) (e_t1 := ?e_t1) (e_l1 := ?e_l1) (e_c1 := ?e_c1) (e_kC := ?e_kC) (e_bC := ?e_bC) (e_tC := ?e_tC) (e_hC := ?e_hC) (e_iC := ?e_iC) (e_sC := ?e_sC) (hF := K21.law_true)
    (case g_Keep => k_is); (case y_Keep => first | kernel_rfl | decide +kernel); (case m_Keep => first | k_is | rfl | kernel_rfl); (case q_Keep => first | k_is | rfl | kernel_rfl); (case a0 => k_is); (case l0 => k_is); (case c0 => k_is); (case k0 => k_is); (case a1 => k_is); (case l1 => k_is); (case c1 => k_is); (case k1 => k_is); (case a2 => k_is); (case l2 => k_is); (case c2 => k_is); (case k2 => k_is); (case a3 => k_is); (case l3 => k_is); (case c3 => k_is); (case k3 => k_is); (case a4 => k_is); (case l4 => k_is); (case c4 => k_is); (case k4 => k_is); (case a5 => k_is); (case l5 => k_is); (case c5 => k_is); (case k5 => k_is); (case a6 => k_is); (case l6 => k_is); (case c6 => k_is); (case k6 => k_is); (case a7 => k_is); (case l7 => k_is); (case c7 => k_is); (case k7 => k_is); (case a8 => k_is); (case l8 => k_is); (case c8 => k_is); (case k8 => k_is); (case a9 => k_is); (case l9 => k_is); (case c9 => k_is); (case k9 => k_is); (case a10 => k_is); (case l10 => k_is); (case c10 => k_is); (case k10 => k_is); (case i10 => k_is); (case a11 => k_is); (case l11 => k_is); (case c11 => k_is); (case k11 => k_is); (case a12 => k_is); (case l12 => k_is); (case c12 => k_is); (case k12 => k_is); (case a13 => k_is); (case l13 => k_is); (case c13 => k_is); (case k13 => k_is); (case i13 => k_is); (case a14 => k_is); (case l14 => k_is); (case c14 => k_is); (case k14 => k_is); (case i14 => k_is); (case a15 => k_is); (case l15 => k_is); (case c15 => k_is); (case k15 => k_is); (case a16 => k_is); (case l16 => k_is); (case c16 => k_is); (case k16 => k_is); (case a17 => k_is); (case l17 => k_is); (case c17 => k_is); (case k17 => k_is); (case a18 => k_is); (case l18 => k_is); (case c18 => k_is); (case k18 => k_is); (case a19 => k_is); (case l19 => k_is); (case c19 => k_is); (case k19 => k_is); (case i19 => k_is); (case a20 => k_is); (case l20 => k_is); (case c20 => k_is); (case k20 => k_is); (case a21 => k_is); (case l21 => k_is); (case c21 => k_is); (case k21 => k_is); (case a22 => k_is); (case l22 => k_is); (case c22 => k_is); (case k22 => k_is); (case a23 => k_is); (case l23 => k_is); (case c23 => k_is); (case k23 => k_is); (case i23 => k_is); (case a24 => k_is); (case l24 => k_is); (case c24 => k_is); (case k24 => k_is); (case a25 => k_is); (case l25 => k_is); (case c25 => k_is); (case k25 => k_is); (case i25 => k_is); (case a26 => k_is); (case l26 => k_is); (case c26 => k_is); (case k26 => k_is); (case i26 => k_is); (case a27 => k_is); (case l27 => k_is); (case c27 => k_is); (case k27 => k_is); (case z_all => k_is); (case z_bool => k_is); (case z_enumerate => k_is); (case z_int => k_is); (case z_isinstance => k_is); (case z_len => k_is); (case z_list => k_is); (case z_max => k_is); (case z_range => k_is); (case z_reversed => k_is); (case z_sorted => k_is); (case z_sum => k_is); (case z_tuple => k_is); (case g_MOST_HELD => k_is); (case g_MOST_NIGHT => k_is); (case g_BadNight => k_is); (case x_BadNight => k_exc); (case k_BadNight => k_is); (case b_BadNight => k_is); (case t_BadNight => k_is); (case g_BadRules => k_is); (case x_BadRules => k_exc); (case k_BadRules => k_is); (case b_BadRules => k_is); (case t_BadRules => k_is); (case g_Full => k_is); (case x_Full => k_exc); (case k_Full => k_is); (case b_Full => k_is); (case t_Full => k_is); (case g_NotHeld => k_is); (case x_NotHeld => k_exc); (case k_NotHeld => k_is); (case b_NotHeld => k_is); (case t_NotHeld => k_is); (case g_NotPinned => k_is); (case x_NotPinned => k_exc); (case k_NotPinned => k_is); (case b_NotPinned => k_is); (case t_NotPinned => k_is); (case g_Pinned => k_is); (case x_Pinned => k_exc); (case k_Pinned => k_is); (case b_Pinned => k_is); (case t_Pinned => k_is); (case z_obj => first | kernel_rfl | decide +kernel); (case e_aC => first | k_is | rfl | kernel_rfl); (case e_xL => first | k_is | rfl | kernel_rfl); (case e_sa => first | k_is | rfl | kernel_rfl); (case e_ga => first | k_is | rfl | kernel_rfl); (case e_gg => first | k_is | rfl | kernel_rfl); (case e_nb => first | k_is | rfl | kernel_rfl); (case e_a1 => first | k_is | rfl | kernel_rfl); (case e_t1 => first | k_is | rfl | kernel_rfl); (case e_l1 => first | k_is | rfl | kernel_rfl); (case e_c1 => first | k_is | rfl | kernel_rfl); (case e_kC => first | k_is | rfl | kernel_rfl); (case e_bC => first | k_is | rfl | kernel_rfl); (case e_tC => first | k_is | rfl | kernel_rfl); (case e_hC => first | k_is | rfl | kernel_rfl); (case e_iC => first | k_is | rfl | kernel_rfl); (case e_sC => first | k_is | rfl | kernel_rfl)
