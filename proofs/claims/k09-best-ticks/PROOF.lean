import PyProof.Rows.All
import HandS.ForMost
import HandS.Walk
import HandS.Deep
import HandS.Defaults
import HandS.HeadHook2
import HandS.Wide
import HandS.TupAny
import HandS.Strs
import HandS.Sort
import HandS.Star
import HandS.Property
import HandS.IsInst
import HandS.FStr
import HandS.SortInts
import HandS.Text
import HandS.TupLen
import HandS.RaiseMore
import HandS.Style
import HandS.Zip
import HandS.ReplaceLit
import HandS.Conv
import HandS.Replace
import HandS.DictComp
import HandS.ListItems
import PyProof.Draws
import HandS.HeadEnd
import HandS.Codes
import PyProof.StrLawsTight
import PyProof.StrLawsChain
import PyProof.StrLawsReplace
import PySem.Challenge.RW_newsages_k09_best_ticks_of_plans
import HandS.Head0
import HandS.Head1
import HandS.Head2
import KE.KStateDown
set_option Elab.async false
set_option linter.all false
set_option maxRecDepth 100000
set_option maxHeartbeats 2000000
namespace DL
open PySem L2

/-! ### data without a heap -/
inductive Dat where
  | non | bl (b : Bool) | int (i : Int) | str (s : Str)
  | lst (xs : List Dat) | tup (xs : List Dat) | lsf (xs : List Dat) | tuf (xs : List Dat)
  | dic (kvs : List (Dat × Dat)) | dit (kvs : List (Dat × Dat)) | dif (kvs : List (Dat × Dat)) | dft (kvs : List (Dat × Dat))
  | ins (c : Str) (fs : List (Str × Dat))
  deriving Inhabited
/-- a slot's content: shared data; an owned list, dict, object (t: the parameter it came by) -/
inductive Sl where
  | sh (d : Dat)
  | ol (t : Option Nat) (ds : List Dat)
  | od (t : Option Nat) (tk : Bool) (kvs : List (Dat × Dat))
  | oo (t : Option Nat) (c : Str) (fs : List (Str × Sl))
  deriving Inhabited
abbrev Env := List (Option Sl)
abbrev M (α : Type) := Env → Option (α × Env)

/-! ### heaps -/
def Ex (H H' : Hp) : Prop := ∀ a o, H a = some o → H' a = some o
theorem Ex.refl (H : Hp) : Ex H H := fun _ _ h => h
theorem Ex.trans {H H1 H2 : Hp} (a : Ex H H1) (b : Ex H1 H2) : Ex H H2 := fun x o h => b x o (a x o h)
theorem Ex.new {H : Hp} {p : Addr} {o : HO} (h : H p = none) : Ex H (upd H p o) := fun a u e => by
  rw [upd_ne (ne_of_none e h)]
  exact e
def add (B H : Hp) (A : List Addr) : Hp := fun a => if a ∈ A then H a else B a
theorem add_in {B H : Hp} {A : List Addr} {a : Addr} (h : a ∈ A) : add B H A a = H a := if_pos h
theorem add_out {B H : Hp} {A : List Addr} {a : Addr} (h : a ∉ A) : add B H A a = B a := if_neg h

def keyD : Key → Dat
  | .inl i => .int i
  | .inr s => .str s

mutual
inductive Rep (K : PySem.W.Frag) (H : Hp) : V → Dat → Prop
  | non : Rep K H .non .non
  | bl (b : Bool) : Rep K H (.bl b) (.bl b)
  | int (i : Int) : Rep K H (.int i) (.int i)
  | str (s : Str) : Rep K H (.str s) (.str s)
  | lst {a : Addr} {xs : List V} {ds : List Dat} : H a = some (.lst xs) → RepAll K H xs ds → Rep K H (.ref a) (.lst ds)
  | tup {a : Addr} {xs : List V} {ds : List Dat} : SqT K H a xs → RepAll K H xs ds → Rep K H (.ref a) (.tup ds)
  | lsf {a : Addr} {xs : List V} {ds : List Dat} : SqL K H a xs → RepAll K H xs ds → Rep K H (.ref a) (.lsf ds)
  | tuf {a : Addr} {o : Obj} {xs : List V} {ds : List Dat} : H a = some (.frz o (.tup xs)) → o.dict = Option.none → RepAll K H xs ds → Rep K H (.ref a) (.tuf ds)
  | dicK {a : Addr} {kvs : List (Key × V)} {ds : List (Dat × Dat)} : H a = some (.dK kvs) → RepKV K H kvs ds → Rep K H (.ref a) (.dic ds)
  | dicT {a : Addr} {kvs : List (List Key × V)} {ds : List (Dat × Dat)} : H a = some (.dT kvs) → RepTV K H kvs ds → Rep K H (.ref a) (.dit ds)
  | difK {a : Addr} {o : Obj} {kvs : List (Key × V)} {ds : List (Dat × Dat)} : H a = some (.frz o (.dK kvs)) → RepKV K H kvs ds → Rep K H (.ref a) (.dif ds)
  | dftT {a : Addr} {o : Obj} {kvs : List (List Key × V)} {ds : List (Dat × Dat)} : H a = some (.frz o (.dT kvs)) → RepTV K H kvs ds → Rep K H (.ref a) (.dft ds)
  | ins {a dx : Addr} {c : Str} {fvs : List (Str × V)} {fs : List (Str × Dat)} : H a = some (.ins (He.ga K c) dx fvs) → RepF K H fvs fs → Rep K H (.ref a) (.ins c fs)
inductive RepAll (K : PySem.W.Frag) (H : Hp) : List V → List Dat → Prop
  | nil : RepAll K H [] []
  | cons {v : V} {vs : List V} {d : Dat} {ds : List Dat} : Rep K H v d → RepAll K H vs ds → RepAll K H (v :: vs) (d :: ds)
inductive RepKV (K : PySem.W.Frag) (H : Hp) : List (Key × V) → List (Dat × Dat) → Prop
  | nil : RepKV K H [] []
  | cons {k : Key} {v : V} {vs : List (Key × V)} {d : Dat} {ds : List (Dat × Dat)} : Rep K H v d → RepKV K H vs ds → RepKV K H ((k, v) :: vs) ((keyD k, d) :: ds)
inductive RepTV (K : PySem.W.Frag) (H : Hp) : List (List Key × V) → List (Dat × Dat) → Prop
  | nil : RepTV K H [] []
  | cons {k : List Key} {v : V} {vs : List (List Key × V)} {d : Dat} {ds : List (Dat × Dat)} : Rep K H v d → RepTV K H vs ds → RepTV K H ((k, v) :: vs) ((.tup (k.map keyD), d) :: ds)
inductive RepF (K : PySem.W.Frag) (H : Hp) : List (Str × V) → List (Str × Dat) → Prop
  | nil : RepF K H [] []
  | cons {f : Str} {v : V} {vs : List (Str × V)} {d : Dat} {ds : List (Str × Dat)} : Rep K H v d → RepF K H vs ds → RepF K H ((f, v) :: vs) ((f, d) :: ds)
end

theorem ex_rd {H H' : Hp} {a : Addr} {u : HO} (e : Ex H H') (h : Rd H a u) : Rd H' a u := by
  rcases h with h | ⟨o, h⟩
  · exact Or.inl (e a _ h)
  · exact Or.inr ⟨o, e a _ h⟩
theorem ex_l {K : PySem.W.Frag} {H H' : Hp} {a : Addr} {xs : List V} (e : Ex H H') (h : SqL K H a xs) : SqL K H' a xs := by
  rcases h with h | h
  · exact Or.inl (ex_rd e h)
  · exact Or.inr h
theorem ex_t {K : PySem.W.Frag} {H H' : Hp} {a : Addr} {xs : List V} (e : Ex H H') (h : SqT K H a xs) : SqT K H' a xs := by
  rcases h with h | h
  · exact Or.inl (ex_rd e h)
  · exact Or.inr h

section
variable {K : PySem.W.Frag} {H H' : Hp}
mutual
theorem Rep.mono (e : Ex H H') : ∀ {v : V} {d : Dat}, Rep K H v d → Rep K H' v d
  | _, _, .non => .non
  | _, _, .bl b => .bl b
  | _, _, .int i => .int i
  | _, _, .str s => .str s
  | _, _, .lst h r => .lst (e _ _ h) (RepAll.mono e r)
  | _, _, .tup h r => .tup (ex_t e h) (RepAll.mono e r)
  | _, _, .lsf h r => .lsf (ex_l e h) (RepAll.mono e r)
  | _, _, .tuf h q r => .tuf (e _ _ h) q (RepAll.mono e r)
  | _, _, .dicK h r => .dicK (e _ _ h) (RepKV.mono e r)
  | _, _, .dicT h r => .dicT (e _ _ h) (RepTV.mono e r)
  | _, _, .difK h r => .difK (e _ _ h) (RepKV.mono e r)
  | _, _, .dftT h r => .dftT (e _ _ h) (RepTV.mono e r)
  | _, _, .ins h r => .ins (e _ _ h) (RepF.mono e r)
theorem RepAll.mono (e : Ex H H') : ∀ {v : List V} {d : List Dat}, RepAll K H v d → RepAll K H' v d
  | _, _, .nil => .nil
  | _, _, .cons h r => .cons (Rep.mono e h) (RepAll.mono e r)
theorem RepKV.mono (e : Ex H H') : ∀ {v : List (Key × V)} {d : List (Dat × Dat)}, RepKV K H v d → RepKV K H' v d
  | _, _, .nil => .nil
  | _, _, .cons h r => .cons (Rep.mono e h) (RepKV.mono e r)
theorem RepTV.mono (e : Ex H H') : ∀ {v : List (List Key × V)} {d : List (Dat × Dat)}, RepTV K H v d → RepTV K H' v d
  | _, _, .nil => .nil
  | _, _, .cons h r => .cons (Rep.mono e h) (RepTV.mono e r)
theorem RepF.mono (e : Ex H H') : ∀ {v : List (Str × V)} {d : List (Str × Dat)}, RepF K H v d → RepF K H' v d
  | _, _, .nil => .nil
  | _, _, .cons h r => .cons (Rep.mono e h) (RepF.mono e r)
end
theorem RepAll.length : ∀ {vs : List V} {ds : List Dat}, RepAll K H vs ds → vs.length = ds.length
  | _, _, .nil => rfl
  | _, _, .cons _ r => congrArg Nat.succ (RepAll.length r)
theorem RepAll.get : ∀ {vs : List V} {ds : List Dat} {i : Nat} {d : Dat}, RepAll K H vs ds → ds[i]? = some d → ∃ v, vs[i]? = some v ∧ Rep K H v d
  | _, _, _, _, .nil, e => by simp at e
  | _, _, 0, _, .cons h _, e => by simp at e; subst e; exact ⟨_, rfl, h⟩
  | _, _, i + 1, _, .cons _ r, e => by
    obtain ⟨v, h1, h2⟩ := RepAll.get (i := i) r (by simpa using e)
    exact ⟨v, by simpa using h1, h2⟩
theorem RepAll.getv : ∀ {vs : List V} {ds : List Dat} {i : Nat} {v : V}, RepAll K H vs ds → vs[i]? = some v → ∃ d, ds[i]? = some d ∧ Rep K H v d
  | _, _, _, _, .nil, e => by simp at e
  | _, _, 0, _, .cons h _, e => by simp at e; subst e; exact ⟨_, rfl, h⟩
  | _, _, i + 1, _, .cons _ r, e => by
    obtain ⟨v, h1, h2⟩ := RepAll.getv (i := i) r (by simpa using e)
    exact ⟨v, by simpa using h1, h2⟩
theorem RepAll.append : ∀ {vs us : List V} {ds es : List Dat}, RepAll K H vs ds → RepAll K H us es → RepAll K H (vs ++ us) (ds ++ es)
  | _, _, _, _, .nil, s => s
  | _, _, _, _, .cons h r, s => .cons h (RepAll.append r s)
theorem RepAll.snoc {vs : List V} {ds : List Dat} {v : V} {d : Dat} (r : RepAll K H vs ds) (h : Rep K H v d) : RepAll K H (vs ++ [v]) (ds ++ [d]) := r.append (.cons h .nil)
theorem RepAll.take : ∀ {vs : List V} {ds : List Dat} (n : Nat), RepAll K H vs ds → RepAll K H (vs.take n) (ds.take n)
  | _, _, 0, _ => .nil
  | _, _, _ + 1, .nil => .nil
  | _, _, n + 1, .cons h r => .cons h (RepAll.take n r)
theorem RepAll.drop : ∀ {vs : List V} {ds : List Dat} (n : Nat), RepAll K H vs ds → RepAll K H (vs.drop n) (ds.drop n)
  | _, _, 0, r => r
  | _, _, _ + 1, .nil => .nil
  | _, _, n + 1, .cons _ r => RepAll.drop n r
theorem RepAll.set {v : V} {d : Dat} (h : Rep K H v d) : ∀ {vs : List V} {ds : List Dat} (n : Nat), RepAll K H vs ds → RepAll K H (vs.set n v) (ds.set n d)
  | _, _, _, .nil => .nil
  | _, _, 0, .cons _ r => .cons h r
  | _, _, n + 1, .cons g r => .cons g (RepAll.set h n r)
theorem RepAll.eraseIdx : ∀ {vs : List V} {ds : List Dat} (n : Nat), RepAll K H vs ds → RepAll K H (vs.eraseIdx n) (ds.eraseIdx n)
  | _, _, _, .nil => .nil
  | _, _, 0, .cons _ r => r
  | _, _, n + 1, .cons g r => .cons g (RepAll.eraseIdx n r)
theorem RepAll.reverse : ∀ {vs : List V} {ds : List Dat}, RepAll K H vs ds → RepAll K H vs.reverse ds.reverse
  | _, _, .nil => .nil
  | _, _, .cons h r => by rw [List.reverse_cons, List.reverse_cons]; exact (RepAll.reverse r).snoc h
theorem RepF.lookup : ∀ {vs : List (Str × V)} {ds : List (Str × Dat)} {f : Str} {d : Dat}, RepF K H vs ds → ds.lookup f = some d → ∃ v, vs.lookup f = some v ∧ Rep K H v d
  | _, _, _, _, .nil, e => by simp at e
  | _, _, f, d, .cons (f := g) h r, e => by
    by_cases q : (f == g) = true
    · simp only [List.lookup, q] at e ⊢
      cases e; exact ⟨_, rfl, h⟩
    · have q : (f == g) = false := by simpa using q
      simp only [List.lookup, q] at e ⊢
      exact RepF.lookup r e
theorem RepF.none : ∀ {vs : List (Str × V)} {ds : List (Str × Dat)} {f : Str}, RepF K H vs ds → ds.lookup f = none → vs.lookup f = none
  | _, _, _, .nil, e => rfl
  | _, _, f, .cons (f := g) h r, e => by
    by_cases q : (f == g) = true
    · simp only [List.lookup, q] at e; cases e
    · have q : (f == g) = false := by simpa using q
      simp only [List.lookup, q] at e ⊢
      exact RepF.none r e
end

/-! ### owned things -/
def TagOk (τ : List V) (t : Option Nat) (a : Addr) : Prop := ∀ k, t = some k → τ[k]? = some (.ref a)
mutual
inductive RepS (K : PySem.W.Frag) (τ : List V) (B H : Hp) : V → Sl → List Addr → Prop
  | sh {v : V} {d : Dat} : Rep K B v d → RepS K τ B H v (.sh d) []
  | ol {a : Addr} {xs : List V} {ds : List Dat} {t : Option Nat} : H a = some (.lst xs) → RepAll K B xs ds → TagOk τ t a → RepS K τ B H (.ref a) (.ol t ds) [a]
  | odk {a : Addr} {kvs : List (Key × V)} {ds : List (Dat × Dat)} {t : Option Nat} : H a = some (.dK kvs) → RepKV K B kvs ds → TagOk τ t a → RepS K τ B H (.ref a) (.od t false ds) [a]
  | odt {a : Addr} {kvs : List (List Key × V)} {ds : List (Dat × Dat)} {t : Option Nat} : H a = some (.dT kvs) → RepTV K B kvs ds → TagOk τ t a → RepS K τ B H (.ref a) (.od t true ds) [a]
  | oo {a dx : Addr} {c : Str} {fvs : List (Str × V)} {fs : List (Str × Sl)} {A : List Addr} {t : Option Nat} : H a = some (.ins (He.ga K c) dx fvs) → RepSF K τ B H fvs fs A → a ∉ A → TagOk τ t a →
      RepS K τ B H (.ref a) (.oo t c fs) (a :: A)
inductive RepSF (K : PySem.W.Frag) (τ : List V) (B H : Hp) : List (Str × V) → List (Str × Sl) → List Addr → Prop
  | nil : RepSF K τ B H [] [] []
  | cons {f : Str} {v : V} {s : Sl} {A1 A2 : List Addr} {r : List (Str × V)} {rs : List (Str × Sl)} : RepS K τ B H v s A1 → RepSF K τ B H r rs A2 → (∀ a ∈ A1, a ∉ A2) → RepSF K τ B H ((f, v) :: r) ((f, s) :: rs) (A1 ++ A2)
end
section
variable {K : PySem.W.Frag} {τ : List V} {B B' H H' : Hp}
mutual
/-- the shared part grows; the owned objects stay -/
theorem RepS.mono (e : Ex B B') : ∀ {v : V} {s : Sl} {A : List Addr}, RepS K τ B H v s A → (∀ a ∈ A, H' a = H a) → RepS K τ B' H' v s A
  | _, _, _, .sh h, _ => .sh (h.mono e)
  | _, _, _, .ol h r t, k => .ol ((k _ (by simp)).trans h) (r.mono e) t
  | _, _, _, .odk h r t, k => .odk ((k _ (by simp)).trans h) (r.mono e) t
  | _, _, _, .odt h r t, k => .odt ((k _ (by simp)).trans h) (r.mono e) t
  | _, _, _, .oo h r n t, k => .oo ((k _ (by simp)).trans h) (RepSF.mono e r fun a ha => k a (List.mem_cons_of_mem _ ha)) n t
theorem RepSF.mono (e : Ex B B') : ∀ {v : List (Str × V)} {s : List (Str × Sl)} {A : List Addr}, RepSF K τ B H v s A → (∀ a ∈ A, H' a = H a) → RepSF K τ B' H' v s A
  | _, _, _, .nil, _ => .nil
  | _, _, _, .cons h r d, k => .cons (RepS.mono e h fun a ha => k a (List.mem_append_left _ ha)) (RepSF.mono e r fun a ha => k a (List.mem_append_right _ ha)) d
end
mutual
theorem RepS.live : ∀ {v : V} {s : Sl} {A : List Addr}, RepS K τ B H v s A → ∀ a ∈ A, ∃ o, H a = some o
  | _, _, _, .sh _, _, ha => by simp at ha
  | _, _, _, .ol h _ _, _, ha => by simp at ha; subst ha; exact ⟨_, h⟩
  | _, _, _, .odk h _ _, _, ha => by simp at ha; subst ha; exact ⟨_, h⟩
  | _, _, _, .odt h _ _, _, ha => by simp at ha; subst ha; exact ⟨_, h⟩
  | _, _, _, .oo h r _ _, a, ha => by
    rcases List.mem_cons.mp ha with rfl | ha
    · exact ⟨_, h⟩
    · exact RepSF.live r a ha
theorem RepSF.live : ∀ {v : List (Str × V)} {s : List (Str × Sl)} {A : List Addr}, RepSF K τ B H v s A → ∀ a ∈ A, ∃ o, H a = some o
  | _, _, _, .nil, _, ha => by simp at ha
  | _, _, _, .cons h r _, a, ha => by
    rcases List.mem_append.mp ha with ha | ha
    · exact RepS.live h a ha
    · exact RepSF.live r a ha
end
end
mutual
/-- as shared data -/
def frz : Sl → Dat
  | .sh d => d
  | .ol _ ds => .lst ds
  | .od _ false kvs => .dic kvs
  | .od _ true kvs => .dit kvs
  | .oo _ c fs => .ins c (frzF fs)
def frzF : List (Str × Sl) → List (Str × Dat)
  | [] => []
  | (f, s) :: r => (f, frz s) :: frzF r
end
section
variable {K : PySem.W.Frag} {τ : List V} {B B' H : Hp}
mutual
theorem RepS.frz (e : Ex B B') : ∀ {v : V} {s : Sl} {A : List Addr}, RepS K τ B H v s A → (∀ a ∈ A, B' a = H a) → Rep K B' v (DL.frz s)
  | _, _, _, .sh h, _ => by rw [DL.frz]; exact h.mono e
  | _, _, _, .ol h r t, k => by rw [DL.frz]; exact .lst ((k _ (by simp)).trans h) (r.mono e)
  | _, _, _, .odk h r t, k => by rw [DL.frz]; exact .dicK ((k _ (by simp)).trans h) (r.mono e)
  | _, _, _, .odt h r t, k => by rw [DL.frz]; exact .dicT ((k _ (by simp)).trans h) (r.mono e)
  | _, _, _, .oo h r n t, k => by rw [DL.frz]; exact .ins ((k _ (by simp)).trans h) (RepSF.frz e r fun a ha => k a (List.mem_cons_of_mem _ ha))
theorem RepSF.frz (e : Ex B B') : ∀ {v : List (Str × V)} {s : List (Str × Sl)} {A : List Addr}, RepSF K τ B H v s A → (∀ a ∈ A, B' a = H a) → RepF K B' v (frzF s)
  | _, _, _, .nil, _ => by rw [frzF]; exact .nil
  | _, _, _, .cons h r d, k => by rw [frzF]; exact .cons (RepS.frz e h fun a ha => k a (List.mem_append_left _ ha)) (RepSF.frz e r fun a ha => k a (List.mem_append_right _ ha))
end
end

theorem RepS.sh_inv {K : PySem.W.Frag} {τ : List V} {B H : Hp} {v : V} {d : Dat} {A : List Addr} (h : RepS K τ B H v (.sh d) A) : A = [] ∧ Rep K B v d := by
  cases h with
  | sh h => exact ⟨rfl, h⟩
theorem RepS.ol_inv {K : PySem.W.Frag} {τ : List V} {B H : Hp} {v : V} {t : Option Nat} {ds : List Dat} {A : List Addr} (h : RepS K τ B H v (.ol t ds) A) : ∃ a xs, v = .ref a ∧ A = [a] ∧ H a = some (.lst xs) ∧ RepAll K B xs ds ∧ TagOk τ t a := by
  cases h with
  | ol h r k => exact ⟨_, _, rfl, rfl, h, r, k⟩
theorem RepS.odk_inv {K : PySem.W.Frag} {τ : List V} {B H : Hp} {v : V} {t : Option Nat} {ds : List (Dat × Dat)} {A : List Addr} (h : RepS K τ B H v (.od t false ds) A) : ∃ a kvs, v = .ref a ∧ A = [a] ∧ H a = some (.dK kvs) ∧ RepKV K B kvs ds ∧ TagOk τ t a := by
  cases h with
  | odk h r k => exact ⟨_, _, rfl, rfl, h, r, k⟩
theorem RepS.odt_inv {K : PySem.W.Frag} {τ : List V} {B H : Hp} {v : V} {t : Option Nat} {ds : List (Dat × Dat)} {A : List Addr} (h : RepS K τ B H v (.od t true ds) A) : ∃ a kvs, v = .ref a ∧ A = [a] ∧ H a = some (.dT kvs) ∧ RepTV K B kvs ds ∧ TagOk τ t a := by
  cases h with
  | odt h r k => exact ⟨_, _, rfl, rfl, h, r, k⟩
theorem RepS.oo_inv {K : PySem.W.Frag} {τ : List V} {B H : Hp} {v : V} {t : Option Nat} {c : Str} {fs : List (Str × Sl)} {A : List Addr} (h : RepS K τ B H v (.oo t c fs) A) :
    ∃ a dx fvs A', v = .ref a ∧ A = a :: A' ∧ H a = some (.ins (He.ga K c) dx fvs) ∧ RepSF K τ B H fvs fs A' ∧ a ∉ A' ∧ TagOk τ t a := by
  cases h with
  | oo h r n k => exact ⟨_, _, _, _, rfl, rfl, h, r, n, k⟩

/-! ### the state -/
def own (fp : Nat → List Addr) (a : Addr) : Prop := ∃ i, a ∈ fp i
/-- B: what is shared, a part of the heap H; ρ tells the slots, fp what each owns -/
structure SR (K : PySem.W.Frag) (τ : List V) (B : Hp) (σ : St) (H : Hp) (ρ : Env) (fp : Nat → List Addr) : Prop where
  rel : ∀ (i : Nat) (s : Sl), ρ[i]? = some (some s) → ∃ v, σ[i]? = some (some v) ∧ RepS K τ B H v s (fp i)
  emp : ∀ i : Nat, (∀ s, ρ[i]? ≠ some (some s)) → fp i = []
  dis : ∀ i j : Nat, i ≠ j → ∀ a ∈ fp i, a ∉ fp j
  sep : ∀ i : Nat, ∀ a ∈ fp i, B a = none
  le : Ex B H
/-- from one state to a later one -/
structure Tr (B H : Hp) (fp : Nat → List Addr) (B' H' : Hp) (fp' : Nat → List Addr) : Prop where
  fr : ∀ a o, H a = some o → ¬ own fp a → H' a = some o
  ex : Ex B B'
  nw : ∀ a o, B' a = some o → B a = some o ∨ H a = none ∨ own fp a
  ow : ∀ a, own fp' a → own fp a ∨ H a = none
/-- nothing but new things -/
structure Pu (H H' : Hp) (ρ ρ' : Env) (fp fp' : Nat → List Addr) : Prop where
  ex : Ex H H'
  er : ρ' = ρ
  ef : fp' = fp
def HSz (H : Hp) : Prop := ∀ a, (∀ xs, Rd H a (.lst xs) → xs.length ≤ sizeLine) ∧ (∀ xs, Rd H a (.tup xs) → xs.length ≤ sizeLine) ∧ (∀ xs, Rd H a (.dK xs) → xs.length ≤ sizeLine) ∧ (∀ xs, Rd H a (.dT xs) → xs.length ≤ sizeLine)
theorem hsz_of {P : Program} {w : World} {H : Hp} {h : Heap} (ok : HOk P w H h) : HSz H := fun a =>
  ⟨fun xs r => (r.ok ok).1, fun xs r => (r.ok ok).1, fun xs r => (r.ok ok).1, fun xs r => (r.ok ok).1⟩

theorem Tr.refl {B H : Hp} {fp : Nat → List Addr} : Tr B H fp B H fp := ⟨fun _ _ h _ => h, Ex.refl _, fun _ _ h => .inl h, fun _ h => .inl h⟩
theorem Tr.trans {B H B1 H1 B2 H2 : Hp} {fp fp1 fp2 : Nat → List Addr} (s : Tr B H fp B1 H1 fp1) (t : Tr B1 H1 fp1 B2 H2 fp2) : Tr B H fp B2 H2 fp2 := by
  have back : ∀ a, H1 a = none → H a = none ∨ own fp a := fun a h => by
    cases q : H a with
    | none => exact .inl rfl
    | some o =>
      by_cases z : own fp a
      · exact .inr z
      · rw [s.fr a o q z] at h; cases h
  refine ⟨fun a o h n => t.fr a o (s.fr a o h n) fun z => ?_, s.ex.trans t.ex, fun a o h => ?_, fun a h => ?_⟩
  · rcases s.ow a z with q | q
    · exact n q
    · rw [h] at q; cases q
  · rcases t.nw a o h with q | q | q
    · exact s.nw a o q
    · exact .inr (back a q)
    · exact .inr (Or.symm (s.ow a q))
  · rcases t.ow a h with q | q
    · exact s.ow a q
    · exact Or.symm (back a q)
theorem Pu.refl {H : Hp} {ρ : Env} {fp : Nat → List Addr} : Pu H H ρ ρ fp fp := ⟨Ex.refl _, rfl, rfl⟩
theorem Pu.trans {H H1 H2 : Hp} {ρ ρ1 ρ2 : Env} {fp fp1 fp2 : Nat → List Addr} (s : Pu H H1 ρ ρ1 fp fp1) (t : Pu H1 H2 ρ1 ρ2 fp1 fp2) : Pu H H2 ρ ρ2 fp fp2 :=
  ⟨s.ex.trans t.ex, t.er.trans s.er, t.ef.trans s.ef⟩
section
variable {K : PySem.W.Frag} {τ : List V} {B B' : Hp} {σ : St} {H H' : Hp} {ρ ρ' : Env} {fp fp' : Nat → List Addr}
theorem SR.live (S : SR K τ B σ H ρ fp) {a : Addr} (h : own fp a) : ∃ o, H a = some o := by
  obtain ⟨i, hi⟩ := h
  cases q : ρ[i]? with
  | none => rw [S.emp i fun s z => by rw [q] at z; cases z] at hi; cases hi
  | some o =>
    cases o with
    | none => rw [S.emp i fun s z => by rw [q] at z; cases z] at hi; cases hi
    | some s =>
      obtain ⟨v, _, r⟩ := S.rel i s q
      exact r.live a hi
theorem SR.nob (S : SR K τ B σ H ρ fp) {a : Addr} (h : own fp a) : B a = none := by
  obtain ⟨i, hi⟩ := h
  exact S.sep i a hi
theorem SR.noown (S : SR K τ B σ H ρ fp) {a : Addr} (h : H a = none) : ¬ own fp a := fun z => by
  obtain ⟨o, q⟩ := S.live z
  rw [h] at q; cases q
theorem SR.nowb (S : SR K τ B σ H ρ fp) {a : Addr} (h : H a = none) : B a = none := by
  cases q : B a with
  | none => rfl
  | some o => rw [S.le a o q] at h; cases h
/-- things are added, B takes some of the new ones -/
theorem SR.grow (S : SR K τ B σ H ρ fp) (e : Ex H H') (b : Ex B B') (n : ∀ a o, B' a = some o → B a = some o ∨ (H a = none ∧ H' a = some o)) : SR K τ B' σ H' ρ fp := by
  refine ⟨fun i s q => ?_, S.emp, S.dis, fun i a ha => ?_, fun a o h => ?_⟩
  · obtain ⟨v, h1, h2⟩ := S.rel i s q
    refine ⟨v, h1, h2.mono b fun a ha => ?_⟩
    obtain ⟨o, ho⟩ := h2.live a ha
    rw [ho]; exact e a o ho
  · cases q : B' a with
    | none => rfl
    | some o =>
      rcases n a o q with z | z
      · rw [S.sep i a ha] at z; cases z
      · exact absurd ⟨i, ha⟩ (S.noown z.1)
  · rcases n a o h with z | z
    · exact e a o (S.le a o z)
    · exact z.2
theorem SR.ext (S : SR K τ B σ H ρ fp) (e : Ex H H') : SR K τ B σ H' ρ fp := S.grow e (Ex.refl _) fun _ _ h => .inl h
theorem Tr.new (e : Ex H H') (b : Ex B B') (n : ∀ a o, B' a = some o → B a = some o ∨ (H a = none ∧ H' a = some o)) : Tr B H fp B' H' fp :=
  ⟨fun a o h _ => e a o h, b, fun a o h => (n a o h).imp id fun z => .inl z.1, fun _ h => .inl h⟩
theorem Tr.ext (e : Ex H H') : Tr B H fp B H' fp := Tr.new e (Ex.refl _) fun _ _ h => .inl h
/-- B with the new object at p -/
theorem new_ex {p : Addr} {o : HO} (h : H p = none) : Ex H (upd H p o) := Ex.new h
theorem new_b {p : Addr} {o : HO} : ∀ a u, upd B p o a = some u → B a = some u ∨ (a = p ∧ u = o) := fun a u h => by
  by_cases e : a = p
  · subst e; rw [upd_same] at h; cases h; exact .inr ⟨rfl, rfl⟩
  · rw [upd_ne e] at h; exact .inl h
theorem SR.newb (S : SR K τ B σ H ρ fp) {p : Addr} {o : HO} (h : H p = none) : SR K τ (upd B p o) σ (upd H p o) ρ fp :=
  S.grow (Ex.new h) (Ex.new (S.nowb h)) fun a u z => (new_b a u z).imp id fun ⟨e1, e2⟩ => by subst e1 e2; exact ⟨h, upd_same⟩
theorem Tr.newb (S : SR K τ B σ H ρ fp) {p : Addr} {o : HO} (h : H p = none) : Tr B H fp (upd B p o) (upd H p o) fp :=
  Tr.new (Ex.new h) (Ex.new (S.nowb h)) fun a u z => (new_b a u z).imp id fun ⟨e1, e2⟩ => by subst e1 e2; exact ⟨h, upd_same⟩
end

/-! ### what expressions do (p: nothing owned is touched) -/
def tDat (K : PySem.W.Frag) (τ : List V) (p : Bool) (f : M Dat) : TE := fun σ H Q => ∃ ρ B fp, SR K τ B σ H ρ fp ∧ ∃ d ρ', f ρ = some (d, ρ') ∧
  ∀ v H' B' fp', HSz H' → SR K τ B' σ H' ρ' fp' → Tr B H fp B' H' fp' → (p = true → Pu H H' ρ ρ' fp fp') → Rep K B' v d → Q v H'
/-- a result that owns A -/
structure Sep (B H : Hp) (fp : Nat → List Addr) (B' : Hp) (fp' : Nat → List Addr) (A : List Addr) : Prop where
  nb : ∀ a ∈ A, B' a = none
  nf : ∀ a ∈ A, ¬ own fp' a
  ow : ∀ a ∈ A, own fp a ∨ H a = none
def tSl (K : PySem.W.Frag) (τ : List V) (p : Bool) (f : M Sl) : TE := fun σ H Q => ∃ ρ B fp, SR K τ B σ H ρ fp ∧ ∃ r ρ', f ρ = some (r, ρ') ∧
  ∀ v H' B' fp' A, HSz H' → SR K τ B' σ H' ρ' fp' → Tr B H fp B' H' fp' → (p = true → Pu H H' ρ ρ' fp fp') → RepS K τ B' H' v r A → Sep B H fp B' fp' A → Q v H'
def tBool (K : PySem.W.Frag) (τ : List V) (p : Bool) (f : M Bool) : TT := fun σ H Q => ∃ ρ B fp, SR K τ B σ H ρ fp ∧ ∃ b ρ', f ρ = some (b, ρ') ∧
  ∀ H' B' fp', HSz H' → SR K τ B' σ H' ρ' fp' → Tr B H fp B' H' fp' → (p = true → Pu H H' ρ ρ' fp fp') → Q b H'
abbrev PED (X : Cx) (τ : List V) (p : Bool) (e : Expr) (f : M Dat) : Prop := PE X e (tDat X.K τ p f)
abbrev PEO (X : Cx) (τ : List V) (p : Bool) (e : Expr) (f : M Sl) : Prop := PE X e (tSl X.K τ p f)
abbrev PTD (X : Cx) (τ : List V) (p : Bool) (e : Expr) (f : M Bool) : Prop := PT X e (tBool X.K τ p f)

theorem PE.imp {X : Cx} {e : Expr} {t t' : TE} (h : PE X e t) (k : ∀ σ H Q, HSz H → σ.length = X.N.length → t' σ H Q → t σ H (fun v H' => HSz H' → Q v H')) : PE X e t' :=
  ⟨fun pins s σ H Q I q => wpAny_mono (h.run pins s σ H _ I (k σ H Q (hsz_of I.hok) I.len q)) (fun _ _ ⟨v, H', I', r, q⟩ => ⟨v, H', I', r, q (hsz_of I'.hok)⟩) fun _ _ z => z⟩
theorem PT.imp {X : Cx} {e : Expr} {t t' : TT} (h : PT X e t) (k : ∀ σ H Q, HSz H → σ.length = X.N.length → t' σ H Q → t σ H (fun v H' => HSz H' → Q v H')) : PT X e t' :=
  ⟨fun pins s σ H Q I q => wpAny_mono (h.run pins s σ H _ I (k σ H Q (hsz_of I.hok) I.len q)) (fun _ _ ⟨H', I', q⟩ => ⟨H', I', q (hsz_of I'.hok)⟩) fun _ _ z => z⟩

/-! ### the monad -/
def ret {α : Type} (a : α) : M α := fun ρ => some (a, ρ)
def bnd {α β : Type} (m : M α) (k : α → M β) : M β := fun ρ => match m ρ with
  | some (a, ρ') => k a ρ'
  | none => none
def lift {α : Type} (o : Option α) : M α := fun ρ => match o with
  | some a => some (a, ρ)
  | none => none
theorem bnd_some {α β : Type} {m : M α} {k : α → M β} {ρ ρ2 : Env} {b : β} (h : bnd m k ρ = some (b, ρ2)) : ∃ a ρ1, m ρ = some (a, ρ1) ∧ k a ρ1 = some (b, ρ2) := by
  unfold bnd at h
  cases q : m ρ with
  | none => rw [q] at h; cases h
  | some p => rw [q] at h; exact ⟨p.1, p.2, rfl, h⟩
theorem lift_some {α : Type} {o : Option α} {ρ ρ' : Env} {a : α} (h : lift o ρ = some (a, ρ')) : o = some a ∧ ρ' = ρ := by
  unfold lift at h
  cases q : o with
  | none => rw [q] at h; cases h
  | some p => rw [q] at h; cases h; exact ⟨rfl, rfl⟩

/-! ### first rules -/
section
variable {X : Cx} {τ : List V} {p pa pb : Bool} {e a b : Expr} {pos : Pos}
/-- the name in slot i, shared -/
def vr (i : Nat) : M Dat := fun ρ => match ρ[i]? with
  | some (some (.sh d)) => some (d, ρ)
  | _ => none
theorem vr_some {i : Nat} {ρ ρ' : Env} {d : Dat} (h : vr i ρ = some (d, ρ')) : ρ[i]? = some (some (.sh d)) ∧ ρ' = ρ := by
  unfold vr at h
  split at h
  · rename_i d' q
    cases h
    exact ⟨q, rfl⟩
  · cases h
theorem ped_var (i : Nat) {x : Str} (h : PE X (.Name x pos) (tVar i)) : PED X τ true (.Name x pos) (vr i) := PE.imp h fun σ H Q hz _ ⟨ρ, B, fp, S, d, ρ', hf, k⟩ => by
  obtain ⟨q, rfl⟩ := vr_some hf
  obtain ⟨v, h1, h2⟩ := S.rel _ _ q
  exact ⟨v, h1, fun hz' => k v H B fp hz' S Tr.refl (fun _ => Pu.refl) h2.sh_inv.2⟩
def cst (d : Dat) : M Dat := ret d
theorem ped_const {v : V} {d : Dat} (h : PE X e (tC v)) (r : ∀ B, Rep X.K B v d) : PED X τ true e (cst d) := PE.imp h fun σ H Q hz _ ⟨ρ, B, fp, S, d', ρ', hf, k⟩ => by
  cases hf
  exact fun hz' => k v H B fp hz' S Tr.refl (fun _ => Pu.refl) (r _)
theorem ped_int {i : Int} {j} : PED X τ true (.Constant (.int i) j pos) (cst (.int i)) := ped_const pe_int fun _ => .int i
theorem ped_bl {i : Bool} {j} : PED X τ true (.Constant (.bool i) j pos) (cst (.bl i)) := ped_const pe_bl fun _ => .bl i
theorem ped_non {j} : PED X τ true (.Constant .none j pos) (cst .non) := ped_const pe_non fun _ => .non
theorem ped_str {i : Str} {j} : PED X τ true (.Constant (.str i) j pos) (cst (.str i)) := ped_const pe_str fun _ => .str i

/-! a two-place operation -/
def bin (g : Dat → Dat → Option Dat) (fa fb : M Dat) : M Dat := bnd fa fun x => bnd fb fun y => lift (g x y)
/-- the operation r on values is g on data -/
def OpD (K : PySem.W.Frag) (r : R2) (g : Dat → Dat → Option Dat) : Prop := ∀ (B H : Hp) (x y : V) (dx dy dz : Dat) (Q : VK), HSz H → Ex B H → Rep K B x dx → Rep K B y dy → g dx dy = some dz →
  (∀ v H' B', Ex H H' → Ex B B' → (∀ a o, B' a = some o → B a = some o ∨ (H a = none ∧ H' a = some o)) → Rep K B' v dz → Q v H') → r x y H Q
theorem pu_and {pa pb : Bool} {H H1 H2 : Hp} {ρ ρ1 ρ2 : Env} {fp fp1 fp2 : Nat → List Addr} (u1 : pa = true → Pu H H1 ρ ρ1 fp fp1) (u2 : pb = true → Pu H1 H2 ρ1 ρ2 fp1 fp2) : (pa && pb) = true → Pu H H2 ρ ρ2 fp fp2 := fun h => by
  obtain ⟨h1, h2⟩ := Bool.and_eq_true_iff.mp h
  exact (u1 h1).trans (u2 h2)
theorem op_imp {r : R2} {g : Dat → Dat → Option Dat} {fa fb : M Dat} (hd : OpD X.K r g) {σ : St} {H : Hp} {Q : VK} (h : tDat X.K τ (pa && pb) (bin g fa fb) σ H Q) : tOp r (tDat X.K τ pa fa) (tDat X.K τ pb fb) σ H (fun v H' => HSz H' → Q v H') := by
  obtain ⟨ρ, B, fp, S, d, ρ', hf, k⟩ := h
  obtain ⟨x, ρ1, h1, hf⟩ := bnd_some hf
  obtain ⟨y, ρ2, h2, hf⟩ := bnd_some hf
  obtain ⟨h3, rfl⟩ := lift_some hf
  refine ⟨ρ, B, fp, S, x, ρ1, h1, fun v1 H1 B1 fp1 z1 S1 t1 u1 r1 => ⟨ρ1, B1, fp1, S1, y, _, h2, fun v2 H2 B2 fp2 z2 S2 t2 u2 r2 => ?_⟩⟩
  refine hd B2 H2 v1 v2 x y d _ z2 S2.le (r1.mono t2.ex) r2 h3 fun v H' B' ex eb nb r hz' => ?_
  exact k v H' B' fp2 hz' (S2.grow ex eb nb) ((t1.trans t2).trans (Tr.new ex eb nb)) (fun h => ⟨((pu_and u1 u2 h).ex).trans ex, (pu_and u1 u2 h).er, (pu_and u1 u2 h).ef⟩) r
theorem ped_bin {op : Operator} {r : R2} {g : Dat → Dat → Option Dat} {fa fb : M Dat} (ho : OpR X (binaryOp op) r) (hd : OpD X.K r g) (ha : PED X τ pa a fa) (hb : PED X τ pb b fb) : PED X τ (pa && pb) (.BinOp a op b pos) (bin g fa fb) :=
  PE.imp (pe_op ho ha hb) fun σ H Q hz _ h => op_imp hd h
theorem ped_cmp {op : CmpOp} {r : R2} {g : Dat → Dat → Option Dat} {fa fb : M Dat} (ho : OpR X (compareOp op) r) (hd : OpD X.K r g) (hm : behindInMarks op b = false) (ha : PED X τ pa a fa) (hb : PED X τ pb b fb) : PED X τ (pa && pb) (.Compare a [op] [b] pos) (bin g fa fb) :=
  PE.imp (pe_cmpR ho ha hb hm) fun σ H Q hz _ h => op_imp hd h
end
end DL

set_option Elab.async false
set_option linter.all false
set_option maxRecDepth 100000
set_option maxHeartbeats 2000000
namespace DL
open PySem L2

/-! ### freezing -/
section
variable {K : PySem.W.Frag} {τ : List V} {B B' : Hp} {σ : St} {H H' : Hp} {ρ ρ' : Env} {fp fp' : Nat → List Addr} {A : List Addr} {v : V} {r : Sl}
theorem add_ex (h : ∀ a ∈ A, B a = none) : Ex B (add B H A) := fun a o e => by
  by_cases q : a ∈ A
  · rw [h a q] at e; cases e
  · rw [add_out q]; exact e
theorem SR.freeze (S : SR K τ B' σ H' ρ' fp') (z : Sep B H fp B' fp' A) : SR K τ (add B' H' A) σ H' ρ' fp' := by
  refine ⟨fun i s q => ?_, S.emp, S.dis, fun i a ha => ?_, fun a o h => ?_⟩
  · obtain ⟨v, h1, h2⟩ := S.rel i s q
    exact ⟨v, h1, h2.mono (add_ex z.nb) fun _ _ => rfl⟩
  · have n : a ∉ A := fun q => z.nf a q ⟨i, ha⟩
    rw [add_out n]; exact S.sep i a ha
  · by_cases q : a ∈ A
    · rw [add_in q] at h; exact h
    · rw [add_out q] at h; exact S.le a o h
theorem Tr.freeze (t : Tr B H fp B' H' fp') (z : Sep B H fp B' fp' A) : Tr B H fp (add B' H' A) H' fp' := by
  refine ⟨t.fr, t.ex.trans (add_ex z.nb), fun a o h => ?_, t.ow⟩
  by_cases q : a ∈ A
  · exact .inr (Or.symm (z.ow a q))
  · rw [add_out q] at h; exact t.nw a o h
theorem rep_freeze (r1 : RepS K τ B' H' v r A) (z : Sep B H fp B' fp' A) : Rep K (add B' H' A) v (frz r) := r1.frz (add_ex z.nb) fun a ha => add_in ha
end
def frzM (f : M Sl) : M Dat := bnd f fun r => ret (frz r)
def shM (f : M Dat) : M Sl := bnd f fun d => ret (.sh d)
section
variable {X : Cx} {τ : List V} {p pa pb : Bool} {e a b : Expr} {pos : Pos}
theorem PE.frz {f : M Sl} (h : PEO X τ p e f) : PED X τ p e (frzM f) := PE.imp h fun σ H Q hz _ ⟨ρ, B, fp, S, d, ρ', hf, k⟩ => by
  obtain ⟨r, ρ1, h1, h2⟩ := bnd_some hf
  cases h2
  exact ⟨ρ, B, fp, S, r, ρ', h1, fun v H' B' fp' A z1 S1 t1 u1 r1 z hz' => k v H' (add B' H' A) fp' hz' (S1.freeze z) (t1.freeze z) u1 (rep_freeze r1 z)⟩
theorem PE.sh {f : M Dat} (h : PED X τ p e f) : PEO X τ p e (shM f) := PE.imp h fun σ H Q hz _ ⟨ρ, B, fp, S, d, ρ', hf, k⟩ => by
  obtain ⟨r, ρ1, h1, h2⟩ := bnd_some hf
  cases h2
  exact ⟨ρ, B, fp, S, r, ρ', h1, fun v H' B' fp' z1 S1 t1 u1 r1 hz' => k v H' B' fp' [] hz' S1 t1 u1 (.sh r1) ⟨by simp, by simp, by simp⟩⟩
end

/-! ### statements -/
inductive Fl where
  | nx | bk | ct | rt (r : Sl)
abbrev Fm := Env → Option (Fl × Env)
def endF (K : PySem.W.Frag) (τ : List V) (D : Ends) (B H : Hp) (fp : Nat → List Addr) (fl : Fl) (σ' : St) (H' B' : Hp) (fp' : Nat → List Addr) : Prop := match fl with
  | .nx => D.nx σ' H'
  | .bk => D.bk σ' H'
  | .ct => D.ct σ' H'
  | .rt r => ∀ v A, RepS K τ B' H' v r A → Sep B H fp B' fp' A → D.rt v H'
def tStm (K : PySem.W.Frag) (τ : List V) (F : Fm) : TS := fun D σ H => ∃ ρ B fp, SR K τ B σ H ρ fp ∧ ∃ fl ρ', F ρ = some (fl, ρ') ∧
  ∀ σ' H' B' fp', HSz H' → σ'.length = σ.length → SR K τ B' σ' H' ρ' fp' → Tr B H fp B' H' fp' → endF K τ D B H fp fl σ' H' B' fp'
abbrev PSD (X : Cx) (τ : List V) (st : Stmt) (F : Fm) : Prop := PS X st (tStm X.K τ F)
abbrev PSsD (X : Cx) (τ : List V) (st : List Stmt) (F : Fm) : Prop := PSs X st (tStm X.K τ F)
/-- the ends, with what every state bears -/
def hzE (n : Nat) (D : Ends) : Ends := ⟨fun σ H => HSz H → σ.length = n → D.nx σ H, fun v H => HSz H → D.rt v H, fun σ H => HSz H → σ.length = n → D.bk σ H, fun σ H => HSz H → σ.length = n → D.ct σ H⟩
theorem sp_hz {X : Cx} {pins : List (Addr × Obj)} {D : Ends} {fl : Flow} {s : Shared} (h : SP X pins (hzE X.N.length D) fl s) : SP X pins D fl s := by
  cases fl with
  | next => obtain ⟨σ', H', I, q⟩ := h; exact ⟨σ', H', I, q (hsz_of I.hok) I.len⟩
  | brk => obtain ⟨σ', H', I, q⟩ := h; exact ⟨σ', H', I, q (hsz_of I.hok) I.len⟩
  | cont => obtain ⟨σ', H', I, q⟩ := h; exact ⟨σ', H', I, q (hsz_of I.hok) I.len⟩
  | ret u => obtain ⟨v, σ', H', I, r, q⟩ := h; exact ⟨v, σ', H', I, r, q (hsz_of I.hok)⟩
theorem PS.imp {X : Cx} {e : Stmt} {t t' : TS} (h : PS X e t) (k : ∀ D σ H, HSz H → σ.length = X.N.length → t' D σ H → t (hzE X.N.length D) σ H) : PS X e t' :=
  ⟨fun pins s σ H D I q => wpAny_mono (h.run pins s σ H _ I (k D σ H (hsz_of I.hok) I.len q)) (fun _ _ z => sp_hz z) fun _ _ z => z⟩
theorem PSs.imp {X : Cx} {e : List Stmt} {t t' : TS} (h : PSs X e t) (k : ∀ D σ H, HSz H → σ.length = X.N.length → t' D σ H → t (hzE X.N.length D) σ H) : PSs X e t' :=
  ⟨fun pins s σ H D I q => wpAny_mono (h.run pins s σ H _ I (k D σ H (hsz_of I.hok) I.len q)) (fun _ _ z => sp_hz z) fun _ _ z => z⟩

theorem Sep.back {B H B1 H1 B' : Hp} {fp fp1 fp' : Nat → List Addr} {A : List Addr} (t : Tr B H fp B1 H1 fp1) (z : Sep B1 H1 fp1 B' fp' A) : Sep B H fp B' fp' A :=
  ⟨z.nb, z.nf, fun a ha => by
    rcases z.ow a ha with q | q
    · exact t.ow a q
    · cases y : H a with
      | none => exact .inr rfl
      | some o =>
        by_cases w : own fp a
        · exact .inl w
        · rw [t.fr a o y w] at q; cases q⟩
def nop : Fm := fun ρ => some (.nx, ρ)
def sq (F G : Fm) : Fm := fun ρ => match F ρ with
  | some (.nx, ρ1) => G ρ1
  | o => o
section
variable {X : Cx} {τ : List V} {p pa pb : Bool} {e a b : Expr} {pos : Pos} {st : Stmt} {rest : List Stmt} {F G : Fm}
theorem psd_nil : PSsD X τ [] nop := PSs.imp pss_nil fun D σ H hz hl ⟨ρ, B, fp, S, fl, ρ', hf, k⟩ => by
  cases hf
  exact fun hz' hl' => k σ H B fp hz' rfl S Tr.refl
theorem psd_one (h : PSD X τ st F) : PSsD X τ [st] F := pss_one h
theorem psd_cons (h1 : PSD X τ st F) (h2 : PSsD X τ rest G) : PSsD X τ (st :: rest) (sq F G) := PSs.imp (pss_cons h1 h2) fun D σ H hz hl ⟨ρ, B, fp, S, fl, ρ', hf, k⟩ => by
  unfold sq at hf
  cases q : F ρ with
  | none => rw [q] at hf; cases hf
  | some r =>
    obtain ⟨fl1, ρ1⟩ := r
    rw [q] at hf
    refine ⟨ρ, B, fp, S, fl1, ρ1, q, fun σ1 H1 B1 fp1 z1 l1 S1 t1 => ?_⟩
    cases fl1 with
    | nx =>
      refine ⟨ρ1, B1, fp1, S1, fl, ρ', hf, fun σ2 H2 B2 fp2 z2 l2 S2 t2 => ?_⟩
      have q2 := k σ2 H2 B2 fp2 z2 (l2.trans l1) S2 (t1.trans t2)
      cases fl with
      | nx => exact fun _ _ => q2
      | bk => exact fun _ _ => q2
      | ct => exact fun _ _ => q2
      | rt r => exact fun v A rv z _ => q2 v A rv (z.back t1)
    | bk => cases hf; exact fun _ _ => k σ1 H1 B1 fp1 z1 l1 S1 t1
    | ct => cases hf; exact fun _ _ => k σ1 H1 B1 fp1 z1 l1 S1 t1
    | rt r => cases hf; exact fun v A rv z _ => k σ1 H1 B1 fp1 z1 l1 S1 t1 v A rv z
theorem psd_pass : PSD X τ (.Pass pos) nop := PS.imp ps_pass fun D σ H hz hl ⟨ρ, B, fp, S, fl, ρ', hf, k⟩ => by
  cases hf
  exact fun hz' hl' => k σ H B fp hz' rfl S Tr.refl
theorem psd_brk : PSD X τ (.Break pos) (fun ρ => some (.bk, ρ)) := PS.imp ps_break fun D σ H hz hl ⟨ρ, B, fp, S, fl, ρ', hf, k⟩ => by
  cases hf
  exact fun hz' hl' => k σ H B fp hz' rfl S Tr.refl
theorem psd_cont : PSD X τ (.Continue pos) (fun ρ => some (.ct, ρ)) := PS.imp ps_continue fun D σ H hz hl ⟨ρ, B, fp, S, fl, ρ', hf, k⟩ => by
  cases hf
  exact fun hz' hl' => k σ H B fp hz' rfl S Tr.refl
/-- a way that is not gone -/
def nvr : Fm := fun _ => none
theorem psd_never : PSD X τ st nvr := PS.imp ps_never fun D σ H hz hl ⟨ρ, B, fp, S, fl, ρ', hf, k⟩ => by cases hf
theorem psds_never : PSsD X τ rest nvr := PSs.imp pss_never fun D σ H hz hl ⟨ρ, B, fp, S, fl, ρ', hf, k⟩ => by cases hf

/-- what slot i held is dropped, r stands there -/
theorem SR.store {K : PySem.W.Frag} {B : Hp} {σ : St} {H : Hp} {ρ : Env} {fp : Nat → List Addr} {B0 H0 : Hp} {fp0 : Nat → List Addr} {A : List Addr} {v : V} {r : Sl} {i : Nat} (S : SR K τ B σ H ρ fp) (hi : i < σ.length) (rv : RepS K τ B H v r A) (z : Sep B0 H0 fp0 B fp A) :
    SR K τ B (σ.set i (some v)) H (ρ.set i (some r)) (fun j => if j = i then (if i < ρ.length then A else []) else fp j) := by
  refine ⟨fun j s q => ?_, fun j n => ?_, fun j k hjk c hc => ?_, fun j c hc => ?_, S.le⟩
  · by_cases hj : j = i
    · subst hj
      have hl : j < ρ.length := by
        have := (List.getElem?_eq_some_iff.mp q).1
        simpa using this
      rw [List.getElem?_set_self hl] at q
      cases q
      exact ⟨v, List.getElem?_set_self hi, by simp only [if_true, if_pos hl]; exact rv⟩
    · rw [List.getElem?_set_ne (Ne.symm hj)] at q
      obtain ⟨u, h1, h2⟩ := S.rel j s q
      exact ⟨u, by rw [List.getElem?_set_ne (Ne.symm hj)]; exact h1, by rw [if_neg hj]; exact h2⟩
  · by_cases hj : j = i
    · subst hj
      by_cases hl : j < ρ.length
      · exact absurd (List.getElem?_set_self hl) (n r)
      · simp [hl]
    · rw [if_neg hj]
      exact S.emp j fun s q => n s (by rw [List.getElem?_set_ne (Ne.symm hj)]; exact q)
  · by_cases hj : j = i
    · rw [if_pos hj] at hc
      rw [if_neg (fun q => hjk (hj.trans q.symm))]
      split at hc
      · exact fun q => z.nf c hc ⟨k, q⟩
      · cases hc
    · rw [if_neg hj] at hc
      by_cases hk : k = i
      · rw [if_pos hk]
        split
        · exact fun q => z.nf c q ⟨j, hc⟩
        · simp
      · rw [if_neg hk]; exact S.dis j k hjk c hc
  · by_cases hj : j = i
    · rw [if_pos hj] at hc
      split at hc
      · exact z.nb c hc
      · cases hc
    · rw [if_neg hj] at hc; exact S.sep j c hc
theorem Tr.store {B B' H H' : Hp} {fp fp' : Nat → List Addr} {A : List Addr} {i : Nat} {c : Prop} [Decidable c] (t : Tr B H fp B' H' fp') (z : Sep B H fp B' fp' A) : Tr B H fp B' H' (fun j => if j = i then (if c then A else []) else fp' j) := by
  refine ⟨t.fr, t.ex, t.nw, fun a ⟨j, hj⟩ => ?_⟩
  dsimp only at hj
  split at hj
  · split at hj
    · exact z.ow a hj
    · cases hj
  · exact t.ow a ⟨j, hj⟩
def asg (i : Nat) (f : M Sl) : Fm := fun ρ => match f ρ with
  | some (r, ρ1) => some (.nx, ρ1.set i (some r))
  | none => none
theorem psd_asg {i : Nat} {x : Str} {f : M Sl} {pos' : Pos} (hN : X.N.Nodup) (hi : X.N[i]? = some x) (hx : Loc X.env.scope x) (he : PEO X τ p e f) (hs : swapsWith e (some (.Name x pos')) pos.line X.env = pure false := by rfl)
    (hf : X.fn x = true ∨ X.env.scope.names.lookup x = some .local := by first | exact .inl rfl | exact .inr rfl | assumption) : PSD X τ (.Assign [.Name x pos'] e pos) (asg i f) :=
  PS.imp (ps_set hN hi hx he hs hf) fun D σ H hz hl ⟨ρ, B, fp, S, fl, ρ', hf, k⟩ => by
    unfold asg at hf
    split at hf
    · rename_i r ρ1 q
      cases hf
      have hiN : i < σ.length := by rw [hl]; exact (List.getElem?_eq_some_iff.mp hi).1
      exact ⟨ρ, B, fp, S, r, ρ1, q, fun v H' B' fp' A z1 S1 t1 u1 r1 z hz' hl' => k _ H' B' _ hz' (by simp) (S1.store hiN r1 z) (t1.store z)⟩
    · cases hf
def dropS (f : M Sl) : Fm := fun ρ => match f ρ with
  | some (_, ρ1) => some (.nx, ρ1)
  | none => none
theorem psd_expr {f : M Sl} (he : PEO X τ p e f) (hs : swapsWith e none pos.line X.env = pure false := by rfl) : PSD X τ (.Expr e pos) (dropS f) :=
  PS.imp (ps_expr he hs) fun D σ H hz hl ⟨ρ, B, fp, S, fl, ρ', hf, k⟩ => by
    unfold dropS at hf
    split at hf
    · rename_i r ρ1 q
      cases hf
      exact ⟨ρ, B, fp, S, r, _, q, fun v H' B' fp' A z1 S1 t1 u1 r1 z hz' hl' => k _ H' B' _ hz' rfl S1 t1⟩
    · cases hf
def rtn (f : M Sl) : Fm := fun ρ => match f ρ with
  | some (r, ρ1) => some (.rt r, ρ1)
  | none => none
theorem psd_ret {f : M Sl} (he : PEO X τ p e f) : PSD X τ (.Return (some e) pos) (rtn f) :=
  PS.imp (ps_ret he) fun D σ H hz hl ⟨ρ, B, fp, S, fl, ρ', hf, k⟩ => by
    unfold rtn at hf
    split at hf
    · rename_i r ρ1 q
      cases hf
      exact ⟨ρ, B, fp, S, r, _, q, fun v H' B' fp' A z1 S1 t1 u1 r1 z hz' => k _ H' B' _ hz' rfl S1 t1 v A r1 z⟩
    · cases hf
theorem psd_retN : PSD X τ (.Return none pos) (fun ρ => some (.rt (.sh .non), ρ)) := PS.imp ps_retN fun D σ H hz hl ⟨ρ, B, fp, S, fl, ρ', hf, k⟩ => by
  cases hf
  exact fun hz' => k σ H B fp hz' rfl S Tr.refl .non [] (.sh .non) ⟨by simp, by simp, by simp⟩
def iff_ (c : M Bool) (F G : Fm) : Fm := fun ρ => match c ρ with
  | some (true, ρ1) => F ρ1
  | some (false, ρ1) => G ρ1
  | none => none
theorem endF_back {K : PySem.W.Frag} {D : Ends} {B H B1 H1 : Hp} {fp fp1 : Nat → List Addr} {fl : Fl} {σ' : St} {n : Nat} {H' B' : Hp} {fp' : Nat → List Addr} (t : Tr B H fp B1 H1 fp1) (hz : HSz H') (h : endF K τ D B H fp fl σ' H' B' fp') : endF K τ (hzE n D) B1 H1 fp1 fl σ' H' B' fp' := by
  cases fl with
  | nx => exact fun _ _ => h
  | bk => exact fun _ _ => h
  | ct => exact fun _ _ => h
  | rt r => exact fun v A rv z _ => h v A rv (z.back t)
theorem psd_if {c : Expr} {ca cb : List Stmt} {fc : M Bool} (hc : PTD X τ p c fc) (ha : PSsD X τ ca F) (hb : PSsD X τ cb G) : PSD X τ (.If c ca cb pos) (iff_ fc F G) :=
  PS.imp (ps_if hc ha hb) fun D σ H hz hl ⟨ρ, B, fp, S, fl, ρ', hf, k⟩ => by
    unfold iff_ at hf
    cases q : fc ρ with
    | none => rw [q] at hf; cases hf
    | some r =>
      obtain ⟨c1, ρ1⟩ := r
      rw [q] at hf
      refine ⟨ρ, B, fp, S, c1, ρ1, q, fun H1 B1 fp1 z1 S1 t1 u1 => ?_⟩
      cases c1 with
      | true => exact ⟨ρ1, B1, fp1, S1, fl, ρ', hf, fun σ2 H2 B2 fp2 z2 l2 S2 t2 => endF_back t1 z2 (k σ2 H2 B2 fp2 z2 l2 S2 (t1.trans t2))⟩
      | false => exact ⟨ρ1, B1, fp1, S1, fl, ρ', hf, fun σ2 H2 B2 fp2 z2 l2 S2 t2 => endF_back t1 z2 (k σ2 H2 B2 fp2 z2 l2 S2 (t1.trans t2))⟩

/-! ### tests -/
def tst (f : M Dat) : M Bool := bnd f fun d => match d with
  | .bl b => ret b
  | _ => fun _ => none
theorem tst_some {f : M Dat} {ρ ρ' : Env} {b : Bool} (h : tst f ρ = some (b, ρ')) : f ρ = some (.bl b, ρ') := by
  obtain ⟨d, ρ1, h1, h2⟩ := bnd_some h
  cases d with
  | bl c => cases h2; exact h1
  | _ => cases h2
theorem Rep.bl_inv {K : PySem.W.Frag} {H : Hp} {v : V} {b : Bool} (h : Rep K H v (.bl b)) : v = .bl b := by cases h; rfl
theorem Rep.int_inv {K : PySem.W.Frag} {H : Hp} {v : V} {b : Int} (h : Rep K H v (.int b)) : v = .int b := by cases h; rfl
theorem Rep.str_inv {K : PySem.W.Frag} {H : Hp} {v : V} {b : Str} (h : Rep K H v (.str b)) : v = .str b := by cases h; rfl
theorem Rep.non_inv {K : PySem.W.Frag} {H : Hp} {v : V} (h : Rep K H v .non) : v = .non := by cases h; rfl
theorem Rep.lst_inv {K : PySem.W.Frag} {H : Hp} {v : V} {ds : List Dat} (h : Rep K H v (.lst ds)) : ∃ a xs, v = .ref a ∧ H a = some (.lst xs) ∧ RepAll K H xs ds := by
  cases h with
  | lst h r => exact ⟨_, _, rfl, h, r⟩
theorem Rep.tup_inv {K : PySem.W.Frag} {H : Hp} {v : V} {ds : List Dat} (h : Rep K H v (.tup ds)) : ∃ a xs, v = .ref a ∧ SqT K H a xs ∧ RepAll K H xs ds := by
  cases h with
  | tup h r => exact ⟨_, _, rfl, h, r⟩
theorem Rep.lsf_inv {K : PySem.W.Frag} {H : Hp} {v : V} {ds : List Dat} (h : Rep K H v (.lsf ds)) : ∃ a xs, v = .ref a ∧ SqL K H a xs ∧ RepAll K H xs ds := by
  cases h with
  | lsf h r => exact ⟨_, _, rfl, h, r⟩
theorem Rep.tuf_inv {K : PySem.W.Frag} {H : Hp} {v : V} {ds : List Dat} (h : Rep K H v (.tuf ds)) : ∃ a o xs, v = .ref a ∧ H a = some (.frz o (.tup xs)) ∧ o.dict = none ∧ RepAll K H xs ds := by
  cases h with
  | tuf h q r => exact ⟨_, _, _, rfl, h, q, r⟩
theorem Rep.weak {K : PySem.W.Frag} {H : Hp} {v : V} {ds : List Dat} (h : Rep K H v (.tuf ds)) : Rep K H v (.tup ds) := by
  obtain ⟨a, o, xs, rfl, h1, _, r⟩ := h.tuf_inv
  exact .tup (.inl (.inr ⟨o, h1⟩)) r
theorem Rep.ins_inv {K : PySem.W.Frag} {H : Hp} {v : V} {c : Str} {fs : List (Str × Dat)} (h : Rep K H v (.ins c fs)) : ∃ a dx fvs, v = .ref a ∧ H a = some (.ins (He.ga K c) dx fvs) ∧ RepF K H fvs fs := by
  cases h with
  | ins h r => exact ⟨_, _, _, rfl, h, r⟩
theorem Rep.dic_inv {K : PySem.W.Frag} {H : Hp} {v : V} {ds : List (Dat × Dat)} (h : Rep K H v (.dic ds)) : ∃ a kvs, v = .ref a ∧ H a = some (.dK kvs) ∧ RepKV K H kvs ds := by
  cases h with
  | dicK h r => exact ⟨_, _, rfl, h, r⟩
theorem Rep.dit_inv {K : PySem.W.Frag} {H : Hp} {v : V} {ds : List (Dat × Dat)} (h : Rep K H v (.dit ds)) : ∃ a kvs, v = .ref a ∧ H a = some (.dT kvs) ∧ RepTV K H kvs ds := by
  cases h with
  | dicT h r => exact ⟨_, _, rfl, h, r⟩
theorem Rep.dif_inv {K : PySem.W.Frag} {H : Hp} {v : V} {ds : List (Dat × Dat)} (h : Rep K H v (.dif ds)) : ∃ a o kvs, v = .ref a ∧ H a = some (.frz o (.dK kvs)) ∧ RepKV K H kvs ds := by
  cases h with
  | difK h r => exact ⟨_, _, _, rfl, h, r⟩
theorem Rep.dft_inv {K : PySem.W.Frag} {H : Hp} {v : V} {ds : List (Dat × Dat)} (h : Rep K H v (.dft ds)) : ∃ a o kvs, v = .ref a ∧ H a = some (.frz o (.dT kvs)) ∧ RepTV K H kvs ds := by
  cases h with
  | dftT h r => exact ⟨_, _, _, rfl, h, r⟩
/-- a comparison as a test -/
theorem ptd_cmp {op : CmpOp} {r : R2} {g : Dat → Dat → Option Dat} {fa fb : M Dat} (ho : OpR X (compareOp op) r) (hd : OpD X.K r g) (hm : behindInMarks op b = false) (ha : PED X τ pa a fa) (hb : PED X τ pb b fb) : PTD X τ (pa && pb) (.Compare a [op] [b] pos) (tst (bin g fa fb)) :=
  PT.imp (pt_cmpR ho ha hb hm) fun σ H Q hz _ ⟨ρ, B, fp, S, c, ρ', hf, k⟩ => by
    have hf' := tst_some hf
    obtain ⟨x, ρ1, h1, hf'⟩ := bnd_some hf'
    obtain ⟨y, ρ2, h2, hf'⟩ := bnd_some hf'
    obtain ⟨h3, rfl⟩ := lift_some hf'
    refine ⟨ρ, B, fp, S, x, ρ1, h1, fun v1 H1 B1 fp1 z1 S1 t1 u1 r1 => ⟨ρ1, B1, fp1, S1, y, _, h2, fun v2 H2 B2 fp2 z2 S2 t2 u2 r2 => ?_⟩⟩
    refine hd B2 H2 v1 v2 x y (.bl c) _ z2 S2.le (r1.mono t2.ex) r2 h3 fun v H' B' ex eb nb r => ⟨c, r.bl_inv, fun hz' => ?_⟩
    exact k H' B' fp2 hz' (S2.grow ex eb nb) ((t1.trans t2).trans (Tr.new ex eb nb)) (fun h => ⟨((pu_and u1 u2 h).ex).trans ex, (pu_and u1 u2 h).er, (pu_and u1 u2 h).ef⟩)
end
end DL

set_option Elab.async false
set_option linter.all false
set_option maxRecDepth 100000
set_option maxHeartbeats 2000000
namespace DL
open PySem L2

/-! ### arguments -/
def tAll (K : PySem.W.Frag) (τ : List V) (p : Bool) (f : M (List Dat)) : TA := fun σ H Q => ∃ ρ B fp, SR K τ B σ H ρ fp ∧ ∃ ds ρ', f ρ = some (ds, ρ') ∧
  ∀ vs H' B' fp', HSz H' → SR K τ B' σ H' ρ' fp' → Tr B H fp B' H' fp' → (p = true → Pu H H' ρ ρ' fp fp') → RepAll K B' vs ds → Q vs H'
abbrev PAD (X : Cx) (τ : List V) (p : Bool) (es : List Expr) (f : M (List Dat)) : Prop := PA X es (tAll X.K τ p f)
theorem PA.imp {X : Cx} {e : List Expr} {t t' : TA} (h : PA X e t) (k : ∀ σ H Q, HSz H → σ.length = X.N.length → t' σ H Q → t σ H (fun v H' => HSz H' → Q v H')) : PA X e t' :=
  ⟨fun pos pins s σ H Q I q => wpAny_mono (h.run pos pins s σ H _ I (k σ H Q (hsz_of I.hok) I.len q)) (fun _ _ ⟨v, H', I', r, q⟩ => ⟨v, H', I', r, q (hsz_of I'.hok)⟩) fun _ _ z => z⟩
/-- what is asked for: a slot's own thing, or a value -/
inductive AR where
  | sh (d : Dat)
  | sl (i : Nat)
inductive ArOk (K : PySem.W.Frag) (B : Hp) (σ : St) : List V → List AR → Prop
  | nil : ArOk K B σ [] []
  | sh {v : V} {d : Dat} {vs : List V} {as : List AR} : Rep K B v d → ArOk K B σ vs as → ArOk K B σ (v :: vs) (.sh d :: as)
  | sl {v : V} {i : Nat} {vs : List V} {as : List AR} : σ[i]? = some (some v) → ArOk K B σ vs as → ArOk K B σ (v :: vs) (.sl i :: as)
theorem ArOk.mono {K : PySem.W.Frag} {B B' : Hp} {σ : St} (e : Ex B B') : ∀ {vs : List V} {as : List AR}, ArOk K B σ vs as → ArOk K B' σ vs as
  | _, _, .nil => .nil
  | _, _, .sh r h => .sh (r.mono e) (ArOk.mono e h)
  | _, _, .sl r h => .sl r (ArOk.mono e h)
def tArg (K : PySem.W.Frag) (τ : List V) (f : M (List AR)) : TA := fun σ H Q => ∃ ρ B fp, SR K τ B σ H ρ fp ∧ ∃ ds ρ', f ρ = some (ds, ρ') ∧
  ∀ vs H' B' fp', HSz H' → SR K τ B' σ H' ρ' fp' → Tr B H fp B' H' fp' → ArOk K B' σ vs ds → Q vs H'
abbrev PAR (X : Cx) (τ : List V) (es : List Expr) (f : M (List AR)) : Prop := PA X es (tArg X.K τ f)
def nilA {α : Type} : M (List α) := ret []
def consA {α : Type} (f : M α) (g : M (List α)) : M (List α) := bnd f fun x => bnd g fun xs => ret (x :: xs)
section
variable {X : Cx} {τ : List V} {p pa pb : Bool} {e a b : Expr} {es : List Expr} {pos : Pos}
theorem pad_nil : PAD X τ true [] nilA := PA.imp pa_nil fun σ H Q hz _ ⟨ρ, B, fp, S, d, ρ', hf, k⟩ => by
  cases hf
  exact fun hz' => k [] H B fp hz' S Tr.refl (fun _ => Pu.refl) .nil
theorem pad_cons {f : M Dat} {g : M (List Dat)} (he : PED X τ pa e f) (ht : PAD X τ pb es g) (hst : starEach (e :: es) X.env = (false, eval e X.env) :: starEach es X.env := by rfl) : PAD X τ (pa && pb) (e :: es) (consA f g) :=
  PA.imp (pa_cons he ht hst) fun σ H Q hz _ ⟨ρ, B, fp, S, d, ρ', hf, k⟩ => by
    obtain ⟨x, ρ1, h1, hf⟩ := bnd_some hf
    obtain ⟨xs, ρ2, h2, hf⟩ := bnd_some hf
    cases hf
    exact ⟨ρ, B, fp, S, x, ρ1, h1, fun v1 H1 B1 fp1 z1 S1 t1 u1 r1 => ⟨ρ1, B1, fp1, S1, xs, _, h2, fun vs H2 B2 fp2 z2 S2 t2 u2 r2 hz' => k _ H2 B2 fp2 hz' S2 (t1.trans t2) (pu_and u1 u2) (.cons (r1.mono t2.ex) r2)⟩⟩
theorem par_nil : PAR X τ [] nilA := PA.imp pa_nil fun σ H Q hz _ ⟨ρ, B, fp, S, d, ρ', hf, k⟩ => by
  cases hf
  exact fun hz' => k [] H B fp hz' S Tr.refl .nil
theorem par_sh {f : M Dat} {g : M (List AR)} (he : PED X τ pa e f) (ht : PAR X τ es g) (hst : starEach (e :: es) X.env = (false, eval e X.env) :: starEach es X.env := by rfl) : PAR X τ (e :: es) (consA (bnd f fun d => ret (.sh d)) g) :=
  PA.imp (pa_cons he ht hst) fun σ H Q hz _ ⟨ρ, B, fp, S, d, ρ', hf, k⟩ => by
    obtain ⟨x, ρ1, h1, hf⟩ := bnd_some hf
    obtain ⟨y, ρ0, h0, h1⟩ := bnd_some h1
    cases h1
    obtain ⟨xs, ρ2, h2, hf⟩ := bnd_some hf
    cases hf
    exact ⟨ρ, B, fp, S, y, ρ1, h0, fun v1 H1 B1 fp1 z1 S1 t1 u1 r1 => ⟨ρ1, B1, fp1, S1, xs, _, h2, fun vs H2 B2 fp2 z2 S2 t2 r2 hz' => k _ H2 B2 fp2 hz' S2 (t1.trans t2) (.sh (r1.mono t2.ex) r2)⟩⟩
/-- the name in slot i, by what it owns -/
def slA (i : Nat) : M AR := fun ρ => match ρ[i]? with
  | some (some _) => some (.sl i, ρ)
  | _ => none
theorem par_sl (i : Nat) {x : Str} {g : M (List AR)} (h : PE X (.Name x pos) (tVar i)) (ht : PAR X τ es g) (hst : starEach (.Name x pos :: es) X.env = (false, eval (.Name x pos) X.env) :: starEach es X.env := by rfl) : PAR X τ (.Name x pos :: es) (consA (slA i) g) :=
  PA.imp (pa_cons h ht hst) fun σ H Q hz _ ⟨ρ, B, fp, S, d, ρ', hf, k⟩ => by
    obtain ⟨x, ρ1, h1, hf⟩ := bnd_some hf
    obtain ⟨xs, ρ2, h2, hf⟩ := bnd_some hf
    cases hf
    unfold slA at h1
    split at h1
    · rename_i s q
      cases h1
      obtain ⟨v, hv, _⟩ := S.rel _ _ q
      exact ⟨v, hv, _, B, fp, S, xs, _, h2, fun vs H2 B2 fp2 z2 S2 t2 r2 hz' => k _ H2 B2 fp2 hz' S2 t2 (.sl hv r2)⟩
    · cases h1
end

/-! ### what a def promises -/
mutual
def untag : Sl → Sl
  | .sh d => .sh d
  | .ol _ ds => .ol none ds
  | .od _ tk kvs => .od none tk kvs
  | .oo _ c fs => .oo none c (untagF fs)
def untagF : List (Str × Sl) → List (Str × Sl)
  | [] => []
  | (f, s) :: r => (f, untag s) :: untagF r
end
def retag (t : Option Nat) : Sl → Sl
  | .sh d => .sh d
  | .ol _ ds => .ol t ds
  | .od _ tk kvs => .od t tk kvs
  | .oo _ c fs => .oo t c fs
def tagOf : Sl → Option Nat
  | .sh _ => none
  | .ol t _ => t
  | .od t _ _ => t
  | .oo t _ _ => t
def isOwn : Sl → Bool
  | .sh _ => false
  | _ => true
section
variable {K : PySem.W.Frag} {τ τ' : List V} {B B' H H' : Hp}
mutual
theorem RepS.untag : ∀ {v : V} {s : Sl} {A : List Addr}, RepS K τ B H v s A → RepS K τ' B H v (DL.untag s) A
  | _, _, _, .sh h => by rw [DL.untag]; exact .sh h
  | _, _, _, .ol h r t => by rw [DL.untag]; exact .ol h r fun k q => nomatch q
  | _, _, _, .odk h r t => by rw [DL.untag]; exact .odk h r fun k q => nomatch q
  | _, _, _, .odt h r t => by rw [DL.untag]; exact .odt h r fun k q => nomatch q
  | _, _, _, .oo h r n t => by rw [DL.untag]; exact .oo h (RepSF.untag r) n fun k q => nomatch q
theorem RepSF.untag : ∀ {v : List (Str × V)} {s : List (Str × Sl)} {A : List Addr}, RepSF K τ B H v s A → RepSF K τ' B H v (untagF s) A
  | _, _, _, .nil => by rw [untagF]; exact .nil
  | _, _, _, .cons h r d => by rw [untagF]; exact .cons (RepS.untag h) (RepSF.untag r) d
end
theorem RepS.retag {t : Option Nat} {v : V} {s : Sl} {A : List Addr} (h : RepS K τ B H v s A) (k : ∀ a, v = .ref a → TagOk τ t a) : RepS K τ B H v (DL.retag t s) A := by
  cases h with
  | sh h => exact .sh h
  | ol h r _ => exact .ol h r (k _ rfl)
  | odk h r _ => exact .odk h r (k _ rfl)
  | odt h r _ => exact .odt h r (k _ rfl)
  | oo h r n _ => exact .oo h r n (k _ rfl)
mutual
theorem RepS.notag : ∀ {v : V} {s : Sl} {A : List Addr}, RepS K [] B H v s A → RepS K τ' B H v s A
  | _, _, _, .sh h => .sh h
  | _, _, _, .ol h r t => .ol h r fun k q => absurd (t k q) (by simp)
  | _, _, _, .odk h r t => .odk h r fun k q => absurd (t k q) (by simp)
  | _, _, _, .odt h r t => .odt h r fun k q => absurd (t k q) (by simp)
  | _, _, _, .oo h r n t => .oo h (RepSF.notag r) n fun k q => absurd (t k q) (by simp)
theorem RepSF.notag : ∀ {v : List (Str × V)} {s : List (Str × Sl)} {A : List Addr}, RepSF K [] B H v s A → RepSF K τ' B H v s A
  | _, _, _, .nil => .nil
  | _, _, _, .cons h r d => .cons (RepS.notag h) (RepSF.notag r) d
end
theorem RepS.tag {v : V} {s : Sl} {A : List Addr} (h : RepS K τ B H v s A) : ∀ k, tagOf s = some k → τ[k]? = some v := fun k q => by
  cases h with
  | sh h => cases q
  | ol h r t => exact t k q
  | odk h r t => exact t k q
  | odt h r t => exact t k q
  | oo h r n t => exact t k q
/-- a promise upon nothing owned but these: what other slots' owners hold does not matter -/
theorem RepS.any {v : V} {s : Sl} {A : List Addr} (h : RepS K τ B H v s A) (e : ∀ a ∈ A, H' a = H a) : RepS K τ B H' v s A := h.mono (Ex.refl _) e
end
/-- the result, what the owned parameters hold then -/
abbrev Fd := List Sl → Option (Sl × Env)
def spD (K : PySem.W.Frag) (n : Nat) (f : Fd) : Sp := fun vs H Q _ => vs.length = n ∧ ∃ ins B fp, SR K [] B (vs.map some) H (ins.map some) fp ∧ ∃ r outs, f ins = some (r, outs) ∧
  ∀ v H' B' fp' A, SR K [] B' (vs.map some) H' outs fp' → Tr B H fp B' H' fp' → RepS K [] B' H' v r A → Sep B H fp B' fp' A → Q v H'
/-- from a body -/
def tagAt (k : Nat) (s : Sl) : Sl := if isOwn s then retag (some k) s else s
def tagAll (ins : List Sl) : Env := (ins.mapIdx fun k s => some (tagAt k s))
def outsOf (n : Nat) (ρ : Env) : Env := (List.range n).map fun k => match ρ[k]? with
  | some (some s) => if tagOf s = some k then some (untag s) else none
  | _ => none
def fnD (n N : Nat) (F : Fm) : Fd := fun ins => if ins.length = n then (match F (tagAll ins ++ List.replicate (N - n) none) with
    | some (.nx, ρ') => some (.sh .non, outsOf n ρ')
    | some (.rt r, ρ') => some (untag r, outsOf n ρ')
    | _ => none)
  else none
theorem outsOf_get {n : Nat} {ρ : Env} {k : Nat} {s : Sl} (h : (outsOf n ρ)[k]? = some (some s)) : k < n ∧ ∃ s0, ρ[k]? = some (some s0) ∧ tagOf s0 = some k ∧ s = untag s0 := by
  unfold outsOf at h
  rw [List.getElem?_map] at h
  by_cases hk : k < n
  · rw [List.getElem?_range hk] at h
    refine ⟨hk, ?_⟩
    simp only [Option.map_some, Option.some.injEq] at h
    split at h
    · rename_i s0 q
      split at h
      · rename_i ht
        cases h
        exact ⟨s0, q, ht, rfl⟩
      · cases h
    · cases h
  · rw [List.getElem?_eq_none (by simpa using hk)] at h
    cases h
theorem fn_body {K : PySem.W.Frag} {n N : Nat} {F : Fm} {vs : List V} {H : Hp} {Q : VK} {E : XK} {N' : List Str} (hN : N'.length = N) (h : spD K n (fnD n N F) vs H Q E) :
    tStm K vs F { nx := fun _ H' => Q .non H', rt := Q } (L2.start N' vs) H := by
  obtain ⟨hl, ins, B, fp, S, r, outs, hf, k⟩ := h
  unfold fnD at hf
  split at hf
  case isFalse => cases hf
  rename_i hin
  have e0 : L2.start N' vs = vs.map some ++ List.replicate (N - n) none := by
    unfold L2.start; rw [hN, hl]
  have S0 : SR K vs B (L2.start N' vs) H (tagAll ins ++ List.replicate (N - n) none) fp := by
    refine ⟨fun i s q => ?_, fun i q => ?_, S.dis, S.sep, S.le⟩
    · have hi : i < n := by
        rcases Nat.lt_or_ge i n with z | z
        · exact z
        · rw [List.getElem?_append_right (by unfold tagAll; simpa [hin] using z), List.getElem?_replicate] at q
          split at q <;> cases q
      have hi2 : i < ins.length := by omega
      rw [List.getElem?_append_left (by unfold tagAll; simpa using hi2)] at q
      unfold tagAll at q
      rw [List.getElem?_mapIdx, List.getElem?_eq_getElem hi2] at q
      simp only [Option.map_some, Option.some.injEq] at q
      obtain ⟨v, h1, h2⟩ := S.rel i ins[i] (by rw [List.getElem?_map, List.getElem?_eq_getElem hi2]; rfl)
      have hv : vs[i]? = some v := by
        rw [List.getElem?_map] at h1
        cases z : vs[i]? with
        | none => rw [z] at h1; cases h1
        | some u => rw [z] at h1; cases h1; rfl
      refine ⟨v, by rw [e0, List.getElem?_append_left (by simpa [hl] using hi)]; exact h1, ?_⟩
      subst q
      unfold tagAt
      have h3 : RepS K vs B H v ins[i] (fp i) := h2.notag
      split
      · exact h3.retag fun a ea k z => by cases z; rw [hv, ea]
      · exact h3
    · refine S.emp i fun s z => ?_
      rw [List.getElem?_map] at z
      cases y : ins[i]? with
      | none => rw [y] at z; cases z
      | some s0 =>
        have hi2 : i < ins.length := (List.getElem?_eq_some_iff.mp y).1
        refine q (tagAt i s0) ?_
        rw [List.getElem?_append_left (by unfold tagAll; simpa using hi2)]
        unfold tagAll
        rw [List.getElem?_mapIdx, y]; rfl
  have fin : ∀ {fl : Fl} {ρ' : Env} {r0 : Sl}, F (tagAll ins ++ List.replicate (N - n) none) = some (fl, ρ') → r = untag r0 → outs = outsOf n ρ' → ∀ (σ' : St) (H' B' : Hp) (fp' : Nat → List Addr), SR K vs B' σ' H' ρ' fp' → Tr B H fp B' H' fp' →
      ∀ v A, RepS K vs B' H' v r0 A → Sep B H fp B' fp' A → Q v H' := by
    intro fl ρ' r0 hF hr ho σ' H' B' fp' S' t' v A rv z
    subst hr ho
    refine k v H' B' (fun i => if (outsOf n ρ')[i]?.join.isSome = true then fp' i else []) A ⟨fun i s q => ?_, fun i q => ?_, fun i j hij a ha => ?_, fun i a ha => ?_, S'.le⟩ ?_ rv.untag ?_
    · obtain ⟨hi, s0, h1, h2, rfl⟩ := outsOf_get q
      obtain ⟨u, _, ru⟩ := S'.rel i s0 h1
      have hu : vs[i]? = some u := ru.tag i h2
      refine ⟨u, by rw [List.getElem?_map, hu]; rfl, ?_⟩
      rw [if_pos (by rw [q]; rfl)]
      exact ru.untag
    · rw [if_neg]
      intro z
      cases y : (outsOf n ρ')[i]? with
      | none => rw [y] at z; cases z
      | some o =>
        cases o with
        | none => rw [y] at z; cases z
        | some s => exact q s y
    · split at ha
      · split
        · exact S'.dis i j hij a ha
        · simp
      · cases ha
    · split at ha
      · exact S'.sep i a ha
      · cases ha
    · refine ⟨t'.fr, t'.ex, t'.nw, fun a ⟨i, hi⟩ => ?_⟩
      dsimp only at hi
      split at hi
      · exact t'.ow a ⟨i, hi⟩
      · cases hi
    · refine ⟨z.nb, fun a ha ⟨i, hi⟩ => ?_, z.ow⟩
      dsimp only at hi
      split at hi
      · exact z.nf a ha ⟨i, hi⟩
      · cases hi
  split at hf
  · rename_i ρ' hF
    cases hf
    exact ⟨_, B, fp, S0, .nx, ρ', hF, fun σ' H' B' fp' _ _ S' t' => fin hF (r0 := .sh .non) (by rw [untag]) rfl σ' H' B' fp' S' t' .non [] (.sh .non) ⟨by simp, by simp, by simp⟩⟩
  · rename_i r0 ρ' hF
    cases hf
    exact ⟨_, B, fp, S0, .rt r0, ρ', hF, fun σ' H' B' fp' _ _ S' t' v A rv z => fin hF rfl rfl σ' H' B' fp' S' t' v A rv z⟩
  · cases hf
end DL

set_option Elab.async false
set_option linter.all false
set_option maxRecDepth 100000
set_option maxHeartbeats 2000000
namespace DL
open PySem PySem.Spec PyProof.Rows L2

abbrev St := L2.St
/-! ### the rule for a def -/
section
variable {P : Program} {w : World} {K : PySem.W.Frag} {mg : Str → Option Value} {base : Heap} {x qual : Str} {params : Arguments} {body : List Stmt} {scope : Scope} {dvs : List V} {kws : List (Str × V)} {f : Addr} {fd : FuncData}
theorem fun_ok {CX : CXT} {N ps : List Str} {k : Nat} {Fb : Fm} (F : FunD K x qual params body scope dvs kws f fd) (S : FnScope N ps scope)
    (hbody : ∀ (cdv : Value) (A : Around) (outer : List PySem.Env) (s : Shared) (H : Hp) (vs : List V) (E : XK), Room k (A.deeper (envOfC qual scope s.heap.objs.size f cdv)) → PSsD (cxOf CX P w K mg base N qual scope f cdv A outer s H E) vs body Fb) :
    FnOk P w K mg base CX (k + 1) f fd ps (spD K ps.length (fnD ps.length N.length Fb)) :=
  F.ok S (fun _ _ _ _ h => h.1) fun cdv A outer s H vs Q E hr h => ⟨_, hbody cdv A outer s H vs E hr, fn_body rfl h⟩
end

/-- so many parameters -/
def FLen (f : Fd) (n : Nat) : Prop := ∀ ins r, f ins = some r → ins.length = n
theorem fnD_len {n N : Nat} {F : Fm} : FLen (fnD n N F) n := fun ins r h => by
  unfold fnD at h
  split at h
  · assumption
  · cases h

/-! ### calls -/
def callP (f : Fd) (fa : M (List Dat)) : M Sl := bnd fa fun ds => fun ρ => match f (ds.map .sh) with
  | some (r, _) => some (r, ρ)
  | none => none
theorem call_pure {K : PySem.W.Frag} {τ : List V} {n : Nat} {f : Fd} {σ : St} {H1 : Hp} {ρ1 : Env} {B1 : Hp} {fp1 : Nat → List Addr} {vs : List V} {ds : List Dat} {r : Sl} {outs : Env} {Q : VK} {E : XK} (S1 : SR K τ B1 σ H1 ρ1 fp1) (r1 : RepAll K B1 vs ds) (hn : vs.length = n) (hf : f (ds.map .sh) = some (r, outs))
    (k : ∀ v H' B' A, Ex H1 H' → SR K τ B' σ H' ρ1 fp1 → Tr B1 H1 fp1 B' H' fp1 → RepS K τ B' H' v r A → Sep B1 H1 fp1 B' fp1 A → Q v H') : spD K n f vs H1 Q E := by
  refine ⟨hn, ds.map .sh, B1, fun _ => [], ⟨fun i s q => ?_, fun _ _ => rfl, fun _ _ _ a ha => by simp at ha, fun _ a ha => by simp at ha, S1.le⟩, r, outs, hf, fun v H' B' fp' A S' t' rv z => ?_⟩
  · rw [List.getElem?_map, List.getElem?_map] at q
    cases y : ds[i]? with
    | none => rw [y] at q; cases q
    | some d =>
      rw [y] at q
      cases q
      obtain ⟨v, h1, h2⟩ := r1.get y
      exact ⟨v, by rw [List.getElem?_map, h1]; rfl, .sh h2⟩
  · have no : ∀ a, ¬ own (fun _ : Nat => ([] : List Addr)) a := fun a ⟨i, hi⟩ => by simp at hi
    have ex : Ex H1 H' := fun a o h => t'.fr a o h (no a)
    have nb : ∀ a o, B' a = some o → B1 a = some o ∨ (H1 a = none ∧ H' a = some o) := fun a o h => by
      rcases t'.nw a o h with q | q | q
      · exact .inl q
      · exact .inr ⟨q, S'.le a o h⟩
      · exact absurd q (no a)
    have S2 := S1.grow ex t'.ex nb
    refine k v H' B' A ex S2 (Tr.new ex t'.ex nb) rv.notag ⟨z.nb, fun a ha => ?_, fun a ha => ?_⟩
    · rcases z.ow a ha with q | q
      · exact absurd q (no a)
      · exact S1.noown q
    · rcases z.ow a ha with q | q
      · exact absurd q (no a)
      · exact .inr q
section
variable {X : Cx} {CX : CXT} {τ : List V} {p pa pb : Bool} {e a b : Expr} {es : List Expr} {pos q : Pos} {k : Nat} {f C : Addr} {fd : FuncData} {ps : List Str} {E : XK} {x m : Str} {fdat : Fd} {fa : M (List Dat)} {far : M (List AR)}
/-- f(..), nothing owned handed over -/
theorem peo_call (hfl : FLen fdat ps.length) (F : FnOk X.prog X.w X.K X.mg X.base CX k f fd ps (spD X.K ps.length fdat)) (hr : Room k X.A) (hg : Gl X x) (hm : X.mg x = some (.ref f)) (hk : PySem.W.keepIn X.K (.ref f) = true) (hb : Binds X.K fd ps []) (hx : Passes CX X E)
    (ha : PAD X τ p (e :: es) fa) (hdb : (x == ("__debug__" : Str)) = false := by decide) (he : starEach (e :: es) X.env = (false, eval e X.env) :: starEach es X.env := by rfl) (hpl : (backTo pos (starEach es X.env)).any (·.1) = false := by rfl) : PEO X τ p (.Call (.Name x q) (e :: es) [] pos) (callP fdat fa) :=
  PE.imp (pe_call F hr hg hm hk hb .nil hx ha hdb he hpl) fun σ H Q hz _ ⟨ρ, B, fp, S, r, ρ', hf, k⟩ => by
    obtain ⟨ds, ρ1, h1, hf⟩ := bnd_some hf
    cases hc : fdat (ds.map .sh) with
    | none => rw [hc] at hf; cases hf
    | some y =>
      obtain ⟨r0, outs⟩ := y
      rw [hc] at hf
      cases hf
      refine ⟨ρ, B, fp, S, ds, ρ', h1, fun vs H1 B1 fp1 z1 S1 t1 u1 r1 => ?_⟩
      show spD X.K ps.length fdat (vs ++ []) H1 _ E
      rw [List.append_nil]
      exact call_pure S1 r1 (by rw [r1.length]; simpa using hfl _ _ hc) hc fun v H' B' A ex S2 t2 rv z hz' => k v H' B' fp1 A hz' S2 (t1.trans t2) (fun h => ⟨(u1 h).ex.trans ex, (u1 h).er, (u1 h).ef⟩) rv (z.back t1)

/-! #### with owned things handed over -/
def insOf (ρ : Env) : List AR → Option (List Sl)
  | [] => some []
  | .sh d :: as => (insOf ρ as).map (Sl.sh d :: ·)
  | .sl i :: as => match ρ[i]? with
    | some (some s) => (insOf ρ as).map (untag s :: ·)
    | _ => none
def slotsOf : List AR → List Nat
  | [] => []
  | .sh _ :: as => slotsOf as
  | .sl i :: as => i :: slotsOf as
def kOf : List AR → Nat → Option Nat
  | [], _ => none
  | .sh _ :: as, j => (kOf as j).map (· + 1)
  | .sl i :: as, j => if i = j then some 0 else (kOf as j).map (· + 1)
def putO (as : List AR) (outs : Env) (ρ : Env) : Env := ρ.mapIdx fun j o => match kOf as j with
  | none => o
  | some k => (outs[k]?.join).map (retag (o.bind tagOf))
def callO (f : Fd) (fa : M (List AR)) : M Sl := bnd fa fun as => fun ρ => if (slotsOf as).Nodup then (match insOf ρ as with
    | some ins => match f ins with
      | some (r, outs) => some (r, putO as outs ρ)
      | none => none
    | none => none) else none
end
theorem kOf_none {as : List AR} {j : Nat} (h : kOf as j = none) : j ∉ slotsOf as := by
  induction as with
  | nil => simp [slotsOf]
  | cons a as ih =>
    cases a with
    | sh d => exact ih (by simpa [kOf] using h)
    | sl i =>
      unfold kOf at h
      split at h
      · cases h
      · rename_i ne
        have := ih (by simpa using h)
        simp only [slotsOf, List.mem_cons, not_or]
        exact ⟨fun e => ne e.symm, this⟩
theorem kOf_some {as : List AR} {j k : Nat} (h : kOf as j = some k) : as[k]? = some (.sl j) := by
  induction as generalizing k with
  | nil => cases h
  | cons a as ih =>
    cases a with
    | sh d =>
      obtain ⟨m, h1, rfl⟩ := Option.map_eq_some_iff.mp (show (kOf as j).map (· + 1) = some k from h)
      exact ih h1
    | sl i =>
      unfold kOf at h
      split at h
      · rename_i e; cases h; subst e; rfl
      · obtain ⟨m, h1, rfl⟩ := Option.map_eq_some_iff.mp h
        exact ih h1
theorem mem_slots {as : List AR} {j k : Nat} (h : as[k]? = some (.sl j)) : j ∈ slotsOf as := by
  induction as generalizing k with
  | nil => simp at h
  | cons a as ih =>
    cases k with
    | zero => simp at h; subst h; simp [slotsOf]
    | succ k =>
      have := ih (k := k) (by simpa using h)
      cases a <;> simp [slotsOf, this]
theorem kOf_of {as : List AR} {j k : Nat} (hn : (slotsOf as).Nodup) (h : as[k]? = some (.sl j)) : kOf as j = some k := by
  induction as generalizing k with
  | nil => simp at h
  | cons a as ih =>
    cases k with
    | zero => simp at h; subst h; simp [kOf]
    | succ k =>
      have h' : as[k]? = some (.sl j) := by simpa using h
      cases a with
      | sh d => simp [kOf, ih (by simpa [slotsOf] using hn) h']
      | sl i =>
        have hn' : i ∉ slotsOf as ∧ (slotsOf as).Nodup := by simpa [slotsOf] using hn
        have ne : i ≠ j := fun e => hn'.1 (e ▸ mem_slots h')
        simp [kOf, ne, ih hn'.2 h']
theorem insOf_get {ρ : Env} {as : List AR} {ins : List Sl} (h : insOf ρ as = some ins) : ins.length = as.length ∧ ∀ (k : Nat) (s : Sl), ins[k]? = some s → (∃ d, as[k]? = some (AR.sh d) ∧ s = .sh d) ∨ ∃ i s0, as[k]? = some (AR.sl i) ∧ ρ[i]? = some (some s0) ∧ s = untag s0 := by
  induction as generalizing ins with
  | nil => cases h; exact ⟨rfl, fun k s h => by simp at h⟩
  | cons a as ih =>
    cases a with
    | sh d =>
      obtain ⟨r, h1, rfl⟩ := Option.map_eq_some_iff.mp (show (insOf ρ as).map (Sl.sh d :: ·) = some ins from h)
      obtain ⟨l, g⟩ := ih h1
      refine ⟨by simp [l], fun k s hk => ?_⟩
      cases k with
      | zero => simp at hk; exact .inl ⟨d, rfl, hk.symm⟩
      | succ k => simpa using g k s (by simpa using hk)
    | sl i =>
      unfold insOf at h
      split at h
      · rename_i s0 q
        obtain ⟨r, h1, rfl⟩ := Option.map_eq_some_iff.mp h
        obtain ⟨l, g⟩ := ih h1
        refine ⟨by simp [l], fun k s hk => ?_⟩
        cases k with
        | zero => simp at hk; exact .inr ⟨i, s0, rfl, q, hk.symm⟩
        | succ k => simpa using g k s (by simpa using hk)
      · cases h
theorem insOf_at {ρ : Env} {as : List AR} {ins : List Sl} (h : insOf ρ as = some ins) {k i : Nat} (hk : as[k]? = some (.sl i)) : ∃ s0, ρ[i]? = some (some s0) := by
  obtain ⟨l, g⟩ := insOf_get h
  have : k < ins.length := by rw [l]; exact (List.getElem?_eq_some_iff.mp hk).1
  rcases g k ins[k] (List.getElem?_eq_getElem this) with ⟨d, h1, _⟩ | ⟨j, s0, h1, h2, _⟩
  · rw [hk] at h1; cases h1
  · rw [hk] at h1; cases h1; exact ⟨s0, h2⟩
theorem ArOk.len {K : PySem.W.Frag} {B : Hp} {σ : St} : ∀ {vs : List V} {as : List AR}, ArOk K B σ vs as → vs.length = as.length
  | _, _, .nil => rfl
  | _, _, .sh _ h => congrArg Nat.succ (ArOk.len h)
  | _, _, .sl _ h => congrArg Nat.succ (ArOk.len h)
theorem ArOk.at_sh {K : PySem.W.Frag} {B : Hp} {σ : St} : ∀ {vs : List V} {as : List AR} {k : Nat} {d : Dat}, ArOk K B σ vs as → as[k]? = some (.sh d) → ∃ v, vs[k]? = some v ∧ Rep K B v d
  | _, _, _, _, .nil, e => by simp at e
  | _, _, 0, _, .sh r _, e => by simp at e; subst e; exact ⟨_, rfl, r⟩
  | _, _, 0, _, .sl _ _, e => by simp at e
  | _, _, k + 1, _, .sh _ h, e => by simpa using ArOk.at_sh (k := k) h (by simpa using e)
  | _, _, k + 1, _, .sl _ h, e => by simpa using ArOk.at_sh (k := k) h (by simpa using e)
theorem ArOk.at_sl {K : PySem.W.Frag} {B : Hp} {σ : St} : ∀ {vs : List V} {as : List AR} {k i : Nat}, ArOk K B σ vs as → as[k]? = some (.sl i) → ∃ v, vs[k]? = some v ∧ σ[i]? = some (some v)
  | _, _, _, _, .nil, e => by simp at e
  | _, _, 0, _, .sh r _, e => by simp at e
  | _, _, 0, _, .sl h _, e => by simp at e; subst e; exact ⟨_, rfl, h⟩
  | _, _, k + 1, _, .sh _ h, e => by simpa using ArOk.at_sl (k := k) h (by simpa using e)
  | _, _, k + 1, _, .sl _ h, e => by simpa using ArOk.at_sl (k := k) h (by simpa using e)
theorem call_own {K : PySem.W.Frag} {τ : List V} {n : Nat} {f : Fd} {σ : St} {H1 : Hp} {ρ1 : Env} {B1 : Hp} {fp1 : Nat → List Addr} {vs : List V} {as : List AR} {ins : List Sl} {r : Sl} {outs : Env} {Q : VK} {E : XK} (S1 : SR K τ B1 σ H1 ρ1 fp1) (r1 : ArOk K B1 σ vs as) (hn : vs.length = n)
    (nd : (slotsOf as).Nodup) (hi : insOf ρ1 as = some ins) (hf : f ins = some (r, outs))
    (k : ∀ v H' B' fp' A, SR K τ B' σ H' (putO as outs ρ1) fp' → Tr B1 H1 fp1 B' H' fp' → RepS K τ B' H' v r A → Sep B1 H1 fp1 B' fp' A → Q v H') : spD K n f vs H1 Q E := by
  obtain ⟨il, ig⟩ := insOf_get hi
  have rep : ∀ {c : Nat} {i : Nat} {s0 : Sl} {v : V}, RepS K τ B1 H1 v s0 (fp1 i) → RepS K [] B1 H1 v (untag s0) (fp1 i) := fun h => h.untag
  let fpc : Nat → List Addr := fun c => match as[c]? with
    | some (.sl i) => fp1 i
    | _ => []
  have fpc_sl : ∀ {c i : Nat}, as[c]? = some (.sl i) → fpc c = fp1 i := fun {c i} h => by show (match as[c]? with | some (.sl i) => fp1 i | _ => []) = _; rw [h]
  have fpc_in : ∀ {c : Nat} {a : Addr}, a ∈ fpc c → ∃ i, as[c]? = some (.sl i) ∧ a ∈ fp1 i := fun {c a} h => by
    have h : a ∈ (match as[c]? with | some (.sl i) => fp1 i | _ => []) := h
    split at h
    · rename_i i q; exact ⟨i, q, h⟩
    · simp at h
  have own1 : ∀ {a : Addr}, own fpc a → own fp1 a := fun ⟨c, h⟩ => by obtain ⟨i, _, q⟩ := fpc_in h; exact ⟨i, q⟩
  refine ⟨hn, ins, B1, fpc, ⟨fun c s q => ?_, fun c q => ?_, fun c d hcd a ha hb => ?_, fun c a ha => ?_, S1.le⟩, r, outs, hf, fun v H' B' fp' A S' t' rv z => ?_⟩
  · rw [List.getElem?_map] at q
    cases y : ins[c]? with
    | none => rw [y] at q; cases q
    | some s1 =>
      rw [y] at q
      cases q
      rcases ig c s y with ⟨d, h1, rfl⟩ | ⟨i, s0, h1, h2, rfl⟩
      · obtain ⟨v, h3, h4⟩ := r1.at_sh h1
        refine ⟨v, by rw [List.getElem?_map, h3]; rfl, ?_⟩
        have : fpc c = [] := by show (match as[c]? with | some (.sl i) => fp1 i | _ => []) = _; rw [h1]
        rw [this]; exact .sh h4
      · obtain ⟨v, h3, h4⟩ := r1.at_sl h1
        obtain ⟨u, h5, h6⟩ := S1.rel i s0 h2
        rw [h4] at h5
        cases h5
        refine ⟨v, by rw [List.getElem?_map, h3]; rfl, ?_⟩
        rw [fpc_sl h1]; exact h6.untag
  · show (match as[c]? with | some (.sl i) => fp1 i | _ => []) = _
    split
    · rename_i i y
      have hc : c < ins.length := by rw [il]; exact (List.getElem?_eq_some_iff.mp y).1
      exact absurd (by rw [List.getElem?_map, List.getElem?_eq_getElem hc]; rfl) (q ins[c])
    · rfl
  · obtain ⟨i, h1, h2⟩ := fpc_in ha
    obtain ⟨j, h3, h4⟩ := fpc_in hb
    have ne : i ≠ j := fun e => by
      subst e
      have e1 := kOf_of nd h1
      rw [kOf_of nd h3] at e1
      cases e1; exact hcd rfl
    exact S1.dis i j ne a h2 h4
  · obtain ⟨i, h1, h2⟩ := fpc_in ha
    exact S1.sep i a h2
  · -- behind the call
    have put : ∀ j, (putO as outs ρ1)[j]? = (ρ1[j]?).map fun o => match kOf as j with
        | none => o
        | some k => (outs[k]?.join).map (retag (o.bind tagOf)) := fun j => by unfold putO; rw [List.getElem?_mapIdx]
    let fp2 : Nat → List Addr := fun j => match kOf as j with
      | some c => fp' c
      | none => fp1 j
    have fp2_some : ∀ {j c : Nat}, kOf as j = some c → fp2 j = fp' c := fun {j c} h => by show (match kOf as j with | some c => fp' c | none => fp1 j) = _; rw [h]
    have fp2_none : ∀ {j : Nat}, kOf as j = none → fp2 j = fp1 j := fun {j} h => by show (match kOf as j with | some c => fp' c | none => fp1 j) = _; rw [h]
    have far : ∀ {j : Nat} {a : Addr}, kOf as j = none → a ∈ fp1 j → ¬ own fpc a := fun {j a} h ha ⟨c, hc⟩ => by
      obtain ⟨i, h1, h2⟩ := fpc_in hc
      exact S1.dis j i (fun e => kOf_none h (e ▸ mem_slots h1)) a ha h2
    have S2 : SR K τ B' σ H' (putO as outs ρ1) fp2 := by
      refine ⟨fun j s q => ?_, fun j q => ?_, fun i j hij a ha hb => ?_, fun j a ha => ?_, S'.le⟩
      · rw [put] at q
        cases y : ρ1[j]? with
        | none => rw [y] at q; cases q
        | some o =>
          rw [y] at q
          simp only [Option.map_some, Option.some.injEq] at q
          cases kj : kOf as j with
          | none =>
            rw [kj] at q
            simp only at q
            subst q
            obtain ⟨u, h1, h2⟩ := S1.rel j s y
            refine ⟨u, h1, ?_⟩
            rw [fp2_none kj]
            refine h2.mono t'.ex fun a ha => ?_
            obtain ⟨o, ho⟩ := h2.live a ha
            rw [ho]; exact t'.fr a o ho (far kj ha)
          | some c =>
            rw [kj] at q
            simp only at q
            cases yo : outs[c]? with
            | none => rw [yo] at q; cases q
            | some oo =>
              rw [yo] at q
              cases oo with
              | none => cases q
              | some s1 =>
                simp only [Option.join_some, Option.map_some, Option.some.injEq] at q
                subst q
                obtain ⟨u, h1, h2⟩ := S'.rel c s1 yo
                obtain ⟨v2, h3, h4⟩ := r1.at_sl (kOf_some kj)
                rw [List.getElem?_map, h3] at h1
                cases h1
                obtain ⟨s0, hs0⟩ := insOf_at hi (kOf_some kj)
                rw [y] at hs0
                cases hs0
                obtain ⟨u2, h5, h6⟩ := S1.rel j s0 y
                rw [h4] at h5
                cases h5
                refine ⟨_, h4, ?_⟩
                rw [fp2_some kj]
                exact h2.notag.retag fun a ea m hm => by rw [← ea]; exact h6.tag m hm
      · cases kj : kOf as j with
        | none =>
          rw [fp2_none kj]
          refine S1.emp j fun s y => q s ?_
          rw [put, y, kj]; rfl
        | some c =>
          rw [fp2_some kj]
          obtain ⟨s0, hs0⟩ := insOf_at hi (kOf_some kj)
          refine S'.emp c fun s y => q (retag (tagOf s0) s) ?_
          rw [put, hs0, kj]
          simp [y]
      · cases ki : kOf as i with
        | none =>
          rw [fp2_none ki] at ha
          cases kj : kOf as j with
          | none => rw [fp2_none kj] at hb; exact S1.dis i j hij a ha hb
          | some c =>
            rw [fp2_some kj] at hb
            rcases t'.ow a ⟨c, hb⟩ with q | q
            · exact far ki ha q
            · exact S1.noown q ⟨i, ha⟩
        | some c =>
          rw [fp2_some ki] at ha
          cases kj : kOf as j with
          | none =>
            rw [fp2_none kj] at hb
            rcases t'.ow a ⟨c, ha⟩ with q | q
            · exact far kj hb q
            · exact S1.noown q ⟨j, hb⟩
          | some d =>
            rw [fp2_some kj] at hb
            refine S'.dis c d (fun e => ?_) a ha hb
            subst e
            have e1 := kOf_some ki
            rw [kOf_some kj] at e1
            cases e1; exact hij rfl
      · cases kj : kOf as j with
        | some c => rw [fp2_some kj] at ha; exact S'.sep c a ha
        | none =>
          rw [fp2_none kj] at ha
          cases y : B' a with
          | none => rfl
          | some o =>
            rcases t'.nw a o y with q | q | q
            · rw [S1.sep j a ha] at q; cases q
            · exact absurd ⟨j, ha⟩ (S1.noown q)
            · exact absurd q (far kj ha)
    refine k v H' B' fp2 A S2 ⟨fun a o h n => t'.fr a o h fun z => n (own1 z), t'.ex, fun a o h => ?_, fun a ⟨j, hj⟩ => ?_⟩ rv.notag ⟨z.nb, fun a ha ⟨j, hj⟩ => ?_, fun a ha => ?_⟩
    · rcases t'.nw a o h with q | q | q
      · exact .inl q
      · exact .inr (.inl q)
      · exact .inr (.inr (own1 q))
    · cases kj : kOf as j with
      | some c =>
        rw [fp2_some kj] at hj
        rcases t'.ow a ⟨c, hj⟩ with q | q
        · exact .inl (own1 q)
        · exact .inr q
      | none => rw [fp2_none kj] at hj; exact .inl ⟨j, hj⟩
    · cases kj : kOf as j with
      | some c => rw [fp2_some kj] at hj; exact z.nf a ha ⟨c, hj⟩
      | none =>
        rw [fp2_none kj] at hj
        rcases z.ow a ha with q | q
        · exact far kj hj q
        · exact S1.noown q ⟨j, hj⟩
    · rcases z.ow a ha with q | q
      · exact .inl (own1 q)
      · exact .inr q
section
variable {X : Cx} {CX : CXT} {τ : List V} {p pa pb : Bool} {e a b : Expr} {es : List Expr} {pos q : Pos} {k : Nat} {f C : Addr} {fd : FuncData} {ps : List Str} {E : XK} {x m : Str} {fdat : Fd} {fa : M (List Dat)} {far : M (List AR)}
/-- f(..), owned things handed over -/
theorem peo_callO (hfl : FLen fdat ps.length) (F : FnOk X.prog X.w X.K X.mg X.base CX k f fd ps (spD X.K ps.length fdat)) (hr : Room k X.A) (hg : Gl X x) (hm : X.mg x = some (.ref f)) (hk : PySem.W.keepIn X.K (.ref f) = true) (hb : Binds X.K fd ps []) (hx : Passes CX X E)
    (ha : PAR X τ (e :: es) far) (hdb : (x == ("__debug__" : Str)) = false := by decide) (he : starEach (e :: es) X.env = (false, eval e X.env) :: starEach es X.env := by rfl) (hpl : (backTo pos (starEach es X.env)).any (·.1) = false := by rfl) : PEO X τ false (.Call (.Name x q) (e :: es) [] pos) (callO fdat far) :=
  PE.imp (pe_call F hr hg hm hk hb .nil hx ha hdb he hpl) fun σ H Q hz _ ⟨ρ, B, fp, S, r, ρ', hf, k⟩ => by
    obtain ⟨as, ρ1, h1, hf⟩ := bnd_some hf
    split at hf
    · rename_i nd
      cases hi : insOf ρ1 as with
      | none => rw [hi] at hf; cases hf
      | some ins =>
        rw [hi] at hf
        simp only at hf
        cases hc : fdat ins with
        | none => rw [hc] at hf; cases hf
        | some y =>
          obtain ⟨r0, outs⟩ := y
          rw [hc] at hf
          cases hf
          refine ⟨ρ, B, fp, S, as, ρ1, h1, fun vs H1 B1 fp1 z1 S1 t1 r1 => ?_⟩
          show spD X.K ps.length fdat (vs ++ []) H1 _ E
          rw [List.append_nil]
          exact call_own S1 r1 (by rw [r1.len, ← (insOf_get hi).1]; exact hfl _ _ hc) nd hi hc fun v H' B' fp' A S2 t2 rv z hz' => k v H' B' fp' A hz' S2 (t1.trans t2) (fun h => nomatch h) rv (z.back t1)
    · cases hf
end
end DL

set_option Elab.async false
set_option linter.all false
set_option maxRecDepth 100000
set_option maxHeartbeats 2000000
namespace DL
open PySem L2

/-! ### targets -/
def GbOk (gb : Dat → Env → Option Env) (sl : List Nat) : Prop := ∀ d ρ ρ', gb d ρ = some ρ' → ρ'.length = ρ.length ∧ ∀ j : Nat, j ∉ sl → ρ'[j]? = ρ[j]?
def tTg (K : PySem.W.Frag) (τ : List V) (sl : List Nat) (gb : Dat → Env → Option Env) : TG := fun v σ H Q => ∃ ρ B fp, SR K τ B σ H ρ fp ∧ ∃ d, Rep K B v d ∧ ∃ ρ', gb d ρ = some ρ' ∧
  ∀ σ' fp', σ'.length = σ.length → (∀ j : Nat, j ∉ sl → σ'[j]? = σ[j]?) → SR K τ B σ' H ρ' fp' → (∀ a, own fp' a → own fp a) → (∀ j : Nat, j ∉ sl → fp' j = fp j) → Q σ' H
def tTgs (K : PySem.W.Frag) (τ : List V) (sl : List Nat) (gb : List Dat → Env → Option Env) : TGs := fun vs σ H Q => ∃ ρ B fp, SR K τ B σ H ρ fp ∧ ∃ ds, RepAll K B vs ds ∧ ∃ ρ', gb ds ρ = some ρ' ∧
  ∀ σ' fp', σ'.length = σ.length → (∀ j : Nat, j ∉ sl → σ'[j]? = σ[j]?) → SR K τ B σ' H ρ' fp' → (∀ a, own fp' a → own fp a) → (∀ j : Nat, j ∉ sl → fp' j = fp j) → Q σ' H
abbrev PGD (X : Cx) (τ : List V) (sl : List Nat) (tg : Expr) (gb : Dat → Env → Option Env) : Prop := PG X tg (tTg X.K τ sl gb)
abbrev PGsD (X : Cx) (τ : List V) (sl : List Nat) (tg : List Expr) (gb : List Dat → Env → Option Env) : Prop := PGs X tg (tTgs X.K τ sl gb)
theorem PG.imp {X : Cx} {e : Expr} {t t' : TG} (h : PG X e t) (k : ∀ v σ H Q, σ.length = X.N.length → t' v σ H Q → t v σ H Q) : PG X e t' :=
  ⟨fun pins s σ H v u Q I r q => h.run pins s σ H v u Q I r (k v σ H Q I.len q)⟩
theorem PGs.imp {X : Cx} {e : List Expr} {t t' : TGs} (h : PGs X e t) (k : ∀ v σ H Q, σ.length = X.N.length → t' v σ H Q → t v σ H Q) : PGs X e t' :=
  ⟨fun pins s σ H v u Q I r q => h.run pins s σ H v u Q I r (k v σ H Q I.len q)⟩
def gnm (i : Nat) : Dat → Env → Option Env := fun d ρ => some (ρ.set i (some (.sh d)))
def gtp (g : List Dat → Env → Option Env) : Dat → Env → Option Env := fun d ρ => match d with
  | .tup ds => g ds ρ
  | _ => none
def gnil : List Dat → Env → Option Env := fun ds ρ => match ds with
  | [] => some ρ
  | _ => none
def gcns (g : Dat → Env → Option Env) (h : List Dat → Env → Option Env) : List Dat → Env → Option Env := fun ds ρ => match ds with
  | d :: ds => match g d ρ with
    | some ρ1 => h ds ρ1
    | none => none
  | [] => none
section
variable {X : Cx} {τ : List V} {p pa pb : Bool} {e a b : Expr} {es : List Expr} {pos : Pos} {sl sl2 : List Nat} {g : Dat → Env → Option Env} {h : List Dat → Env → Option Env}
theorem pgd_name {i : Nat} {x : Str} (hN : X.N.Nodup) (hi : X.N[i]? = some x) (hx : Loc X.env.scope x) (hf : X.fn x = true ∨ X.env.scope.names.lookup x = some .local := by first | exact .inl rfl | exact .inr rfl | assumption) : PGD X τ [i] (.Name x pos) (gnm i) :=
  PG.imp (pg_name hN hi hx hf) fun v σ H Q hl ⟨ρ, B, fp, S, d, r, ρ', hg, k⟩ => by
    cases hg
    have hiN : i < σ.length := by rw [hl]; exact (List.getElem?_eq_some_iff.mp hi).1
    have z : Sep B H fp B fp [] := ⟨by simp, by simp, by simp⟩
    have S2 := S.store hiN (.sh r) z
    refine k _ _ (by simp) (fun j hj => List.getElem?_set_ne (fun e => hj (by simp [e]))) S2 (fun c ⟨j, hj⟩ => ?_) fun j hj => ?_
    · have hj : c ∈ (if j = i then (if i < ρ.length then [] else []) else fp j) := hj
      by_cases e : j = i
      · rw [if_pos e] at hj; simp at hj
      · rw [if_neg e] at hj; exact ⟨j, hj⟩
    · rw [if_neg (by simpa using hj)]
theorem gnm_ok {i : Nat} : GbOk (gnm i) [i] := fun d ρ ρ' h => by
  cases h
  exact ⟨by simp, fun j hj => List.getElem?_set_ne (fun e => hj (by simp [e]))⟩
theorem pgds_nil : PGsD X τ [] [] gnil := PGs.imp pgs_nil fun v σ H Q hl ⟨ρ, B, fp, S, d, r, ρ', hg, k⟩ => by
  unfold gnil at hg
  split at hg
  · cases hg
    cases r
    exact ⟨rfl, k σ fp rfl (fun _ _ => rfl) S (fun _ h => h) fun _ _ => rfl⟩
  · cases hg
theorem pgds_cons (h1 : PGD X τ sl e g) (h2 : PGsD X τ sl2 es h) (hs : (assignEach (e :: es) X.env).map (·.2) = assign e X.env :: (assignEach es X.env).map (·.2) := by rfl) : PGsD X τ (sl ++ sl2) (e :: es) (gcns g h) :=
  PGs.imp (pgs_cons h1 h2 hs) fun v σ H Q hl ⟨ρ, B, fp, S, d, r, ρ', hg, k⟩ => by
    unfold gcns at hg
    split at hg
    · rename_i d ds
      split at hg
      · rename_i ρ1 q
        cases r with
        | cons r rr =>
          refine ⟨_, _, rfl, ρ, B, fp, S, d, r, ρ1, q, fun σ1 fp1 l1 e1 S1 o1 f1 => ⟨ρ1, B, fp1, S1, ds, rr, ρ', hg, fun σ2 fp2 l2 e2 S2 o2 f2 => ?_⟩⟩
          exact k σ2 fp2 (l2.trans l1) (fun j hj => (e2 j fun z => hj (List.mem_append_right _ z)).trans (e1 j fun z => hj (List.mem_append_left _ z))) S2 (fun a h => o1 a (o2 a h))
            (fun j hj => (f2 j fun z => hj (List.mem_append_right _ z)).trans (f1 j fun z => hj (List.mem_append_left _ z)))
      · cases hg
    · cases hg
theorem gcns_ok (h1 : GbOk g sl) (h2 : ∀ ds ρ ρ', h ds ρ = some ρ' → ρ'.length = ρ.length ∧ ∀ j : Nat, j ∉ sl2 → ρ'[j]? = ρ[j]?) : ∀ ds ρ ρ', gcns g h ds ρ = some ρ' → ρ'.length = ρ.length ∧ ∀ j : Nat, j ∉ sl ++ sl2 → ρ'[j]? = ρ[j]? := fun ds ρ ρ' q => by
  unfold gcns at q
  split at q
  · split at q
    · rename_i ρ1 q1
      obtain ⟨a1, b1⟩ := h1 _ _ _ q1
      obtain ⟨a2, b2⟩ := h2 _ _ _ q
      exact ⟨a2.trans a1, fun j hj => (b2 j fun z => hj (List.mem_append_right _ z)).trans (b1 j fun z => hj (List.mem_append_left _ z))⟩
    · cases q
  · cases q
theorem gnil_ok : ∀ ds ρ ρ', gnil ds ρ = some ρ' → ρ'.length = ρ.length ∧ ∀ j : Nat, j ∉ ([] : List Nat) → ρ'[j]? = ρ[j]? := fun ds ρ ρ' q => by
  unfold gnil at q
  split at q
  · cases q; exact ⟨rfl, fun _ _ => rfl⟩
  · cases q
theorem gcns_len {n : Nat} (h2 : ∀ ds ρ ρ', h ds ρ = some ρ' → ds.length = n) : ∀ ds ρ ρ', gcns g h ds ρ = some ρ' → ds.length = n + 1 := fun ds ρ ρ' q => by
  unfold gcns at q
  split at q
  · split at q
    · exact congrArg Nat.succ (h2 _ _ _ q)
    · cases q
  · cases q
theorem gnil_len : ∀ ds ρ ρ', gnil ds ρ = some ρ' → ds.length = 0 := fun ds ρ ρ' q => by
  unfold gnil at q
  split at q
  · rfl
  · cases q
theorem pgd_tup {k n : Nat} (hc : X.calm = true) (hh : PGsD X τ sl es h) (hlen : ∀ ds ρ ρ', h ds ρ = some ρ' → ds.length = n) (hn : (assignEach es X.env).length = n := by rfl) (hst : (assignEach es X.env).findIdx? (·.1) = none := by rfl) : PGD X τ sl (.Tuple es k pos) (gtp h) :=
  PG.imp (pg_tup hc hh hn hst) fun v σ H Q hl ⟨ρ, B, fp, S, d, r, ρ', hg, k⟩ => by
    unfold gtp at hg
    split at hg
    · rename_i ds
      obtain ⟨a, xs, rfl, hq, ra⟩ := r.tup_inv
      exact ⟨a, xs, rfl, ex_t S.le hq, by rw [ra.length]; exact hlen _ _ _ hg, ρ, B, fp, S, ds, ra, ρ', hg, k⟩
    · cases hg
theorem gtp_ok (h2 : ∀ ds ρ ρ', h ds ρ = some ρ' → ρ'.length = ρ.length ∧ ∀ j : Nat, j ∉ sl → ρ'[j]? = ρ[j]?) : GbOk (gtp h) sl := fun d ρ ρ' q => by
  unfold gtp at q
  split at q
  · exact h2 _ _ _ q
  · cases q
end

/-! ### what is walked -/
structure WalkD (K : PySem.W.Frag) (B : Hp) (J : It) (ds : List Dat) : Prop where
  step : ∀ B1 H i, Ex B B1 → Ex B1 H → i < ds.length → J.go i H ∧ ∀ x H', J.yld i H x H' → ∃ B2 d, ds[i]? = some d ∧ Ex H H' ∧ Ex B1 B2 ∧ (∀ a o, B2 a = some o → B1 a = some o ∨ (H a = none ∧ H' a = some o)) ∧ Rep K B2 x d
  stop : ∀ B1 H, Ex B B1 → Ex B1 H → J.stop ds.length H
  size : ds.length ≤ sizeLine
def tIt (K : PySem.W.Frag) (τ : List V) (p : Bool) (g : M (List Dat)) : TI := fun σ H R => ∃ ρ B fp, SR K τ B σ H ρ fp ∧ ∃ ds ρ', g ρ = some (ds, ρ') ∧
  ∀ J H' B' fp', HSz H' → SR K τ B' σ H' ρ' fp' → Tr B H fp B' H' fp' → (p = true → Pu H H' ρ ρ' fp fp') → WalkD K B' J ds → R J H'
abbrev PID (X : Cx) (τ : List V) (p : Bool) (tg iter : Expr) (g : M (List Dat)) : Prop := PI X tg iter (tIt X.K τ p g)
theorem PI.imp {X : Cx} {tg iter : Expr} {t t' : TI} (h : PI X tg iter t) (k : ∀ σ H R, HSz H → σ.length = X.N.length → t' σ H R → t σ H (fun J H' => HSz H' → R J H')) : PI X tg iter t' :=
  ⟨fun pins s σ H R I q => wpAny_mono (h.run pins s σ H _ I (k σ H R (hsz_of I.hok) I.len q)) (fun v s1 z => wpAny_mono z (fun u s2 ⟨it, fp, tn, J, H', a, I', b, c, d, q⟩ => ⟨it, fp, tn, J, H', a, I', b, c, d, q (hsz_of I'.hok)⟩) fun _ _ z => z) fun _ _ z => z⟩
section
variable {X : Cx} {τ : List V} {p pa pb : Bool} {e a b c tg iter : Expr} {es : List Expr} {pos pos' q : Pos} {f : M Dat}
/-- the items of a list -/
def itL : Dat → Option (List Dat)
  | .lst ds => some ds
  | .lsf ds => some ds
  | _ => none
def itT : Dat → Option (List Dat)
  | .tup ds => some ds
  | .tuf ds => some ds
  | _ => none
theorem walk_l {K : PySem.W.Frag} {B H : Hp} {a : Addr} {xs : List V} {ds : List Dat} (hz : HSz H) (le : Ex B H) (h : SqL K B a xs) (r : RepAll K B xs ds) : WalkD K B (Itl K a) ds := by
  have hl := r.length
  refine ⟨fun B1 H1 i e1 e2 hi => ?_, fun B1 H1 e1 e2 => ⟨xs, ex_l (e1.trans e2) h, by omega⟩, ?_⟩
  · refine ⟨⟨xs, xs[i], ex_l (e1.trans e2) h, by simp [show i < xs.length by omega]⟩, fun x H' ⟨y1, y2⟩ => ?_⟩
    subst y1
    obtain ⟨d, hd, rd⟩ := r.getv (y2 xs (ex_l (e1.trans e2) h))
    exact ⟨B1, d, hd, Ex.refl _, Ex.refl _, fun _ _ z => .inl z, rd.mono e1⟩
  · rw [← hl]
    rcases ex_l le h with h | ⟨o, its, n, hk, hc, hd, hs, hz, rv⟩
    · exact (hz a).1 xs h
    · have e := rv.length
      simp only [Array.length_toList] at e
      omega
theorem walk_t {K : PySem.W.Frag} {B H : Hp} {a : Addr} {xs : List V} {ds : List Dat} (hz : HSz H) (le : Ex B H) (h : SqT K B a xs) (r : RepAll K B xs ds) : WalkD K B (Itt K a) ds := by
  have hl := r.length
  refine ⟨fun B1 H1 i e1 e2 hi => ?_, fun B1 H1 e1 e2 => ⟨xs, ex_t (e1.trans e2) h, by omega⟩, ?_⟩
  · refine ⟨⟨xs, xs[i], ex_t (e1.trans e2) h, by simp [show i < xs.length by omega]⟩, fun x H' ⟨y1, y2⟩ => ?_⟩
    subst y1
    obtain ⟨d, hd, rd⟩ := r.getv (y2 xs (ex_t (e1.trans e2) h))
    exact ⟨B1, d, hd, Ex.refl _, Ex.refl _, fun _ _ z => .inl z, rd.mono e1⟩
  · rw [← hl]
    rcases ex_t le h with h | ⟨o, its, n, hk, hc, hs, hz, rv⟩
    · exact (hz a).2.1 xs h
    · have e := rv.length
      simp only [Array.length_toList] at e
      omega
def liftF {α : Type} (g : Dat → Option α) (f : M Dat) : M α := bnd f fun d => lift (g d)
theorem lstF_inv {K : PySem.W.Frag} {B : Hp} {v : V} {d : Dat} {ds : List Dat} (r : Rep K B v d) (h : itL d = some ds) : ∃ a xs, v = .ref a ∧ SqL K B a xs ∧ RepAll K B xs ds := by
  cases r with
  | lst q r => cases h; exact ⟨_, _, rfl, .inl (.inl q), r⟩
  | lsf q r => cases h; exact ⟨_, _, rfl, q, r⟩
  | _ => cases h
theorem pid_list (h : PED X τ p e f) : PID X τ p tg e (liftF itL f) := PI.imp (pi_list h) fun σ H R hz _ ⟨ρ, B, fp, S, ds, ρ', hf, k⟩ => by
  obtain ⟨d, ρ1, h1, h0⟩ := bnd_some hf
  obtain ⟨h2, rfl⟩ := lift_some h0
  clear h0
  refine ⟨ρ, B, fp, S, d, _, h1, fun v H' B' fp' z1 S1 t1 u1 r1 => ?_⟩
  obtain ⟨a, xs, rfl, q, ra⟩ := lstF_inv r1 h2
  exact ⟨a, rfl, ⟨xs, ex_l S1.le q⟩, fun hz' => k _ H' B' fp' hz' S1 t1 u1 (walk_l hz' S1.le q ra)⟩
theorem pid_tup (h : PED X τ p e f) : PID X τ p tg e (liftF itT f) := PI.imp (pi_tup h) fun σ H R hz _ ⟨ρ, B, fp, S, ds, ρ', hf, k⟩ => by
  obtain ⟨d, ρ1, h1, h0⟩ := bnd_some hf
  obtain ⟨h2, rfl⟩ := lift_some h0
  clear h0
  refine ⟨ρ, B, fp, S, d, _, h1, fun v H' B' fp' z1 S1 t1 u1 r1 => ?_⟩
  cases d with
  | tup ds' =>
    cases h2
    obtain ⟨a, xs, rfl, q, ra⟩ := r1.tup_inv
    exact ⟨a, rfl, ⟨xs, ex_t S1.le q⟩, fun hz' => k _ H' B' fp' hz' S1 t1 u1 (walk_t hz' S1.le q ra)⟩
  | tuf ds' =>
    cases h2
    obtain ⟨a, xs, rfl, q, ra⟩ := r1.weak.tup_inv
    exact ⟨a, rfl, ⟨xs, ex_t S1.le q⟩, fun hz' => k _ H' B' fp' hz' S1 t1 u1 (walk_t hz' S1.le q ra)⟩
  | _ => cases h2
/-- a text, sign by sign -/
def itS : Dat → Option (List Dat)
  | .str z => if z.cps.size ≤ sizeLine then some (z.cps.toList.map fun c => .str ⟨#[c]⟩) else none
  | _ => none
theorem pid_str (h : PED X τ p e f) : PID X τ p tg e (liftF itS f) := PI.imp (pi_str h) fun σ H R hz _ ⟨ρ, B, fp, S, ds, ρ', hf, k⟩ => by
  obtain ⟨d, ρ1, h1, h0⟩ := bnd_some hf
  obtain ⟨h2, rfl⟩ := lift_some h0
  clear h0
  refine ⟨ρ, B, fp, S, d, _, h1, fun v H' B' fp' z1 S1 t1 u1 r1 => ?_⟩
  cases d with
  | str z =>
    have h2 : (if z.cps.size ≤ sizeLine then some (z.cps.toList.map fun c => Dat.str ⟨#[c]⟩) else none) = some ds := h2
    by_cases hs : z.cps.size ≤ sizeLine
    · rw [if_pos hs] at h2
      have e := Option.some.inj h2
      subst e
      refine ⟨z, r1.str_inv, fun hz' => k _ H' B' fp' hz' S1 t1 u1 ⟨fun B1 H1 i e1 e2 hi => ⟨(show i < z.cps.size by simpa using hi), fun x H2 ⟨y1, c, y2, y3⟩ => ?_⟩, fun B1 H1 _ _ => by simp [Its], by simpa using hs⟩⟩
      subst y1 y3
      refine ⟨B1, .str ⟨#[c]⟩, ?_, Ex.refl _, Ex.refl _, fun _ _ z => .inl z, .str _⟩
      rw [List.getElem?_map, Array.getElem?_toList, y2]; rfl
    · rw [if_neg hs] at h2; cases h2
  | _ => cases h2
/-- range -/
def rngL (lo : Int) (n : Nat) : List Dat := (List.range n).map fun (i : Nat) => Dat.int (lo + ((i : Nat) : Int))
def itR1 : List Dat → Option (List Dat)
  | [.int j] => if j ≤ 16777216 ∧ -16777216 ≤ j then some (rngL 0 j.toNat) else none
  | _ => none
def itR2 : List Dat → Option (List Dat)
  | [.int i, .int j] => if (-(2 ^ 62) ≤ i ∧ i < 2 ^ 62 ∧ -(2 ^ 62) ≤ j ∧ j < 2 ^ 62) ∧ j - i ≤ 16777216 then some (rngL i (j - i).toNat) else none
  | _ => none
theorem walk_r {K : PySem.W.Frag} {B : Hp} {lo : Int} {n : Nat} (h : n ≤ sizeLine) : WalkD K B (Itr lo n) (rngL lo n) := by
  refine ⟨fun B1 H1 i e1 e2 hi => ⟨by have : i < n := by simpa [rngL] using hi
                                      exact this, fun x H2 ⟨y1, y2⟩ => ?_⟩, fun B1 H1 _ _ => by simp [Itr, rngL], by simpa [rngL] using h⟩
  subst y1 y2
  have hi : i < n := by simpa [rngL] using hi
  refine ⟨B1, .int (lo + i), ?_, Ex.refl _, Ex.refl _, fun _ _ z => .inl z, .int _⟩
  simp [rngL, hi]
theorem RepAll.one_inv {K : PySem.W.Frag} {B : Hp} {vs : List V} {d : Dat} (r : RepAll K B vs [d]) : ∃ v, vs = [v] ∧ Rep K B v d := by
  cases r with
  | cons r rr => cases rr; exact ⟨_, rfl, r⟩
theorem RepAll.two_inv {K : PySem.W.Frag} {B : Hp} {vs : List V} {d d' : Dat} (r : RepAll K B vs [d, d']) : ∃ v v', vs = [v, v'] ∧ Rep K B v d ∧ Rep K B v' d' := by
  cases r with
  | cons r rr =>
    obtain ⟨v', rfl, r'⟩ := rr.one_inv
    exact ⟨_, _, rfl, r, r'⟩
theorem RepAll.three_inv {K : PySem.W.Frag} {B : Hp} {vs : List V} {d d' d2 : Dat} (r : RepAll K B vs [d, d', d2]) : ∃ v v' v2, vs = [v, v', v2] ∧ Rep K B v d ∧ Rep K B v' d' ∧ Rep K B v2 d2 := by
  cases r with
  | cons r rr =>
    obtain ⟨v', v2, rfl, r', r2⟩ := rr.two_inv
    exact ⟨_, _, _, rfl, r, r', r2⟩
def liftA {α : Type} (g : List Dat → Option α) (f : M (List Dat)) : M α := bnd f fun d => lift (g d)
variable {fa : M (List Dat)}
theorem pid_range1 (hg : Gl X "range") (hm : X.mg "range" = none) (ha : PAD X τ p [a] fa) (hs : starEach [a] X.env = [(false, eval a X.env)] := by rfl) : PID X τ p tg (.Call (.Name "range" q) [a] [] pos) (liftA itR1 fa) :=
  PI.imp (pi_range1 hg hm ha hs) fun σ H R hz _ ⟨ρ, B, fp, S, ds, ρ', hf, k⟩ => by
    obtain ⟨d, ρ1, h1, h0⟩ := bnd_some hf
    obtain ⟨h2, rfl⟩ := lift_some h0
    clear h0
    refine ⟨ρ, B, fp, S, d, _, h1, fun v H' B' fp' z1 S1 t1 u1 r1 => ?_⟩
    unfold itR1 at h2
    split at h2
    · rename_i j
      split at h2
      · rename_i hj
        cases h2
        obtain ⟨w, rfl, r⟩ := r1.one_inv
        rw [r.int_inv]
        exact ⟨j, rfl, by omega, by omega, fun hz' => k _ H' B' fp' hz' S1 t1 u1 (walk_r (by rw [sizeLine_eq]; omega))⟩
      · cases h2
    · cases h2
theorem pid_range2 (hg : Gl X "range") (hm : X.mg "range" = none) (ha : PAD X τ p [a, b] fa) (hs : starEach [a, b] X.env = [(false, eval a X.env), (false, eval b X.env)] := by rfl) (hs2 : starEach [b] X.env = [(false, eval b X.env)] := by rfl) : PID X τ p tg (.Call (.Name "range" q) [a, b] [] pos) (liftA itR2 fa) :=
  PI.imp (pi_range2 hg hm ha hs hs2) fun σ H R hz _ ⟨ρ, B, fp, S, ds, ρ', hf, k⟩ => by
    obtain ⟨d, ρ1, h1, h0⟩ := bnd_some hf
    obtain ⟨h2, rfl⟩ := lift_some h0
    clear h0
    refine ⟨ρ, B, fp, S, d, _, h1, fun v H' B' fp' z1 S1 t1 u1 r1 => ?_⟩
    unfold itR2 at h2
    split at h2
    · rename_i i j
      split at h2
      · rename_i hj
        cases h2
        obtain ⟨w, w', rfl, r, r'⟩ := r1.two_inv
        rw [r.int_inv, r'.int_inv]
        exact ⟨i, j, rfl, hj.1, fun hz' => k _ H' B' fp' hz' S1 t1 u1 (walk_r (by rw [sizeLine_eq]; omega))⟩
      · cases h2
    · cases h2

/-! ### for -/
def loopD (gb : Dat → Env → Option Env) (body : Fm) : List Dat → Fm
  | [], ρ => some (.nx, ρ)
  | d :: ds, ρ => match gb d ρ with
    | some ρ1 => match body ρ1 with
      | some (.nx, ρ2) => loopD gb body ds ρ2
      | some (.ct, ρ2) => loopD gb body ds ρ2
      | some (.bk, ρ2) => some (.nx, ρ2)
      | some (.rt r, ρ2) => some (.rt r, ρ2)
      | none => none
    | none => none
def forD (g : M (List Dat)) (gb : Dat → Env → Option Env) (body : Fm) : Fm := fun ρ => match g ρ with
  | some (ds, ρ1) => loopD gb body ds ρ1
  | none => none
theorem drop_cons {α : Type} {ds : List α} {i : Nat} {d : α} (h : ds[i]? = some d) : ds.drop i = d :: ds.drop (i + 1) := by
  obtain ⟨hi, e⟩ := List.getElem?_eq_some_iff.mp h
  rw [List.drop_eq_getElem_cons hi, e]
variable {g : M (List Dat)} {gb : Dat → Env → Option Env} {body : List Stmt} {Fb : Fm} {sl : List Nat}
theorem psd_for (hp : PassesOwn (model X.prog X.w) X.A X.env X.xe) (hc : X.calm = true) (hi : PID X τ p tg iter g) (hg : PGD X τ sl tg gb) (hb : PSsD X τ body Fb) (hs : ∀ x, foldedSetIterable iter X.env x = pure x := by intro _; rfl) : PSD X τ (.For tg iter body [] pos) (forD g gb Fb) :=
  PS.imp (ps_for hp hc hi hg hb hs) fun D σ H hz hl ⟨ρ, B, fp, S, fl, ρ', hf, k⟩ => by
    unfold forD at hf
    cases hg0 : g ρ with
    | none => rw [hg0] at hf; cases hf
    | some y =>
      obtain ⟨ds, ρ1⟩ := y
      rw [hg0] at hf
      simp only at hf
      refine ⟨ρ, B, fp, S, ds, ρ1, hg0, fun J H1 B1 fp1 z1 S1 t1 u1 wk => ?_⟩
      refine ⟨fun i m σ' H' => m = ds.length - i ∧ i ≤ ds.length ∧ σ'.length = σ.length ∧ ∃ ρ3 B' fp', SR X.K τ B' σ' H' ρ3 fp' ∧ Tr B1 H1 fp1 B' H' fp' ∧ loopD gb Fb (ds.drop i) ρ3 = some (fl, ρ'), ⟨ds.length, by simp, Nat.zero_le _, rfl, ρ1, B1, fp1, S1, Tr.refl, by simpa using hf⟩, ?_⟩
      rintro i m σ' H' ⟨rfl, hi, hl', ρ2, B2, fp2, S2, t2, hlp⟩
      by_cases hlt : i < ds.length
      · obtain ⟨go, yl⟩ := wk.step B2 H' i t2.ex S2.le hlt
        refine .inr ⟨go, fun σ'' H'' => σ''.length = σ.length ∧ ∃ ρ3 B3 fp3, SR X.K τ B3 σ'' H'' ρ3 fp3 ∧ Tr B1 H1 fp1 B3 H'' fp3 ∧ loopD gb Fb (ds.drop (i + 1)) ρ3 = some (fl, ρ'), fun σ'' H'' ⟨q1, q2⟩ => ⟨ds.length - (i + 1), by omega, rfl, hlt, q1, q2⟩, fun x H3 y => ?_⟩
        obtain ⟨B3, d, hd, e3, b3, n3, r3⟩ := yl x H3 y
        have S3 := S2.grow e3 b3 n3
        have t3 := t2.trans (Tr.new e3 b3 n3)
        rw [drop_cons hd] at hlp
        unfold loopD at hlp
        cases q1 : gb d ρ2 with
        | none => rw [q1] at hlp; cases hlp
        | some ρ3 =>
          rw [q1] at hlp
          simp only at hlp
          refine ⟨ρ2, B3, fp2, S3, d, r3, ρ3, q1, fun σ4 fp4 l4 _ S4 o4 f4 => ?_⟩
          have t4 : Tr B1 H1 fp1 B3 H3 fp4 := ⟨t3.fr, t3.ex, t3.nw, fun a h => t3.ow a (o4 a h)⟩
          cases q2 : Fb ρ3 with
          | none => rw [q2] at hlp; cases hlp
          | some z =>
            obtain ⟨fl1, ρ4⟩ := z
            rw [q2] at hlp
            refine ⟨ρ3, B3, fp4, S4, fl1, ρ4, q2, fun σ5 H5 B5 fp5 z5 l5 S5 t5 => ?_⟩
            have l6 : σ5.length = σ.length := l5.trans (l4.trans hl')
            cases fl1 with
            | nx => exact ⟨l6, ρ4, B5, fp5, S5, t4.trans t5, hlp⟩
            | ct => exact ⟨l6, ρ4, B5, fp5, S5, t4.trans t5, hlp⟩
            | bk => cases hlp; exact fun _ _ => k σ5 H5 B5 fp5 z5 l6 S5 (t1.trans (t4.trans t5))
            | rt r => cases hlp; exact fun v A rv z _ => k σ5 H5 B5 fp5 z5 l6 S5 (t1.trans (t4.trans t5)) v A rv (z.back (t1.trans t4))
      · have e : i = ds.length := by omega
        subst e
        rw [List.drop_length] at hlp
        cases hlp
        exact .inl ⟨wk.stop B2 H' t2.ex S2.le, fun hz2 _ => k σ' H' B2 fp2 hz2 hl' S2 (t1.trans t2)⟩
end
end DL

set_option Elab.async false
set_option linter.all false
set_option maxRecDepth 100000
set_option maxHeartbeats 2000000
namespace DL
open PySem L2

/-! ### while -/
def whileD (c : M Bool) (body : Fm) : Nat → Fm
  | 0, _ => none
  | n + 1, ρ => match c ρ with
    | some (true, ρ1) => match body ρ1 with
      | some (.nx, ρ2) => whileD c body n ρ2
      | some (.ct, ρ2) => whileD c body n ρ2
      | some (.bk, ρ2) => some (.nx, ρ2)
      | some (.rt r, ρ2) => some (.rt r, ρ2)
      | none => none
    | some (false, ρ1) => some (.nx, ρ1)
    | none => none
section
variable {X : Cx} {τ : List V} {p pa pb : Bool} {e a b c tg iter : Expr} {es : List Expr} {pos pos' q : Pos} {f : M Dat} {body : List Stmt} {Fb : Fm} {fc : M Bool}
theorem psd_while (n0 : Nat) (hp : PassesOwn (model X.prog X.w) X.A X.env X.xe) (hc : PTD X τ p c fc) (hb : PSsD X τ body Fb) : PSD X τ (.While c body [] pos) (whileD fc Fb n0) :=
  PS.imp (ps_while hp hc hb) fun D σ H hz hl ⟨ρ, B, fp, S, fl, ρ', hf, k⟩ => by
    refine ⟨fun m σ' H' => σ'.length = σ.length ∧ ∃ ρ3 B' fp', SR X.K τ B' σ' H' ρ3 fp' ∧ Tr B H fp B' H' fp' ∧ whileD fc Fb m ρ3 = some (fl, ρ'), ⟨n0, rfl, ρ, B, fp, S, Tr.refl, hf⟩, ?_⟩
    rintro m σ1 H1 ⟨l1, ρ1, B1, fp1, S1, t1, hw⟩
    cases m with
    | zero => cases hw
    | succ m =>
      unfold whileD at hw
      cases q1 : fc ρ1 with
      | none => rw [q1] at hw; cases hw
      | some y =>
        obtain ⟨b, ρ2⟩ := y
        rw [q1] at hw
        refine ⟨ρ1, B1, fp1, S1, b, ρ2, q1, fun H2 B2 fp2 z2 S2 t2 _ => ?_⟩
        cases b with
        | false =>
          cases hw
          exact fun hz2 _ => k σ1 H2 B2 fp2 hz2 l1 S2 (t1.trans t2)
        | true =>
          simp only at hw
          refine ⟨fun σ'' H'' => σ''.length = σ.length ∧ ∃ ρ3 B' fp', SR X.K τ B' σ'' H'' ρ3 fp' ∧ Tr B H fp B' H'' fp' ∧ whileD fc Fb m ρ3 = some (fl, ρ'), fun σ'' H'' z => ⟨m, Nat.lt_succ_self _, z⟩, ?_⟩
          cases q2 : Fb ρ2 with
          | none => rw [q2] at hw; cases hw
          | some z =>
            obtain ⟨fl1, ρ4⟩ := z
            rw [q2] at hw
            refine ⟨ρ2, B2, fp2, S2, fl1, ρ4, q2, fun σ5 H5 B5 fp5 z5 l5 S5 t5 => ?_⟩
            have l6 : σ5.length = σ.length := l5.trans l1
            have t6 := t1.trans (t2.trans t5)
            cases fl1 with
            | nx => exact ⟨l6, ρ4, B5, fp5, S5, t6, hw⟩
            | ct => exact ⟨l6, ρ4, B5, fp5, S5, t6, hw⟩
            | bk => cases hw; exact fun _ _ => k σ5 H5 B5 fp5 z5 l6 S5 t6
            | rt r => cases hw; exact fun v A rv z _ => k σ5 H5 B5 fp5 z5 l6 S5 t6 v A rv (z.back (t1.trans t2))
end

/-! ### comprehensions -/
def wipeE (ρ : Env) : List Nat → Env
  | [] => ρ
  | v :: vs => (wipeE ρ vs).set v none
theorem wipeE_len (ρ : Env) : ∀ vs, (wipeE ρ vs).length = ρ.length
  | [] => rfl
  | v :: vs => by unfold wipeE; rw [List.length_set, wipeE_len ρ vs]
theorem wipeE_out {ρ : Env} {i : Nat} : ∀ {vs : List Nat}, i ∉ vs → (wipeE ρ vs)[i]? = ρ[i]?
  | [], _ => rfl
  | v :: vs, h => by
    unfold wipeE
    rw [List.getElem?_set_ne fun e => h (by simp [e])]
    exact wipeE_out fun z => h (List.mem_cons_of_mem _ z)
theorem wipeE_in {ρ : Env} {i : Nat} {s : Sl} : ∀ {vs : List Nat}, i ∈ vs → (wipeE ρ vs)[i]? ≠ some (some s)
  | [], h => by simp at h
  | v :: vs, h => by
    unfold wipeE
    by_cases e : v = i
    · subst e
      by_cases hv : v < (wipeE ρ vs).length
      · rw [List.getElem?_set_self hv]; simp
      · rw [List.getElem?_eq_none (by simpa using hv)]; simp
    · rw [List.getElem?_set_ne e]
      refine wipeE_in ?_
      rcases List.mem_cons.mp h with z | z
      · exact absurd z.symm e
      · exact z
theorem wipeE_eq {ρ ρ' : Env} {vs : List Nat} (hl : ρ'.length = ρ.length) (h : ∀ j : Nat, j ∉ vs → ρ'[j]? = ρ[j]?) : wipeE ρ' vs = wipeE ρ vs := by
  refine List.ext_getElem? fun i => ?_
  by_cases hi : i ∈ vs
  · have key : ∀ ρ : Env, ∀ vs : List Nat, i ∈ vs → (wipeE ρ vs)[i]? = if i < ρ.length then some none else none := by
      intro ρ vs hi
      by_cases hl : i < ρ.length
      · rw [if_pos hl]
        have : i < (wipeE ρ vs).length := by rw [wipeE_len]; exact hl
        cases q : (wipeE ρ vs)[i]? with
        | none => rw [List.getElem?_eq_none_iff] at q; omega
        | some o =>
          cases o with
          | none => rfl
          | some s => exact absurd q (wipeE_in hi)
      · rw [if_neg hl]
        exact List.getElem?_eq_none (by rw [wipeE_len]; omega)
    rw [key ρ' vs hi, key ρ vs hi, hl]
  · rw [wipeE_out hi, wipeE_out hi]; exact h i hi
theorem wipeE_idem {ρ : Env} {vs : List Nat} : wipeE (wipeE ρ vs) vs = wipeE ρ vs := wipeE_eq (wipeE_len ρ vs) fun j hj => wipeE_out hj
theorem wipe_eq2 {σ σ' : L2.St} {vs : List Nat} (hl : σ'.length = σ.length) (h : ∀ j : Nat, j ∉ vs → σ'[j]? = σ[j]?) : L2.wipe σ' vs = L2.wipe σ vs := by
  refine List.ext_getElem? fun i => ?_
  by_cases hi : i ∈ vs
  · have key : ∀ ρ : L2.St, ∀ vs : List Nat, i ∈ vs → (L2.wipe ρ vs)[i]? = if i < ρ.length then some none else none := by
      intro ρ vs hi
      by_cases hl : i < ρ.length
      · rw [if_pos hl]
        have : i < (L2.wipe ρ vs).length := by rw [wipe_length]; exact hl
        cases q : (L2.wipe ρ vs)[i]? with
        | none => rw [List.getElem?_eq_none_iff] at q; omega
        | some o =>
          cases o with
          | none => rfl
          | some s => exact absurd hi (wipe_some q).2
      · rw [if_neg hl]
        exact List.getElem?_eq_none (by rw [wipe_length]; omega)
    rw [key σ' vs hi, key σ vs hi, hl]
  · rw [wipe_out hi, wipe_out hi]; exact h i hi
theorem wipe_idem {σ : L2.St} {vs : List Nat} : L2.wipe (L2.wipe σ vs) vs = L2.wipe σ vs := wipe_eq2 (wipe_length σ vs) fun j hj => wipe_out hj
/-- behind: the block's own names as they were before -/
def backE (ρ ρe : Env) (vs : List Nat) : Env := ρe.mapIdx fun i o => if i ∈ vs then ρ[i]?.join else o
theorem backE_get {ρ ρe : Env} {vs : List Nat} (i : Nat) : (backE ρ ρe vs)[i]? = (ρe[i]?).map fun o => if i ∈ vs then ρ[i]?.join else o := by
  unfold backE; rw [List.getElem?_mapIdx]
theorem backE_wipe {ρ : Env} {vs : List Nat} : backE ρ (wipeE ρ vs) vs = ρ := by
  refine List.ext_getElem? fun i => ?_
  rw [backE_get]
  by_cases hi : i ∈ vs
  · simp only [hi, if_true]
    by_cases hl : i < ρ.length
    · have : i < (wipeE ρ vs).length := by rw [wipeE_len]; exact hl
      rw [List.getElem?_eq_getElem this, List.getElem?_eq_getElem hl]; rfl
    · have h1 : (wipeE ρ vs)[i]? = none := List.getElem?_eq_none (by rw [wipeE_len]; omega)
      have h2 : ρ[i]? = none := List.getElem?_eq_none (by omega)
      rw [h1, h2]; rfl
  · simp only [hi, if_false]
    rw [wipeE_out hi]
    cases ρ[i]? <;> rfl
/-- none of the block's names holds an owned thing outside -/
def noOwn (ρ : Env) (vs : List Nat) : Bool := vs.all fun i => match ρ[i]? with
  | some (some s) => !isOwn s
  | _ => true
theorem noOwn_fp {K : PySem.W.Frag} {τ : List V} {B : Hp} {σ : L2.St} {H : Hp} {ρ : Env} {fp : Nat → List Addr} {vs : List Nat} (S : SR K τ B σ H ρ fp) (h : noOwn ρ vs = true) {i : Nat} (hi : i ∈ vs) : fp i = [] := by
  have h1 := List.all_eq_true.mp h i hi
  cases q : ρ[i]? with
  | none => exact S.emp i fun s z => by rw [q] at z; cases z
  | some o =>
    cases o with
    | none => exact S.emp i fun s z => by rw [q] at z; cases z
    | some s =>
      rw [q] at h1
      obtain ⟨v, _, r⟩ := S.rel i s q
      cases s with
      | sh d => exact r.sh_inv.1
      | _ => cases h1
theorem SR.wipe {K : PySem.W.Frag} {τ : List V} {B : Hp} {σ : L2.St} {H : Hp} {ρ : Env} {fp : Nat → List Addr} {vs : List Nat} (S : SR K τ B σ H ρ fp) (h : ∀ i ∈ vs, fp i = []) : SR K τ B (L2.wipe σ vs) H (wipeE ρ vs) fp := by
  refine ⟨fun i s q => ?_, fun i q => ?_, S.dis, S.sep, S.le⟩
  · by_cases hi : i ∈ vs
    · exact absurd q (wipeE_in hi)
    · rw [wipeE_out hi] at q
      obtain ⟨v, h1, h2⟩ := S.rel i s q
      exact ⟨v, by rw [wipe_out hi]; exact h1, h2⟩
  · by_cases hi : i ∈ vs
    · exact h i hi
    · exact S.emp i fun s z => q s (by rw [wipeE_out hi]; exact z)
/-- the loop -/
def lcLoop (vs : List Nat) (gb : Dat → Env → Option Env) (tt : M Bool) (te : M Dat) : List Dat → M (List Dat)
  | [], ρ => some ([], ρ)
  | d :: ds, ρ => match gb d ρ with
    | some ρ1 => match tt ρ1 with
      | some (true, ρ2) => match te ρ2 with
        | some (y, ρ3) => if noOwn ρ3 vs = true then (match lcLoop vs gb tt te ds (wipeE ρ3 vs) with
          | some (ys, ρ4) => some (y :: ys, ρ4)
          | none => none) else none
        | none => none
      | some (false, ρ2) => if noOwn ρ2 vs = true then lcLoop vs gb tt te ds (wipeE ρ2 vs) else none
      | none => none
    | none => none
def lcD (vs : List Nat) (g : M (List Dat)) (gb : Dat → Env → Option Env) (tt : M Bool) (te : M Dat) : M Sl := fun ρ => match g ρ with
  | some (ds, ρ1) => if noOwn ρ1 vs = true then (match lcLoop vs gb tt te ds (wipeE ρ1 vs) with
      | some (ys, ρ2) => some (.ol none ys, backE ρ1 ρ2 vs)
      | none => none) else none
  | none => none
abbrev PTsD (X : Cx) (τ : List V) (p : Bool) (ifs : List Expr) (f : M Bool) : Prop := PTs X ifs (tBool X.K τ p f)
def yesM : M Bool := ret true
theorem PTs.imp {X : Cx} {e : List Expr} {t t' : TT} (h : PTs X e t) (k : ∀ σ H Q, HSz H → σ.length = X.N.length → t' σ H Q → t σ H (fun v H' => HSz H' → Q v H')) : PTs X e t' :=
  ⟨fun pins s σ H Q I q => wpAny_mono (h.run pins s σ H _ I (k σ H Q (hsz_of I.hok) I.len q)) (fun _ _ ⟨H', I', q⟩ => ⟨H', I', q (hsz_of I'.hok)⟩) fun _ _ z => z⟩
section
variable {X : Cx} {τ : List V} {p pa pb pg pt : Bool} {e a b c tg iter elt : Expr} {es ifs : List Expr} {pos pos' q : Pos} {g : M (List Dat)} {gb : Dat → Env → Option Env} {tt : M Bool} {te : M Dat} {sl vs : List Nat}
theorem ptsd_nil : PTsD X τ true [] yesM := PTs.imp pts_nil fun σ H Q hz _ ⟨ρ, B, fp, S, d, ρ', hf, k⟩ => by
  cases hf
  exact fun hz' => k H B fp hz' S Tr.refl fun _ => Pu.refl
theorem ptsd_one (h : PTD X τ p c tt) : PTsD X τ p [c] tt := pts_one h
/-- the reading of a comprehension over data -/
theorem lc_imp {σ : L2.St} {H : Hp} {Q : VK} (hok : GbOk gb sl) (hsl : ∀ i ∈ sl, i ∈ vs) (h : tSl X.K τ (pg && (pt && p)) (lcD vs g gb tt te) σ H Q) :
    tLc (tIt X.K τ pg g) (tTg X.K τ sl gb) (tBool X.K τ pt tt) (tDat X.K τ p te) vs σ H (fun v H' => HSz H' → Q v H') := by
  obtain ⟨ρ, B, fp, S, r, ρ', hf, k⟩ := h
  unfold lcD at hf
  cases hg0 : g ρ with
  | none => rw [hg0] at hf; cases hf
  | some y =>
    obtain ⟨ds, ρ1⟩ := y
    rw [hg0] at hf
    simp only at hf
    split at hf
    case isFalse => cases hf
    rename_i hno
    cases hl0 : lcLoop vs gb tt te ds (wipeE ρ1 vs) with
    | none => rw [hl0] at hf; cases hf
    | some y =>
      obtain ⟨ys, ρe⟩ := y
      rw [hl0] at hf
      cases hf
      refine ⟨ρ, B, fp, S, ds, ρ1, hg0, fun J H1 B1 fp1 z1 S1 t1 u1 wk D hD => ?_⟩
      have nfp : ∀ i ∈ vs, fp1 i = [] := fun i hi => noOwn_fp S1 hno hi
      have SW := S1.wipe nfp
      -- between two turns
      refine ⟨fun i m H' => m = ds.length - i ∧ i ≤ ds.length ∧ ∃ xs ws rs ρ2 B2 fp2, H' D = some (.lst xs) ∧ xs.length ≤ i ∧ RepAll X.K B2 xs ws ∧ B2 D = none ∧ ¬ own fp2 D ∧ ys = ws ++ rs ∧ lcLoop vs gb tt te (ds.drop i) ρ2 = some (rs, ρe) ∧
        SR X.K τ B2 (L2.wipe σ vs) H' ρ2 fp2 ∧ Tr B1 H1 fp1 B2 H' fp2 ∧ ((pt && p) = true → Ex H1 H' ∧ ρ2 = wipeE ρ1 vs ∧ fp2 = fp1) ∧ (∀ i ∈ vs, fp2 i = []), ⟨ds.length, by simp, Nat.zero_le _, [], [], ys, wipeE ρ1 vs, B1, fp1, upd_same, Nat.zero_le _, .nil, S1.nowb hD, S1.noown hD, rfl, by simpa using hl0,
          SW.ext (Ex.new hD), Tr.ext (Ex.new hD), fun _ => ⟨Ex.new hD, rfl, rfl⟩, nfp⟩, ?_⟩
      rintro i m H2 ⟨rfl, hi, xs, ws, rs, ρ2, B2, fp2, hx, hxl, rx, nbD, noD, hys, hlp, S2, t2, u2, n2⟩
      by_cases hlt : i < ds.length
      · obtain ⟨go, yl⟩ := wk.step B2 H2 i t2.ex S2.le hlt
        refine .inr ⟨go, fun H' => i + 1 ≤ ds.length ∧ ∃ xs ws rs ρ2 B2 fp2, H' D = some (.lst xs) ∧ xs.length ≤ i + 1 ∧ RepAll X.K B2 xs ws ∧ B2 D = none ∧ ¬ own fp2 D ∧ ys = ws ++ rs ∧ lcLoop vs gb tt te (ds.drop (i + 1)) ρ2 = some (rs, ρe) ∧
          SR X.K τ B2 (L2.wipe σ vs) H' ρ2 fp2 ∧ Tr B1 H1 fp1 B2 H' fp2 ∧ ((pt && p) = true → Ex H1 H' ∧ ρ2 = wipeE ρ1 vs ∧ fp2 = fp1) ∧ (∀ i ∈ vs, fp2 i = []), fun H' z => ⟨_, by omega, rfl, z⟩, fun x H3 y => ?_⟩
        obtain ⟨B3, d, hd, e3, b3, n3, r3⟩ := yl x H3 y
        have S3 := S2.grow e3 b3 n3
        have tr3 : Tr B2 H2 fp2 B3 H3 fp2 := Tr.new e3 b3 n3
        rw [drop_cons hd] at hlp
        unfold lcLoop at hlp
        cases q1 : gb d ρ2 with
        | none => rw [q1] at hlp; cases hlp
        | some ρ3 =>
          rw [q1] at hlp
          simp only at hlp
          refine ⟨ρ2, B3, fp2, S3, d, r3, ρ3, q1, fun σ4 fp4 l4 e4 S4 o4 f4 => ?_⟩
          have hw4 : L2.wipe σ4 vs = L2.wipe σ vs := by
            rw [← wipe_idem (σ := σ)]
            exact wipe_eq2 l4 fun j hj => e4 j fun z => hj (hsl j z)
          have tr4 : Tr B2 H2 fp2 B3 H3 fp4 := ⟨tr3.fr, tr3.ex, tr3.nw, fun a h => tr3.ow a (o4 a h)⟩
          obtain ⟨lρ, kρ⟩ := hok _ _ _ q1
          have hwρ : wipeE ρ3 vs = wipeE ρ2 vs := wipeE_eq lρ fun j hj => kρ j fun z => hj (hsl j z)
          refine ⟨hw4, ?_⟩
          cases q2 : tt ρ3 with
          | none => rw [q2] at hlp; cases hlp
          | some y2 =>
            obtain ⟨b, ρ4⟩ := y2
            rw [q2] at hlp
            refine ⟨ρ3, B3, fp4, S4, b, ρ4, q2, fun H5 B5 fp5 z5 S5 t5 u5 => ?_⟩
            have tr5 := tr4.trans t5
            -- what stays true of D
            have keepD : ∀ {B' : Hp} {H' : Hp} {fp' : Nat → List Addr}, Tr B2 H2 fp2 B' H' fp' → H' D = some (.lst xs) ∧ B' D = none ∧ ¬ own fp' D := fun {B' H' fp'} t => by
              refine ⟨t.fr D _ hx noD, ?_, fun z => ?_⟩
              · cases q : B' D with
                | none => rfl
                | some o =>
                  rcases t.nw D o q with z | z | z
                  · rw [nbD] at z; cases z
                  · rw [hx] at z; cases z
                  · exact absurd z noD
              · rcases t.ow D z with w | w
                · exact noD w
                · rw [hx] at w; cases w
            have forgetV : ∀ {B' : Hp} {H' : Hp} {ρ' : Env} {fp' : Nat → List Addr}, SR X.K τ B' σ4 H' ρ' fp' → noOwn ρ' vs = true → SR X.K τ B' (L2.wipe σ vs) H' (wipeE ρ' vs) fp' := fun {B' H' ρ' fp'} S n => by
              rw [← hw4]; exact S.wipe fun i hi => noOwn_fp S n hi
            have pure4 : ∀ {ρ' : Env} {fp' : Nat → List Addr}, ρ' = ρ3 → fp' = fp4 → (∀ i ∈ vs, fp' i = []) → ρ2 = wipeE ρ1 vs → fp2 = fp1 → wipeE ρ' vs = wipeE ρ1 vs ∧ fp' = fp1 := fun {ρ' fp'} h1 h2 h3 h4 h5 => by
              subst h1
              refine ⟨by rw [hwρ, h4, wipeE_idem], ?_⟩
              funext j
              by_cases hj : j ∈ vs
              · rw [h3 j hj, ← h5, n2 j hj]
              · rw [h2, f4 j fun z => hj (hsl j z), h5]
            cases b with
            | false =>
              simp only at hlp
              show i + 1 ≤ ds.length ∧ _
              split at hlp
              case isFalse => cases hlp
              rename_i hno4
              obtain ⟨k1, k2, k3⟩ := keepD tr5
              refine ⟨hlt, xs, ws, rs, wipeE ρ4 vs, B5, fp5, k1, by omega, rx.mono tr5.ex, k2, k3, hys, hlp, forgetV S5 hno4, t2.trans tr5, fun hp => ?_, fun i hi => noOwn_fp S5 hno4 hi⟩
              obtain ⟨p1, p2⟩ := Bool.and_eq_true_iff.mp hp
              obtain ⟨x1, x2, x3⟩ := u2 hp
              obtain ⟨y1, y2, y3⟩ := u5 p1
              obtain ⟨w1, w2⟩ := pure4 y2 y3 (fun i hi => noOwn_fp S5 hno4 hi) x2 x3
              exact ⟨x1.trans (e3.trans y1), w1, w2⟩
            | true =>
              simp only at hlp
              cases q3 : te ρ4 with
              | none => rw [q3] at hlp; cases hlp
              | some y3 =>
                obtain ⟨w, ρ5⟩ := y3
                rw [q3] at hlp
                simp only at hlp
                split at hlp
                case isFalse => cases hlp
                rename_i hno5
                cases q4 : lcLoop vs gb tt te (ds.drop (i + 1)) (wipeE ρ5 vs) with
                | none => rw [q4] at hlp; cases hlp
                | some y4 =>
                  obtain ⟨rs', ρ6⟩ := y4
                  rw [q4] at hlp
                  cases hlp
                  refine ⟨ρ4, B5, fp5, S5, w, ρ5, q3, fun yv H6 B6 fp6 z6 S6 t6 u6 ry => ?_⟩
                  have tr6 := tr5.trans t6
                  obtain ⟨k1, k2, k3⟩ := keepD tr6
                  have hsz : xs.length < sizeLine := Nat.lt_of_lt_of_le (Nat.lt_of_le_of_lt hxl hlt) wk.size
                  have neD : ∀ a, a ≠ D → upd H6 D (.lst (xs ++ [yv])) a = H6 a := fun a h => upd_ne h
                  -- the list at D grows: it is in no one's hand
                  have Sg : SR X.K τ B6 σ4 (upd H6 D (.lst (xs ++ [yv]))) ρ5 fp6 := by
                    refine ⟨fun i s q => ?_, S6.emp, S6.dis, S6.sep, fun a o h => ?_⟩
                    · obtain ⟨v, h1, h2⟩ := S6.rel i s q
                      exact ⟨v, h1, h2.any fun a ha => neD a fun e => k3 ⟨i, e ▸ ha⟩⟩
                    · rw [neD a fun e => by rw [e, k2] at h; cases h]; exact S6.le a o h
                  have Tg : Tr B1 H1 fp1 B6 (upd H6 D (.lst (xs ++ [yv]))) fp6 := by
                    have tt := t2.trans tr6
                    refine ⟨fun a o h n => ?_, tt.ex, tt.nw, tt.ow⟩
                    rw [neD a fun e => by rw [e, hD] at h; cases h]; exact tt.fr a o h n
                  refine ⟨xs, k1, hsz, hlt, xs ++ [yv], ws ++ [w], rs', wipeE ρ5 vs, B6, fp6, upd_same, by simp; omega, (rx.mono tr6.ex).snoc ry, k2, k3, by rw [hys, List.append_assoc]; rfl, q4, forgetV Sg hno5, Tg, fun hp => ?_, fun i hi => noOwn_fp S6 hno5 hi⟩
                  obtain ⟨p1, p2⟩ := Bool.and_eq_true_iff.mp hp
                  obtain ⟨x1, x2, x3⟩ := u2 hp
                  obtain ⟨y1, y2, y3⟩ := u5 p1
                  obtain ⟨z1, z2, z3⟩ := u6 p2
                  obtain ⟨w1, w2⟩ := pure4 (z2.trans y2) (z3.trans y3) (fun i hi => noOwn_fp S6 hno5 hi) x2 x3
                  refine ⟨fun a o h => ?_, w1, w2⟩
                  rw [neD a fun e => by rw [e, hD] at h; cases h]
                  exact (x1.trans (e3.trans (y1.trans z1))) a o h
      · have ei : i = ds.length := by omega
        subst ei
        rw [List.drop_length] at hlp
        cases hlp
        rw [List.append_nil] at hys
        subst hys
        refine .inl ⟨wk.stop B2 H2 t2.ex S2.le, fun hz2 => ?_⟩
        -- the block's names as before
        have SB : SR X.K τ B2 σ H2 (backE ρ1 ρe vs) fp2 := by
          refine ⟨fun j s q => ?_, fun j q => ?_, S2.dis, S2.sep, S2.le⟩
          · rw [backE_get] at q
            cases q0 : ρe[j]? with
            | none => rw [q0] at q; cases q
            | some o =>
              rw [q0] at q
              by_cases hj : j ∈ vs
              · simp only [Option.map_some, Option.some.injEq, hj, if_true] at q
                have q1 : ρ1[j]? = some (some s) := by
                  cases h : ρ1[j]? with
                  | none => rw [h] at q; cases q
                  | some o => rw [h] at q; simpa using q
                obtain ⟨v, h1, h2⟩ := S1.rel j s q1
                refine ⟨v, h1, ?_⟩
                rw [nfp j hj] at h2
                rw [n2 j hj]
                exact h2.mono t2.ex fun a ha => by simp at ha
              · simp only [Option.map_some, Option.some.injEq, hj, if_false] at q
                subst q
                obtain ⟨v, h1, h2⟩ := S2.rel j s q0
                exact ⟨v, by rw [wipe_out hj] at h1; exact h1, h2⟩
          · by_cases hj : j ∈ vs
            · exact n2 j hj
            · refine S2.emp j fun s z => q s ?_
              rw [backE_get, z]
              simp [hj]
        refine k (.ref D) H2 B2 fp2 [D] hz2 SB (t1.trans t2) (fun hp => ?_) (.ol hx rx fun k z => nomatch z) ⟨fun a ha => by simp at ha; subst ha; exact nbD, fun a ha => by simp at ha; subst ha; exact noD, fun a ha => ?_⟩
        · obtain ⟨p1, p2⟩ := Bool.and_eq_true_iff.mp hp
          obtain ⟨x1, x2, x3⟩ := u2 p2
          obtain ⟨y1, y2, y3⟩ := u1 p1
          subst x2 x3 y2 y3
          exact ⟨y1.trans x1, backE_wipe, rfl⟩
        · simp at ha
          subst ha
          cases h : H a with
          | none => exact .inr rfl
          | some o =>
            by_cases w : own fp a
            · exact .inl w
            · rw [t1.fr a o h w] at hD; cases hD
end
end DL

set_option Elab.async false
set_option linter.all false
set_option maxRecDepth 100000
set_option maxHeartbeats 2000000
namespace DL
open PySem L2
abbrev SZ : Nat := 16777216

/-! ### comprehensions, the rules -/
section
variable {X : Cx} {τ : List V} {p pa pb pg pt : Bool} {e a b c tg iter elt : Expr} {es ifs : List Expr} {pos pos' q spos : Pos} {g : M (List Dat)} {gb : Dat → Env → Option Env} {tt : M Bool} {te : M Dat} {sl : List Nat} {own : List (Str × Nat)} {scope : Scope}
theorem peo_lc (hc : X.calm = true) (hN : X.N.Nodup) (hi : PID X τ pg tg iter g) (ok : BlkOk X.N X.env.scope scope own)
    (hg : ∀ (s : Shared) (H : Hp) (C : Addr) (cl : List (Str × Addr)) (fp : List Addr), PGD (X.blk s H scope (PySem.compEnvC scope cl C X.env) fp) τ sl tg gb) (ht : ∀ (s : Shared) (H : Hp) (C : Addr) (cl : List (Str × Addr)) (fp : List Addr), PTsD (X.blk s H scope (PySem.compEnvC scope cl C X.env) fp) τ pt ifs tt)
    (he : ∀ (s : Shared) (H : Hp) (C : Addr) (cl : List (Str × Addr)) (fp : List Addr), PED (X.blk s H scope (PySem.compEnvC scope cl C X.env) fp) τ p elt te) (hok : GbOk gb sl) (hsl : ∀ i ∈ sl, i ∈ own.map (·.2)) (hs : ∀ x, foldedSetIterable iter X.env x = pure x := by intro _; rfl) :
    PEO X τ (pg && (pt && p)) (.ListComp elt [⟨tg, iter, ifs, 0⟩] scope pos) (lcD (own.map (·.2)) g gb tt te) :=
  PE.imp (pe_lc hc hN hi ok hg ht he hs) fun σ H Q hz hl h => lc_imp hok hsl h
theorem psd_setLc {i : Nat} {y : Str} {py : Pos} (hc : X.calm = true) (hN : X.N.Nodup) (hy : X.N[i]? = some y) (hyl : X.env.scope.names.lookup y = some .local) (hsw : swapsWith (.ListComp elt [⟨tg, iter, ifs, 0⟩] scope pos) (some (.Name y py)) spos.line X.env = pure true) (hi : PID X τ pg tg iter g) (ok : BlkOk X.N X.env.scope scope own)
    (hg : ∀ (s : Shared) (H : Hp) (C : Addr) (cl : List (Str × Addr)) (fp : List Addr), PGD (X.blk s H scope (PySem.compEnvC scope cl C X.env) fp) τ sl tg gb) (ht : ∀ (s : Shared) (H : Hp) (C : Addr) (cl : List (Str × Addr)) (fp : List Addr), PTsD (X.blk s H scope (PySem.compEnvC scope cl C X.env) fp) τ pt ifs tt)
    (he : ∀ (s : Shared) (H : Hp) (C : Addr) (cl : List (Str × Addr)) (fp : List Addr), PED (X.blk s H scope (PySem.compEnvC scope cl C X.env) fp) τ p elt te) (hok : GbOk gb sl) (hsl : ∀ i ∈ sl, i ∈ own.map (·.2)) (hs : ∀ x, foldedSetIterable iter X.env x = pure x := by intro _; rfl) :
    PSD X τ (.Assign [.Name y py] (.ListComp elt [⟨tg, iter, ifs, 0⟩] scope pos) spos) (asg i (lcD (own.map (·.2)) g gb tt te)) :=
  PS.imp (ps_setLc hc hN hy hyl hsw hi ok hg ht he hs) fun D σ H hz hl ⟨ρ, B, fp, S, fl, ρ', hf, k⟩ => by
    unfold asg at hf
    split at hf
    · rename_i r ρ1 q
      cases hf
      have hiN : i < σ.length := by rw [hl]; exact (List.getElem?_eq_some_iff.mp hy).1
      have h : tLc (tIt X.K τ pg g) (tTg X.K τ sl gb) (tBool X.K τ pt tt) (tDat X.K τ p te) (own.map (·.2)) σ H (fun v H' => HSz H' → (HSz H' → (σ.set i (some v)).length = X.N.length → D.nx (σ.set i (some v)) H')) :=
        lc_imp (pg := pg) (pt := pt) (p := p) hok hsl ⟨ρ, B, fp, S, r, ρ1, q, fun v H' B' fp' A z1 S1 t1 u1 r1 z hz' hl' => k _ H' B' _ hz' (by simp) (S1.store hiN r1 z) (t1.store z)⟩
      have mono : ∀ (Q Q' : VK), (∀ v H, Q v H → Q' v H) → tLc (tIt X.K τ pg g) (tTg X.K τ sl gb) (tBool X.K τ pt tt) (tDat X.K τ p te) (own.map (·.2)) σ H Q → tLc (tIt X.K τ pg g) (tTg X.K τ sl gb) (tBool X.K τ pt tt) (tDat X.K τ p te) (own.map (·.2)) σ H Q' := by
        intro Q Q' hQ ⟨ρ, B, fp, S, ds, ρ', h1, h2⟩
        refine ⟨ρ, B, fp, S, ds, ρ', h1, fun J H' B' fp' z S t u w D hD => ?_⟩
        obtain ⟨W, w0, w1⟩ := h2 J H' B' fp' z S t u w D hD
        refine ⟨W, w0, fun i m H hw => ?_⟩
        rcases w1 i m H hw with ⟨s1, s2⟩ | s
        · exact .inl ⟨s1, hQ _ _ s2⟩
        · exact .inr s
      exact mono _ _ (fun v H' q hz' hl' => q hz' hz' hl') h
    · cases hf
end

/-! ### a thing one's own, seen as shared -/
def scalD : Dat → Bool
  | .non => true
  | .bl _ => true
  | .int _ => true
  | .str _ => true
  | _ => false
theorem rep_scal {K : PySem.W.Frag} {B B' : Hp} {v : V} {d : Dat} (h : scalD d = true) (r : Rep K B v d) : Rep K B' v d := by
  cases r with
  | non => exact .non
  | bl b => exact .bl b
  | int i => exact .int i
  | str s => exact .str s
  | _ => cases h
theorem repAll_scal {K : PySem.W.Frag} {B B' : Hp} : ∀ {vs : List V} {ds : List Dat}, ds.all scalD = true → RepAll K B vs ds → RepAll K B' vs ds
  | _, _, _, .nil => .nil
  | _, _, h, .cons r rr => by
    obtain ⟨h1, h2⟩ := Bool.and_eq_true_iff.mp h
    exact .cons (rep_scal h1 r) (repAll_scal h2 rr)
def viewE (i : Nat) (ρ : Env) : Env := match ρ[i]? with
  | some (some s) => ρ.set i (some (.sh (frz s)))
  | _ => ρ
def viewM (i : Nat) (f : M Dat) : M Dat := fun ρ => match f (viewE i ρ) with
  | some (d, _) => if scalD d then some (d, ρ) else none
  | none => none
def viewB (i : Nat) (f : M Bool) : M Bool := fun ρ => match f (viewE i ρ) with
  | some (d, _) => some (d, ρ)
  | none => none
def viewO (i : Nat) (f : M Sl) : M Sl := fun ρ => match f (viewE i ρ) with
  | some (.ol none ds, _) => if ds.all scalD then some (.ol none ds, ρ) else none
  | _ => none
section
variable {K : PySem.W.Frag} {τ : List V} {B B' : Hp} {σ : L2.St} {H H' : Hp} {ρ ρ' : Env} {fp fp' : Nat → List Addr}
theorem SR.view (S : SR K τ B σ H ρ fp) (i : Nat) : SR K τ (add B H (fp i)) σ H (viewE i ρ) (fun j => if j = i then [] else fp j) := by
  have nb : ∀ a ∈ fp i, B a = none := S.sep i
  have eb := add_ex (B := B) (H := H) nb
  refine ⟨fun j s q => ?_, fun j q => ?_, fun j k hjk a ha hb => ?_, fun j a ha => ?_, fun a o h => ?_⟩
  · by_cases hj : j = i
    · subst hj
      rw [if_pos rfl]
      unfold viewE at q
      split at q
      · rename_i s0 q0
        have hl : j < ρ.length := (List.getElem?_eq_some_iff.mp q0).1
        rw [List.getElem?_set_self hl] at q
        cases q
        obtain ⟨v, h1, h2⟩ := S.rel j s0 q0
        exact ⟨v, h1, .sh (h2.frz eb fun a ha => add_in ha)⟩
      · rename_i n
        exact absurd q (n s)
    · rw [if_neg hj]
      have q' : ρ[j]? = some (some s) := by
        unfold viewE at q
        split at q
        · rw [List.getElem?_set_ne (Ne.symm hj)] at q; exact q
        · exact q
      obtain ⟨v, h1, h2⟩ := S.rel j s q'
      exact ⟨v, h1, h2.mono eb fun _ _ => rfl⟩
  · by_cases hj : j = i
    · rw [if_pos hj]
    · rw [if_neg hj]
      refine S.emp j fun s z => q s ?_
      unfold viewE
      split
      · rw [List.getElem?_set_ne (Ne.symm hj)]; exact z
      · exact z
  · split at ha
    · simp at ha
    · split at hb
      · simp at hb
      · exact S.dis j k hjk a ha hb
  · split at ha
    · simp at ha
    · rename_i hj
      have n : a ∉ fp i := fun z => S.dis j i hj a ha z
      rw [add_out n]; exact S.sep j a ha
  · by_cases q : a ∈ fp i
    · rw [add_in q] at h; exact h
    · rw [add_out q] at h; exact S.le a o h
end
section
variable {X : Cx} {τ : List V} {p pa pb : Bool} {e a b : Expr} {es : List Expr} {pos : Pos}
theorem ped_view (i : Nat) {f : M Dat} (h : PED X τ true e f) : PED X τ true e (viewM i f) := PE.imp h fun σ H Q hz hl ⟨ρ, B, fp, S, d, ρ', hf, k⟩ => by
  unfold viewM at hf
  split at hf
  · rename_i d' ρ1 q
    split at hf
    · rename_i hs
      cases hf
      refine ⟨_, _, _, S.view i, d, ρ1, q, fun v H' B' fp' z' S' t' u' r' hz2 => ?_⟩
      obtain ⟨x1, x2, x3⟩ := u' rfl
      exact k v H' B fp hz2 (S.ext x1) (Tr.ext x1) (fun _ => ⟨x1, rfl, rfl⟩) (rep_scal hs r')
    · cases hf
  · cases hf
theorem ptd_view (i : Nat) {f : M Bool} (h : PTD X τ true e f) : PTD X τ true e (viewB i f) := PT.imp h fun σ H Q hz hl ⟨ρ, B, fp, S, d, ρ', hf, k⟩ => by
  unfold viewB at hf
  split at hf
  · rename_i d' ρ1 q
    cases hf
    refine ⟨_, _, _, S.view i, d, ρ1, q, fun H' B' fp' z' S' t' u' hz2 => ?_⟩
    obtain ⟨x1, x2, x3⟩ := u' rfl
    exact k H' B fp hz2 (S.ext x1) (Tr.ext x1) fun _ => ⟨x1, rfl, rfl⟩
  · cases hf
/-- a new list of scalars read off it -/
theorem peo_view (i : Nat) {f : M Sl} (h : PEO X τ true e f) : PEO X τ true e (viewO i f) := PE.imp h fun σ H Q hz hl ⟨ρ, B, fp, S, d, ρ', hf, k⟩ => by
  unfold viewO at hf
  split at hf
  · rename_i ds ρ1 q
    split at hf
    · rename_i hs
      cases hf
      refine ⟨_, _, _, S.view i, _, ρ1, q, fun v H' B' fp' A z' S' t' u' r' z hz2 => ?_⟩
      obtain ⟨x1, x2, x3⟩ := u' rfl
      obtain ⟨a, xs, rfl, rfl, h1, h2, h3⟩ := r'.ol_inv
      have hn : H a = none := by
        rcases z.ow a (by simp) with q | q
        · exact absurd q (by rw [← x3]; exact z.nf a (by simp))
        · exact q
      exact k _ H' B fp [a] hz2 (S.ext x1) (Tr.ext x1) (fun _ => ⟨x1, rfl, rfl⟩) (.ol h1 (repAll_scal hs h2) h3) ⟨fun c hc => by simp at hc; subst hc; exact S.nowb hn, fun c hc => by simp at hc; subst hc; exact S.noown hn, fun c hc => by simp at hc; subst hc; exact .inr hn⟩
    · cases hf
  · cases hf
end

/-! ### operations -/
section
variable {K : PySem.W.Frag} {B H : Hp}
theorem Rep.lstH {v : V} {ds : List Dat} (le : Ex B H) (h : Rep K B v (.lst ds)) : ∃ a xs, v = .ref a ∧ H a = some (.lst xs) ∧ RepAll K B xs ds := by
  obtain ⟨a, xs, rfl, q, r⟩ := h.lst_inv
  exact ⟨a, xs, rfl, le a _ q, r⟩
/-- a new object -/
theorem new3 {a : Addr} {o : HO} (le : Ex B H) (h : H a = none) : Ex H (upd H a o) ∧ Ex B (upd B a o) ∧ (∀ c u, upd B a o c = some u → B c = some u ∨ (H c = none ∧ upd H a o c = some u)) := by
  have hb : B a = none := by
    cases q : B a with
    | none => rfl
    | some u => rw [le a u q] at h; cases h
  exact ⟨Ex.new h, Ex.new hb, fun c u z => (new_b c u z).imp id fun ⟨e1, e2⟩ => by subst e1 e2; exact ⟨h, upd_same⟩⟩
end
def addD : Dat → Dat → Option Dat
  | .int i, .int j => some (.int (i + j))
  | .str a, .str b => if a.length + b.length ≤ SZ then some (.str (a ++ b)) else none
  | .lst a, .lst b => if a.length + b.length ≤ SZ then some (.lst (a ++ b)) else none
  | .tup a, .tup b => if a.length + b.length ≤ SZ then some (.tup (a ++ b)) else none
  | _, _ => none
def rAddU (K : PySem.W.Frag) : R2 := fun x y H Q => (rI0 (fun i j => .int (i + j)) x y H Q ∨ (∃ i j, x = .str i ∧ y = .str j ∧ i.length + j.length ≤ sizeLine ∧ Q (.str (i ++ j)) H)) ∨ (rCat x y H Q ∨ rCatA K x y H Q)
section
variable {X : Cx}
theorem op_addU : OpR X (binaryOp .Add) (rAddU X.K) := OpR.or (OpR.or op_add op_add_str) (OpR.or op_cat op_catA)
theorem addD_ok {K : PySem.W.Frag} : OpD K (rAddU K) addD := fun B H x y dx dy dz Q hz le rx ry hg k => by
  cases dx with
  | int i =>
    cases dy with
    | int j =>
      cases hg
      rw [rx.int_inv, ry.int_inv]
      exact .inl (.inl ⟨i, j, rfl, rfl, k _ H B (Ex.refl _) (Ex.refl _) (fun _ _ z => .inl z) (.int _)⟩)
    | _ => cases hg
  | str i =>
    cases dy with
    | str j =>
      have hg : (if i.length + j.length ≤ SZ then some (Dat.str (i ++ j)) else none) = some dz := hg
      split at hg
      · rename_i hs
        cases hg
        rw [rx.str_inv, ry.str_inv]
        exact .inl (.inr ⟨i, j, rfl, rfl, by rw [sizeLine_eq]; exact hs, k _ H B (Ex.refl _) (Ex.refl _) (fun _ _ z => .inl z) (.str _)⟩)
      · cases hg
    | _ => cases hg
  | lst as =>
    cases dy with
    | lst bs =>
      have hg : (if as.length + bs.length ≤ SZ then some (Dat.lst (as ++ bs)) else none) = some dz := hg
      split at hg
      · rename_i hs
        cases hg
        obtain ⟨a, xs, rfl, h1, r1⟩ := rx.lstH le
        obtain ⟨b, ys, rfl, h2, r2⟩ := ry.lstH le
        refine .inr (.inl ⟨a, b, xs, ys, rfl, rfl, h1, h2, by rw [sizeLine_eq, r1.length, r2.length]; exact hs, fun c hc => ?_⟩)
        obtain ⟨n1, n2, n3⟩ := new3 (o := .lst (xs ++ ys)) le hc
        exact k _ _ _ n1 n2 n3 (.lst upd_same ((r1.append r2).mono n2))
      · cases hg
    | _ => cases hg
  | tup as =>
    cases dy with
    | tup bs =>
      have hg : (if as.length + bs.length ≤ SZ then some (Dat.tup (as ++ bs)) else none) = some dz := hg
      split at hg
      · rename_i hs
        cases hg
        obtain ⟨a, xs, rfl, h1, r1⟩ := rx.tup_inv
        obtain ⟨b, ys, rfl, h2, r2⟩ := ry.tup_inv
        refine .inr (.inr ⟨a, b, xs, ys, rfl, rfl, ex_t le h1, ex_t le h2, by rw [sizeLine_eq, r1.length, r2.length]; exact hs, fun e => ?_, fun _ e => ?_, fun _ _ c hc => ?_⟩)
        · subst e
          cases r1
          exact k _ H B (Ex.refl _) (Ex.refl _) (fun _ _ z => .inl z) (.tup h2 r2)
        · subst e
          cases r2
          exact k _ H B (Ex.refl _) (Ex.refl _) (fun _ _ z => .inl z) (by rw [List.append_nil]; exact .tup h1 r1)
        · obtain ⟨n1, n2, n3⟩ := new3 (o := .tup (xs ++ ys)) le hc
          exact k _ _ _ n1 n2 n3 (.tup (.inl (.inl upd_same)) ((r1.append r2).mono n2))
      · cases hg
    | _ => cases hg
  | _ => cases dy <;> cases hg
/-- ints alone -/
def intD (C : Int → Int → Prop) [∀ i j, Decidable (C i j)] (g : Int → Int → Dat) : Dat → Dat → Option Dat
  | .int i, .int j => if C i j then some (g i j) else none
  | _, _ => none
theorem intD_ok {K : PySem.W.Frag} {C C' : Int → Int → Prop} [∀ i j, Decidable (C i j)] {g : Int → Int → V} {g' : Int → Int → Dat} (hC : ∀ i j, C i j → C' i j) (hg : ∀ B i j, Rep K B (g i j) (g' i j)) : OpD K (rI C' g) (intD C g') := fun B H x y dx dy dz Q hz le rx ry h k => by
  cases dx with
  | int i =>
    cases dy with
    | int j =>
      have h : (if C i j then some (g' i j) else none) = some dz := h
      split at h
      · rename_i hc
        cases h
        rw [rx.int_inv, ry.int_inv]
        exact ⟨i, j, rfl, rfl, hC i j hc, k _ H B (Ex.refl _) (Ex.refl _) (fun _ _ z => .inl z) (hg B i j)⟩
      · cases h
    | _ => cases h
  | _ => cases h
def intD0 (g : Int → Int → Dat) : Dat → Dat → Option Dat
  | .int i, .int j => some (g i j)
  | _, _ => none
theorem intD0_ok {K : PySem.W.Frag} {g : Int → Int → V} {g' : Int → Int → Dat} (hg : ∀ B i j, Rep K B (g i j) (g' i j)) : OpD K (rI0 g) (intD0 g') := fun B H x y dx dy dz Q hz le rx ry h k => by
  cases dx with
  | int i =>
    cases dy with
    | int j =>
      cases h
      rw [rx.int_inv, ry.int_inv]
      exact ⟨i, j, rfl, rfl, k _ H B (Ex.refl _) (Ex.refl _) (fun _ _ z => .inl z) (hg B i j)⟩
    | _ => cases h
  | _ => cases h
abbrev subD := intD0 fun i j => .int (i - j)
abbrev modD := intD (fun _ j => 0 < j) fun i j => .int (i % j)
abbrev fdvD := intD (fun _ j => 0 < j ∧ j < 9223372036854775808) fun i j => .int (i / j)
abbrev powD := intD (fun i j => (0 ≤ j ∧ j ≤ 1000000) ∧ i.natAbs < 18446744073709551616) fun i j => .int (i ^ j.toNat)
abbrev ltD := intD0 fun i j => .bl (decide (i < j))
abbrev leD := intD0 fun i j => .bl (decide (i ≤ j))
abbrev gtD := intD0 fun i j => .bl (decide (j < i))
abbrev geD := intD0 fun i j => .bl (decide (j ≤ i))
theorem subD_ok {K : PySem.W.Frag} : OpD K (rI0 fun i j => .int (i - j)) subD := intD0_ok fun _ _ _ => .int _
theorem modD_ok {K : PySem.W.Frag} : OpD K (rI (fun _ j => 0 < j) fun i j => .int (i % j)) modD := intD_ok (fun _ _ h => h) fun _ _ _ => .int _
theorem fdvD_ok {K : PySem.W.Frag} : OpD K (rI CDivW fun i j => .int (i / j)) fdvD := intD_ok (fun _ j h => ⟨h.1, by
  have : j.natAbs < 2 ^ 63 := by have := h.1; have := h.2; omega
  have := PySem.Flt.log2_lt_of (by decide) this
  omega⟩) fun _ _ _ => .int _
theorem powD_ok {K : PySem.W.Frag} : OpD K (rI CPow fun i j => .int (i ^ j.toNat)) powD := intD_ok (fun _ _ h => ⟨h.1.1, h.1.2, h.2⟩) fun _ _ _ => .int _
theorem ltD_ok {K : PySem.W.Frag} : OpD K (rI0 fun i j => .bl (decide (i < j))) ltD := intD0_ok fun _ _ _ => .bl _
theorem leD_ok {K : PySem.W.Frag} : OpD K (rI0 fun i j => .bl (decide (i ≤ j))) leD := intD0_ok fun _ _ _ => .bl _
theorem gtD_ok {K : PySem.W.Frag} : OpD K (rI0 fun i j => .bl (decide (j < i))) gtD := intD0_ok fun _ _ _ => .bl _
theorem geD_ok {K : PySem.W.Frag} : OpD K (rI0 fun i j => .bl (decide (j ≤ i))) geD := intD0_ok fun _ _ _ => .bl _
/-- a product; a list so many times -/
def mulD : Dat → Dat → Option Dat
  | .int i, .int j => if (-18446744073709551616 < i ∧ i < 18446744073709551616) ∨ (-18446744073709551616 < j ∧ j < 18446744073709551616) then some (.int (i * j)) else none
  | .lst as, .int k => if (-9223372036854775808 ≤ k ∧ k < 9223372036854775808) ∧ as.length * k.toNat ≤ SZ then some (.lst (List.replicate k.toNat as).flatten) else none
  | _, _ => none
def rMulU : R2 := fun x y H Q => rI CMul (fun i j => .int (i * j)) x y H Q ∨ rRep x y H Q
theorem op_mulU : OpR X (binaryOp .Mult) rMulU := OpR.or op_mul op_rep
theorem RepAll.rep {K : PySem.W.Frag} {H : Hp} {vs : List V} {ds : List Dat} (r : RepAll K H vs ds) : ∀ n : Nat, RepAll K H (List.replicate n vs).flatten (List.replicate n ds).flatten
  | 0 => .nil
  | n + 1 => by
    rw [List.replicate_succ, List.replicate_succ, List.flatten_cons, List.flatten_cons]
    exact r.append (r.rep n)
theorem mulD_ok {K : PySem.W.Frag} : OpD K rMulU mulD := fun B H x y dx dy dz Q hz le rx ry h k => by
  cases dx with
  | int i =>
    cases dy with
    | int j =>
      have h : (if (-18446744073709551616 < i ∧ i < 18446744073709551616) ∨ (-18446744073709551616 < j ∧ j < 18446744073709551616) then some (Dat.int (i * j)) else none) = some dz := h
      split at h
      · rename_i hc
        cases h
        rw [rx.int_inv, ry.int_inv]
        exact .inl ⟨i, j, rfl, rfl, hc, k _ H B (Ex.refl _) (Ex.refl _) (fun _ _ z => .inl z) (.int _)⟩
      · cases h
    | _ => cases h
  | lst as =>
    cases dy with
    | int j =>
      have h : (if (-9223372036854775808 ≤ j ∧ j < 9223372036854775808) ∧ as.length * j.toNat ≤ SZ then some (Dat.lst (List.replicate j.toNat as).flatten) else none) = some dz := h
      split at h
      · rename_i hc
        cases h
        obtain ⟨a, xs, rfl, h1, r1⟩ := rx.lstH le
        rw [ry.int_inv]
        refine .inr ⟨a, j, xs, rfl, rfl, h1, by omega, by omega, by rw [sizeLine_eq, r1.length]; exact hc.2, fun c hc => ?_⟩
        obtain ⟨n1, n2, n3⟩ := new3 (o := .lst (List.replicate j.toNat xs).flatten) le hc
        exact k _ _ _ n1 n2 n3 (.lst upd_same ((r1.rep _).mono n2))
      · cases h
    | _ => cases h
  | _ => cases h
end
end DL

set_option Elab.async false
set_option linter.all false
set_option maxRecDepth 100000
set_option maxHeartbeats 2000000
namespace DL
open PySem L2

/-! ### displays -/
section
variable {X : Cx} {τ : List V} {p pa pb pc : Bool} {e a b c : Expr} {es : List Expr} {pos q q2 : Pos} {f fb : M Dat} {fa : M (List Dat)}
def lstM (f : M (List Dat)) : M Sl := bnd f fun ds => if ds.length ≤ SZ then ret (.ol none ds) else fun _ => none
def tupM (f : M (List Dat)) : M Dat := bnd f fun ds => if ds.length ≤ SZ then ret (.tup ds) else fun _ => none
theorem Sep.new {K : PySem.W.Frag} {B H B1 H1 : Hp} {σ : L2.St} {ρ : Env} {fp fp1 : Nat → List Addr} (S1 : SR K τ B1 σ H1 ρ fp1) (t1 : Tr B H fp B1 H1 fp1) {c : Addr} (hc : H1 c = none) : Sep B H fp B1 fp1 [c] :=
  ⟨fun x hx => by simp at hx; subst hx; exact S1.nowb hc, fun x hx => by simp at hx; subst hx; exact S1.noown hc, fun x hx => by
    simp at hx; subst hx
    cases h : H x with
    | none => exact .inr rfl
    | some o =>
      by_cases w : own fp x
      · exact .inl w
      · rw [t1.fr x o h w] at hc; cases hc⟩
theorem peo_list (h : PAD X τ p es fa) : PEO X τ p (.List es pos) (lstM fa) := PE.imp (pe_lst h) fun σ H Q hz _ ⟨ρ, B, fp, S, r, ρ', hf, k⟩ => by
  obtain ⟨ds, ρ1, h1, h2⟩ := bnd_some hf
  split at h2
  · rename_i hs
    cases h2
    refine ⟨ρ, B, fp, S, ds, ρ', h1, fun vs H1 B1 fp1 z1 S1 t1 u1 r1 => ⟨by rw [sizeLine_eq, r1.length]; exact hs, fun c hc hz' => ?_⟩⟩
    exact k _ _ B1 fp1 [c] hz' (S1.ext (Ex.new hc)) (t1.trans (Tr.ext (Ex.new hc))) (fun h => ⟨(u1 h).ex.trans (Ex.new hc), (u1 h).er, (u1 h).ef⟩) (.ol upd_same r1 fun _ z => nomatch z) (Sep.new S1 t1 hc)
  · cases h2
theorem ped_tup (h : PAD X τ p es fa) {k0 : Nat} : PED X τ p (.Tuple es k0 pos) (tupM fa) := PE.imp (pe_tup h) fun σ H Q hz _ ⟨ρ, B, fp, S, r, ρ', hf, k⟩ => by
  obtain ⟨ds, ρ1, h1, h2⟩ := bnd_some hf
  split at h2
  · rename_i hs
    cases h2
    refine ⟨ρ, B, fp, S, ds, ρ', h1, fun vs H1 B1 fp1 z1 S1 t1 u1 r1 => ⟨by rw [sizeLine_eq, r1.length]; exact hs, fun c hc hz' => ?_⟩⟩
    obtain ⟨n1, n2, n3⟩ := new3 (o := .tup vs) S1.le hc
    exact k _ _ _ fp1 hz' (S1.grow n1 n2 n3) (t1.trans (Tr.new n1 n2 n3)) (fun h => ⟨(u1 h).ex.trans n1, (u1 h).er, (u1 h).ef⟩) (.tup (.inl (.inl upd_same)) (r1.mono n2))
  · cases h2
/-- [*xs, ..] -/
def starA (f : M Dat) (g : M (List Dat)) : M (List Dat) := bnd f fun d => bnd (lift (match d with | .lst ds => some ds | .tup ds => some ds | _ => none)) fun xs => bnd g fun ys => ret (xs ++ ys)
theorem pad_star (he : PED X τ pa e f) (ht : PAD X τ pb es fa) (hs : starEach (.Starred e q :: es) X.env = (true, eval e X.env) :: starEach es X.env := by rfl) : PAD X τ (pa && pb) (.Starred e q :: es) (starA f fa) :=
  PA.imp (StX.pa_star he ht hs) fun σ H Q hz _ ⟨ρ, B, fp, S, r, ρ', hf, k⟩ => by
    obtain ⟨d, ρ1, h1, g1⟩ := bnd_some hf
    obtain ⟨xs, ρ2, g2, g3⟩ := bnd_some g1
    obtain ⟨h2, e2⟩ := lift_some g2
    subst e2
    obtain ⟨ys, ρ3, h3, h4⟩ := bnd_some g3
    cases h4
    refine ⟨ρ, B, fp, S, d, _, h1, fun v1 H1 B1 fp1 z1 S1 t1 u1 r1 => ?_⟩
    have fin : ∀ {us : List V}, RepAll X.K B1 us xs → tAll X.K τ pb fa σ H1 fun ys H2 => HSz H2 → Q (us ++ ys) H2 := fun {us} ru =>
      ⟨_, B1, fp1, S1, ys, _, h3, fun vs H2 B2 fp2 z2 S2 t2 u2 r2 hz' => k _ H2 B2 fp2 hz' S2 (t1.trans t2) (pu_and u1 u2) ((ru.mono t2.ex).append r2)⟩
    cases d with
    | lst ds =>
      cases h2
      obtain ⟨a, us, rfl, q1, q2⟩ := r1.lst_inv
      exact ⟨a, us, rfl, .inr (.inl (.inl (S1.le _ _ q1))), fin q2⟩
    | tup ds =>
      cases h2
      obtain ⟨a, us, rfl, q1, q2⟩ := r1.tup_inv
      exact ⟨a, us, rfl, .inl (ex_t S1.le q1), fin q2⟩
    | _ => cases h2

/-! ### a one-place operation -/
def un (g : Dat → Option Dat) (f : M Dat) : M Dat := bnd f fun x => lift (g x)
def UnD (K : PySem.W.Frag) (r : V → Hp → VK → Prop) (g : Dat → Option Dat) : Prop := ∀ (B H : Hp) (x : V) (dx dz : Dat) (Q : VK), HSz H → Ex B H → Rep K B x dx → g dx = some dz →
  (∀ v H' B', Ex H H' → Ex B B' → (∀ a o, B' a = some o → B a = some o ∨ (H a = none ∧ H' a = some o)) → Rep K B' v dz → Q v H') → r x H Q
theorem ped_un {op : UnaryOp} {r : V → Hp → VK → Prop} {g : Dat → Option Dat} (ho : UnR X (unaryOp op) r) (hd : UnD X.K r g) (ha : PED X τ p a f) : PED X τ p (.UnaryOp op a pos) (un g f) :=
  PE.imp (pe_un ho ha) fun σ H Q hz _ ⟨ρ, B, fp, S, d, ρ', hf, k⟩ => by
    obtain ⟨x, ρ1, h1, hf⟩ := bnd_some hf
    obtain ⟨h3, rfl⟩ := lift_some hf
    refine ⟨ρ, B, fp, S, x, _, h1, fun v1 H1 B1 fp1 z1 S1 t1 u1 r1 => hd B1 H1 v1 x d _ z1 S1.le r1 h3 fun v H' B' ex eb nb r hz' => ?_⟩
    exact k v H' B' fp1 hz' (S1.grow ex eb nb) (t1.trans (Tr.new ex eb nb)) (fun h => ⟨(u1 h).ex.trans ex, (u1 h).er, (u1 h).ef⟩) r
def negD : Dat → Option Dat
  | .int i => some (.int (-i))
  | _ => none
theorem ped_neg (ha : PED X τ p a f) : PED X τ p (.UnaryOp .USub a pos) (un negD f) := ped_un un_neg (fun B H x dx dz Q hz le r h k => by
  cases dx with
  | int i => cases h; exact ⟨i, r.int_inv, k _ H B (Ex.refl _) (Ex.refl _) (fun _ _ z => .inl z) (.int _)⟩
  | _ => cases h) ha

/-! ### tests -/
theorem ptd_val {fe : M Dat} (h : PED X τ p e fe) (he : ∀ whole, isTrue e X.env whole = (do let v ← whole; standAt e.pos; holding [v] (truthy v)) := by intro _; rfl) : PTD X τ p e (tst fe) :=
  PT.imp (pt_val h he) fun σ H Q hz _ ⟨ρ, B, fp, S, c, ρ', hf, k⟩ => ⟨ρ, B, fp, S, .bl c, ρ', tst_some hf, fun v H' B' fp' hz' S' t' u' r' => ⟨c, r'.bl_inv, fun hz2 => k H' B' fp' hz2 S' t' u'⟩⟩
def notB (f : M Bool) : M Bool := bnd f fun b => ret (!b)
theorem ptd_not {fc : M Bool} (h : PTD X τ p a fc) : PTD X τ p (.UnaryOp .Not a pos) (notB fc) := PT.imp (pt_not h) fun σ H Q hz _ ⟨ρ, B, fp, S, c, ρ', hf, k⟩ => by
  obtain ⟨b, ρ1, h1, h2⟩ := bnd_some hf
  cases h2
  exact ⟨ρ, B, fp, S, b, ρ', h1, fun H' B' fp' z' S' t' u' hz2 => k H' B' fp' hz2 S' t' u'⟩
def andB (f g : M Bool) : M Bool := bnd f fun b => if b = true then g else ret false
def orB (f g : M Bool) : M Bool := bnd f fun b => if b = true then ret true else g
abbrev PWD (X : Cx) (τ : List V) (p : Bool) (e : Expr) (f : M Bool) : Prop := PW X e (tBool X.K τ p f)
theorem PW.imp {X : Cx} {e : Expr} {t t' : TT} (h : PW X e t) (k : ∀ σ H Q, HSz H → σ.length = X.N.length → t' σ H Q → t σ H (fun v H' => HSz H' → Q v H')) : PW X e t' :=
  ⟨fun wh pins s σ H Q I q => wpAny_mono (h.run wh pins s σ H _ I (k σ H Q (hsz_of I.hok) I.len q)) (fun _ _ ⟨H', I', q⟩ => ⟨H', I', q (hsz_of I'.hok)⟩) fun _ _ z => z⟩
variable {rest : List Expr} {fc fd : M Bool}
theorem pwd_and1 (h : PTD X τ p a fc) : PWD X τ p (.BoolOp .And [a] pos) fc := pw_and1 h
theorem pwd_or1 (h : PTD X τ p a fc) : PWD X τ p (.BoolOp .Or [a] pos) fc := pw_or1 h
theorem pwd_and (h1 : PTD X τ pa a fc) (h2 : PWD X τ pb (.BoolOp .And (b :: rest) pos) fd) : PWD X τ (pa && pb) (.BoolOp .And (a :: b :: rest) pos) (andB fc fd) :=
  PW.imp (pw_and h1 h2) fun σ H Q hz _ ⟨ρ, B, fp, S, c, ρ', hf, k⟩ => by
    obtain ⟨b, ρ1, g1, g2⟩ := bnd_some hf
    refine ⟨ρ, B, fp, S, b, ρ1, g1, fun H1 B1 fp1 z1 S1 t1 u1 => ?_⟩
    cases b with
    | true => exact ⟨ρ1, B1, fp1, S1, c, ρ', g2, fun H2 B2 fp2 z2 S2 t2 u2 hz2 => k H2 B2 fp2 hz2 S2 (t1.trans t2) (pu_and u1 u2)⟩
    | false => cases g2; exact fun hz2 => k H1 B1 fp1 hz2 S1 t1 fun h => u1 (Bool.and_eq_true_iff.mp h).1
theorem pwd_or (h1 : PTD X τ pa a fc) (h2 : PWD X τ pb (.BoolOp .Or (b :: rest) pos) fd) : PWD X τ (pa && pb) (.BoolOp .Or (a :: b :: rest) pos) (orB fc fd) :=
  PW.imp (pw_or h1 h2) fun σ H Q hz _ ⟨ρ, B, fp, S, c, ρ', hf, k⟩ => by
    obtain ⟨b, ρ1, g1, g2⟩ := bnd_some hf
    refine ⟨ρ, B, fp, S, b, ρ1, g1, fun H1 B1 fp1 z1 S1 t1 u1 => ?_⟩
    cases b with
    | false => exact ⟨ρ1, B1, fp1, S1, c, ρ', g2, fun H2 B2 fp2 z2 S2 t2 u2 hz2 => k H2 B2 fp2 hz2 S2 (t1.trans t2) (pu_and u1 u2)⟩
    | true => cases g2; exact fun hz2 => k H1 B1 fp1 hz2 S1 t1 fun h => u1 (Bool.and_eq_true_iff.mp h).1
theorem PWD.pt (h : PWD X τ p e fc) : PTD X τ p e fc := PW.pt h
/-! .. as values: truth values -/
def bolD (f : M Bool) : M Dat := bnd f fun b => ret (.bl b)
theorem ped_one {op} {fe : M Dat} (h : PED X τ p a fe) : PED X τ p (.BoolOp op [a] pos) fe := pe_one h
theorem ped_and {f g : M Dat} (h1 : PED X τ pa a f) (h2 : PED X τ pb (.BoolOp .And (b :: rest) pos) g) : PED X τ (pa && pb) (.BoolOp .And (a :: b :: rest) pos) (bnd (tst f) fun c => if c = true then g else ret (.bl false)) :=
  PE.imp (pe_and h1 h2) fun σ H Q hz _ ⟨ρ, B, fp, S, c, ρ', hf, k⟩ => by
    obtain ⟨b, ρ1, g1, g2⟩ := bnd_some hf
    refine ⟨ρ, B, fp, S, .bl b, ρ1, tst_some g1, fun v H1 B1 fp1 z1 S1 t1 u1 r1 => ⟨b, r1.bl_inv, ?_⟩⟩
    cases b with
    | true => exact ⟨ρ1, B1, fp1, S1, c, ρ', g2, fun v2 H2 B2 fp2 z2 S2 t2 u2 r2 hz2 => k v2 H2 B2 fp2 hz2 S2 (t1.trans t2) (pu_and u1 u2) r2⟩
    | false => cases g2; exact fun hz2 => k _ H1 B1 fp1 hz2 S1 t1 (fun h => u1 (Bool.and_eq_true_iff.mp h).1) (.bl _)
theorem ped_or {f g : M Dat} (h1 : PED X τ pa a f) (h2 : PED X τ pb (.BoolOp .Or (b :: rest) pos) g) : PED X τ (pa && pb) (.BoolOp .Or (a :: b :: rest) pos) (bnd (tst f) fun c => if c = true then ret (.bl true) else g) :=
  PE.imp (pe_or h1 h2) fun σ H Q hz _ ⟨ρ, B, fp, S, c, ρ', hf, k⟩ => by
    obtain ⟨b, ρ1, g1, g2⟩ := bnd_some hf
    refine ⟨ρ, B, fp, S, .bl b, ρ1, tst_some g1, fun v H1 B1 fp1 z1 S1 t1 u1 r1 => ⟨b, r1.bl_inv, ?_⟩⟩
    cases b with
    | false => exact ⟨ρ1, B1, fp1, S1, c, ρ', g2, fun v2 H2 B2 fp2 z2 S2 t2 u2 r2 hz2 => k v2 H2 B2 fp2 hz2 S2 (t1.trans t2) (pu_and u1 u2) r2⟩
    | true => cases g2; exact fun hz2 => k _ H1 B1 fp1 hz2 S1 t1 (fun h => u1 (Bool.and_eq_true_iff.mp h).1) (.bl _)
theorem ped_not {f : M Dat} (h1 : PED X τ p a f) : PED X τ p (.UnaryOp .Not a pos) (bnd (tst f) fun c => ret (.bl (!c))) :=
  PE.imp (pe_not h1) fun σ H Q hz _ ⟨ρ, B, fp, S, c, ρ', hf, k⟩ => by
    obtain ⟨b, ρ1, g1, g2⟩ := bnd_some hf
    cases g2
    exact ⟨ρ, B, fp, S, .bl b, ρ', tst_some g1, fun v H1 B1 fp1 z1 S1 t1 u1 r1 => ⟨b, r1.bl_inv, fun hz2 => k _ H1 B1 fp1 hz2 S1 t1 u1 (.bl _)⟩⟩
/-- e1 if c else e2 -/
def ifM {α : Type} (c : M Bool) (f g : M α) : M α := bnd c fun b => if b = true then f else g
theorem ped_if {fc : M Bool} {f g : M Dat} (hc : PTD X τ pc c fc) (h1 : PED X τ pa a f) (h2 : PED X τ pb b g) : PED X τ (pc && (pa && pb)) (.IfExp c a b pos) (ifM fc f g) :=
  PE.imp (pe_ifExp hc h1 h2) fun σ H Q hz _ ⟨ρ, B, fp, S, d, ρ', hf, k⟩ => by
    obtain ⟨bb, ρ1, g1, g2⟩ := bnd_some hf
    refine ⟨ρ, B, fp, S, bb, ρ1, g1, fun H1 B1 fp1 z1 S1 t1 u1 => ?_⟩
    have pr : ∀ h : (pc && (pa && pb)) = true, pc = true ∧ pa = true ∧ pb = true := fun h => by
      obtain ⟨h1, h2⟩ := Bool.and_eq_true_iff.mp h
      obtain ⟨h2, h3⟩ := Bool.and_eq_true_iff.mp h2
      exact ⟨h1, h2, h3⟩
    cases bb with
    | true => exact ⟨ρ1, B1, fp1, S1, d, ρ', g2, fun v2 H2 B2 fp2 z2 S2 t2 u2 r2 hz2 => k v2 H2 B2 fp2 hz2 S2 (t1.trans t2) (fun h => (u1 (pr h).1).trans (u2 (pr h).2.1)) r2⟩
    | false => exact ⟨ρ1, B1, fp1, S1, d, ρ', g2, fun v2 H2 B2 fp2 z2 S2 t2 u2 r2 hz2 => k v2 H2 B2 fp2 hz2 S2 (t1.trans t2) (fun h => (u1 (pr h).1).trans (u2 (pr h).2.2)) r2⟩
theorem peo_if {fc : M Bool} {f g : M Sl} (hc : PTD X τ pc c fc) (h1 : PEO X τ pa a f) (h2 : PEO X τ pb b g) : PEO X τ (pc && (pa && pb)) (.IfExp c a b pos) (ifM fc f g) :=
  PE.imp (pe_ifExp hc h1 h2) fun σ H Q hz _ ⟨ρ, B, fp, S, d, ρ', hf, k⟩ => by
    obtain ⟨bb, ρ1, g1, g2⟩ := bnd_some hf
    refine ⟨ρ, B, fp, S, bb, ρ1, g1, fun H1 B1 fp1 z1 S1 t1 u1 => ?_⟩
    have pr : ∀ h : (pc && (pa && pb)) = true, pc = true ∧ pa = true ∧ pb = true := fun h => by
      obtain ⟨h1, h2⟩ := Bool.and_eq_true_iff.mp h
      obtain ⟨h2, h3⟩ := Bool.and_eq_true_iff.mp h2
      exact ⟨h1, h2, h3⟩
    cases bb with
    | true => exact ⟨ρ1, B1, fp1, S1, d, ρ', g2, fun v2 H2 B2 fp2 A z2 S2 t2 u2 r2 z hz2 => k v2 H2 B2 fp2 A hz2 S2 (t1.trans t2) (fun h => (u1 (pr h).1).trans (u2 (pr h).2.1)) r2 (z.back t1)⟩
    | false => exact ⟨ρ1, B1, fp1, S1, d, ρ', g2, fun v2 H2 B2 fp2 A z2 S2 t2 u2 r2 z hz2 => k v2 H2 B2 fp2 A hz2 S2 (t1.trans t2) (fun h => (u1 (pr h).1).trans (u2 (pr h).2.2)) r2 (z.back t1)⟩

/-! ### attributes -/
def fldD (c f : Str) : Dat → Option Dat
  | .ins c' fs => if c' = c then fs.lookup f else none
  | _ => none
theorem ped_fld {nm at_ : Str} {fe : M Dat} (hc : Cls X.K (He.ga X.K nm)) (hn : NoAttr X.K (He.ga X.K nm) at_) (he : PED X τ p e fe) (hb : attributeBase e at_ X.env (eval e X.env) = eval e X.env) : PED X τ p (.Attribute e at_ pos) (un (fldD nm at_) fe) :=
  PE.imp (pe_fld he hb) fun σ H Q hz _ ⟨ρ, B, fp, S, d, ρ', hf, k⟩ => by
    obtain ⟨x, ρ1, h1, hf⟩ := bnd_some hf
    obtain ⟨h3, rfl⟩ := lift_some hf
    refine ⟨ρ, B, fp, S, x, _, h1, fun v1 H1 B1 fp1 z1 S1 t1 u1 r1 => ?_⟩
    cases x with
    | ins c' fs =>
      have h4 : (if c' = nm then fs.lookup at_ else none) = some d := h3
      by_cases hcn : c' = nm
      · rw [if_pos hcn] at h4
        subst hcn
        obtain ⟨a, dx, fvs, rfl, q1, q2⟩ := r1.ins_inv
        obtain ⟨v, q3, q4⟩ := q2.lookup h4
        exact ⟨a, _, dx, fvs, v, rfl, S1.le _ _ q1, hc, hn, q3, fun hz' => k v H1 B1 fp1 hz' S1 t1 u1 q4⟩
      · rw [if_neg hcn] at h4; cases h4
    | _ => cases h3
/-- of the object that slot i owns -/
def fldO (i : Nat) (nm at_ : Str) : M Dat := fun ρ => match ρ[i]? with
  | some (some (.oo _ c fs)) => if c = nm then (match fs.lookup at_ with
    | some (.sh d) => some (d, ρ)
    | _ => none) else none
  | _ => none
theorem RepSF.lookup {K : PySem.W.Frag} {B H : Hp} {f : Str} : ∀ {fvs : List (Str × V)} {fs : List (Str × Sl)} {A : List Addr} {s : Sl}, RepSF K τ B H fvs fs A → fs.lookup f = some s → ∃ v A', fvs.lookup f = some v ∧ RepS K τ B H v s A' ∧ ∀ a ∈ A', a ∈ A
  | _, _, _, _, .nil, h => by simp at h
  | _, _, _, s, .cons (f := g) r rr dd, h => by
    by_cases q : (f == g) = true
    · simp only [List.lookup, q] at h ⊢
      cases h; exact ⟨_, _, rfl, r, fun a ha => List.mem_append_left _ ha⟩
    · have q : (f == g) = false := by simpa using q
      simp only [List.lookup, q] at h ⊢
      obtain ⟨v, A', h1, h2, h3⟩ := RepSF.lookup rr h
      exact ⟨v, A', h1, h2, fun a ha => List.mem_append_right _ (h3 a ha)⟩
theorem RepSF.none {K : PySem.W.Frag} {B H : Hp} {f : Str} : ∀ {fvs : List (Str × V)} {fs : List (Str × Sl)} {A : List Addr}, RepSF K τ B H fvs fs A → fs.lookup f = none → fvs.lookup f = none
  | _, _, _, .nil, h => rfl
  | _, _, _, .cons (f := g) r rr dd, h => by
    by_cases q : (f == g) = true
    · simp only [List.lookup, q] at h; cases h
    · have q : (f == g) = false := by simpa using q
      simp only [List.lookup, q] at h ⊢
      exact RepSF.none rr h
theorem ped_fldO (i : Nat) {nm at_ x : Str} (hc : Cls X.K (He.ga X.K nm)) (hn : NoAttr X.K (He.ga X.K nm) at_) (h : PE X (.Name x q) (tVar i)) (hb : attributeBase (.Name x q) at_ X.env (eval (.Name x q) X.env) = eval (.Name x q) X.env) : PED X τ true (.Attribute (.Name x q) at_ pos) (fldO i nm at_) :=
  PE.imp (pe_fld h hb) fun σ H Q hz _ ⟨ρ, B, fp, S, d, ρ', hf, k⟩ => by
    unfold fldO at hf
    split at hf
    · rename_i t c fs q0
      split at hf
      · rename_i hcn
        subst hcn
        split at hf
        · rename_i d0 q1
          cases hf
          obtain ⟨v, h1, h2⟩ := S.rel _ _ q0
          obtain ⟨a, dx, fvs, A', rfl, e1, q2, q3, _⟩ := h2.oo_inv
          obtain ⟨u, A2, q4, q5, _⟩ := q3.lookup q1
          exact ⟨_, h1, a, _, dx, fvs, u, rfl, q2, hc, hn, q4, fun hz' => k u H B fp hz' S Tr.refl (fun _ => Pu.refl) q5.sh_inv.2⟩
        · cases hf
      · cases hf
    · cases hf
end
end DL

set_option Elab.async false
set_option linter.all false
set_option maxRecDepth 100000
set_option maxHeartbeats 2000000
namespace DL
open PySem L2

/-! ### data compared -/
mutual
def toPy : Dat → Option PyData
  | .non => some .none
  | .bl b => some (.bool b)
  | .int i => some (.int i)
  | .str s => some (.str s)
  | .lst ds => (toPyL ds).map .list
  | .lsf ds => (toPyL ds).map .list
  | .tup ds => (toPyL ds).map .tuple
  | .tuf ds => (toPyL ds).map .tuple
  | _ => none
def toPyL : List Dat → Option (List PyData)
  | [] => some []
  | d :: ds => match toPy d, toPyL ds with
    | some p, some ps => some (p :: ps)
    | _, _ => none
end
section
variable {K : PySem.W.Frag} {B H : Hp}
theorem ex_rdH {a : Addr} {xs : List V} (le : Ex B H) (h : B a = some (.lst xs)) : SqL K H a xs := .inl (.inl (le a _ h))
mutual
theorem rep_dp (le : Ex B H) : ∀ {v : V} {d : Dat} {p : PyData}, Rep K B v d → toPy d = some p → Dp K H v p
  | _, _, _, .non, h => by rw [toPy] at h; cases h; exact .non
  | _, _, _, .bl b, h => by rw [toPy] at h; cases h; exact .bl b
  | _, _, _, .int b, h => by rw [toPy] at h; cases h; exact .int b
  | _, _, _, .str b, h => by rw [toPy] at h; cases h; exact .str b
  | _, _, _, .lst q r, h => by
    rw [toPy] at h
    obtain ⟨ps, h1, rfl⟩ := Option.map_eq_some_iff.mp h
    exact .lst (ex_rdH le q) (repAll_dp le r h1)
  | _, _, _, .lsf q r, h => by
    rw [toPy] at h
    obtain ⟨ps, h1, rfl⟩ := Option.map_eq_some_iff.mp h
    exact .lst (ex_l le q) (repAll_dp le r h1)
  | _, _, _, .tup q r, h => by
    rw [toPy] at h
    obtain ⟨ps, h1, rfl⟩ := Option.map_eq_some_iff.mp h
    exact .tup (ex_t le q) (repAll_dp le r h1)
  | _, _, _, .tuf (o := o) q _ r, h => by
    rw [toPy] at h
    obtain ⟨ps, h1, rfl⟩ := Option.map_eq_some_iff.mp h
    exact .tup (.inl (.inr ⟨o, le _ _ q⟩)) (repAll_dp le r h1)
  | _, _, _, .dicK q r, h => by rw [toPy] at h <;> first | cases h | simp
  | _, _, _, .dicT q r, h => by rw [toPy] at h <;> first | cases h | simp
  | _, _, _, .difK q r, h => by rw [toPy] at h <;> first | cases h | simp
  | _, _, _, .dftT q r, h => by rw [toPy] at h <;> first | cases h | simp
  | _, _, _, .ins q r, h => by rw [toPy] at h <;> first | cases h | simp
theorem repAll_dp (le : Ex B H) : ∀ {v : List V} {d : List Dat} {p : List PyData}, RepAll K B v d → toPyL d = some p → DpAll K H v p
  | _, _, _, .nil, h => by rw [toPyL] at h; cases h; exact .nil
  | _, _, _, .cons r rr, h => by
    rw [toPyL] at h
    split at h
    · rename_i p ps h1 h2
      cases h
      exact .cons (rep_dp le r h1) (repAll_dp le rr h2)
    · cases h
end
def eqD : Dat → Dat → Option Dat := fun x y => match toPy x, toPy y with
  | some a, some b => if SeqAt.shaped a = true ∧ SeqAt.shaped b = true then some (.bl (PyData.eqv a b)) else none
  | _, _ => none
def neD : Dat → Dat → Option Dat := fun x y => match toPy x, toPy y with
  | some a, some b => if SeqAt.shaped a = true ∧ SeqAt.shaped b = true then some (.bl (!PyData.eqv a b)) else none
  | _, _ => none
abbrev nwA (K : PySem.W.Frag) (B H : Hp) (dz : Dat) (Q : VK) : Prop := ∀ v H' B', Ex H H' → Ex B B' → (∀ a o, B' a = some o → B a = some o ∨ (H a = none ∧ H' a = some o)) → Rep K B' v dz → Q v H'
theorem nwA.same {dz : Dat} {Q : VK} (k : nwA K B H dz Q) {v : V} (r : Rep K B v dz) : Q v H := k v H B (Ex.refl _) (Ex.refl _) (fun _ _ z => .inl z) r
theorem eqD_ok : OpD K (rEqD K) eqD := fun B H x y dx dy dz Q hz le rx ry h k => by
  unfold eqD at h
  split at h
  · rename_i a b h1 h2
    split at h
    · rename_i hs
      cases h
      exact ⟨a, b, rep_dp le rx h1, rep_dp le ry h2, hs.1, hs.2, nwA.same k (.bl _)⟩
    · cases h
  · cases h
theorem neD_ok : OpD K (rNeD K) neD := fun B H x y dx dy dz Q hz le rx ry h k => by
  unfold neD at h
  split at h
  · rename_i a b h1 h2
    split at h
    · rename_i hs
      cases h
      exact ⟨a, b, rep_dp le rx h1, rep_dp le ry h2, hs.1, hs.2, nwA.same k (.bl _)⟩
    · cases h
  · cases h
/-! is None -/
def isNon : Dat → Bool
  | .non => true
  | _ => false
theorem Rep.isNon {v : V} {d : Dat} (r : Rep K B v d) : decide (v = .non) = DL.isNon d := by
  cases r <;> simp [DL.isNon]
def isD : Dat → Dat → Option Dat
  | x, .non => some (.bl (isNon x))
  | _, _ => none
def notD : Dat → Dat → Option Dat
  | x, .non => some (.bl (!isNon x))
  | _, _ => none
abbrev rIsN0 : R2 := fun x y H Q => y = .non ∧ Q (.bl (decide (x = .non))) H
abbrev rNotN0 : R2 := fun x y H Q => y = .non ∧ Q (.bl (!decide (x = .non))) H
theorem isD_ok : OpD K rIsN0 isD := fun B H x y dx dy dz Q hz le rx ry h k => by
  cases dy with
  | non => cases h; exact ⟨ry.non_inv, by rw [rx.isNon]; exact nwA.same k (.bl _)⟩
  | _ => cases h
theorem notD_ok : OpD K rNotN0 notD := fun B H x y dx dy dz Q hz le rx ry h k => by
  cases dy with
  | non => cases h; exact ⟨ry.non_inv, by rw [rx.isNon]; exact nwA.same k (.bl _)⟩
  | _ => cases h
/-! in -/
theorem flat_of {v : V} {d : Dat} (h : scalD d = true) (r : Rep K B v d) : flatV v = true := by
  cases r <;> first | rfl | cases h
theorem flats_of : ∀ {vs : List V} {ds : List Dat}, ds.all scalD = true → RepAll K B vs ds → vs.all flatV = true
  | _, _, _, .nil => rfl
  | _, _, h, .cons r rr => by
    obtain ⟨h1, h2⟩ := Bool.and_eq_true_iff.mp h
    exact Bool.and_eq_true_iff.mpr ⟨flat_of h1 r, flats_of h2 rr⟩
theorem eqV_of {v w : V} {d e : Dat} {p q : PyData} (hd : scalD d = true) (he : scalD e = true) (r : Rep K B v d) (s : Rep K B w e) (h1 : toPy d = some p) (h2 : toPy e = some q) : eqV v w = PyData.eqv p q := by
  cases d <;> try (exfalso; revert hd; simp only [scalD]; intro hd; exact Bool.noConfusion hd)
  all_goals (cases e <;> try (exfalso; revert he; simp only [scalD]; intro he; exact Bool.noConfusion he))
  all_goals (simp only [toPy, Option.some.injEq] at h1 h2; subst h1 h2; cases r; cases s; simp [eqV, PyData.eqv])
theorem anyV_of {w : V} {e : Dat} {q : PyData} (he : scalD e = true) (s : Rep K B w e) (h2 : toPy e = some q) : ∀ {vs : List V} {ds : List Dat} {ps : List PyData}, ds.all scalD = true → RepAll K B vs ds → toPyL ds = some ps → inV w vs = ps.any fun z => PyData.eqv z q
  | _, _, _, _, .nil, h => by rw [toPyL] at h; cases h; rfl
  | _, _, _, hd, .cons r rr, h => by
    rw [toPyL] at h
    split at h
    · rename_i p ps g1 g2
      cases h
      obtain ⟨h1, h3⟩ := Bool.and_eq_true_iff.mp hd
      have := anyV_of he s h2 h3 rr g2
      unfold inV at this ⊢
      rw [List.any_cons, List.any_cons, eqV_of h1 he r s g1 h2, this]
    · cases h
def inB0 : Dat → Dat → Option Bool
  | x, .tup ds => match toPy x, toPyL ds with
    | some a, some bs => if scalD x = true ∧ ds.all scalD = true then some (bs.any fun z => PyData.eqv z a) else none
    | _, _ => none
  | .str c, .str z => if c.cps.size = 1 then some (decide (c.cps.getD 0 0 ∈ z.cps.toList)) else none
  | x, .lst ds => match toPy x, toPyL ds with
    | some a, some bs => if SeqAt.shaped a = true ∧ SeqAt.shaped (.list bs) = true then some (bs.any fun z => PyData.eqv z a) else none
    | _, _ => none
  | _, _ => none
def inB : Dat → Dat → Option Bool
  | x, .tuf ds => inB0 x (.tup ds)
  | x, y => inB0 x y
def inD (x y : Dat) : Option Dat := (inB x y).map .bl
def ninD (x y : Dat) : Option Dat := (inB x y).map fun b => .bl (!b)
abbrev rInSg : R2 := fun x y H Q => ∃ (c : Nat) (z : Str), x = .str ⟨#[c]⟩ ∧ y = .str z ∧ Q (.bl (decide (c ∈ z.cps.toList))) H
abbrev rNinSg : R2 := fun x y H Q => ∃ (c : Nat) (z : Str), x = .str ⟨#[c]⟩ ∧ y = .str z ∧ Q (.bl (!decide (c ∈ z.cps.toList))) H
def rInU (K : PySem.W.Frag) : R2 := fun x y H Q => rIn K false x y H Q ∨ (rInD K x y H Q ∨ rInSg x y H Q)
def rNinU (K : PySem.W.Frag) : R2 := fun x y H Q => rIn K true x y H Q ∨ (rNotInD K x y H Q ∨ rNinSg x y H Q)
theorem one_sign {c : Str} (h : c.cps.size = 1) : c = ⟨#[c.cps.getD 0 0]⟩ := by
  obtain ⟨a⟩ := c
  obtain ⟨l⟩ := a
  match l, h with
  | [x], _ => rfl
theorem in_ok0 (neg : Bool) : ∀ (B H : Hp) (x y : V) (dx dy dz : Dat) (Q : VK), HSz H → Ex B H → Rep K B x dx → Rep K B y dy → (inB0 dx dy).map (fun b => Dat.bl (if neg then !b else b)) = some dz → nwA K B H dz Q →
    rIn K neg x y H Q ∨ (∃ d ds, Dp K H x d ∧ Dp K H y (.list ds) ∧ SeqAt.shaped d = true ∧ SeqAt.shaped (.list ds) = true ∧ Q (.bl (if neg then !(ds.any fun z => PyData.eqv z d) else (ds.any fun z => PyData.eqv z d))) H) ∨
      (∃ (c : Nat) (z : Str), x = .str ⟨#[c]⟩ ∧ y = .str z ∧ Q (.bl (if neg then !decide (c ∈ z.cps.toList) else decide (c ∈ z.cps.toList))) H) := fun B H x y dx dy dz Q hz le rx ry h0 k => by
  obtain ⟨b, h, eb⟩ := Option.map_eq_some_iff.mp h0
  clear h0
  subst eb
  unfold inB0 at h
  split at h
  · rename_i ds
    split at h
    · rename_i a bs g1 g2
      split at h
      · rename_i hs
        cases h
        obtain ⟨t, xs, rfl, q, ra⟩ := ry.tup_inv
        refine .inl ⟨t, xs, rfl, .inr (ex_t le q), flat_of hs.1 rx, flats_of hs.2 ra, ?_⟩
        rw [anyV_of hs.1 rx g1 hs.2 ra g2]
        exact nwA.same k (.bl _)
      · cases h
    · cases h
  · rename_i c z
    split at h
    · rename_i hs
      cases h
      refine .inr (.inr ⟨c.cps.getD 0 0, z, ?_, ry.str_inv, nwA.same k (.bl _)⟩)
      rw [rx.str_inv, ← one_sign hs]
    · cases h
  · rename_i ds _ _
    split at h
    · rename_i a bs g1 g2
      split at h
      · rename_i hs
        cases h
        exact .inr (.inl ⟨a, bs, rep_dp le rx g1, rep_dp le ry (by rw [toPy, g2]; rfl), hs.1, hs.2, nwA.same k (.bl _)⟩)
      · cases h
    · cases h
  · cases h
theorem in_ok (neg : Bool) : ∀ (B H : Hp) (x y : V) (dx dy dz : Dat) (Q : VK), HSz H → Ex B H → Rep K B x dx → Rep K B y dy → (inB dx dy).map (fun b => Dat.bl (if neg then !b else b)) = some dz → nwA K B H dz Q →
    rIn K neg x y H Q ∨ (∃ d ds, Dp K H x d ∧ Dp K H y (.list ds) ∧ SeqAt.shaped d = true ∧ SeqAt.shaped (.list ds) = true ∧ Q (.bl (if neg then !(ds.any fun z => PyData.eqv z d) else (ds.any fun z => PyData.eqv z d))) H) ∨
      (∃ (c : Nat) (z : Str), x = .str ⟨#[c]⟩ ∧ y = .str z ∧ Q (.bl (if neg then !decide (c ∈ z.cps.toList) else decide (c ∈ z.cps.toList))) H) := fun B H x y dx dy dz Q hz le rx ry h k => by
  cases dy with
  | tuf ds => exact in_ok0 neg B H x y dx (.tup ds) dz Q hz le rx ry.weak h k
  | _ => exact in_ok0 neg B H x y dx _ dz Q hz le rx ry h k
theorem inD_ok : OpD K (rInU K) inD := fun B H x y dx dy dz Q hz le rx ry h k => by
  have := in_ok (K := K) false B H x y dx dy dz Q hz le rx ry h k
  exact this
theorem ninD_ok : OpD K (rNinU K) ninD := fun B H x y dx dy dz Q hz le rx ry h k => by
  have := in_ok (K := K) true B H x y dx dy dz Q hz le rx ry h k
  exact this
end
section
variable {X : Cx}
theorem op_inU (hu : X.A.units + 65 < cLine) : OpR X (compareOp .In) (rInU X.K) := OpR.or op_in_seq (OpR.or (op_inD hu) op_in_sign)
theorem op_ninU (hu : X.A.units + 65 < cLine) : OpR X (compareOp .NotIn) (rNinU X.K) := OpR.or op_notIn_seq (OpR.or (op_notInD hu) op_notIn_sign)
end

/-! ### what is asked by a place -/
def ixD : Dat → Dat → Option Dat
  | .lst ds, .int i => atI ds i
  | .lsf ds, .int i => atI ds i
  | .tup ds, .int i => atI ds i
  | .tuf ds, .int i => atI ds i
  | .str z, .int i => if z.length ≤ SZ then (atI z.cps.toList i).map fun c => .str ⟨#[c]⟩ else none
  | _, _ => none
def rIxU (K : PySem.W.Frag) : R2 := fun x y H Q => rIxL K x y H Q ∨ (rIxT K x y H Q ∨ rIxS x y H Q)
section
variable {K : PySem.W.Frag} {B H : Hp}
theorem atI_rep {xs : List V} {ds : List Dat} {i : Int} {d : Dat} (r : RepAll K B xs ds) (h : atI ds i = some d) : ∃ v, atI xs i = some v ∧ Rep K B v d := by
  unfold atI at h ⊢
  rw [r.length]
  cases e : ixN ds.length i with
  | none => rw [e] at h; cases h
  | some j => rw [e] at h; exact r.get h
theorem ixD_ok : OpD K (rIxU K) ixD := fun B H x y dx dy dz Q hz le rx ry h k => by
  unfold ixD at h
  split at h
  · obtain ⟨a, xs, rfl, q, r⟩ := rx.lst_inv
    obtain ⟨v, h1, h2⟩ := atI_rep r h
    exact .inl ⟨a, xs, _, v, rfl, ry.int_inv, ex_rdH le q, h1, nwA.same k h2⟩
  · obtain ⟨a, xs, rfl, q, r⟩ := rx.lsf_inv
    obtain ⟨v, h1, h2⟩ := atI_rep r h
    exact .inl ⟨a, xs, _, v, rfl, ry.int_inv, ex_l le q, h1, nwA.same k h2⟩
  · obtain ⟨a, xs, rfl, q, r⟩ := rx.tup_inv
    obtain ⟨v, h1, h2⟩ := atI_rep r h
    exact .inr (.inl ⟨a, xs, _, v, rfl, ry.int_inv, ex_t le q, h1, nwA.same k h2⟩)
  · obtain ⟨a, xs, rfl, q, r⟩ := rx.weak.tup_inv
    obtain ⟨v, h1, h2⟩ := atI_rep r h
    exact .inr (.inl ⟨a, xs, _, v, rfl, ry.int_inv, ex_t le q, h1, nwA.same k h2⟩)
  · split at h
    · rename_i z i hs
      obtain ⟨c, h1, rfl⟩ := Option.map_eq_some_iff.mp h
      exact .inr (.inr ⟨z, i, c, rx.str_inv, ry.int_inv, by rw [sizeLine_eq]; exact hs, h1, nwA.same k (.str _)⟩)
    · cases h
  · cases h
end
section
variable {X : Cx} {τ : List V} {p pa pb pc : Bool} {e a b c o : Expr} {es : List Expr} {pos q p2 : Pos} {f fa fb : M Dat} {lo hi : Option Expr} {fl fh : M (Option Int)}
theorem ped_ix (ha : PED X τ pa a fa) (hb : PED X τ pb b fb) (hs : PlainIx b) : PED X τ (pa && pb) (.Subscript a b pos) (bin ixD fa fb) :=
  PE.imp (pe_ix (IxR.or ix_list (IxR.or ix_tup ix_str)) ha hb hs) fun σ H Q hz _ h => op_imp ixD_ok h

/-! slices -/
def tOpt (K : PySem.W.Frag) (τ : List V) (p : Bool) (f : M (Option Int)) : TO := fun σ H Q => ∃ ρ B fp, SR K τ B σ H ρ fp ∧ ∃ d ρ', f ρ = some (d, ρ') ∧
  ∀ H' B' fp', SR K τ B' σ H' ρ' fp' → Tr B H fp B' H' fp' → (p = true → Pu H H' ρ ρ' fp fp') → Q d H'
abbrev POD (X : Cx) (τ : List V) (p : Bool) (o : Option Expr) (f : M (Option Int)) : Prop := PO X o (tOpt X.K τ p f)
theorem PO.imp {o : Option Expr} {t t' : TO} (h : PO X o t) (k : ∀ σ H Q, t' σ H Q → t σ H Q) : PO X o t' :=
  ⟨fun pins s σ H Q I q => h.run pins s σ H Q I (k σ H Q q)⟩
theorem pod_none : POD X τ true none (ret none) := PO.imp po_none fun σ H Q ⟨ρ, B, fp, S, d, ρ', hf, k⟩ => by
  cases hf
  exact k H B fp S Tr.refl fun _ => Pu.refl
def intO : Dat → Option (Option Int)
  | .int i => some (some i)
  | _ => none
theorem pod_some (h : PED X τ p e f) : POD X τ p (some e) (liftF intO f) := PO.imp (po_some h) fun σ H Q ⟨ρ, B, fp, S, d, ρ', hf, k⟩ => by
  obtain ⟨x, ρ1, h1, hf⟩ := bnd_some hf
  obtain ⟨h3, rfl⟩ := lift_some hf
  refine ⟨ρ, B, fp, S, x, _, h1, fun v H' B' fp' z' S' t' u' r' => ?_⟩
  cases x with
  | int i => cases h3; exact ⟨i, r'.int_inv, k H' B' fp' S' t' u'⟩
  | _ => cases h3
def cut {α : Type} (xs : List α) (lo hi : Option Int) : List α := (xs.drop (HT.sIx xs.length 0 lo)).take (HT.sIx xs.length xs.length hi - HT.sIx xs.length 0 lo)
theorem cut_V (xs : List V) (lo hi : Option Int) : cutV xs lo hi = cut xs lo hi := rfl
def slD : Dat → Option Int → Option Int → Option Dat
  | .lst ds, lo, hi => some (.lst (cut ds lo hi))
  | .lsf ds, lo, hi => some (.lst (cut ds lo hi))
  | .tup ds, lo, hi => some (.tup (cut ds lo hi))
  | .tuf ds, lo, hi => some (.tup (cut ds lo hi))
  | .str z, lo, hi => if z.length ≤ SZ then some (.str (cutS z lo hi)) else none
  | _, _, _ => none
def slM (f : M Dat) (fl fh : M (Option Int)) : M Dat := bnd f fun x => bnd fl fun l => bnd fh fun h => lift (slD x l h)
theorem cutV_len {α : Type} (xs : List α) (lo hi : Option Int) : (cut xs lo hi).length ≤ xs.length := by
  unfold cut
  simp only [List.length_take, List.length_drop]
  omega
theorem RepAll.cutR {K : PySem.W.Frag} {B : Hp} {xs : List V} {ds : List Dat} (r : RepAll K B xs ds) (lo hi : Option Int) : RepAll K B (cut xs lo hi) (cut ds lo hi) := by
  unfold DL.cut
  rw [r.length]
  exact (r.drop _).take _
theorem cut_whole {α : Type} {xs : List α} {lo hi : Option Int} (h : HT.sIx xs.length 0 lo = 0 ∧ HT.sIx xs.length xs.length hi = xs.length) : cut xs lo hi = xs := by
  unfold cut
  rw [h.1, h.2]
  simp
theorem ped_sl (he : PED X τ p e f) (hl : POD X τ pa lo fl) (hh : POD X τ pb hi fh) : PED X τ (p && (pa && pb)) (.Subscript e (.Slice lo hi none p2) pos) (slM f fl fh) :=
  PE.imp (pe_slice (SlR.or sl_list (SlR.or sl_tupA sl_str)) he hl hh) fun σ H Q hz _ ⟨ρ, B, fp, S, d, ρ', hf, k⟩ => by
    obtain ⟨x, ρ1, h1, g1⟩ := bnd_some hf
    obtain ⟨l, ρ2, h2, g2⟩ := bnd_some g1
    obtain ⟨u, ρ3, h3, g3⟩ := bnd_some g2
    obtain ⟨h4, e4⟩ := lift_some g3
    subst e4
    refine ⟨ρ, B, fp, S, x, ρ1, h1, fun v1 H1 B1 fp1 z1 S1 t1 u1 r1 => ⟨ρ1, B1, fp1, S1, l, ρ2, h2, fun H2 B2 fp2 S2 t2 u2 => ⟨ρ2, B2, fp2, S2, u, _, h3, fun H3 B3 fp3 S3 t3 u3 => ?_⟩⟩⟩
    have r3 := r1.mono (t2.trans t3).ex
    have tt := t1.trans (t2.trans t3)
    have uu : (p && (pa && pb)) = true → Pu H H3 ρ ρ' fp fp3 := fun h => by
      obtain ⟨y1, y2⟩ := Bool.and_eq_true_iff.mp h
      exact (u1 y1).trans (pu_and u2 u3 y2)
    have same : Rep X.K B3 v1 d → HSz H3 → Q v1 H3 := fun r hz' => k v1 H3 B3 fp3 hz' S3 tt uu r
    have new : ∀ {o : HO} {c : Addr}, H3 c = none → (Ex B3 (upd B3 c o) → Rep X.K (upd B3 c o) (.ref c) d) → HSz (upd H3 c o) → Q (.ref c) (upd H3 c o) := fun {o c} hc r hz' => by
      obtain ⟨n1, n2, n3⟩ := new3 (o := o) S3.le hc
      exact k _ _ _ fp3 hz' (S3.grow n1 n2 n3) (tt.trans (Tr.new n1 n2 n3)) (fun h => ⟨(uu h).ex.trans n1, (uu h).er, (uu h).ef⟩) (r n2)
    cases x with
    | lst ds =>
      cases h4
      obtain ⟨a, xs, rfl, q, r⟩ := r3.lst_inv
      exact .inl ⟨a, xs, rfl, ex_rdH S3.le q, fun c hc => new hc fun n2 => .lst upd_same ((r.cutR l u).mono n2)⟩
    | lsf ds =>
      cases h4
      obtain ⟨a, xs, rfl, q, r⟩ := r3.lsf_inv
      exact .inl ⟨a, xs, rfl, ex_l S3.le q, fun c hc => new hc fun n2 => .lst upd_same ((r.cutR l u).mono n2)⟩
    | tup ds =>
      cases h4
      obtain ⟨a, xs, rfl, q, r⟩ := r3.tup_inv
      refine .inr (.inl ⟨a, xs, rfl, ex_t S3.le q, fun hw => same ?_, fun hw c hc => new hc fun n2 => .tup (.inl (.inl upd_same)) ((r.cutR l u).mono n2)⟩)
      rw [cut_whole (by rw [← r.length]; exact hw)]
      exact .tup q r
    | tuf ds =>
      cases h4
      obtain ⟨a, xs, rfl, q, r⟩ := r3.weak.tup_inv
      refine .inr (.inl ⟨a, xs, rfl, ex_t S3.le q, fun hw => same ?_, fun hw c hc => new hc fun n2 => .tup (.inl (.inl upd_same)) ((r.cutR l u).mono n2)⟩)
      rw [cut_whole (by rw [← r.length]; exact hw)]
      exact .tup q r
    | str z =>
      have h4 : (if z.length ≤ SZ then some (Dat.str (cutS z l u)) else none) = some d := h4
      by_cases hs : z.length ≤ SZ
      · rw [if_pos hs] at h4
        cases h4
        rw [r3.str_inv] at same
        refine .inr (.inr ⟨z, r3.str_inv, by rw [sizeLine_eq]; exact hs, fun hz' => ?_⟩)
        rw [r3.str_inv] at r3
        exact k _ H3 B3 fp3 hz' S3 tt uu (.str _)
      · rw [if_neg hs] at h4; cases h4
    | _ => cases h4
end
end DL

set_option Elab.async false
set_option linter.all false
set_option maxRecDepth 100000
set_option maxHeartbeats 2000000
namespace DL
open PySem L2

/-! ### built-ins -/
def CallD (K : PySem.W.Frag) (r : List V → Hp → VK → Prop) (g : List Dat → Option Dat) : Prop := ∀ (B H : Hp) (vs : List V) (ds : List Dat) (dz : Dat) (Q : VK), HSz H → Ex B H → RepAll K B vs ds → g ds = some dz → nwA K B H dz Q → r vs H Q
/-- a new owned thing -/
abbrev nwO (K : PySem.W.Frag) (B H : Hp) (s : Sl) (Q : VK) : Prop := ∀ v H' A, Ex H H' → RepS K [] B H' v s A → (∀ a ∈ A, H a = none) → Q v H'
def CallS (K : PySem.W.Frag) (r : List V → Hp → VK → Prop) (g : List Dat → Option Sl) : Prop := ∀ (B H : Hp) (vs : List V) (ds : List Dat) (s : Sl) (Q : VK), HSz H → Ex B H → RepAll K B vs ds → g ds = some s → nwO K B H s Q → r vs H Q
theorem CallD.or {K : PySem.W.Frag} {r r' : List V → Hp → VK → Prop} {g g' : List Dat → Option Dat} (h : CallD K r g) (h' : CallD K r' g') : CallD K (fun vs H Q => r vs H Q ∨ r' vs H Q) (fun ds => (g ds).or (g' ds)) := fun B H vs ds dz Q hz le ra hg k => by
  dsimp only at hg
  cases q : g ds with
  | none => rw [q] at hg; exact .inr (h' B H vs ds dz Q hz le ra hg k)
  | some d => rw [q] at hg; cases hg; exact .inl (h B H vs ds _ Q hz le ra q k)
section
variable {X : Cx} {τ : List V} {p pa pb pc : Bool} {e a b c o : Expr} {es : List Expr} {pos q p2 : Pos} {f fb : M Dat} {fa : M (List Dat)} {r : List V → Hp → VK → Prop} {g : List Dat → Option Dat} {gs : List Dat → Option Sl} {x : Str} {id T : String}
theorem cb_imp (hd : CallD X.K r g) {σ : St} {H : Hp} {Q : VK} (h : tDat X.K τ p (liftA g fa) σ H Q) : tCB r (tAll X.K τ p fa) σ H (fun v H' => HSz H' → Q v H') := by
  obtain ⟨ρ, B, fp, S, d, ρ', hf, k⟩ := h
  obtain ⟨ds, ρ1, h1, h0⟩ := bnd_some hf
  obtain ⟨h2, e2⟩ := lift_some h0
  subst e2
  exact ⟨ρ, B, fp, S, ds, _, h1, fun vs H1 B1 fp1 z1 S1 t1 u1 r1 => hd B1 H1 vs ds d _ z1 S1.le r1 h2 fun v H' B' ex eb nb r hz' =>
    k v H' B' fp1 hz' (S1.grow ex eb nb) (t1.trans (Tr.new ex eb nb)) (fun h => ⟨(u1 h).ex.trans ex, (u1 h).er, (u1 h).ef⟩) r⟩
theorem sep_fresh {K : PySem.W.Frag} {B H B1 H1 : Hp} {σ : L2.St} {ρ : Env} {fp fp1 : Nat → List Addr} (S1 : SR K τ B1 σ H1 ρ fp1) (t1 : Tr B H fp B1 H1 fp1) {A : List Addr} (hA : ∀ a ∈ A, H1 a = none) : Sep B H fp B1 fp1 A :=
  ⟨fun x hx => S1.nowb (hA x hx), fun x hx => S1.noown (hA x hx), fun x hx => by
    cases h : H x with
    | none => exact .inr rfl
    | some o =>
      by_cases w : own fp x
      · exact .inl w
      · have := hA x hx
        rw [t1.fr x o h w] at this; cases this⟩
theorem cbo_imp (hd : CallS X.K r gs) {σ : St} {H : Hp} {Q : VK} (h : tSl X.K τ p (liftA gs fa) σ H Q) : tCB r (tAll X.K τ p fa) σ H (fun v H' => HSz H' → Q v H') := by
  obtain ⟨ρ, B, fp, S, d, ρ', hf, k⟩ := h
  obtain ⟨ds, ρ1, h1, h0⟩ := bnd_some hf
  obtain ⟨h2, e2⟩ := lift_some h0
  subst e2
  exact ⟨ρ, B, fp, S, ds, _, h1, fun vs H1 B1 fp1 z1 S1 t1 u1 r1 => hd B1 H1 vs ds d _ z1 S1.le r1 h2 fun v H' A ex rs hA hz' =>
    k v H' B1 fp1 A hz' (S1.ext ex) (t1.trans (Tr.ext ex)) (fun h => ⟨(u1 h).ex.trans ex, (u1 h).er, (u1 h).ef⟩) rs.notag (sep_fresh S1 t1 hA)⟩
theorem ped_callB (hc : CallR X (.builtin id) r) (hd : CallD X.K r g) (hg : Gl X x) (hm : X.mg x = none) (hv : bootBuiltins x = some (.builtin id)) (ha : PAD X τ p (e :: es) fa) (hn : x ≠ "__name__" := by decide) (hdb : (x == ("__debug__" : Str)) = false := by decide)
    (he : starEach (e :: es) X.env = (false, eval e X.env) :: starEach es X.env := by rfl) (hpl : (backTo pos (starEach es X.env)).any (·.1) = false := by rfl) : PED X τ p (.Call (.Name x q) (e :: es) [] pos) (liftA g fa) :=
  PE.imp (pe_callB hc hg hm hv ha hn hdb he hpl) fun σ H Q hz _ h => cb_imp hd h
theorem ped_callTy (hc : CallR X (.type T) r) (hd : CallD X.K r g) (hg : Gl X x) (hm : X.mg x = none) (hv : bootBuiltins x = some (.type T)) (ha : PAD X τ p (e :: es) fa) (hn : x ≠ "__name__" := by decide) (hdb : (x == ("__debug__" : Str)) = false := by decide)
    (he : starEach (e :: es) X.env = (false, eval e X.env) :: starEach es X.env := by rfl) (hpl : (backTo pos (starEach es X.env)).any (·.1) = false := by rfl) : PED X τ p (.Call (.Name x q) (e :: es) [] pos) (liftA g fa) :=
  PE.imp (pe_callTy hc hg hm hv ha hn hdb he hpl) fun σ H Q hz _ h => cb_imp hd h
theorem peo_callB (hc : CallR X (.builtin id) r) (hd : CallS X.K r gs) (hg : Gl X x) (hm : X.mg x = none) (hv : bootBuiltins x = some (.builtin id)) (ha : PAD X τ p (e :: es) fa) (hn : x ≠ "__name__" := by decide) (hdb : (x == ("__debug__" : Str)) = false := by decide)
    (he : starEach (e :: es) X.env = (false, eval e X.env) :: starEach es X.env := by rfl) (hpl : (backTo pos (starEach es X.env)).any (·.1) = false := by rfl) : PEO X τ p (.Call (.Name x q) (e :: es) [] pos) (liftA gs fa) :=
  PE.imp (pe_callB hc hg hm hv ha hn hdb he hpl) fun σ H Q hz _ h => cbo_imp hd h
theorem peo_callTy (hc : CallR X (.type T) r) (hd : CallS X.K r gs) (hg : Gl X x) (hm : X.mg x = none) (hv : bootBuiltins x = some (.type T)) (ha : PAD X τ p (e :: es) fa) (hn : x ≠ "__name__" := by decide) (hdb : (x == ("__debug__" : Str)) = false := by decide)
    (he : starEach (e :: es) X.env = (false, eval e X.env) :: starEach es X.env := by rfl) (hpl : (backTo pos (starEach es X.env)).any (·.1) = false := by rfl) : PEO X τ p (.Call (.Name x q) (e :: es) [] pos) (liftA gs fa) :=
  PE.imp (pe_callTy hc hg hm hv ha hn hdb he hpl) fun σ H Q hz _ h => cbo_imp hd h
end
section
variable {K : PySem.W.Frag}
/-! len -/
def lenD : List Dat → Option Dat
  | [.lst ds] => some (.int ds.length)
  | [.lsf ds] => some (.int ds.length)
  | [.tup ds] => some (.int ds.length)
  | [.tuf ds] => some (.int ds.length)
  | [.str z] => if z.length ≤ SZ then some (.int z.length) else none
  | [.dic kvs] => some (.int kvs.length)
  | [.dit kvs] => some (.int kvs.length)
  | [.dif kvs] => some (.int kvs.length)
  | _ => none
abbrev rLen0 (K : PySem.W.Frag) : List V → Hp → VK → Prop := fun xs H Q => ∃ x n, xs = [x] ∧ LenV K x H n ∧ Q (.int n) H
abbrev rLenDK : List V → Hp → VK → Prop := fun xs H Q => ∃ a kvs, xs = [V.ref a] ∧ Rd H a (.dK kvs) ∧ Q (.int kvs.length) H
theorem call_lenDR {X : Cx} : CallR X (.builtin "len") rLenDK := by
  intro pins s σ H xs us Q I vs hw
  obtain ⟨d, kvs, e, hd, q⟩ := hw
  subst e
  obtain ⟨u, e, ru⟩ := vals1 vs
  subst e
  obtain rfl : u = Value.ref d := ru
  exact d_len I hd fun t s2 J => ⟨.int kvs.length, H, J, ⟨t, rfl⟩, q⟩
def rLenU (K : PySem.W.Frag) : List V → Hp → VK → Prop := fun xs H Q => rLen0 K xs H Q ∨ (rLenDK xs H Q ∨ rLenT xs H Q)
theorem RepKV.length {H : Hp} : ∀ {vs : List (Key × V)} {ds : List (Dat × Dat)}, RepKV K H vs ds → vs.length = ds.length
  | _, _, .nil => rfl
  | _, _, .cons _ r => congrArg Nat.succ (RepKV.length r)
theorem RepTV.length {H : Hp} : ∀ {vs : List (List Key × V)} {ds : List (Dat × Dat)}, RepTV K H vs ds → vs.length = ds.length
  | _, _, .nil => rfl
  | _, _, .cons _ r => congrArg Nat.succ (RepTV.length r)
theorem call_lenU {X : Cx} : CallR X (.builtin "len") (rLenU X.K) := CallR.or call_len (CallR.or call_lenDR call_len_dT)
theorem lenD_ok : CallD K (rLenU K) lenD := fun B H vs ds dz Q hz le ra hg k => by
  unfold lenD at hg
  split at hg
  · cases hg
    obtain ⟨v, rfl, r⟩ := ra.one_inv
    obtain ⟨a, xs, rfl, q, r⟩ := r.lst_inv
    exact .inl ⟨_, _, rfl, .inl ⟨xs, ex_rdH le q, r.length.symm⟩, nwA.same k (.int _)⟩
  · cases hg
    obtain ⟨v, rfl, r⟩ := ra.one_inv
    obtain ⟨a, xs, rfl, q, r⟩ := r.lsf_inv
    exact .inl ⟨_, _, rfl, .inl ⟨xs, ex_l le q, r.length.symm⟩, nwA.same k (.int _)⟩
  · cases hg
    obtain ⟨v, rfl, r⟩ := ra.one_inv
    obtain ⟨a, xs, rfl, q, r⟩ := r.tup_inv
    exact .inl ⟨_, _, rfl, .inr ⟨xs, ex_t le q, r.length.symm⟩, nwA.same k (.int _)⟩
  · cases hg
    obtain ⟨v, rfl, r⟩ := ra.one_inv
    obtain ⟨a, xs, rfl, q, r⟩ := r.weak.tup_inv
    exact .inl ⟨_, _, rfl, .inr ⟨xs, ex_t le q, r.length.symm⟩, nwA.same k (.int _)⟩
  · rename_i z
    split at hg
    · rename_i hs
      cases hg
      obtain ⟨v, rfl, r⟩ := ra.one_inv
      rw [r.str_inv]
      exact .inl ⟨_, _, rfl, ⟨by rw [sizeLine_eq]; exact hs, rfl⟩, nwA.same k (.int _)⟩
    · cases hg
  · cases hg
    obtain ⟨v, rfl, r⟩ := ra.one_inv
    obtain ⟨a, ks, rfl, q, r⟩ := r.dic_inv
    refine .inr (.inl ⟨a, ks, rfl, .inl (le _ _ q), ?_⟩)
    rw [r.length]; exact nwA.same k (.int _)
  · cases hg
    obtain ⟨v, rfl, r⟩ := ra.one_inv
    obtain ⟨a, ks, rfl, q, r⟩ := r.dit_inv
    refine .inr (.inr ⟨a, ks, rfl, le _ _ q, ?_⟩)
    rw [r.length]; exact nwA.same k (.int _)
  · cases hg
    obtain ⟨v, rfl, r⟩ := ra.one_inv
    obtain ⟨a, o, ks, rfl, q, r⟩ := r.dif_inv
    refine .inr (.inl ⟨a, ks, rfl, .inr ⟨o, le _ _ q⟩, ?_⟩)
    rw [r.length]; exact nwA.same k (.int _)
  · cases hg
/-! abs, int, str -/
def absD : List Dat → Option Dat
  | [.int i] => some (.int (if i < 0 then -i else i))
  | _ => none
abbrev rAbs0 : List V → Hp → VK → Prop := fun xs H Q => ∃ i, xs = [.int i] ∧ Q (.int (if i < 0 then -i else i)) H
theorem absD_ok : CallD K rAbs0 absD := fun B H vs ds dz Q hz le ra hg k => by
  unfold absD at hg
  split at hg
  · cases hg
    obtain ⟨v, rfl, r⟩ := ra.one_inv
    rw [r.int_inv]
    exact ⟨_, rfl, nwA.same k (.int _)⟩
  · cases hg
def toInt : List Dat → Option Dat
  | [.int i] => some (.int i)
  | [.bl b] => some (.int (if b then 1 else 0))
  | [.str a] => if a.length ≤ 640 then (PySem.intText? a).map .int else none
  | _ => none
abbrev rInt1 : List V → Hp → VK → Prop := fun xs H Q => (∃ i, xs = [.int i] ∧ Q (.int i) H) ∨ ∃ k, xs = [.bl k] ∧ Q (.int (if k then 1 else 0)) H
abbrev rIntS : List V → Hp → VK → Prop := fun xs H Q => ∃ a n, xs = [.str a] ∧ PySem.intText? a = some n ∧ a.length ≤ 640 ∧ Q (.int n) H
def rIntU : List V → Hp → VK → Prop := fun xs H Q => rInt1 xs H Q ∨ rIntS xs H Q
theorem call_intU {X : Cx} : CallR X (.type "int") rIntU := CallR.or call_int1 call_int_str
theorem toInt_ok : CallD K rIntU toInt := fun B H vs ds dz Q hz le ra hg k => by
  unfold toInt at hg
  split at hg
  · cases hg
    obtain ⟨v, rfl, r⟩ := ra.one_inv
    rw [r.int_inv]
    exact .inl (.inl ⟨_, rfl, nwA.same k (.int _)⟩)
  · cases hg
    obtain ⟨v, rfl, r⟩ := ra.one_inv
    rw [r.bl_inv]
    exact .inl (.inr ⟨_, rfl, nwA.same k (.int _)⟩)
  · split at hg
    · rename_i hs
      obtain ⟨n, h1, rfl⟩ := Option.map_eq_some_iff.mp hg
      obtain ⟨v, rfl, r⟩ := ra.one_inv
      rw [r.str_inv]
      exact .inr ⟨_, n, rfl, h1, hs, nwA.same k (.int _)⟩
    · cases hg
  · cases hg
def toStr : List Dat → Option Dat
  | [.int i] => if i.natAbs < 18446744073709551616 then some (.str (toString i)) else none
  | [.str a] => some (.str a)
  | _ => none
abbrev rStrI : List V → Hp → VK → Prop := fun xs H Q => ∃ i : Int, xs = [.int i] ∧ i.natAbs.log2 < 1920 ∧ Q (.str (toString i)) H
abbrev rStrS : List V → Hp → VK → Prop := fun xs H Q => ∃ a, xs = [.str a] ∧ Q (.str a) H
def rStrU : List V → Hp → VK → Prop := fun xs H Q => rStrI xs H Q ∨ rStrS xs H Q
theorem call_strU {X : Cx} : CallR X (.type "str") rStrU := CallR.or call_str_int SkE.call_str_str
theorem log_small {i : Int} (h : i.natAbs < 18446744073709551616) : i.natAbs.log2 < 1920 := by
  have : i.natAbs < 2 ^ 64 := by omega
  have := PySem.Flt.log2_lt_of (by decide) this
  omega
theorem toStr_ok : CallD K rStrU toStr := fun B H vs ds dz Q hz le ra hg k => by
  unfold toStr at hg
  split at hg
  · split at hg
    · rename_i hs
      cases hg
      obtain ⟨v, rfl, r⟩ := ra.one_inv
      rw [r.int_inv]
      exact .inl ⟨_, rfl, log_small hs, nwA.same k (.str _)⟩
    · cases hg
  · cases hg
    obtain ⟨v, rfl, r⟩ := ra.one_inv
    rw [r.str_inv]
    exact .inr ⟨_, rfl, nwA.same k (.str _)⟩
  · cases hg
/-! list, tuple -/
def seqD : Dat → Option (List Dat)
  | .lst ds => some ds
  | .lsf ds => some ds
  | .tup ds => some ds
  | .tuf ds => some ds
  | _ => none
theorem seq_inv {B H : Hp} {v : V} {d : Dat} {ds : List Dat} (le : Ex B H) (r : Rep K B v d) (h : seqD d = some ds) : ∃ a xs, v = .ref a ∧ (SqL K H a xs ∨ SqT K H a xs) ∧ RepAll K B xs ds := by
  cases r with
  | lst q r => cases h; exact ⟨_, _, rfl, .inl (ex_rdH le q), r⟩
  | lsf q r => cases h; exact ⟨_, _, rfl, .inl (ex_l le q), r⟩
  | tup q r => cases h; exact ⟨_, _, rfl, .inr (ex_t le q), r⟩
  | tuf q _ r => cases h; exact ⟨_, _, rfl, .inr (ex_t le (.inl (.inr ⟨_, q⟩))), r⟩
  | _ => cases h
def listS : List Dat → Option Sl
  | [d] => (seqD d).map (.ol none)
  | _ => none
abbrev rListOf (K : PySem.W.Frag) : List V → Hp → VK → Prop := fun xs H Q => ∃ p ys, xs = [.ref p] ∧ (SqL K H p ys ∨ SqT K H p ys) ∧ ∀ l, H l = none → Q (.ref l) (upd H l (.lst ys))
theorem new_ol {B H : Hp} {xs : List V} {ds : List Dat} {c : Addr} {Q : VK} (r : RepAll K B xs ds) (k : nwO K B H (.ol none ds) Q) (hc : H c = none) : Q (.ref c) (upd H c (.lst xs)) :=
  k _ _ [c] (Ex.new hc) (.ol upd_same r fun _ z => nomatch z) fun a ha => by simp at ha; subst ha; exact hc
theorem listS_ok : CallS K (rListOf K) listS := fun B H vs ds s Q hz le ra hg k => by
  unfold listS at hg
  split at hg
  · obtain ⟨es, h1, rfl⟩ := Option.map_eq_some_iff.mp hg
    obtain ⟨v, rfl, r⟩ := ra.one_inv
    obtain ⟨a, xs, rfl, q, r⟩ := seq_inv le r h1
    exact ⟨a, xs, rfl, q, fun c hc => new_ol r k hc⟩
  · cases hg
def tupD : List Dat → Option Dat
  | [.lst ds] => some (.tuf ds)
  | [.lsf ds] => some (.tuf ds)
  | [.tup ds] => some (.tup ds)
  | [.tuf ds] => some (.tuf ds)
  | _ => none
abbrev rTupOf (K : PySem.W.Frag) : List V → Hp → VK → Prop := fun xs H Q => ∃ p ys, xs = [.ref p] ∧ ((SqL K H p ys ∧ ∀ l (o : Obj), H l = none → o.dict = none → Q (.ref l) (upd H l (.frz o (.tup ys)))) ∨ (SqT K H p ys ∧ Q (.ref p) H))
theorem call_tupF {X : Cx} : CallR X (.type "tuple") (rTupOf X.K) := by
  intro pins s σ H xs us Q I vs hw
  obtain ⟨a, ys, e, hw⟩ := hw
  subst e
  obtain ⟨u, e, ru⟩ := vals1 vs
  subst e
  obtain rfl : u = Value.ref a := ru
  rcases hw with ⟨sq, q⟩ | ⟨sq, q⟩
  · obtain ⟨its, rv, pl, hz⟩ := I.list sq
    have hlen := rv.length
    refine PySem.call_tuple_list pl.isList (fun h' kp => ?_) (by rw [List.size_toArray]; omega)
    let ob : Obj := { cls := .type "tuple", data := .seq its.toArray }
    have J : Inv X pins σ H { s with heap := h' } := I.kept (t' := s.toks) kp
    have fr := J.hok.fresh (Nat.le_refl h'.objs.size)
    have J2 : Inv X pins σ (upd H h'.objs.size (.frz ob (.tup ys))) { s with heap := h'.push ob } :=
      J.laid (t' := s.toks) (fun b o e => Heap.get?_push_of_some _ e) (Nat.le_refl _) (show ObjOk X.prog X.w _ _ _ (.frz ob (.tup ys)) from ⟨Heap.get?_push_size _ rfl, hz, its, rv, PyProof.Rows.IsTup.new _ _⟩)
    exact ⟨V.ref h'.objs.size, _, J2, rfl, q _ ob fr rfl⟩
  · obtain ⟨its, rv, pl, hz⟩ := I.tuple sq
    exact PySem.call_tuple_same pl ⟨V.ref a, H, I, rfl, q⟩
theorem new_tuf {B H : Hp} {xs : List V} {ds : List Dat} {c : Addr} {o : Obj} {Q : VK} (le : Ex B H) (r : RepAll K B xs ds) (k : nwA K B H (.tuf ds) Q) (hc : H c = none) (ho : o.dict = none) : Q (.ref c) (upd H c (.frz o (.tup xs))) := by
  obtain ⟨n1, n2, n3⟩ := new3 (o := .frz o (.tup xs)) le hc
  exact k _ _ _ n1 n2 n3 (.tuf upd_same ho (r.mono n2))
theorem new_tup {B H : Hp} {xs : List V} {ds : List Dat} {c : Addr} {Q : VK} (le : Ex B H) (r : RepAll K B xs ds) (k : nwA K B H (.tup ds) Q) (hc : H c = none) : Q (.ref c) (upd H c (.tup xs)) := by
  obtain ⟨n1, n2, n3⟩ := new3 (o := .tup xs) le hc
  exact k _ _ _ n1 n2 n3 (.tup (.inl (.inl upd_same)) (r.mono n2))
theorem tupD_ok : CallD K (rTupOf K) tupD := fun B H vs ds dz Q hz le ra hg k => by
  unfold tupD at hg
  split at hg
  · cases hg
    obtain ⟨v, rfl, r⟩ := ra.one_inv
    obtain ⟨a, xs, rfl, q, r⟩ := r.lst_inv
    exact ⟨a, xs, rfl, .inl ⟨ex_rdH le q, fun c o hc ho => new_tuf le r k hc ho⟩⟩
  · cases hg
    obtain ⟨v, rfl, r⟩ := ra.one_inv
    obtain ⟨a, xs, rfl, q, r⟩ := r.lsf_inv
    exact ⟨a, xs, rfl, .inl ⟨ex_l le q, fun c o hc ho => new_tuf le r k hc ho⟩⟩
  · cases hg
    obtain ⟨v, rfl, r⟩ := ra.one_inv
    obtain ⟨a, xs, rfl, q, r⟩ := r.tup_inv
    exact ⟨a, xs, rfl, .inr ⟨ex_t le q, nwA.same k (.tup q r)⟩⟩
  · cases hg
    obtain ⟨v, rfl, r⟩ := ra.one_inv
    obtain ⟨a, o, xs, rfl, q, hd, r⟩ := r.tuf_inv
    exact ⟨a, xs, rfl, .inr ⟨.inl (.inr ⟨o, le _ _ q⟩), nwA.same k (.tuf q hd r)⟩⟩
  · cases hg
/-! sums, the greatest, all -/
def intsOf : List Dat → Option (List Int)
  | [] => some []
  | .int i :: ds => (intsOf ds).map (i :: ·)
  | _ => none
theorem ints_rep {B : Hp} : ∀ {vs : List V} {ds : List Dat} {ns : List Int}, RepAll K B vs ds → intsOf ds = some ns → vs = ns.map V.int
  | _, _, _, .nil, h => by cases h; rfl
  | _, _, _, .cons (d := d) r rr, h => by
    cases d with
    | int i =>
      obtain ⟨ms, h1, rfl⟩ := Option.map_eq_some_iff.mp h
      rw [r.int_inv, ints_rep rr h1]; rfl
    | _ => cases h
def bolsOf : List Dat → Option (List Bool)
  | [] => some []
  | .bl i :: ds => (bolsOf ds).map (i :: ·)
  | _ => none
theorem bols_rep {B : Hp} : ∀ {vs : List V} {ds : List Dat} {ns : List Bool}, RepAll K B vs ds → bolsOf ds = some ns → vs = ns.map V.bl
  | _, _, _, .nil, h => by cases h; rfl
  | _, _, _, .cons (d := d) r rr, h => by
    cases d with
    | bl i =>
      obtain ⟨ms, h1, rfl⟩ := Option.map_eq_some_iff.mp h
      rw [r.bl_inv, bols_rep rr h1]; rfl
    | _ => cases h
def strsOf : List Dat → Option (List Str)
  | [] => some []
  | .str i :: ds => (strsOf ds).map (i :: ·)
  | _ => none
theorem strs_rep {B : Hp} : ∀ {vs : List V} {ds : List Dat} {ns : List Str}, RepAll K B vs ds → strsOf ds = some ns → vs = ns.map V.str
  | _, _, _, .nil, h => by cases h; rfl
  | _, _, _, .cons (d := d) r rr, h => by
    cases d with
    | str i =>
      obtain ⟨ms, h1, rfl⟩ := Option.map_eq_some_iff.mp h
      rw [r.str_inv, strs_rep rr h1]; rfl
    | _ => cases h
def onInts (g : List Int → Option Dat) : List Dat → Option Dat
  | [d] => match itL d with
    | some ds => (intsOf ds).bind g
    | none => none
  | _ => none
theorem onInts_inv {B H : Hp} {vs : List V} {ds : List Dat} {g : List Int → Option Dat} {dz : Dat} (le : Ex B H) (ra : RepAll K B vs ds) (hg : onInts g ds = some dz) : ∃ a ns, vs = [V.ref a] ∧ SqL K H a (ns.map V.int) ∧ g ns = some dz := by
  unfold onInts at hg
  split at hg
  · split at hg
    · rename_i es h1
      obtain ⟨ns, h2, h3⟩ := Option.bind_eq_some_iff.mp hg
      obtain ⟨v, rfl, r⟩ := ra.one_inv
      obtain ⟨a, xs, rfl, q, r⟩ := lstF_inv r h1
      rw [ints_rep r h2] at q
      exact ⟨a, ns, rfl, ex_l le q, h3⟩
    · cases hg
  · cases hg
def sumD : List Dat → Option Dat := onInts fun ns => some (.int ns.sum)
theorem sumD_ok : CallD K (rSum K) sumD := fun B H vs ds dz Q hz le ra hg k => by
  obtain ⟨a, ns, rfl, q, h⟩ := onInts_inv le ra hg
  cases h
  exact ⟨a, ns, rfl, q, nwA.same k (.int _)⟩
def maxD : List Dat → Option Dat := onInts fun ns => ns.max?.map .int
def minD : List Dat → Option Dat := onInts fun ns => ns.min?.map .int
theorem maxD_ok : CallD K (rMax K) maxD := fun B H vs ds dz Q hz le ra hg k => by
  obtain ⟨a, ns, rfl, q, h⟩ := onInts_inv le ra hg
  obtain ⟨m, h1, rfl⟩ := Option.map_eq_some_iff.mp h
  obtain ⟨g1, g2⟩ := List.max?_eq_some_iff.mp h1
  refine ⟨a, ns, rfl, q, List.length_pos_of_mem g1, fun m' hm hle => ?_⟩
  have : m' = m := Int.le_antisymm (g2 m' hm) (hle m g1)
  subst this
  exact nwA.same k (.int _)
theorem minD_ok : CallD K (rMin K) minD := fun B H vs ds dz Q hz le ra hg k => by
  obtain ⟨a, ns, rfl, q, h⟩ := onInts_inv le ra hg
  obtain ⟨m, h1, rfl⟩ := Option.map_eq_some_iff.mp h
  obtain ⟨g1, g2⟩ := List.min?_eq_some_iff.mp h1
  refine ⟨a, ns, rfl, q, List.length_pos_of_mem g1, fun m' hm hle => ?_⟩
  have : m' = m := Int.le_antisymm (hle m g1) (g2 m' hm)
  subst this
  exact nwA.same k (.int _)
def allD : List Dat → Option Dat
  | [d] => match itL d with
    | some ds => (bolsOf ds).map fun bs => .bl (bs.all id)
    | none => none
  | _ => none
theorem allD_ok : CallD K (rAll K) allD := fun B H vs ds dz Q hz le ra hg k => by
  unfold allD at hg
  split at hg
  · split at hg
    · rename_i es h1
      obtain ⟨ns, h2, rfl⟩ := Option.map_eq_some_iff.mp hg
      obtain ⟨v, rfl, r⟩ := ra.one_inv
      obtain ⟨a, xs, rfl, q, r⟩ := lstF_inv r h1
      rw [bols_rep r h2] at q
      exact ⟨a, ns, rfl, ex_l le q, nwA.same k (.bl _)⟩
    · cases hg
  · cases hg
end

/-! ### isinstance(x, T) -/
def tyD : Dat → Option String
  | .non => some "NoneType"
  | .bl _ => some "bool"
  | .int _ => some "int"
  | .str _ => some "str"
  | .lst _ => some "list"
  | .lsf _ => some "list"
  | .tup _ => some "tuple"
  | .tuf _ => some "tuple"
  | .dic _ => some "dict"
  | .dit _ => some "dict"
  | .dif _ => some "dict"
  | .dft _ => none
  | .ins _ _ => none
def isiD (n : String) (d : Dat) : Option Dat := (tyD d).bind fun t => (kitB t n).map .bl
def isiM (n : String) (f : M Dat) : M Dat := un (isiD n) f
theorem tyD_ok {K : PySem.W.Frag} {B H : Hp} {v : V} {d : Dat} {t : String} (le : Ex B H) (r : Rep K B v d) (h : tyD d = some t) : TyX K H v (.type t) := by
  cases r with
  | non => cases h; exact .base .non
  | bl b => cases h; exact .base (.bl b)
  | int b => cases h; exact .base (.int b)
  | str b => cases h; exact .base (.str b)
  | lst q r => cases h; exact .base (.lst (le _ _ q))
  | lsf q r =>
    cases h
    rcases ex_l le q with (q | ⟨o, q⟩) | ⟨o, its, n, hk, hc, hd, hs, hz, rv⟩
    · exact .base (.lst q)
    · exact .base (.frz q)
    · exact .kList hk hc
  | tup q r =>
    cases h
    rcases ex_t le q with (q | ⟨o, q⟩) | ⟨o, its, n, hk, hc, hs, hz, rv⟩
    · exact .base (.tup q)
    · exact .fTuple q
    · exact .kTuple hk hc
  | tuf q _ r => cases h; exact .fTuple (le _ _ q)
  | dicK q r => cases h; exact .base (.dK (le _ _ q))
  | dicT q r => cases h; exact .base (.dT (le _ _ q))
  | difK q r => cases h; exact .fDict (le _ _ q)
  | dftT q r => cases h
  | ins q r => cases h
section
variable {X : Cx} {τ : List V} {p pa pb pc : Bool} {e a b c o : Expr} {es : List Expr} {pos q p2 p3 : Pos} {f fb : M Dat} {fa : M (List Dat)} {x n : Str} {T : String}
theorem ped_isi (hg : Gl X "isinstance") (hm : X.mg "isinstance" = none) (hg2 : Gl X n) (hm2 : X.mg n = none) (hv2 : bootBuiltins n = some (.type T)) (ha : PED X τ p a f) (hn2 : n ≠ "__name__" := by decide) (hdb2 : (n == ("__debug__" : Str)) = false := by decide)
    (hs : starEach [a, .Name n p2] X.env = (false, eval a X.env) :: starEach [.Name n p2] X.env := by rfl) (hs2 : starEach [.Name n p2] X.env = (false, eval (.Name n p2) X.env) :: starEach [] X.env := by rfl) (hpl : (backTo pos (starEach [.Name n p2] X.env)).any (·.1) = false := by rfl) :
    PED X τ p (.Call (.Name "isinstance" q) [a, .Name n p2] [] pos) (isiM T f) :=
  PE.imp (pe_callB call_isi hg hm (by first | rfl | decide +kernel) (pa_cons ha (pa_cons (pe_bltn hg2 hm2 hv2 (v := .ty T) rfl hn2 hdb2) pa_nil hs2) hs) (by decide) (by decide) hs hpl) fun σ H Q hz _ ⟨ρ, B, fp, S, d, ρ', hf, k⟩ => by
    obtain ⟨x, ρ1, h1, hf⟩ := bnd_some hf
    obtain ⟨h3, rfl⟩ := lift_some hf
    obtain ⟨t, h4, h5⟩ := Option.bind_eq_some_iff.mp h3
    obtain ⟨b, h6, rfl⟩ := Option.map_eq_some_iff.mp h5
    exact ⟨ρ, B, fp, S, x, _, h1, fun v H' B' fp' z' S' t' u' r' => ⟨v, .ty T, .type t, .type T, b, rfl, .ty T, tyD_ok S'.le r' h4, kit_ty h6, fun hz2 => k _ H' B' fp' hz2 S' t' u' (.bl b)⟩⟩

/-! ### methods of texts -/
def M0D (K : PySem.W.Frag) (r : V → List V → Hp → VK → Prop) (g : Str → Option Dat) : Prop := ∀ (B H : Hp) (a : Str) (dz : Dat) (Q : VK), HSz H → Ex B H → g a = some dz → nwA K B H dz Q → r (.str a) [] H Q
def M1D (K : PySem.W.Frag) (r : V → List V → Hp → VK → Prop) (g : Str → Dat → Option Dat) : Prop := ∀ (B H : Hp) (a : Str) (y : V) (dy dz : Dat) (Q : VK), HSz H → Ex B H → Rep K B y dy → g a dy = some dz → nwA K B H dz Q → r (.str a) [y] H Q
def M0S (K : PySem.W.Frag) (r : V → List V → Hp → VK → Prop) (g : Str → Option Sl) : Prop := ∀ (B H : Hp) (a : Str) (s : Sl) (Q : VK), HSz H → Ex B H → g a = some s → nwO K B H s Q → r (.str a) [] H Q
def M1S (K : PySem.W.Frag) (r : V → List V → Hp → VK → Prop) (g : Str → Dat → Option Sl) : Prop := ∀ (B H : Hp) (a : Str) (y : V) (dy : Dat) (s : Sl) (Q : VK), HSz H → Ex B H → Rep K B y dy → g a dy = some s → nwO K B H s Q → r (.str a) [y] H Q
def onStr {α : Type} (g : Str → Option α) : Dat → Option α
  | .str a => g a
  | _ => none
def m0M {α : Type} (g : Str → Option α) (f : M Dat) : M α := bnd f fun x => lift (onStr g x)
def m1M {α : Type} (g : Str → Dat → Option α) (f fe : M Dat) : M α := bnd f fun x => bnd (lift (onStr some x)) fun a => bnd fe fun y => lift (g a y)
theorem onStr_some {α : Type} {g : Str → Option α} {d : Dat} {z : α} (h : onStr g d = some z) : ∃ a, d = .str a ∧ g a = some z := by
  cases d with
  | str a => exact ⟨a, rfl, h⟩
  | _ => cases h
variable {id : String} {name : Str} {apos : Pos} {r : V → List V → Hp → VK → Prop} {g0 : Str → Option Dat} {g1 : Str → Dat → Option Dat} {s0 : Str → Option Sl} {s1 : Str → Dat → Option Sl} {fe : M Dat}
theorem ped_m0 (slot : Slot "str" name id) (ty : typeOf (.builtin id) = pure (.type "method_descriptor")) (rule : MtR X id r) (hd : M0D X.K r g0) (ho : PED X τ p o f)
    (hbase : attributeBase o name X.env (eval o X.env) = eval o X.env := by rfl) (hline : (apos.endLine == pos.line) = true := by rfl) : PED X τ p (.Call (.Attribute o name apos) [] [] pos) (m0M g0 f) :=
  PE.imp (pe_m0 slot ty rule ho hbase hline) fun σ H Q hz _ ⟨ρ, B, fp, S, d, ρ', hf, k⟩ => by
    obtain ⟨x, ρ1, h1, hf⟩ := bnd_some hf
    obtain ⟨h3, e3⟩ := lift_some hf
    subst e3
    obtain ⟨a, rfl, h4⟩ := onStr_some h3
    refine ⟨ρ, B, fp, S, _, _, h1, fun v1 H1 B1 fp1 z1 S1 t1 u1 r1 => ?_⟩
    rw [r1.str_inv]
    exact ⟨⟨a, rfl⟩, hd B1 H1 a d _ z1 S1.le h4 fun v H' B' ex eb nb r hz' => k v H' B' fp1 hz' (S1.grow ex eb nb) (t1.trans (Tr.new ex eb nb)) (fun h => ⟨(u1 h).ex.trans ex, (u1 h).er, (u1 h).ef⟩) r⟩
theorem ped_m1 (slot : Slot "str" name id) (ty : typeOf (.builtin id) = pure (.type "method_descriptor")) (rule : MtR X id r) (hd : M1D X.K r g1) (ho : PED X τ pa o f) (he : PED X τ pb e fe)
    (hs : starEach [e] X.env = [(false, eval e X.env)] := by rfl) (hbase : attributeBase o name X.env (eval o X.env) = eval o X.env := by rfl) (hline : (apos.endLine == pos.line) = true := by rfl) : PED X τ (pa && pb) (.Call (.Attribute o name apos) [e] [] pos) (m1M g1 f fe) :=
  PE.imp (pe_m1 slot ty rule ho he hs hbase hline) fun σ H Q hz _ ⟨ρ, B, fp, S, d, ρ', hf, k⟩ => by
    obtain ⟨x, ρ1, h1, k1⟩ := bnd_some hf
    obtain ⟨a, ρ2, h2, k2⟩ := bnd_some k1
    obtain ⟨h3, e3⟩ := lift_some h2
    subst e3
    obtain ⟨a', rfl, h4⟩ := onStr_some h3
    cases h4
    obtain ⟨y, ρ3, h5, k3⟩ := bnd_some k2
    obtain ⟨h6, e6⟩ := lift_some k3
    subst e6
    refine ⟨ρ, B, fp, S, _, _, h1, fun v1 H1 B1 fp1 z1 S1 t1 u1 r1 => ?_⟩
    rw [r1.str_inv]
    exact ⟨⟨a, rfl⟩, _, B1, fp1, S1, y, _, h5, fun v2 H2 B2 fp2 z2 S2 t2 u2 r2 => hd B2 H2 a v2 y d _ z2 S2.le r2 h6 fun v H' B' ex eb nb r hz' => k v H' B' fp2 hz' (S2.grow ex eb nb) ((t1.trans t2).trans (Tr.new ex eb nb))
      (fun h => ⟨(pu_and u1 u2 h).ex.trans ex, (pu_and u1 u2 h).er, (pu_and u1 u2 h).ef⟩) r⟩
theorem peo_m0 (slot : Slot "str" name id) (ty : typeOf (.builtin id) = pure (.type "method_descriptor")) (rule : MtR X id r) (hd : M0S X.K r s0) (ho : PED X τ p o f)
    (hbase : attributeBase o name X.env (eval o X.env) = eval o X.env := by rfl) (hline : (apos.endLine == pos.line) = true := by rfl) : PEO X τ p (.Call (.Attribute o name apos) [] [] pos) (m0M s0 f) :=
  PE.imp (pe_m0 slot ty rule ho hbase hline) fun σ H Q hz _ ⟨ρ, B, fp, S, d, ρ', hf, k⟩ => by
    obtain ⟨x, ρ1, h1, hf⟩ := bnd_some hf
    obtain ⟨h3, e3⟩ := lift_some hf
    subst e3
    obtain ⟨a, rfl, h4⟩ := onStr_some h3
    refine ⟨ρ, B, fp, S, _, _, h1, fun v1 H1 B1 fp1 z1 S1 t1 u1 r1 => ?_⟩
    rw [r1.str_inv]
    exact ⟨⟨a, rfl⟩, hd B1 H1 a d _ z1 S1.le h4 fun v H' A ex rs hA hz' => k v H' B1 fp1 A hz' (S1.ext ex) (t1.trans (Tr.ext ex)) (fun h => ⟨(u1 h).ex.trans ex, (u1 h).er, (u1 h).ef⟩) rs.notag (sep_fresh S1 t1 hA)⟩
theorem peo_m1 (slot : Slot "str" name id) (ty : typeOf (.builtin id) = pure (.type "method_descriptor")) (rule : MtR X id r) (hd : M1S X.K r s1) (ho : PED X τ pa o f) (he : PED X τ pb e fe)
    (hs : starEach [e] X.env = [(false, eval e X.env)] := by rfl) (hbase : attributeBase o name X.env (eval o X.env) = eval o X.env := by rfl) (hline : (apos.endLine == pos.line) = true := by rfl) : PEO X τ (pa && pb) (.Call (.Attribute o name apos) [e] [] pos) (m1M s1 f fe) :=
  PE.imp (pe_m1 slot ty rule ho he hs hbase hline) fun σ H Q hz _ ⟨ρ, B, fp, S, d, ρ', hf, k⟩ => by
    obtain ⟨x, ρ1, h1, k1⟩ := bnd_some hf
    obtain ⟨a, ρ2, h2, k2⟩ := bnd_some k1
    obtain ⟨h3, e3⟩ := lift_some h2
    subst e3
    obtain ⟨a', rfl, h4⟩ := onStr_some h3
    cases h4
    obtain ⟨y, ρ3, h5, k3⟩ := bnd_some k2
    obtain ⟨h6, e6⟩ := lift_some k3
    subst e6
    refine ⟨ρ, B, fp, S, _, _, h1, fun v1 H1 B1 fp1 z1 S1 t1 u1 r1 => ?_⟩
    rw [r1.str_inv]
    exact ⟨⟨a, rfl⟩, _, B1, fp1, S1, y, _, h5, fun v2 H2 B2 fp2 z2 S2 t2 u2 r2 => hd B2 H2 a v2 y d _ z2 S2.le r2 h6 fun v H' A ex rs hA hz' => k v H' B2 fp2 A hz' (S2.ext ex) ((t1.trans t2).trans (Tr.ext ex))
      (fun h => ⟨(pu_and u1 u2 h).ex.trans ex, (pu_and u1 u2 h).er, (pu_and u1 u2 h).ef⟩) rs.notag (sep_fresh S2 (t1.trans t2) hA)⟩
end
section
variable {K : PySem.W.Frag}
theorem strs_rep' {B : Hp} : ∀ {ys : List Str}, RepAll K B (ys.map V.str) (ys.map Dat.str)
  | [] => .nil
  | y :: ys => .cons (.str y) strs_rep'
theorem newStrs {B H : Hp} {ys : List Str} {Q : VK} (k : nwO K B H (.ol none (ys.map .str)) Q) : rNewStrs ys H Q := fun c hc => new_ol (B := B) strs_rep' k hc
/-! split, join -/
def splitS (a : Str) : Dat → Option Sl
  | .str b => if (b.length == 0) = false ∧ a.length + 2 ≤ SZ then some (.ol none ((Txt.split a b).map .str)) else none
  | _ => none
abbrev rSplit0 : V → List V → Hp → VK → Prop := fun x xs H Q => ∃ a b, x = .str a ∧ xs = [.str b] ∧ (b.length == 0) = false ∧ a.length + 2 ≤ sizeLine ∧ rNewStrs (Txt.split a b) H Q
theorem splitS_ok : M1S K rSplit0 splitS := fun B H a y dy s Q hz le r hg k => by
  unfold splitS at hg
  split at hg
  · split at hg
    · rename_i hs
      cases hg
      rw [r.str_inv]
      exact ⟨a, _, rfl, rfl, hs.1, by rw [sizeLine_eq]; exact hs.2, newStrs k⟩
    · cases hg
  · cases hg
def wordsS (a : Str) : Option Sl := if a.length + 2 ≤ SZ then some (.ol none ((Txt.words a).map .str)) else none
abbrev rWords0 : V → List V → Hp → VK → Prop := fun x xs H Q => ∃ a, x = .str a ∧ xs = [] ∧ a.length + 2 ≤ sizeLine ∧ rNewStrs (Txt.words a) H Q
theorem wordsS_ok : M0S K rWords0 wordsS := fun B H a s Q hz le hg k => by
  unfold wordsS at hg
  split at hg
  · rename_i hs
    cases hg
    exact ⟨a, rfl, rfl, by rw [sizeLine_eq]; exact hs, newStrs k⟩
  · cases hg
def joinD (a : Str) (d : Dat) : Option Dat := match seqD d with
  | some ds => match strsOf ds with
    | some ys => if (ys.map (·.length)).sum + ys.length * a.length ≤ 16777216 then some (.str (Txt.join a ys)) else none
    | none => none
  | none => none
abbrev rJoin0 (K : PySem.W.Frag) : V → List V → Hp → VK → Prop := fun x xs H Q => ∃ a p, ∃ ys : List Str, x = .str a ∧ xs = [.ref p] ∧ (SqL K H p (ys.map V.str) ∨ SqT K H p (ys.map V.str)) ∧
    (ys.map (·.length)).sum + ys.length * a.length ≤ 16777216 ∧ Q (.str (Txt.join a ys)) H
theorem joinD_ok : M1D K (rJoin0 K) joinD := fun B H a y dy dz Q hz le r hg k => by
  unfold joinD at hg
  split at hg
  · rename_i ds h1
    split at hg
    · rename_i ys h2
      split at hg
      · rename_i hs
        cases hg
        obtain ⟨p, xs, rfl, q, ra⟩ := seq_inv le r h1
        rw [strs_rep ra h2] at q
        exact ⟨a, p, ys, rfl, rfl, q, hs, nwA.same k (.str _)⟩
      · cases hg
    · cases hg
  · cases hg
end
/-! ### f-strings -/
section
variable {X : Cx} {τ : List V} {p pa pb pc : Bool} {e a b c o v1 v2 : Expr} {es : List Expr} {pos q p2 p3 : Pos} {f fb : M Dat}
def fmtD : Dat → Option Dat
  | .str y => if y.length ≤ SZ then some (.str y) else none
  | .int i => if i.natAbs < 18446744073709551616 then some (.str (toString i)) else none
  | _ => none
theorem ped_fmt (he : PED X τ p e f) : PED X τ p (.FormattedValue e (-1) none pos) (un fmtD f) := PE.imp (pe_fmt he) fun σ H Q hz _ ⟨ρ, B, fp, S, d, ρ', hf, k⟩ => by
  obtain ⟨x, ρ1, h1, hf⟩ := bnd_some hf
  obtain ⟨h3, e3⟩ := lift_some hf
  subst e3
  refine ⟨ρ, B, fp, S, _, _, h1, fun v1 H1 B1 fp1 z1 S1 t1 u1 r1 => ?_⟩
  unfold fmtD at h3
  split at h3
  · split at h3
    · rename_i hs
      cases h3
      exact .inl ⟨_, r1.str_inv, by rw [sizeLine_eq]; exact hs, fun hz' => k _ H1 B1 fp1 hz' S1 t1 u1 (.str _)⟩
    · cases h3
  · split at h3
    · rename_i hs
      cases h3
      exact .inr ⟨_, r1.int_inv, log_small hs, fun hz' => k _ H1 B1 fp1 hz' S1 t1 u1 (.str _)⟩
    · cases h3
  · cases h3
inductive PJD (X : Cx) (τ : List V) : Bool → List Expr → List (M Dat) → Prop where
  | nil : PJD X τ true [] []
  | cons {pa pb : Bool} {e : Expr} {t : M Dat} {es : List Expr} {ts : List (M Dat)} (h : PED X τ pa e t) (r : PJD X τ pb es ts) : PJD X τ (pa && pb) (e :: es) (t :: ts)
/-- the readings of the parts -/
inductive JT (K : PySem.W.Frag) (τ : List V) : Bool → List (M Dat) → List TE → Prop where
  | nil : JT K τ true [] []
  | cons {pa pb : Bool} {t : M Dat} {ts : List (M Dat)} {us : List TE} (r : JT K τ pb ts us) : JT K τ (pa && pb) (t :: ts) (tDat K τ pa t :: us)
theorem PJD.pj {ts : List (M Dat)} (h : PJD X τ p es ts) : ∃ us, PJ X es us ∧ JT X.K τ p ts us := by
  induction h with
  | nil => exact ⟨[], .nil, .nil⟩
  | cons h r ih =>
    obtain ⟨us, h1, h2⟩ := ih
    exact ⟨_, .cons h h1, .cons h2⟩
def joinedM : Str → List (M Dat) → M Dat
  | acc, [] => ret (.str acc)
  | acc, f :: fs => bnd f fun d => match d with
    | .str y => if (acc ++ y).length ≤ SZ then joinedM (acc ++ y) fs else fun _ => none
    | _ => fun _ => none
theorem tJs_imp {ts : List (M Dat)} {us : List TE} (h : JT X.K τ p ts us) : ∀ {acc : Str} {σ : St} {H : Hp} {Q : VK}, HSz H → tDat X.K τ p (joinedM acc ts) σ H Q → tJs us acc σ H fun out H1 => HSz H1 → Q (.str out) H1 := by
  induction h with
  | nil =>
    rintro acc σ H Q hz ⟨ρ, B, fp, S, d, ρ', hf, k⟩
    cases hf
    exact fun hz' => k _ H B fp hz' S Tr.refl (fun _ => Pu.refl) (.str _)
  | @cons pa pb t ts us r ih =>
    rintro acc σ H Q hz ⟨ρ, B, fp, S, d, ρ', hf, k⟩
    obtain ⟨x, ρ1, h1, k1⟩ := bnd_some hf
    refine ⟨ρ, B, fp, S, x, ρ1, h1, fun v1 H1 B1 fp1 z1 S1 t1 u1 r1 => ?_⟩
    cases x with
    | str y =>
      have k2 : (if (acc ++ y).length ≤ SZ then joinedM (acc ++ y) ts else fun _ => none) ρ1 = some (d, ρ') := k1
      split at k2
      · rename_i hs
        exact ⟨y, r1.str_inv, by rw [sizeLine_eq]; exact hs, ih z1 ⟨ρ1, B1, fp1, S1, d, ρ', k2, fun v2 H2 B2 fp2 z2 S2 t2 u2 r2 => k v2 H2 B2 fp2 z2 S2 (t1.trans t2) (pu_and u1 u2) r2⟩⟩
      · cases k2
    | _ => cases k1
theorem ped_joined {rest : List Expr} {ts : List (M Dat)} (h : PJD X τ p (v1 :: v2 :: rest) ts) : PED X τ p (.JoinedStr (v1 :: v2 :: rest) pos) (joinedM Str.empty ts) := by
  obtain ⟨us, h1, h2⟩ := h.pj
  exact PE.imp (pe_joined h1) fun σ H Q hz _ h => tJs_imp h2 hz h
end
end DL

set_option Elab.async false
set_option linter.all false
set_option maxRecDepth 100000
set_option maxHeartbeats 2000000
namespace DL
open PySem L2

/-! ### a list one's own, at its place -/
section
variable {K : PySem.W.Frag} {τ : List V} {B : Hp} {σ : L2.St} {H : Hp} {ρ : Env} {fp : Nat → List Addr}
theorem Tr.upd {a : Addr} {o : HO} (h : own fp a) : Tr B H fp B (upd H a o) fp := ⟨fun c u hc n => by
    rw [upd_ne fun e => n (by rw [e]; exact h)]; exact hc, Ex.refl _, fun _ _ z => .inl z, fun _ z => .inl z⟩
/-- slot i's owner changes what it owns; the rest stays -/
theorem SR.change (S : SR K τ B σ H ρ fp) {i : Nat} {s s' : Sl} {b : Addr} {o : HO} {v : V} (hi : ρ[i]? = some (some s)) (hb : b ∈ fp i) (hv : σ[i]? = some (some v)) (r : RepS K τ B (upd H b o) v s' (fp i)) : SR K τ B σ (upd H b o) (ρ.set i (some s')) fp := by
  have hil : i < ρ.length := (List.getElem?_eq_some_iff.mp hi).1
  refine ⟨fun j s0 q => ?_, fun j q => ?_, S.dis, S.sep, fun c u hc => ?_⟩
  · by_cases hj : j = i
    · subst hj
      rw [List.getElem?_set_self hil] at q
      cases q
      exact ⟨v, hv, r⟩
    · rw [List.getElem?_set_ne (Ne.symm hj)] at q
      obtain ⟨u, h1, h2⟩ := S.rel j s0 q
      exact ⟨u, h1, h2.any fun c hc => upd_ne fun e => S.dis j i hj c hc (e ▸ hb)⟩
  · by_cases hj : j = i
    · subst hj
      exact absurd (List.getElem?_set_self hil) (q s')
    · exact S.emp j fun s0 z => q s0 (by rw [List.getElem?_set_ne (Ne.symm hj)]; exact z)
  · rw [upd_ne fun e => by rw [e, S.sep i b hb] at hc; cases hc]
    exact S.le c u hc
theorem SR.ol (S : SR K τ B σ H ρ fp) {i : Nat} {t : Option Nat} {ds : List Dat} (hi : ρ[i]? = some (some (.ol t ds))) : ∃ a xs, σ[i]? = some (some (.ref a)) ∧ a ∈ fp i ∧ H a = some (.lst xs) ∧ RepAll K B xs ds ∧
    ∀ ys es, RepAll K B ys es → SR K τ B σ (L2.upd H a (.lst ys)) (ρ.set i (some (.ol t es))) fp := by
  obtain ⟨v, h1, h2⟩ := S.rel i _ hi
  obtain ⟨a, xs, rfl, e, h3, h4, h5⟩ := h2.ol_inv
  refine ⟨a, xs, h1, by rw [e]; simp, h3, h4, fun ys es r => S.change hi (by rw [e]; simp) h1 ?_⟩
  rw [e]
  exact .ol upd_same r h5
end
/-- field f holds s' -/
def setS (f : Str) (s' : Sl) : List (Str × Sl) → List (Str × Sl)
  | [] => []
  | (g, s) :: r => if (f == g) = true then (g, s') :: r else (g, s) :: setS f s' r
section
variable {K : PySem.W.Frag} {τ : List V} {B : Hp} {σ : L2.St} {H : Hp} {ρ : Env} {fp : Nat → List Addr}
theorem RepSF.olAt {f : Str} {t : Option Nat} {ds : List Dat} : ∀ {fvs : List (Str × V)} {fs : List (Str × Sl)} {A : List Addr}, RepSF K τ B H fvs fs A → fs.lookup f = some (.ol t ds) →
    ∃ b xs, fvs.lookup f = some (.ref b) ∧ b ∈ A ∧ H b = some (.lst xs) ∧ RepAll K B xs ds ∧ ∀ ys es, RepAll K B ys es → RepSF K τ B (upd H b (.lst ys)) fvs (setS f (.ol t es) fs) A
  | _, _, _, .nil, h => by simp at h
  | _, _, _, .cons (f := g) (A1 := A1) (A2 := A2) r rr dd, h => by
    by_cases q : (f == g) = true
    · simp only [List.lookup, q] at h ⊢
      cases h
      obtain ⟨b, xs, rfl, e, h3, h4, h5⟩ := r.ol_inv
      subst e
      refine ⟨b, xs, rfl, by simp, h3, h4, fun ys es ra => ?_⟩
      unfold setS
      rw [if_pos q]
      exact .cons (.ol upd_same ra h5) (rr.mono (Ex.refl _) fun c hc => upd_ne fun e => dd b (by simp) (e ▸ hc)) dd
    · have q' : (f == g) = false := by simpa using q
      simp only [List.lookup, q'] at h ⊢
      obtain ⟨b, xs, h1, h2, h3, h4, h5⟩ := RepSF.olAt rr h
      refine ⟨b, xs, h1, List.mem_append_right _ h2, h3, h4, fun ys es ra => ?_⟩
      unfold setS
      rw [if_neg q]
      exact .cons (r.any fun c hc => upd_ne fun e => dd c hc (e ▸ h2)) (h5 ys es ra) dd
theorem SR.olF (S : SR K τ B σ H ρ fp) {i : Nat} {t t2 : Option Nat} {c f : Str} {fs : List (Str × Sl)} {ds : List Dat} (hi : ρ[i]? = some (some (.oo t c fs))) (hf : fs.lookup f = some (.ol t2 ds)) :
    ∃ a dx fvs b xs, σ[i]? = some (some (.ref a)) ∧ H a = some (.ins (He.ga K c) dx fvs) ∧ fvs.lookup f = some (.ref b) ∧ b ∈ fp i ∧ H b = some (.lst xs) ∧ RepAll K B xs ds ∧
      ∀ ys es, RepAll K B ys es → SR K τ B σ (L2.upd H b (.lst ys)) (ρ.set i (some (.oo t c (setS f (.ol t2 es) fs)))) fp := by
  obtain ⟨v, h1, h2⟩ := S.rel i _ hi
  obtain ⟨a, dx, fvs, A', rfl, e, h3, h4, h5, h6⟩ := h2.oo_inv
  obtain ⟨b, xs, g1, g2, g3, g4, g5⟩ := h4.olAt hf
  have hb : b ∈ fp i := by rw [e]; exact List.mem_cons_of_mem _ g2
  refine ⟨a, dx, fvs, b, xs, h1, h3, g1, hb, g3, g4, fun ys es r => S.change hi hb h1 ?_⟩
  rw [e]
  have h7 : upd H b (.lst ys) a = some (.ins (He.ga K c) dx fvs) := by
    rw [upd_ne fun e => h5 (by rw [e]; exact g2)]; exact h3
  exact .oo h7 (g5 ys es r) h5 h6
end
/-- where a list of one's own stands -/
inductive Pl where
  | nm (i : Nat)
  | fl (i : Nat) (c f : Str)
def getN (i : Nat) (ρ : Env) : Option (List Dat) := match ρ[i]? with
  | some (some (.ol _ ds)) => some ds
  | _ => none
def getF (i : Nat) (c f : Str) (ρ : Env) : Option (List Dat) := match ρ[i]? with
  | some (some (.oo _ c' fs)) => if c' = c then (match fs.lookup f with
    | some (.ol _ ds) => some ds
    | _ => none) else none
  | _ => none
def setN (i : Nat) (es : List Dat) (ρ : Env) : Env := match ρ[i]? with
  | some (some (.ol t _)) => ρ.set i (some (.ol t es))
  | _ => ρ
def setF (i : Nat) (f : Str) (es : List Dat) (ρ : Env) : Env := match ρ[i]? with
  | some (some (.oo t c fs)) => match fs.lookup f with
    | some (.ol t2 _) => ρ.set i (some (.oo t c (setS f (.ol t2 es) fs)))
    | _ => ρ
  | _ => ρ
def getP : Pl → Env → Option (List Dat)
  | .nm i => getN i
  | .fl i c f => getF i c f
def setP : Pl → List Dat → Env → Env
  | .nm i => setN i
  | .fl i _ f => setF i f
def isNm : Pl → Bool
  | .nm _ => true
  | .fl _ _ _ => false
/-- a is the list at that place, whatever comes -/
def LAt (K : PySem.W.Frag) (τ : List V) (pl : Pl) (σ : L2.St) (H : Hp) (ρ : Env) (fp : Nat → List Addr) (a : Addr) : Prop :=
  ∀ (B' H' : Hp) (ρ' : Env) (fp' : Nat → List Addr) (ds : List Dat), SR K τ B' σ H' ρ' fp' → (isNm pl = true ∨ (ρ' = ρ ∧ fp' = fp ∧ Ex H H')) → getP pl ρ' = some ds →
    ∃ xs, H' a = some (.lst xs) ∧ RepAll K B' xs ds ∧ own fp' a ∧ ∀ ys es, RepAll K B' ys es → SR K τ B' σ (upd H' a (.lst ys)) (setP pl es ρ') fp'
def tPl (K : PySem.W.Frag) (τ : List V) (pl : Pl) : TE := fun σ H Q => ∃ ρ B fp, SR K τ B σ H ρ fp ∧ ∃ ds, getP pl ρ = some ds ∧ ∀ a, LAt K τ pl σ H ρ fp a → Q (.ref a) H
abbrev PPl (X : Cx) (τ : List V) (e : Expr) (pl : Pl) : Prop := PE X e (tPl X.K τ pl)
theorem getP_nm {i : Nat} {ρ : Env} {ds : List Dat} (h : getP (.nm i) ρ = some ds) : ∃ t, ρ[i]? = some (some (.ol t ds)) := by
  have h : getN i ρ = some ds := h
  unfold getN at h
  split at h
  · rename_i t ds' q; cases h; exact ⟨t, q⟩
  · cases h
theorem getP_fl {i : Nat} {c f : Str} {ρ : Env} {ds : List Dat} (h0 : getP (.fl i c f) ρ = some ds) : ∃ t fs t2, ρ[i]? = some (some (.oo t c fs)) ∧ fs.lookup f = some (.ol t2 ds) := by
  have h : getF i c f ρ = some ds := h0
  clear h0
  unfold getF at h
  split at h
  · rename_i t c' fs q
    split at h
    · rename_i hc
      subst hc
      split at h
      · rename_i t2 ds' q2; cases h; exact ⟨t, fs, t2, q, q2⟩
      · cases h
    · cases h
  · cases h
section
variable {X : Cx} {τ : List V} {p pa pb : Bool} {e a b o i : Expr} {es : List Expr} {pos q apos cpos : Pos} {pl : Pl} {fa : M (List Dat)}
theorem ppl_nm (i : Nat) {x : Str} (h : PE X (.Name x q) (tVar i)) : PPl X τ (.Name x q) (.nm i) := PE.imp h fun σ H Q hz _ ⟨ρ, B, fp, S, ds, hg, k⟩ => by
  obtain ⟨t, hq⟩ := getP_nm hg
  obtain ⟨a, xs, h1, _⟩ := S.ol hq
  refine ⟨_, h1, fun _ => k a fun B' H' ρ' fp' ds' S' _ hg' => ?_⟩
  obtain ⟨t', hq'⟩ := getP_nm hg'
  obtain ⟨a', xs', g1, g2, g3, g4, g5⟩ := S'.ol hq'
  rw [h1] at g1
  cases g1
  refine ⟨xs', g3, g4, ⟨i, g2⟩, fun ys es r => ?_⟩
  have : setP (.nm i) es ρ' = ρ'.set i (some (.ol t' es)) := by show setN i es ρ' = _; unfold setN; rw [hq']
  rw [this]
  exact g5 ys es r
theorem ppl_fl (i : Nat) {c f x : Str} (hc : Cls X.K (He.ga X.K c)) (hn : NoAttr X.K (He.ga X.K c) f) (h : PE X (.Name x q) (tVar i)) (hb : attributeBase (.Name x q) f X.env (eval (.Name x q) X.env) = eval (.Name x q) X.env := by rfl) : PPl X τ (.Attribute (.Name x q) f pos) (.fl i c f) :=
  PE.imp (pe_fld h hb) fun σ H Q hz _ ⟨ρ, B, fp, S, ds, hg, k⟩ => by
    obtain ⟨t, fs, t2, hq, hf⟩ := getP_fl hg
    obtain ⟨a, dx, fvs, b, xs, h1, h2, h3, h4, h5, h6, h7⟩ := S.olF hq hf
    refine ⟨_, h1, a, _, dx, fvs, .ref b, rfl, h2, hc, hn, h3, fun _ => k b fun B' H' ρ' fp' ds' S' hw hg' => ?_⟩
    rcases hw with hw | ⟨rfl, rfl, ex⟩
    · cases hw
    · obtain ⟨t', fs', t2', hq', hf'⟩ := getP_fl hg'
      obtain ⟨a', dx', fvs', b', xs', g1, g2, g3, g4, g5, g6, g7⟩ := S'.olF hq' hf'
      rw [h1] at g1
      cases g1
      rw [ex _ _ h2] at g2
      cases g2
      rw [h3] at g3
      cases g3
      refine ⟨xs', g5, g6, ⟨i, g4⟩, fun ys es r => ?_⟩
      have : setP (.fl i c f) es ρ' = ρ'.set i (some (.oo t' c (setS f (.ol t2' es) fs'))) := by show setF i f es ρ' = _; unfold setF; rw [hq']; simp only; rw [hf']
      rw [this]
      exact g7 ys es r
/-! methods of it -/
def LmD (K : PySem.W.Frag) (r : V → List V → Hp → VK → Prop) (g : List Dat → List Dat → Option (List Dat × Dat)) : Prop := ∀ (B H : Hp) (a : Addr) (xs vs : List V) (ds as ds' : List Dat) (dz : Dat) (Q : VK), HSz H → Ex B H → H a = some (.lst xs) → RepAll K B xs ds → RepAll K B vs as → g ds as = some (ds', dz) →
  (∀ v ys, RepAll K B ys ds' → Rep K B v dz → Q v (upd H a (.lst ys))) → r (.ref a) vs H Q
def mutM (pl : Pl) (g : List Dat → List Dat → Option (List Dat × Dat)) (fa : M (List Dat)) : M Dat := fun ρ => match getP pl ρ with
  | some _ => match fa ρ with
    | some (as, ρ1) => match getP pl ρ1 with
      | some ds => match g ds as with
        | some (ds', dz) => some (dz, setP pl ds' ρ1)
        | none => none
      | none => none
    | none => none
  | none => none
variable {name : Str} {id : String} {r : V → List V → Hp → VK → Prop} {g : List Dat → List Dat → Option (List Dat × Dat)}
theorem mutM_some {fa : M (List Dat)} {ρ ρ' : Env} {dz : Dat} (h : mutM pl g fa ρ = some (dz, ρ')) : ∃ ds0 as ρ1 ds ds', getP pl ρ = some ds0 ∧ fa ρ = some (as, ρ1) ∧ getP pl ρ1 = some ds ∧ g ds as = some (ds', dz) ∧ ρ' = setP pl ds' ρ1 := by
  unfold mutM at h
  split at h
  · rename_i ds0 h0
    split at h
    · rename_i as ρ1 h1
      split at h
      · rename_i ds h2
        split at h
        · rename_i ds' dz' h3
          cases h
          exact ⟨ds0, as, ρ1, ds, ds', h0, h1, h2, h3, rfl⟩
        · cases h
      · cases h
    · cases h
  · cases h
theorem lat_isL {K : PySem.W.Frag} {σ : L2.St} {H B : Hp} {ρ : Env} {fp : Nat → List Addr} {ds : List Dat} {a : Addr} (S : SR K τ B σ H ρ fp) (L : LAt K τ pl σ H ρ fp a) (h : getP pl ρ = some ds) : ∃ xs, SqL K H a xs := by
  obtain ⟨xs, h1, _⟩ := L B H ρ fp ds S (.inr ⟨rfl, rfl, Ex.refl _⟩) h
  exact ⟨xs, .inl (.inl h1)⟩
theorem ped_mut (slot : Slot "list" name id) (hty : typeOf (.builtin id) = pure (.type "method_descriptor")) (hm : MtR X id r) (hd : LmD X.K r g) (ho : PPl X τ o pl) (ha : PAD X τ p (e :: es) fa) (hp : (isNm pl || p) = true)
    (hbase : attributeBase o name X.env (eval o X.env) = eval o X.env := by rfl)
    (hfew : ((backTo cpos (starEach (e :: es) X.env)).all (fun x => !x.1) && (backToKw cpos (keywordEach [] X.env)).all (fun x => x.1.isSome)
      && decide ((e :: es).length + ([] : List Keyword).length + (if ([] : List Keyword).isEmpty then 0 else 1) < 30)) = true := by rfl)
    (hline : (apos.endLine == cpos.line) = true := by rfl) (hs : starEach (e :: es) X.env = (false, eval e X.env) :: starEach es X.env := by rfl) (hplain : (backTo cpos (starEach es X.env)).any (·.1) = false := by rfl) :
    PED X τ false (.Call (.Attribute o name apos) (e :: es) [] cpos) (mutM pl g fa) :=
  PE.imp (pe_bm PySem.F.plainAttrs_list slot hty hm ho ha hbase hfew hline hs hplain) fun σ H Q hz _ ⟨ρ, B, fp, S, dz, ρ', hf, k⟩ => by
    obtain ⟨ds0, as, ρ1, ds, ds', h0, h1, h2, h3, rfl⟩ := mutM_some hf
    refine ⟨ρ, B, fp, S, ds0, h0, fun a L => ⟨.inl ⟨rfl, lat_isL S L h0⟩, ρ, B, fp, S, as, ρ1, h1, fun vs H1 B1 fp1 z1 S1 t1 u1 r1 => ?_⟩⟩
    have hw : isNm pl = true ∨ (ρ1 = ρ ∧ fp1 = fp ∧ Ex H H1) := by
      rcases Bool.or_eq_true_iff.mp hp with q | q
      · exact .inl q
      · exact .inr ⟨(u1 q).er, (u1 q).ef, (u1 q).ex⟩
    obtain ⟨xs, g1, g2, g3, g4⟩ := L B1 H1 ρ1 fp1 ds S1 hw h2
    exact hd B1 H1 a xs vs ds as ds' dz _ z1 S1.le g1 g2 r1 h3 fun v ys ry rv hz' => k v _ B1 fp1 hz' (g4 ys ds' ry) (t1.trans (Tr.upd g3)) (fun z => nomatch z) rv
theorem ped_mut0 (slot : Slot "list" name id) (hty : typeOf (.builtin id) = pure (.type "method_descriptor")) (hm : MtR X id r) (hd : LmD X.K r g) (ho : PPl X τ o pl)
    (hbase : attributeBase o name X.env (eval o X.env) = eval o X.env := by rfl) (hline : (apos.endLine == cpos.line) = true := by rfl) : PED X τ false (.Call (.Attribute o name apos) [] [] cpos) (mutM pl g nilA) :=
  PE.imp (pe_bm0 PySem.F.plainAttrs_list slot hty hm ho hbase hline) fun σ H Q hz _ ⟨ρ, B, fp, S, dz, ρ', hf, k⟩ => by
    obtain ⟨ds0, as, ρ1, ds, ds', h0, h1, h2, h3, rfl⟩ := mutM_some hf
    cases h1
    refine ⟨_, B, fp, S, ds0, h0, fun a L => ⟨.inl ⟨rfl, lat_isL S L h0⟩, ?_⟩⟩
    obtain ⟨xs, g1, g2, g3, g4⟩ := L B H _ fp ds S (.inr ⟨rfl, rfl, Ex.refl _⟩) h2
    exact hd B H a xs [] ds [] ds' dz _ hz S.le g1 g2 .nil h3 fun v ys ry rv hz' => k v _ B fp hz' (g4 ys ds' ry) (Tr.upd g3) (fun z => nomatch z) rv
end
section
variable {K : PySem.W.Frag}
def appG (ds : List Dat) : List Dat → Option (List Dat × Dat)
  | [d] => if ds.length < SZ then some (ds ++ [d], .non) else none
  | _ => none
theorem appG_ok : LmD K rAppend appG := fun B H a xs vs ds as ds' dz Q hz le ha r rv hg k => by
  unfold appG at hg
  split at hg
  · split at hg
    · rename_i d hs
      cases hg
      obtain ⟨v, rfl, r2⟩ := rv.one_inv
      exact ⟨a, xs, v, rfl, rfl, ha, by rw [sizeLine_eq, r.length]; exact hs, k _ _ (r.snoc r2) .non⟩
    · cases hg
  · cases hg
def extG (ds : List Dat) : List Dat → Option (List Dat × Dat)
  | [.lst es] => if ds.length + es.length ≤ SZ then some (ds ++ es, .non) else none
  | _ => none
theorem extG_ok : LmD K rExtend extG := fun B H a xs vs ds as ds' dz Q hz le ha r rv hg k => by
  unfold extG at hg
  split at hg
  · split at hg
    · rename_i es hs
      cases hg
      obtain ⟨v, rfl, r2⟩ := rv.one_inv
      obtain ⟨b, ys, rfl, q, r3⟩ := r2.lst_inv
      exact ⟨a, b, xs, ys, rfl, rfl, ha, le _ _ q, by rw [sizeLine_eq, r.length, r3.length]; exact hs, k _ _ (r.append r3) .non⟩
    · cases hg
  · cases hg
def popG (ds : List Dat) : List Dat → Option (List Dat × Dat)
  | [] => (ds[ds.length - 1]?).map fun d => (ds.dropLast, d)
  | [.int i] => if -9223372036854775808 ≤ i ∧ i < 9223372036854775808 then (match seqIndex? i ds.length with
    | some k => (ds[k]?).map fun d => (ds.eraseIdx k, d)
    | none => none) else none
  | _ => none
theorem RepAll.dropLast {H : Hp} : ∀ {vs : List V} {ds : List Dat}, RepAll K H vs ds → RepAll K H vs.dropLast ds.dropLast
  | _, _, .nil => .nil
  | _, _, .cons h .nil => .nil
  | _, _, .cons h (.cons h2 r) => .cons h (RepAll.dropLast (.cons h2 r))
def rPopU : V → List V → Hp → VK → Prop := fun x vs H Q => rPop x vs H Q ∨ rPopAt x vs H Q
theorem mt_popU {X : Cx} : MtR X "list.pop" rPopU := MtR.or (r := rPop) (r' := rPopAt) mt_pop mt_popAt
theorem popG_ok : LmD K rPopU popG := fun B H a xs vs ds as ds' dz Q hz le ha r rv hg k => by
  unfold popG at hg
  split at hg
  · obtain ⟨d, h1, h2⟩ := Option.map_eq_some_iff.mp hg
    cases h2
    cases rv
    obtain ⟨v, h3, h4⟩ := r.get h1
    exact .inl ⟨a, xs, v, rfl, rfl, ha, by rw [r.length]; exact h3, k _ _ r.dropLast h4⟩
  · split at hg
    · rename_i i hi
      split at hg
      · rename_i n hn
        obtain ⟨d, h1, h2⟩ := Option.map_eq_some_iff.mp hg
        cases h2
        obtain ⟨v, rfl, r2⟩ := rv.one_inv
        rw [r2.int_inv]
        obtain ⟨w, h3, h4⟩ := r.get h1
        exact .inr ⟨a, xs, i, n, w, rfl, rfl, ha, by omega, by omega, by rw [r.length]; exact hn, h3, k _ _ (r.eraseIdx n) h4⟩
      · cases hg
    · cases hg
  · cases hg
end
/-! xs[i] = e -/
section
variable {X : Cx} {τ : List V} {p pa pb : Bool} {e a b o i : Expr} {es : List Expr} {pos q apos cpos : Pos} {pl : Pl} {f fi : M Dat}
def putAt (pl : Pl) (fv fi : M Dat) : Fm := fun ρ => match fv ρ with
  | some (d, ρ1) => match getP pl ρ1 with
    | some ds => match fi ρ1 with
      | some (.int j, ρ2) => match ixN ds.length j with
        | some n => some (.nx, setP pl (ds.set n d) ρ1)
        | none => none
      | _ => none
    | none => none
  | none => none
theorem ixN_seqIx {n : Nat} {i : Int} {j : Nat} (h : ixN n i = some j) : j < n := by
  unfold ixN at h
  split at h
  · split at h
    · cases h; omega
    · cases h
  · split at h
    · cases h; omega
    · cases h
theorem psd_put (he : PED X τ p e f) (ho : PPl X τ o pl) (hi : PED X τ true i fi) (hs : swapsWithSole [.Subscript o i q] e pos.line X.env = pure false := by rfl) (hw : swappedStores [.Subscript o i q] e X.env = pure none := by rfl)
    (h1 : (assignEach [.Subscript o i q] X.env).map (·.2) = [assign (.Subscript o i q) X.env] := by rfl)
    (hasg : ∀ v, assign (.Subscript o i q) X.env v = (do
      let ov ← holding [v] (eval o X.env)
      let iv ← holding [v, ov] (eval i X.env)
      standAt q
      holding [v, ov, iv] (setItem ov iv v)
      release [v, ov, iv] []) := by intro _; rfl) : PSD X τ (.Assign [.Subscript o i q] e pos) (putAt pl f fi) :=
  PS.imp (ps_asg he (pg_sub ho hi set_list hasg) hs hw h1) fun D σ H hz hl ⟨ρ, B, fp, S, fl, ρ', hf, k⟩ => by
    unfold putAt at hf
    split at hf
    · rename_i d ρ1 q1
      split at hf
      · rename_i ds q2
        split at hf
        · rename_i j ρ2 q3
          split at hf
          · rename_i n q4
            cases hf
            refine ⟨ρ, B, fp, S, d, ρ1, q1, fun v H1 B1 fp1 z1 S1 t1 u1 r1 => ⟨ρ1, B1, fp1, S1, ds, q2, fun a L => ⟨ρ1, B1, fp1, S1, _, ρ2, q3, fun w H2 B2 fp2 z2 S2 t2 u2 r2 => ?_⟩⟩⟩
            obtain ⟨x1, x2, x3⟩ := u2 rfl
            subst x2 x3
            obtain ⟨xs, g1, g2, g3, g4⟩ := L B2 H2 _ _ ds S2 (.inr ⟨rfl, rfl, x1⟩) q2
            refine ⟨a, xs, j, n, rfl, r2.int_inv, g1, by rw [g2.length]; exact q4, fun hz' hl' => ?_⟩
            exact k _ _ B2 _ hz' rfl (g4 _ _ (g2.set (r1.mono t2.ex) n)) ((t1.trans t2).trans (Tr.upd g3))
          · cases hf
        · cases hf
      · cases hf
    · cases hf
end
end DL

set_option Elab.async false
set_option linter.all false
set_option maxRecDepth 100000
set_option maxHeartbeats 2000000
namespace DL
open PySem L2

/-! ### reading by giving up what one owns -/
def vrF (i : Nat) : M Dat := fun ρ => match ρ[i]? with
  | some (some s) => some (frz s, ρ.set i (some (.sh (frz s))))
  | _ => none
section
variable {K : PySem.W.Frag} {τ : List V} {B B' : Hp} {σ : L2.St} {H H' : Hp} {ρ : Env} {fp : Nat → List Addr}
/-- slot i's things are shared from now on -/
theorem SR.share (S : SR K τ B σ H ρ fp) {i : Nat} {s : Sl} (hi : ρ[i]? = some (some s)) : ∃ v, σ[i]? = some (some v) ∧ Rep K (add B H (fp i)) v (frz s) ∧ SR K τ (add B H (fp i)) σ H (ρ.set i (some (.sh (frz s)))) (fun j => if j = i then [] else fp j) := by
  have := S.view i
  have e : viewE i ρ = ρ.set i (some (.sh (frz s))) := by unfold viewE; rw [hi]
  rw [e] at this
  obtain ⟨v, h1, h2⟩ := S.rel i s hi
  exact ⟨v, h1, h2.frz (add_ex (S.sep i)) fun a ha => add_in ha, this⟩
theorem Tr.share (S : SR K τ B σ H ρ fp) (i : Nat) : Tr B H fp (add B H (fp i)) H (fun j => if j = i then [] else fp j) := by
  refine ⟨fun _ _ h _ => h, add_ex (S.sep i), fun a o h => ?_, fun a ⟨j, hj⟩ => ?_⟩
  · by_cases q : a ∈ fp i
    · exact .inr (.inr ⟨i, q⟩)
    · rw [add_out q] at h; exact .inl h
  · dsimp only at hj
    split at hj
    · cases hj
    · exact .inl ⟨j, hj⟩
end
section
variable {X : Cx} {τ : List V} {p pa pb : Bool} {e a b o : Expr} {es : List Expr} {pos q q2 : Pos} {f : M Dat}
theorem ped_varF (i : Nat) {x : Str} (h : PE X (.Name x pos) (tVar i)) : PED X τ false (.Name x pos) (vrF i) := PE.imp h fun σ H Q hz _ ⟨ρ, B, fp, S, d, ρ', hf, k⟩ => by
  unfold vrF at hf
  split at hf
  · rename_i s q
    cases hf
    obtain ⟨v, h1, h2, h3⟩ := S.share q
    exact ⟨v, h1, fun hz' => k v H _ _ hz' h3 (Tr.share S i) (fun z => nomatch z) h2⟩
  · cases hf
/-- x, handed on with all it owns: the slot is given up -/
def vrO (i : Nat) : M Sl := fun ρ => match ρ[i]? with
  | some (some s) => some (s, ρ.set i none)
  | _ => none
theorem SR.give {K : PySem.W.Frag} {B : Hp} {σ : L2.St} {H : Hp} {ρ : Env} {fp : Nat → List Addr} (S : SR K τ B σ H ρ fp) (i : Nat) : SR K τ B σ H (ρ.set i none) (fun j => if j = i then [] else fp j) := by
  refine ⟨fun j s q => ?_, fun j q => ?_, fun j k hjk a ha hb => ?_, fun j a ha => ?_, S.le⟩
  · by_cases hj : j = i
    · subst hj
      by_cases hl : j < ρ.length
      · rw [List.getElem?_set_self hl] at q; cases q
      · rw [List.getElem?_eq_none (by simpa using hl)] at q; cases q
    · rw [List.getElem?_set_ne (Ne.symm hj)] at q
      rw [if_neg hj]
      exact S.rel j s q
  · by_cases hj : j = i
    · simp [hj]
    · simp only [hj, if_false]
      exact S.emp j fun s z => q s (by rw [List.getElem?_set_ne (Ne.symm hj)]; exact z)
  · split at ha
    · cases ha
    · split at hb
      · cases hb
      · exact S.dis j k hjk a ha hb
  · split at ha
    · cases ha
    · exact S.sep j a ha
theorem peo_varO (i : Nat) {x : Str} (h : PE X (.Name x pos) (tVar i)) : PEO X τ false (.Name x pos) (vrO i) := PE.imp h fun σ H Q hz _ ⟨ρ, B, fp, S, d, ρ', hf, k⟩ => by
  unfold vrO at hf
  split at hf
  · rename_i s q
    cases hf
    obtain ⟨v, h1, h2⟩ := S.rel i _ q
    refine ⟨v, h1, fun hz' => k v H B _ (fp i) hz' (S.give i) ⟨fun _ _ h _ => h, Ex.refl _, fun _ _ z => .inl z, fun a ⟨j, hj⟩ => ?_⟩ (fun z => nomatch z) h2 ⟨S.sep i, fun a ha ⟨j, hj⟩ => ?_, fun a ha => .inl ⟨i, ha⟩⟩⟩
    · dsimp only at hj
      split at hj
      · cases hj
      · exact .inl ⟨j, hj⟩
    · dsimp only at hj
      split at hj
      · cases hj
      · rename_i hji
        exact S.dis j i hji a hj ha
  · cases hf
end

/-! ### self.f = e -/
def putS (f : Str) (s : Sl) : List (Str × Sl) → List (Str × Sl)
  | [] => [(f, s)]
  | (g, x) :: r => if g = f then (g, s) :: r else (g, x) :: putS f s r
section
variable {K : PySem.W.Frag} {τ : List V} {B : Hp} {σ : L2.St} {H : Hp} {ρ : Env} {fp : Nat → List Addr}
theorem RepSF.put {f : Str} {y : V} {s : Sl} {A1 : List Addr} (ry : RepS K τ B H y s A1) : ∀ {fvs : List (Str × V)} {fs : List (Str × Sl)} {A : List Addr}, RepSF K τ B H fvs fs A → (∀ a ∈ A1, a ∉ A) →
    ∃ A', RepSF K τ B H (putF f y fvs) (putS f s fs) A' ∧ ∀ a ∈ A', a ∈ A ∨ a ∈ A1
  | _, _, _, .nil, hd => ⟨A1 ++ [], .cons ry .nil fun a ha => by simp, fun a ha => .inr (by simpa using ha)⟩
  | _, _, _, .cons (f := g) (A1 := A2) (A2 := A3) r rr dd, hd => by
    unfold putF putS
    by_cases q : g = f
    · rw [if_pos q, if_pos q]
      exact ⟨A1 ++ A3, .cons ry rr fun a ha z => hd a ha (List.mem_append_right _ z), fun a ha => (List.mem_append.mp ha).elim (fun z => .inr z) fun z => .inl (List.mem_append_right _ z)⟩
    · rw [if_neg q, if_neg q]
      obtain ⟨A', h1, h2⟩ := RepSF.put ry rr fun a ha z => hd a ha (List.mem_append_right _ z)
      refine ⟨A2 ++ A', .cons r h1 fun a ha z => ?_, fun a ha => ?_⟩
      · rcases h2 a z with w | w
        · exact dd a ha w
        · exact hd a w (List.mem_append_left _ ha)
      · rcases List.mem_append.mp ha with z | z
        · exact .inl (List.mem_append_left _ z)
        · exact (h2 a z).imp (List.mem_append_right _) id
theorem RepSF.len : ∀ {fvs : List (Str × V)} {fs : List (Str × Sl)} {A : List Addr}, RepSF K τ B H fvs fs A → fvs.length = fs.length
  | _, _, _, .nil => rfl
  | _, _, _, .cons _ r _ => congrArg Nat.succ (RepSF.len r)
/-- the object's field holds what was made -/
theorem SR.putFld {B0 H0 : Hp} {fp0 : Nat → List Addr} {A1 : List Addr} {y : V} {s : Sl} {i : Nat} {t : Option Nat} {c f : Str} {fs : List (Str × Sl)} (S : SR K τ B σ H ρ fp) (hi : ρ[i]? = some (some (.oo t c fs))) (ry : RepS K τ B H y s A1) (z : Sep B0 H0 fp0 B fp A1) (t1 : Tr B0 H0 fp0 B H fp) :
    ∃ a dx fvs, σ[i]? = some (some (.ref a)) ∧ H a = some (.ins (He.ga K c) dx fvs) ∧ fvs.length = fs.length ∧ ∃ fp', SR K τ B σ (upd H a (.ins (He.ga K c) dx (putF f y fvs))) (ρ.set i (some (.oo t c (putS f s fs)))) fp' ∧ Tr B0 H0 fp0 B (upd H a (.ins (He.ga K c) dx (putF f y fvs))) fp' := by
  obtain ⟨v, h1, h2⟩ := S.rel i _ hi
  obtain ⟨a, dx, fvs, A, rfl, e, h3, h4, h5, h6⟩ := h2.oo_inv
  have hil : i < ρ.length := (List.getElem?_eq_some_iff.mp hi).1
  have ha : a ∈ fp i := by rw [e]; simp
  have hA : ∀ x ∈ A, x ∈ fp i := fun x hx => by rw [e]; exact List.mem_cons_of_mem _ hx
  have n1 : ∀ x ∈ A1, x ∉ A := fun x hx w => z.nf x hx ⟨i, hA x w⟩
  obtain ⟨A', g1, g2⟩ := h4.put (f := f) ry n1
  have na : a ∉ A' := fun w => (g2 a w).elim h5 fun w => z.nf a w ⟨i, ha⟩
  have keep : ∀ x, x ≠ a → upd H a (.ins (He.ga K c) dx (putF f y fvs)) x = H x := fun x hx => upd_ne hx
  refine ⟨a, dx, fvs, h1, h3, h4.len, fun j => if j = i then a :: A' else fp j, ⟨fun j s0 q => ?_, fun j q => ?_, fun j k hjk x hx hy => ?_, fun j x hx => ?_, fun x o hx => ?_⟩, ?_⟩
  · by_cases hj : j = i
    · subst hj
      rw [List.getElem?_set_self hil] at q
      cases q
      refine ⟨_, h1, ?_⟩
      simp only [if_true]
      exact .oo upd_same (g1.mono (Ex.refl _) fun x hx => keep x fun e => na (e ▸ hx)) na h6
    · rw [List.getElem?_set_ne (Ne.symm hj)] at q
      obtain ⟨u, k1, k2⟩ := S.rel j s0 q
      rw [if_neg hj]
      exact ⟨u, k1, k2.any fun x hx => keep x fun e => S.dis j i hj x hx (e ▸ ha)⟩
  · by_cases hj : j = i
    · subst hj
      exact absurd (List.getElem?_set_self hil) (q _)
    · rw [if_neg hj]
      exact S.emp j fun s0 w => q s0 (by rw [List.getElem?_set_ne (Ne.symm hj)]; exact w)
  · have out : ∀ j, j ≠ i → ∀ x ∈ fp j, x ∉ a :: A' := fun j hj x hxj w => by
      rcases List.mem_cons.mp w with e | w
      · exact S.dis j i hj x hxj (e ▸ ha)
      · rcases g2 x w with w | w
        · exact S.dis j i hj x hxj (hA x w)
        · exact z.nf x w ⟨j, hxj⟩
    by_cases hj : j = i
    · rw [if_pos hj] at hx
      rw [if_neg (fun w => hjk (hj.trans w.symm))] at hy
      exact out k (fun w => hjk (hj.trans w.symm)) x hy hx
    · rw [if_neg hj] at hx
      by_cases hk : k = i
      · rw [if_pos hk] at hy; exact out j hj x hx hy
      · rw [if_neg hk] at hy; exact S.dis j k hjk x hx hy
  · by_cases hj : j = i
    · rw [if_pos hj] at hx
      rcases List.mem_cons.mp hx with rfl | w
      · exact S.sep i x ha
      · rcases g2 x w with w | w
        · exact S.sep i x (hA x w)
        · exact z.nb x w
    · rw [if_neg hj] at hx; exact S.sep j x hx
  · rw [keep x fun e => by rw [e, S.sep i a ha] at hx; cases hx]
    exact S.le x o hx
  · have tt := t1.trans (Tr.upd (o := .ins (He.ga K c) dx (putF f y fvs)) ⟨i, ha⟩)
    refine ⟨tt.fr, tt.ex, tt.nw, fun x ⟨j, hx⟩ => ?_⟩
    dsimp only at hx
    by_cases hj : j = i
    · rw [if_pos hj] at hx
      rcases List.mem_cons.mp hx with rfl | w
      · exact t1.ow x ⟨i, ha⟩
      · rcases g2 x w with w | w
        · exact t1.ow x ⟨i, hA x w⟩
        · exact z.ow x w
    · rw [if_neg hj] at hx; exact t1.ow x ⟨j, hx⟩
end
def fldS (i : Nat) (c f : Str) (fv : M Sl) : Fm := fun ρ => match fv ρ with
  | some (s, ρ1) => match ρ1[i]? with
    | some (some (.oo t c' fs)) => if c' = c ∧ fs.length < 1000 then some (.nx, ρ1.set i (some (.oo t c' (putS f s fs)))) else none
    | _ => none
  | none => none
section
variable {X : Cx} {τ : List V} {p pa pb : Bool} {e a b o : Expr} {es : List Expr} {pos q q2 : Pos} {f : M Dat} {fv : M Sl}
theorem psd_fld (i : Nat) {c at_ x : Str} (hc : Cls X.K (He.ga X.K c)) (hn : NoAttr X.K (He.ga X.K c) at_) (h : PE X (.Name x q) (tVar i)) (hv : PEO X τ p e fv) (hs : swapsWith e (some (.Attribute (.Name x q) at_ q2)) pos.line X.env = pure false := by rfl) :
    PSD X τ (.Assign [.Attribute (.Name x q) at_ q2] e pos) (fldS i c at_ fv) :=
  PS.imp (ps_fld h hv hs) fun D σ H hz hl ⟨ρ, B, fp, S, fl, ρ', hf, k⟩ => by
    unfold fldS at hf
    split at hf
    · rename_i s ρ1 q1
      split at hf
      · rename_i t c' fs q2
        split at hf
        · rename_i hcf
          obtain ⟨rfl, hlen⟩ := hcf
          cases hf
          refine ⟨ρ, B, fp, S, s, ρ1, q1, fun v H1 B1 fp1 A z1 S1 t1 u1 r1 z => ?_⟩
          obtain ⟨a, dx, fvs, g1, g2, g3, fp', g4, g5⟩ := S1.putFld (f := at_) q2 r1 z t1
          exact ⟨_, g1, a, _, dx, fvs, rfl, g2, hc, hn, by omega, fun hz' hl' => k σ _ B1 fp' hz' rfl g4 g5⟩
        · cases hf
      · cases hf
    · cases hf
/-! self.f += e (whole numbers) -/
def fldAugS (i : Nat) (c f : Str) (g : Int → Int → Int) (fv : M Dat) : Fm := fun ρ => match ρ[i]? with
  | some (some (.oo t c' fs)) => if c' = c ∧ fs.length < 1000 then (match fs.lookup f with
    | some (.sh (.int a)) => match fv ρ with
      | some (.int b, ρ1) => some (.nx, ρ.set i (some (.oo t c' (putS f (.sh (.int (g a b))) fs))))
      | _ => none
    | _ => none) else none
  | _ => none
theorem psd_fldaug (i : Nat) {c at_ x : Str} {op : Operator} {g : Int → Int → Int} (hc : Cls X.K (He.ga X.K c)) (hn : NoAttr X.K (He.ga X.K c) at_) (h : PE X (.Name x q) (tVar i)) (hv : PED X τ true e f) (hop : InOp X op (fun x y H Q => ∃ i j, x = .int i ∧ y = .int j ∧ Q (.int (g i j)) H)) :
    PSD X τ (.AugAssign (.Attribute (.Name x q) at_ q2) op e pos) (fldAugS i c at_ g f) :=
  PS.imp (ps_fldaug h hv hop) fun D σ H hz hl ⟨ρ, B, fp, S, fl, ρ', hf, k⟩ => by
    unfold fldAugS at hf
    split at hf
    · rename_i t c' fs q0
      split at hf
      · rename_i hcf
        obtain ⟨rfl, hlen⟩ := hcf
        split at hf
        · rename_i a0 q1
          split at hf
          · rename_i b0 ρ1 q2
            cases hf
            obtain ⟨v, h1, h2⟩ := S.rel _ _ q0
            obtain ⟨a, dx, fvs, A', rfl, e1, h3, h4, _⟩ := h2.oo_inv
            obtain ⟨u, A2, h5, h6, _⟩ := h4.lookup q1
            refine ⟨_, h1, a, _, dx, fvs, u, rfl, h3, hc, hn, h5, ρ, B, fp, S, _, ρ1, q2, fun w H1 B1 fp1 z1 S1 t1 u1 r1 => ?_⟩
            obtain ⟨x1, x2, x3⟩ := u1 rfl
            subst x2 x3
            refine ⟨a0, b0, h6.sh_inv.2.int_inv, r1.int_inv, ?_⟩
            obtain ⟨a', dx', fvs', g1, g2, g3, fp', g4, g5⟩ := S1.putFld (f := at_) (y := .int (g a0 b0)) (s := .sh (.int (g a0 b0))) (A1 := []) q0 (.sh (.int _)) ⟨by simp, by simp, by simp⟩ t1
            rw [h1] at g1
            cases g1
            exact ⟨dx', fvs', g2, by omega, fun hz' hl' => k σ _ B1 fp' hz' rfl g4 g5⟩
          · cases hf
        · cases hf
      · cases hf
    · cases hf
end
end DL

set_option Elab.async false
set_option linter.all false
set_option maxRecDepth 100000
set_option maxHeartbeats 2000000
namespace DL
open PySem L2

/-! ### C(..) -/
def mkO (c : Str) (f : Fd) (fa : M (List Dat)) : M Sl := bnd fa fun ds => fun ρ => match f (.oo none c [] :: ds.map .sh) with
  | some (.sh .non, some s0 :: _) => some (s0, ρ)
  | _ => none
section
variable {X : Cx} {CX : CXT} {τ : List V} {p pa pb : Bool} {e a b o : Expr} {es : List Expr} {pos q apos : Pos} {k : Nat} {f g C pr : Addr} {fd : FuncData} {ps : List Str} {E : XK} {x m c : Str} {fdat : Fd} {fa : M (List Dat)} {far : M (List AR)} {fo : M Dat} {fs : M Sl}
/-- one owned thing at hand, the rest shared -/
theorem tmp_state {K : PySem.W.Frag} {B : Hp} {σ : L2.St} {H H' : Hp} {ρ : Env} {fp : Nat → List Addr} {v : V} {s : Sl} {A : List Addr} {vs : List V} {ds : List Dat} (S : SR K τ B σ H ρ fp) (r : RepAll K B vs ds) (e : Ex H H') (rv : RepS K [] B H' v s A) (nb : ∀ a ∈ A, B a = none) :
    SR K [] B ((v :: vs).map some) H' ((s :: ds.map .sh).map some) (fun j => if j = 0 then A else []) := by
  refine ⟨fun j s0 q => ?_, fun j q => ?_, fun i j hij a ha hb => ?_, fun j a ha => ?_, fun a o h => e a o (S.le a o h)⟩
  · cases j with
    | zero => cases q; exact ⟨v, rfl, rv⟩
    | succ j =>
      have q : ((ds.map Sl.sh).map some)[j]? = some (some s0) := by simpa using q
      rw [List.getElem?_map, List.getElem?_map] at q
      cases y : ds[j]? with
      | none => rw [y] at q; cases q
      | some d =>
        rw [y] at q
        cases q
        obtain ⟨u, h1, h2⟩ := r.get y
        exact ⟨u, by simp [h1], .sh h2⟩
  · by_cases hj : j = 0
    · subst hj
      exact absurd rfl (q s)
    · simp [hj]
  · by_cases hi : i = 0
    · by_cases hj : j = 0
      · exact hij (hi.trans hj.symm)
      · simp [hj] at hb
    · simp [hi] at ha
  · by_cases hj : j = 0
    · simp only [hj, if_true] at ha; exact nb a ha
    · simp [hj] at ha
theorem peo_make (hfl : FLen fdat ps.length) (M : Mk X.K (He.ga X.K c) f) (F : FnOk X.prog X.w X.K X.mg X.base CX k f fd ps (spD X.K ps.length fdat)) (hr : Room (k + 1) X.A) (hg : Gl X x) (hm : X.mg x = some (.ref (He.ga X.K c))) (hb : Binds X.K fd ps []) (hx : Passes CX X E)
    (ha : PAD X τ p (e :: es) fa) (hdb : (x == ("__debug__" : Str)) = false := by decide) (he : starEach (e :: es) X.env = (false, eval e X.env) :: starEach es X.env := by rfl) (hpl : (backTo pos (starEach es X.env)).any (·.1) = false := by rfl) :
    PEO X τ p (.Call (.Name x q) (e :: es) [] pos) (mkO c fdat fa) :=
  PE.imp (pe_make M F hr hg hm hb .nil hx ha hdb he hpl) fun σ H Q hz _ ⟨ρ, B, fp, S, s0, ρ', hf, k⟩ => by
    obtain ⟨ds, ρ1, h1, h2⟩ := bnd_some hf
    split at h2
    · rename_i s1 rest hc
      cases h2
      refine ⟨ρ, B, fp, S, ds, ρ', h1, fun vs H1 B1 fp1 z1 S1 t1 u1 r1 => fun y dx ny ndx nex => ?_⟩
      rw [List.append_nil]
      have ey : ∀ a o, H1 a = some o → upd (upd H1 dx (.own y)) y (.ins (He.ga X.K c) dx []) a = some o := fun a o h => by
        have h1 : a ≠ y := fun e => by rw [e, ny] at h; cases h
        have h2 : a ≠ dx := fun e => by rw [e, ndx] at h; cases h
        rw [upd_ne h1, upd_ne h2]; exact h
      have back : ∀ a, upd (upd H1 dx (.own y)) y (.ins (He.ga X.K c) dx []) a = none → H1 a = none := fun a h => by
        cases q : H1 a with
        | none => rfl
        | some o => rw [ey a o q] at h; cases h
      refine ⟨?_, _, B1, _, tmp_state S1 r1 ey (RepS.oo (t := none) upd_same .nil (by simp) (fun k z => nomatch z)) (fun a ha => by simp at ha; subst ha; exact S1.nowb ny), _, _, hc, fun v H2 B2 fp2 A S2 t2 rv z => ?_⟩
      · have := hfl _ _ hc
        simp at this ⊢
        rw [r1.length]; exact this
      · obtain ⟨w, w1, w2⟩ := S2.rel 0 s0 (by simp)
        have w1 : w = .ref y := by simpa using w1.symm
        subst w1
        have ownE : ∀ a, own (fun j => if j = 0 then [y] else []) a → H1 a = none := fun a ⟨j, hj⟩ => by
          by_cases h0 : j = 0
          · simp only [h0, if_true, List.mem_singleton] at hj; subst hj; exact ny
          · simp [h0] at hj
        have ex : Ex H1 H2 := fun a o h => t2.fr a o (ey a o h) fun q => by rw [ownE a q] at h; cases h
        have nb : ∀ a o, B2 a = some o → B1 a = some o ∨ (H1 a = none ∧ H2 a = some o) := fun a o h => by
          rcases t2.nw a o h with q | q | q
          · exact .inl q
          · exact .inr ⟨back a q, S2.le a o h⟩
          · exact .inr ⟨ownE a q, S2.le a o h⟩
        have fresh : ∀ a ∈ fp2 0, H1 a = none := fun a ha => by
          rcases t2.ow a ⟨0, ha⟩ with q | q
          · exact ownE a q
          · exact back a q
        refine ⟨(rv.sh_inv.2).non_inv, fun hz' => k _ H2 B2 fp1 (fp2 0) hz' (S1.grow ex t2.ex nb) (t1.trans (Tr.new ex t2.ex nb)) (fun h => ⟨(u1 h).ex.trans ex, (u1 h).er, (u1 h).ef⟩) w2.notag ?_⟩
        have zf := sep_fresh S1 t1 fresh
        exact ⟨fun a ha => S2.sep 0 a ha, zf.nf, zf.ow⟩
    · cases h2

/-! ### o.m(..) -/
def methO (i : Nat) (c m : Str) (f : Fd) (far : M (List AR)) : M Sl := fun ρ => match ρ[i]? with
  | some (some (.oo _ c' fs)) => if c' = c ∧ fs.lookup m = none then callO f (consA (slA i) far) ρ else none
  | _ => none
theorem methO_some {i : Nat} {ρ ρ' : Env} {r : Sl} (h : methO i c m fdat far ρ = some (r, ρ')) : ∃ t fs as ρ1 ins outs, ρ[i]? = some (some (.oo t c fs)) ∧ fs.lookup m = none ∧ far ρ = some (as, ρ1) ∧ (slotsOf (.sl i :: as)).Nodup ∧ insOf ρ1 (.sl i :: as) = some ins ∧ fdat ins = some (r, outs) ∧ ρ' = putO (.sl i :: as) outs ρ1 := by
  unfold methO at h
  split at h
  · rename_i t c' fs q
    split at h
    · rename_i hc
      obtain ⟨rfl, hm⟩ := hc
      obtain ⟨as', ρ1, h1, h2⟩ := bnd_some h
      obtain ⟨a0, ρ2, h3, h4⟩ := bnd_some h1
      obtain ⟨as, ρ3, h5, h6⟩ := bnd_some h4
      cases h6
      unfold slA at h3
      rw [q] at h3
      cases h3
      split at h2
      · rename_i nd
        split at h2
        · rename_i ins hi
          split at h2
          · rename_i r0 outs hc
            cases h2
            exact ⟨t, fs, as, ρ1, ins, outs, q, hm, h5, nd, hi, hc, rfl⟩
          · cases h2
        · cases h2
      · cases h2
    · cases h
  · cases h
theorem peo_methO (i : Nat) (hfl : FLen fdat ps.length) (he : PE X (.Name x q) (tVar i)) (cl : Cls X.K (He.ga X.K c)) (hm : Meth X.K (He.ga X.K c) m f) (F : FnOk X.prog X.w X.K X.mg X.base CX k f fd ps (spD X.K ps.length fdat)) (hr : Room k X.A) (hb : Binds X.K fd ps []) (hx : Passes CX X E) (ha : PAR X τ (e :: es) far)
    (hst : starEach (e :: es) X.env = (false, eval e X.env) :: starEach es X.env := by rfl) (hpl : (backTo pos (starEach es X.env)).any (·.1) = false := by rfl) {pl : Sem Bool}
    (ht : eval (.Call (.Attribute (.Name x q) m apos) (e :: es) [] pos) X.env = (do
      let ov ← eval (.Name x q) X.env
      standAt apos.atName
      let (f, first) ← holding [ov] (getMethod ov m pl)
      callWith pos f first (backTo pos (starEach (e :: es) X.env)) (backToKw pos (keywordEach [] X.env))) := by rfl) :
    PEO X τ false (.Call (.Attribute (.Name x q) m apos) (e :: es) [] pos) (methO i c m fdat far) :=
  PE.imp (pe_meth he cl hm F hr hb .nil hx ha hst hpl ht) fun σ H Q hz _ ⟨ρ, B, fp, S, r, ρ', hf, k⟩ => by
    obtain ⟨t, fs, as, ρ1, ins, outs, q, hl, h1, nd, hi, hc, rfl⟩ := methO_some hf
    obtain ⟨v, g1, g2⟩ := S.rel i _ q
    obtain ⟨a, dx, fvs, A', rfl, e1, g3, g4, _⟩ := g2.oo_inv
    refine ⟨_, g1, a, dx, fvs, rfl, g3, g4.none hl, ρ, B, fp, S, as, ρ1, h1, fun vs H1 B1 fp1 z1 S1 t1 r1 => ?_⟩
    show spD X.K ps.length fdat (.ref a :: (vs ++ [])) H1 _ E
    rw [List.append_nil]
    have ra : ArOk X.K B1 σ (.ref a :: vs) (.sl i :: as) := .sl g1 r1
    exact call_own S1 ra (by rw [ra.len, ← (insOf_get hi).1]; exact hfl _ _ hc) nd hi hc fun v H' B' fp' A S2 t2 rv z hz' => k v H' B' fp' A hz' S2 (t1.trans t2) (fun h => nomatch h) rv (z.back t1)
theorem peo_methO0 (i : Nat) (hfl : FLen fdat ps.length) (he : PE X (.Name x q) (tVar i)) (cl : Cls X.K (He.ga X.K c)) (hm : Meth X.K (He.ga X.K c) m f) (F : FnOk X.prog X.w X.K X.mg X.base CX k f fd ps (spD X.K ps.length fdat)) (hr : Room k X.A) (hb : Binds X.K fd ps []) (hx : Passes CX X E) {pl : Sem Bool}
    (ht : eval (.Call (.Attribute (.Name x q) m apos) [] [] pos) X.env = (do
      let ov ← eval (.Name x q) X.env
      standAt apos.atName
      let (f, first) ← holding [ov] (getMethod ov m pl)
      callWith pos f first (backTo pos (starEach [] X.env)) (backToKw pos (keywordEach [] X.env))) := by rfl) :
    PEO X τ false (.Call (.Attribute (.Name x q) m apos) [] [] pos) (methO i c m fdat nilA) :=
  PE.imp (pe_meth0 he cl hm F hr hb .nil hx ht) fun σ H Q hz _ ⟨ρ, B, fp, S, r, ρ', hf, k⟩ => by
    obtain ⟨t, fs, as, ρ1, ins, outs, q, hl, h1, nd, hi, hc, rfl⟩ := methO_some hf
    cases h1
    obtain ⟨v, g1, g2⟩ := S.rel i _ q
    obtain ⟨a, dx, fvs, A', rfl, e1, g3, g4, _⟩ := g2.oo_inv
    have ra : ArOk X.K B σ [.ref a] [.sl i] := .sl g1 .nil
    refine ⟨_, g1, a, dx, fvs, rfl, g3, g4.none hl, ?_⟩
    show spD X.K ps.length fdat [.ref a] H _ E
    exact (call_own S ra (by rw [ra.len, ← (insOf_get hi).1]; exact hfl _ _ hc) nd hi hc fun v H' B' fp' A S2 t2 rv z hz' => k v H' B' fp' A hz' S2 t2 (fun h => nomatch h) rv z)
/-! a shared receiver -/
def methP (c m : Str) (f : Fd) (fo : M Dat) (fa : M (List Dat)) : M Sl := bnd fo fun d => match d with
  | .ins c' fs => if c' = c ∧ fs.lookup m = none then callP f (bnd fa fun ds => ret (.ins c' fs :: ds)) else fun _ => none
  | _ => fun _ => none
theorem methP_some {ρ ρ' : Env} {r : Sl} (h : methP c m fdat fo fa ρ = some (r, ρ')) : ∃ fs ρ1 ds outs, fo ρ = some (.ins c fs, ρ1) ∧ fs.lookup m = none ∧ fa ρ1 = some (ds, ρ') ∧ fdat ((Dat.ins c fs :: ds).map .sh) = some (r, outs) := by
  obtain ⟨d, ρ1, h1, h2⟩ := bnd_some h
  cases d with
  | ins c' fs =>
    have h9 : (if c' = c ∧ fs.lookup m = none then callP fdat (bnd fa fun ds => ret (.ins c' fs :: ds)) else fun _ => none) ρ1 = some (r, ρ') := h2
    by_cases hc : c' = c ∧ fs.lookup m = none
    · rw [if_pos hc] at h9
      obtain ⟨rfl, hm⟩ := hc
      obtain ⟨ds', ρ2, h3, h4⟩ := bnd_some h9
      obtain ⟨ds, ρ3, h5, h6⟩ := bnd_some h3
      cases h6
      split at h4
      · rename_i r0 outs hcall
        cases h4
        exact ⟨fs, ρ1, ds, outs, h1, hm, h5, hcall⟩
      · cases h4
    · rw [if_neg hc] at h9; cases h9
  | _ => cases h2
theorem peo_methP (hfl : FLen fdat ps.length) (he : PED X τ pa o fo) (cl : Cls X.K (He.ga X.K c)) (hm : Meth X.K (He.ga X.K c) m f) (F : FnOk X.prog X.w X.K X.mg X.base CX k f fd ps (spD X.K ps.length fdat)) (hr : Room k X.A) (hb : Binds X.K fd ps []) (hx : Passes CX X E) (ha : PAD X τ pb (e :: es) fa)
    (hst : starEach (e :: es) X.env = (false, eval e X.env) :: starEach es X.env := by rfl) (hpl : (backTo pos (starEach es X.env)).any (·.1) = false := by rfl) {pl : Sem Bool}
    (ht : eval (.Call (.Attribute o m apos) (e :: es) [] pos) X.env = (do
      let ov ← eval o X.env
      standAt apos.atName
      let (f, first) ← holding [ov] (getMethod ov m pl)
      callWith pos f first (backTo pos (starEach (e :: es) X.env)) (backToKw pos (keywordEach [] X.env))) := by rfl) :
    PEO X τ (pa && pb) (.Call (.Attribute o m apos) (e :: es) [] pos) (methP c m fdat fo fa) :=
  PE.imp (pe_meth he cl hm F hr hb .nil hx ha hst hpl ht) fun σ H Q hz _ ⟨ρ, B, fp, S, r, ρ', hf, k⟩ => by
    obtain ⟨fs, ρ1, ds, outs, h1, hl, h2, hc⟩ := methP_some hf
    refine ⟨ρ, B, fp, S, _, ρ1, h1, fun v1 H1 B1 fp1 z1 S1 t1 u1 r1 => ?_⟩
    obtain ⟨a, dx, fvs, rfl, g1, g2⟩ := r1.ins_inv
    refine ⟨a, dx, fvs, rfl, S1.le _ _ g1, g2.none hl, ρ1, B1, fp1, S1, ds, ρ', h2, fun vs H2 B2 fp2 z2 S2 t2 u2 r2 => ?_⟩
    show spD X.K ps.length fdat (.ref a :: (vs ++ [])) H2 _ E
    rw [List.append_nil]
    have ra : RepAll X.K B2 (.ref a :: vs) (.ins c fs :: ds) := .cons (r1.mono t2.ex) r2
    exact call_pure S2 ra (by rw [ra.length]; simpa using hfl _ _ hc) hc fun v H' B' A ex S3 t3 rv z hz' => k v H' B' fp2 A hz' S3 ((t1.trans t2).trans t3) (fun h => ⟨(pu_and u1 u2 h).ex.trans ex, (pu_and u1 u2 h).er, (pu_and u1 u2 h).ef⟩) rv (z.back (t1.trans t2))
theorem peo_methP0 (hfl : FLen fdat ps.length) (he : PED X τ pa o fo) (cl : Cls X.K (He.ga X.K c)) (hm : Meth X.K (He.ga X.K c) m f) (F : FnOk X.prog X.w X.K X.mg X.base CX k f fd ps (spD X.K ps.length fdat)) (hr : Room k X.A) (hb : Binds X.K fd ps []) (hx : Passes CX X E) {pl : Sem Bool}
    (ht : eval (.Call (.Attribute o m apos) [] [] pos) X.env = (do
      let ov ← eval o X.env
      standAt apos.atName
      let (f, first) ← holding [ov] (getMethod ov m pl)
      callWith pos f first (backTo pos (starEach [] X.env)) (backToKw pos (keywordEach [] X.env))) := by rfl) :
    PEO X τ pa (.Call (.Attribute o m apos) [] [] pos) (methP c m fdat fo nilA) :=
  PE.imp (pe_meth0 he cl hm F hr hb .nil hx ht) fun σ H Q hz _ ⟨ρ, B, fp, S, r, ρ', hf, k⟩ => by
    obtain ⟨fs, ρ1, ds, outs, h1, hl, h2, hc⟩ := methP_some hf
    cases h2
    refine ⟨ρ, B, fp, S, _, ρ', h1, fun v1 H1 B1 fp1 z1 S1 t1 u1 r1 => ?_⟩
    obtain ⟨a, dx, fvs, rfl, g1, g2⟩ := r1.ins_inv
    refine ⟨a, dx, fvs, rfl, S1.le _ _ g1, g2.none hl, ?_⟩
    show spD X.K ps.length fdat [.ref a] H1 _ E
    have ra : RepAll X.K B1 [.ref a] [.ins c fs] := .cons r1 .nil
    exact call_pure S1 ra (by rw [ra.length]; simpa using hfl _ _ hc) hc fun v H' B' A ex S3 t3 rv z hz' => k v H' B' fp1 A hz' S3 (t1.trans t3) (fun h => ⟨(u1 h).ex.trans ex, (u1 h).er, (u1 h).ef⟩) rv (z.back t1)
/-! a receiver that was just made, and is gone behind -/
def methT (c m : Str) (f : Fd) (fs : M Sl) : M Sl := bnd fs fun s => match s with
  | .oo t c' fl => if c' = c ∧ fl.lookup m = none then (fun ρ => match f [untag (.oo t c' fl)] with
    | some (r, _) => some (r, ρ)
    | none => none) else fun _ => none
  | _ => fun _ => none
theorem peo_methT (hfl : FLen fdat ps.length) (he : PEO X τ pa o fs) (cl : Cls X.K (He.ga X.K c)) (hm : Meth X.K (He.ga X.K c) m f) (F : FnOk X.prog X.w X.K X.mg X.base CX k f fd ps (spD X.K ps.length fdat)) (hr : Room k X.A) (hb : Binds X.K fd ps []) (hx : Passes CX X E) {pl : Sem Bool}
    (ht : eval (.Call (.Attribute o m apos) [] [] pos) X.env = (do
      let ov ← eval o X.env
      standAt apos.atName
      let (f, first) ← holding [ov] (getMethod ov m pl)
      callWith pos f first (backTo pos (starEach [] X.env)) (backToKw pos (keywordEach [] X.env))) := by rfl) :
    PEO X τ false (.Call (.Attribute o m apos) [] [] pos) (methT c m fdat fs) :=
  PE.imp (pe_meth0 he cl hm F hr hb .nil hx ht) fun σ H Q hz _ ⟨ρ, B, fp, S, r, ρ', hf, k⟩ => by
    obtain ⟨s, ρ1, h1, h2⟩ := bnd_some hf
    cases s with
    | oo t c' fl =>
      have h9 : (if c' = c ∧ fl.lookup m = none then (fun ρ => match fdat [untag (.oo t c' fl)] with
        | some (r, _) => some (r, ρ)
        | none => none) else fun _ => none) ρ1 = some (r, ρ') := h2
      by_cases hcm : c' = c ∧ fl.lookup m = none
      · rw [if_pos hcm] at h9
        obtain ⟨rfl, hl⟩ := hcm
        cases hc : fdat [untag (.oo t c' fl)] with
        | none => rw [hc] at h9; cases h9
        | some y =>
          obtain ⟨r0, outs⟩ := y
          rw [hc] at h9
          cases h9
          refine ⟨ρ, B, fp, S, _, ρ', h1, fun v H1 B1 fp1 A z1 S1 t1 u1 rv z => ?_⟩
          obtain ⟨a, dx, fvs, A', rfl, e1, g3, g4, _⟩ := rv.oo_inv
          refine ⟨a, dx, fvs, rfl, g3, g4.none hl, ?_⟩
          refine ⟨by simpa using hfl _ _ hc, _, B1, _, tmp_state (vs := []) (ds := []) S1 .nil (Ex.refl _) rv.untag z.nb, _, _, hc, fun w H2 B2 fp2 A2 S2 t2 rw z2 hz' => ?_⟩
          have ownE : ∀ a, own (fun j => if j = 0 then A else []) a → a ∈ A := fun a ⟨j, hj⟩ => by
            by_cases h0 : j = 0
            · simp only [h0, if_true] at hj; exact hj
            · simp [h0] at hj
          have far : ∀ a, own fp1 a → ¬ own (fun j => if j = 0 then A else []) a := fun a h w => z.nf a (ownE a w) h
          have S3 : SR X.K τ B2 σ H2 ρ' fp1 := by
            refine ⟨fun j s0 q => ?_, S1.emp, S1.dis, fun j b hb => ?_, S2.le⟩
            · obtain ⟨u, k1, k2⟩ := S1.rel j s0 q
              refine ⟨u, k1, k2.mono t2.ex fun b hb => ?_⟩
              obtain ⟨o, ho⟩ := k2.live b hb
              rw [ho]
              exact t2.fr b o ho (far b ⟨j, hb⟩)
            · cases y : B2 b with
              | none => rfl
              | some o =>
                rcases t2.nw b o y with w | w | w
                · rw [S1.sep j b hb] at w; cases w
                · exact absurd ⟨j, hb⟩ (S1.noown w)
                · exact absurd w (far b ⟨j, hb⟩)
          have backA : ∀ b, b ∈ A → own fp b ∨ H b = none := z.ow
          have backH : ∀ b, H1 b = none → own fp b ∨ H b = none := fun b h => by
            cases y : H b with
            | none => exact .inr rfl
            | some o =>
              by_cases w : own fp b
              · exact .inl w
              · rw [t1.fr b o y w] at h; cases h
          refine k w H2 B2 fp1 A2 hz' S3 ⟨fun b o hb n => ?_, t1.ex.trans t2.ex, fun b o hb => ?_, t1.ow⟩ (fun z => nomatch z) rw.notag ⟨z2.nb, fun b hb => ?_, fun b hb => ?_⟩
          · refine t2.fr b o (t1.fr b o hb n) fun w => ?_
            rcases backA b (ownE b w) with y | y
            · exact n y
            · rw [hb] at y; cases y
          · rcases t2.nw b o hb with w | w | w
            · exact t1.nw b o w
            · exact .inr (Or.symm (backH b w))
            · exact .inr (Or.symm (backA b (ownE b w)))
          · rcases z2.ow b hb with w | w
            · exact z.nf b (ownE b w)
            · exact S1.noown w
          · rcases z2.ow b hb with w | w
            · exact backA b (ownE b w)
            · exact backH b w
      · rw [if_neg hcm] at h9; cases h9
    | _ => cases h2
/-! a property of a shared object -/
def propP (c : Str) (f : Fd) (fo : M Dat) : M Sl := bnd fo fun d => match d with
  | .ins c' fs => if c' = c then callP f (ret [.ins c' fs]) else fun _ => none
  | _ => fun _ => none
theorem peo_propP (hfl : FLen fdat ps.length) (he : PED X τ pa o fo) (cl : Cls X.K (He.ga X.K c)) (hm : PropOf X.K (He.ga X.K c) m pr g) (F : FnOk X.prog X.w X.K X.mg X.base CX k g fd ps (spD X.K ps.length fdat)) (hr : Room (k + 1) X.A) (hb : Binds X.K fd ps []) (hx : Passes CX X.nox E)
    (hab : attributeBase o m X.env (eval o X.env) = eval o X.env := by rfl) : PEO X τ pa (.Attribute o m pos) (propP c fdat fo) :=
  PE.imp (pe_prop he cl hm F hr hb .nil hx hab) fun σ H Q hz _ ⟨ρ, B, fp, S, r, ρ', hf, k⟩ => by
    obtain ⟨d, ρ1, h1, h2⟩ := bnd_some hf
    cases d with
    | ins c' fs =>
      have h9 : (if c' = c then callP fdat (ret [.ins c' fs]) else fun _ => none) ρ1 = some (r, ρ') := h2
      by_cases hcm : c' = c
      · rw [if_pos hcm] at h9
        subst hcm
        obtain ⟨ds, ρ2, h3, h4⟩ := bnd_some h9
        cases h3
        split at h4
        · rename_i r0 outs hc
          cases h4
          refine ⟨ρ, B, fp, S, _, ρ', h1, fun v1 H1 B1 fp1 z1 S1 t1 u1 r1 => ?_⟩
          obtain ⟨a, dx, fvs, rfl, g1, g2⟩ := r1.ins_inv
          refine ⟨a, dx, fvs, rfl, S1.le _ _ g1, ?_⟩
          show spD X.K ps.length fdat [.ref a] H1 _ E
          have ra : RepAll X.K B1 [.ref a] [.ins c' fs] := .cons r1 .nil
          exact call_pure S1 ra (by rw [ra.length]; simpa using hfl _ _ hc) hc fun v H' B' A ex S3 t3 rv z hz' => k v H' B' fp1 A hz' S3 (t1.trans t3) (fun h => ⟨(u1 h).ex.trans ex, (u1 h).er, (u1 h).ef⟩) rv (z.back t1)
        · cases h4
      · rw [if_neg hcm] at h9; cases h9
    | _ => cases h2
end
end DL

set_option Elab.async false
set_option linter.all false
set_option maxRecDepth 100000
set_option maxHeartbeats 2000000
namespace DL
open PySem L2

/-! ### enumerate, zip -/
section
variable {X : Cx} {τ : List V} {p pa pb : Bool} {e a b c tg iter : Expr} {es elts : List Expr} {pos pos' q tpos : Pos} {f : M Dat} {fa : M (List Dat)} {kk : Nat}
def enL (ds : List Dat) : List Dat := ds.mapIdx fun i d => .tup [.int (i : Nat), d]
def itEn : List Dat → Option (List Dat)
  | [d] => (itL d).map enL
  | _ => none
theorem walk_en {K : PySem.W.Frag} {B H : Hp} {a : Addr} {xs : List V} {ds : List Dat} (hz : HSz H) (le : Ex B H) (h : SqL K B a xs) (r : RepAll K B xs ds) : WalkD K B (Ite K a) (enL ds) := by
  have hl := r.length
  have w := walk_l hz le h r
  refine ⟨fun B1 H1 i e1 e2 hi => ?_, fun B1 H1 e1 e2 => ⟨xs, ex_l (e1.trans e2) h, by simp [enL]; omega⟩, by simpa [enL] using w.size⟩
  have hi : i < ds.length := by simpa [enL] using hi
  refine ⟨⟨xs, xs[i], ex_l (e1.trans e2) h, by simp [show i < xs.length by omega]⟩, fun x H' ⟨T, y, y1, hT, y2, y3⟩ => ?_⟩
  subst y1 y2
  obtain ⟨d, hd, rd⟩ := r.getv (y3 xs (ex_l (e1.trans e2) h))
  obtain ⟨n1, n2, n3⟩ := new3 (o := .tup [.int (i : Nat), y]) e2 hT
  refine ⟨_, .tup [.int (i : Nat), d], by simp [enL, hd], n1, n2, n3, .tup (.inl (.inl upd_same)) (.cons (.int _) (.cons ((rd.mono e1).mono n2) .nil))⟩
theorem pid_enum (hg : Gl X "enumerate") (hm : X.mg "enumerate" = none) (ha : PAD X τ p [e] fa) (hs : starEach [e] X.env = [(false, eval e X.env)] := by rfl) : PID X τ p (.Tuple elts kk tpos) (.Call (.Name "enumerate" q) [e] [] pos) (liftA itEn fa) :=
  PI.imp (pi_enum hg hm ha hs) fun σ H R hz _ ⟨ρ, B, fp, S, ds, ρ', hf, k⟩ => by
    obtain ⟨d, ρ1, h1, h0⟩ := bnd_some hf
    obtain ⟨h2, e2⟩ := lift_some h0
    subst e2
    refine ⟨ρ, B, fp, S, d, _, h1, fun v H' B' fp' z1 S1 t1 u1 r1 => ?_⟩
    unfold itEn at h2
    split at h2
    · obtain ⟨es, h3, rfl⟩ := Option.map_eq_some_iff.mp h2
      obtain ⟨w, rfl, r⟩ := r1.one_inv
      obtain ⟨a, xs, rfl, q, ra⟩ := lstF_inv r h3
      exact ⟨a, xs, rfl, ex_l S1.le q, fun hz' => k _ H' B' fp' hz' S1 t1 u1 (walk_en hz' S1.le q ra)⟩
    · cases h2
def zpL (ds es : List Dat) : List Dat := List.zipWith (fun d e => .tup [d, e]) ds es
def itZp : List Dat → Option (List Dat)
  | [d, e] => match itL d, itL e with
    | some ds, some es => some (zpL ds es)
    | _, _ => none
  | _ => none
theorem walk_zp {K : PySem.W.Frag} {B H : Hp} {a b : Addr} {xs ys : List V} {ds es : List Dat} (hz : HSz H) (le : Ex B H) (h : SqL K B a xs) (r : RepAll K B xs ds) (h' : SqL K B b ys) (r' : RepAll K B ys es) : WalkD K B (Itz K a b) (zpL ds es) := by
  have hl := r.length
  have hl' := r'.length
  have w := walk_l hz le h r
  refine ⟨fun B1 H1 i e1 e2 hi => ?_, fun B1 H1 e1 e2 => ⟨xs, ys, ex_l (e1.trans e2) h, ex_l (e1.trans e2) h', by simp [zpL]; omega⟩, by have := w.size; simp [zpL]; omega⟩
  have hi0 : i < min ds.length es.length := by simpa [zpL] using hi
  have hi : i < ds.length ∧ i < es.length := by omega
  refine ⟨⟨xs, ys, xs[i], ys[i], ex_l (e1.trans e2) h, ex_l (e1.trans e2) h', by simp [show i < xs.length by omega], by simp [show i < ys.length by omega]⟩, fun x H' ⟨T, y, y', y1, hT, y2, y3, y4⟩ => ?_⟩
  subst y1 y2
  obtain ⟨d, hd, rd⟩ := r.getv (y3 xs (ex_l (e1.trans e2) h))
  obtain ⟨d', hd', rd'⟩ := r'.getv (y4 ys (ex_l (e1.trans e2) h'))
  obtain ⟨n1, n2, n3⟩ := new3 (o := .tup [y, y']) e2 hT
  refine ⟨_, .tup [d, d'], by simp [zpL, List.getElem?_zipWith, hd, hd'], n1, n2, n3, .tup (.inl (.inl upd_same)) (.cons ((rd.mono e1).mono n2) (.cons ((rd'.mono e1).mono n2) .nil))⟩
theorem pid_zip (hg : Gl X "zip") (hm : X.mg "zip" = none) (ha : PAD X τ p [a, b] fa) (hs : starEach [a, b] X.env = (false, eval a X.env) :: starEach [b] X.env := by rfl) (hpl : (backTo pos (starEach [b] X.env)).any (·.1) = false := by rfl) :
    PID X τ p (.Tuple elts kk tpos) (.Call (.Name "zip" q) [a, b] [] pos) (liftA itZp fa) :=
  PI.imp (pi_zip hg hm ha hs hpl) fun σ H R hz _ ⟨ρ, B, fp, S, ds, ρ', hf, k⟩ => by
    obtain ⟨d, ρ1, h1, h0⟩ := bnd_some hf
    obtain ⟨h2, e2⟩ := lift_some h0
    subst e2
    refine ⟨ρ, B, fp, S, d, _, h1, fun v H' B' fp' z1 S1 t1 u1 r1 => ?_⟩
    unfold itZp at h2
    split at h2
    · split at h2
      · rename_i xs ys h3 h4
        cases h2
        obtain ⟨w, w', rfl, r, r'⟩ := r1.two_inv
        obtain ⟨a, xs, rfl, q, ra⟩ := lstF_inv r h3
        obtain ⟨b, ys, rfl, q', rb⟩ := lstF_inv r' h4
        exact ⟨a, b, xs, ys, rfl, ex_l S1.le q, ex_l S1.le q', fun hz' => k _ H' B' fp' hz' S1 t1 u1 (walk_zp hz' S1.le q ra q' rb)⟩
      · cases h2
    · cases h2
end

/-! ### several at once -/
inductive RepSL (K : PySem.W.Frag) (τ : List V) (B H : Hp) : List V → List Sl → List Addr → Prop
  | nil : RepSL K τ B H [] [] []
  | cons {v : V} {s : Sl} {A1 A2 : List Addr} {r : List V} {rs : List Sl} : RepS K τ B H v s A1 → RepSL K τ B H r rs A2 → (∀ a ∈ A1, a ∉ A2) → RepSL K τ B H (v :: r) (s :: rs) (A1 ++ A2)
def tAs (K : PySem.W.Frag) (τ : List V) (f : M (List Sl)) : TA := fun σ H Q => ∃ ρ B fp, SR K τ B σ H ρ fp ∧ ∃ ss ρ', f ρ = some (ss, ρ') ∧
  ∀ vs H' B' fp' A, HSz H' → SR K τ B' σ H' ρ' fp' → Tr B H fp B' H' fp' → RepSL K τ B' H' vs ss A → Sep B H fp B' fp' A → Q vs H'
abbrev PAS (X : Cx) (τ : List V) (es : List Expr) (f : M (List Sl)) : Prop := PA X es (tAs X.K τ f)
/-- what one holds is left alone -/
theorem Sep.keep {K : PySem.W.Frag} {τ : List V} {B0 H0 B1 H1 B2 H2 : Hp} {σ : L2.St} {ρ1 : Env} {fp0 fp1 fp2 : Nat → List Addr} {A : List Addr} {v : V} {s : Sl} (r : RepS K τ B1 H1 v s A) (z : Sep B0 H0 fp0 B1 fp1 A) (t : Tr B1 H1 fp1 B2 H2 fp2) : RepS K τ B2 H2 v s A ∧ Sep B0 H0 fp0 B2 fp2 A := by
  have live := r.live
  have same : ∀ a ∈ A, H2 a = H1 a := fun a ha => by
    obtain ⟨o, ho⟩ := live a ha
    rw [ho]; exact t.fr a o ho (z.nf a ha)
  refine ⟨r.mono t.ex same, fun a ha => ?_, fun a ha h => ?_, z.ow⟩
  · cases q : B2 a with
    | none => rfl
    | some o =>
      rcases t.nw a o q with w | w | w
      · rw [z.nb a ha] at w; cases w
      · obtain ⟨o', ho⟩ := live a ha
        rw [ho] at w; cases w
      · exact absurd w (z.nf a ha)
  · rcases t.ow a h with w | w
    · exact z.nf a ha w
    · obtain ⟨o', ho⟩ := live a ha
      rw [ho] at w; cases w
section
variable {X : Cx} {τ : List V} {p pa pb : Bool} {e a b c : Expr} {es : List Expr} {pos px py pz pt pt2 : Pos} {fs : M Sl} {g : M (List Sl)}
theorem pas_nil : PAS X τ [] nilA := PA.imp pa_nil fun σ H Q hz _ ⟨ρ, B, fp, S, d, ρ', hf, k⟩ => by
  cases hf
  exact fun hz' => k [] H B fp [] hz' S Tr.refl .nil ⟨by simp, by simp, by simp⟩
theorem pas_cons (he : PEO X τ pa e fs) (ht : PAS X τ es g) (hst : starEach (e :: es) X.env = (false, eval e X.env) :: starEach es X.env := by rfl) : PAS X τ (e :: es) (consA fs g) :=
  PA.imp (pa_cons he ht hst) fun σ H Q hz _ ⟨ρ, B, fp, S, d, ρ', hf, k⟩ => by
    obtain ⟨x, ρ1, h1, g1⟩ := bnd_some hf
    obtain ⟨xs, ρ2, h2, g2⟩ := bnd_some g1
    cases g2
    refine ⟨ρ, B, fp, S, x, ρ1, h1, fun v1 H1 B1 fp1 A1 z1 S1 t1 u1 r1 y1 => ⟨ρ1, B1, fp1, S1, xs, _, h2, fun vs H2 B2 fp2 A2 z2 S2 t2 r2 y2 hz' => ?_⟩⟩
    obtain ⟨r3, y3⟩ := Sep.keep (σ := σ) (ρ1 := ρ1) r1 y1 t2
    have y4 := y2.back t1
    refine k _ H2 B2 fp2 (A1 ++ A2) hz' S2 (t1.trans t2) (.cons r3 r2 fun a ha hb => ?_) ⟨fun a ha => ?_, fun a ha => ?_, fun a ha => ?_⟩
    · rcases y2.ow a hb with w | w
      · exact y1.nf a ha w
      · obtain ⟨o, ho⟩ := r1.live a ha
        rw [ho] at w; cases w
    · exact (List.mem_append.mp ha).elim (y3.nb a) (y4.nb a)
    · exact (List.mem_append.mp ha).elim (y3.nf a) (y4.nf a)
    · exact (List.mem_append.mp ha).elim (y3.ow a) (y4.ow a)
/-- a, b = x, y -/
def par2 (i j : Nat) (f : M (List Sl)) : Fm := fun ρ => match f ρ with
  | some ([s, t], ρ1) => some (.nx, (ρ1.set i (some s)).set j (some t))
  | _ => none
theorem Sep.mem {B H B' : Hp} {fp fp' : Nat → List Addr} {A A' : List Addr} (z : Sep B H fp B' fp' A) (h : ∀ a ∈ A', a ∈ A) : Sep B H fp B' fp' A' := ⟨fun a ha => z.nb a (h a ha), fun a ha => z.nf a (h a ha), fun a ha => z.ow a (h a ha)⟩
theorem store_sep {B H B' : Hp} {fp fp' : Nat → List Addr} {A A' : List Addr} {i : Nat} {c : Prop} [Decidable c] (z : Sep B H fp B' fp' A) (d : ∀ a ∈ A', a ∉ A) : Sep B H fp B' fp' A → Sep B H fp B' (fun j => if j = i then (if c then A' else []) else fp' j) A := fun z => ⟨z.nb, fun a ha ⟨j, hj⟩ => by
    dsimp only at hj
    split at hj
    · split at hj
      · exact d a hj ha
      · cases hj
    · exact z.nf a ha ⟨j, hj⟩, z.ow⟩
theorem psd_par {i j : Nat} {x y : Str} {k1 k2 : Nat} (hc : X.calm = true) (hN : X.N.Nodup) (hi : X.N[i]? = some x) (hj : X.N[j]? = some y) (hij : i ≠ j) (hx : X.env.scope.names.lookup x = some .local) (hy : X.env.scope.names.lookup y = some .local) (ha : PAS X τ [a, b] g)
    (hw : swappedStores [.Tuple [.Name x px, .Name y py] k1 pt] (.Tuple [a, b] k2 pt2) X.env = pure (some [x, y]))
    (hs : swapsWithSole [.Tuple [.Name x px, .Name y py] k1 pt] (.Tuple [a, b] k2 pt2) pos.line X.env = pure false := by rfl) :
    PSD X τ (.Assign [.Tuple [.Name x px, .Name y py] k1 pt] (.Tuple [a, b] k2 pt2) pos) (par2 i j g) :=
  PS.imp (ps_par hc hN hi hj hij hx hy ha hw hs) fun D σ H hz hl ⟨ρ, B, fp, S, fl, ρ', hf, k⟩ => by
    unfold par2 at hf
    split at hf
    · rename_i s t ρ1 q
      cases hf
      have hiN : i < σ.length := by rw [hl]; exact (List.getElem?_eq_some_iff.mp hi).1
      have hjN : j < σ.length := by rw [hl]; exact (List.getElem?_eq_some_iff.mp hj).1
      refine ⟨ρ, B, fp, S, _, ρ1, q, fun vs H' B' fp' A z1 S1 t1 r1 z => ?_⟩
      cases r1 with
      | cons r1 rr d1 =>
        cases rr with
        | cons r2 rr d2 =>
          cases rr
          rename_i v1 A1 v2 A2
          have zA := z.mem (A' := A1) fun a ha => List.mem_append_left _ ha
          have zB := z.mem (A' := A2) fun a ha => List.mem_append_right _ (by simpa using ha)
          have dd : ∀ a ∈ A1, a ∉ A2 := fun a ha hb => d1 a ha (by simpa using hb)
          have S2 := S1.store hiN r1 zA
          have T2 := t1.store (i := i) (c := i < ρ1.length) zA
          have zB2 := store_sep (i := i) (c := i < ρ1.length) zB dd zB
          have S3 := S2.store (i := j) (by simpa using hjN) r2 zB2
          have T3 := T2.store (i := j) (c := j < (ρ1.set i (some s)).length) zB2
          exact ⟨v1, v2, rfl, fun hz' hl' => k _ H' B' _ hz' (by simp) S3 T3⟩
    · cases hf
def par3 (i j l : Nat) (f : M (List Sl)) : Fm := fun ρ => match f ρ with
  | some ([s, t, u], ρ1) => some (.nx, ((ρ1.set i (some s)).set j (some t)).set l (some u))
  | _ => none
theorem psd_par3 {i j l : Nat} {x y w : Str} {k1 k2 : Nat} (hc : X.calm = true) (hN : X.N.Nodup) (hi : X.N[i]? = some x) (hj : X.N[j]? = some y) (hl : X.N[l]? = some w) (hij : i ≠ j) (hil : i ≠ l) (hjl : j ≠ l)
    (hx : X.env.scope.names.lookup x = some .local) (hy : X.env.scope.names.lookup y = some .local) (hw0 : X.env.scope.names.lookup w = some .local) (ha : PAS X τ [a, b, c] g)
    (hw : swappedStores [.Tuple [.Name x px, .Name y py, .Name w pz] k1 pt] (.Tuple [a, b, c] k2 pt2) X.env = pure (some [x, y, w]))
    (hs : swapsWithSole [.Tuple [.Name x px, .Name y py, .Name w pz] k1 pt] (.Tuple [a, b, c] k2 pt2) pos.line X.env = pure false := by rfl) :
    PSD X τ (.Assign [.Tuple [.Name x px, .Name y py, .Name w pz] k1 pt] (.Tuple [a, b, c] k2 pt2) pos) (par3 i j l g) :=
  PS.imp (ps_par3 hc hN hi hj hl hij hil hjl hx hy hw0 ha hw hs) fun D σ H hz hln ⟨ρ, B, fp, S, fl, ρ', hf, k⟩ => by
    unfold par3 at hf
    split at hf
    · rename_i s t u ρ1 q
      cases hf
      have hiN : i < σ.length := by rw [hln]; exact (List.getElem?_eq_some_iff.mp hi).1
      have hjN : j < σ.length := by rw [hln]; exact (List.getElem?_eq_some_iff.mp hj).1
      have hlN : l < σ.length := by rw [hln]; exact (List.getElem?_eq_some_iff.mp hl).1
      refine ⟨ρ, B, fp, S, _, ρ1, q, fun vs H' B' fp' A z1 S1 t1 r1 z => ?_⟩
      cases r1 with
      | cons r1 rr d1 =>
        cases rr with
        | cons r2 rr d2 =>
          cases rr with
          | cons r3 rr d3 =>
            cases rr
            rename_i v1 A1 v2 A2 v3 A3
            have zA := z.mem (A' := A1) fun a ha => List.mem_append_left _ ha
            have zB := z.mem (A' := A2) fun a ha => List.mem_append_right _ (List.mem_append_left _ ha)
            have zC := z.mem (A' := A3) fun a ha => List.mem_append_right _ (List.mem_append_right _ (by simpa using ha))
            have d12 : ∀ a ∈ A1, a ∉ A2 := fun a ha hb => d1 a ha (List.mem_append_left _ hb)
            have d13 : ∀ a ∈ A1, a ∉ A3 := fun a ha hb => d1 a ha (List.mem_append_right _ (by simpa using hb))
            have d23 : ∀ a ∈ A2, a ∉ A3 := fun a ha hb => d2 a ha (by simpa using hb)
            have S2 := S1.store hiN r1 zA
            have T2 := t1.store (i := i) (c := i < ρ1.length) zA
            have zB2 := store_sep (i := i) (c := i < ρ1.length) zB d12 zB
            have zC2 := store_sep (i := i) (c := i < ρ1.length) zC d13 zC
            have S3 := S2.store (i := j) (by simpa using hjN) r2 zB2
            have T3 := T2.store (i := j) (c := j < (ρ1.set i (some s)).length) zB2
            have zC3 := store_sep (i := j) (c := j < (ρ1.set i (some s)).length) zC2 d23 zC2
            have S4 := S3.store (i := l) (by simpa using hlN) r3 zC3
            have T4 := T3.store (i := l) (c := l < ((ρ1.set i (some s)).set j (some t)).length) zC3
            exact ⟨v1, v2, v3, rfl, fun hz' hl' => k _ H' B' _ hz' (by simp) S4 T4⟩
    · cases hf
/-! a, b, c = t -/
def asgT (gb : Dat → Env → Option Env) (f : M Dat) : Fm := fun ρ => match f ρ with
  | some (d, ρ1) => (gb d ρ1).map fun ρ2 => (.nx, ρ2)
  | none => none
theorem psd_asgT {tg : Expr} {f : M Dat} {gb : Dat → Env → Option Env} {sl : List Nat} (he : PED X τ p e f) (hg : PGD X τ sl tg gb) (hs : swapsWithSole [tg] e pos.line X.env = pure false := by rfl) (hw : swappedStores [tg] e X.env = pure none := by rfl)
    (h1 : (assignEach [tg] X.env).map (·.2) = [assign tg X.env] := by rfl) : PSD X τ (.Assign [tg] e pos) (asgT gb f) :=
  PS.imp (ps_asg he hg hs hw h1) fun D σ H hz hl ⟨ρ, B, fp, S, fl, ρ', hf, k⟩ => by
    unfold asgT at hf
    split at hf
    · rename_i d ρ1 q
      obtain ⟨ρ2, q2, q3⟩ := Option.map_eq_some_iff.mp hf
      cases q3
      exact ⟨ρ, B, fp, S, d, ρ1, q, fun v H1 B1 fp1 z1 S1 t1 u1 r1 => ⟨ρ1, B1, fp1, S1, d, r1, ρ', q2, fun σ2 fp2 l2 e2 S2 o2 f2 hz' hl' => k σ2 H1 B1 fp2 hz' l2 S2 ⟨t1.fr, t1.ex, t1.nw, fun a h => t1.ow a (o2 a h)⟩⟩⟩
    · cases hf
/-! x += e -/
def augS (i : Nat) (g : Dat → Dat → Option Dat) (f : M Dat) : Fm := fun ρ => match ρ[i]? with
  | some (some (.sh d)) => match f ρ with
    | some (d', ρ1) => (g d d').map fun z => (.nx, ρ1.set i (some (.sh z)))
    | none => none
  | _ => none
def addI : Dat → Dat → Option Dat
  | .int a, .int b => some (.int (a + b))
  | _, _ => none
def subI : Dat → Dat → Option Dat
  | .int a, .int b => some (.int (a - b))
  | _, _ => none
theorem psd_aug {i : Nat} {x : Str} {f : M Dat} {op : Operator} {ti : TIp} {gd : Dat → Dat → Option Dat} (hN : X.N.Nodup) (hi : X.N[i]? = some x) (hx : Loc X.env.scope x) (he : PED X τ p e f) (ho : PIp X op ti)
    (hd : ∀ (B H : Hp) (x y : V) (dx dy dz : Dat) (Q : VK), Rep X.K B x dx → Rep X.K B y dy → gd dx dy = some dz → (∀ v, Rep X.K B v dz → Q v H) → ti x y H Q)
    (hf : X.fn x = true ∨ X.env.scope.names.lookup x = some .local := by first | exact .inl rfl | exact .inr rfl | assumption) : PSD X τ (.AugAssign (.Name x px) op e pos) (augS i gd f) :=
  PS.imp (ps_aug hN hi hx he ho hf) fun D σ H hz hl ⟨ρ, B, fp, S, fl, ρ', hf, k⟩ => by
    unfold augS at hf
    split at hf
    · rename_i d q
      split at hf
      · rename_i d' ρ1 q1
        obtain ⟨z, q2, q3⟩ := Option.map_eq_some_iff.mp hf
        cases q3
        obtain ⟨v, h1, h2⟩ := S.rel _ _ q
        have hiN : i < σ.length := by rw [hl]; exact (List.getElem?_eq_some_iff.mp hi).1
        refine ⟨v, h1, ρ, B, fp, S, d', ρ1, q1, fun w H1 B1 fp1 z1 S1 t1 u1 r1 => ?_⟩
        refine hd B1 H1 v w d d' z _ (h2.sh_inv.2.mono t1.ex) r1 q2 fun u ru hz' hl' => ?_
        have zs : Sep B H fp B1 fp1 [] := ⟨by simp, by simp, by simp⟩
        exact k _ H1 B1 _ hz' (by simp) (S1.store hiN (.sh ru) zs) (t1.store zs)
      · cases hf
    · cases hf
end
theorem addI_ok {K : PySem.W.Frag} : ∀ (B H : Hp) (x y : V) (dx dy dz : Dat) (Q : VK), Rep K B x dx → Rep K B y dy → addI dx dy = some dz → (∀ v, Rep K B v dz → Q v H) → ipI (fun i j => i + j) x y H Q := fun B H x y dx dy dz Q rx ry h k => by
  unfold addI at h
  split at h
  · cases h; exact ⟨_, _, rx.int_inv, ry.int_inv, k _ (.int _)⟩
  · cases h
theorem subI_ok {K : PySem.W.Frag} : ∀ (B H : Hp) (x y : V) (dx dy dz : Dat) (Q : VK), Rep K B x dx → Rep K B y dy → subI dx dy = some dz → (∀ v, Rep K B v dz → Q v H) → ipI (fun i j => i - j) x y H Q := fun B H x y dx dy dz Q rx ry h k => by
  unfold subI at h
  split at h
  · cases h; exact ⟨_, _, rx.int_inv, ry.int_inv, k _ (.int _)⟩
  · cases h
end DL

set_option Elab.async false
set_option linter.all false
set_option maxRecDepth 100000
set_option maxHeartbeats 2000000
namespace DL
open PySem L2

/-! ### comprehensions with two for's, nothing changed within -/
def lc2In (vs vs1 : List Nat) (gb1 : Dat → Env → Option Env) (tt1 : M Bool) (te : M Dat) (ρ2 : Env) : List Dat → Option (List Dat)
  | [] => some []
  | d :: ds => match gb1 d (wipeE ρ2 vs1) with
    | some ρ3 => if noOwn ρ3 vs = true then (match tt1 ρ3 with
      | some (true, _) => match te ρ3 with
        | some (y, _) => (lc2In vs vs1 gb1 tt1 te ρ2 ds).map (y :: ·)
        | none => none
      | some (false, _) => lc2In vs vs1 gb1 tt1 te ρ2 ds
      | none => none) else none
    | none => none
def lc2Out (vs vs1 : List Nat) (gb : Dat → Env → Option Env) (tt : M Bool) (g1 : M (List Dat)) (gb1 : Dat → Env → Option Env) (tt1 : M Bool) (te : M Dat) (ρw : Env) : List Dat → Option (List Dat)
  | [] => some []
  | d :: ds => match gb d ρw with
    | some ρ2 => if noOwn ρ2 vs = true then (match tt ρ2 with
      | some (true, _) => match g1 ρ2 with
        | some (ds1, _) => match lc2In vs vs1 gb1 tt1 te ρ2 ds1 with
          | some ys => (lc2Out vs vs1 gb tt g1 gb1 tt1 te ρw ds).map (ys ++ ·)
          | none => none
        | none => none
      | some (false, _) => lc2Out vs vs1 gb tt g1 gb1 tt1 te ρw ds
      | none => none) else none
    | none => none
def lc2D (vs vs1 : List Nat) (g : M (List Dat)) (gb : Dat → Env → Option Env) (tt : M Bool) (g1 : M (List Dat)) (gb1 : Dat → Env → Option Env) (tt1 : M Bool) (te : M Dat) : M Sl := fun ρ => match g ρ with
  | some (ds, ρ1) => if noOwn ρ1 vs = true then (match lc2Out vs vs1 gb tt g1 gb1 tt1 te (wipeE ρ1 vs) ds with
      | some ys => if ys.length ≤ SZ then some (.ol none ys, ρ1) else none
      | none => none) else none
  | none => none
section
variable {K : PySem.W.Frag} {τ : List V}
/-- within a comprehension: the list at D grows, else nothing is changed -/
structure CS (K : PySem.W.Frag) (τ : List V) (B1 H1 : Hp) (fp1 : Nat → List Addr) (D : Addr) (xs : List V) (ws : List Dat) (B : Hp) (σ : L2.St) (H : Hp) (ρ : Env) : Prop where
  S : SR K τ B σ H ρ fp1
  T : Tr B1 H1 fp1 B H fp1
  E : Ex H1 H
  dH : H D = some (.lst xs)
  dB : B D = none
  dN : H1 D = none
  nO : ¬ own fp1 D
  R : RepAll K B xs ws
variable {B1 H1 B H : Hp} {fp1 : Nat → List Addr} {D : Addr} {xs : List V} {ws : List Dat} {σ : L2.St} {ρ : Env}
theorem CS.start (S : SR K τ B1 σ H1 ρ fp1) (hD : H1 D = none) : CS K τ B1 H1 fp1 D [] [] B1 σ (upd H1 D (.lst [])) ρ := ⟨S.ext (Ex.new hD), Tr.ext (Ex.new hD), Ex.new hD, upd_same, S.nowb hD, hD, S.noown hD, .nil⟩
theorem CS.step (C : CS K τ B1 H1 fp1 D xs ws B σ H ρ) {B' H' : Hp} {σ' : L2.St} {ρ' : Env} (S' : SR K τ B' σ' H' ρ' fp1) (t : Tr B H fp1 B' H' fp1) (e : Ex H H') : CS K τ B1 H1 fp1 D xs ws B' σ' H' ρ' := by
  refine ⟨S', C.T.trans t, C.E.trans e, e _ _ C.dH, ?_, C.dN, C.nO, C.R.mono t.ex⟩
  cases q : B' D with
  | none => rfl
  | some o =>
    rcases t.nw D o q with z | z | z
    · rw [C.dB] at z; cases z
    · rw [C.dH] at z; cases z
    · exact absurd z C.nO
theorem CS.grow (C : CS K τ B1 H1 fp1 D xs ws B σ H ρ) {B' H' : Hp} (e : Ex H H') (b : Ex B B') (n : ∀ a o, B' a = some o → B a = some o ∨ (H a = none ∧ H' a = some o)) : CS K τ B1 H1 fp1 D xs ws B' σ H' ρ :=
  C.step (C.S.grow e b n) (Tr.new e b n) e
theorem CS.put (C : CS K τ B1 H1 fp1 D xs ws B σ H ρ) {y : V} {d : Dat} (r : Rep K B y d) : CS K τ B1 H1 fp1 D (xs ++ [y]) (ws ++ [d]) B σ (upd H D (.lst (xs ++ [y]))) ρ := by
  have ne : ∀ a, a ≠ D → upd H D (.lst (xs ++ [y])) a = H a := fun a h => upd_ne h
  have hd1 : ∀ a o, H1 a = some o → a ≠ D := fun a o h e => by rw [e, C.dN] at h; cases h
  refine ⟨⟨fun i s q => ?_, C.S.emp, C.S.dis, C.S.sep, fun a o h => ?_⟩, ⟨fun a o h n => ?_, C.T.ex, C.T.nw, C.T.ow⟩, fun a o h => ?_, upd_same, C.dB, C.dN, C.nO, C.R.snoc r⟩
  · obtain ⟨v, h1, h2⟩ := C.S.rel i s q
    exact ⟨v, h1, h2.any fun a ha => ne a fun e => C.nO ⟨i, e ▸ ha⟩⟩
  · rw [ne a fun e => by rw [e, C.dB] at h; cases h]; exact C.S.le a o h
  · rw [ne a (hd1 a o h)]; exact C.T.fr a o h n
  · rw [ne a (hd1 a o h)]; exact C.E a o h
theorem CS.wipe (C : CS K τ B1 H1 fp1 D xs ws B σ H ρ) {vs : List Nat} (h : ∀ i ∈ vs, fp1 i = []) : CS K τ B1 H1 fp1 D xs ws B (L2.wipe σ vs) H (wipeE ρ vs) :=
  ⟨C.S.wipe h, C.T, C.E, C.dH, C.dB, C.dN, C.nO, C.R⟩
theorem CS.same (C : CS K τ B1 H1 fp1 D xs ws B σ H ρ) {σ' : L2.St} {ρ' : Env} (e : σ = σ') (e' : ρ = ρ') : CS K τ B1 H1 fp1 D xs ws B σ' H ρ' := by subst e e'; exact C
theorem wipe_two {σ : L2.St} {vs vs1 : List Nat} (h : ∀ i ∈ vs1, i ∈ vs) : L2.wipe (L2.wipe σ vs1) vs = L2.wipe σ vs := wipe_eq2 (wipe_length σ vs1) fun j hj => wipe_out fun z => hj (h j z)
theorem wipeE_two {ρ : Env} {vs vs1 : List Nat} (h : ∀ i ∈ vs1, i ∈ vs) : wipeE (wipeE ρ vs1) vs = wipeE ρ vs := wipeE_eq (wipeE_len ρ vs1) fun j hj => wipeE_out fun z => hj (h j z)
/-- a target within a block -/
theorem CS.bind (C : CS K τ B1 H1 fp1 D xs ws B σ H ρ) {vs sl : List Nat} (nfp : ∀ i ∈ vs, fp1 i = []) (hsl : ∀ i ∈ sl, i ∈ vs) {σ' : L2.St} {ρ' : Env} {fp' : Nat → List Addr} (S' : SR K τ B σ' H ρ' fp') (hn : noOwn ρ' vs = true) (f : ∀ j : Nat, j ∉ sl → fp' j = fp1 j) : CS K τ B1 H1 fp1 D xs ws B σ' H ρ' := by
  have e : fp' = fp1 := by
    funext j
    by_cases hj : j ∈ sl
    · rw [noOwn_fp S' hn (hsl j hj), nfp j (hsl j hj)]
    · exact f j hj
  subst e
  exact C.step S' Tr.refl (Ex.refl _)
end
section
variable {X : Cx} {τ : List V} {pg pt pt1 p : Bool} {g g1 : M (List Dat)} {gb gb1 : Dat → Env → Option Env} {tt tt1 : M Bool} {te : M Dat} {sl sl1 vs vs1 : List Nat}
theorem lc2_imp {σ : L2.St} {H : Hp} {Q : VK} (hok : GbOk gb sl) (hsl : ∀ i ∈ sl, i ∈ vs) (hok1 : GbOk gb1 sl1) (hsl1 : ∀ i ∈ sl1, i ∈ vs1) (hv : ∀ i ∈ vs1, i ∈ vs) (h : tSl X.K τ pg (lc2D vs vs1 g gb tt g1 gb1 tt1 te) σ H Q) :
    tLc2 (tIt X.K τ pg g) (tTg X.K τ sl gb) (tBool X.K τ true tt) (tIt X.K τ true g1) (tTg X.K τ sl1 gb1) (tBool X.K τ true tt1) (tDat X.K τ true te) vs vs1 σ H (fun v H' => HSz H' → Q v H') := by
  obtain ⟨ρ, B, fp, S, r, ρ', hf, k⟩ := h
  unfold lc2D at hf
  split at hf
  case h_2 => cases hf
  rename_i ds ρ1 hg0
  split at hf
  case isFalse => cases hf
  rename_i hno
  split at hf
  case h_2 => cases hf
  rename_i ys hl0
  split at hf
  case isFalse => cases hf
  rename_i hsz
  cases hf
  refine ⟨ρ, B, fp, S, ds, _, hg0, fun J H1 B1 fp1 z1 S1 t1 u1 wk D hD => ?_⟩
  have nfp : ∀ i ∈ vs, fp1 i = [] := fun i hi => noOwn_fp S1 hno hi
  have nfp1 : ∀ i ∈ vs1, fp1 i = [] := fun i hi => nfp i (hv i hi)
  have hsl1v : ∀ i ∈ sl1, i ∈ vs := fun i hi => hv i (hsl1 i hi)
  refine ⟨fun i m H' => m = ds.length - i ∧ i ≤ ds.length ∧ ∃ xs ws rs B2, CS X.K τ B1 H1 fp1 D xs ws B2 (L2.wipe σ vs) H' (wipeE ρ' vs) ∧ ys = ws ++ rs ∧ lc2Out vs vs1 gb tt g1 gb1 tt1 te (wipeE ρ' vs) (ds.drop i) = some rs,
    ⟨ds.length, by simp, Nat.zero_le _, [], [], ys, B1, CS.start (S1.wipe nfp) hD, rfl, by simpa using hl0⟩, ?_⟩
  rintro i m H2 ⟨rfl, hi, xs, ws, rs, B2, C, hys, hlp⟩
  by_cases hlt : i < ds.length
  · obtain ⟨go, yl⟩ := wk.step B2 H2 i C.T.ex C.S.le hlt
    refine .inr ⟨go, fun H' => i + 1 ≤ ds.length ∧ ∃ xs ws rs B2, CS X.K τ B1 H1 fp1 D xs ws B2 (L2.wipe σ vs) H' (wipeE ρ' vs) ∧ ys = ws ++ rs ∧ lc2Out vs vs1 gb tt g1 gb1 tt1 te (wipeE ρ' vs) (ds.drop (i + 1)) = some rs, fun H' z => ⟨_, by omega, rfl, z⟩, fun x H3 y => ?_⟩
    obtain ⟨B3, d, hd, e3, b3, n3, r3⟩ := yl x H3 y
    have C3 := C.grow e3 b3 n3
    rw [drop_cons hd] at hlp
    unfold lc2Out at hlp
    split at hlp
    case h_2 => cases hlp
    rename_i ρ3 q1
    split at hlp
    case isFalse => cases hlp
    rename_i hno3
    obtain ⟨lρ, kρ⟩ := hok _ _ _ q1
    refine ⟨_, B3, fp1, C3.S, d, r3, ρ3, q1, fun σ4 fp4 l4 e4 S4 o4 f4 => ?_⟩
    have hw4 : L2.wipe σ4 vs = L2.wipe σ vs := by
      rw [← wipe_idem (σ := σ)]
      exact wipe_eq2 l4 fun j hj => e4 j fun z => hj (hsl j z)
    have hwρ : wipeE ρ3 vs = wipeE ρ' vs := by
      rw [← wipeE_idem (ρ := ρ')]
      exact wipeE_eq lρ fun j hj => kρ j fun z => hj (hsl j z)
    have C4 := C3.bind nfp hsl S4 hno3 f4
    -- back at the outer turn's end
    have out : ∀ {xs' : List V} {ws' : List Dat} {B' H' : Hp} {rs' : List Dat}, CS X.K τ B1 H1 fp1 D xs' ws' B' σ4 H' ρ3 → ys = ws' ++ rs' → lc2Out vs vs1 gb tt g1 gb1 tt1 te (wipeE ρ' vs) (ds.drop (i + 1)) = some rs' →
        i + 1 ≤ ds.length ∧ ∃ xs ws rs B2, CS X.K τ B1 H1 fp1 D xs ws B2 (L2.wipe σ vs) H' (wipeE ρ' vs) ∧ ys = ws ++ rs ∧ lc2Out vs vs1 gb tt g1 gb1 tt1 te (wipeE ρ' vs) (ds.drop (i + 1)) = some rs :=
      fun {xs' ws' B' H' rs'} C' h1 h2 => ⟨hlt, xs', ws', rs', B', (C'.wipe nfp).same hw4 hwρ, h1, h2⟩
    refine ⟨hw4, ?_⟩
    split at hlp
    · rename_i ρ5 q2
      split at hlp
      case h_2 => cases hlp
      rename_i ds1 ρ6 q3
      split at hlp
      case h_2 => cases hlp
      rename_i zs q4
      obtain ⟨rs', q5, q6⟩ := Option.map_eq_some_iff.mp hlp
      subst q6
      refine ⟨_, B3, fp1, C4.S, true, ρ5, q2, fun H5 B5 fp5 z5 S5 t5 u5 => ?_⟩
      obtain ⟨x1, x2, x3⟩ := u5 rfl
      subst x2 x3
      have C5 := C4.step S5 t5 x1
      rw [if_pos rfl]
      refine ⟨_, B5, _, C5.S, ds1, ρ6, q3, fun J1 H6 B6 fp6 z6 S6 t6 u6 wk1 => ?_⟩
      obtain ⟨y1, y2, y3⟩ := u6 rfl
      subst y2 y3
      have C6 := C5.step S6 t6 y1
      refine ⟨fun j m H' => m = ds1.length - j ∧ j ≤ ds1.length ∧ ∃ xs ws ts B7, CS X.K τ B1 H1 fp6 D xs ws B7 (L2.wipe σ4 vs1) H' (wipeE ρ6 vs1) ∧ ys = ws ++ (ts ++ rs') ∧ lc2In vs vs1 gb1 tt1 te ρ6 (ds1.drop j) = some ts ∧ Ex B6 B7,
        ⟨ds1.length, by simp, Nat.zero_le _, xs, ws, zs, B6, C6.wipe nfp1, hys, by simpa using q4, Ex.refl _⟩, ?_⟩
      rintro j m H7 ⟨rfl, hj, xs7, ws7, ts, B7, C7, hys7, hlp7, b67⟩
      by_cases hlt1 : j < ds1.length
      · obtain ⟨go1, yl1⟩ := wk1.step B7 H7 j b67 C7.S.le hlt1
        refine .inr ⟨go1, fun H' => j + 1 ≤ ds1.length ∧ ∃ xs ws ts B7, CS X.K τ B1 H1 fp6 D xs ws B7 (L2.wipe σ4 vs1) H' (wipeE ρ6 vs1) ∧ ys = ws ++ (ts ++ rs') ∧ lc2In vs vs1 gb1 tt1 te ρ6 (ds1.drop (j + 1)) = some ts ∧ Ex B6 B7, fun H' z => ⟨_, by omega, rfl, z⟩, fun x8 H8 y8 => ?_⟩
        obtain ⟨B8, d8, hd8, e8, b8, n8, r8⟩ := yl1 x8 H8 y8
        have C8 := C7.grow e8 b8 n8
        rw [drop_cons hd8] at hlp7
        unfold lc2In at hlp7
        split at hlp7
        case h_2 => cases hlp7
        rename_i ρ9 q7
        split at hlp7
        case isFalse => cases hlp7
        rename_i hno9
        obtain ⟨lρ9, kρ9⟩ := hok1 _ _ _ q7
        refine ⟨_, B8, _, C8.S, d8, r8, ρ9, q7, fun σ9 fp9 l9 e9 S9 o9 f9 => ?_⟩
        have hw9 : L2.wipe σ9 vs1 = L2.wipe σ4 vs1 := by
          rw [← wipe_idem (σ := σ4)]
          exact wipe_eq2 l9 fun j hj => e9 j fun z => hj (hsl1 j z)
        have hwρ9 : wipeE ρ9 vs1 = wipeE ρ6 vs1 := by
          rw [← wipeE_idem (ρ := ρ6)]
          exact wipeE_eq lρ9 fun j hj => kρ9 j fun z => hj (hsl1 j z)
        have C9 := C8.bind nfp hsl1v S9 hno9 f9
        refine ⟨hw9, ?_⟩
        split at hlp7
        · rename_i ρ10 q8
          split at hlp7
          case h_2 => cases hlp7
          rename_i yv ρ11 q9
          obtain ⟨ts', q10, q11⟩ := Option.map_eq_some_iff.mp hlp7
          subst q11
          refine ⟨_, B8, _, C9.S, true, ρ10, q8, fun H10 B10 fp10 z10 S10 t10 u10 => ?_⟩
          obtain ⟨x1', x2, x3⟩ := u10 rfl
          subst x2 x3
          have C10 := C9.step S10 t10 x1'
          rw [if_pos rfl]
          refine ⟨_, B10, _, C10.S, yv, ρ11, q9, fun w H11 B11 fp11 z11 S11 t11 u11 rw11 => ?_⟩
          obtain ⟨y1', y2, y3⟩ := u11 rfl
          subst y2 y3
          have C11 := C10.step S11 t11 y1'
          have hl11 := C11.R.length
          have hlen : xs7.length < sizeLine := by
            rw [sizeLine_eq, hl11]
            have hsz : ys.length ≤ 16777216 := hsz
            have := congrArg List.length hys7
            simp at this
            omega
          refine ⟨xs7, C11.dH, hlen, hlt1, _, _, ts', B11, ((C11.put rw11).wipe nfp1).same hw9 hwρ9, by rw [hys7]; simp, q10, b67.trans (b8.trans (t10.ex.trans t11.ex))⟩
        · rename_i ρ10 q8
          refine ⟨_, B8, _, C9.S, false, ρ10, q8, fun H10 B10 fp10 z10 S10 t10 u10 => ?_⟩
          obtain ⟨x1', x2, x3⟩ := u10 rfl
          subst x2 x3
          have C10 := C9.step S10 t10 x1'
          rw [if_neg (by decide)]
          exact ⟨hlt1, xs7, ws7, ts, B10, (C10.wipe nfp1).same hw9 hwρ9, hys7, hlp7, b67.trans (b8.trans t10.ex)⟩
        · cases hlp7
      · have ej : j = ds1.length := by omega
        subst ej
        rw [List.drop_length] at hlp7
        unfold lc2In at hlp7
        cases hlp7
        refine .inl ⟨wk1.stop B7 H7 b67 C7.S.le, hlt, xs7, ws7, rs', B7, ((C7.wipe nfp).same ((wipe_two hv).trans hw4) ((wipeE_two hv).trans hwρ)), by simpa using hys7, q5⟩
    · rename_i ρ5 q2
      refine ⟨_, B3, fp1, C4.S, false, ρ5, q2, fun H5 B5 fp5 z5 S5 t5 u5 => ?_⟩
      obtain ⟨x1, x2, x3⟩ := u5 rfl
      subst x2 x3
      rw [if_neg (by decide)]
      exact out (C4.step S5 t5 x1) hys hlp
    · cases hlp
  · have ei : i = ds.length := by omega
    subst ei
    rw [List.drop_length] at hlp
    unfold lc2Out at hlp
    cases hlp
    rw [List.append_nil] at hys
    subst hys
    refine .inl ⟨wk.stop B2 H2 C.T.ex C.S.le, fun hz2 => ?_⟩
    have SB : SR X.K τ B2 σ H2 ρ' fp1 := S1.grow C.E C.T.ex fun a o h => by
      rcases C.T.nw a o h with z | z | z
      · exact .inl z
      · exact .inr ⟨z, C.S.le a o h⟩
      · rw [C.S.nob z] at h; cases h
    refine k (.ref D) H2 B2 fp1 [D] hz2 SB (t1.trans C.T) (fun hp => ?_) (.ol C.dH C.R fun k z => nomatch z) ⟨fun a ha => by simp at ha; subst ha; exact C.dB, fun a ha => by simp at ha; subst ha; exact C.nO, fun a ha => ?_⟩
    · obtain ⟨y1, y2, y3⟩ := u1 hp
      exact ⟨y1.trans C.E, y2, y3⟩
    · simp at ha
      subst ha
      cases h : H a with
      | none => exact .inr rfl
      | some o =>
        by_cases w : own fp a
        · exact .inl w
        · have := C.dN
          rw [t1.fr a o h w] at this; cases this
variable {elt tg iter tg1 iter1 : Expr} {ifs ifs1 : List Expr} {scope : Scope} {own : List (Str × Nat)} {pos spos : Pos}
abbrev BlkD (X : Cx) (scope : Scope) (P : Cx → Prop) : Prop := ∀ (s : Shared) (H : Hp) (C : Addr) (cl : List (Str × Addr)) (fp : List Addr), P (X.blk s H scope (PySem.compEnvC scope cl C X.env) fp)
theorem peo_lc2 (hc : X.calm = true) (hN : X.N.Nodup) (hi : PID X τ pg tg iter g) (ok : BlkOk X.N X.env.scope scope own) (hv : ∀ i ∈ vs1, i ∈ own.map (·.2))
    (hg : BlkD X scope fun Y => PGD Y τ sl tg gb) (ht : BlkD X scope fun Y => PTsD Y τ true ifs tt) (hi1 : BlkD X scope fun Y => PID Y τ true tg1 iter1 g1) (hg1 : BlkD X scope fun Y => PGD Y τ sl1 tg1 gb1) (ht1 : BlkD X scope fun Y => PTsD Y τ true ifs1 tt1)
    (he : BlkD X scope fun Y => PED Y τ true elt te) (hok : GbOk gb sl) (hsl : ∀ i ∈ sl, i ∈ own.map (·.2)) (hok1 : GbOk gb1 sl1) (hsl1 : ∀ i ∈ sl1, i ∈ vs1) (hs : ∀ x, foldedSetIterable iter X.env x = pure x := by intro _; rfl) (hs1 : ∀ env x, foldedSetIterable iter1 env x = pure x := by intro _ _; rfl) :
    PEO X τ pg (.ListComp elt [⟨tg, iter, ifs, 0⟩, ⟨tg1, iter1, ifs1, 0⟩] scope pos) (lc2D (own.map (·.2)) vs1 g gb tt g1 gb1 tt1 te) :=
  PE.imp (pe_lc2 hc hN hi ok hv hg ht hi1 hg1 ht1 he hs hs1) fun σ H Q hz hl h => lc2_imp hok hsl hok1 hsl1 hv h
end
end DL

set_option Elab.async false
set_option linter.all false
set_option maxRecDepth 100000
set_option maxHeartbeats 2000000
namespace DL
open PySem PySem.Spec PyProof.Rows L2

theorem room65 {k : Nat} {A : Around} (r : Room k A) : A.units + 65 < cLine := by have := r.un; omega

/-! ### a <= b <= c -/
def chM (g g' : Dat → Dat → Option Dat) (fa fb fc : M Dat) : M Bool := bnd fa fun x => bnd fb fun y => bnd (lift (g x y)) fun z => match z with
  | .bl true => bnd fc fun w => bnd (lift (g' y w)) fun u => match u with
    | .bl b => ret b
    | _ => fun _ => none
  | .bl false => ret false
  | _ => fun _ => none
section
variable {X : Cx} {τ : List V} {p pa pb pc : Bool} {e a b c o : Expr} {es : List Expr} {pos q pt pt2 px : Pos} {f fa fb fc : M Dat} {fs : M Sl}
theorem ch_imp {r r' : R2} {g g' : Dat → Dat → Option Dat} (hd : OpD X.K r g) (hd' : OpD X.K r' g') {σ : L2.St} {H : Hp} {Q : VK} {T : Bool → Hp → Prop} (hz : HSz H) (h : tBool X.K τ (pa && (pb && pc)) (chM g g' fa fb fc) σ H T) (hQ : ∀ b H, (HSz H → T b H) → Q (.bl b) H) : tChain r r' (tDat X.K τ pa fa) (tDat X.K τ pb fb) (tDat X.K τ pc fc) σ H Q := by
  obtain ⟨ρ, B, fp, S, d, ρ', hf, k⟩ := h
  obtain ⟨x, ρ1, h1, g1⟩ := bnd_some hf
  obtain ⟨y, ρ2, h2, g2⟩ := bnd_some g1
  obtain ⟨z, ρ3, h3, g3⟩ := bnd_some g2
  obtain ⟨h4, e4⟩ := lift_some h3
  subst e4
  have pr : ∀ h : (pa && (pb && pc)) = true, pa = true ∧ pb = true ∧ pc = true := fun h => by
    obtain ⟨h1, h2⟩ := Bool.and_eq_true_iff.mp h
    obtain ⟨h2, h3⟩ := Bool.and_eq_true_iff.mp h2
    exact ⟨h1, h2, h3⟩
  refine ⟨ρ, B, fp, S, x, ρ1, h1, fun v1 H1 B1 fp1 z1 S1 t1 u1 r1 => ⟨ρ1, B1, fp1, S1, y, _, h2, fun v2 H2 B2 fp2 z2 S2 t2 u2 r2 => ?_⟩⟩
  refine hd B2 H2 v1 v2 x y z _ z2 S2.le (r1.mono t2.ex) r2 h4 fun v3 H3 B3 e3 b3 n3 r3 => ?_
  have S3 := S2.grow e3 b3 n3
  have t3 := (t1.trans t2).trans (Tr.new e3 b3 n3)
  cases z with
  | bl b0 =>
    refine ⟨b0, r3.bl_inv, ?_⟩
    cases b0 with
    | false =>
      rw [if_neg (by decide)]
      cases g3
      exact hQ _ _ fun hz3 => (k H3 B3 fp2 hz3 S3 t3 fun h => by
        obtain ⟨p1, p2, p3⟩ := pr h
        exact ⟨((u1 p1).trans (u2 p2)).ex.trans e3, ((u1 p1).trans (u2 p2)).er, ((u1 p1).trans (u2 p2)).ef⟩)
    | true =>
      rw [if_pos rfl]
      obtain ⟨w, ρ4, h5, g5⟩ := bnd_some g3
      obtain ⟨u, ρ5, h6, g6⟩ := bnd_some g5
      obtain ⟨h7, e7⟩ := lift_some h6
      subst e7
      refine ⟨_, B3, fp2, S3, w, _, h5, fun v4 H4 B4 fp4 z4 S4 t4 u4 r4 => ?_⟩
      refine hd' B4 H4 v2 v4 y w u _ z4 S4.le ((r2.mono b3).mono t4.ex) r4 h7 fun v5 H5 B5 e5 b5 n5 r5 => ?_
      cases u with
      | bl b1 =>
        cases g6
        rw [r5.bl_inv]
        exact hQ _ _ fun hz5 => (k H5 B5 fp4 hz5 (S4.grow e5 b5 n5) ((t3.trans t4).trans (Tr.new e5 b5 n5)) fun h => by
          obtain ⟨p1, p2, p3⟩ := pr h
          have := (u1 p1).trans (u2 p2)
          exact ⟨(this.ex.trans e3).trans ((u4 p3).ex.trans e5), (u4 p3).er.trans this.er, (u4 p3).ef.trans this.ef⟩)
      | _ => cases g6
  | _ => cases g3
theorem ptd_chain {op op' : CmpOp} {r r' : R2} {g g' : Dat → Dat → Option Dat} (ho : OpR X (compareOp op) r) (hd : OpD X.K r g) (ho' : OpR X (compareOp op') r') (hd' : OpD X.K r' g') (ha : PED X τ pa a fa) (hb : PED X τ pb b fb) (hc : PED X τ pc c fc)
    (hm : lastMarks [op, op'] [b, c] = false := by with_unfolding_all rfl) : PTD X τ (pa && (pb && pc)) (.Compare a [op, op'] [b, c] pos) (chM g g' fa fb fc) :=
  PT.imp (pt_chain ho ho' ha hb hc hm) fun σ H Q hz _ h => ch_imp hd hd' hz h fun b H h => ⟨b, rfl, h⟩
theorem ped_chain {op op' : CmpOp} {r r' : R2} {g g' : Dat → Dat → Option Dat} (ho : OpR X (compareOp op) r) (hd : OpD X.K r g) (ho' : OpR X (compareOp op') r') (hd' : OpD X.K r' g') (ha : PED X τ pa a fa) (hb : PED X τ pb b fb) (hc : PED X τ pc c fc)
    (hm : lastMarks [op, op'] [b, c] = false := by with_unfolding_all rfl) : PED X τ (pa && (pb && pc)) (.Compare a [op, op'] [b, c] pos) (bolD (chM g g' fa fb fc)) :=
  PE.imp (pe_chain ho ho' ha hb hc hm) fun σ H Q hz _ ⟨ρ, B, fp, S, d, ρ', hf, k⟩ => by
    obtain ⟨b, ρ1, h1, h2⟩ := bnd_some hf
    cases h2
    exact ch_imp hd hd' hz (T := fun b' H' => Q (.bl b') H') ⟨ρ, B, fp, S, b, ρ', h1, fun H' B' fp' hz' S' t' u' => k _ H' B' fp' hz' S' t' u' (.bl _)⟩ fun b' H' h => h
/-! ### a comprehension's list, not changed any more -/
def shF (f : M Sl) : M Sl := shM (frzM f)
theorem psd_asg_frz {st : Stmt} {i : Nat} (h : PSD X τ st (asg i fs)) : PSD X τ st (asg i (shF fs)) := PS.imp h fun D σ H hz hl ⟨ρ, B, fp, S, fl, ρ', hf, k⟩ => by
  unfold asg at hf
  split at hf
  · rename_i r ρ1 q
    cases hf
    obtain ⟨d, ρ2, h1, h2⟩ := bnd_some q
    cases h2
    obtain ⟨s, ρ3, h3, h4⟩ := bnd_some h1
    cases h4
    refine ⟨ρ, B, fp, S, .nx, ρ1.set i (some s), by unfold asg; rw [h3], fun σ' H' B' fp' z' l' S' t' hz2 hl2 => ?_⟩
    by_cases hi : i < ρ1.length
    · obtain ⟨v, g1, g2, g3⟩ := S'.share (List.getElem?_set_self hi)
      rw [List.set_set] at g3
      exact k σ' H' _ _ z' l' g3 (t'.trans (Tr.share S' i))
    · have e1 : ρ1.set i (some s) = ρ1 := List.set_eq_of_length_le (by omega)
      have e2 : ρ1.set i (some (Sl.sh (frz s))) = ρ1 := List.set_eq_of_length_le (by omega)
      rw [e1] at S'
      rw [e2] at k
      exact k σ' H' B' fp' z' l' S' t'
  · cases hf
/-! ### x + y, a new list of one's own -/
def catM (fa fb : M Dat) : M Sl := bnd fa fun x => bnd fb fun y => match x, y with
  | .lst ds, .lst es => if ds.length + es.length ≤ SZ then ret (.ol none (ds ++ es)) else fun _ => none
  | _, _ => fun _ => none
theorem peo_cat (ha : PED X τ pa a fa) (hb : PED X τ pb b fb) : PEO X τ (pa && pb) (.BinOp a .Add b pos) (catM fa fb) := PE.imp (pe_op op_cat ha hb) fun σ H Q hz _ ⟨ρ, B, fp, S, d, ρ', hf, k⟩ => by
  obtain ⟨x, ρ1, h1, g1⟩ := bnd_some hf
  obtain ⟨y, ρ2, h2, g2⟩ := bnd_some g1
  cases x with
  | lst ds =>
    cases y with
    | lst es =>
      have g3 : (if ds.length + es.length ≤ SZ then ret (Sl.ol none (ds ++ es)) else fun _ => none) ρ2 = some (d, ρ') := g2
      by_cases hs : ds.length + es.length ≤ SZ
      · rw [if_pos hs] at g3
        cases g3
        refine ⟨ρ, B, fp, S, _, ρ1, h1, fun v1 H1 B1 fp1 z1 S1 t1 u1 r1 => ⟨ρ1, B1, fp1, S1, _, ρ', h2, fun v2 H2 B2 fp2 z2 S2 t2 u2 r2 => ?_⟩⟩
        obtain ⟨a, xs, rfl, q1, q2⟩ := r1.lst_inv
        obtain ⟨b, ys, rfl, q3, q4⟩ := r2.lst_inv
        have q2' := q2.mono t2.ex
        refine ⟨a, b, xs, ys, rfl, rfl, S2.le _ _ (t2.ex _ _ q1), S2.le _ _ q3, by rw [sizeLine_eq, q2.length, q4.length]; exact hs, fun c hc hz' => ?_⟩
        have tt := t1.trans t2
        exact k _ _ B2 fp2 [c] hz' (S2.ext (Ex.new hc)) (tt.trans (Tr.ext (Ex.new hc))) (fun h => ⟨(pu_and u1 u2 h).ex.trans (Ex.new hc), (pu_and u1 u2 h).er, (pu_and u1 u2 h).ef⟩) (.ol upd_same (q2'.append q4) fun _ z => nomatch z) (Sep.new S2 tt hc)
      · rw [if_neg hs] at g3; cases g3
    | _ => cases g2
  | _ => cases g2
/-! ### a, b = x, y by way of the pair: what is one's own stays so -/
def setAll : List Nat → List Sl → Env → Env
  | i :: is, s :: ss, ρ => setAll is ss (ρ.set i (some s))
  | _, _, ρ => ρ
def parT (is : List Nat) (f : M (List Sl)) : Fm := fun ρ => match f ρ with
  | some (ss, ρ1) => if ss.length = is.length ∧ is.length ≤ 1000 then some (.nx, setAll is ss ρ1) else none
  | none => none
/-- the targets: names in these slots -/
def tNms : List Nat → TGs
  | [] => gNil
  | i :: is => gCons (gName i) (tNms is)
theorem RepSL.len {K : PySem.W.Frag} {B H : Hp} : ∀ {vs : List V} {ss : List Sl} {A : List Addr}, RepSL K τ B H vs ss A → vs.length = ss.length
  | _, _, _, .nil => rfl
  | _, _, _, .cons _ r _ => congrArg Nat.succ (RepSL.len r)
theorem nms_imp {K : PySem.W.Frag} {B0 H0 : Hp} {fp0 : Nat → List Addr} {Q : L2.St → Hp → Prop} {n : Nat} : ∀ {is : List Nat} {vs : List V} {ss : List Sl} {A : List Addr} {B : Hp} {σ : L2.St} {H : Hp} {ρ : Env} {fp : Nat → List Addr}, (∀ i ∈ is, i < n) → σ.length = n → ss.length = is.length → SR K τ B σ H ρ fp → Tr B0 H0 fp0 B H fp → RepSL K τ B H vs ss A → Sep B0 H0 fp0 B fp A →
    (∀ σ' fp', σ'.length = n → SR K τ B σ' H (setAll is ss ρ) fp' → Tr B0 H0 fp0 B H fp' → Q σ' H) → tNms is vs σ H Q
  | [], _, _, _, _, _, _, _, _, _, hl, he, S, t, r, z, k => by
    cases r with
    | nil => exact ⟨rfl, k _ _ hl S t⟩
    | cons _ _ _ => cases he
  | i :: is, _, _, _, _, _, _, _, _, hi, hl, he, S, t, r, z, k => by
    cases r with
    | nil => cases he
    | cons r rr d =>
      rename_i ρ fp v s A1 A2 vr sr
      refine ⟨_, _, rfl, ?_⟩
      have zA := z.mem (A' := A1) fun a ha => List.mem_append_left _ ha
      have zB := z.mem (A' := A2) fun a ha => List.mem_append_right _ ha
      have hin : i < _ := hi i (by simp)
      have S2 := S.store (by rw [hl]; exact hin) r zA
      have T2 := t.store (i := i) (c := i < ρ.length) zA
      exact nms_imp (fun j hj => hi j (List.mem_cons_of_mem _ hj)) (by simpa using hl) (by simpa using he) S2 T2 rr (store_sep (i := i) (c := i < ρ.length) zB d zB) k
theorem psd_parT {is : List Nat} {tgs : List Expr} {k1 k2 : Nat} {g : M (List Sl)} (hc : X.calm = true) (hi : (is.all fun i => decide (i < X.N.length)) = true) (hg : PGs X tgs (tNms is)) (ha : PAS X τ es g)
    (hn : (assignEach tgs X.env).length = is.length := by rfl) (hst : (assignEach tgs X.env).findIdx? (·.1) = none := by rfl)
    (hs : swapsWithSole [.Tuple tgs k1 pt] (.Tuple es k2 pt2) pos.line X.env = pure false := by rfl) (hw : swappedStores [.Tuple tgs k1 pt] (.Tuple es k2 pt2) X.env = pure none := by rfl)
    (h1 : (assignEach [.Tuple tgs k1 pt] X.env).map (·.2) = [assign (.Tuple tgs k1 pt) X.env] := by rfl) : PSD X τ (.Assign [.Tuple tgs k1 pt] (.Tuple es k2 pt2) pos) (parT is g) :=
  PS.imp (ps_asg (pe_tup ha) (pg_tup hc hg hn hst) hs hw h1) fun D σ H hz hl ⟨ρ, B, fp, S, fl, ρ', hf, k⟩ => by
    unfold parT at hf
    split at hf
    · rename_i ss ρ1 q
      split at hf
      · rename_i hss
        cases hf
        refine ⟨ρ, B, fp, S, ss, ρ1, q, fun vs H1 B1 fp1 A z1 S1 t1 r1 z => ⟨by rw [sizeLine_eq, r1.len]; omega, fun c hc => ⟨c, vs, rfl, .inl (.inl upd_same), by rw [r1.len]; exact hss.1, ?_⟩⟩⟩
        have liveA : ∀ {vs : List V} {ss : List Sl} {A : List Addr}, RepSL X.K τ B1 H1 vs ss A → RepSL X.K τ B1 (upd H1 c (.tup vs)) vs ss A := by
          intro vs ss A r
          have : ∀ {us : List V} {ts : List Sl} {A : List Addr} {o : HO}, RepSL X.K τ B1 H1 us ts A → RepSL X.K τ B1 (upd H1 c o) us ts A := by
            intro us ts A o r
            induction r with
            | nil => exact .nil
            | cons r rr d ih =>
              refine .cons (r.any fun a ha => ?_) ih d
              obtain ⟨o, ho⟩ := r.live a ha
              exact upd_ne fun e => by rw [e, hc] at ho; cases ho
          exact this r
        exact nms_imp (fun i h => of_decide_eq_true (List.all_eq_true.mp hi i h)) hl hss.1 (S1.ext (Ex.new hc)) (t1.trans (Tr.ext (Ex.new hc))) (liveA r1) z fun σ' fp' l' S' t' hz' hl' => k σ' _ B1 fp' hz' (l'.trans hl.symm) S' t'
      · cases hf
    · cases hf
/-! ### names of the module -/
theorem ped_gstr {x z : Str} (hg : Gl X x) (hm : ∃ t, X.mg x = some (.str z t)) (hd : (x == ("__debug__" : Str)) = false := by decide) : PED X τ true (.Name x pos) (cst (.str z)) := by
  obtain ⟨t, hm⟩ := hm
  exact ped_const (pe_glob hg hm (v := .str z) ⟨t, rfl⟩ hd) fun _ => .str z
theorem ped_gint {x : Str} {z : Int} (hg : Gl X x) (hm : ∃ t, X.mg x = some (.int z t)) (hd : (x == ("__debug__" : Str)) = false := by decide) : PED X τ true (.Name x pos) (cst (.int z)) := by
  obtain ⟨t, hm⟩ := hm
  exact ped_const (pe_glob hg hm (v := .int z) ⟨t, rfl⟩ hd) fun _ => .int z
/-- a written tuple of plain things -/
def dvD : He.Dv → Dat
  | .int i => .int i
  | .str z => .str z
  | .bl b => .bl b
  | _ => .non
def dvP : He.Dv → Bool
  | .int _ => true
  | .str _ => true
  | .bl _ => true
  | .non => true
  | _ => false
theorem dv_rep {K : PySem.W.Frag} {B : Hp} : ∀ {vs : List He.Dv}, vs.all dvP = true → RepAll K B (vs.map (He.Dv.v K)) (vs.map dvD)
  | [], _ => .nil
  | v :: vs, h => by
    obtain ⟨h1, h2⟩ := Bool.and_eq_true_iff.mp h
    refine .cons ?_ (dv_rep h2)
    cases v with
    | int i => exact .int i
    | str i => exact .str i
    | bl i => exact .bl i
    | non => exact .non
    | _ => cases h1
theorem ped_gtup {x : Str} {vs : List He.Dv} (hg : Gl X x) (hm : X.mg x = some (.ref (He.ga X.K x))) (ht : He.tupB X.K x vs = true) (hp : vs.all dvP = true := by rfl) (hd : (x == ("__debug__" : Str)) = false := by decide) : PED X τ true (.Name x pos) (cst (.tup (vs.map dvD))) :=
  ped_const (pe_glob hg hm (v := .ref (He.ga X.K x)) rfl hd) fun B => .tup (He.tupB_ok ht B) (dv_rep hp)
end
end DL

set_option Elab.async false
set_option linter.all false
set_option maxRecDepth 100000
set_option maxHeartbeats 2000000
namespace DL
open PySem PySem.Spec PyProof.Rows L2

/-! ### a def that keeps its word -/
structure DefOk (P : Program) (w : World) (K : PySem.W.Frag) (mg : Str → Option Value) (base : Heap) (k : Nat) (f : Addr) (ps : List Str) (fdat : Fd) : Prop where
  ex : ∃ fd, FnOk P w K mg base CX0 k f fd ps (spD K ps.length fdat) ∧ Binds K fd ps []
  len : FLen fdat ps.length
  kp : PySem.W.keepIn K (.ref f) = true
def E00 : XK := fun _ _ _ => False
theorem pass00 {X : Cx} {E : XK} : Passes CX0 X E := fun _ _ _ _ _ _ _ h => h.elim
section
variable {P : Program} {w : World} {K : PySem.W.Frag} {mg : Str → Option Value} {base : Heap} {x qual : Str} {params : Arguments} {body : List Stmt} {scope : Scope} {f : Addr} {fd : FuncData}
theorem def_ok {N ps : List Str} {k : Nat} {Fb : Fm} (F : FunD K x qual params body scope [] [] f fd) (S : FnScope N ps scope)
    (hb : ∀ (kV doc pm : Value) (an : Option Addr) (cdv ct : Value) (us : List Value), us.length = ps.length → bindArgs (PySem.W.fnOf x qual params body scope .none kV doc pm an cdv ct) ⟨us, []⟩ = pure (ps.zip us))
    (hbody : ∀ (cdv : Value) (A : Around) (outer : List PySem.Env) (s : Shared) (H : Hp) (vs : List V) (E : XK), Room k (A.deeper (envOfC qual scope s.heap.objs.size f cdv)) → PSsD (cxOf CX0 P w K mg base N qual scope f cdv A outer s H E).nox vs body Fb) :
    DefOk P w K mg base (k + 1) f ps (fnD ps.length N.length Fb) :=
  ⟨⟨fd, fun_ok F S fun cdv A outer s H vs E hr => PSs.nox (hbody cdv A outer s H vs E hr), F.bindsN hb⟩, fnD_len, F.kp⟩
theorem DefOk.mono {k j : Nat} {ps : List Str} {g : Fd} (h : DefOk P w K mg base k f ps g) (e : k ≤ j) : DefOk P w K mg base j f ps g := by
  obtain ⟨⟨fd, F, b⟩, l, kp⟩ := h
  exact ⟨⟨fd, F.mono e, b⟩, l, kp⟩
end
section
variable {X : Cx} {τ : List V} {p pa pb : Bool} {e a b o : Expr} {es : List Expr} {pos q apos : Pos} {k j : Nat} {ps : List Str} {x m c : Str} {g : Fd} {fa : M (List Dat)} {far : M (List AR)} {fo : M Dat} {fs : M Sl} {pr gg : Addr}
theorem cw (G : DefOk X.prog X.w X.K X.mg X.base k (He.ga X.K x) ps g) (hr : Room j X.A) (hj : k ≤ j) (hg : Gl X x) (hm : X.mg x = some (.ref (He.ga X.K x))) (ha : PAD X τ p (e :: es) fa) (hdb : (x == ("__debug__" : Str)) = false := by decide)
    (he : starEach (e :: es) X.env = (false, eval e X.env) :: starEach es X.env := by rfl) (hpl : (backTo pos (starEach es X.env)).any (·.1) = false := by rfl) : PEO X τ p (.Call (.Name x q) (e :: es) [] pos) (callP g fa) := by
  obtain ⟨⟨fd, F, b⟩, l, kp⟩ := G
  exact peo_call l F (hr.mono hj) hg hm kp b (E := E00) pass00 ha hdb he hpl
theorem cwO (G : DefOk X.prog X.w X.K X.mg X.base k (He.ga X.K x) ps g) (hr : Room j X.A) (hj : k ≤ j) (hg : Gl X x) (hm : X.mg x = some (.ref (He.ga X.K x))) (ha : PAR X τ (e :: es) far) (hdb : (x == ("__debug__" : Str)) = false := by decide)
    (he : starEach (e :: es) X.env = (false, eval e X.env) :: starEach es X.env := by rfl) (hpl : (backTo pos (starEach es X.env)).any (·.1) = false := by rfl) : PEO X τ false (.Call (.Name x q) (e :: es) [] pos) (callO g far) := by
  obtain ⟨⟨fd, F, b⟩, l, kp⟩ := G
  exact peo_callO l F (hr.mono hj) hg hm kp b (E := E00) pass00 ha hdb he hpl
theorem mkw (M : Mk X.K (He.ga X.K c) (He.ma X.K (He.ga X.K c) "__init__")) (G : DefOk X.prog X.w X.K X.mg X.base k (He.ma X.K (He.ga X.K c) "__init__") ps g) (hr : Room j X.A) (hj : k + 1 ≤ j) (hg : Gl X c) (hm : X.mg c = some (.ref (He.ga X.K c)))
    (ha : PAD X τ p (e :: es) fa) (hdb : (c == ("__debug__" : Str)) = false := by decide) (he : starEach (e :: es) X.env = (false, eval e X.env) :: starEach es X.env := by rfl) (hpl : (backTo pos (starEach es X.env)).any (·.1) = false := by rfl) :
    PEO X τ p (.Call (.Name c q) (e :: es) [] pos) (mkO c g fa) := by
  obtain ⟨⟨fd, F, b⟩, l, kp⟩ := G
  exact peo_make l M F (hr.mono hj) hg hm b (E := E00) pass00 ha hdb he hpl
theorem mwO (i : Nat) (he : PE X (.Name x q) (tVar i)) (cl : Cls X.K (He.ga X.K c)) (hm : Meth X.K (He.ga X.K c) m (He.ma X.K (He.ga X.K c) m)) (G : DefOk X.prog X.w X.K X.mg X.base k (He.ma X.K (He.ga X.K c) m) ps g) (hr : Room j X.A) (hj : k ≤ j) (ha : PAR X τ (e :: es) far)
    (hst : starEach (e :: es) X.env = (false, eval e X.env) :: starEach es X.env := by rfl) (hpl : (backTo pos (starEach es X.env)).any (·.1) = false := by rfl) {pl : Sem Bool}
    (ht : eval (.Call (.Attribute (.Name x q) m apos) (e :: es) [] pos) X.env = (do
      let ov ← eval (.Name x q) X.env
      standAt apos.atName
      let (f, first) ← holding [ov] (getMethod ov m pl)
      callWith pos f first (backTo pos (starEach (e :: es) X.env)) (backToKw pos (keywordEach [] X.env))) := by rfl) :
    PEO X τ false (.Call (.Attribute (.Name x q) m apos) (e :: es) [] pos) (methO i c m g far) := by
  obtain ⟨⟨fd, F, b⟩, l, kp⟩ := G
  exact peo_methO i l he cl hm F (hr.mono hj) b (E := E00) pass00 ha hst hpl ht
theorem mwO0 (i : Nat) (he : PE X (.Name x q) (tVar i)) (cl : Cls X.K (He.ga X.K c)) (hm : Meth X.K (He.ga X.K c) m (He.ma X.K (He.ga X.K c) m)) (G : DefOk X.prog X.w X.K X.mg X.base k (He.ma X.K (He.ga X.K c) m) ps g) (hr : Room j X.A) (hj : k ≤ j) {pl : Sem Bool}
    (ht : eval (.Call (.Attribute (.Name x q) m apos) [] [] pos) X.env = (do
      let ov ← eval (.Name x q) X.env
      standAt apos.atName
      let (f, first) ← holding [ov] (getMethod ov m pl)
      callWith pos f first (backTo pos (starEach [] X.env)) (backToKw pos (keywordEach [] X.env))) := by rfl) :
    PEO X τ false (.Call (.Attribute (.Name x q) m apos) [] [] pos) (methO i c m g nilA) := by
  obtain ⟨⟨fd, F, b⟩, l, kp⟩ := G
  exact peo_methO0 i l he cl hm F (hr.mono hj) b (E := E00) pass00 ht
theorem mwP (he : PED X τ pa o fo) (cl : Cls X.K (He.ga X.K c)) (hm : Meth X.K (He.ga X.K c) m (He.ma X.K (He.ga X.K c) m)) (G : DefOk X.prog X.w X.K X.mg X.base k (He.ma X.K (He.ga X.K c) m) ps g) (hr : Room j X.A) (hj : k ≤ j) (ha : PAD X τ pb (e :: es) fa)
    (hst : starEach (e :: es) X.env = (false, eval e X.env) :: starEach es X.env := by rfl) (hpl : (backTo pos (starEach es X.env)).any (·.1) = false := by rfl) {pl : Sem Bool}
    (ht : eval (.Call (.Attribute o m apos) (e :: es) [] pos) X.env = (do
      let ov ← eval o X.env
      standAt apos.atName
      let (f, first) ← holding [ov] (getMethod ov m pl)
      callWith pos f first (backTo pos (starEach (e :: es) X.env)) (backToKw pos (keywordEach [] X.env))) := by rfl) :
    PEO X τ (pa && pb) (.Call (.Attribute o m apos) (e :: es) [] pos) (methP c m g fo fa) := by
  obtain ⟨⟨fd, F, b⟩, l, kp⟩ := G
  exact peo_methP l he cl hm F (hr.mono hj) b (E := E00) pass00 ha hst hpl ht
theorem mwP0 (he : PED X τ pa o fo) (cl : Cls X.K (He.ga X.K c)) (hm : Meth X.K (He.ga X.K c) m (He.ma X.K (He.ga X.K c) m)) (G : DefOk X.prog X.w X.K X.mg X.base k (He.ma X.K (He.ga X.K c) m) ps g) (hr : Room j X.A) (hj : k ≤ j) {pl : Sem Bool}
    (ht : eval (.Call (.Attribute o m apos) [] [] pos) X.env = (do
      let ov ← eval o X.env
      standAt apos.atName
      let (f, first) ← holding [ov] (getMethod ov m pl)
      callWith pos f first (backTo pos (starEach [] X.env)) (backToKw pos (keywordEach [] X.env))) := by rfl) :
    PEO X τ pa (.Call (.Attribute o m apos) [] [] pos) (methP c m g fo nilA) := by
  obtain ⟨⟨fd, F, b⟩, l, kp⟩ := G
  exact peo_methP0 l he cl hm F (hr.mono hj) b (E := E00) pass00 ht
theorem mwT (he : PEO X τ pa o fs) (cl : Cls X.K (He.ga X.K c)) (hm : Meth X.K (He.ga X.K c) m (He.ma X.K (He.ga X.K c) m)) (G : DefOk X.prog X.w X.K X.mg X.base k (He.ma X.K (He.ga X.K c) m) ps g) (hr : Room j X.A) (hj : k ≤ j) {pl : Sem Bool}
    (ht : eval (.Call (.Attribute o m apos) [] [] pos) X.env = (do
      let ov ← eval o X.env
      standAt apos.atName
      let (f, first) ← holding [ov] (getMethod ov m pl)
      callWith pos f first (backTo pos (starEach [] X.env)) (backToKw pos (keywordEach [] X.env))) := by rfl) :
    PEO X τ false (.Call (.Attribute o m apos) [] [] pos) (methT c m g fs) := by
  obtain ⟨⟨fd, F, b⟩, l, kp⟩ := G
  exact peo_methT l he cl hm F (hr.mono hj) b (E := E00) pass00 ht
theorem pwP (he : PED X τ pa o fo) (cl : Cls X.K (He.ga X.K c)) (hm : PropOf X.K (He.ga X.K c) m pr gg) (G : DefOk X.prog X.w X.K X.mg X.base k gg ps g) (hr : Room j X.A) (hj : k + 1 ≤ j)
    (hab : attributeBase o m X.env (eval o X.env) = eval o X.env := by rfl) : PEO X τ pa (.Attribute o m pos) (propP c g fo) := by
  obtain ⟨⟨fd, F, b⟩, l, kp⟩ := G
  exact peo_propP l he cl hm F (hr.mono hj) b (E := E00) pass00 hab
end

/-! ### e.replace(y, z), written texts, behind a text that bore a token -/
/-- e leaves a token -/
structure PK (X : Cx) (e : Expr) (t : TE) : Prop where
  run : ∀ (pins : List (Addr × Obj)) (s : Shared) (σ : L2.St) (H : Hp) (Q : VK), Inv X pins σ H s → t σ H Q → wpAny (model X.prog X.w) X.A (eval e X.env) (fun v s' => 1 ≤ s'.toks ∧ EP X pins σ Q v s') X.xe s
section
variable {X : Cx} {τ : List V} {p pa pb : Bool} {e o : Expr} {pos apos cp : Pos} {to te : TE} {y z w : Str} {j k j2 : Nat} {c0 c1 : Pos} {f fe : M Dat}
/-- 'w'.join(e) -/
theorem pk_join (he : PE X e te) (hs : starEach [e] X.env = [(false, eval e X.env)] := by rfl) (hbase : attributeBase (.Constant (.str w) j2 cp) "join" X.env (eval (.Constant (.str w) j2 cp) X.env) = eval (.Constant (.str w) j2 cp) X.env := by rfl) (hline : (apos.endLine == pos.line) = true := by rfl) :
    PK X (.Call (.Attribute (.Constant (.str w) j2 cp) "join" apos) [e] [] pos) (tM1 (rJoin0 X.K) (tC (.str w)) te) := by
  refine ⟨fun pins s σ H Q I h => ?_⟩
  refine PySem.Call_method1 hbase hs hline (Calls.Constant_str ?_)
  obtain ⟨_, q1⟩ := h
  refine ⟨"str", _, F.plainAttrs_str, F.slot_str_join, F.type_str_join, typeIs_str _ _ _, (fun _ e => nomatch e), Calls.callWith_builtin rfl (Calls.evalArgs_plain (Calls.spliced_cons ?_))⟩
  have I1 : Inv X pins σ H { s with toks := s.toks + 1 } := I.tok _
  refine wpAny_mono (PySem.wpAny_toks (he.run pins _ σ H _ I1 q1)) (fun v s2 ⟨hk, yv, H2, I2, r2, q2⟩ => ?_) fun _ _ z => z.2
  refine Calls.spliced_nil ?_
  have hk2 : 1 ≤ s2.toks := Nat.le_trans (Nat.succ_le_succ (Nat.zero_le s.toks)) hk
  refine wpAny_mono (PySem.wpAny_toks (mt_join pins s2 σ H2 (.str w) [yv] (.str w _) [v] Q I2 ⟨_, rfl⟩ (.cons r2 .nil) q2)) (fun v3 s3 ⟨hk3, q3⟩ => ⟨Nat.le_trans hk2 hk3, q3⟩) fun _ _ z => z.2
theorem pe_replK (ho : PK X o to) (hyz : (y == z) = false := by decide)
    (hst : starEach [.Constant (.str y) j c0, .Constant (.str z) k c1] X.env = [(false, eval (.Constant (.str y) j c0) X.env), (false, eval (.Constant (.str z) k c1) X.env)] := by rfl)
    (hbase : attributeBase o "replace" X.env (eval o X.env) = eval o X.env := by rfl) (hline : (apos.endLine == pos.line) = true := by rfl) :
    PE X (.Call (.Attribute o "replace" apos) [.Constant (.str y) j c0, .Constant (.str z) k c1] [] pos) (CwR.tReplC to y z) := by
  refine ⟨fun pins s σ H Q I h => ?_⟩
  refine PySem.Call_method2 hbase hst hline (wpAny_mono (ho.run pins s σ H _ I h) (fun v s1 q => ?_) fun _ _ z => z)
  obtain ⟨hk, v', H1, I1, r1, x, e1, hb, q⟩ := q
  subst e1
  obtain ⟨tx, e2⟩ := r1
  subst e2
  refine ⟨"str", _, PySem.F.plainAttrs_str, PySem.F.slot_str_replace, PySem.F.type_str_replace, typeIs_str _ _ _, (fun _ e => nomatch e), Calls.callWith_builtin rfl (Calls.evalArgs_plain (Calls.spliced_cons ?_))⟩
  refine Calls.Constant_str (Calls.spliced_cons (Calls.Constant_str (Calls.spliced_nil ?_)))
  exact PySem.SC.replace (by show s1.toks ≠ 0; omega) (by show s1.toks + 1 ≠ 0; omega) (by show s1.toks ≠ s1.toks + 1; omega) hyz hb fun t' k => ⟨.str (Txt.replace x y z), H1, I1.tok k, ⟨t', rfl⟩, q⟩
def replD (y z : Str) : Dat → Option Dat
  | .str x => if x.length + (x.length + 1) * z.length ≤ 16777216 then some (.str (Txt.replace x y z)) else none
  | _ => none
theorem ped_joinrepl {apos2 pos2 : Pos} (he : PED X τ p e fe) (hyz : (y == z) = false := by decide) (hs : starEach [e] X.env = [(false, eval e X.env)] := by rfl) (hbase : attributeBase (.Constant (.str w) j2 cp) "join" X.env (eval (.Constant (.str w) j2 cp) X.env) = eval (.Constant (.str w) j2 cp) X.env := by rfl) (hline : (apos.endLine == pos.line) = true := by rfl)
    (hst : starEach [.Constant (.str y) j c0, .Constant (.str z) k c1] X.env = [(false, eval (.Constant (.str y) j c0) X.env), (false, eval (.Constant (.str z) k c1) X.env)] := by rfl)
    (hbase2 : attributeBase (.Call (.Attribute (.Constant (.str w) j2 cp) "join" apos) [e] [] pos) "replace" X.env (eval (.Call (.Attribute (.Constant (.str w) j2 cp) "join" apos) [e] [] pos) X.env) = eval (.Call (.Attribute (.Constant (.str w) j2 cp) "join" apos) [e] [] pos) X.env := by rfl) (hline2 : (apos2.endLine == pos2.line) = true := by rfl) :
    PED X τ p (.Call (.Attribute (.Call (.Attribute (.Constant (.str w) j2 cp) "join" apos) [e] [] pos) "replace" apos2) [.Constant (.str y) j c0, .Constant (.str z) k c1] [] pos2) (un (replD y z) (bnd fe fun d => lift (joinD w d))) :=
  PE.imp (pe_replK (pk_join he hs hbase hline) hyz hst hbase2 hline2) fun σ H Q hz _ ⟨ρ, B, fp, S, d, ρ', hf, k0⟩ => by
    obtain ⟨x, ρ1, h1, h2⟩ := bnd_some hf
    obtain ⟨h3, e3⟩ := lift_some h2
    subst e3
    obtain ⟨dx, ρ2, h4, h5⟩ := bnd_some h1
    obtain ⟨h6, e6⟩ := lift_some h5
    subst e6
    refine ⟨⟨w, rfl⟩, ρ, B, fp, S, dx, _, h4, fun v1 H1 B1 fp1 z1 S1 t1 u1 r1 => ?_⟩
    refine joinD_ok B1 H1 w v1 dx x _ z1 S1.le r1 h6 fun v2 H2 B2 e2 b2 n2 r2 => ?_
    unfold replD at h3
    split at h3
    · split at h3
      · rename_i hsz
        cases h3
        exact ⟨_, r2.str_inv, hsz, fun hz' => k0 _ H2 B2 fp1 hz' (S1.grow e2 b2 n2) (t1.trans (Tr.new e2 b2 n2)) (fun h => ⟨(u1 h).ex.trans e2, (u1 h).er, (u1 h).ef⟩) (.str _)⟩
      · cases h3
    · cases h3
end
end DL

set_option Elab.async false
set_option linter.all false
set_option maxRecDepth 100000
set_option maxHeartbeats 2000000
namespace DL
open PySem PySem.Spec PyProof.Rows L2

section
variable {X : Cx} {τ : List V} {p pa pb : Bool} {e a b o tg iter : Expr} {es : List Expr} {pos q apos cpos : Pos} {f fe : M Dat}
/-! ### walked: a list, a tuple, a text -/
theorem PI.or {t t' : TI} (h : PI X tg iter t) (h' : PI X tg iter t') : PI X tg iter (fun σ H R => t σ H R ∨ t' σ H R) :=
  ⟨fun pins s σ H R I q => q.elim (fun q => h.run pins s σ H R I q) fun q => h'.run pins s σ H R I q⟩
def itA : Dat → Option (List Dat)
  | .lst ds => some ds
  | .lsf ds => some ds
  | .tup ds => some ds
  | .tuf ds => some ds
  | .str z => itS (.str z)
  | _ => none
theorem pid_any (h : PED X τ p e f) : PID X τ p tg e (liftF itA f) := PI.imp (PI.or (pid_list (tg := tg) h) (PI.or (pid_tup (tg := tg) h) (pid_str (tg := tg) h))) fun σ H R hz _ ⟨ρ, B, fp, S, ds, ρ', hf, k⟩ => by
  have k' : ∀ J H' B' fp', HSz H' → SR X.K τ B' σ H' ρ' fp' → Tr B H fp B' H' fp' → (p = true → Pu H H' ρ ρ' fp fp') → WalkD X.K B' J ds → HSz H' → R J H' := fun J H' B' fp' a b c d e _ => k J H' B' fp' a b c d e
  obtain ⟨d, ρ1, h1, h0⟩ := bnd_some hf
  obtain ⟨h2, e2⟩ := lift_some h0
  subst e2
  have mk : ∀ g : Dat → Option (List Dat), g d = some ds → liftF g f ρ = some (ds, ρ') := fun g hg => by
    unfold liftF bnd lift
    rw [h1]
    simp only
    rw [hg]
  cases d with
  | lst es => exact .inl ⟨ρ, B, fp, S, ds, ρ', mk itL h2, k'⟩
  | lsf es => exact .inl ⟨ρ, B, fp, S, ds, ρ', mk itL h2, k'⟩
  | tup es => exact .inr (.inl ⟨ρ, B, fp, S, ds, ρ', mk itT h2, k'⟩)
  | tuf es => exact .inr (.inl ⟨ρ, B, fp, S, ds, ρ', mk itT h2, k'⟩)
  | str z => exact .inr (.inr ⟨ρ, B, fp, S, ds, ρ', mk itS h2, k'⟩)
  | _ => cases h2
/-! ### xs.index(y) -/
def idxD (x y : Dat) : Option Dat := match itL x with
  | some ds => match toPyL ds, toPy y with
    | some bs, some a => if scalD y = true ∧ ds.all scalD = true then (bs.findIdx? fun z => PyData.eqv z a).map fun j => .int (j : Nat) else none
    | _, _ => none
  | none => none
def idxM (f fe : M Dat) : M Dat := bnd f fun x => bnd fe fun y => lift (idxD x y)
theorem toPyL_len : ∀ {ds : List Dat} {bs : List PyData}, toPyL ds = some bs → bs.length = ds.length
  | [], _, h => by rw [toPyL] at h; cases h; rfl
  | d :: ds, _, h => by
    rw [toPyL] at h
    split at h
    · rename_i p ps h1 h2
      cases h
      exact congrArg Nat.succ (toPyL_len h2)
    · cases h
theorem toPyL_get : ∀ {ds : List Dat} {bs : List PyData} {j : Nat} {d : Dat}, toPyL ds = some bs → ds[j]? = some d → ∃ p, bs[j]? = some p ∧ toPy d = some p
  | [], _, _, _, h, e => by simp at e
  | d :: ds, _, j, _, h, e => by
    rw [toPyL] at h
    split at h
    · rename_i p ps h1 h2
      cases h
      cases j with
      | zero => simp at e; subst e; exact ⟨p, rfl, h1⟩
      | succ j => simpa using toPyL_get (j := j) h2 (by simpa using e)
    · cases h
theorem ped_index (ho : PED X τ pa o f) (he : PED X τ pb e fe) (hbase : attributeBase o "index" X.env (eval o X.env) = eval o X.env := by rfl)
    (hfew : ((backTo cpos (starEach [e] X.env)).all (fun x => !x.1) && (backToKw cpos (keywordEach [] X.env)).all (fun x => x.1.isSome)
      && decide ([e].length + ([] : List Keyword).length + (if ([] : List Keyword).isEmpty then 0 else 1) < 30)) = true := by rfl)
    (hline : (apos.endLine == cpos.line) = true := by rfl) (hs : starEach [e] X.env = (false, eval e X.env) :: starEach [] X.env := by rfl) (hplain : (backTo cpos (starEach [] X.env)).any (·.1) = false := by rfl) :
    PED X τ (pa && (pb && true)) (.Call (.Attribute o "index" apos) [e] [] cpos) (idxM f fe) :=
  PE.imp (pe_bm PySem.F.plainAttrs_list PySem.F.slot_list_index PySem.F.type_list_index mt_index ho (pad_cons he pad_nil hs) hbase hfew hline hs hplain) fun σ H Q hz _ ⟨ρ, B, fp, S, dz, ρ', hf, k⟩ => by
    obtain ⟨x, ρ1, h1, g1⟩ := bnd_some hf
    obtain ⟨y, ρ2, h2, g2⟩ := bnd_some g1
    obtain ⟨h3, e3⟩ := lift_some g2
    subst e3
    unfold idxD at h3
    split at h3
    case h_2 => cases h3
    rename_i ds hl
    split at h3
    case h_2 => cases h3
    rename_i bs pa_ hbs hpa
    split at h3
    case isFalse => cases h3
    rename_i hsc
    obtain ⟨j, hj, rfl⟩ := Option.map_eq_some_iff.mp h3
    refine ⟨ρ, B, fp, S, x, ρ1, h1, fun v1 H1 B1 fp1 z1 S1 t1 u1 r1 => ?_⟩
    obtain ⟨a, xs, rfl, q, ra⟩ := lstF_inv r1 hl
    refine ⟨.inl ⟨rfl, xs, ex_l S1.le q⟩, ρ1, B1, fp1, S1, [y], ρ', ?_, fun vs H2 B2 fp2 z2 S2 t2 u2 r2 => ?_⟩
    · unfold consA nilA bnd ret
      simp only [h2]
    · obtain ⟨w, rfl, rw2⟩ := r2.one_inv
      have ra2 := ra.mono t2.ex
      obtain ⟨hjl, hjt, hjm⟩ := List.findIdx?_eq_some_iff_getElem.mp hj
      have hjd : j < ds.length := by rw [← toPyL_len hbs]; exact hjl
      obtain ⟨z, hz1, hz2⟩ := ra2.get (List.getElem?_eq_getElem hjd)
      have flat := flats_of hsc.2 ra2
      have val : ∀ (m : Nat) (zv : V), xs[m]? = some zv → ∃ pm, bs[m]? = some pm ∧ eqV zv w = PyData.eqv pm pa_ := fun m zv hm => by
        obtain ⟨d, hd, rd⟩ := ra2.getv hm
        obtain ⟨pm, hpm, hpd⟩ := toPyL_get hbs hd
        exact ⟨pm, hpm, eqV_of (List.all_eq_true.mp hsc.2 d (List.mem_of_getElem? hd)) hsc.1 rd rw2 hpd hpa⟩
      refine ⟨a, xs, w, j, z, rfl, rfl, ex_l S2.le (ex_l t2.ex q), flat_of hsc.1 rw2, flat, hz1, ?_, fun m z' hm hz' => ?_, fun hz2' => ?_⟩
      · obtain ⟨pm, hpm, e⟩ := val j z hz1
        rw [e]
        rw [List.getElem?_eq_getElem hjl] at hpm
        cases hpm
        exact hjt
      · obtain ⟨pm, hpm, e⟩ := val m z' hz'
        rw [e]
        have := hjm m hm
        rw [List.getElem?_eq_getElem (by omega)] at hpm
        cases hpm
        simpa using this
      · exact k _ H2 B2 fp2 hz2' S2 (t1.trans t2) (pu_and u1 u2) (.int _)
end
/-! ### a def that promises nothing -/
section
variable {P : Program} {w : World} {K : PySem.W.Frag} {mg : Str → Option Value} {base : Heap} {x qual : Str} {params : Arguments} {body : List Stmt} {scope : Scope} {f : Addr} {fd : FuncData}
def noFd : Fd := fun _ => none
theorem def_none {ps : List Str} {k : Nat} (F : FunD K x qual params body scope [] [] f fd)
    (hb : ∀ (kV doc pm : Value) (an : Option Addr) (cdv ct : Value) (us : List Value), us.length = ps.length → bindArgs (PySem.W.fnOf x qual params body scope .none kV doc pm an cdv ct) ⟨us, []⟩ = pure (ps.zip us)) : DefOk P w K mg base k f ps noFd :=
  ⟨⟨fd, ⟨fun _ _ _ _ h => h.1, fun _ _ _ _ _ _ _ _ _ _ _ _ _ h => (by
    obtain ⟨_, _, _, _, _, _, _, h, _⟩ := h
    cases h)⟩, F.bindsN hb⟩, fun _ _ h => (by cases h), F.kp⟩
end
end DL

set_option Elab.async false
set_option linter.all false
set_option maxRecDepth 100000
set_option maxHeartbeats 2000000
namespace DL
open PySem PySem.Spec PyProof.Rows L2

/-! ### a field read by giving up what it owns -/
section
variable {K : PySem.W.Frag} {τ : List V} {B : Hp} {σ : L2.St} {H : Hp} {ρ : Env} {fp : Nat → List Addr}
theorem RepSF.share {f : Str} {s : Sl} : ∀ {fvs : List (Str × V)} {fs : List (Str × Sl)} {A : List Addr}, RepSF K τ B H fvs fs A → fs.lookup f = some s → (∀ a ∈ A, B a = Option.none) →
    ∃ v A1 A', fvs.lookup f = some v ∧ RepS K τ B H v s A1 ∧ (∀ a ∈ A1, a ∈ A) ∧ (∀ a ∈ A', a ∈ A) ∧ (∀ a ∈ A', a ∉ A1) ∧ RepSF K τ (add B H A1) H fvs (setS f (.sh (DL.frz s)) fs) A'
  | _, _, _, .nil, h, _ => by simp at h
  | _, _, _, .cons (f := g) (A1 := A1) (A2 := A2) r rr dd, h, nb => by
    by_cases q : (f == g) = true
    · simp only [List.lookup, q] at h ⊢
      cases h
      have e := add_ex (B := B) (H := H) (A := A1) fun a ha => nb a (List.mem_append_left _ ha)
      refine ⟨_, A1, [] ++ A2, rfl, r, fun a ha => List.mem_append_left _ ha, fun a ha => List.mem_append_right _ (by simpa using ha), fun a ha hb => dd a hb (by simpa using ha), ?_⟩
      unfold setS
      rw [if_pos q]
      exact .cons (.sh (r.frz e fun a ha => add_in ha)) (rr.mono e fun _ _ => rfl) (by simp)
    · have q' : (f == g) = false := by simpa using q
      simp only [List.lookup, q'] at h ⊢
      obtain ⟨v, A3, A', h1, h2, h3, h4, h5, h6⟩ := RepSF.share rr h fun a ha => nb a (List.mem_append_right _ ha)
      have e := add_ex (B := B) (H := H) (A := A3) fun a ha => nb a (List.mem_append_right _ (h3 a ha))
      refine ⟨v, A3, A1 ++ A', h1, h2, fun a ha => List.mem_append_right _ (h3 a ha), fun a ha => ?_, fun a ha hb => ?_, ?_⟩
      · exact (List.mem_append.mp ha).elim (List.mem_append_left _) fun z => List.mem_append_right _ (h4 a z)
      · rcases List.mem_append.mp ha with z | z
        · exact dd a z (h3 a hb)
        · exact h5 a z hb
      · unfold setS
        rw [if_neg q]
        exact .cons (r.mono e fun _ _ => rfl) h6 fun a ha hb => dd a ha (h4 a hb)
end
def fldF (i : Nat) (c f : Str) : M Dat := fun ρ => match ρ[i]? with
  | some (some (.oo t c' fs)) => if c' = c then (match fs.lookup f with
    | some s => some (frz s, ρ.set i (some (.oo t c' (setS f (.sh (frz s)) fs))))
    | none => none) else none
  | _ => none
section
variable {X : Cx} {τ : List V} {pos q : Pos}
theorem ped_fldF (i : Nat) {c at_ x : Str} (hc : Cls X.K (He.ga X.K c)) (hn : NoAttr X.K (He.ga X.K c) at_) (h : PE X (.Name x q) (tVar i)) (hb : attributeBase (.Name x q) at_ X.env (eval (.Name x q) X.env) = eval (.Name x q) X.env := by rfl) : PED X τ false (.Attribute (.Name x q) at_ pos) (fldF i c at_) :=
  PE.imp (pe_fld h hb) fun σ H Q hz _ ⟨ρ, B, fp, S, d, ρ', hf, k⟩ => by
    unfold fldF at hf
    split at hf
    · rename_i t c' fs q0
      split at hf
      · rename_i hcn
        subst hcn
        split at hf
        · rename_i s q1
          cases hf
          obtain ⟨v, h1, h2⟩ := S.rel _ _ q0
          obtain ⟨a, dx, fvs, A, rfl, e1, h3, h4, h5, h6⟩ := h2.oo_inv
          have hA : ∀ x ∈ A, x ∈ fp i := fun x hx => by rw [e1]; exact List.mem_cons_of_mem _ hx
          have ha : a ∈ fp i := by rw [e1]; simp
          obtain ⟨u, A1, A', g1, g2, g3, g4, g5, g6⟩ := h4.share q1 fun x hx => S.sep i x (hA x hx)
          have hil : i < ρ.length := (List.getElem?_eq_some_iff.mp q0).1
          have nbA : ∀ x ∈ A1, B x = none := fun x hx => S.sep i x (hA x (g3 x hx))
          have eb := add_ex (B := B) (H := H) nbA
          have naA1 : a ∉ A1 := fun z => h5 (g3 a z)
          refine ⟨_, h1, a, _, dx, fvs, u, rfl, h3, hc, hn, g1, fun hz' => k u H (add B H A1) (fun j => if j = i then a :: A' else fp j) hz' ⟨fun j s0 qq => ?_, fun j qq => ?_, fun j l hjl x hx hy => ?_, fun j x hx => ?_, fun x o hx => ?_⟩ ⟨fun _ _ h _ => h, eb, fun x o hx => ?_, fun x ⟨j, hx⟩ => ?_⟩ (fun z => nomatch z) (g2.frz eb fun x hx => add_in hx)⟩
          · by_cases hj : j = i
            · subst hj
              rw [List.getElem?_set_self hil] at qq
              cases qq
              refine ⟨_, h1, ?_⟩
              simp only [if_true]
              exact .oo h3 g6 (fun z => h5 (g4 a z)) h6
            · rw [List.getElem?_set_ne (Ne.symm hj)] at qq
              obtain ⟨v2, k1, k2⟩ := S.rel j s0 qq
              rw [if_neg hj]
              exact ⟨v2, k1, k2.mono eb fun _ _ => rfl⟩
          · by_cases hj : j = i
            · subst hj
              exact absurd (List.getElem?_set_self hil) (qq _)
            · rw [if_neg hj]
              exact S.emp j fun s0 w => qq s0 (by rw [List.getElem?_set_ne (Ne.symm hj)]; exact w)
          · have inn : ∀ {y : Addr}, y ∈ a :: A' → y ∈ fp i := fun {y} hy => by
              rcases List.mem_cons.mp hy with e | w
              · rw [e]; exact ha
              · exact hA y (g4 y w)
            by_cases hj : j = i
            · rw [if_pos hj] at hx
              rw [if_neg (fun w => hjl (hj.trans w.symm))] at hy
              exact S.dis l i (fun w => hjl (hj.trans w.symm)) x hy (inn hx)
            · rw [if_neg hj] at hx
              by_cases hl : l = i
              · rw [if_pos hl] at hy; exact S.dis j i hj x hx (inn hy)
              · rw [if_neg hl] at hy; exact S.dis j l hjl x hx hy
          · by_cases hj : j = i
            · rw [if_pos hj] at hx
              rcases List.mem_cons.mp hx with e | w
              · rw [e, add_out naA1]; exact S.sep i a ha
              · rw [add_out (g5 x w)]; exact S.sep i x (hA x (g4 x w))
            · rw [if_neg hj] at hx
              rw [add_out fun z => S.dis j i hj x hx (hA x (g3 x z))]
              exact S.sep j x hx
          · by_cases qx : x ∈ A1
            · rw [add_in qx] at hx; exact hx
            · rw [add_out qx] at hx; exact S.le x o hx
          · by_cases qx : x ∈ A1
            · exact .inr (.inr ⟨i, hA x (g3 x qx)⟩)
            · rw [add_out qx] at hx; exact .inl hx
          · dsimp only at hx
            by_cases hj : j = i
            · rw [if_pos hj] at hx
              rcases List.mem_cons.mp hx with e | w
              · rw [e]; exact .inl ⟨i, ha⟩
              · exact .inl ⟨i, hA x (g4 x w)⟩
            · rw [if_neg hj] at hx; exact .inl ⟨j, hx⟩
        · cases hf
      · cases hf
    · cases hf
end

/-! ### list(range(n)) -/
def lrgS : List Dat → Option Sl
  | [.int n] => if n ≤ 16777216 ∧ -16777216 ≤ n then some (.ol none (rngL 0 n.toNat)) else none
  | _ => none
section
variable {X : Cx} {τ : List V} {p : Bool} {a : Expr} {pos q q2 pos2 : Pos} {fa : M Dat}
theorem rng_rep {K : PySem.W.Frag} {B : Hp} {n : Int} : RepAll K B (rgV 0 n) (rngL 0 n.toNat) := by
  have e : rgV 0 n = (List.range n.toNat).map fun i => V.int (0 + (i : Nat)) := by
    unfold rgV
    rw [Int.sub_zero]
  rw [e]
  unfold rngL
  induction List.range n.toNat with
  | nil => exact .nil
  | cons i r ih => exact .cons (.int _) ih
theorem peo_lrg (hc : X.calm = true) (hg : Gl X "list") (hm : X.mg "list" = none) (hg2 : Gl X "range") (hm2 : X.mg "range" = none) (ha : PED X τ p a fa) (na : starEach [a] X.env = (false, eval a X.env) :: starEach [] X.env := by rfl)
    (na2 : starEach [.Call (.Name "range" q) [a] [] pos] X.env = (false, eval (.Call (.Name "range" q) [a] [] pos) X.env) :: starEach [] X.env := by rfl) : PEO X τ p (.Call (.Name "list" q2) [.Call (.Name "range" q) [a] [] pos] [] pos2) (liftA lrgS (consA fa nilA)) :=
  PE.imp (pe_listRg hc hg hm (prg_1 hg2 hm2 ha na) na2) fun σ H Q hz _ ⟨ρ, B, fp, S, d, ρ', hf, k⟩ => by
    obtain ⟨ds, ρ1, h1, h2⟩ := bnd_some hf
    obtain ⟨h3, e3⟩ := lift_some h2
    subst e3
    obtain ⟨x, ρ2, h4, h5⟩ := bnd_some h1
    obtain ⟨xs, ρ3, h6, h7⟩ := bnd_some h5
    cases h6
    cases h7
    refine ⟨ρ, B, fp, S, x, _, h4, fun v1 H1 B1 fp1 z1 S1 t1 u1 r1 => ?_⟩
    cases x with
    | int n =>
      have h8 : (if n ≤ 16777216 ∧ -16777216 ≤ n then some (Sl.ol none (rngL 0 n.toNat)) else none) = some d := h3
      by_cases hn : n ≤ 16777216 ∧ -16777216 ≤ n
      · rw [if_pos hn] at h8
        cases h8
        refine ⟨n, r1.int_inv, ⟨by omega, by omega, by omega, by omega, by omega⟩, fun c hc0 hz' => ?_⟩
        exact k _ _ B1 fp1 [c] hz' (S1.ext (Ex.new hc0)) (t1.trans (Tr.ext (Ex.new hc0))) (fun h => ⟨(u1 h).ex.trans (Ex.new hc0), (u1 h).er, (u1 h).ef⟩) (.ol upd_same rng_rep fun _ z => nomatch z) (Sep.new S1 t1 hc0)
      · rw [if_neg hn] at h8; cases h8
    | _ => cases h3
end
end DL

set_option Elab.async false
set_option linter.all false
set_option maxRecDepth 100000
set_option maxHeartbeats 2000000
namespace DL
open PySem PySem.Spec PyProof.Rows L2

/-! ### text.index(sign) -/
def sidxD (a : Str) : Dat → Option Dat
  | .str b => match Builtin.Str.occurrences a b 0 a.length 1 with
    | i :: _ => some (.int (i : Nat))
    | [] => none
  | _ => none
abbrev rSIdx0 : V → List V → Hp → VK → Prop := fun x xs H Q => ∃ a b i rest, x = .str a ∧ xs = [.str b] ∧ Builtin.Str.occurrences a b 0 a.length 1 = i :: rest ∧ Q (.int (i : Nat)) H
theorem sidxD_ok {K : PySem.W.Frag} : M1D K rSIdx0 sidxD := fun B H a y dy dz Q hz le r hg k => by
  unfold sidxD at hg
  split at hg
  · rename_i b
    split at hg
    · rename_i i rest ho
      cases hg
      cases r
      exact ⟨a, b, i, rest, rfl, rfl, ho, k.same (.int _)⟩
    · cases hg
  · cases hg
/-! ### NAME.index(text), a tuple of the program's -/
def tidxD (ds : List Dat) : Dat → Option Dat
  | .str z => match strsOf ds with
    | some ys => (ys.findIdx? fun u => u == z).map fun j => .int (j : Nat)
    | none => none
  | _ => none
def tplB (K : PySem.W.Frag) (x : Str) : Bool := match K.lookup (He.ga K x) with
  | some ⟨.type c, none, _, _⟩ => decide (c = "tuple")
  | _ => false
theorem tplB_ok {K : PySem.W.Frag} {x : Str} (h : tplB K x = true) : ∃ o, K.lookup (He.ga K x) = some o ∧ o.cls = .type "tuple" ∧ o.dict = none := by
  unfold tplB at h
  split at h
  · rename_i c dt sl q
    exact ⟨_, q, by rw [of_decide_eq_true h], rfl⟩
  · cases h
section
variable {X : Cx} {τ : List V} {pb : Bool} {e : Expr} {apos cpos q : Pos} {fe : M Dat}
theorem ped_gindex {x : Str} {vs : List He.Dv} (hg : Gl X x) (hm : X.mg x = some (.ref (He.ga X.K x))) (ht : He.tupB X.K x vs = true) (hpl : tplB X.K x = true) (he : PED X τ pb e fe) (hp : vs.all dvP = true := by rfl) (hd : (x == ("__debug__" : Str)) = false := by decide)
    (hbase : attributeBase (.Name x q) "index" X.env (eval (.Name x q) X.env) = eval (.Name x q) X.env := by rfl)
    (hfew : ((backTo cpos (starEach [e] X.env)).all (fun x => !x.1) && (backToKw cpos (keywordEach [] X.env)).all (fun x => x.1.isSome) && decide ([e].length + ([] : List Keyword).length + (if ([] : List Keyword).isEmpty then 0 else 1) < 30)) = true := by rfl)
    (hline : (apos.endLine == cpos.line) = true := by rfl) (hs : starEach [e] X.env = (false, eval e X.env) :: starEach [] X.env := by rfl) (hplain : (backTo cpos (starEach [] X.env)).any (·.1) = false := by rfl) :
    PED X τ (pb && true) (.Call (.Attribute (.Name x q) "index" apos) [e] [] cpos) (liftF (tidxD (vs.map dvD)) fe) :=
  PE.imp (pe_bm PySem.F.plainAttrs_tuple PySem.F.slot_tuple_index PySem.F.type_tuple_index mt_tup_index (pe_glob hg hm (v := .ref (He.ga X.K x)) rfl hd) (pad_cons he pad_nil hs) hbase hfew hline hs hplain) fun σ H Q hz _ ⟨ρ, B, fp, S, dz, ρ', hf, k⟩ => by
    obtain ⟨y, ρ2, h2, g2⟩ := bnd_some hf
    obtain ⟨h3, e3⟩ := lift_some g2
    subst e3
    unfold tidxD at h3
    split at h3
    case h_2 => cases h3
    rename_i z
    split at h3
    case h_2 => cases h3
    rename_i ys hys
    obtain ⟨j, hj, rfl⟩ := Option.map_eq_some_iff.mp h3
    have q0 := He.tupB_ok ht H
    rw [strs_rep (dv_rep (B := B) hp) hys] at q0
    refine ⟨.inr (.inl ⟨rfl, tplB_ok hpl⟩), ρ, B, fp, S, [.str z], ρ', ?_, fun vs2 H2 B2 fp2 z2 S2 t2 u2 r2 => ?_⟩
    · unfold consA nilA bnd ret
      simp only [h2]
    · obtain ⟨w, rfl, rw2⟩ := r2.one_inv
      cases rw2
      obtain ⟨hjl, hjt, hjm⟩ := List.findIdx?_eq_some_iff_getElem.mp hj
      have q2 := He.tupB_ok ht H2
      rw [strs_rep (dv_rep (B := B) hp) hys] at q2
      refine ⟨_, ys, z, j, rfl, rfl, q2, ?_, fun m hm hh => ?_, fun hz2 => k _ H2 B2 fp2 hz2 S2 t2 u2 (.int _)⟩
      · rw [List.getElem?_eq_getElem hjl]
        simpa using hjt
      · have hml : m < ys.length := by omega
        have := hjm m hm
        rw [List.getElem?_eq_getElem hml] at hh
        simp at this hh
        exact this hh
end
end DL

set_option Elab.async false
set_option linter.all false
set_option maxRecDepth 100000
set_option maxHeartbeats 2000000
namespace DL
open PySem L2

/-! ### dicts: keys ints and texts -/
def unKey : Dat → Option Key
  | .int i => some (.inl i)
  | .str s => some (.inr s)
  | _ => none
@[simp] theorem unKey_int (i : Int) : unKey (.int i) = some (.inl i) := rfl
@[simp] theorem unKey_str (s : Str) : unKey (.str s) = some (.inr s) := rfl
theorem unKey_keyD (k : Key) : unKey (keyD k) = some k := by cases k <;> rfl
theorem unKey_inv {d : Dat} {k : Key} (h : unKey d = some k) : d = keyD k := by
  cases d <;> cases h <;> rfl
theorem rep_key {K : PySem.W.Frag} {B : Hp} {v : V} {k : Key} (r : Rep K B v (keyD k)) : v = kV k := by
  cases k with
  | inl i => exact r.int_inv
  | inr s => exact r.str_inv
theorem key_rep {K : PySem.W.Frag} {B : Hp} (k : Key) : Rep K B (kV k) (keyD k) := by
  cases k with
  | inl i => exact .int i
  | inr s => exact .str s
def lkK (kvs : List (Dat × Dat)) (k : Key) : Option Dat := (kvs.find? fun p => decide (unKey p.1 = some k)).map (·.2)
def putD (kvs : List (Dat × Dat)) (k : Key) (v : Dat) : List (Dat × Dat) :=
  if (kvs.any fun p => decide (unKey p.1 = some k)) = true then kvs.map (fun p => if unKey p.1 = some k then (p.1, v) else p) else kvs ++ [(keyD k, v)]
section
variable {K : PySem.W.Frag} {B : Hp}
theorem RepKV.val {k : Key} : ∀ {vs : List (Key × V)} {ds : List (Dat × Dat)}, RepKV K B vs ds → (valV vs k = none ∧ lkK ds k = none) ∨ ∃ v d, valV vs k = some v ∧ lkK ds k = some d ∧ Rep K B v d
  | _, _, .nil => .inl ⟨rfl, rfl⟩
  | _, _, .cons (k := j) (v := v) (d := d) h r => by
    by_cases e : j = k
    · subst e
      exact .inr ⟨v, d, by simp [valV], by simp [lkK, unKey_keyD], h⟩
    · have e2 : ¬ unKey (keyD j) = some k := fun z => e (by rw [unKey_keyD] at z; exact Option.some.inj z)
      have := RepKV.val (k := k) r
      simpa [valV, lkK, e, e2] using this
theorem RepKV.any {k : Key} : ∀ {vs : List (Key × V)} {ds : List (Dat × Dat)}, RepKV K B vs ds → (vs.any fun kv => decide (kv.1 = k)) = ds.any fun p => decide (unKey p.1 = some k)
  | _, _, .nil => rfl
  | _, _, .cons (k := j) h r => by
    have e2 : decide (j = k) = decide (unKey (keyD j) = some k) := by rw [unKey_keyD]; simp
    simp only [List.any_cons, e2, RepKV.any r]
theorem RepKV.upd {k : Key} {v : V} {d : Dat} (rv : Rep K B v d) : ∀ {vs : List (Key × V)} {ds : List (Dat × Dat)}, RepKV K B vs ds → RepKV K B (vs.map fun kv => if kv.1 = k then (kv.1, v) else kv) (ds.map fun p => if unKey p.1 = some k then (p.1, d) else p)
  | _, _, .nil => .nil
  | _, _, .cons (k := j) h r => by
    by_cases e : j = k
    · have e2 : unKey (keyD j) = some k := by rw [unKey_keyD, e]
      simp only [List.map_cons, e, e2, if_true]
      rw [← e]
      simp only [unKey_keyD, if_true]
      have := RepKV.upd (k := k) rv r
      rw [← e] at this
      exact .cons rv this
    · have e2 : ¬ unKey (keyD j) = some k := fun z => e (by rw [unKey_keyD] at z; exact Option.some.inj z)
      simp only [List.map_cons, if_neg e, if_neg e2]
      exact .cons h (RepKV.upd rv r)
theorem RepKV.snoc {k : Key} {v : V} {d : Dat} (rv : Rep K B v d) : ∀ {vs : List (Key × V)} {ds : List (Dat × Dat)}, RepKV K B vs ds → RepKV K B (vs ++ [(k, v)]) (ds ++ [(keyD k, d)])
  | _, _, .nil => .cons rv .nil
  | _, _, .cons h r => .cons h (RepKV.snoc rv r)
theorem RepKV.put {k : Key} {v : V} {d : Dat} {vs : List (Key × V)} {ds : List (Dat × Dat)} (r : RepKV K B vs ds) (rv : Rep K B v d) : RepKV K B (putK vs k v) (putD ds k d) := by
  unfold putK putD
  rw [RepKV.any r]
  split
  · exact RepKV.upd rv r
  · exact RepKV.snoc rv r
theorem RepKV.keys : ∀ {vs : List (Key × V)} {ds : List (Dat × Dat)}, RepKV K B vs ds → ds.map (·.1) = vs.map fun kv => keyD kv.1
  | _, _, .nil => rfl
  | _, _, .cons h r => by rw [List.map_cons, List.map_cons, RepKV.keys r]
theorem RepKV.get : ∀ {vs : List (Key × V)} {ds : List (Dat × Dat)} {i : Nat} {k : Key} {v : V}, RepKV K B vs ds → vs[i]? = some (k, v) → ∃ d, ds[i]? = some (keyD k, d) ∧ Rep K B v d
  | _, _, _, _, _, .nil, e => by simp at e
  | _, _, 0, _, _, .cons h _, e => by simp at e; obtain ⟨rfl, rfl⟩ := e; exact ⟨_, rfl, h⟩
  | _, _, i + 1, _, _, .cons _ r, e => by
    obtain ⟨d, h1, h2⟩ := RepKV.get (i := i) r (by simpa using e)
    exact ⟨d, by simpa using h1, h2⟩
end
/-- what is read as a dict -/
def kvOf : Dat → Option (List (Dat × Dat))
  | .dic kvs => some kvs
  | .dif kvs => some kvs
  | _ => none
theorem kvOf_inv {K : PySem.W.Frag} {B : Hp} {v : V} {d : Dat} {ds : List (Dat × Dat)} (r : Rep K B v d) (h : kvOf d = some ds) : ∃ a kvs, v = .ref a ∧ Rd B a (.dK kvs) ∧ RepKV K B kvs ds := by
  cases d with
  | dic kvs => cases h; obtain ⟨a, ks, rfl, q, r⟩ := r.dic_inv; exact ⟨a, ks, rfl, .inl q, r⟩
  | dif kvs => cases h; obtain ⟨a, o, ks, rfl, q, r⟩ := r.dif_inv; exact ⟨a, ks, rfl, .inr ⟨o, q⟩, r⟩
  | _ => cases h
/-! d[k] -/
def dgetD (x y : Dat) : Option Dat := match kvOf x, unKey y with
  | some kvs, some k => lkK kvs k
  | _, _ => none
def rDGet : R2 := fun x y H Q => ∃ a v, x = .ref a ∧ DGet H a y (some v) ∧ Q v H
theorem dget_at {K : PySem.W.Frag} {B H : Hp} {x y : V} {dx dy : Dat} {ds : List (Dat × Dat)} {k : Key} (le : Ex B H) (rx : Rep K B x dx) (ry : Rep K B y dy) (hk : kvOf dx = some ds) (hy : unKey dy = some k) :
    ∃ a o, x = .ref a ∧ DGet H a y o ∧ ((o = none ∧ lkK ds k = none) ∨ ∃ v d, o = some v ∧ lkK ds k = some d ∧ Rep K B v d) := by
  obtain ⟨a, kvs, rfl, q, r⟩ := kvOf_inv rx hk
  have e := unKey_inv hy
  subst e
  exact ⟨a, valV kvs k, rfl, .inl ⟨kvs, k, ex_rd le q, rep_key ry, rfl⟩, RepKV.val r⟩
theorem dgetD_ok {K : PySem.W.Frag} : OpD K rDGet dgetD := fun B H x y dx dy dz Q hz le rx ry h k => by
  unfold dgetD at h
  cases e1 : kvOf dx with
  | none => rw [e1] at h; cases h
  | some ds =>
    cases e2 : unKey dy with
    | none => rw [e1, e2] at h; cases h
    | some kk =>
      rw [e1, e2] at h
      simp only at h
      obtain ⟨a, o, ex, g, ⟨_, z⟩ | ⟨v, d, eo, z, r⟩⟩ := dget_at le rx ry e1 e2
      · rw [z] at h; cases h
      · rw [z] at h
        cases h
        subst eo
        exact ⟨a, v, ex, g, nwA.same k r⟩
def ixE (x y : Dat) : Option Dat := match dgetD x y with
  | some z => some z
  | none => ixD x y
theorem PE.or {X : Cx} {e : Expr} {t t' : TE} (h : PE X e t) (h' : PE X e t') : PE X e (fun σ H Q => t σ H Q ∨ t' σ H Q) :=
  ⟨fun pins s σ H Q I q => q.elim (h.run pins s σ H Q I) (h'.run pins s σ H Q I)⟩
section
variable {X : Cx} {τ : List V} {p pa pb pc : Bool} {e a b c o : Expr} {es : List Expr} {pos q p2 apos cpos : Pos} {f fa fb fc : M Dat}
theorem ped_ixE (hu : X.A.units + 65 < cLine) (ha : PED X τ pa a fa) (hb : PED X τ pb b fb) (hs : PlainIx b) : PED X τ (pa && pb) (.Subscript a b pos) (bin ixE fa fb) :=
  PE.imp (PE.or (pe_dget (by omega) ha hb hs) (pe_ix (IxR.or ix_list (IxR.or ix_tup ix_str)) ha hb hs)) fun σ H Q hz _ ⟨ρ, B, fp, S, d, ρ', hf, k⟩ => by
    obtain ⟨x, ρ1, h1, g1⟩ := bnd_some hf
    obtain ⟨y, ρ2, h2, g2⟩ := bnd_some g1
    obtain ⟨h3, e3⟩ := lift_some g2
    subst e3
    unfold ixE at h3
    have go : ∀ g : Dat → Dat → Option Dat, g x y = some d → bin g fa fb ρ = some (d, ρ') := fun g hg => by
      unfold bin
      rw [show bnd fa (fun x => bnd fb fun y => lift (g x y)) ρ = bnd fb (fun y => lift (g x y)) ρ1 by unfold bnd; rw [h1]]
      unfold bnd
      rw [h2]
      unfold lift
      simp only [hg]
    cases e : dgetD x y with
    | some z =>
      rw [e] at h3
      cases h3
      exact .inl (op_imp dgetD_ok ⟨ρ, B, fp, S, d, ρ', go dgetD e, k⟩)
    | none =>
      rw [e] at h3
      exact .inr (op_imp ixD_ok ⟨ρ, B, fp, S, d, ρ', go ixD h3, k⟩)
end
/-! k in d -/
def inE (x y : Dat) : Option Dat := match kvOf y, unKey x with
  | some kvs, some k => some (.bl (lkK kvs k).isSome)
  | _, _ => inD x y
def ninE (x y : Dat) : Option Dat := match kvOf y, unKey x with
  | some kvs, some k => some (.bl (!(lkK kvs k).isSome))
  | _, _ => ninD x y
def rDIn : R2 := fun y x H Q => ∃ a o, x = .ref a ∧ DGet H a y o ∧ Q (.bl o.isSome) H
def rDNin : R2 := fun y x H Q => ∃ a o, x = .ref a ∧ DGet H a y o ∧ Q (.bl (!o.isSome)) H
theorem op_dIn {X : Cx} (hu : X.A.units + 1 < cLine) : OpR X (compareOp .In) rDIn := by
  intro pins s σ H y x v u Q I ry rx ⟨a, o, ex, g, q⟩
  subst ex
  obtain rfl : u = Value.ref a := rx
  exact d_in hu I g ry fun s' J => ⟨.bl o.isSome, H, J, rfl, q⟩
theorem op_dNin {X : Cx} (hu : X.A.units + 1 < cLine) : OpR X (compareOp .NotIn) rDNin := by
  intro pins s σ H y x v u Q I ry rx ⟨a, o, ex, g, q⟩
  subst ex
  obtain rfl : u = Value.ref a := rx
  exact d_notIn hu I g ry fun s' J => ⟨.bl (!o.isSome), H, J, rfl, q⟩
def rInE (K : PySem.W.Frag) : R2 := fun x y H Q => rInU K x y H Q ∨ rDIn x y H Q
def rNinE (K : PySem.W.Frag) : R2 := fun x y H Q => rNinU K x y H Q ∨ rDNin x y H Q
theorem op_inE {X : Cx} (hu : X.A.units + 65 < cLine) : OpR X (compareOp .In) (rInE X.K) := OpR.or (op_inU hu) (op_dIn (by omega))
theorem op_ninE {X : Cx} (hu : X.A.units + 65 < cLine) : OpR X (compareOp .NotIn) (rNinE X.K) := OpR.or (op_ninU hu) (op_dNin (by omega))
theorem inE_ok {K : PySem.W.Frag} : OpD K (rInE K) inE := fun B H x y dx dy dz Q hz le rx ry h k => by
  unfold inE at h
  split at h
  · rename_i kvs kk e1 e2
    cases h
    obtain ⟨a, o, ex, g, ⟨e, z⟩ | ⟨v, d, eo, z, r⟩⟩ := dget_at le ry rx e1 e2
    · refine .inr ⟨a, o, ex, g, ?_⟩
      rw [e]
      rw [z] at k
      exact nwA.same k (.bl _)
    · refine .inr ⟨a, o, ex, g, ?_⟩
      rw [eo]
      rw [z] at k
      exact nwA.same k (.bl _)
  · exact .inl (inD_ok B H x y dx dy dz Q hz le rx ry h k)
theorem ninE_ok {K : PySem.W.Frag} : OpD K (rNinE K) ninE := fun B H x y dx dy dz Q hz le rx ry h k => by
  unfold ninE at h
  split at h
  · rename_i kvs kk e1 e2
    cases h
    obtain ⟨a, o, ex, g, ⟨e, z⟩ | ⟨v, d, eo, z, r⟩⟩ := dget_at le ry rx e1 e2
    · refine .inr ⟨a, o, ex, g, ?_⟩
      rw [e]
      rw [z] at k
      exact nwA.same k (.bl _)
    · refine .inr ⟨a, o, ex, g, ?_⟩
      rw [eo]
      rw [z] at k
      exact nwA.same k (.bl _)
  · exact .inl (ninD_ok B H x y dx dy dz Q hz le rx ry h k)
/-! d.get(k, x) -/
def getM (fd fk fx : M Dat) : M Dat := bnd fd fun d => bnd fk fun k => bnd fx fun x => lift (match kvOf d, unKey k with
  | some kvs, some kk => some ((lkK kvs kk).getD x)
  | _, _ => none)
section
variable {X : Cx} {τ : List V} {p pa pb pc : Bool} {e a b c o : Expr} {es : List Expr} {pos q p2 apos cpos : Pos} {f fa fb fc : M Dat}
theorem ped_get (hu : X.A.units + 65 < cLine) (ha : PED X τ pa a fa) (hb : PED X τ pb b fb) (hc : PED X τ pc c fc) (m : M2 X a "get" apos b c cpos) : PED X τ (pa && (pb && pc)) (.Call (.Attribute a "get" apos) [b, c] [] cpos) (getM fa fb fc) :=
  PE.imp (pe_dget2 (by omega) ha hb hc m) fun σ H Q hz _ ⟨ρ, B, fp, S, d, ρ', hf, k⟩ => by
    obtain ⟨x, ρ1, h1, g1⟩ := bnd_some hf
    obtain ⟨y, ρ2, h2, g2⟩ := bnd_some g1
    obtain ⟨z, ρ3, h3, g3⟩ := bnd_some g2
    obtain ⟨h4, e4⟩ := lift_some g3
    subst e4
    cases e1 : kvOf x with
    | none => rw [e1] at h4; cases h4
    | some ds =>
      cases e2 : unKey y with
      | none => rw [e1, e2] at h4; cases h4
      | some kk =>
        rw [e1, e2] at h4
        cases h4
        refine ⟨ρ, B, fp, S, x, ρ1, h1, fun v1 H1 B1 fp1 z1 S1 t1 u1 r1 => ?_⟩
        obtain ⟨ad, kvs, ev, q1, _⟩ := kvOf_inv r1 e1
        refine ⟨ad, ev, .inl ⟨kvs, ex_rd S1.le q1⟩, ρ1, B1, fp1, S1, y, ρ2, h2, fun v2 H2 B2 fp2 z2 S2 t2 u2 r2 => ⟨ρ2, B2, fp2, S2, z, _, h3, fun v3 H3 B3 fp3 z3 S3 t3 u3 r3 => ?_⟩⟩
        have uu : (pa && (pb && pc)) = true → Pu H H3 ρ ρ' fp fp3 := fun h => by
          obtain ⟨y1, y2⟩ := Bool.and_eq_true_iff.mp h
          exact (u1 y1).trans (pu_and u2 u3 y2)
        obtain ⟨a', o, ex, g, hh⟩ := dget_at S3.le (r1.mono (t2.trans t3).ex) (r2.mono t3.ex) e1 e2
        rw [ev] at ex
        cases ex
        refine ⟨o, g, fun hz' => k _ H3 B3 fp3 hz' S3 (t1.trans (t2.trans t3)) uu ?_⟩
        rcases hh with ⟨eo, zz⟩ | ⟨v, d, eo, zz, r⟩
        · rw [eo, zz]; exact r3
        · rw [eo, zz]; exact r
end
end DL

set_option Elab.async false
set_option linter.all false
set_option maxRecDepth 100000
set_option maxHeartbeats 2000000
namespace DL
open PySem L2

/-! ### a dict of one's own is given away: it is known from then on -/
def lokM (f : M Sl) : M Dat := bnd f fun s => match s with
  | .od _ false kvs => ret (.dif kvs)
  | _ => fun _ => none
theorem PE.lock {X : Cx} {e : Expr} {t t' : TE} (h : PE X e t) (k : ∀ σ H Q, HSz H → σ.length = X.N.length → t' σ H Q → t σ H (fun v H' => HSz H' → ∃ d u, H' d = some u ∧ Mut (some u) ∧ ∀ od, HSz (upd H' d (.frz od u)) → Q v (upd H' d (.frz od u)))) : PE X e t' :=
  ⟨fun pins s σ H Q I q => wpAny_mono (h.run pins s σ H _ I (k σ H Q (hsz_of I.hok) I.len q)) (fun _ _ ⟨v, H', I', r, q⟩ => by
    obtain ⟨d, u, hd, mu, q⟩ := q (hsz_of I'.hok)
    obtain ⟨od, I2⟩ := I'.lock hd mu
    exact ⟨v, _, I2, r, q od (hsz_of I2.hok)⟩) fun _ _ z => z⟩
theorem PE.lok {X : Cx} {τ : List V} {p : Bool} {e : Expr} {f : M Sl} (h : PEO X τ p e f) : PED X τ p e (lokM f) := PE.lock h fun σ H Q hz _ ⟨ρ, B, fp, S, d, ρ', hf, k⟩ => by
  obtain ⟨s, ρ1, h1, h2⟩ := bnd_some hf
  split at h2
  · rename_i t kvs
    cases h2
    refine ⟨ρ, B, fp, S, _, ρ', h1, fun v H' B' fp' A z1 S1 t1 u1 r1 z hz' => ?_⟩
    obtain ⟨a, ks, rfl, eA, ha, rk, _⟩ := r1.odk_inv
    subst eA
    refine ⟨a, _, ha, trivial, fun od hz2 => ?_⟩
    have nB : B' a = none := z.nb a (by simp)
    have nF : ¬ own fp' a := z.nf a (by simp)
    have off : ∀ {b : Addr}, b ≠ a → upd H' a (.frz od (.dK ks)) b = H' b := fun h => upd_ne h
    have eB : Ex B' (upd B' a (.frz od (.dK ks))) := Ex.new nB
    have S2 : SR X.K τ (upd B' a (.frz od (.dK ks))) σ (upd H' a (.frz od (.dK ks))) ρ' fp' := by
      refine ⟨fun i s q => ?_, S1.emp, S1.dis, fun i b hb => ?_, fun b o hb => ?_⟩
      · obtain ⟨v, g1, g2⟩ := S1.rel i s q
        exact ⟨v, g1, g2.mono eB fun b hb => off (b := b) fun e => nF ⟨i, by rw [← e]; exact hb⟩⟩
      · rw [upd_ne (fun e => nF ⟨i, by rw [← e]; exact hb⟩)]; exact S1.sep i b hb
      · by_cases e : b = a
        · subst e; rw [upd_same] at hb ⊢; exact hb
        · rw [upd_ne e] at hb; rw [upd_ne e]; exact S1.le b o hb
    refine k (.ref a) _ (upd B' a (.frz od (.dK ks))) fp' hz2 S2 ?_ (fun hp => ?_) (.difK upd_same (rk.mono eB))
    · refine ⟨fun b o hb n => ?_, t1.ex.trans eB, fun b o hb => ?_, t1.ow⟩
      · have hne : b ≠ a := fun e => by
          subst e
          rcases z.ow b (by simp) with q | q
          · exact n q
          · rw [hb] at q; cases q
        rw [upd_ne hne]; exact t1.fr b o hb n
      · by_cases e : b = a
        · subst e
          exact .inr (Or.symm (z.ow b (by simp)))
        · rw [upd_ne e] at hb; exact t1.nw b o hb
    · obtain ⟨x1, x2, x3⟩ := u1 hp
      refine ⟨fun b o hb => ?_, x2, x3⟩
      have hne : b ≠ a := fun e => by
        subst e
        rcases z.ow b (by simp) with q | q
        · rw [x3] at nF; exact nF q
        · rw [hb] at q; cases q
      rw [upd_ne hne]; exact x1 b o hb
  · cases h2

/-! ### walks -/
def keysD (kvs : List (Dat × Dat)) : List Dat := kvs.map (·.1)
def itE : Dat → Option (List Dat)
  | .dif kvs => some (keysD kvs)
  | d => itA d
theorem frz_size {H : Hp} {a : Addr} {o : Obj} {kvs : List (Key × V)} (hz : HSz H) (h : H a = some (.frz o (.dK kvs))) : kvs.length ≤ sizeLine := (hz a).2.2.1 kvs (.inr ⟨o, h⟩)
theorem walk_k {K : PySem.W.Frag} {B H : Hp} {a : Addr} {o : Obj} {kvs : List (Key × V)} {ds : List (Dat × Dat)} (hz : HSz H) (le : Ex B H) (h : B a = some (.frz o (.dK kvs))) (r : RepKV K B kvs ds) : WalkD K B (Itk a o kvs) (keysD ds) := by
  have hl := RepKV.length r
  have hk : (keysD ds).length = kvs.length := by unfold keysD; rw [List.length_map, hl]
  refine ⟨fun B1 H1 i e1 e2 hi => ⟨⟨e2 _ _ (e1 _ _ h), by omega⟩, fun x H' ⟨y1, k, v, y2, y3⟩ => ?_⟩, fun B1 H1 e1 e2 => ⟨e2 _ _ (e1 _ _ h), by omega⟩, ?_⟩
  · subst y1 y3
    obtain ⟨d, hd, _⟩ := RepKV.get r y2
    refine ⟨B1, keyD k, ?_, Ex.refl _, Ex.refl _, fun _ _ z => .inl z, key_rep k⟩
    unfold keysD
    rw [List.getElem?_map, hd]; rfl
  · rw [hk]; exact frz_size hz (le _ _ h)
def itemsD (kvs : List (Dat × Dat)) : List Dat := kvs.map fun p => .tup [p.1, p.2]
theorem walk_i {K : PySem.W.Frag} {B H : Hp} {a : Addr} {o : Obj} {kvs : List (Key × V)} {ds : List (Dat × Dat)} (hz : HSz H) (le : Ex B H) (h : B a = some (.frz o (.dK kvs))) (r : RepKV K B kvs ds) : WalkD K B (Iti a o kvs) (itemsD ds) := by
  have hl := RepKV.length r
  have hk : (itemsD ds).length = kvs.length := by unfold itemsD; rw [List.length_map, hl]
  refine ⟨fun B1 H1 i e1 e2 hi => ⟨⟨e2 _ _ (e1 _ _ h), by omega⟩, fun x H' ⟨T, k, v, y2, y3, y4, y5⟩ => ?_⟩, fun B1 H1 e1 e2 => ⟨e2 _ _ (e1 _ _ h), by omega⟩, ?_⟩
  · subst y5 y3
    obtain ⟨d, hd, rd⟩ := RepKV.get r y2
    obtain ⟨n1, n2, n3⟩ := new3 (o := .tup [kV k, v]) e2 y4
    refine ⟨_, .tup [keyD k, d], ?_, n1, n2, n3, .tup (.inl (.inl upd_same)) (.cons (key_rep k) (.cons ((rd.mono e1).mono n2) .nil))⟩
    unfold itemsD
    rw [List.getElem?_map, hd]; rfl
  · rw [hk]; exact frz_size hz (le _ _ h)
section
variable {X : Cx} {τ : List V} {p pa pb pc : Bool} {e a b c o tg : Expr} {es : List Expr} {pos q p2 apos cpos : Pos} {f fa fb fc : M Dat}
theorem pid_itE (h : PED X τ p e f) : PID X τ p tg e (liftF itE f) := PI.imp (PI.or (pi_keys (tg := tg) h) (pid_any (tg := tg) h)) fun σ H R hz _ ⟨ρ, B, fp, S, ds, ρ', hf, k⟩ => by
  obtain ⟨d, ρ1, h1, h0⟩ := bnd_some hf
  obtain ⟨h2, e2⟩ := lift_some h0
  subst e2
  have other : itA d = some ds → tIt X.K τ p (liftF itA f) σ H (fun J H' => HSz H' → R J H') := fun h2 => by
    refine ⟨ρ, B, fp, S, ds, ρ', ?_, fun J H' B' fp' z1 S1 t1 u1 w hz' => k J H' B' fp' hz' S1 t1 u1 w⟩
    show bnd f _ ρ = _
    unfold bnd
    rw [h1]
    unfold lift
    simp only [h2]
  cases d with
  | dif kvs =>
    cases h2
    refine .inl ⟨ρ, B, fp, S, _, _, h1, fun v H' B' fp' z1 S1 t1 u1 r1 => ?_⟩
    obtain ⟨ad, o, ks, rfl, q, r⟩ := r1.dif_inv
    exact ⟨ad, o, rfl, .inl ⟨ks, S1.le _ _ q, fun hz' => k _ H' B' fp' hz' S1 t1 u1 (walk_k hz' S1.le q r)⟩⟩
  | _ => exact .inr (other h2)
def itI : Dat → Option (List Dat)
  | .dif kvs => some (itemsD kvs)
  | _ => none
theorem pid_items {elts : List Expr} {kk : Nat} {tpos : Pos} (h : PED X τ p e f) (hbase : attributeBase e "items" X.env (eval e X.env) = eval e X.env := by rfl) (hline : (apos.endLine == cpos.line) = true := by rfl) :
    PID X τ p (.Tuple elts kk tpos) (.Call (.Attribute e "items" apos) [] [] cpos) (liftF itI f) := PI.imp (pi_items h hbase hline) fun σ H R hz _ ⟨ρ, B, fp, S, ds, ρ', hf, k⟩ => by
  obtain ⟨d, ρ1, h1, h0⟩ := bnd_some hf
  obtain ⟨h2, e2⟩ := lift_some h0
  subst e2
  cases d with
  | dif kvs =>
    cases h2
    refine ⟨ρ, B, fp, S, _, _, h1, fun v H' B' fp' z1 S1 t1 u1 r1 => ?_⟩
    obtain ⟨ad, o, ks, rfl, q, r⟩ := r1.dif_inv
    exact ⟨ad, o, ks, rfl, S1.le _ _ q, fun hz' => k _ H' B' fp' hz' S1 t1 u1 (walk_i hz' S1.le q r)⟩
  | _ => cases h2
end

/-! ### displays -/
def dspM0 : M Sl := ret (.od none false [])
def dspM1 (fk fv : M Dat) : M Sl := bnd fk fun k => bnd fv fun v => lift ((unKey k).map fun kk => .od none false [(keyD kk, v)])
section
variable {X : Cx} {τ : List V} {p pa pb pc : Bool} {e a b c o tg : Expr} {es : List Expr} {pos q p2 apos cpos : Pos} {f fa fb fc : M Dat}
theorem peo_dsp0 : PEO X τ true (.Dict [] [] pos) dspM0 := PE.imp pe_dnewK fun σ H Q hz _ ⟨ρ, B, fp, S, d, ρ', hf, k⟩ => by
  cases hf
  refine fun a ha hz' => ?_
  have nB := S.nowb ha
  exact k (.ref a) _ B fp [a] hz' (S.ext (Ex.new ha)) (Tr.ext (Ex.new ha)) (fun _ => ⟨Ex.new ha, rfl, rfl⟩) (.odk upd_same .nil fun _ q => nomatch q) ⟨fun b hb => by simp at hb; subst hb; exact nB, fun b hb => by simp at hb; subst hb; exact S.noown ha, fun b hb => by simp at hb; subst hb; exact .inr ha⟩
theorem peo_dsp1 (hk : PED X τ pa a fa) (hv : PED X τ pb b fb) : PEO X τ (pa && pb) (.Dict [some a] [b] pos) (dspM1 fa fb) := PE.imp (pe_disp (pps_cons hk hv pps_nil) (by rfl) (by rfl) (fun z => nomatch z) (by show 1 ≤ 15; decide)) fun σ H Q hz _ ⟨ρ, B, fp, S, d, ρ', hf, k⟩ => by
  obtain ⟨x, ρ1, h1, g1⟩ := bnd_some hf
  obtain ⟨y, ρ2, h2, g2⟩ := bnd_some g1
  obtain ⟨h4, e4⟩ := lift_some g2
  subst e4
  cases e2 : unKey x with
  | none => rw [e2] at h4; cases h4
  | some kk =>
    rw [e2] at h4
    cases h4
    refine fun D hD => ⟨ρ, B, fp, S.ext (Ex.new hD), x, ρ1, h1, fun v1 H1 B1 fp1 z1 S1 t1 u1 r1 => ⟨ρ1, B1, fp1, S1, y, _, h2, fun v2 H2 B2 fp2 z2 S2 t2 u2 r2 => ?_⟩⟩
    have tt := t1.trans t2
    have nB := S.nowb hD
    have nO := S.noown hD
    have hD2 : H2 D = some (.dK []) := tt.fr D _ upd_same nO
    have nB2 : B2 D = none := by
      cases q : B2 D with
      | none => rfl
      | some o =>
        rcases tt.nw D o q with z | z | z
        · rw [nB] at z; cases z
        · rw [upd_same] at z; cases z
        · exact absurd z nO
    have nO2 : ¬ own fp2 D := fun z => by
      rcases tt.ow D z with w | w
      · exact nO w
      · rw [upd_same] at w; cases w
    have ek := unKey_inv e2
    subst ek
    refine ⟨hD2, [(kk, v2)], by rw [rep_key (r1.mono t2.ex)]; rfl, by simp, fun hz' => ?_⟩
    have off : ∀ b, b ≠ D → upd H2 D (.dK (mergeK [] [(kk, v2)])) b = H2 b := fun b h => upd_ne h
    have S3 : SR X.K τ B2 σ (upd H2 D (.dK (mergeK [] [(kk, v2)]))) ρ' fp2 := by
      refine ⟨fun i s q => ?_, S2.emp, S2.dis, S2.sep, fun b o h => ?_⟩
      · obtain ⟨v, h1, h2⟩ := S2.rel i s q
        exact ⟨v, h1, h2.any fun b hb => off b fun e => nO2 ⟨i, e ▸ hb⟩⟩
      · rw [off b fun e => by rw [e, nB2] at h; cases h]; exact S2.le b o h
    have hold : ∀ b o, H b = some o → upd H D (.dK []) b = some o := fun b o h => by rw [upd_ne fun e => by rw [e, hD] at h; cases h]; exact h
    refine k (.ref D) _ B2 fp2 [D] hz' S3 ?_ (fun hp => ?_) (.odk upd_same (.cons r2 .nil) fun _ q => nomatch q) ⟨fun b hb => by simp at hb; subst hb; exact nB2, fun b hb => by simp at hb; subst hb; exact nO2, fun b hb => by simp at hb; subst hb; exact .inr hD⟩
    · refine ⟨fun b o h n => ?_, tt.ex, fun b o h => ?_, fun b h => ?_⟩
      · rw [off b fun e => by rw [e, hD] at h; cases h]; exact tt.fr b o (hold b o h) n
      · rcases tt.nw b o h with z | z | z
        · exact .inl z
        · refine .inr (.inl ?_)
          cases q : H b with
          | none => rfl
          | some o => rw [hold b o q] at z; cases z
        · exact .inr (.inr z)
      · rcases tt.ow b h with z | z
        · exact .inl z
        · refine .inr ?_
          cases q : H b with
          | none => rfl
          | some o => rw [hold b o q] at z; cases z
    · obtain ⟨x1, x2, x3⟩ := pu_and u1 u2 hp
      refine ⟨fun b o h => ?_, x2, x3⟩
      rw [off b fun e => by rw [e, hD] at h; cases h]
      exact x1 b o (hold b o h)

/-! ### d[k] = v -/
def putDS (i : Nat) (fk fv : M Dat) : Fm := fun ρ => match fv ρ with
  | some (v, ρ1) => match ρ1[i]? with
    | some (some (.od t false kvs)) => match fk ρ1 with
      | some (k, _) => match unKey k with
        | some kk => if kvs.length < SZ then some (.nx, ρ1.set i (some (.od t false (putD kvs kk v)))) else none
        | none => none
      | none => none
    | _ => none
  | none => none
theorem psd_dput (i : Nat) {x : Str} {value key : Expr} {pos' xp : Pos} (hu : X.A.units + 65 < cLine) (hv : PED X τ pa value fa) (hx : PE X (.Name x xp) (tVar i)) (hk : PED X τ true key fb) (hs : swapsWith value (some (.Subscript (.Name x xp) key pos')) pos.line X.env = pure false := by rfl) :
    PSD X τ (.Assign [.Subscript (.Name x xp) key pos'] value pos) (putDS i fb fa) := PS.imp (ps_dput (by omega) hx hk hv hs) fun D σ H hz hl ⟨ρ, B, fp, S, fl, ρ', hf, k⟩ => by
  unfold putDS at hf
  split at hf
  · rename_i v ρ1 q1
    split at hf
    · rename_i t kvs q2
      split at hf
      · rename_i y ρ2 q3
        split at hf
        · rename_i kk q4
          split at hf
          · rename_i hsz
            cases hf
            refine ⟨ρ, B, fp, S, v, ρ1, q1, fun v1 H1 B1 fp1 z1 S1 t1 u1 r1 => ?_⟩
            obtain ⟨w, g1, g2⟩ := S1.rel _ _ q2
            obtain ⟨ad, ks, rfl, eA, ha, rk, tg⟩ := g2.odk_inv
            refine ⟨_, g1, ρ1, B1, fp1, S1, y, ρ2, q3, fun v2 H2 B2 fp2 z2 S2 t2 u2 r2 => ?_⟩
            obtain ⟨x1, x2, x3⟩ := u2 rfl
            subst x2 x3
            have ek := unKey_inv q4
            subst ek
            refine ⟨ad, _, rfl, .inl ⟨ks, kk, x1 _ _ ha, rep_key r2, by rw [RepKV.length rk, sizeLine_eq]; exact hsz, rfl⟩, fun hz' hl' => ?_⟩
            have hin : ad ∈ fp2 i := by rw [eA]; simp
            have S3 : SR X.K τ B2 σ (upd H2 ad (.dK (putK ks kk v1))) (ρ2.set i (some (.od t false (putD kvs kk v)))) fp2 := S2.change q2 hin g1 (by rw [eA]; exact .odk upd_same ((rk.mono t2.ex).put (r1.mono t2.ex)) tg)
            exact k _ _ B2 _ hz' rfl S3 ((t1.trans t2).trans (Tr.upd ⟨i, hin⟩))
          · cases hf
        · cases hf
      · cases hf
    · cases hf
  · cases hf
end

/-! ### dict(..) -/
def pairD : Dat → Option (Key × Dat)
  | .tup [k, v] => (unKey k).map fun kk => (kk, v)
  | _ => none
def pairsD : List Dat → Option (List (Key × Dat))
  | [] => some []
  | d :: ds => match pairD d, pairsD ds with
    | some p, some ps => some (p :: ps)
    | _, _ => none
def mergeD (kvs : List (Dat × Dat)) (more : List (Key × Dat)) : List (Dat × Dat) := more.foldl (fun acc kv => putD acc kv.1 kv.2) kvs
def dictS : List Dat → Option Sl
  | [.lst ds] => (pairsD ds).map fun ps => .od none false (mergeD [] ps)
  | [.dic kvs] => some (.od none false kvs)
  | [.dif kvs] => some (.od none false kvs)
  | _ => none
def rDictP (K : PySem.W.Frag) : List V → Hp → VK → Prop := fun xs H Q => ∃ (a : Addr) (ps : List Addr) (kvs : List (Key × V)), xs = [.ref a] ∧ SqL K H a (ps.map V.ref) ∧ Paired (fun p kv => SqT K H p [kV kv.1, kv.2]) ps kvs ∧
    ∀ p, H p = none → Q (.ref p) (upd H p (.dK (mergeK [] kvs)))
def rDictC : List V → Hp → VK → Prop := fun xs H Q => ∃ a kvs, xs = [V.ref a] ∧ Rd H a (.dK kvs) ∧ ∀ p, H p = none → Q (.ref p) (upd H p (.dK kvs))
theorem call_dictC {X : Cx} : CallR X (.type "dict") rDictC := by
  intro pins s σ H xs us Q I vs hw
  obtain ⟨a, kvs, e, hd, q⟩ := hw
  subst e
  obtain ⟨u, e, ru⟩ := vals1 vs
  subst e
  obtain rfl : u = Value.ref a := ru
  exact d_copyOf I hd fun p s' hp J => ⟨.ref p, _, J, rfl, q p hp⟩
theorem call_dictU {X : Cx} (hc : X.calm = true) : CallR X (.type "dict") (fun xs H Q => rDictP X.K xs H Q ∨ rDictC xs H Q) := CallR.or (call_dictP hc) call_dictC
theorem pairsD_rep {K : PySem.W.Frag} {B : Hp} : ∀ {vs : List V} {ds : List Dat} {ps : List (Key × Dat)}, RepAll K B vs ds → pairsD ds = some ps →
    ∃ (as : List Addr) (kvs : List (Key × V)), vs = as.map V.ref ∧ Paired (fun p kv => SqT K B p [kV kv.1, kv.2]) as kvs ∧ kvs.map (·.1) = ps.map (·.1) ∧ RepAll K B (kvs.map (·.2)) (ps.map (·.2))
  | _, _, _, .nil, h => by cases h; exact ⟨[], [], rfl, .nil, rfl, .nil⟩
  | _, _, _, .cons (d := d) (ds := ds) r rr, h => by
    unfold pairsD at h
    split at h
    · rename_i pr prs e1 e2
      cases h
      obtain ⟨as, kvs, h1, h2, h3, h4⟩ := pairsD_rep rr e2
      unfold pairD at e1
      split at e1
      · rename_i k v
        obtain ⟨kk, ek, rfl⟩ := Option.map_eq_some_iff.mp e1
        obtain ⟨a, xs, rfl, q, ra⟩ := r.tup_inv
        obtain ⟨x, y, rfl, rx, ry⟩ := ra.two_inv
        have e := unKey_inv ek
        subst e
        rw [rep_key rx] at q
        exact ⟨a :: as, (kk, y) :: kvs, by rw [h1]; rfl, .cons q h2, by simp [h3], .cons ry h4⟩
      · cases e1
    · cases h
theorem merge_rep {K : PySem.W.Frag} {B : Hp} : ∀ {kvs : List (Key × V)} {ps : List (Key × Dat)} {ks : List (Key × V)} {ds : List (Dat × Dat)}, kvs.map (·.1) = ps.map (·.1) → RepAll K B (kvs.map (·.2)) (ps.map (·.2)) → RepKV K B ks ds → RepKV K B (mergeK ks kvs) (mergeD ds ps)
  | [], [], _, _, _, _, r => r
  | (k, v) :: kvs, (k', d) :: ps, ks, ds, h1, h2, r => by
    simp at h1
    obtain ⟨rfl, h1⟩ := h1
    cases h2 with
    | cons r1 r2 => exact merge_rep (ks := putK ks k v) (ds := putD ds k d) h1 r2 (r.put r1)
  | [], _ :: _, _, _, h1, _, _ => by simp at h1
  | _ :: _, [], _, _, h1, _, _ => by simp at h1
theorem paired_imp {α β : Type} {F G : α → β → Prop} (h : ∀ x y, F x y → G x y) : ∀ {xs : List α} {ys : List β}, Paired F xs ys → Paired G xs ys
  | _, _, .nil => .nil
  | _, _, .cons a r => .cons (h _ _ a) (paired_imp h r)
theorem dictS_ok {K : PySem.W.Frag} : CallS K (fun xs H Q => rDictP K xs H Q ∨ rDictC xs H Q) dictS := fun B H vs ds s Q hz le ra hg k => by
  have mk : ∀ {a : Addr} {kvs : List (Key × V)} {es : List (Dat × Dat)}, H a = none → RepKV K B kvs es → s = .od none false es → Q (.ref a) (upd H a (.dK kvs)) := fun {a kvs es} ha r e => by
    subst e
    exact k _ _ [a] (Ex.new ha) (.odk upd_same r fun _ q => nomatch q) fun b hb => by simp at hb; subst hb; exact ha
  unfold dictS at hg
  split at hg
  · rename_i ds
    obtain ⟨ps, e1, rfl⟩ := Option.map_eq_some_iff.mp hg
    obtain ⟨v, rfl, r⟩ := ra.one_inv
    obtain ⟨a, xs, rfl, q, r⟩ := r.lst_inv
    obtain ⟨as, kvs, rfl, h2, h3, h4⟩ := pairsD_rep r e1
    refine .inl ⟨a, as, kvs, rfl, .inl (.inl (le _ _ q)), ?_, fun p hp => mk hp (merge_rep h3 h4 .nil) rfl⟩
    exact paired_imp (fun _ _ h => ex_t le h) h2
  · cases hg
    obtain ⟨v, rfl, r⟩ := ra.one_inv
    obtain ⟨a, ks, rfl, q, r⟩ := r.dic_inv
    exact .inr ⟨a, ks, rfl, .inl (le _ _ q), fun p hp => mk hp r rfl⟩
  · cases hg
    obtain ⟨v, rfl, r⟩ := ra.one_inv
    obtain ⟨a, o, ks, rfl, q, r⟩ := r.dif_inv
    exact .inr ⟨a, ks, rfl, .inr ⟨o, le _ _ q⟩, fun p hp => mk hp r rfl⟩
  · cases hg
end DL

set_option Elab.async false
set_option linter.all false
set_option maxRecDepth 100000
set_option maxHeartbeats 2000000
namespace DL
open PySem L2

/-! ### dict comprehensions, nothing changed within -/
def dcLoop (vs : List Nat) (gb : Dat → Env → Option Env) (tt : M Bool) (tk tv : M Dat) (ρw : Env) : List Dat → Option (List (Key × Dat))
  | [] => some []
  | d :: ds => match gb d ρw with
    | some ρ2 => if noOwn ρ2 vs = true then (match tt ρ2 with
      | some (true, _) => match tk ρ2 with
        | some (k, _) => match unKey k with
          | some kk => match tv ρ2 with
            | some (v, _) => (dcLoop vs gb tt tk tv ρw ds).map ((kk, v) :: ·)
            | none => none
          | none => none
        | none => none
      | some (false, _) => dcLoop vs gb tt tk tv ρw ds
      | none => none) else none
    | none => none
def dcD (vs : List Nat) (g : M (List Dat)) (gb : Dat → Env → Option Env) (tt : M Bool) (tk tv : M Dat) : M Sl := fun ρ => match g ρ with
  | some (ds, ρ1) => if noOwn ρ1 vs = true then (match dcLoop vs gb tt tk tv (wipeE ρ1 vs) ds with
      | some ps => if ps.length ≤ SZ then some (.od none false (mergeD [] ps), ρ1) else none
      | none => none) else none
  | none => none
theorem mergeD_len : ∀ (ps : List (Key × Dat)) (ds : List (Dat × Dat)), (mergeD ds ps).length ≤ ds.length + ps.length
  | [], ds => by show ds.length ≤ _; omega
  | (k, v) :: ps, ds => by
    have ih := mergeD_len ps (putD ds k v)
    have h : (putD ds k v).length ≤ ds.length + 1 := by
      unfold putD
      split
      · rw [List.length_map]; omega
      · rw [List.length_append]; exact Nat.le_refl _
    show (mergeD (putD ds k v) ps).length ≤ _
    rw [List.length_cons]
    omega
section
variable {K : PySem.W.Frag} {τ : List V}
/-- within a dict comprehension: the dict at D grows, else nothing is changed -/
structure CD (K : PySem.W.Frag) (τ : List V) (B1 H1 : Hp) (fp1 : Nat → List Addr) (D : Addr) (xs : List (Key × V)) (ws : List (Dat × Dat)) (B : Hp) (σ : L2.St) (H : Hp) (ρ : Env) : Prop where
  S : SR K τ B σ H ρ fp1
  T : Tr B1 H1 fp1 B H fp1
  E : Ex H1 H
  dH : H D = some (.dK xs)
  dB : B D = none
  dN : H1 D = none
  nO : ¬ own fp1 D
  R : RepKV K B xs ws
variable {B1 H1 B H : Hp} {fp1 : Nat → List Addr} {D : Addr} {xs : List (Key × V)} {ws : List (Dat × Dat)} {σ : L2.St} {ρ : Env}
theorem CD.start (S : SR K τ B1 σ H1 ρ fp1) (hD : H1 D = none) : CD K τ B1 H1 fp1 D [] [] B1 σ (upd H1 D (.dK [])) ρ := ⟨S.ext (Ex.new hD), Tr.ext (Ex.new hD), Ex.new hD, upd_same, S.nowb hD, hD, S.noown hD, .nil⟩
theorem CD.step (C : CD K τ B1 H1 fp1 D xs ws B σ H ρ) {B' H' : Hp} {σ' : L2.St} {ρ' : Env} (S' : SR K τ B' σ' H' ρ' fp1) (t : Tr B H fp1 B' H' fp1) (e : Ex H H') : CD K τ B1 H1 fp1 D xs ws B' σ' H' ρ' := by
  refine ⟨S', C.T.trans t, C.E.trans e, e _ _ C.dH, ?_, C.dN, C.nO, RepKV.mono t.ex C.R⟩
  cases q : B' D with
  | none => rfl
  | some o =>
    rcases t.nw D o q with z | z | z
    · rw [C.dB] at z; cases z
    · rw [C.dH] at z; cases z
    · exact absurd z C.nO
theorem CD.grow (C : CD K τ B1 H1 fp1 D xs ws B σ H ρ) {B' H' : Hp} (e : Ex H H') (b : Ex B B') (n : ∀ a o, B' a = some o → B a = some o ∨ (H a = none ∧ H' a = some o)) : CD K τ B1 H1 fp1 D xs ws B' σ H' ρ :=
  C.step (C.S.grow e b n) (Tr.new e b n) e
theorem CD.put (C : CD K τ B1 H1 fp1 D xs ws B σ H ρ) {k : Key} {y : V} {d : Dat} (r : Rep K B y d) : CD K τ B1 H1 fp1 D (putK xs k y) (putD ws k d) B σ (upd H D (.dK (putK xs k y))) ρ := by
  have ne : ∀ a, a ≠ D → upd H D (.dK (putK xs k y)) a = H a := fun a h => upd_ne h
  have hd1 : ∀ a o, H1 a = some o → a ≠ D := fun a o h e => by rw [e, C.dN] at h; cases h
  refine ⟨⟨fun i s q => ?_, C.S.emp, C.S.dis, C.S.sep, fun a o h => ?_⟩, ⟨fun a o h n => ?_, C.T.ex, C.T.nw, C.T.ow⟩, fun a o h => ?_, upd_same, C.dB, C.dN, C.nO, C.R.put r⟩
  · obtain ⟨v, h1, h2⟩ := C.S.rel i s q
    exact ⟨v, h1, h2.any fun a ha => ne a fun e => C.nO ⟨i, e ▸ ha⟩⟩
  · rw [ne a fun e => by rw [e, C.dB] at h; cases h]; exact C.S.le a o h
  · rw [ne a (hd1 a o h)]; exact C.T.fr a o h n
  · rw [ne a (hd1 a o h)]; exact C.E a o h
theorem CD.wipe (C : CD K τ B1 H1 fp1 D xs ws B σ H ρ) {vs : List Nat} (h : ∀ i ∈ vs, fp1 i = []) : CD K τ B1 H1 fp1 D xs ws B (L2.wipe σ vs) H (wipeE ρ vs) :=
  ⟨C.S.wipe h, C.T, C.E, C.dH, C.dB, C.dN, C.nO, C.R⟩
theorem CD.same (C : CD K τ B1 H1 fp1 D xs ws B σ H ρ) {σ' : L2.St} {ρ' : Env} (e : σ = σ') (e' : ρ = ρ') : CD K τ B1 H1 fp1 D xs ws B σ' H ρ' := by subst e e'; exact C
theorem CD.bind (C : CD K τ B1 H1 fp1 D xs ws B σ H ρ) {vs sl : List Nat} (nfp : ∀ i ∈ vs, fp1 i = []) (hsl : ∀ i ∈ sl, i ∈ vs) {σ' : L2.St} {ρ' : Env} {fp' : Nat → List Addr} (S' : SR K τ B σ' H ρ' fp') (hn : noOwn ρ' vs = true) (f : ∀ j : Nat, j ∉ sl → fp' j = fp1 j) : CD K τ B1 H1 fp1 D xs ws B σ' H ρ' := by
  have e : fp' = fp1 := by
    funext j
    by_cases hj : j ∈ sl
    · rw [noOwn_fp S' hn (hsl j hj), nfp j (hsl j hj)]
    · exact f j hj
  subst e
  exact C.step S' Tr.refl (Ex.refl _)
end
section
variable {X : Cx} {τ : List V} {pg : Bool} {g : M (List Dat)} {gb : Dat → Env → Option Env} {tt : M Bool} {tk tv : M Dat} {sl vs : List Nat}
theorem mergeD_app (ds : List (Dat × Dat)) (ps qs : List (Key × Dat)) : mergeD ds (ps ++ qs) = mergeD (mergeD ds ps) qs := by
  unfold mergeD
  rw [List.foldl_append]
theorem dc_imp {σ : L2.St} {H : Hp} {Q : VK} (hok : GbOk gb sl) (hsl : ∀ i ∈ sl, i ∈ vs) (h : tSl X.K τ pg (dcD vs g gb tt tk tv) σ H Q) :
    tDc (tIt X.K τ pg g) (tTg X.K τ sl gb) (tBool X.K τ true tt) (tDat X.K τ true tk) (tDat X.K τ true tv) vs σ H (fun v H' => HSz H' → Q v H') := by
  obtain ⟨ρ, B, fp, S, r, ρ', hf, k⟩ := h
  unfold dcD at hf
  split at hf
  case h_2 => cases hf
  rename_i ds ρ1 hg0
  split at hf
  case isFalse => cases hf
  rename_i hno
  split at hf
  case h_2 => cases hf
  rename_i ys hl0
  split at hf
  case isFalse => cases hf
  rename_i hsz
  cases hf
  refine ⟨ρ, B, fp, S, ds, _, hg0, fun J H1 B1 fp1 z1 S1 t1 u1 wk D hD => ?_⟩
  have nfp : ∀ i ∈ vs, fp1 i = [] := fun i hi => noOwn_fp S1 hno hi
  refine ⟨fun i m H' => m = ds.length - i ∧ i ≤ ds.length ∧ ∃ xs ws rs B2, CD X.K τ B1 H1 fp1 D xs (mergeD [] ws) B2 (L2.wipe σ vs) H' (wipeE ρ' vs) ∧ ys = ws ++ rs ∧ dcLoop vs gb tt tk tv (wipeE ρ' vs) (ds.drop i) = some rs,
    ⟨ds.length, by simp, Nat.zero_le _, [], [], ys, B1, CD.start (S1.wipe nfp) hD, rfl, by simpa using hl0⟩, ?_⟩
  rintro i m H2 ⟨rfl, hi, xs, ws, rs, B2, C, hys, hlp⟩
  by_cases hlt : i < ds.length
  · obtain ⟨go, yl⟩ := wk.step B2 H2 i C.T.ex C.S.le hlt
    refine .inr ⟨go, fun H' => i + 1 ≤ ds.length ∧ ∃ xs ws rs B2, CD X.K τ B1 H1 fp1 D xs (mergeD [] ws) B2 (L2.wipe σ vs) H' (wipeE ρ' vs) ∧ ys = ws ++ rs ∧ dcLoop vs gb tt tk tv (wipeE ρ' vs) (ds.drop (i + 1)) = some rs, fun H' z => ⟨_, by omega, rfl, z⟩, fun x H3 y => ?_⟩
    obtain ⟨B3, d, hd, e3, b3, n3, r3⟩ := yl x H3 y
    have C3 := C.grow e3 b3 n3
    rw [drop_cons hd] at hlp
    unfold dcLoop at hlp
    split at hlp
    case h_2 => cases hlp
    rename_i ρ3 q1
    split at hlp
    case isFalse => cases hlp
    rename_i hno3
    obtain ⟨lρ, kρ⟩ := hok _ _ _ q1
    refine ⟨_, B3, fp1, C3.S, d, r3, ρ3, q1, fun σ4 fp4 l4 e4 S4 o4 f4 => ?_⟩
    have hw4 : L2.wipe σ4 vs = L2.wipe σ vs := by
      rw [← wipe_idem (σ := σ)]
      exact wipe_eq2 l4 fun j hj => e4 j fun z => hj (hsl j z)
    have hwρ : wipeE ρ3 vs = wipeE ρ' vs := by
      rw [← wipeE_idem (ρ := ρ')]
      exact wipeE_eq lρ fun j hj => kρ j fun z => hj (hsl j z)
    have C4 := C3.bind nfp hsl S4 hno3 f4
    refine ⟨hw4, ?_⟩
    split at hlp
    · rename_i ρ5 q2
      split at hlp
      case h_2 => cases hlp
      rename_i kd ρ6 q3
      split at hlp
      case h_2 => cases hlp
      rename_i kk q3'
      split at hlp
      case h_2 => cases hlp
      rename_i vd ρ7 q4
      obtain ⟨rs', q5, q6⟩ := Option.map_eq_some_iff.mp hlp
      subst q6
      refine ⟨_, B3, fp1, C4.S, true, ρ5, q2, fun H5 B5 fp5 z5 S5 t5 u5 => ?_⟩
      obtain ⟨x1, x2, x3⟩ := u5 rfl
      subst x2 x3
      have C5 := C4.step S5 t5 x1
      rw [if_pos rfl]
      refine ⟨_, B5, _, C5.S, kd, ρ6, q3, fun w6 H6 B6 fp6 z6 S6 t6 u6 r6 => ?_⟩
      obtain ⟨y1, y2, y3⟩ := u6 rfl
      subst y2 y3
      have C6 := C5.step S6 t6 y1
      refine ⟨_, B6, _, C6.S, vd, ρ7, q4, fun w7 H7 B7 fp7 z7 S7 t7 u7 r7 => ?_⟩
      obtain ⟨v1, v2, v3⟩ := u7 rfl
      subst v2 v3
      have C7 := C6.step S7 t7 v1
      have ek := unKey_inv q3'
      subst ek
      have hl7 := RepKV.length C7.R
      have hml := mergeD_len ws []
      have hlen : xs.length < sizeLine := by
        rw [sizeLine_eq, hl7]
        have hsz : ys.length ≤ 16777216 := hsz
        have := congrArg List.length hys
        simp at this hml
        omega
      have C8 := C7.put (k := kk) r7
      have e8 : putD (mergeD [] ws) kk vd = mergeD [] (ws ++ [(kk, vd)]) := by rw [mergeD_app]; rfl
      rw [e8] at C8
      exact ⟨xs, kk, rep_key r6, C7.dH, hlen, hlt, _, ws ++ [(kk, vd)], rs', B7, (C8.wipe nfp).same hw4 hwρ, by rw [hys]; simp, q5⟩
    · rename_i ρ5 q2
      refine ⟨_, B3, fp1, C4.S, false, ρ5, q2, fun H5 B5 fp5 z5 S5 t5 u5 => ?_⟩
      obtain ⟨x1, x2, x3⟩ := u5 rfl
      subst x2 x3
      rw [if_neg (by decide)]
      exact ⟨hlt, xs, ws, rs, B5, ((C4.step S5 t5 x1).wipe nfp).same hw4 hwρ, hys, hlp⟩
    · cases hlp
  · have ei : i = ds.length := by omega
    subst ei
    rw [List.drop_length] at hlp
    unfold dcLoop at hlp
    cases hlp
    rw [List.append_nil] at hys
    subst hys
    refine .inl ⟨wk.stop B2 H2 C.T.ex C.S.le, fun hz2 => ?_⟩
    have SB : SR X.K τ B2 σ H2 ρ' fp1 := S1.grow C.E C.T.ex fun a o h => by
      rcases C.T.nw a o h with z | z | z
      · exact .inl z
      · exact .inr ⟨z, C.S.le a o h⟩
      · rw [C.S.nob z] at h; cases h
    refine k (.ref D) H2 B2 fp1 [D] hz2 SB (t1.trans C.T) (fun hp => ?_) (.odk C.dH C.R fun k z => nomatch z) ⟨fun a ha => by simp at ha; subst ha; exact C.dB, fun a ha => by simp at ha; subst ha; exact C.nO, fun a ha => ?_⟩
    · obtain ⟨y1, y2, y3⟩ := u1 hp
      exact ⟨y1.trans C.E, y2, y3⟩
    · simp at ha
      subst ha
      cases h : H a with
      | none => exact .inr rfl
      | some o =>
        by_cases w : own fp a
        · exact .inl w
        · have := C.dN
          rw [t1.fr a o h w] at this; cases this
variable {kx vx tg iter : Expr} {ifs : List Expr} {scope : Scope} {own : List (Str × Nat)} {pos spos : Pos}
theorem peo_dc (hc : X.calm = true) (hN : X.N.Nodup) (hi : PID X τ pg tg iter g) (ok : BlkOk X.N X.env.scope scope own)
    (hg : BlkD X scope fun Y => PGD Y τ sl tg gb) (ht : BlkD X scope fun Y => PTsD Y τ true ifs tt) (hk : BlkD X scope fun Y => PED Y τ true kx tk) (hv : BlkD X scope fun Y => PED Y τ true vx tv)
    (hok : GbOk gb sl) (hsl : ∀ i ∈ sl, i ∈ own.map (·.2)) (hs : ∀ x, foldedSetIterable iter X.env x = pure x := by intro _; rfl) :
    PEO X τ pg (.DictComp kx vx [⟨tg, iter, ifs, 0⟩] scope pos) (dcD (own.map (·.2)) g gb tt tk tv) :=
  PE.imp (pe_dc hc hN hi ok hg ht hk hv hs) fun σ H Q hz hl h => dc_imp hok hsl h
end
end DL

set_option Elab.async false
set_option linter.all false
set_option maxRecDepth 100000
set_option maxHeartbeats 2000000
namespace DL
open PySem L2

/-! ### a dict one's own, read -/
def ogetM (i : Nat) (fk : M Dat) : M Dat := fun ρ => match ρ[i]? with
  | some (some (.od _ false kvs)) => match fk ρ with
    | some (k, _) => match unKey k with
      | some kk => (lkK kvs kk).map fun d => (d, ρ)
      | none => none
    | none => none
  | _ => none
def ocpyM (i : Nat) : M Sl := fun ρ => match ρ[i]? with
  | some (some (.od _ false kvs)) => some (.od none false kvs, ρ)
  | _ => none
def ohasM (i : Nat) (fk : M Dat) : M Bool := fun ρ => match ρ[i]? with
  | some (some (.od _ false kvs)) => match fk ρ with
    | some (k, _) => match unKey k with
      | some kk => some ((lkK kvs kk).isSome, ρ)
      | none => none
    | none => none
  | _ => none
section
variable {X : Cx} {τ : List V} {p pa pb pc : Bool} {e a b c o tg : Expr} {es : List Expr} {pos q p2 apos cpos : Pos} {f fa fb fc : M Dat}
theorem SR.od {K : PySem.W.Frag} {B : Hp} {σ : L2.St} {H : Hp} {ρ : Env} {fp : Nat → List Addr} (S : SR K τ B σ H ρ fp) {i : Nat} {t : Option Nat} {ds : List (Dat × Dat)} (hi : ρ[i]? = some (some (.od t false ds))) :
    ∃ a ks, σ[i]? = some (some (.ref a)) ∧ a ∈ fp i ∧ H a = some (.dK ks) ∧ RepKV K B ks ds := by
  obtain ⟨v, h1, h2⟩ := S.rel i _ hi
  obtain ⟨a, ks, rfl, e, h3, h4, _⟩ := h2.odk_inv
  exact ⟨a, ks, h1, by rw [e]; simp, h3, h4⟩
theorem ped_oget (i : Nat) {x : Str} {xp : Pos} (hu : X.A.units + 65 < cLine) (hx : PE X (.Name x xp) (tVar i)) (hb : PED X τ true b fb) (hs : PlainIx b) : PED X τ true (.Subscript (.Name x xp) b pos) (ogetM i fb) :=
  PE.imp (pe_dget (by omega) hx hb hs) fun σ H Q hz _ ⟨ρ, B, fp, S, d, ρ', hf, k⟩ => by
    unfold ogetM at hf
    split at hf
    · rename_i t kvs q1
      split at hf
      · rename_i y ρ2 q2
        split at hf
        · rename_i kk q3
          obtain ⟨d', q4, q5⟩ := Option.map_eq_some_iff.mp hf
          cases q5
          obtain ⟨ad, ks, g1, g2, g3, g4⟩ := S.od q1
          refine ⟨_, g1, ρ, B, fp, S, y, ρ2, q2, fun v2 H2 B2 fp2 z2 S2 t2 u2 r2 => ?_⟩
          obtain ⟨x1, x2, x3⟩ := u2 rfl
          have ek := unKey_inv q3
          subst ek
          refine ⟨ad, ?_⟩
          rcases RepKV.val (k := kk) g4 with ⟨_, z⟩ | ⟨w, d0, z1, z2', z3⟩
          · rw [z] at q4; cases q4
          · rw [z2'] at q4
            cases q4
            refine ⟨w, rfl, .inl ⟨ks, kk, .inl (x1 _ _ g3), rep_key r2, z1.symm⟩, fun hz' => ?_⟩
            subst x2 x3
            exact k w H2 B2 _ hz' S2 t2 (fun _ => ⟨x1, rfl, rfl⟩) (z3.mono t2.ex)
        · cases hf
      · cases hf
    · cases hf
theorem ptd_ohas (i : Nat) {x : Str} {xp : Pos} (hu : X.A.units + 65 < cLine) (hx : PE X (.Name x xp) (tVar i)) (hb : PED X τ true b fb) : PTD X τ true (.Compare b [.In] [.Name x xp] pos) (ohasM i fb) :=
  PT.imp (pt_cmp (pc_din (by omega) hb hx)) fun σ H Q hz _ ⟨ρ, B, fp, S, d, ρ', hf, k⟩ => by
    unfold ohasM at hf
    split at hf
    · rename_i t kvs q1
      split at hf
      · rename_i y ρ2 q2
        split at hf
        · rename_i kk q3
          cases hf
          obtain ⟨ad, ks, g1, g2, g3, g4⟩ := S.od q1
          refine ⟨ρ, B, fp, S, y, ρ2, q2, fun v2 H2 B2 fp2 z2 S2 t2 u2 r2 => ⟨_, g1, ?_⟩⟩
          obtain ⟨x1, x2, x3⟩ := u2 rfl
          have ek := unKey_inv q3
          subst ek
          refine ⟨ad, valV ks kk, rfl, .inl ⟨ks, kk, .inl (x1 _ _ g3), rep_key r2, rfl⟩, ?_⟩
          have e : (valV ks kk).isSome = (lkK kvs kk).isSome := by
            rcases RepKV.val (k := kk) g4 with ⟨z1, z⟩ | ⟨w, d0, z1, z2', z3⟩
            · rw [z, z1]; rfl
            · rw [z1, z2']; rfl
          refine ⟨_, rfl, fun hz' => ?_⟩
          subst x2 x3
          rw [e]
          exact k H2 B2 _ hz' S2 t2 (fun _ => ⟨x1, rfl, rfl⟩)
        · cases hf
      · cases hf
    · cases hf
theorem peo_ocpy (i : Nat) {x : Str} {xp : Pos} (hc : X.calm = true) (hx : PE X (.Name x xp) (tVar i)) (hg : Gl X "dict") (hm : X.mg "dict" = none) (hv : bootBuiltins "dict" = some (.type "dict"))
    (he : starEach [.Name x xp] X.env = (false, eval (.Name x xp) X.env) :: starEach [] X.env := by rfl) (hpl : (backTo pos (starEach [] X.env)).any (·.1) = false := by rfl) : PEO X τ true (.Call (.Name "dict" q) [.Name x xp] [] pos) (ocpyM i) :=
  PE.imp (pe_callTy (call_dictU hc) hg hm hv (pa_cons hx pa_nil he) (by decide) (by decide) he hpl) fun σ H Q hz _ ⟨ρ, B, fp, S, d, ρ', hf, k⟩ => by
    unfold ocpyM at hf
    split at hf
    · rename_i t kvs q1
      cases hf
      obtain ⟨ad, ks, g1, g2, g3, g4⟩ := S.od q1
      refine ⟨_, g1, .inr ⟨ad, ks, rfl, .inl g3, fun a ha hz' => ?_⟩⟩
      have nB := S.nowb ha
      exact k (.ref a) _ B fp [a] hz' (S.ext (Ex.new ha)) (Tr.ext (Ex.new ha)) (fun _ => ⟨Ex.new ha, rfl, rfl⟩) (.odk upd_same g4 fun _ q => nomatch q) ⟨fun b hb => by simp at hb; subst hb; exact nB, fun b hb => by simp at hb; subst hb; exact S.noown ha, fun b hb => by simp at hb; subst hb; exact .inr ha⟩
    · cases hf
end
end DL

set_option Elab.async false
set_option linter.all false
set_option maxRecDepth 100000
set_option maxHeartbeats 2000000
namespace DL
open PySem L2

/-! ### a comprehension within a comprehension -/
theorem relab_keep {env : PySem.Env} {x : Str} {kd : NameKind} (hk : kd = .cell ∨ kd = .free) : ∀ {ns : List (Str × NameKind)}, ns.lookup x = some kd →
    let ms := ns.map fun (n, k) => if (k == NameKind.free && env.scope.kind == .function && env.kindOf n == some .cell) then (n, NameKind.cell) else (n, k)
    ms.lookup x = some .cell ∨ ms.lookup x = some .free
  | [], h => by simp at h
  | (n, k) :: r, h => by
    have ih := relab_keep (env := env) (x := x) (kd := kd) hk (ns := r)
    simp only [List.map_cons] at ih ⊢
    cases hx : x == n with
    | true =>
      simp only [List.lookup_cons, hx] at h
      obtain rfl := Option.some.inj h
      by_cases c : (k == NameKind.free && env.scope.kind == .function && env.kindOf n == some .cell) = true
      · left; rw [if_pos c]; simp [List.lookup_cons, hx]
      · rw [if_neg c]
        rcases hk with e | e
        · left; simp [List.lookup_cons, hx, e]
        · right; simp [List.lookup_cons, hx, e]
    | false =>
      simp only [List.lookup_cons, hx] at h
      by_cases c : (k == NameKind.free && env.scope.kind == .function && env.kindOf n == some .cell) = true
      · rw [if_pos c]; simp only [List.lookup_cons, hx]; exact ih h
      · rw [if_neg c]; simp only [List.lookup_cons, hx]; exact ih h
theorem blkOk_nest {N : List Str} {sc scope : Scope} {own : List (Str × Nat)} {env : PySem.Env} (h : blkC N sc scope own = true) : BlkOk N (PySem.relabel sc env) scope own := by
  have ok := blkOk_by h
  exact ⟨ok.kind, ok.uniq, ok.ix, fun y hy e => (ok.free y hy e).elim (fun z => relab_keep (.inl rfl) z) fun z => relab_keep (.inr rfl) z, ok.own⟩
/-! ### min, max of a list or of two -/
def minE : List Dat → Option Dat
  | [.int i, .int j] => some (.int (if j < i then j else i))
  | ds => minD ds
def maxE : List Dat → Option Dat
  | [.int i, .int j] => some (.int (if i < j then j else i))
  | ds => maxD ds
abbrev rMax2 : List V → Hp → VK → Prop := fun xs H Q => ∃ i j, xs = [.int i, .int j] ∧ Q (.int (if j > i then j else i)) H
abbrev rMin2 : List V → Hp → VK → Prop := fun xs H Q => ∃ i j, xs = [.int i, .int j] ∧ Q (.int (if j < i then j else i)) H
theorem call_maxE {X : Cx} (hc : X.calm = true) : CallR X (.builtin "max") (fun xs H Q => rMax X.K xs H Q ∨ rMax2 xs H Q) := CallR.or (cr_max hc) (call_max2 hc)
theorem call_minE {X : Cx} (hc : X.calm = true) : CallR X (.builtin "min") (fun xs H Q => rMin X.K xs H Q ∨ rMin2 xs H Q) := CallR.or (cr_min hc) (call_min2 hc)
section
variable {K : PySem.W.Frag}
theorem maxE_ok : CallD K (fun xs H Q => rMax K xs H Q ∨ rMax2 xs H Q) maxE := fun B H vs ds dz Q hz le ra hg k => by
  unfold maxE at hg
  split at hg
  · cases hg
    obtain ⟨v, w, rfl, r1, r2⟩ := ra.two_inv
    rw [r1.int_inv, r2.int_inv]
    exact .inr ⟨_, _, rfl, nwA.same k (.int _)⟩
  · exact .inl (maxD_ok B H vs ds dz Q hz le ra hg k)
theorem minE_ok : CallD K (fun xs H Q => rMin K xs H Q ∨ rMin2 xs H Q) minE := fun B H vs ds dz Q hz le ra hg k => by
  unfold minE at hg
  split at hg
  · cases hg
    obtain ⟨v, w, rfl, r1, r2⟩ := ra.two_inv
    rw [r1.int_inv, r2.int_inv]
    exact .inr ⟨_, _, rfl, nwA.same k (.int _)⟩
  · exact .inl (minD_ok B H vs ds dz Q hz le ra hg k)
end
end DL
namespace DL
open PySem L2
/-! ### products, sealed -/
noncomputable def mulW : { g : Dat → Dat → Option Dat // g = mulD } := Classical.choice ⟨⟨mulD, rfl⟩⟩
noncomputable def mulE : Dat → Dat → Option Dat := mulW.1
theorem mulE_eq : mulE = mulD := mulW.2
theorem mulE_ok {K : PySem.W.Frag} : OpD K rMulU mulE := by
  rw [mulE_eq]
  exact mulD_ok
end DL

set_option Elab.async false
set_option linter.all false
set_option maxRecDepth 100000
set_option maxHeartbeats 2000000
namespace DL
open PySem L2

/-! ### t.index(text), t a tuple of texts made by tuple(..) -/
def tixD : Dat → Dat → Option Dat
  | .tuf ds, .str z => match strsOf ds with
    | some ys => (ys.findIdx? fun u => u == z).map fun j => .int (j : Nat)
    | none => none
  | _, _ => none
def idxE (x y : Dat) : Option Dat := match x with
  | .tuf _ => tixD x y
  | _ => idxD x y
def idxN (f fe : M Dat) : M Dat := bnd f fun x => bnd fe fun y => lift (idxE x y)
def tTM (K : PySem.W.Frag) (r : V → List V → Hp → VK → Prop) (to : TE) (t : TA) : TE := fun σ H Q => to σ H fun x H1 => (∃ (p : Addr) (o : Obj) (ys : List V), x = .ref p ∧ H1 p = some (.frz o (.tup ys)) ∧ o.dict = none) ∧ t σ H1 fun xs H2 => r x xs H2 Q
section
variable {X : Cx} {o e : Expr} {es : List Expr} {to : TE} {t : TA} {name : Str} {apos cpos : Pos} {id : String} {r : V → List V → Hp → VK → Prop}
theorem pe_tm (slot : Slot "tuple" name id) (hty : typeOf (.builtin id) = pure (.type "method_descriptor")) (hm : MtR X id r) (ho : PE X o to) (ha : PA X (e :: es) t)
    (hbase : attributeBase o name X.env (eval o X.env) = eval o X.env := by rfl)
    (hfew : ((backTo cpos (starEach (e :: es) X.env)).all (fun x => !x.1) && (backToKw cpos (keywordEach [] X.env)).all (fun x => x.1.isSome) && decide ((e :: es).length + ([] : List Keyword).length + (if ([] : List Keyword).isEmpty then 0 else 1) < 30)) = true := by rfl)
    (hline : (apos.endLine == cpos.line) = true := by rfl) (hs : starEach (e :: es) X.env = (false, eval e X.env) :: starEach es X.env := by rfl) (hplain : (backTo cpos (starEach es X.env)).any (·.1) = false := by rfl) :
    PE X (.Call (.Attribute o name apos) (e :: es) [] cpos) (tTM X.K r to t) := by
  refine ⟨fun pins s σ H Q I hw => wpAny_Call_method_late hbase hfew hline rfl (wpAny_mono (ho.run pins s σ H _ I hw) (fun v s1 z => ?_) fun _ _ z => z)⟩
  obtain ⟨x, H1, I1, r1, ⟨p, ob, ys, ex, hp, hd⟩, q1⟩ := z
  subst ex
  obtain rfl : v = Value.ref p := r1
  obtain ⟨hg, _, its, rv, ob2, hg2, hc, _⟩ := I1.hok p _ hp
  rw [hg] at hg2
  cases hg2
  refine ⟨"tuple", id, PySem.F.plainAttrs_tuple, slot, hty, ⟨ob, hg, hc⟩, fun a ea => by cases ea; exact ⟨ob, hg, hd⟩, ?_⟩
  have hA := ha.run cpos pins s1 σ H1 _ I1 q1
  rw [hs] at hA ⊢
  refine Calls.callWith_builtin (by show (false || (backTo cpos (starEach es X.env)).any (·.1)) = false; rw [hplain] <;> rfl) (Calls.evalArgs_plain (wpAny_mono hA (fun us s2 y => ?_) fun _ _ z => z))
  obtain ⟨ws, H2, I2, r2, q2⟩ := y
  exact hm pins s2 σ H2 (.ref p) ws (.ref p) us Q I2 rfl r2 q2
end
section
variable {X : Cx} {τ : List V} {pa pb : Bool} {o e : Expr} {apos cpos : Pos} {f fe : M Dat}
theorem ped_indexE (ho : PED X τ pa o f) (he : PED X τ pb e fe) (hbase : attributeBase o "index" X.env (eval o X.env) = eval o X.env := by rfl)
    (hfew : ((backTo cpos (starEach [e] X.env)).all (fun x => !x.1) && (backToKw cpos (keywordEach [] X.env)).all (fun x => x.1.isSome) && decide ([e].length + ([] : List Keyword).length + (if ([] : List Keyword).isEmpty then 0 else 1) < 30)) = true := by rfl)
    (hline : (apos.endLine == cpos.line) = true := by rfl) (hs : starEach [e] X.env = (false, eval e X.env) :: starEach [] X.env := by rfl) (hplain : (backTo cpos (starEach [] X.env)).any (·.1) = false := by rfl) :
    PED X τ (pa && (pb && true)) (.Call (.Attribute o "index" apos) [e] [] cpos) (idxN f fe) :=
  PE.imp (PE.or (pe_tm PySem.F.slot_tuple_index PySem.F.type_tuple_index mt_tup_index ho (pad_cons he pad_nil hs) hbase hfew hline hs hplain) (ped_index (τ := τ) ho he hbase hfew hline hs hplain)) fun σ H Q hz _ ⟨ρ, B, fp, S, dz, ρ', hf, k⟩ => by
    obtain ⟨x, ρ1, h1, g1⟩ := bnd_some hf
    obtain ⟨y, ρ2, h2, g2⟩ := bnd_some g1
    obtain ⟨h3, e3⟩ := lift_some g2
    subst e3
    have other : idxD x y = some dz → tDat X.K τ (pa && (pb && true)) (idxM f fe) σ H (fun v H' => HSz H' → Q v H') := fun hh => by
      refine ⟨ρ, B, fp, S, dz, ρ', ?_, fun v H' B' fp' z1 S1 t1 u1 r1 hz' => k v H' B' fp' hz' S1 t1 u1 r1⟩
      unfold idxM bnd lift
      rw [h1]
      simp only [h2, hh]
    cases x with
    | tuf ds =>
      refine .inl ⟨ρ, B, fp, S, _, ρ1, h1, fun v1 H1 B1 fp1 z1 S1 t1 u1 r1 => ?_⟩
      have h3 : tixD (.tuf ds) y = some dz := h3
      cases y with
      | str z =>
        have h3 : (match strsOf ds with
          | some ys => (ys.findIdx? fun u => u == z).map fun j => Dat.int (j : Nat)
          | none => none) = some dz := h3
        split at h3
        · rename_i ys hys
          obtain ⟨j, hj, rfl⟩ := Option.map_eq_some_iff.mp h3
          obtain ⟨a, ob, xs, rfl, q, hd, ra⟩ := r1.tuf_inv
          refine ⟨⟨a, ob, xs, rfl, S1.le _ _ q, hd⟩, ρ1, B1, fp1, S1, [.str z], ρ', ?_, fun vs H2 B2 fp2 z2 S2 t2 u2 r2 => ?_⟩
          · unfold consA nilA bnd ret
            simp only [h2]
          · obtain ⟨w, rfl, rw2⟩ := r2.one_inv
            obtain ⟨hjl, hjt, hjm⟩ := List.findIdx?_eq_some_iff_getElem.mp hj
            have ex := strs_rep ra hys
            subst ex
            refine ⟨a, ys, z, j, rfl, by rw [rw2.str_inv], .inl (.inr ⟨ob, S2.le _ _ (t2.ex _ _ q)⟩), ?_, fun m hm hh => ?_, fun hz2' => k _ H2 B2 fp2 hz2' S2 (t1.trans t2) (pu_and u1 u2) (.int _)⟩
            · rw [List.getElem?_eq_getElem hjl]
              simpa using hjt
            · have hml : m < ys.length := by omega
              have := hjm m hm
              rw [List.getElem?_eq_getElem hml] at hh
              simp at this hh
              exact this hh
        · cases h3
      | _ => cases h3
    | _ => exact .inr (other h3)
end
end DL

set_option Elab.async false
set_option linter.all false
set_option maxRecDepth 100000
set_option maxHeartbeats 2000000
/-! ### enumerate(t), t a tuple -/
namespace DLE
open PySem
section
variable {prog : Program} {w : World} {A : Around} {E : Value → Shared → Prop} {s : Shared} {j p : Addr} {k : Nat} {its : Array Value}
theorem nx_item {y : Value} {Q : Value → Shared → Prop} (hj : s.heap.IsTupleIter j p k) (hp : s.heap.IsTuple p its) (hy : its[k]? = some y)
    (hq : ∀ h', h'.IsTupleIter j p (k + 1) → Heap.SameBut j s.heap h' → Q y { s with heap := h' }) : wpAny (model prog w) A (Builtin.SmallTypes.nextOf (.ref j)) Q E s := by
  obtain ⟨oj, gj, cj, dj⟩ := id hj
  obtain ⟨op, gp, _, np, dp⟩ := hp
  unfold Builtin.SmallTypes.nextOf
  refine wpAny_bind (wpAny_callSpecial?_slot (name := Str.ofString "__next__") hj.typeIs F.slot_tuple_iterator_next (wpAny_call_entry F.slot_tuple_iterator_next hj.typeIs F.entry_tuple_iterator_next ?_ (F.args_tuple_iterator_next_1 _)))
  show wpAny _ _ (field (.ref j) 0 >>= _) _ _ s
  refine wpAny_bind (wpAny_field gj dj (x := .ref p) rfl ?_)
  show wpAny _ _ (if (Value.ref p == Value.none) = true then _ else _) _ _ s
  rw [if_neg (show ¬ ((Value.ref p == Value.none) = true) by exact fun z => nomatch (show false = true from z))]
  show wpAny _ _ (field (.ref j) 1 >>= _) _ _ s
  refine wpAny_bind (wpAny_field gj dj (x := .int k 0) rfl ?_)
  show wpAny _ _ (seqItems? (.ref p) >>= _) _ _ s
  refine wpAny_bind (wpAny_seqItems gp dp ?_)
  simp only [hy, Int.toNat_natCast]
  refine wpAny_bind (wpAny_setField gj dj (by simp) (wpAny_pure ⟨y, rfl, wpAny_pure (hq _ ?_ (Heap.SameBut.update ..))⟩))
  refine ⟨_, Heap.get?_update_self _ gj (Obj.isFreed_of_fields (Obj.data_mapFields dj _)), (Obj.cls_mapFields ..).trans cj, ?_⟩
  rw [Obj.data_mapFields dj]
  simp [rawInt]
theorem nx_end {Q : Value → Shared → Prop} (hA : A.handled = none) (hj : s.heap.IsTupleIter j p k) (hp : s.heap.IsTuple p its) (hy : its[k]? = none)
    (he : ∀ h' e, Heap.ExtBut j s.heap h' → (∃ o, h'.get? e = some o ∧ o.cls = .type "StopIteration") → E (.ref e) { s with heap := h' }) : wpAny (model prog w) A (Builtin.SmallTypes.nextOf (.ref j)) Q E s := by
  obtain ⟨oj, gj, cj, dj⟩ := id hj
  obtain ⟨op, gp, _, np, dp⟩ := hp
  unfold Builtin.SmallTypes.nextOf
  refine wpAny_bind (wpAny_callSpecial?_slot (name := Str.ofString "__next__") hj.typeIs F.slot_tuple_iterator_next (wpAny_call_entry F.slot_tuple_iterator_next hj.typeIs F.entry_tuple_iterator_next ?_ (F.args_tuple_iterator_next_1 _)))
  show wpAny _ _ (field (.ref j) 0 >>= _) _ _ s
  refine wpAny_bind (wpAny_field gj dj (x := .ref p) rfl ?_)
  show wpAny _ _ (if (Value.ref p == Value.none) = true then _ else _) _ _ s
  rw [if_neg (show ¬ ((Value.ref p == Value.none) = true) by exact fun z => nomatch (show false = true from z))]
  show wpAny _ _ (field (.ref j) 1 >>= _) _ _ s
  refine wpAny_bind (wpAny_field gj dj (x := .int k 0) rfl ?_)
  show wpAny _ _ (seqItems? (.ref p) >>= _) _ _ s
  refine wpAny_bind (wpAny_seqItems gp dp ?_)
  simp only [hy, Int.toNat_natCast]
  refine wpAny_bind (wpAny_rule (wpAny_bind (wpAny_setField gj dj (by simp) ?_)))
  show wpAny _ _ (newExc (.type "StopIteration") [] >>= _) _ _ _
  refine wpAny_bind ?_
  simp only [newTuple, newExc]
  refine wpAny_bind (wpAny_newObj_type ?_ (by size_fits))
  refine wpAny_bind (m := firstArgMember _ _) (wpAny_of_eq (a := Value.none) (by first | (simp only [firstArgMember]; rfl) | rfl) ?_)
  refine wpAny_newObj_type ?_ (by size_fits)
  simp only [raiseNew]
  refine wpAny_bind (wpAny_handled ?_)
  first | rw [hA] | rw [show A.in1.handled = none from hA]
  refine wpAny_bind (wpAny_pure (wpAny_throw (he _ _ (((Heap.SameBut.update ..).extBut.push _).push _) ⟨_, Heap.get?_push_size _ rfl, rfl⟩)))
theorem draws_tup (hA : A.handled = none) (hne : p ≠ j) : Draws prog w A j [j, p] its.size (fun i v => its[i]? = some v) (fun i h => h.IsTupleIter j p i ∧ h.IsTuple p its) where
  live := fun _ _ z => let ⟨o, ho, _⟩ := z.1; ⟨o, ho⟩
  frame := fun _ _ _ z kk => ⟨let ⟨o, ho, r⟩ := z.1; ⟨o, kk j (by simp) o ho, r⟩, let ⟨o, ho, r⟩ := z.2; ⟨o, kk p (by simp) o ho, r⟩⟩
  item := fun i s Q E hi z hQ => nx_item z.1 z.2 (y := its[i]) (by simp [hi]) fun h' a b => hQ _ h' s.toks (by simp [hi]) ⟨a, z.2.extBut b.extBut hne⟩ b
  done := fun s Q E z hE => nx_end hA z.1 z.2 (by simp) hE
end
theorem meets_new (p : Addr) (its : Array Value) (n : Nat) (dd : Option Addr) (sl : Array (Option Value)) :
    Meets (Builtin.«enumerate.__new__» ⟨[.type "enumerate", .ref p], []⟩) (fun _ R s => s.heap.get? p = some { cls := .type "tuple", dict := dd, data := .seq its n, slots := sl } ∧
      R (.ok (.ret (.ref (s.heap.push { cls := .type "tuple_iterator", data := .fields #[.ref p, .int 0 0] }).objs.size)))
        { s with heap := (s.heap.push { cls := .type "tuple_iterator", data := .fields #[.ref p, .int 0 0] }).push { cls := .type "enumerate", data := .fields #[.none, .bool false, .ref s.heap.objs.size, rawInt 0, .none, .none] } }) :=
  .of_wp fun prog w A R s z => by
    obtain ⟨hp, g, d, tk, os⟩ := s
    obtain ⟨gp, z⟩ := z
    have sub := sub_enumerate
    have isT : Heap.IsTuple (Shared.heap ⟨hp, g, d, tk, os⟩) p its := ⟨_, gp, rfl, n, rfl⟩
    wp_walk using AutoSeq1.wpAny_loadPart' gp
    refine wpAny_stack_any fun st => wpAny_pure ?_
    split
    · rename_i c _ _ _ _ _
      cases (c == Value.type "enumerate")
      · wp_walk using AutoSeq1.wpAny_loadPart' gp, wpAny_pyIter_tuple isT
        exact ⟨_, rfl, z⟩
      · wp_walk using AutoSeq1.wpAny_loadPart' gp, wpAny_pyIter_tuple isT
        exact ⟨_, rfl, z⟩
    · wp_walk using AutoSeq1.wpAny_loadPart' gp, wpAny_pyIter_tuple isT
      exact ⟨_, rfl, z⟩
theorem call_new {prog : Program} {w : World} {A : Around} {E : Value → Shared → Prop} {s : Shared} {p : Addr} {its : Array Value} {Q : Value → Shared → Prop} (hp : s.heap.IsTuple p its)
    (hq : ∀ h', IsEnum h' (s.heap.objs.size + 1) s.heap.objs.size 0 .none → h'.IsTupleIter s.heap.objs.size p 0 → (∀ b o, s.heap.get? b = some o → h'.get? b = some o) → Q (.ref (s.heap.objs.size + 1)) { s with heap := h' }) :
    wpAny (model prog w) A (call (.type "enumerate") [.ref p]) Q E s := by
  obtain ⟨⟨c, dd, dt, sl⟩, gp, hc, n, hd⟩ := hp
  obtain rfl : c = .type "tuple" := hc
  obtain rfl : dt = .seq its n := hd
  refine callType_new F.called_enumerate (by decide) (F.typeCall_enumerate_1 _) (F.newCall_enumerate_1 _) (fun obj => F.args_object_init_2 obj _) F.entry_enumerate_new (meets_new p its n dd sl) ⟨gp, ?_⟩
  generalize h1e : s.heap.push { cls := .type "tuple_iterator", data := .fields #[.ref p, .int 0 0] } = h1
  have z1 : h1.objs.size = s.heap.objs.size + 1 := by rw [← h1e]; exact Heap.size_push ..
  have gj : h1.get? s.heap.objs.size = some { cls := .type "tuple_iterator", data := .fields #[.ref p, .int 0 0] } := by rw [← h1e]; exact Heap.get?_push_size _ rfl
  show _ ∧ _
  have he : IsEnum (h1.push { cls := .type "enumerate", data := .fields #[.none, .bool false, .ref s.heap.objs.size, rawInt 0, .none, .none] }) h1.objs.size s.heap.objs.size 0 .none := Heap.get?_push_size h1 rfl
  rw [z1] at he ⊢
  exact ⟨⟨_, he, rfl⟩, hq _ he ⟨_, Heap.get?_push_of_some _ gj, rfl, rfl⟩ fun b o x => Heap.get?_push_of_some _ (by rw [← h1e]; exact Heap.get?_push_of_some _ x)⟩
end DLE

set_option Elab.async false
set_option linter.all false
set_option maxRecDepth 100000
set_option maxHeartbeats 2000000
namespace DL
open PySem L2 PySem.Spec PyProof.Rows

/-! ### for i, x in enumerate(t) -/
def Itet (K : PySem.W.Frag) (a : Addr) : It where
  go i H := ∃ (ys : List V) (y : V), SqT K H a ys ∧ ys[i]? = some y
  yld i H v H' := ∃ (T : Addr) (y : V), v = .ref T ∧ H T = none ∧ H' = upd H T (.tup [.int (i : Nat), y]) ∧ ∀ ys, SqT K H a ys → ys[i]? = some y
  stop i H := ∃ ys : List V, SqT K H a ys ∧ ys.length ≤ i
theorem turn_et {P : Program} {w : World} {K : PySem.W.Frag} {es : List Expr} {kk : Nat} {tpos : Pos} (a e j : Addr) :
    Turn P w K (.Tuple es kk tpos) (Itet K a) [e, j] e (fun i h => (∃ old, IsEnum h e j ((i : Nat) : Int) old) ∧ h.IsTupleIter j a i ∧ e ≠ j) where
  mem := by simp
  obj := fun i h z b hb => by
    obtain ⟨⟨old, he⟩, ⟨o, ho, hc, hd⟩, _⟩ := z
    rcases (show b = e ∨ b = j by simpa using hb) with q | q
    · subst q; exact ⟨_, he, fun v y => nomatch y⟩
    · subst q; exact ⟨o, ho, fun v y => by rw [hd] at y; cases y⟩
  keep := fun i h h' z k => let ⟨⟨old, he⟩, ⟨o, ho, r⟩, hne⟩ := z; ⟨⟨old, k e (by simp) _ he⟩, ⟨o, k j (by simp) o ho, r⟩, hne⟩
  item := by
    intro X hP hw hK hc i pins s σ H E I fr z hg
    subst hP hw hK
    obtain ⟨⟨old, he⟩, hit, hne⟩ := z
    obtain ⟨ys, y, hq, hy⟩ := hg
    obtain ⟨its, rv, tp, hz⟩ := I.tuple hq
    obtain ⟨u, hu, ru⟩ := rv.get hy
    have tp' : s.heap.IsTuple a its.toArray := tp
    have el : e < s.heap.objs.size := Heap.lt_size he
    have jl : j < s.heap.objs.size := by obtain ⟨_, g, _⟩ := hit; exact Heap.lt_size g
    have aj : a ≠ j := fun q => by
      subst q
      obtain ⟨o1, g1, c1, _⟩ := hit
      obtain ⟨o2, g2, c2, _⟩ := tp
      rw [g1] at g2; cases g2
      rw [c1] at c2
      injection c2 with c2
      exact absurd c2 (by decide)
    have ae : e ≠ a := fun q => by
      subst q
      obtain ⟨o2, g2, c2, _⟩ := tp
      have he' : s.heap.get? e = some _ := he
      rw [he'] at g2; cases g2
      injection c2 with c2
      exact absurd c2 (by decide)
    have D := DLE.draws_tup (prog := X.prog) (w := X.w) (A := X.A.in1) (j := j) (p := a) (its := its.toArray) (I.ok.hd hc) aj
    refine wpAny_pyNext_enum_itemD D he ⟨hit, tp'⟩ (by have := (List.getElem?_eq_some_iff.mp hu).1; simpa using this) hne (by simp [hne, ae]) fun x h' tk hx ho st' hT hsz hk => ?_
    have ex : x = u := by
      have hx : its.toArray[i]? = some x := hx
      simp at hx
      rw [hu] at hx; cases hx; rfl
    subst ex
    refine ⟨_, rfl, wpAny_letOwnedTupleGo_enum (s := { s with heap := h', toks := tk + 1 }) ho fun h'' he' sb => ?_⟩
    have gT : h''.get? s.heap.objs.size = some { cls := .type "tuple", data := .seq #[.int i tk, x] } := (sb.2 _ (Nat.ne_of_gt el)).trans hT
    have new : ObjOk X.prog X.w (upd H s.heap.objs.size (.tup [.int (i : Nat), y])) h'' s.heap.objs.size (.tup [.int (i : Nat), y]) :=
      ⟨by show 2 ≤ sizeLine; decide, [.int i tk, x], .cons ⟨_, rfl⟩ (.cons ru .nil), ⟨_, gT, rfl, _, rfl⟩⟩
    have J : Inv X pins σ (upd H s.heap.objs.size (.tup [.int (i : Nat), y])) { s with heap := h'', toks := tk + 1 } :=
      I.turnedNew (ch := [e, j]) (fun b ob hb g => (sb.2 b (fun q => hb (by simp [q]))).trans (hk b ob (fun q => hb (by simp [q])) (fun q => hb (by simp [q])) g)) fr (Nat.le_refl _) new
    have e1 : ((i + 1 : Nat) : Int) = (i : Int) + 1 := by omega
    obtain ⟨⟨oj, gj, rj⟩, _⟩ := st'
    refine ⟨.ref s.heap.objs.size, _, J, rfl, ⟨_, y, rfl, I.hok.fresh (Nat.le_refl _), rfl, fun zs hzs => by rw [I.tuple_inj hzs hq]; exact hy⟩, ⟨⟨x, by rw [e1]; exact he'⟩, ⟨oj, (sb.2 j (Ne.symm hne)).trans gj, rj⟩, hne⟩, fun b hb => ?_⟩
    have bl : b < s.heap.objs.size := by
      rcases (show b = e ∨ b = j by simpa using hb) with q | q
      · rw [q]; exact el
      · rw [q]; exact jl
    rw [upd_ne (Nat.ne_of_lt bl)]
    exact (fr b hb).1
  done := by
    intro X hP hw hK hc i pins s σ H E I fr z hg
    subst hP hw hK
    obtain ⟨⟨old, he⟩, hit, hne⟩ := z
    obtain ⟨ys, hq, hy⟩ := hg
    obtain ⟨its, rv, tp, hz⟩ := I.tuple hq
    obtain ⟨f0, f1, f2, f3, f4, f5⟩ := fr j (by simp)
    have tp' : s.heap.IsTuple a its.toArray := tp
    have ln := rv.length
    have hT : s.TypeIs (.ref e) "enumerate" := ⟨_, he, rfl⟩
    unfold pyNext
    refine wpAny_bind (wpAny_attempt (wpAny_callSpecial?_slot (name := Str.ofString "__next__") hT PySem.F.slot_enumerate_next (wpAny_call_entry PySem.F.slot_enumerate_next hT PySem.F.entry_enumerate_next ?_ (PySem.F.args_enumerate_next_1 _))))
    show wpAny _ _ (field (.ref e) 2 >>= _) _ _ _
    refine wpAny_bind (wpAny_field he rfl (x := .ref j) rfl ?_)
    refine wpAny_bind (DLE.nx_end (I.ok.hd hc) hit tp' (by simp; omega) fun h' x eb hx => ?_)
    obtain ⟨o, go, co⟩ := hx
    refine wpAny_bind (wpAny_isInstance (T := "StopIteration") (b := true) ⟨o, go, co⟩ isSubtype_stop ?_)
    exact wpAny_pure ⟨rfl, I.turned (t' := s.toks) (fun b o hb g => eb b o hb g) f0 f1 f3 f4 f5⟩
  self := fun A i s Q E z h => let ⟨⟨_, he⟩, _⟩ := z; wpAny_pyIter_enum he h
def iEnumT (K : PySem.W.Frag) (ta : TA) : TI := fun σ H R => ta σ H fun vs H1 => ∃ a ys, vs = [.ref a] ∧ SqT K H1 a ys ∧ R (Itet K a) H1
theorem pi_enumT {X : Cx} {e : Expr} {ta : TA} {q pos tpos : Pos} {es : List Expr} {kk : Nat} (hg : Gl X "enumerate") (hm : X.mg "enumerate" = none) (ha : PA X [e] ta) (hs : starEach [e] X.env = [(false, eval e X.env)] := by rfl) :
    PI X (.Tuple es kk tpos) (.Call (.Name "enumerate" q) [e] [] pos) (iEnumT X.K ta) := by
  refine ⟨fun pins s σ H R I hw => ?_⟩
  refine Call_ (ld_blt I hg hm boot_enumerate (PyProof.Rows.callWith_type1 (wpAny_mono (ha.run pos pins s σ H _ I hw) (fun us s1 z => ?_) fun _ _ z => z) hs rfl))
  obtain ⟨vs, H1, I1, r1, a, ys, ex, hq, hR⟩ := z
  subst ex
  obtain ⟨u, eu, ru⟩ := vals1 r1
  subst eu
  obtain rfl : u = Value.ref a := ru
  obtain ⟨its, rv, tp, hz⟩ := I1.tuple hq
  refine DLE.call_new (show s1.heap.IsTuple a its.toArray from tp) fun h' he hit hk => wpAny_pyIter_enum he ?_
  have I2 : Inv X pins σ H1 { s1 with heap := h' } := I1.kept (t' := s1.toks) hk
  refine ⟨s1.heap.objs.size + 1, [s1.heap.objs.size + 1, s1.heap.objs.size], _, _, H1, rfl, I2, turn_et a (s1.heap.objs.size + 1) s1.heap.objs.size, ⟨⟨.none, he⟩, hit, Nat.succ_ne_self _⟩, fun b hb => ?_, hR⟩
  have hle : s1.heap.objs.size ≤ b := by
    rcases (show b = s1.heap.objs.size + 1 ∨ b = s1.heap.objs.size by simpa using hb) with q | q
    · rw [q]; exact Nat.le_add_right _ _
    · rw [q]; exact Nat.le_refl _
  exact I1.fpOk hle (I1.hok.fresh hle)
section
variable {X : Cx} {τ : List V} {p : Bool} {e : Expr} {elts : List Expr} {pos q tpos : Pos} {fa : M (List Dat)} {kk : Nat}
theorem walk_et {K : PySem.W.Frag} {B H : Hp} {a : Addr} {xs : List V} {ds : List Dat} (hz : HSz H) (le : Ex B H) (h : SqT K B a xs) (r : RepAll K B xs ds) : WalkD K B (Itet K a) (enL ds) := by
  have hl := r.length
  have w := walk_t hz le h r
  refine ⟨fun B1 H1 i e1 e2 hi => ?_, fun B1 H1 e1 e2 => ⟨xs, ex_t (e1.trans e2) h, by simp [enL]; omega⟩, by simpa [enL] using w.size⟩
  have hi : i < ds.length := by simpa [enL] using hi
  refine ⟨⟨xs, xs[i], ex_t (e1.trans e2) h, by simp [show i < xs.length by omega]⟩, fun x H' ⟨T, y, y1, hT, y2, y3⟩ => ?_⟩
  subst y1 y2
  obtain ⟨d, hd, rd⟩ := r.getv (y3 xs (ex_t (e1.trans e2) h))
  obtain ⟨n1, n2, n3⟩ := new3 (o := .tup [.int (i : Nat), y]) e2 hT
  exact ⟨_, .tup [.int (i : Nat), d], by simp [enL, hd], n1, n2, n3, .tup (.inl (.inl upd_same)) (.cons (.int _) (.cons ((rd.mono e1).mono n2) .nil))⟩
def itEnE : List Dat → Option (List Dat)
  | [.tup ds] => some (enL ds)
  | [.tuf ds] => some (enL ds)
  | ds => itEn ds
theorem pid_enumE (hg : Gl X "enumerate") (hm : X.mg "enumerate" = none) (ha : PAD X τ p [e] fa) (hs : starEach [e] X.env = [(false, eval e X.env)] := by rfl) : PID X τ p (.Tuple elts kk tpos) (.Call (.Name "enumerate" q) [e] [] pos) (liftA itEnE fa) :=
  PI.imp (PI.or (pi_enumT hg hm ha hs) (pid_enum (τ := τ) hg hm ha hs)) fun σ H R hz _ ⟨ρ, B, fp, S, ds, ρ', hf, k⟩ => by
    obtain ⟨d, ρ1, h1, h0⟩ := bnd_some hf
    obtain ⟨h2, e2⟩ := lift_some h0
    subst e2
    have other : itEn d = some ds → tIt X.K τ p (liftA itEn fa) σ H (fun J H' => HSz H' → R J H') := fun hh => by
      refine ⟨ρ, B, fp, S, ds, ρ', ?_, fun J H' B' fp' z1 S1 t1 u1 w hz' => k J H' B' fp' hz' S1 t1 u1 w⟩
      unfold liftA bnd lift
      rw [h1]
      simp only [hh]
    have tupc : ∀ es : List Dat, d = [.tup es] ∨ d = [.tuf es] → ds = enL es → tIt X.K τ p (liftA itEnE fa) σ H R → iEnumT X.K (tAll X.K τ p fa) σ H (fun J H' => HSz H' → R J H') := fun es hd hds _ => by
      refine ⟨ρ, B, fp, S, d, _, h1, fun vs H' B' fp' z1 S1 t1 u1 r1 => ?_⟩
      have hh : ∃ w, vs = [w] ∧ Rep X.K B' w (.tup es) := by
        rcases hd with e | e
        · subst e; exact r1.one_inv
        · subst e
          obtain ⟨w, a, b⟩ := r1.one_inv
          exact ⟨w, a, b.weak⟩
      obtain ⟨w, rfl, r⟩ := hh
      obtain ⟨a, xs, rfl, qq, ra⟩ := r.tup_inv
      subst hds
      exact ⟨a, xs, rfl, ex_t S1.le qq, fun hz' => k _ H' B' fp' hz' S1 t1 u1 (walk_et hz' S1.le qq ra)⟩
    unfold itEnE at h2
    split at h2
    · rename_i es
      cases h2
      exact .inl (tupc es (.inl rfl) rfl ⟨ρ, B, fp, S, _, _, hf, k⟩)
    · rename_i es
      cases h2
      exact .inl (tupc es (.inr rfl) rfl ⟨ρ, B, fp, S, _, _, hf, k⟩)
    · exact .inr (other h2)
end
end DL

set_option Elab.async false
set_option linter.all false
set_option maxRecDepth 100000
set_option maxHeartbeats 2000000
namespace DL
open PySem PySem.Spec PyProof.Rows L2

/-! ### comprehensions with any number of for's, clause by clause -/
abbrev nvE : Value → Shared → Prop := fun _ _ => False
/-- what stands behind a clause's tests: K is to hold when it is done -/
abbrev Bod := Addr → (Shared → Prop) → Shared → Prop
def bodI (Y : Cx) (elt : Expr) : Bod := fun D K s =>
  wpAny (model Y.prog Y.w) Y.A (eval elt Y.env) (fun x s1 => wpAny (model Y.prog Y.w) Y.A (call (.builtin "list.append") [.ref D, x]) (fun _ s2 => K s2) nvE s1) nvE s
def bodO (Y : Cx) (i1 e : Expr) (k : Nat) : Bod := fun D K s =>
  wpAny (model Y.prog Y.w) Y.A (eval i1 Y.env) (fun x s1 => wpAny (model Y.prog Y.w) Y.A (pyIter x) (fun it1 s2 =>
    codeAny (model Y.prog Y.w) Y.A (.compStart e (k + 1) it1 (.ref D) Y.env) (fun r s' => match r with
      | .ok _ => K s'
      | .error _ => False) s2) nvE s1) nvE s
def LoopR (Y : Cx) (e : Expr) (k : Nat) (t : Expr) (ifs : List Expr) (bod : Bod) : Prop :=
  ∀ (it : Value) (D : Addr) (R : Result → Shared → Prop) (I : Nat → Shared → Prop),
    (∀ n s, I n s → wpAny (model Y.prog Y.w) Y.A (pyNext it) (fun r s1 => match r with
      | none => R (.ok .next) s1
      | some v => wpAny (model Y.prog Y.w) Y.A (letOwnedTupleGo t it v) (fun _ s2 => wpAny (model Y.prog Y.w) Y.A (assign t Y.env v) (fun _ s3 =>
          wpAny (model Y.prog Y.w) Y.A (forIn ifs true fun c r => if r = true then do let ok ← isTrue c Y.env (eval c Y.env); pure (ForInStep.yield ok) else pure (ForInStep.yield r)) (fun ok s4 =>
            if ok = true then bod D (fun s' => ∃ m, m < n ∧ I m s') s4 else ∃ m, m < n ∧ I m s4) nvE s3) nvE s2) nvE s1) nvE s) →
    ∀ n s, I n s → codeAny (model Y.prog Y.w) Y.A (.compLoop e k it (.ref D) Y.env) R s
theorem loopR_in {Y : Cx} {e elt t elt' : Expr} {ifs : List Expr} {gs : List Comprehension} {scope : Scope} {pos : Pos} {k : Nat} {p : Pos} (he : e = .ListComp elt' gs scope pos)
    (hturn : ∀ it acc, compTurn e k it acc Y.env = (do
      standAt p
      match ← pyNext it with
      | none => pure (.done .next)
      | some v =>
        letOwnedTupleGo t it v
        assign t Y.env v
        let mut ok := true
        for c in ifs do
          if ok then ok ← isTrue c Y.env (eval c Y.env)
        if ok then
          (do let _ ← call (.builtin "list.append") [acc, ← eval elt Y.env])
        again (.compLoop e k it acc Y.env))) : LoopR Y e k t ifs (bodI Y elt) := by
  intro it D R I turn n s h
  refine codeAny_loop rfl I (fun n s hI => ?_) n h
  subst he
  show wpAny _ Y.A ((compTurn (.ListComp elt' gs scope pos) k it (.ref D) Y.env).onRaise (fun x => do noteFrame x Y.env; theTreesLotGoes x)) _ _ s
  refine wpAny_noted ?_
  rw [hturn]
  refine wpAny_bind (wpAny_standAt (wpAny_bind (thnF (turn n s hI) fun r s1 h1 => ?_)))
  cases r with
  | none => exact wpAny_pure h1
  | some v =>
    refine wpAny_bind (thnF h1 fun _ s2 h2 => wpAny_bind (thnF h2 fun _ s3 h3 => wpAny_bind (thnF h3 fun ok s4 h4 => ?_)))
    cases ok with
    | false => exact wpAny_pure ⟨rfl, h4⟩
    | true => exact wpAny_bind (wpAny_bind (thnF h4 fun x s5 h5 => wpAny_bind (thnF h5 fun _ s6 h6 => wpAny_pure (wpAny_pure ⟨rfl, h6⟩))))
theorem loopR_out {Y : Cx} {e i1 t elt' : Expr} {ifs : List Expr} {gs : List Comprehension} {scope : Scope} {pos : Pos} {k : Nat} {p : Pos} (he : e = .ListComp elt' gs scope pos) (hs : ∀ x, foldedSetIterable i1 Y.env x = pure x)
    (hturn : ∀ it acc, compTurn e k it acc Y.env = (do
      standAt p
      match ← pyNext it with
      | none => pure (.done .next)
      | some v =>
        letOwnedTupleGo t it v
        assign t Y.env v
        let mut ok := true
        for c in ifs do
          if ok then ok ← isTrue c Y.env (eval c Y.env)
        if ok then
          let x ← eval i1 Y.env
          standAt i1.pos
          let x ← foldedSetIterable i1 Y.env x
          let _ ← runOwn (.compStart e (k + 1) (← holding [x] (pyIter x)) acc Y.env) Y.env
        again (.compLoop e k it acc Y.env))) : LoopR Y e k t ifs (bodO Y i1 e k) := by
  intro it D R I turn n s h
  refine codeAny_loop rfl I (fun n s hI => ?_) n h
  subst he
  show wpAny _ Y.A ((compTurn (.ListComp elt' gs scope pos) k it (.ref D) Y.env).onRaise (fun x => do noteFrame x Y.env; theTreesLotGoes x)) _ _ s
  refine wpAny_noted ?_
  rw [hturn]
  refine wpAny_bind (wpAny_standAt (wpAny_bind (thnF (turn n s hI) fun r s1 h1 => ?_)))
  cases r with
  | none => exact wpAny_pure h1
  | some v =>
    refine wpAny_bind (thnF h1 fun _ s2 h2 => wpAny_bind (thnF h2 fun _ s3 h3 => wpAny_bind (thnF h3 fun ok s4 h4 => ?_)))
    cases ok with
    | false => exact wpAny_pure ⟨rfl, h4⟩
    | true =>
      refine wpAny_bind (thnF h4 fun x s5 h5 => wpAny_bind (wpAny_standAt (wpAny_bind (wpAny_of_eq (hs x) (wpAny_bind (wpAny_holding (thnF h5 fun it1 s6 h6 => ?_)))))))
      refine wpAny_bind (wpAny_runOwn ?_)
      rw [Around.mark_none]
      refine codeAny_mono h6 fun r s' hr => ?_
      cases r with
      | ok f =>
        first
          | exact wpAny_pure ⟨rfl, hr⟩
          | exact wpAny_bind (wpAny_pure (wpAny_pure ⟨rfl, hr⟩))
      | error e => exact hr.elim
theorem startR {prog : Program} {w : World} {A : Around} {R : Result → Shared → Prop} {s : Shared} {elt : Expr} {gs : List Comprehension} {scope : Scope} {pos : Pos} {it acc : Value} {env : PySem.Env} {k : Nat} {t i : Expr} {ifs : List Expr}
    (hk : gs[k]? = some ⟨t, i, ifs, 0⟩) (h0 : codeAny (model prog w) A (.compLoop (.ListComp elt gs scope pos) k it acc env) R s)
    (h : wpAny (model prog w) A (pyIter it) (fun it' s' => codeAny (model prog w) A (.compLoop (.ListComp elt gs scope pos) k it' acc env) R s') nvE s) :
    codeAny (model prog w) A (.compStart (.ListComp elt gs scope pos) k it acc env) R s := by
  refine codeAny_of_tree ?_
  show wpAny _ _ ((compStart (.ListComp elt gs scope pos) k it acc env).onRaise (fun x => do noteFrame x env; standAt theWindowsPlace)) _ _ s
  refine wpAny_notedAt ?_
  unfold compStart
  have e : (clausesOf (.ListComp elt gs scope pos))[k]? = some ⟨t, i, ifs, 0⟩ := hk
  rw [e]
  show wpAny _ _ (ask >>= _) _ _ s
  refine wpAny_bind (wpAny_askSetting (wpAny_ite ?_))
  split
  · first
      | exact wpAny_bind (wpAny_pure (wpAny_pure (And.intro rfl h0)))
      | exact wpAny_pure (And.intro rfl h0)
  · refine wpAny_bind (wpAny_rule ?_)
    first
      | exact wpAny_bind (wpAny_standAt (wpAny_bind (thnF h fun it' s' h' => wpAny_pure (And.intro rfl h'))))
      | (show wpAny _ _ (standAt i.pos >>= _) _ _ s; exact wpAny_bind (wpAny_standAt (wpAny_bind (thnF h fun it' s' h' => wpAny_pure (And.intro rfl h')))))

/-! what a body does to slots and heap -/
abbrev BT := Addr → L2.St → Hp → (Hp → Prop) → Prop
structure PB (Y : Cx) (bod : Bod) (b : BT) (vs : List Nat) : Prop where
  run : ∀ (D : Addr) (pins : List (Addr × Obj)) (s : Shared) (σ : L2.St) (H : Hp) (Nx : Hp → Prop) (K : Shared → Prop), Inv Y pins σ H s → b D σ H Nx → (∀ s' H', Inv Y pins (L2.wipe σ vs) H' s' → Nx H' → K s') → bod D K s
def bIn (te : TE) : BT := fun D σ H Nx => te σ H fun y H1 => ∃ acc, H1 D = some (.lst acc) ∧ acc.length < sizeLine ∧ Nx (upd H1 D (.lst (acc ++ [y])))
theorem PB.inn {Y : Cx} {elt : Expr} {te : TE} (he : PE Y elt te) (hx : Y.xe = nvE) : PB Y (bodI Y elt) (bIn te) [] := ⟨fun D pins s σ H Nx K I h kk => by
  have r := he.run pins s σ H _ I h
  rw [hx] at r
  refine thnF r fun z s1 ⟨y, H1, I1, r1, acc, h1, h2, nx⟩ => ?_
  exact app_ok I1 h1 h2 r1 fun s2 I2 => kk s2 _ I2 nx⟩
def bOut (wi : TI) (g : TG) (tt : TT) (b : BT) (vs : List Nat) : BT := fun D σ H Nx => wi σ H fun J H1 => ∃ W : Nat → Nat → Hp → Prop, (∃ m, W 0 m H1) ∧ ∀ j m H, W j m H →
  (J.stop j H ∧ Nx H) ∨ (J.go j H ∧ ∃ Ny : Hp → Prop, (∀ H', Ny H' → ∃ m', m' < m ∧ W (j + 1) m' H') ∧ ∀ x H', J.yld j H x H' → g x (L2.wipe σ vs) H' fun σ2 H2 => L2.wipe σ2 vs = L2.wipe σ vs ∧ tt σ2 H2 fun ok H3 =>
    if ok = true then b D σ2 H3 Ny else Ny H3)
theorem wipe_keep {σ1 σ2 : L2.St} {vs vi : List Nat} (h : L2.wipe σ2 vs = L2.wipe σ1 vs) (hv : ∀ i ∈ vi, i ∈ vs) : (L2.wipe σ1 vs).length = (L2.wipe σ2 vi).length ∧ ∀ (j : Nat) v, (L2.wipe σ1 vs)[j]? = some (some v) → (L2.wipe σ2 vi)[j]? = some (some v) := by
  refine ⟨by rw [← h, wipe_length, wipe_length], fun j v e => ?_⟩
  rw [← h] at e
  obtain ⟨e1, e2⟩ := wipe_some e
  rw [wipe_out fun z => e2 (hv j z)]
  exact e1
/-- the loop of a clause whose iterator is there -/
theorem walkR {Y : Cx} {e tg : Expr} {ifs : List Expr} {k : Nat} {g : TG} {tt : TT} {bod : Bod} {b : BT} {vs vi : List Nat} (hc : Y.calm = true) (hx : Y.xe = nvE) (hg : PG Y tg g) (ht : PTs Y ifs tt) (hb : PB Y bod b vi) (hv : ∀ i ∈ vi, i ∈ vs) (hl : LoopR Y e k tg ifs bod)
    {pins : List (Addr × Obj)} {it D : Addr} {fp : List Addr} {tn : Nat → Heap → Prop} {J : It} (T : Turn Y.prog Y.w Y.K tg J fp it tn) {σ : L2.St} {H0 : Hp} {s : Shared} {R : Result → Shared → Prop} {W : Nat → Nat → Hp → Prop} {Fin : Hp → Prop}
    (I0 : Inv Y pins (L2.wipe σ vs) H0 s) (st0 : tn 0 s.heap) (ok0 : ∀ b ∈ fp, H0 b = none) (hf : ∀ {H' : Hp}, (∀ b ∈ fp, H' b = none) → ∀ b ∈ fp, FpOk Y pins H' b) {m0 : Nat} (w0 : W 0 m0 H0)
    (turn : ∀ j m H, W j m H → (J.stop j H ∧ Fin H) ∨ (J.go j H ∧ ∃ Ny : Hp → Prop, (∀ H', Ny H' → ∃ m', m' < m ∧ W (j + 1) m' H') ∧ ∀ x H', J.yld j H x H' → g x (L2.wipe σ vs) H' fun σ2 H2 => L2.wipe σ2 vs = L2.wipe σ vs ∧ tt σ2 H2 fun ok H3 => if ok = true then b D σ2 H3 Ny else Ny H3))
    (fin : ∀ s' H', Inv Y pins (L2.wipe σ vs) H' s' → Fin H' → R (.ok .next) s') : codeAny (model Y.prog Y.w) Y.A (.compLoop e k (.ref it) (.ref D) Y.env) R s := by
  refine hl (.ref it) D R (fun m s' => ∃ j H', Inv Y pins (L2.wipe σ vs) H' s' ∧ tn j s'.heap ∧ (∀ b ∈ fp, H' b = none) ∧ W j m H') ?_ m0 s ⟨0, H0, I0, st0, ok0, w0⟩
  rintro m s1 ⟨j, H1, I1, st1, n1, w1⟩
  rcases turn j m H1 w1 with ⟨stop, q⟩ | ⟨go, Ny, hNy, step⟩
  · refine thnF (T.done Y rfl rfl rfl hc j pins s1 _ H1 nvE I1 (hf n1) st1 stop) fun r s2 ⟨hr, I2⟩ => ?_
    subst hr
    exact fin s2 H1 I2 q
  · refine thnF (T.item Y rfl rfl rfl hc j pins s1 _ H1 nvE I1 (hf n1) st1 go) fun r s2 ⟨u, hr, h2⟩ => ?_
    subst hr
    refine thnF h2 fun _ s3 ⟨x, H3, I3, r3, y3, st3, n3⟩ => ?_
    have I3' := I3.pinned (hf n3) (T.obj _ _ st3)
    have pg := hg.run _ s3 _ H3 x u _ I3' r3 (step x H3 y3)
    rw [hx] at pg
    refine thnF pg fun _ s4 ⟨σ4, H4, I4, hw4, q4⟩ => ?_
    have pt := ht.run _ s4 σ4 H4 _ I4 q4
    rw [hx] at pt
    refine thnF pt fun ok s5 ⟨H5, I5, q5⟩ => ?_
    have back : ∀ {σ6 : L2.St} {s' : Shared} {H' : Hp}, Inv Y (pins ++ pinsAt fp s3.heap) σ6 H' s' → (L2.wipe σ vs).length = σ6.length → (∀ (j : Nat) v, (L2.wipe σ vs)[j]? = some (some v) → σ6[j]? = some (some v)) → Ny H' →
        ∃ m', m' < m ∧ ∃ j H', Inv Y pins (L2.wipe σ vs) H' s' ∧ tn j s'.heap ∧ (∀ b ∈ fp, H' b = none) ∧ W j m' H' := fun {σ6 s' H'} I6 hl hk ny => by
      obtain ⟨m', hm, w'⟩ := hNy H' ny
      have pin' : ∀ b ∈ fp, ∀ o, s3.heap.get? b = some o → s'.heap.get? b = some o ∧ H' b = none := fun b hb o e =>
        let z := I6.pin (b, o) (List.mem_append_right _ (List.mem_append_right _ (mem_pinsAt hb e)))
        ⟨z.1, z.2.1⟩
      refine ⟨m', hm, j + 1, H', I6.unpinned.weak hl hk, T.keep _ _ _ st3 fun b hb o e => (pin' b hb o e).1, fun b hb => ?_, w'⟩
      obtain ⟨o, e, _⟩ := T.obj _ _ st3 b hb
      exact (pin' b hb o e).2
    cases ok with
    | false =>
      simp only [Bool.false_eq_true, if_false] at q5 ⊢
      obtain ⟨k1, k2⟩ := wipe_keep (vi := []) hw4 (fun _ h => nomatch h)
      exact back I5 k1 k2 q5
    | true =>
      simp only [if_true] at q5 ⊢
      obtain ⟨k1, k2⟩ := wipe_keep hw4 hv
      exact hb.run D _ s5 σ4 H5 Ny _ I5 q5 fun s' H' I6 ny => back I6 k1 k2 ny
theorem PB.out {Y : Cx} {elt tg iter : Expr} {gs : List Comprehension} {scope : Scope} {pos : Pos} {ifs : List Expr} {k : Nat} {wi : TI} {g : TG} {tt : TT} {bod : Bod} {b : BT} {vs vi : List Nat} (hk : gs[k + 1]? = some ⟨tg, iter, ifs, 0⟩) (hc : Y.calm = true) (hx : Y.xe = nvE)
    (hi : PI Y tg iter wi) (hg : PG Y tg g) (ht : PTs Y ifs tt) (hb : PB Y bod b vi) (hv : ∀ i ∈ vi, i ∈ vs) (hl : LoopR Y (.ListComp elt gs scope pos) (k + 1) tg ifs bod) : PB Y (bodO Y iter (.ListComp elt gs scope pos) k) (bOut wi g tt b vs) vs := ⟨fun D pins s σ H Nx K I h kk => by
  have r := hi.run pins s σ H _ I h
  rw [hx] at r
  refine thnF r fun xv s1 h1 => thnF h1 fun itv s2 ⟨it, fp, tn, J, H2, e, I2, T, st2, f2, W, ⟨m0, w0⟩, turn⟩ => ?_
  subst e
  have lp := walkR (R := fun r s' => match r with
      | .ok _ => K s'
      | .error _ => False) hc hx hg ht hb hv hl T (I2.weak (wipe_length σ vs) fun j v e => (wipe_some e).1) st2 (fun b hb => (f2 b hb).1) (fun hn b hb => ⟨hn b hb, (f2 b hb).2⟩) w0 turn fun s' H' I' nx => kk s' H' I' nx
  exact startR hk lp (T.self Y.A 0 _ _ _ st2 lp)⟩
/-- a list comprehension with any clauses behind its first -/
def tLcN (wi : TI) (g : TG) (tt : TT) (b : BT) (vs : List Nat) : TE := fun σ H Q => wi σ H fun J H1 => ∀ D, H1 D = none → ∃ W : Nat → Nat → Hp → Prop, (∃ m, W 0 m (upd H1 D (.lst []))) ∧ ∀ j m H, W j m H →
  (J.stop j H ∧ Q (.ref D) H) ∨ (J.go j H ∧ ∃ Ny : Hp → Prop, (∀ H', Ny H' → ∃ m', m' < m ∧ W (j + 1) m' H') ∧ ∀ x H', J.yld j H x H' → g x (L2.wipe σ vs) H' fun σ2 H2 => L2.wipe σ2 vs = L2.wipe σ vs ∧ tt σ2 H2 fun ok H3 =>
    if ok = true then b D σ2 H3 Ny else Ny H3)
theorem coreN {X : Cx} {pins : List (Addr × Obj)} {s : Shared} {σ : L2.St} {H : Hp} {Q : VK} {use : Option (Value → Sem Unit)} {Qf : Value → Shared → Prop} {elt tg iter : Expr} {gs : List Comprehension} {scope : Scope} {own : List (Str × Nat)} {pos ps : Pos} {ifs : List Expr} {wi : TI} {g : TG} {tt : TT} {b : BT} {vi : List Nat} (hc : X.calm = true) (hN : X.N.Nodup) (I : Inv X pins σ H s) (hi : PI X tg iter wi) (ok : BlkOk X.N X.env.scope scope own) (hv : ∀ i ∈ vi, i ∈ own.map (·.2))
    (hB : ∀ (s : Shared) (H : Hp) (C : Addr) (cl : List (Str × Addr)) (fp : List Addr), ∃ bod, PG (X.blk s H scope (compEnvC scope cl C X.env) fp) tg g ∧ PTs (X.blk s H scope (compEnvC scope cl C X.env) fp) ifs tt ∧ PB (X.blk s H scope (compEnvC scope cl C X.env) fp) bod b vi ∧
      LoopR (X.blk s H scope (compEnvC scope cl C X.env) fp) (.ListComp elt (⟨tg, iter, ifs, 0⟩ :: gs) scope pos) 0 tg ifs bod)
    (hs : ∀ x, foldedSetIterable iter X.env x = pure x) (h : tLcN wi g tt b (own.map (·.2)) σ H Q)
    (hR : ∀ D C s' m H', Inv X pins σ H' s' → Q (.ref D) H' → s'.heap.Ns C m → FpOk X pins H' C → compPost (model X.prog X.w) X.A X.xe use Qf (.ref D) C (.ok .next) s') :
    wpAny (model X.prog X.w) X.A (comprehension (.ListComp elt (⟨tg, iter, ifs, 0⟩ :: gs) scope pos) scope X.env ps (newList []) false (eval iter X.env) use) Qf X.xe s := by
  have fr : ∀ y ∈ scope.names, y.2 = .free → ∃ c, X.env.cells.lookup y.1 = some c := fun y hy e => (ok.free y hy e).elim (fun z => I.ok.has _ (.inl z)) fun z => I.ok.has _ (.inr z)
  refine wpAny_comprehension_free (use := use) (g := ⟨tg, iter, ifs, 0⟩) (gs := gs) rfl hs (closure_ok fr) ok.kind (fun y hy e => (ok.uniq y hy).trans (congrArg some e)) (thn (hi.run pins s σ H _ I h) fun xv s1 hx => thn hx fun itv s2 ⟨it, fp, tn, J, H2, e, I2, T, st2, f2, q⟩ => ?_)
  subst e
  refine wpAny_newObj_type (newEnv_comp ?_) (Nat.zero_le _)
  have hDn : H2 s2.heap.objs.size = none := I2.hok.fresh (Nat.le_refl _)
  obtain ⟨W, ⟨m0, w0⟩, turn⟩ := q _ hDn
  have I3 : Inv X pins σ (upd H2 s2.heap.objs.size (.lst [])) { s2 with heap := s2.heap.push { cls := .type "list", data := .seq ([] : List Value).toArray } } :=
    I2.laid (t' := s2.toks) (fun c o z => Heap.get?_push_of_some _ z) (Nat.le_refl _) ⟨Nat.zero_le _, [], 0, .nil, Heap.get?_push_size _ rfl⟩
  have low : ∀ c ∈ fp, c < s2.heap.objs.size := fun c hb => by
    obtain ⟨o, z, _⟩ := T.obj _ _ st2 c hb
    exact Heap.lt_size z
  have f3 : ∀ c ∈ fp, FpOk X pins (upd H2 s2.heap.objs.size (.lst [])) c ∧ c < (s2.heap.push { cls := .type "list", data := .seq ([] : List Value).toArray }).objs.size := fun c hb =>
    ⟨⟨by rw [upd_ne (Nat.ne_of_lt (low c hb))]; exact (f2 c hb).1, (f2 c hb).2⟩, by rw [Heap.size_push]; exact Nat.lt_succ_of_lt (low c hb)⟩
  have st3 : tn 0 (s2.heap.push { cls := .type "list", data := .seq ([] : List Value).toArray }) := T.keep _ _ _ st2 fun c _ o z => Heap.get?_push_of_some _ z
  generalize hs3 : ({ s2 with heap := s2.heap.push { cls := .type "list", data := .seq ([] : List Value).toArray } } : Shared) = s3 at I3 ⊢
  have e3 : s2.heap.push { cls := .type "list", data := .seq ([] : List Value).toArray } = s3.heap := by rw [← hs3]
  rw [e3] at f3 st3
  have I4 := block_start I3 ok hN f3
  obtain ⟨bod, pg, pt, pb, lr⟩ := hB s3 (upd H2 s2.heap.objs.size (.lst [])) s3.heap.objs.size (cellsFrom (s3.heap.objs.size + 1) scope.names (cloFrom X.env.cells scope.names [])) fp
  have w3 : ∀ {H' : Hp}, (∀ c ∈ fp, H' c = none) → ∀ c ∈ fp, FpOk (X.blk s3 (upd H2 s2.heap.objs.size (.lst [])) scope (compEnvC scope (cellsFrom (s3.heap.objs.size + 1) scope.names (cloFrom X.env.cells scope.names [])) s3.heap.objs.size X.env) fp) [] H' c := fun n c hc =>
    ⟨n c hc, (I4.ok.exf c hc).1, I4.ok.exfs c hc, .inl hc, fun x d z => (I4.ok.exf c hc).2 x d z, fun p hp => nomatch (show p ∈ ([] : List (Addr × Obj)) from hp)⟩
  have st4 := T.keep _ _ _ st3 fun c _ o z => (pushCells_keeps scope.names _ _ _ (Heap.get?_push_of_some { cls := .type "dict", data := .dict #[] } z) : (pushCells (s3.heap.push { cls := .type "dict", data := .dict #[] }) scope.names).get? c = some o)
  have lp := walkR (Y := X.blk s3 (upd H2 s2.heap.objs.size (.lst [])) scope (compEnvC scope (cellsFrom (s3.heap.objs.size + 1) scope.names (cloFrom X.env.cells scope.names [])) s3.heap.objs.size X.env) fp)
    (R := compPost (model X.prog X.w) X.A X.xe use Qf (.ref s2.heap.objs.size) s3.heap.objs.size) hc rfl pg pt pb hv lr T I4 st4 (fun c hb => (f3 c hb).1.1) w3 w0 turn fun s' H' I' q => by
      have I7 : Inv X pins σ H' s' := I3.call' (ch := fp) I'.os I'.base I'.hok I'.bare fun c hb => ⟨(f3 c hb).1.2.2.2.1, (f3 c hb).1.2.1, (f3 c hb).1.2.2.2.2.1, (f3 c hb).1.2.2.2.2.2⟩
      have nC : H' s3.heap.objs.size = none := I'.free
      obtain ⟨m, hn, _⟩ := I'.loc
      exact hR _ _ s' m H' I7 q hn (I3.fpOk (Nat.le_refl _) nC)
  exact codeAny_compStart_list lp (T.self X.A 0 _ _ _ st4 lp)
theorem peN {X : Cx} {elt tg iter : Expr} {gs : List Comprehension} {scope : Scope} {own : List (Str × Nat)} {pos : Pos} {ifs : List Expr} {wi : TI} {g : TG} {tt : TT} {b : BT} {vi : List Nat} (hc : X.calm = true) (hN : X.N.Nodup) (hi : PI X tg iter wi) (ok : BlkOk X.N X.env.scope scope own) (hv : ∀ i ∈ vi, i ∈ own.map (·.2))
    (hB : ∀ (s : Shared) (H : Hp) (C : Addr) (cl : List (Str × Addr)) (fp : List Addr), ∃ bod, PG (X.blk s H scope (compEnvC scope cl C X.env) fp) tg g ∧ PTs (X.blk s H scope (compEnvC scope cl C X.env) fp) ifs tt ∧ PB (X.blk s H scope (compEnvC scope cl C X.env) fp) bod b vi ∧
      LoopR (X.blk s H scope (compEnvC scope cl C X.env) fp) (.ListComp elt (⟨tg, iter, ifs, 0⟩ :: gs) scope pos) 0 tg ifs bod)
    (hs : ∀ x, foldedSetIterable iter X.env x = pure x) : PE X (.ListComp elt (⟨tg, iter, ifs, 0⟩ :: gs) scope pos) (tLcN wi g tt b (own.map (·.2))) := ⟨fun pins s σ H Q I h => by
  rw [eval_ListComp]
  refine coreN hc hN I hi ok hv hB hs h fun D C s' m H' I' q hn f => ⟨m, hn, fun h2 sb => ?_⟩
  obtain ⟨f0, f1, f2, f3, f4, f5⟩ := f
  exact ⟨.ref D, H', I'.turned (t' := s'.toks) (fun c o hb z => (sb.2 c hb).trans z) f0 f1 f3 f4 f5, rfl, q⟩⟩
/-- stored into a name of one's own -/
theorem psN {X : Cx} {i : Nat} {y : Str} {py : Pos} {elt tg iter : Expr} {gs : List Comprehension} {scope : Scope} {own : List (Str × Nat)} {pos spos : Pos} {ifs : List Expr} {wi : TI} {g : TG} {tt : TT} {b : BT} {vi : List Nat} (hc : X.calm = true) (hN : X.N.Nodup) (hy : X.N[i]? = some y) (hyl : X.env.scope.names.lookup y = some .local)
    (hsw : swapsWith (.ListComp elt (⟨tg, iter, ifs, 0⟩ :: gs) scope pos) (some (.Name y py)) spos.line X.env = pure true) (hi : PI X tg iter wi) (ok : BlkOk X.N X.env.scope scope own) (hv : ∀ i ∈ vi, i ∈ own.map (·.2))
    (hB : ∀ (s : Shared) (H : Hp) (C : Addr) (cl : List (Str × Addr)) (fp : List Addr), ∃ bod, PG (X.blk s H scope (compEnvC scope cl C X.env) fp) tg g ∧ PTs (X.blk s H scope (compEnvC scope cl C X.env) fp) ifs tt ∧ PB (X.blk s H scope (compEnvC scope cl C X.env) fp) bod b vi ∧
      LoopR (X.blk s H scope (compEnvC scope cl C X.env) fp) (.ListComp elt (⟨tg, iter, ifs, 0⟩ :: gs) scope pos) 0 tg ifs bod)
    (hs : ∀ x, foldedSetIterable iter X.env x = pure x) : PS X (.Assign [.Name y py] (.ListComp elt (⟨tg, iter, ifs, 0⟩ :: gs) scope pos) spos) (tAsg (tLcN wi g tt b (own.map (·.2))) (gName i)) := ⟨fun pins s σ H D I h => by
  rw [exec_Assign_Name_used _ _ _ _ hsw]
  refine wpAny_bind (wpAny_standAt (wpAny_bind ?_))
  have h : tLcN wi g tt b (own.map (·.2)) σ H (fun x H1 => gName i x σ H1 D.nx) := h
  refine wpAny_bind (thn (coreN (use := some (assign (.Name y py) X.env)) (Qf := fun _ s' => SP X pins D .next s') hc hN I hi ok hv hB hs h fun L C s' m H' I' q hn f => ?_) fun _ s' hq => wpAny_pure (wpAny_pure hq))
  show wpAny _ _ (assign (.Name y py) X.env (.ref L)) _ _ _
  obtain ⟨f0, f1, f2, f3, f4, f5⟩ := f
  refine wpAny_assign_Name (store_ok2 (v := V.ref L) I' hN hy (.inl hyl) rfl (fun s2 I2 ⟨d, sb, hd⟩ => ?_) (.inr hyl))
  have ne : C ≠ d := hd.elim (fun z => z ▸ f1) fun z e => f4 y d z e.symm
  exact ⟨m, hn.sameBut sb ne, fun h3 sb3 => ⟨_, H', I2.turned (t' := s2.toks) (fun c o hb z => (sb3.2 c hb).trans z) f0 f1 f3 f4 f5, q⟩⟩⟩
end DL

set_option Elab.async false
set_option linter.all false
set_option maxRecDepth 100000
set_option maxHeartbeats 2000000
namespace DL
open PySem L2

/-! ### any number of for's, as data -/
abbrev CB := Env → Option (List Dat)
def bodE (te : M Dat) : CB := fun ρ => (te ρ).map fun p => [p.1]
def walkF (vs : List Nat) (gb : Dat → Env → Option Env) (tt : M Bool) (inn : CB) (ρw : Env) : List Dat → Option (List Dat)
  | [] => some []
  | d :: ds => match gb d ρw with
    | some ρ3 => if noOwn ρ3 vs = true then (match tt ρ3 with
      | some (true, _) => match inn ρ3 with
        | some ys => (walkF vs gb tt inn ρw ds).map (ys ++ ·)
        | none => none
      | some (false, _) => walkF vs gb tt inn ρw ds
      | none => none) else none
    | none => none
def bodF (vs vs1 : List Nat) (g : M (List Dat)) (gb : Dat → Env → Option Env) (tt : M Bool) (inn : CB) : CB := fun ρ => match g ρ with
  | some (ds, _) => walkF vs gb tt inn (wipeE ρ vs1) ds
  | none => none
def lcN (vs : List Nat) (g : M (List Dat)) (gb : Dat → Env → Option Env) (tt : M Bool) (inn : CB) : M Sl := fun ρ => match g ρ with
  | some (ds, ρ1) => if noOwn ρ1 vs = true then (match walkF vs gb tt inn (wipeE ρ1 vs) ds with
      | some ys => if ys.length ≤ SZ then some (.ol none ys, ρ1) else none
      | none => none) else none
  | none => none
section
variable {K : PySem.W.Frag} {τ : List V} {vs vs1 vi sl : List Nat} {b : BT} {inn : CB} {g : M (List Dat)} {gb : Dat → Env → Option Env} {tt : M Bool} {te : M Dat}
/-- a body: what it appends -/
def BImp (K : PySem.W.Frag) (τ : List V) (vs vi : List Nat) (b : BT) (inn : CB) : Prop :=
  ∀ {B1 H1 : Hp} {fp1 : Nat → List Addr} {D : Addr} {xs : List V} {ws ys : List Dat} {B : Hp} {σ : L2.St} {H : Hp} {ρ : Env} {Nx : Hp → Prop}, CS K τ B1 H1 fp1 D xs ws B σ H ρ → (∀ i ∈ vs, fp1 i = []) → inn ρ = some ys → ws.length + ys.length ≤ SZ →
    (∀ xs' B' H', CS K τ B1 H1 fp1 D xs' (ws ++ ys) B' (L2.wipe σ vi) H' (wipeE ρ vi) → Ex B B' → Nx H') → b D σ H Nx
theorem bImp_in : BImp K τ vs [] (bIn (tDat K τ true te)) (bodE te) := fun {B1 H1 fp1 D xs ws ys B σ H ρ Nx} C nfp h hl k => by
  unfold bodE at h
  obtain ⟨⟨yv, ρ1⟩, h1, h2⟩ := Option.map_eq_some_iff.mp h
  subst h2
  refine ⟨_, B, _, C.S, yv, ρ1, h1, fun w H2 B2 fp2 z2 S2 t2 u2 r2 => ?_⟩
  obtain ⟨y1, y2, y3⟩ := u2 rfl
  subst y2 y3
  have C2 := C.step S2 t2 y1
  have hlx := C2.R.length
  refine ⟨xs, C2.dH, ?_, k _ _ _ (C2.put r2) t2.ex⟩
  rw [sizeLine_eq, hlx]
  simp at hl
  have : SZ = 16777216 := rfl
  omega
theorem walk_imp (hb : BImp K τ vs vi b inn) (hok : GbOk gb sl) (hsl : ∀ i ∈ sl, i ∈ vs1) (hv1 : ∀ i ∈ vs1, i ∈ vs) (hvi : ∀ i ∈ vi, i ∈ vs1) {B1 H1 : Hp} {fp1 : Nat → List Addr} {D : Addr} {xs0 : List V} {ws0 ys ds : List Dat} {B6 H6 : Hp} {σ : L2.St} {ρ : Env} {J : It} {Fin : Hp → Prop}
    (wk : WalkD K B6 J ds) (C0 : CS K τ B1 H1 fp1 D xs0 ws0 B6 (L2.wipe σ vs1) H6 (wipeE ρ vs1)) (nfp : ∀ i ∈ vs, fp1 i = []) (hw : walkF vs gb tt inn (wipeE ρ vs1) ds = some ys) (hlen : ws0.length + ys.length ≤ SZ)
    (kfin : ∀ xs' B' H', CS K τ B1 H1 fp1 D xs' (ws0 ++ ys) B' (L2.wipe σ vs1) H' (wipeE ρ vs1) → Ex B6 B' → Fin H') :
    ∃ W : Nat → Nat → Hp → Prop, (∃ m, W 0 m H6) ∧ ∀ j m H, W j m H → (J.stop j H ∧ Fin H) ∨ (J.go j H ∧ ∃ Ny : Hp → Prop, (∀ H', Ny H' → ∃ m', m' < m ∧ W (j + 1) m' H') ∧ ∀ x H', J.yld j H x H' → tTg K τ sl gb x (L2.wipe σ vs1) H' fun σ2 H2 => L2.wipe σ2 vs1 = L2.wipe σ vs1 ∧ tBool K τ true tt σ2 H2 fun ok H3 => if ok = true then b D σ2 H3 Ny else Ny H3) := by
  have nfp1 : ∀ i ∈ vs1, fp1 i = [] := fun i hi => nfp i (hv1 i hi)
  refine ⟨fun j m H' => m = ds.length - j ∧ j ≤ ds.length ∧ ∃ xs ws ts B7, CS K τ B1 H1 fp1 D xs ws B7 (L2.wipe σ vs1) H' (wipeE ρ vs1) ∧ ws0 ++ ys = ws ++ ts ∧ walkF vs gb tt inn (wipeE ρ vs1) (ds.drop j) = some ts ∧ Ex B6 B7,
    ⟨ds.length, by simp, Nat.zero_le _, xs0, ws0, ys, B6, C0, rfl, by simpa using hw, Ex.refl _⟩, ?_⟩
  rintro j m H7 ⟨rfl, hj, xs7, ws7, ts, B7, C7, hys7, hlp7, b67⟩
  by_cases hlt1 : j < ds.length
  · obtain ⟨go1, yl1⟩ := wk.step B7 H7 j b67 C7.S.le hlt1
    refine .inr ⟨go1, fun H' => j + 1 ≤ ds.length ∧ ∃ xs ws ts B7, CS K τ B1 H1 fp1 D xs ws B7 (L2.wipe σ vs1) H' (wipeE ρ vs1) ∧ ws0 ++ ys = ws ++ ts ∧ walkF vs gb tt inn (wipeE ρ vs1) (ds.drop (j + 1)) = some ts ∧ Ex B6 B7, fun H' z => ⟨_, by omega, rfl, z⟩, fun x8 H8 y8 => ?_⟩
    obtain ⟨B8, d8, hd8, e8, b8, n8, r8⟩ := yl1 x8 H8 y8
    have C8 := C7.grow e8 b8 n8
    rw [drop_cons hd8] at hlp7
    unfold walkF at hlp7
    split at hlp7
    case h_2 => cases hlp7
    rename_i ρ9 q7
    split at hlp7
    case isFalse => cases hlp7
    rename_i hno9
    obtain ⟨lρ9, kρ9⟩ := hok _ _ _ q7
    refine ⟨_, B8, _, C8.S, d8, r8, ρ9, q7, fun σ9 fp9 l9 e9 S9 o9 f9 => ?_⟩
    have hw9 : L2.wipe σ9 vs1 = L2.wipe σ vs1 := by
      rw [← wipe_idem (σ := σ)]
      exact wipe_eq2 l9 fun j hj => e9 j fun z => hj (hsl j z)
    have hwρ9 : wipeE ρ9 vs1 = wipeE ρ vs1 := by
      rw [← wipeE_idem (ρ := ρ)]
      exact wipeE_eq lρ9 fun j hj => kρ9 j fun z => hj (hsl j z)
    have C9 := C8.bind nfp (fun i hi => hv1 i (hsl i hi)) S9 hno9 f9
    refine ⟨hw9, ?_⟩
    split at hlp7
    · rename_i ρ10 q8
      split at hlp7
      case h_2 => cases hlp7
      rename_i zs q9
      obtain ⟨ts', q10, q11⟩ := Option.map_eq_some_iff.mp hlp7
      subst q11
      refine ⟨_, B8, _, C9.S, true, ρ10, q8, fun H10 B10 fp10 z10 S10 t10 u10 => ?_⟩
      obtain ⟨x1', x2, x3⟩ := u10 rfl
      subst x2 x3
      have C10 := C9.step S10 t10 x1'
      rw [if_pos rfl]
      refine hb C10 nfp q9 ?_ fun xs' B' H' C' eB => ?_
      · have := congrArg List.length hys7
        simp at this hlen ⊢
        omega
      · exact ⟨hlt1, _, _, ts', B', ((C'.wipe nfp1).same ((wipe_two hvi).trans hw9) ((wipeE_two hvi).trans hwρ9)), by rw [hys7]; simp, q10, b67.trans (b8.trans (t10.ex.trans eB))⟩
    · rename_i ρ10 q8
      refine ⟨_, B8, _, C9.S, false, ρ10, q8, fun H10 B10 fp10 z10 S10 t10 u10 => ?_⟩
      obtain ⟨x1', x2, x3⟩ := u10 rfl
      subst x2 x3
      have C10 := C9.step S10 t10 x1'
      rw [if_neg (by decide)]
      exact ⟨hlt1, xs7, ws7, ts, B10, (C10.wipe nfp1).same hw9 hwρ9, hys7, hlp7, b67.trans (b8.trans t10.ex)⟩
    · cases hlp7
  · have ej : j = ds.length := by omega
    subst ej
    rw [List.drop_length] at hlp7
    unfold walkF at hlp7
    cases hlp7
    rw [List.append_nil] at hys7
    subst hys7
    exact .inl ⟨wk.stop B7 H7 b67 C7.S.le, kfin _ _ _ C7 b67⟩
theorem bImp_out (hb : BImp K τ vs vi b inn) (hok : GbOk gb sl) (hsl : ∀ i ∈ sl, i ∈ vs1) (hv1 : ∀ i ∈ vs1, i ∈ vs) (hvi : ∀ i ∈ vi, i ∈ vs1) : BImp K τ vs vs1 (bOut (tIt K τ true g) (tTg K τ sl gb) (tBool K τ true tt) b vs1) (bodF vs vs1 g gb tt inn) :=
  fun {B1 H1 fp1 D xs ws ys B σ H ρ Nx} C nfp h hl k => by
    unfold bodF at h
    split at h
    case h_2 => cases h
    rename_i ds ρ6 q3
    refine ⟨_, B, _, C.S, ds, ρ6, q3, fun J1 H6 B6 fp6 z6 S6 t6 u6 wk1 => ?_⟩
    obtain ⟨y1, y2, y3⟩ := u6 rfl
    subst y2 y3
    have C6 := C.step S6 t6 y1
    exact walk_imp hb hok hsl hv1 hvi wk1 (C6.wipe fun i hi => nfp i (hv1 i hi)) nfp h hl fun xs' B' H' C' e => k xs' B' H' C' (t6.ex.trans e)
end
section
variable {X : Cx} {τ : List V} {vs vi sl : List Nat} {b : BT} {inn : CB} {g : M (List Dat)} {gb : Dat → Env → Option Env} {tt : M Bool} {te : M Dat} {pg : Bool}
theorem lcN_imp {σ : L2.St} {H : Hp} {Q : VK} (hb : BImp X.K τ vs vi b inn) (hok : GbOk gb sl) (hsl : ∀ i ∈ sl, i ∈ vs) (hvi : ∀ i ∈ vi, i ∈ vs) (h : tSl X.K τ pg (lcN vs g gb tt inn) σ H Q) :
    tLcN (tIt X.K τ pg g) (tTg X.K τ sl gb) (tBool X.K τ true tt) b vs σ H (fun v H' => HSz H' → Q v H') := by
  obtain ⟨ρ, B, fp, S, r, ρ', hf, k⟩ := h
  unfold lcN at hf
  split at hf
  case h_2 => cases hf
  rename_i ds ρ1 hg0
  split at hf
  case isFalse => cases hf
  rename_i hno
  split at hf
  case h_2 => cases hf
  rename_i ys hl0
  split at hf
  case isFalse => cases hf
  rename_i hsz
  cases hf
  refine ⟨ρ, B, fp, S, ds, _, hg0, fun J H1 B1 fp1 z1 S1 t1 u1 wk D hD => ?_⟩
  have nfp : ∀ i ∈ vs, fp1 i = [] := fun i hi => noOwn_fp S1 hno hi
  refine walk_imp hb hok hsl (fun _ h => h) hvi wk (CS.start (S1.wipe nfp) hD) nfp hl0 (by simpa using hsz) fun xs B2 H2 C _ hz2 => ?_
  rw [List.nil_append] at C
  have SB : SR X.K τ B2 σ H2 ρ' fp1 := S1.grow C.E C.T.ex fun a o h => by
    rcases C.T.nw a o h with z | z | z
    · exact .inl z
    · exact .inr ⟨z, C.S.le a o h⟩
    · rw [C.S.nob z] at h; cases h
  refine k (.ref D) H2 B2 fp1 [D] hz2 SB (t1.trans C.T) (fun hp => ?_) (.ol C.dH C.R fun k z => nomatch z) ⟨fun a ha => by simp at ha; subst ha; exact C.dB, fun a ha => by simp at ha; subst ha; exact C.nO, fun a ha => ?_⟩
  · obtain ⟨y1, y2, y3⟩ := u1 hp
    exact ⟨y1.trans C.E, y2, y3⟩
  · simp at ha
    subst ha
    cases h : H a with
    | none => exact .inr rfl
    | some o =>
      by_cases w : own fp a
      · exact .inl w
      · have := C.dN
        rw [t1.fr a o h w] at this; cases this
end
theorem tLcN_mono {K : PySem.W.Frag} {τ : List V} {pg : Bool} {g : M (List Dat)} {gg : TG} {tt : TT} {b : BT} {vs : List Nat} {σ : L2.St} {H : Hp} {Q Q' : VK} (hQ : ∀ v H, Q v H → Q' v H) (h : tLcN (tIt K τ pg g) gg tt b vs σ H Q) : tLcN (tIt K τ pg g) gg tt b vs σ H Q' := by
  obtain ⟨ρ, B, fp, S, ds, ρ', h1, h2⟩ := h
  refine ⟨ρ, B, fp, S, ds, ρ', h1, fun J H' B' fp' z S t u w D hD => ?_⟩
  obtain ⟨W, w0, turn⟩ := h2 J H' B' fp' z S t u w D hD
  exact ⟨W, w0, fun j m H w => (turn j m H w).imp (fun ⟨a, c⟩ => ⟨a, hQ _ _ c⟩) fun z => z⟩
section
variable {X : Cx} {τ : List V} {pg : Bool} {g g1 g2 : M (List Dat)} {gb gb1 gb2 : Dat → Env → Option Env} {tt tt1 tt2 : M Bool} {te : M Dat} {sl sl1 sl2 vs1 vs2 : List Nat}
variable {elt tg iter tg1 iter1 tg2 iter2 : Expr} {ifs ifs1 ifs2 : List Expr} {scope : Scope} {own : List (Str × Nat)} {pos spos : Pos}
/-- three for's -/
theorem peo_lc3 (hc : X.calm = true) (hN : X.N.Nodup) (hi : PID X τ pg tg iter g) (ok : BlkOk X.N X.env.scope scope own) (hv1 : ∀ i ∈ vs1, i ∈ own.map (·.2)) (hv2 : ∀ i ∈ vs2, i ∈ vs1)
    (hg : BlkD X scope fun Y => PGD Y τ sl tg gb) (ht : BlkD X scope fun Y => PTsD Y τ true ifs tt) (hi1 : BlkD X scope fun Y => PID Y τ true tg1 iter1 g1) (hg1 : BlkD X scope fun Y => PGD Y τ sl1 tg1 gb1) (ht1 : BlkD X scope fun Y => PTsD Y τ true ifs1 tt1)
    (hi2 : BlkD X scope fun Y => PID Y τ true tg2 iter2 g2) (hg2 : BlkD X scope fun Y => PGD Y τ sl2 tg2 gb2) (ht2 : BlkD X scope fun Y => PTsD Y τ true ifs2 tt2)
    (he : BlkD X scope fun Y => PED Y τ true elt te) (hok : GbOk gb sl) (hsl : ∀ i ∈ sl, i ∈ own.map (·.2)) (hok1 : GbOk gb1 sl1) (hsl1 : ∀ i ∈ sl1, i ∈ vs1) (hok2 : GbOk gb2 sl2) (hsl2 : ∀ i ∈ sl2, i ∈ vs2)
    (hs : ∀ x, foldedSetIterable iter X.env x = pure x := by intro _; rfl) (hs1 : ∀ env x, foldedSetIterable iter1 env x = pure x := by intro _ _; rfl) (hs2 : ∀ env x, foldedSetIterable iter2 env x = pure x := by intro _ _; rfl) :
    PEO X τ pg (.ListComp elt [⟨tg, iter, ifs, 0⟩, ⟨tg1, iter1, ifs1, 0⟩, ⟨tg2, iter2, ifs2, 0⟩] scope pos) (lcN (own.map (·.2)) g gb tt (bodF (own.map (·.2)) vs1 g1 gb1 tt1 (bodF (own.map (·.2)) vs2 g2 gb2 tt2 (bodE te)))) := by
  have b2 : BImp X.K τ (own.map (·.2)) vs2 _ _ := bImp_out (g := g2) (tt := tt2) (bImp_in (te := te)) hok2 hsl2 (fun i hi => hv1 i (hv2 i hi)) (fun _ h => nomatch h)
  have b1 : BImp X.K τ (own.map (·.2)) vs1 _ _ := bImp_out (g := g1) (tt := tt1) b2 hok1 hsl1 hv1 hv2
  refine PE.imp (peN (vi := vs1) hc hN hi ok hv1 (fun s H C cl fp => ?_) hs) fun σ H Q hz hl h => lcN_imp b1 hok hsl hv1 h
  refine ⟨_, hg s H C cl fp, ht s H C cl fp, PB.out (elt := elt) (gs := [⟨tg, iter, ifs, 0⟩, ⟨tg1, iter1, ifs1, 0⟩, ⟨tg2, iter2, ifs2, 0⟩]) (scope := scope) (pos := pos) (k := 0) rfl hc rfl (hi1 s H C cl fp) (hg1 s H C cl fp) (ht1 s H C cl fp) (PB.out (elt := elt) (gs := [⟨tg, iter, ifs, 0⟩, ⟨tg1, iter1, ifs1, 0⟩, ⟨tg2, iter2, ifs2, 0⟩]) (scope := scope) (pos := pos) (k := 1) rfl hc rfl (hi2 s H C cl fp) (hg2 s H C cl fp) (ht2 s H C cl fp) (PB.inn (he s H C cl fp) rfl) (fun _ h => nomatch h) ?_) hv2 ?_, ?_⟩
  · exact loopR_in rfl fun _ _ => rfl
  · exact loopR_out rfl (hs2 _) fun _ _ => rfl
  · exact loopR_out rfl (hs1 _) fun _ _ => rfl
theorem psd_setLc3 {i : Nat} {y : Str} {py : Pos} (hc : X.calm = true) (hN : X.N.Nodup) (hy : X.N[i]? = some y) (hyl : X.env.scope.names.lookup y = some .local) (hsw : swapsWith (.ListComp elt [⟨tg, iter, ifs, 0⟩, ⟨tg1, iter1, ifs1, 0⟩, ⟨tg2, iter2, ifs2, 0⟩] scope pos) (some (.Name y py)) spos.line X.env = pure true) (hi : PID X τ pg tg iter g) (ok : BlkOk X.N X.env.scope scope own) (hv1 : ∀ i ∈ vs1, i ∈ own.map (·.2)) (hv2 : ∀ i ∈ vs2, i ∈ vs1)
    (hg : BlkD X scope fun Y => PGD Y τ sl tg gb) (ht : BlkD X scope fun Y => PTsD Y τ true ifs tt) (hi1 : BlkD X scope fun Y => PID Y τ true tg1 iter1 g1) (hg1 : BlkD X scope fun Y => PGD Y τ sl1 tg1 gb1) (ht1 : BlkD X scope fun Y => PTsD Y τ true ifs1 tt1)
    (hi2 : BlkD X scope fun Y => PID Y τ true tg2 iter2 g2) (hg2 : BlkD X scope fun Y => PGD Y τ sl2 tg2 gb2) (ht2 : BlkD X scope fun Y => PTsD Y τ true ifs2 tt2)
    (he : BlkD X scope fun Y => PED Y τ true elt te) (hok : GbOk gb sl) (hsl : ∀ i ∈ sl, i ∈ own.map (·.2)) (hok1 : GbOk gb1 sl1) (hsl1 : ∀ i ∈ sl1, i ∈ vs1) (hok2 : GbOk gb2 sl2) (hsl2 : ∀ i ∈ sl2, i ∈ vs2)
    (hs : ∀ x, foldedSetIterable iter X.env x = pure x := by intro _; rfl) (hs1 : ∀ env x, foldedSetIterable iter1 env x = pure x := by intro _ _; rfl) (hs2 : ∀ env x, foldedSetIterable iter2 env x = pure x := by intro _ _; rfl) :
    PSD X τ (.Assign [.Name y py] (.ListComp elt [⟨tg, iter, ifs, 0⟩, ⟨tg1, iter1, ifs1, 0⟩, ⟨tg2, iter2, ifs2, 0⟩] scope pos) spos) (asg i (lcN (own.map (·.2)) g gb tt (bodF (own.map (·.2)) vs1 g1 gb1 tt1 (bodF (own.map (·.2)) vs2 g2 gb2 tt2 (bodE te))))) := by
  have b2 : BImp X.K τ (own.map (·.2)) vs2 _ _ := bImp_out (g := g2) (tt := tt2) (bImp_in (te := te)) hok2 hsl2 (fun i hi => hv1 i (hv2 i hi)) (fun _ h => nomatch h)
  have b1 : BImp X.K τ (own.map (·.2)) vs1 _ _ := bImp_out (g := g1) (tt := tt1) b2 hok1 hsl1 hv1 hv2
  refine PS.imp (psN (vi := vs1) (wi := tIt X.K τ pg g) (g := tTg X.K τ sl gb) (tt := tBool X.K τ true tt) (b := bOut (tIt X.K τ true g1) (tTg X.K τ sl1 gb1) (tBool X.K τ true tt1) (bOut (tIt X.K τ true g2) (tTg X.K τ sl2 gb2) (tBool X.K τ true tt2) (bIn (tDat X.K τ true te)) vs2) vs1) hc hN hy hyl hsw hi ok hv1 (fun s H C cl fp => ?_) hs) fun D σ H hz hl ⟨ρ, B, fp, S, fl, ρ', hf, k⟩ => ?_
  · refine ⟨_, hg s H C cl fp, ht s H C cl fp, PB.out (elt := elt) (gs := [⟨tg, iter, ifs, 0⟩, ⟨tg1, iter1, ifs1, 0⟩, ⟨tg2, iter2, ifs2, 0⟩]) (scope := scope) (pos := pos) (k := 0) rfl hc rfl (hi1 s H C cl fp) (hg1 s H C cl fp) (ht1 s H C cl fp) (PB.out (elt := elt) (gs := [⟨tg, iter, ifs, 0⟩, ⟨tg1, iter1, ifs1, 0⟩, ⟨tg2, iter2, ifs2, 0⟩]) (scope := scope) (pos := pos) (k := 1) rfl hc rfl (hi2 s H C cl fp) (hg2 s H C cl fp) (ht2 s H C cl fp) (PB.inn (he s H C cl fp) rfl) (fun _ h => nomatch h) ?_) hv2 ?_, ?_⟩
    · exact loopR_in rfl fun _ _ => rfl
    · exact loopR_out rfl (hs2 _) fun _ _ => rfl
    · exact loopR_out rfl (hs1 _) fun _ _ => rfl
  · unfold asg at hf
    split at hf
    · rename_i r ρ1 q
      cases hf
      have hiN : i < σ.length := by rw [hl]; exact (List.getElem?_eq_some_iff.mp hy).1
      exact tLcN_mono (fun v H' h hz' hl' => h hz' hz' hl') (lcN_imp b1 hok hsl hv1 (Q := fun v H' => HSz H' → (σ.set i (some v)).length = X.N.length → D.nx (σ.set i (some v)) H') ⟨ρ, B, fp, S, r, ρ1, q, fun v H' B' fp' A z1 S1 t1 u1 r1 z hz' hl' => k _ H' B' _ hz' (by simp) (S1.store hiN r1 z) (t1.store z)⟩)
    · cases hf
end
end DL

set_option Elab.async false
set_option linter.all false
set_option maxRecDepth 100000
set_option maxHeartbeats 2000000
namespace DL
open PySem L2

/-! ### d.get(k, x) of a dict of one's own -/
def oget2M (i : Nat) (fk fx : M Dat) : M Dat := fun ρ => match ρ[i]? with
  | some (some (.od _ false kvs)) => match fk ρ with
    | some (k, _) => match unKey k with
      | some kk => match fx ρ with
        | some (x, _) => some ((lkK kvs kk).getD x, ρ)
        | none => none
      | none => none
    | none => none
  | _ => none
section
variable {X : Cx} {τ : List V} {p pa pb pc : Bool} {e a b c o tg : Expr} {es : List Expr} {pos q p2 apos cpos : Pos} {f fa fb fc : M Dat}
theorem ped_oget2 (i : Nat) {x : Str} {xp : Pos} (hu : X.A.units + 65 < cLine) (hx : PE X (.Name x xp) (tVar i)) (hb : PED X τ true b fb) (hc : PED X τ true c fc) (m : M2 X (.Name x xp) "get" apos b c cpos) : PED X τ true (.Call (.Attribute (.Name x xp) "get" apos) [b, c] [] cpos) (oget2M i fb fc) :=
  PE.imp (pe_dget2 (by omega) hx hb hc m) fun σ H Q hz _ ⟨ρ, B, fp, S, d, ρ', hf, k⟩ => by
    unfold oget2M at hf
    split at hf
    case h_2 => cases hf
    rename_i t kvs q1
    split at hf
    case h_2 => cases hf
    rename_i y ρ2 q2
    split at hf
    case h_2 => cases hf
    rename_i kk q3
    split at hf
    case h_2 => cases hf
    rename_i z ρ3 q4
    cases hf
    obtain ⟨ad, ks, g1, g2, g3, g4⟩ := S.od q1
    refine ⟨_, g1, ad, rfl, .inl ⟨ks, .inl g3⟩, ρ, B, fp, S, y, ρ2, q2, fun v2 H2 B2 fp2 z2 S2 t2 u2 r2 => ?_⟩
    obtain ⟨x1, x2, x3⟩ := u2 rfl
    subst x2 x3
    refine ⟨_, B2, _, S2, z, ρ3, q4, fun v3 H3 B3 fp3 z3 S3 t3 u3 r3 => ?_⟩
    obtain ⟨y1, y2, y3⟩ := u3 rfl
    subst y2 y3
    have ek := unKey_inv q3
    subst ek
    rw [rep_key r2]
    rcases RepKV.val (k := kk) g4 with ⟨zz, zn⟩ | ⟨w, d0, z1, z2', z3'⟩
    · refine ⟨none, .inl ⟨ks, kk, .inl (y1 _ _ (x1 _ _ g3)), rfl, zz.symm⟩, fun hz' => ?_⟩
      rw [zn] at k
      exact k v3 H3 B3 _ hz' S3 (t2.trans t3) (fun _ => ⟨x1.trans y1, rfl, rfl⟩) r3
    · refine ⟨some w, .inl ⟨ks, kk, .inl (y1 _ _ (x1 _ _ g3)), rfl, z1.symm⟩, fun hz' => ?_⟩
      rw [z2'] at k
      exact k w H3 B3 _ hz' S3 (t2.trans t3) (fun _ => ⟨x1.trans y1, rfl, rfl⟩) ((z3'.mono t2.ex).mono t3.ex)
end
end DL

set_option Elab.async false
set_option linter.all false
set_option maxRecDepth 100000
set_option maxHeartbeats 2000000
namespace DL
open PySem PySem.Spec PyProof.Rows L2

/-! ### the head's facts -/
/-- a property's object, its getter -/
def pAd (K : PySem.W.Frag) (c m : Str) : Addr := He.ma K (He.ga K c) m
def gAd (K : PySem.W.Frag) (c m : Str) : Addr := match PySem.W.recIn K (pAd K c m) "property" with
  | some (.ref g :: _) => g
  | _ => 0
inductive Fb where
  | fa (f : He.Fa)
  | tup (x : Str) (vs : List He.Dv)
  | prop (c m : Str)
  | tpl (x : Str)
def Fb.ok (K : PySem.W.Frag) : Fb → Bool
  | .fa f => f.ok K
  | .tup x vs => He.tupB K x vs
  | .tpl x => tplB K x
  | .prop c m => He.eqO (PySem.W.findIn K (.ref (He.ga K c)) m) (some (some (.ref (pAd K c m)))) && (He.eqO (PySem.W.specialIn K (.ref (pAd K c m)) "__get__") (some (some (.builtin "property.__get__"))) &&
    (decide (PySem.W.takesIn K (.ref (pAd K c m)) = some true) && (match PySem.W.recIn K (pAd K c m) "property" with
      | some (.ref _ :: _) => true
      | _ => false)))
theorem prop_ok {K : PySem.W.Frag} {c m : Str} (h : (Fb.prop c m).ok K = true) : PropOf K (He.ga K c) m (pAd K c m) (gAd K c m) := by
  obtain ⟨h1, h2⟩ := He.ba (show (He.eqO (PySem.W.findIn K (.ref (He.ga K c)) m) (some (some (.ref (pAd K c m)))) && (He.eqO (PySem.W.specialIn K (.ref (pAd K c m)) "__get__") (some (some (.builtin "property.__get__"))) &&
    (decide (PySem.W.takesIn K (.ref (pAd K c m)) = some true) && (match PySem.W.recIn K (pAd K c m) "property" with
      | some (.ref _ :: _) => true
      | _ => false)))) = true from h)
  obtain ⟨h3, h4⟩ := He.ba h2
  obtain ⟨h5, h6⟩ := He.ba h4
  refine ⟨He.eqO_ok h1, He.eqO_ok h3, of_decide_eq_true h5, ?_⟩
  unfold gAd
  split at h6
  · rename_i g rest q
    exact ⟨rest, q⟩
  · cases h6
/-- where a def stands -/
inductive Pa where
  | fn (x : Str)
  | me (c m : Str)
  | pr (c m : Str)
def Pa.ad (K : PySem.W.Frag) : Pa → Addr
  | .fn x => He.ga K x
  | .me c m => He.ma K (He.ga K c) m
  | .pr c m => gAd K c m
structure De where
  at_ : Pa
  name : Str
  qual : Str
  params : Arguments
  body : List Stmt
  scope : Scope
def fnA (K : PySem.W.Frag) (a : Addr) : He.FnW := match K.lookup a with
  | some ⟨_, _, .func fd, _⟩ => some (fd.name, fd.qualname, fd.params, fd.body, fd.scope, fd.globals, fd.closure, fd.builtins)
  | _ => none
def De.val (d : De) : He.FnW := some (d.name, d.qual, d.params, .stmts d.body, d.scope, mainGlobals, [], builtinsNs)
def De.ok (K : PySem.W.Frag) (d : De) : Bool := PySem.W.keepIn K (.ref (d.at_.ad K)) && (match K.lookup (d.at_.ad K) with
  | some ⟨_, _, .func fd, _⟩ => PySem.W.codeIn K fd.code d.qual && (He.dflB K fd.defaults [] && He.kwdB K fd.kwdefaults [])
  | _ => false)
theorem De.funD {K : PySem.W.Frag} {d : De} (e : fnA K (d.at_.ad K) = d.val) (c : d.ok K = true) : ∃ fd, FunD K d.name d.qual d.params d.body d.scope [] [] (d.at_.ad K) fd := by
  obtain ⟨kp, c2⟩ := He.ba c
  unfold fnA at e
  cases q : K.lookup (d.at_.ad K) with
  | none =>
    rw [q] at c2
    cases c2
  | some o =>
    obtain ⟨oc, od, dt, osl⟩ := o
    rw [q] at c2 e
    cases dt with
    | func fd =>
      obtain ⟨n1, n2, n3, n4, n5, n6, n7, n8, n9, n10, n11, n12, n13, n14, n15⟩ := fd
      have e2 : (some (n1, n2, n3, n4, n5, n6, n7, n15) : He.FnW) = some (d.name, d.qual, d.params, .stmts d.body, d.scope, mainGlobals, [], builtinsNs) := e
      simp only [Option.some.injEq, Prod.mk.injEq] at e2
      obtain ⟨h1, h2, h3, h4, h5, h6, h7, h8⟩ := e2
      subst h1 h2 h3 h4 h5 h6 h7 h8
      have c3 : (PySem.W.codeIn K n13 d.qual && (He.dflB K n8 [] && He.kwdB K n9 [])) = true := c2
      obtain ⟨k1, k2⟩ := He.ba c3
      obtain ⟨k3, k4⟩ := He.ba k2
      exact ⟨_, ⟨oc, od, n8, n9, n10, n11, n12, n13, n14, osl, rfl, q, k1, He.dflB_ok k3, He.kwdB_ok k4⟩, kp⟩
    | _ => cases c2
def obsE (fa : List Fb) (fn : List De) (K : PySem.W.Frag) : He.AlD := ((fa.all fun f => f.ok K) && fn.all fun d => d.ok K, fn.map fun d => fnA K (d.at_.ad K))
def valE (fn : List De) : He.AlD := (true, fn.map De.val)
def SaysE (fa : List Fb) (fn : List De) (K : PySem.W.Frag) : Prop := obsE fa fn K = valE fn
def obsEG (n : Nat) (fa : List Fb) (fn : List De) (g : Addr → Option Obj) : He.AlD := obsE fa fn (He.frG g (He.asD g n))
def hookE (n : Nat) (fa : List Fb) (fn : List De) : PySem.W.Hook where
  α := He.AlD
  obs := fun s => obsEG n fa fn s.heap.get?
  val := fun _ => valE fn
  says := fun _ h => ∃ K : PySem.W.Frag, K.In h ∧ SaysE fa fn K
  of := fun _ _ e => ⟨_, He.frG_in, e⟩
  keeps := fun _ _ _ ⟨K, hK, c⟩ k => ⟨K, PySem.W.Frag.In.keeps hK k, c⟩
theorem obsEG_eq {n : Nat} {fa : List Fb} {fn : List De} {g : Addr → Option Obj} {s : Shared} (h : ∀ a, g a = s.heap.get? a) : obsEG n fa fn g = (hookE n fa fn).obs s := by
  have e : g = s.heap.get? := funext h
  rw [e] <;> rfl
section
variable {fa : List Fb} {fn : List De} {K : PySem.W.Frag}
theorem SaysE.fact (c : SaysE fa fn K) (i : Nat) {f : Fb} (h : fa[i]? = some f := by rfl) : f.ok K = true := by
  have c1 := (He.ba (show ((fa.all fun f => f.ok K) && fn.all fun d => d.ok K) = true from congrArg (fun z : He.AlD => z.1) c)).1
  exact List.all_eq_true.mp c1 f (List.mem_of_getElem? h)
theorem SaysE.def_ (c : SaysE fa fn K) (i : Nat) {d : De} (h : fn[i]? = some d := by rfl) : ∃ fd, FunD K d.name d.qual d.params d.body d.scope [] [] (d.at_.ad K) fd := by
  have c2 := (He.ba (show ((fa.all fun f => f.ok K) && fn.all fun d => d.ok K) = true from congrArg (fun z : He.AlD => z.1) c)).2
  have e : fn.map (fun d => fnA K (d.at_.ad K)) = fn.map De.val := congrArg (fun z : He.AlD => z.2) c
  have e2 : (fn.map fun d => fnA K (d.at_.ad K))[i]? = (fn.map De.val)[i]? := by rw [e]
  rw [List.getElem?_map, List.getElem?_map, h] at e2
  exact De.funD (Option.some.inj e2) (List.all_eq_true.mp c2 d (List.mem_of_getElem? h))
end
/-- the law's promise from its def's -/
theorem law_sp {K : PySem.W.Frag} {f : Fd} {H : Hp} {a : Addr} {ns : List Int} (hS : SqL K H a (ns.map V.int)) (h : ∃ outs, f [.sh (.lsf (ns.map .int))] = some (.sh (.bl true), outs)) : spD K 1 f [.ref a] H (fun v _ => v = .bl true) fun _ _ _ => False := by
  obtain ⟨outs, h⟩ := h
  have ri : ∀ ns : List Int, RepAll K H (ns.map V.int) (ns.map Dat.int) := fun ns => by
    induction ns with
    | nil => exact .nil
    | cons n ns ih => exact .cons (.int n) ih
  refine ⟨rfl, [.sh (.lsf (ns.map .int))], H, fun _ => [], ⟨fun i s q => ?_, fun _ _ => rfl, fun _ _ _ a ha => by simp at ha, fun _ a ha => by simp at ha, Ex.refl _⟩, _, outs, h, fun v H' B' fp' A _ _ rv _ => rv.sh_inv.2.bl_inv⟩
  cases i with
  | zero => cases q; exact ⟨_, rfl, .sh (.lsf hS (ri ns))⟩
  | succ i => simp at q
end DL

set_option Elab.async false
set_option linter.all false
set_option maxRecDepth 100000
set_option maxHeartbeats 0
noncomputable section
namespace DL
open PySem L2
def b_law_random : Fm :=
  (sq (asg 2 (shM (vr 1)))
  (sq (forD (liftF itA (vr 0)) (gnm 3)
  (asg 2 (shM (bin modD (bin addD (bin mulD (vr 2) (cst (.int 31))) (liftA absD (consA (vr 3) nilA))) (cst (.int 2147483647))))))
  (rtn (catM (frzM (lstM (consA (vr 2) (consA (cst (.int 0)) nilA)))) (frzM (lcD [3] (liftF itA (vr 0)) (gnm 3) (tst (bin geD (vr 3) (bin powD (cst (.int 10)) (cst (.int 18))))) (vr 3)))))))
def f_law_random : Fd := fnD 2 4 b_law_random
def b_law_below : Fm :=
  (sq (iff_ (viewB 0 (andB (tst (bin eqD (bin ixD (vr 0) (cst (.int 1))) (cst (.int 0)))) (tst (bin gtD (liftA lenD (consA (vr 0) nilA)) (cst (.int 2))))))
  (putAt (.nm 0) (mutM (.nm 0) popG (consA (cst (.int 2)) nilA)) (cst (.int 1)))
  nop)
  (sq (iff_ (viewB 0 (tst (bin gtD (bin ixD (vr 0) (cst (.int 1))) (cst (.int 0)))))
  (sq (asg 2 (shM (bin modD (viewM 0 (bin ixD (vr 0) (cst (.int 1)))) (vr 1))))
  (sq (putAt (.nm 0) (bin fdvD (viewM 0 (bin ixD (vr 0) (cst (.int 1)))) (vr 1)) (cst (.int 1)))
  (rtn (shM (vr 2)))))
  nop)
  (sq (putAt (.nm 0) (bin modD (bin addD (bin mulD (viewM 0 (bin ixD (vr 0) (cst (.int 0)))) (cst (.int 48271))) (cst (.int 11))) (cst (.int 2147483647))) (cst (.int 0)))
  (rtn (shM (bin modD (bin fdvD (viewM 0 (bin ixD (vr 0) (cst (.int 0)))) (cst (.int 64))) (vr 1)))))))
def f_law_below : Fd := fnD 2 3 b_law_below
def b_law_shuffled : Fm :=
  (sq (asg 2 (liftA listS (consA (vr 1) nilA)))
  (sq (asg 3 (lstM nilA))
  (sq (whileD (viewB 2 (tst (bin neD (vr 2) (frzM (lstM nilA)))))
  (dropS (shM (mutM (.nm 3) appG (consA (mutM (.nm 2) popG (consA (frzM (callO f_law_below (consA (slA 0) (consA (bnd (viewM 2 (liftA lenD (consA (vr 2) nilA))) fun d => ret (.sh d)) nilA)))) nilA)) nilA)))) 1000000)
  (rtn (vrO 3)))))
def f_law_shuffled : Fd := fnD 2 4 b_law_shuffled
def b_law_ordered : Fm :=
  (sq (asg 1 (shM (frzM (lstM nilA))))
  (sq (forD (liftA itR1 (consA (bin ixD (vr 0) (cst (.int 0))) nilA)) (gnm 2)
  (asg 1 (shM (bin addD (vr 1) (frzM (lcD [3] (liftF itA (bin ixD (vr 0) (cst (.int 2)))) (gnm 3) (tst (bin eqD (bin ixD (vr 3) (cst (.int 3))) (vr 2))) (vr 3)))))))
  (rtn (shM (tupM (consA (bin ixD (vr 0) (cst (.int 0))) (consA (bin ixD (vr 0) (cst (.int 1))) (consA (vr 1) nilA))))))))
def f_law_ordered : Fd := fnD 1 4 b_law_ordered
def b_law_plan : Fm :=
  (sq (asg 3 (shM (frzM (callO f_law_shuffled (consA (slA 0) (consA (bnd (frzM (lstM (consA (cst (.str "a")) (consA (cst (.str "bo")) (consA (cst (.str "carl")) (consA (cst (.str "dora")) (consA (cst (.str "ella")) (consA (cst (.str "f")) (consA (cst (.str "gustav")) (consA (cst (.str "hannahhh")) nilA)))))))))) fun d => ret (.sh d)) nilA))))))
  (sq (asg 3 (shM (slM (vr 3) (ret none) (liftF intO (bin addD (cst (.int 2)) (frzM (callO f_law_below (consA (slA 0) (consA (bnd (bin subD (vr 1) (cst (.int 1))) fun d => ret (.sh d)) nilA)))))))))
  (sq (par2 4 5 (consA (shM (bin addD (cst (.int 1)) (frzM (callO f_law_below (consA (slA 0) (consA (bnd (vr 2) fun d => ret (.sh d)) nilA)))))) (consA (shM (frzM (lstM nilA))) nilA)))
  (sq (forD (liftA itR1 (consA (bin subD (bin ixD (frzM (lstM (consA (bin mulD (cst (.int 2)) (liftA lenD (consA (vr 3) nilA))) (consA (cst (.int 20)) nilA)))) (liftA toInt (consA (bin eqD (frzM (callO f_law_below (consA (slA 0) (consA (bnd (cst (.int 5)) fun d => ret (.sh d)) nilA)))) (cst (.int 0))) nilA))) (frzM (callO f_law_below (consA (slA 0) (consA (bnd (cst (.int 3)) fun d => ret (.sh d)) nilA))))) nilA)) (gnm 6)
  (sq (asg 7 (shM (frzM (callO f_law_below (consA (slA 0) (consA (bnd (liftA lenD (consA (vr 3) nilA)) fun d => ret (.sh d)) nilA))))))
  (sq (asg 8 (shM (bin modD (bin addD (bin addD (vr 7) (cst (.int 1))) (frzM (callO f_law_below (consA (slA 0) (consA (bnd (bin subD (liftA lenD (consA (vr 3) nilA)) (cst (.int 1))) fun d => ret (.sh d)) nilA))))) (liftA lenD (consA (vr 3) nilA)))))
  (sq (asg 9 (shM (tupM (consA (bin ixD (frzM (lstM (consA (cst (.str "meet")) (consA (cst (.str "tell")) nilA)))) (frzM (callO f_law_below (consA (slA 0) (consA (bnd (cst (.int 2)) fun d => ret (.sh d)) nilA))))) (consA (vr 7) (consA (vr 8) (consA (frzM (callO f_law_below (consA (slA 0) (consA (bnd (vr 4) fun d => ret (.sh d)) nilA)))) nilA)))))))
  (asg 5 (shM (bin addD (vr 5) (bin mulD (frzM (lstM (consA (vr 9) nilA))) (liftA toInt (consA (bin ninD (vr 9) (vr 5)) nilA))))))))))
  (rtn (callP f_law_ordered (consA (tupM (consA (vr 4) (consA (liftA tupD (consA (vr 3) nilA)) (consA (vr 5) nilA)))) nilA)))))))
def f_law_plan : Fd := fnD 3 10 b_law_plan
def c_law_told_0 : M Sl :=
  lcD [4] (liftF itE (bin ixE (vr 0) (vr 2))) (gnm 4) yesM (tupM (consA (vr 4) (consA (bin ixE (bin ixE (vr 0) (vr 2)) (vr 4)) nilA)))
def w_law_told_1 : Fm :=
  (putDS 3 (vr 4) (liftA maxE (consA (frzM (lstM (consA (bin ixE (bin ixE (vr 0) (vr 1)) (vr 4)) (consA (oget2M 3 (vr 4) (bin subD (cst (.int 0)) (cst (.int 1)))) nilA)))) nilA)))
def l_law_told_2 : Fm :=
  forD (liftF itE (bin ixE (vr 0) (vr 1))) (gnm 4)
  w_law_told_1
def t_law_told_3 : Fm :=
  (rtn (shM (lokM (vrO 3))))
def b_law_told : Fm :=
  (sq (asg 3 (liftA dictS (consA (frzM c_law_told_0) nilA)))
  (sq l_law_told_2
  t_law_told_3))
def f_law_told : Fd := fnD 3 5 b_law_told
def c_law_held_0 : M Sl :=
  lcD [8] (liftA itR1 (consA (liftA lenD (consA (vr 0) nilA)) nilA)) (gnm 8) yesM (ifM (tst (bin eqD (vr 8) (vr 3))) (vr 6) (ifM (tst (bin eqD (vr 8) (vr 4))) (vr 7) (bin ixE (vr 0) (vr 8))))
def b_law_held : Fm :=
  (sq (asgT (gtp (gcns (gnm 2) (gcns (gnm 3) (gcns (gnm 4) (gcns (gnm 5) gnil))))) (vr 1))
  (sq (asg 6 (shM (ifM (tst (bin eqD (vr 2) (cst (.str "meet")))) (frzM (callP f_law_told (consA (vr 0) (consA (vr 4) (consA (vr 3) nilA))))) (bin ixE (vr 0) (vr 3)))))
  (sq (asg 7 (shM (frzM (callP f_law_told (consA (vr 0) (consA (vr 3) (consA (vr 4) nilA)))))))
  (rtn c_law_held_0))))
def f_law_held : Fd := fnD 2 9 b_law_held
def c_law_passed_0 : M Sl :=
  lcD [3] (liftA itR1 (consA (liftA lenD (consA (vr 1) nilA)) nilA)) (gnm 3) yesM (frzM (callP f_law_told (consA (frzM (lstM (consA (bin ixE (vr 1) (vr 3)) (consA (lokM (dspM1 (vr 3) (vr 2))) nilA)))) (consA (cst (.int 1)) (consA (cst (.int 0)) nilA)))))
def w_law_passed_1 : Fm :=
  (iff_ (tst (bin eqD (bin ixE (vr 4) (cst (.int 3))) (bin modD (vr 2) (bin ixE (vr 0) (cst (.int 0))))))
  (asg 1 (shM (frzM (callP f_law_held (consA (vr 1) (consA (vr 4) nilA))))))
  nop)
def l_law_passed_2 : Fm :=
  forD (liftF itE (bin ixE (vr 0) (cst (.int 2)))) (gnm 4)
  w_law_passed_1
def t_law_passed_3 : Fm :=
  (rtn (shM (vr 1)))
def b_law_passed : Fm :=
  (sq (asg 1 (shM (frzM c_law_passed_0)))
  (sq l_law_passed_2
  t_law_passed_3))
def f_law_passed : Fd := fnD 3 5 b_law_passed
def c_law_days_0 : M Sl :=
  lcD [4] (liftF itE (bin ixE (vr 0) (cst (.int 1)))) (gnm 4) yesM (lokM dspM0)
def c_law_days_1 : M Sl :=
  lcD [6] (liftA itR1 (consA (liftA lenD (consA (vr 2) nilA)) nilA)) (gnm 6) yesM (ifM (tst (bin inE (vr 6) (vr 7))) (bin subD (vr 5) (bin ixE (vr 7) (vr 6))) (cst .non))
def c_law_days_2 : M Sl :=
  lcD [7] (liftF itE (vr 2)) (gnm 7) yesM (frzM c_law_days_1)
def w_law_days_3 : Fm :=
  (sq (asg 2 (shM (frzM (callP f_law_passed (consA (vr 0) (consA (vr 2) (consA (vr 5) nilA)))))))
  (dropS (shM (mutM (.nm 3) appG (consA (frzM c_law_days_2) nilA)))))
def l_law_days_4 : Fm :=
  forD (liftA itR1 (consA (vr 1) nilA)) (gnm 5)
  w_law_days_3
def t_law_days_5 : Fm :=
  (rtn (vrO 3))
def b_law_days : Fm :=
  (sq (parT [2, 3] (consA (shM (frzM c_law_days_0)) (consA (lstM nilA) nilA)))
  (sq l_law_days_4
  t_law_days_5))
def f_law_days : Fd := fnD 2 8 b_law_days
def b_law_enough : Fm :=
  (rtn (shM (bin mulE (bin ixE (vr 0) (cst (.int 0))) (bin addD (liftA lenD (consA (bin ixE (vr 0) (cst (.int 1))) nilA)) (cst (.int 1))))))
def f_law_enough : Fd := fnD 1 1 b_law_enough
def b_law_all : Fm :=
  (rtn (callP f_law_days (consA (vr 0) (consA (bin addD (frzM (callP f_law_enough (consA (vr 0) nilA))) (bin ixE (vr 0) (cst (.int 0)))) nilA))))
def f_law_all : Fd := fnD 1 1 b_law_all
def w_law_greatest_0 : Fm :=
  (asg 1 (shM (bin addD (vr 1) (vr 3))))
def l_law_greatest_1 : Fm :=
  forD (liftF itE (vr 2)) (gnm 3)
  w_law_greatest_0
def w_law_greatest_2 : Fm :=
  l_law_greatest_1
def l_law_greatest_3 : Fm :=
  forD (liftF itE (slM (frzM (callP f_law_all (consA (vr 0) nilA))) (liftF intO (frzM (callP f_law_enough (consA (vr 0) nilA)))) (ret none))) (gnm 2)
  w_law_greatest_2
def t_law_greatest_4 : Fm :=
  (rtn (ifM (tst (bin inE (cst .non) (vr 1))) (shM (cst .non)) (shM (liftA maxE (consA (vr 1) nilA)))))
def b_law_greatest : Fm :=
  (sq (asg 1 (shM (frzM (lstM nilA))))
  (sq l_law_greatest_3
  t_law_greatest_4))
def f_law_greatest : Fd := fnD 1 4 b_law_greatest
def b_law_equal (rec : Fd) : Fm :=
  (sq (iff_ (tst (bin isD (vr 1) (cst .non)))
  (rtn (shM (bin isD (vr 0) (cst .non))))
  nop)
  (sq (iff_ (tst (isiM "bool" (vr 1)))
  (rtn (shM (bnd (tst (isiM "bool" (vr 0))) fun c => if c = true then (bin eqD (vr 0) (vr 1)) else ret (.bl false))))
  nop)
  (sq (iff_ (tst (isiM "int" (vr 1)))
  (rtn (shM (bnd (tst (isiM "int" (vr 0))) fun c => if c = true then (bnd (tst (bnd (tst (isiM "bool" (vr 0))) fun c => ret (.bl (!c)))) fun c => if c = true then (bin eqD (vr 0) (vr 1)) else ret (.bl false)) else ret (.bl false))))
  nop)
  (sq (iff_ (tst (isiM "str" (vr 1)))
  (rtn (shM (bnd (tst (isiM "str" (vr 0))) fun c => if c = true then (bin eqD (vr 0) (vr 1)) else ret (.bl false))))
  nop)
  (sq (iff_ (tst (bin neD (isiM "tuple" (vr 1)) (isiM "tuple" (vr 0))))
  (rtn (shM (cst (.bl false))))
  nop)
  (sq (iff_ (tst (bin neD (isiM "list" (vr 1)) (isiM "list" (vr 0))))
  (rtn (shM (cst (.bl false))))
  nop)
  (sq (iff_ (tst (bin neD (liftA lenD (consA (vr 0) nilA)) (liftA lenD (consA (vr 1) nilA))))
  (rtn (shM (cst (.bl false))))
  nop)
  (rtn (shM (liftA allD (consA (frzM (lcD [2] (liftA itR1 (consA (liftA lenD (consA (vr 1) nilA)) nilA)) (gnm 2) yesM (frzM (callP rec (consA (bin ixD (vr 0) (vr 2)) (consA (bin ixD (vr 1) (vr 2)) nilA)))))) nilA)))))))))))
def f_law_equal : Nat → Fd
  | 0 => noFd
  | k + 1 => fnD 2 3 (b_law_equal (f_law_equal k))
def b_Parser_peek : Fm :=
  (rtn (shM (bin ixD (fldO 0 "Parser" "tokens") (fldO 0 "Parser" "at"))))
def f_Parser_peek : Fd := fnD 1 1 b_Parser_peek
def b_Parser_take_word : Fm :=
  (sq (asg 2 (shM (frzM (methO 0 "Parser" "peek" f_Parser_peek nilA))))
  (sq (iff_ (tst (bin neD (un (fldD "Token" "text") (vr 2)) (vr 1)))
  nvr
  nop)
  (sq (fldAugS 0 "Parser" "at" (fun a b => a + b) (cst (.int 1)))
  (rtn (shM (vr 2))))))
def f_Parser_take_word : Fd := fnD 2 3 b_Parser_take_word
def b_Parser_take : Fm :=
  (sq (asg 2 (shM (frzM (methO 0 "Parser" "peek" f_Parser_peek nilA))))
  (sq (iff_ (tst (bin neD (un (fldD "Token" "kind") (vr 2)) (vr 1)))
  nvr
  nop)
  (sq (fldAugS 0 "Parser" "at" (fun a b => a + b) (cst (.int 1)))
  (rtn (shM (vr 2))))))
def f_Parser_take : Fd := fnD 2 3 b_Parser_take
def b_Parser_parse_people : Fm :=
  (sq (asg 1 (shM (frzM (methO 0 "Parser" "take_word" f_Parser_take_word (consA (bnd (cst (.str "people")) fun d => ret (.sh d)) nilA)))))
  (sq (asg 2 (lstM (consA (frzM (methO 0 "Parser" "take" f_Parser_take (consA (bnd (cst (.str "name")) fun d => ret (.sh d)) nilA))) nilA)))
  (sq (whileD (tst (bin eqD (un (fldD "Token" "kind") (frzM (methO 0 "Parser" "peek" f_Parser_peek nilA))) (cst (.str "name"))))
  (dropS (shM (mutM (.nm 2) appG (consA (frzM (methO 0 "Parser" "take" f_Parser_take (consA (bnd (cst (.str "name")) fun d => ret (.sh d)) nilA))) nilA)))) 1000000)
  (sq (dropS (methO 0 "Parser" "take_word" f_Parser_take_word (consA (bnd (cst (.str ";")) fun d => ret (.sh d)) nilA)))
  (sq (forD (liftF itA (vrF 2)) (gnm 3)
  (iff_ (viewB 0 (tst (bin inD (un (fldD "Token" "text") (vr 3)) (un (fldD "Parser" "names") (vr 0)))))
  nvr
  (iff_ (viewB 0 (tst (bin eqD (liftA lenD (consA (un (fldD "Parser" "names") (vr 0)) nilA)) (cst (.int 8)))))
  nvr
  (dropS (shM (mutM (.fl 0 "Parser" "names") appG (consA (un (fldD "Token" "text") (vr 3)) nilA)))))))
  (iff_ (viewB 0 (tst (bin ltD (liftA lenD (consA (un (fldD "Parser" "names") (vr 0)) nilA)) (cst (.int 2)))))
  nvr
  nop))))))
def f_Parser_parse_people : Fd := fnD 1 4 b_Parser_parse_people
def b_Parser_person : Fm :=
  (sq (asg 1 (shM (frzM (methO 0 "Parser" "take" f_Parser_take (consA (bnd (cst (.str "name")) fun d => ret (.sh d)) nilA)))))
  (sq (iff_ (viewB 0 (tst (bin inD (un (fldD "Token" "text") (vr 1)) (un (fldD "Parser" "names") (vr 0)))))
  (rtn (shM (viewM 0 (idxM (un (fldD "Parser" "names") (vr 0)) (un (fldD "Token" "text") (vr 1))))))
  nop)
  nvr))
def f_Parser_person : Fd := fnD 1 2 b_Parser_person
def b_Meeting_init : Fm :=
  (sq (fldS 0 "Meeting" "word" (shM (vr 1)))
  (sq (fldS 0 "Meeting" "one" (shM (vr 2)))
  (sq (fldS 0 "Meeting" "other" (shM (vr 3)))
  (fldS 0 "Meeting" "tick" (shM (vr 4))))))
def f_Meeting_init : Fd := fnD 5 5 b_Meeting_init
def b_Meeting_key : Fm :=
  (rtn (shM (tupM (consA (un (fldD "Meeting" "word") (vr 0)) (consA (un (fldD "Meeting" "one") (vr 0)) (consA (un (fldD "Meeting" "other") (vr 0)) (consA (un (fldD "Meeting" "tick") (vr 0)) nilA)))))))
def f_Meeting_key : Fd := fnD 1 1 b_Meeting_key
def b_Parser_parse_meeting : Fm :=
  (sq (asg 2 (shM (frzM (methO 0 "Parser" "peek" f_Parser_peek nilA))))
  (sq (iff_ (tst (bin ninD (un (fldD "Token" "text") (vr 2)) (tupM (consA (cst (.str "meet")) (consA (cst (.str "tell")) nilA)))))
  nvr
  nop)
  (sq (fldAugS 0 "Parser" "at" (fun a b => a + b) (cst (.int 1)))
  (sq (asg 3 (shM (frzM (methO 0 "Parser" "person" f_Parser_person nilA))))
  (sq (asg 4 (shM (frzM (methO 0 "Parser" "peek" f_Parser_peek nilA))))
  (sq (asg 5 (shM (frzM (methO 0 "Parser" "person" f_Parser_person nilA))))
  (sq (iff_ (andB (tst (bin eqD (vr 3) (vr 5))) (tst (bin geD (vr 3) (cst (.int 0)))))
  nvr
  nop)
  (sq (asg 6 (shM (frzM (methO 0 "Parser" "take" f_Parser_take (consA (bnd (cst (.str "number")) fun d => ret (.sh d)) nilA)))))
  (sq (dropS (methO 0 "Parser" "take_word" f_Parser_take_word (consA (bnd (cst (.str ";")) fun d => ret (.sh d)) nilA)))
  (sq (iff_ (tst (bin geD (liftA toInt (consA (un (fldD "Token" "text") (vr 6)) nilA)) (vr 1)))
  nvr
  nop)
  (sq (asg 7 (shM (frzM (mkO "Meeting" f_Meeting_init (consA (un (fldD "Token" "text") (vr 2)) (consA (vr 3) (consA (vr 5) (consA (liftA toInt (consA (un (fldD "Token" "text") (vr 6)) nilA)) nilA))))))))
  (sq (iff_ (viewB 0 (tst (bin inD (frzM (propP "Meeting" f_Meeting_key (vr 7))) (frzM (lcD [8] (liftF itA (un (fldD "Parser" "meetings") (vr 0))) (gnm 8) yesM (frzM (propP "Meeting" f_Meeting_key (vr 8))))))))
  nvr
  nop)
  (iff_ (viewB 0 (tst (bin eqD (liftA lenD (consA (un (fldD "Parser" "meetings") (vr 0)) nilA)) (cst (.int 20)))))
  nvr
  (dropS (shM (mutM (.fl 0 "Parser" "meetings") appG (consA (vr 7) nilA)))))))))))))))))
def f_Parser_parse_meeting : Fd := fnD 2 9 b_Parser_parse_meeting
def b_Plan_init : Fm :=
  (sq (fldS 0 "Plan" "size" (shM (vr 1)))
  (sq (fldS 0 "Plan" "names" (shM (vr 2)))
  (fldS 0 "Plan" "meetings" (shM (frzM (lc2D [4, 5] [5] (liftA itR1 (consA (vr 1) nilA)) (gnm 4) yesM (liftF itA (vr 3)) (gnm 5) (tst (bin eqD (un (fldD "Meeting" "tick") (vr 5)) (vr 4))) (vr 5)))))))
def f_Plan_init : Fd := fnD 4 6 b_Plan_init
def b_Parser_parse_plan : Fm :=
  (sq (dropS (methO 0 "Parser" "take_word" f_Parser_take_word (consA (bnd (cst (.str "round")) fun d => ret (.sh d)) nilA)))
  (sq (asg 1 (shM (frzM (methO 0 "Parser" "take" f_Parser_take (consA (bnd (cst (.str "number")) fun d => ret (.sh d)) nilA)))))
  (sq (asg 2 (shM (liftA toInt (consA (un (fldD "Token" "text") (vr 1)) nilA))))
  (sq (dropS (methO 0 "Parser" "take_word" f_Parser_take_word (consA (bnd (cst (.str ";")) fun d => ret (.sh d)) nilA)))
  (sq (iff_ (notB (chM leD leD (cst (.int 1)) (vr 2) (cst (.int 60))))
  nvr
  nop)
  (sq (dropS (methO 0 "Parser" "parse_people" f_Parser_parse_people nilA))
  (sq (whileD (tst (bin neD (un (fldD "Token" "kind") (frzM (methO 0 "Parser" "peek" f_Parser_peek nilA))) (cst (.str "end"))))
  (dropS (methO 0 "Parser" "parse_meeting" f_Parser_parse_meeting (consA (bnd (vr 2) fun d => ret (.sh d)) nilA))) 1000000)
  (sq (iff_ (viewB 0 (tst (bin neD (un (fldD "Parser" "faults") (vr 0)) (frzM (lstM nilA)))))
  nvr
  nop)
  (rtn (mkO "Plan" f_Plan_init (consA (vr 2) (consA (liftA tupD (consA (fldF 0 "Parser" "names") nilA)) (consA (fldF 0 "Parser" "meetings") nilA)))))))))))))
def f_Parser_parse_plan : Fd := fnD 1 7 b_Parser_parse_plan
def b_Parser_init : Fm :=
  (sq (fldS 0 "Parser" "tokens" (shM (vr 1)))
  (sq (fldS 0 "Parser" "at" (shM (cst (.int 0))))
  (sq (fldS 0 "Parser" "faults" (lstM nilA))
  (sq (fldS 0 "Parser" "names" (lstM nilA))
  (fldS 0 "Parser" "meetings" (lstM nilA))))))
def f_Parser_init : Fd := fnD 2 2 b_Parser_init
def b_Token_init : Fm :=
  (sq (fldS 0 "Token" "kind" (shM (vr 1)))
  (sq (fldS 0 "Token" "text" (shM (vr 2)))
  (sq (fldS 0 "Token" "line" (shM (vr 3)))
  (fldS 0 "Token" "column" (shM (vr 4))))))
def f_Token_init : Fd := fnD 5 5 b_Token_init
def b_run_end : Fm :=
  (sq (asg 3 (shM (vr 1)))
  (sq (whileD (andB (tst (bin ltD (vr 3) (liftA lenD (consA (vr 0) nilA)))) (tst (bin inD (bin ixD (vr 0) (vr 3)) (vr 2))))
  (augS 3 addI (cst (.int 1))) 1000000)
  (rtn (shM (vr 3)))))
def f_run_end : Fd := fnD 3 4 b_run_end
def b_read_token : Fm :=
  (sq (asg 3 (shM (bin ixD (vr 0) (vr 2))))
  (sq (iff_ (tst (bin inD (vr 3) (cst (.str ";"))))
  (rtn (mkO "Token" f_Token_init (consA (cst (.str "sign")) (consA (vr 3) (consA (vr 1) (consA (vr 2) nilA))))))
  nop)
  (sq (iff_ (tst (bin inD (vr 3) (cst (.str "0123456789"))))
  (sq (asg 4 (shM (slM (vr 0) (liftF intO (vr 2)) (liftF intO (frzM (callP f_run_end (consA (vr 0) (consA (vr 2) (consA (cst (.str "0123456789")) nilA)))))))))
  (sq (iff_ (orB (tst (bin gtD (liftA lenD (consA (vr 4) nilA)) (cst (.int 2)))) (andB (tst (bin gtD (liftA lenD (consA (vr 4) nilA)) (cst (.int 1)))) (tst (bin eqD (vr 3) (cst (.str "0"))))))
  nvr
  nop)
  (rtn (mkO "Token" f_Token_init (consA (cst (.str "number")) (consA (vr 4) (consA (vr 1) (consA (vr 2) nilA))))))))
  nop)
  (sq (asg 4 (shM (slM (vr 0) (liftF intO (vr 2)) (liftF intO (frzM (callP f_run_end (consA (vr 0) (consA (vr 2) (consA (cst (.str "abcdefghijklmnopqrstuvwxyz")) nilA)))))))))
  (sq (iff_ (tst (bin inD (vr 4) (cst (.tup [.str "round", .str "people", .str "meet", .str "tell"]))))
  (rtn (mkO "Token" f_Token_init (consA (cst (.str "keyword")) (consA (vr 4) (consA (vr 1) (consA (vr 2) nilA))))))
  nop)
  (sq (iff_ (notB (chM leD leD (cst (.int 1)) (liftA lenD (consA (vr 4) nilA)) (cst (.int 8))))
  nvr
  nop)
  (rtn (mkO "Token" f_Token_init (consA (cst (.str "name")) (consA (vr 4) (consA (vr 1) (consA (vr 2) nilA))))))))))))
def f_read_token : Fd := fnD 3 5 b_read_token
def b_tokenize : Fm :=
  (sq (asg 1 (lstM nilA))
  (sq (asg 2 (shM (frzM (m1M splitS (vr 0) (cst (.str "\n"))))))
  (sq (forD (liftA itEn (consA (vr 2) nilA)) (gtp (gcns (gnm 3) (gcns (gnm 4) gnil)))
  (sq (asg 5 (shM (cst (.int 0))))
  (whileD (tst (bin ltD (vr 5) (liftA lenD (consA (vr 4) nilA))))
  (iff_ (tst (bin inD (bin ixD (vr 4) (vr 5)) (cst (.str " \n"))))
  (augS 5 addI (cst (.int 1)))
  (sq (asg 6 (shM (frzM (callP f_read_token (consA (vr 4) (consA (vr 3) (consA (vr 5) nilA)))))))
  (sq (dropS (shM (mutM (.nm 1) appG (consA (vr 6) nilA))))
  (augS 5 addI (liftA lenD (consA (un (fldD "Token" "text") (vr 6)) nilA)))))) 1000000)))
  (rtn (shM (bin addD (vrF 1) (frzM (lstM (consA (frzM (mkO "Token" f_Token_init (consA (cst (.str "end")) (consA (cst (.str "")) (consA (liftA lenD (consA (vr 2) nilA)) (consA (cst (.int 0)) nilA)))))) nilA)))))))))
def f_tokenize : Fd := fnD 1 7 b_tokenize
def b_load : Fm :=
  (rtn (methT "Parser" "parse_plan" f_Parser_parse_plan (mkO "Parser" f_Parser_init (consA (frzM (callP f_tokenize (consA (vr 0) nilA))) nilA))))
def f_load : Fd := fnD 1 1 b_load
def b_person_of : Fm :=
  (sq (iff_ (orB (notB (tst (isiM "str" (vr 1)))) (tst (bin ninE (vr 1) (un (fldD "Plan" "names") (vr 0)))))
  nvr
  nop)
  (rtn (shM (idxN (un (fldD "Plan" "names") (vr 0)) (vr 1)))))
def f_person_of : Fd := fnD 2 2 b_person_of
def b_Plan_with_meetings : Fm :=
  (rtn (mkO "Plan" f_Plan_init (consA (un (fldD "Plan" "size") (vr 0)) (consA (un (fldD "Plan" "names") (vr 0)) (consA (vr 1) nilA)))))
def f_Plan_with_meetings : Fd := fnD 2 2 b_Plan_with_meetings
def c_greatest_0 : M Sl :=
  lcN [2, 3, 4] (liftF itE (vr 0)) (gnm 2) yesM (bodF [2, 3, 4] [3, 4] (liftF itE (vr 2)) (gnm 3) yesM (bodF [2, 3, 4] [4] (liftF itE (vr 3)) (gnm 4) yesM (bodE (vr 4))))
def b_greatest : Fm :=
  (sq (asg 1 (shF c_greatest_0))
  (rtn (ifM (tst (bin inE (cst .non) (vr 1))) (shM (cst .non)) (shM (liftA maxE (consA (vr 1) nilA))))))
def f_greatest : Fd := fnD 1 5 b_greatest
def b_Story_lasting : Fm :=
  (rtn (shM (slM (un (fldD "Story" "ages") (vr 0)) (liftF intO (un (fldD "Story" "start") (vr 0))) (ret none))))
def f_Story_lasting : Fd := fnD 1 1 b_Story_lasting
def c_known_at_0 : M Sl :=
  lcD [2, 3] (liftA itEnE (consA (vr 5) nilA)) (gtp (gcns (gnm 2) (gcns (gnm 3) gnil))) yesM (ifM (tst (bin eqD (vr 2) (vr 4))) (vr 1) (vr 3))
def c_known_at_1 : M Sl :=
  lcD [4, 5] (liftA itEnE (consA (vr 0) nilA)) (gtp (gcns (gnm 4) (gcns (gnm 5) gnil))) yesM (frzM c_known_at_0)
def b_known_at : Fm :=
  (rtn c_known_at_1)
def f_known_at : Fd := fnD 2 6 b_known_at
def c_Plan_in_tick_0 : M Sl :=
  lcD [2] (liftF itE (un (fldD "Plan" "meetings") (vr 0))) (gnm 2) (tst (bin eqD (un (fldD "Meeting" "tick") (vr 2)) (bin modD (vr 1) (un (fldD "Plan" "size") (vr 0))))) (vr 2)
def b_Plan_in_tick : Fm :=
  (rtn c_Plan_in_tick_0)
def f_Plan_in_tick : Fd := fnD 2 3 b_Plan_in_tick
def b_newest : Fm :=
  (sq (iff_ (orB (tst (bin isD (vr 0) (cst .non))) (andB (tst (bin notD (vr 1) (cst .non))) (tst (bin gtD (vr 1) (vr 0)))))
  (rtn (shM (vr 1)))
  nop)
  (rtn (shM (vr 0))))
def f_newest : Fd := fnD 2 2 b_newest
def c_heard_0 : M Sl :=
  lcD [4, 5] (liftA itZp (consA (bin ixE (vr 0) (vr 2)) (consA (bin ixE (vr 0) (vr 1)) nilA))) (gtp (gcns (gnm 4) (gcns (gnm 5) gnil))) yesM (frzM (callP f_newest (consA (vr 4) (consA (vr 5) nilA))))
def c_heard_1 : M Sl :=
  lcD [6, 7] (liftA itEnE (consA (vr 0) nilA)) (gtp (gcns (gnm 6) (gcns (gnm 7) gnil))) yesM (ifM (tst (bin eqD (vr 6) (vr 2))) (vr 3) (vr 7))
def b_heard : Fm :=
  (sq (asg 3 (shM (frzM c_heard_0)))
  (rtn c_heard_1))
def f_heard : Fd := fnD 3 8 b_heard
def b_after_meeting : Fm :=
  (sq (asg 0 (shM (frzM (callP f_heard (consA (vr 0) (consA (un (fldD "Meeting" "one") (vr 1)) (consA (un (fldD "Meeting" "other") (vr 1)) nilA)))))))
  (rtn (ifM (tst (bin eqD (un (fldD "Meeting" "word") (vr 1)) (cst (.str "meet")))) (callP f_heard (consA (vr 0) (consA (un (fldD "Meeting" "other") (vr 1)) (consA (un (fldD "Meeting" "one") (vr 1)) nilA)))) (shM (vr 0)))))
def f_after_meeting : Fd := fnD 2 2 b_after_meeting
def c_Story_init_0 : M Sl :=
  lcD [4] (liftA itR1 (consA (vr 2) nilA)) (gnm 4) yesM (bin mulE (frzM (lstM (consA (cst .non) nilA))) (vr 2))
def w_Story_init_1 : Fm :=
  (asg 3 (shM (frzM (callP f_after_meeting (consA (vr 3) (consA (vr 6) nilA))))))
def l_Story_init_2 : Fm :=
  forD (liftF itE (frzM (methP "Plan" "in_tick" f_Plan_in_tick (vr 1) (consA (vr 5) nilA)))) (gnm 6)
  w_Story_init_1
def c_Story_init_3 : M Sl :=
  lcD [7] (liftF itE (vr 8)) (gnm 7) yesM (ifM (tst (bin isD (vr 7) (cst .non))) (cst .non) (bin subD (vr 5) (vr 7)))
def c_Story_init_4 : M Sl :=
  lcD [8] (liftF itE (vr 3)) (gnm 8) yesM (frzM c_Story_init_3)
def t_Story_init_5 : Fm :=
  (dropS (shM (mutM (.fl 0 "Story" "ages") appG (consA (frzM c_Story_init_4) nilA))))
def w_Story_init_6 : Fm :=
  (sq (asg 3 (shM (frzM (callP f_known_at (consA (vr 3) (consA (vr 5) nilA))))))
  (sq l_Story_init_2
  t_Story_init_5))
def l_Story_init_7 : Fm :=
  forD (liftA itR1 (consA (bin mulE (un (fldD "Plan" "size") (vr 1)) (bin addD (vr 2) (cst (.int 1)))) nilA)) (gnm 5)
  w_Story_init_6
def t_Story_init_8 : Fm :=
  (fldS 0 "Story" "start" (shM (bin mulE (un (fldD "Plan" "size") (vr 1)) (vr 2))))
def b_Story_init : Fm :=
  (sq (asg 2 (shM (liftA lenD (consA (un (fldD "Plan" "names") (vr 1)) nilA))))
  (sq (fldS 0 "Story" "size" (shM (un (fldD "Plan" "size") (vr 1))))
  (sq (fldS 0 "Story" "ages" (lstM nilA))
  (sq (asg 3 (shF c_Story_init_0))
  (sq l_Story_init_7
  t_Story_init_8)))))
def f_Story_init : Fd := fnD 2 9 b_Story_init
def w_best_tick_0 : Fm :=
  (sq (asg 8 (shM (frzM (methP "Plan" "with_meetings" f_Plan_with_meetings (vr 3) (consA (frzM (lstM (starA (un (fldD "Plan" "meetings") (vr 3)) (consA (frzM (mkO "Meeting" f_Meeting_init (consA (cst (.str "meet")) (consA (vr 4) (consA (vr 5) (consA (vr 7) nilA)))))) nilA)))) nilA)))))
  (sq (asg 9 (shM (frzM (callP f_greatest (consA (frzM (methP "Story" "lasting" f_Story_lasting (frzM (mkO "Story" f_Story_init (consA (vr 8) nilA))) nilA)) nilA)))))
  (iff_ (andB (tst (bin notD (vr 9) (cst .non))) (orB (tst (bin isD (vr 6) (cst .non))) (tst (bin ltD (vr 9) (bin ixE (vr 6) (cst (.int 0)))))))
  (asg 6 (shM (tupM (consA (vr 9) (consA (vr 7) nilA)))))
  nop)))
def l_best_tick_1 : Fm :=
  forD (liftA itR1 (consA (un (fldD "Plan" "size") (vr 3)) nilA)) (gnm 7)
  w_best_tick_0
def t_best_tick_2 : Fm :=
  (rtn (shM (vr 6)))
def b_best_tick : Fm :=
  (sq (asg 3 (shM (frzM (callP f_load (consA (vr 0) nilA)))))
  (sq (par2 4 5 (consA (shM (frzM (callP f_person_of (consA (vr 3) (consA (vr 1) nilA))))) (consA (shM (frzM (callP f_person_of (consA (vr 3) (consA (vr 2) nilA))))) nilA)))
  (sq (iff_ (tst (bin eqD (vr 4) (vr 5)))
  nvr
  nop)
  (sq (iff_ (tst (bin eqD (liftA lenD (consA (un (fldD "Plan" "meetings") (vr 3)) nilA)) (cst (.int 20))))
  nvr
  nop)
  (sq (asg 6 (shM (cst .non)))
  (sq l_best_tick_1
  t_best_tick_2))))))
def f_best_tick : Fd := fnD 3 10 b_best_tick
def b_law_lines : Fm :=
  (sq (asgT (gtp (gcns (gnm 1) (gcns (gnm 2) (gcns (gnm 3) gnil)))) (vr 0))
  (sq (asg 4 (lstM (consA (bin addD (bin addD (cst (.str "round ")) (liftA toStr (consA (vr 1) nilA))) (cst (.str ";"))) (consA (bin addD (bin addD (cst (.str "people ")) (m1M joinD (cst (.str " ")) (vr 2))) (cst (.str ";"))) nilA))))
  (sq (forD (liftF itA (vr 3)) (gtp (gcns (gnm 5) (gcns (gnm 6) (gcns (gnm 7) (gcns (gnm 8) gnil)))))
  (dropS (shM (mutM (.nm 4) appG (consA (bin addD (m1M joinD (cst (.str " ")) (frzM (lstM (consA (vr 5) (consA (bin ixD (vr 2) (vr 6)) (consA (bin ixD (vr 2) (vr 7)) (consA (liftA toStr (consA (vr 8) nilA)) nilA))))))) (cst (.str ";"))) nilA)))))
  (rtn (vrO 4)))))
def f_law_lines : Fd := fnD 1 9 b_law_lines
def b_law_text : Fm :=
  (rtn (shM (m1M joinD (cst (.str "\n")) (frzM (callP f_law_lines (consA (vr 0) nilA))))))
def f_law_text : Fd := fnD 1 1 b_law_text
def w_law_0 : Fm :=
  (sq (asg 9 (shM (frzM (callP f_law_greatest (consA (frzM (callP f_law_ordered (consA (tupM (consA (vr 2) (consA (vr 3) (consA (bin addD (vr 4) (frzM (lstM (consA (tupM (consA (cst (.str "meet")) (consA (vr 5) (consA (vr 6) (consA (vr 8) nilA))))) nilA)))) nilA)))) nilA))) nilA)))))
  (iff_ (andB (tst (bin notD (vr 9) (cst .non))) (orB (tst (bin isD (vr 7) (cst .non))) (tst (bin ltD (vr 9) (bin ixE (vr 7) (cst (.int 0)))))))
  (asg 7 (shM (tupM (consA (vr 9) (consA (vr 8) nilA)))))
  nop))
def l_law_1 : Fm :=
  forD (liftA itR1 (consA (vr 2) nilA)) (gnm 8)
  w_law_0
def t_law_2 : Fm :=
  (rtn (callP (f_law_equal 12) (consA (frzM (callP f_best_tick (consA (frzM (callP f_law_text (consA (tupM (consA (vr 2) (consA (vr 3) (consA (vr 4) nilA)))) nilA))) (consA (bin ixE (vr 3) (vr 5)) (consA (bin ixE (vr 3) (vr 6)) nilA))))) (consA (vr 7) nilA))))
def b_law : Fm :=
  (sq (asg 1 (callP f_law_random (consA (vr 0) (consA (cst (.int 9)) nilA))))
  (sq (asgT (gtp (gcns (gnm 2) (gcns (gnm 3) (gcns (gnm 4) gnil)))) (frzM (callO f_law_plan (consA (slA 1) (consA (bnd (cst (.int 4)) fun d => ret (.sh d)) (consA (bnd (cst (.int 6)) fun d => ret (.sh d)) nilA))))))
  (sq (asg 4 (shM (slM (vr 4) (ret none) (liftF intO (frzM (callO f_law_below (consA (slA 1) (consA (bnd (cst (.int 12)) fun d => ret (.sh d)) nilA))))))))
  (sq (asg 5 (shM (frzM (callO f_law_below (consA (slA 1) (consA (bnd (liftA lenD (consA (vr 3) nilA)) fun d => ret (.sh d)) nilA))))))
  (sq (par2 6 7 (consA (shM (bin modD (bin addD (bin addD (vr 5) (cst (.int 1))) (frzM (callO f_law_below (consA (slA 1) (consA (bnd (bin subD (liftA lenD (consA (vr 3) nilA)) (cst (.int 1))) fun d => ret (.sh d)) nilA))))) (liftA lenD (consA (vr 3) nilA)))) (consA (shM (cst .non)) nilA)))
  (sq l_law_1
  t_law_2))))))
def f_law : Fd := fnD 1 10 b_law
end DL
end

set_option Elab.async false
set_option linter.all false
set_option maxRecDepth 100000
set_option maxHeartbeats 1000000
namespace DL
open PySem L2

/-! ### evaluation -/
@[simp] theorem SZ_eq : SZ = 16777216 := rfl
section
variable {α β : Type} {ρ ρ' : Env} {d : Dat} {s : Sl}
@[simp] theorem ev_ret (a : α) : ret a ρ = some (a, ρ) := rfl
@[simp] theorem ev_cst (d : Dat) : cst d ρ = some (d, ρ) := rfl
theorem ev_bnd {m : M α} {k : α → M β} {a : α} {ρ ρ1 : Env} (h : m ρ = some (a, ρ1)) : bnd m k ρ = k a ρ1 := by
  unfold bnd
  rw [h]
@[simp] theorem ev_bnd' {m : M α} {k : α → M β} : bnd m k ρ = (m ρ).bind fun p => k p.1 p.2 := by
  unfold bnd
  cases m ρ <;> rfl
@[simp] theorem ev_lift (o : Option α) : lift o ρ = o.map fun a => (a, ρ) := by
  unfold lift
  cases o <;> rfl
@[simp] theorem ev_vr (i : Nat) : vr i ρ = match ρ[i]? with
  | some (some (.sh d)) => some (d, ρ)
  | _ => none := rfl
@[simp] theorem ev_bin (g : Dat → Dat → Option Dat) (fa fb : M Dat) : bin g fa fb ρ = (fa ρ).bind fun p => (fb p.2).bind fun q => (g p.1 q.1).map fun z => (z, q.2) := by
  unfold bin
  simp
@[simp] theorem ev_un (g : Dat → Option Dat) (fa : M Dat) : un g fa ρ = (fa ρ).bind fun p => (g p.1).map fun z => (z, p.2) := by
  unfold un
  simp
@[simp] theorem ev_tst (fa : M Dat) : tst fa ρ = (fa ρ).bind fun p => match p.1 with
  | .bl b => some (b, p.2)
  | _ => none := by
  unfold tst
  simp only [ev_bnd']
  cases fa ρ with
  | none => rfl
  | some p => cases p with | mk d r => cases d <;> rfl
@[simp] theorem ev_shM (f : M Dat) : shM f ρ = (f ρ).map fun p => (.sh p.1, p.2) := by
  unfold shM
  simp
  cases f ρ <;> rfl
@[simp] theorem ev_frzM (f : M Sl) : frzM f ρ = (f ρ).map fun p => (frz p.1, p.2) := by
  unfold frzM
  simp
  cases f ρ <;> rfl
@[simp] theorem ev_asg (i : Nat) (f : M Sl) : asg i f ρ = (f ρ).map fun p => (.nx, p.2.set i (some p.1)) := by
  unfold asg
  cases f ρ <;> rfl
@[simp] theorem ev_dropS (f : M Sl) : dropS f ρ = (f ρ).map fun p => (.nx, p.2) := by
  unfold dropS
  cases f ρ <;> rfl
@[simp] theorem ev_rtn (f : M Sl) : rtn f ρ = (f ρ).map fun p => (.rt p.1, p.2) := by
  unfold rtn
  cases f ρ <;> rfl
@[simp] theorem ev_nop : nop ρ = some (.nx, ρ) := rfl
@[simp] theorem ev_nvr : nvr ρ = none := rfl
@[simp] theorem ev_sq (F G : Fm) : sq F G ρ = (F ρ).bind fun p => match p.1 with
  | .nx => G p.2
  | _ => some p := by
  unfold sq
  cases F ρ with
  | none => rfl
  | some p => cases p with | mk d r => cases d <;> rfl
@[simp] theorem ev_iff (c : M Bool) (F G : Fm) : iff_ c F G ρ = (c ρ).bind fun p => if p.1 = true then F p.2 else G p.2 := by
  unfold iff_
  cases c ρ with
  | none => rfl
  | some p => cases p with | mk d r => cases d <;> rfl
@[simp] theorem ev_andB (f g : M Bool) : andB f g ρ = (f ρ).bind fun p => if p.1 = true then g p.2 else some (false, p.2) := by
  unfold andB
  simp
  cases f ρ with
  | none => rfl
  | some p => cases p with | mk d r => cases d <;> rfl
@[simp] theorem ev_orB (f g : M Bool) : orB f g ρ = (f ρ).bind fun p => if p.1 = true then some (true, p.2) else g p.2 := by
  unfold orB
  simp
  cases f ρ with
  | none => rfl
  | some p => cases p with | mk d r => cases d <;> rfl
@[simp] theorem ev_notB (f : M Bool) : notB f ρ = (f ρ).map fun p => (!p.1, p.2) := by
  unfold notB
  simp
  cases f ρ <;> rfl
@[simp] theorem ev_ifM (c : M Bool) (f g : M α) : ifM c f g ρ = (c ρ).bind fun p => if p.1 = true then f p.2 else g p.2 := by
  unfold ifM
  simp
  cases c ρ with
  | none => rfl
  | some p => cases p with | mk d r => cases d <;> rfl
@[simp] theorem ev_nilA : (nilA : M (List α)) ρ = some ([], ρ) := rfl
@[simp] theorem ev_consA (f : M α) (g : M (List α)) : consA f g ρ = (f ρ).bind fun p => (g p.2).map fun q => (p.1 :: q.1, q.2) := by
  unfold consA
  simp
  cases f ρ with
  | none => rfl
  | some p =>
    show (g p.2).bind _ = (g p.2).map _
    cases g p.2 <;> rfl
@[simp] theorem ev_liftA (g : List Dat → Option α) (f : M (List Dat)) : liftA g f ρ = (f ρ).bind fun p => (g p.1).map fun z => (z, p.2) := by
  unfold liftA
  simp
@[simp] theorem ev_liftF (g : Dat → Option α) (f : M Dat) : liftF g f ρ = (f ρ).bind fun p => (g p.1).map fun z => (z, p.2) := by
  unfold liftF
  simp
@[simp] theorem ev_viewM (i : Nat) (f : M Dat) : viewM i f ρ = (f (viewE i ρ)).bind fun p => if scalD p.1 = true then some (p.1, ρ) else none := by
  unfold viewM
  cases f (viewE i ρ) <;> rfl
@[simp] theorem ev_viewB (i : Nat) (f : M Bool) : viewB i f ρ = (f (viewE i ρ)).map fun p => (p.1, ρ) := by
  unfold viewB
  cases f (viewE i ρ) <;> rfl
@[simp] theorem ev_viewE (i : Nat) : viewE i ρ = match ρ[i]? with
  | some (some s) => ρ.set i (some (.sh (frz s)))
  | _ => ρ := rfl
@[simp] theorem ev_vrF (i : Nat) : vrF i ρ = match ρ[i]? with
  | some (some s) => some (frz s, ρ.set i (some (.sh (frz s))))
  | _ => none := rfl
@[simp] theorem ev_vrO (i : Nat) : vrO i ρ = match ρ[i]? with
  | some (some s) => some (s, ρ.set i none)
  | _ => none := rfl
@[simp] theorem ev_lstM (f : M (List Dat)) : lstM f ρ = (f ρ).bind fun p => if p.1.length ≤ SZ then some (.ol none p.1, p.2) else none := by
  unfold lstM
  simp
  cases f ρ with
  | none => rfl
  | some p =>
    show (if p.1.length ≤ SZ then ret (Sl.ol none p.1) else fun _ => none) p.2 = if p.1.length ≤ SZ then some (.ol none p.1, p.2) else none
    split <;> rfl
@[simp] theorem ev_tupM (f : M (List Dat)) : tupM f ρ = (f ρ).bind fun p => if p.1.length ≤ SZ then some (.tup p.1, p.2) else none := by
  unfold tupM
  simp
  cases f ρ with
  | none => rfl
  | some p =>
    show (if p.1.length ≤ SZ then ret (Dat.tup p.1) else fun _ => none) p.2 = if p.1.length ≤ SZ then some (.tup p.1, p.2) else none
    split <;> rfl
@[simp] theorem ev_catM (fa fb : M Dat) : catM fa fb ρ = (fa ρ).bind fun p => (fb p.2).bind fun q => match p.1, q.1 with
  | .lst ds, .lst es => if ds.length + es.length ≤ SZ then some (.ol none (ds ++ es), q.2) else none
  | _, _ => none := by
  unfold catM
  simp
  cases fa ρ with
  | none => rfl
  | some p =>
    obtain ⟨d, r⟩ := p
    show (fb r).bind _ = (fb r).bind _
    cases fb r with
    | none => rfl
    | some q =>
      obtain ⟨e, r2⟩ := q
      cases d <;> try rfl
      cases e <;> try rfl
      show (if _ then ret _ else fun _ => none) _ = if _ then _ else _
      split <;> rfl
@[simp] theorem ev_putAt (pl : Pl) (fv fi : M Dat) : putAt pl fv fi ρ = (fv ρ).bind fun p => (getP pl p.2).bind fun ds => (fi p.2).bind fun q => match q.1 with
  | .int j => (ixN ds.length j).map fun n => (.nx, setP pl (ds.set n p.1) p.2)
  | _ => none := by
  unfold putAt
  cases fv ρ with
  | none => rfl
  | some p =>
    obtain ⟨d, r⟩ := p
    show (match getP pl r with | some ds => _ | none => none) = (getP pl r).bind _
    cases getP pl r with
    | none => rfl
    | some ds =>
      show (match fi r with | some (.int j, ρ2) => _ | _ => none) = (fi r).bind _
      cases fi r with
      | none => rfl
      | some q =>
        obtain ⟨e, r2⟩ := q
        cases e <;> try rfl
        rename_i j
        show (match ixN ds.length j with | some n => _ | none => none) = (ixN ds.length j).map _
        cases ixN ds.length j <;> rfl
@[simp] theorem ev_mutM (pl : Pl) (g : List Dat → List Dat → Option (List Dat × Dat)) (fa : M (List Dat)) : mutM pl g fa ρ = (getP pl ρ).bind fun _ => (fa ρ).bind fun p => (getP pl p.2).bind fun ds => (g ds p.1).map fun z => (z.2, setP pl z.1 p.2) := by
  unfold mutM
  cases getP pl ρ with
  | none => rfl
  | some _ =>
    show (match fa ρ with | some (as, ρ1) => _ | none => none) = (fa ρ).bind _
    cases fa ρ with
    | none => rfl
    | some p =>
      obtain ⟨as, r⟩ := p
      show (match getP pl r with | some ds => _ | none => none) = (getP pl r).bind _
      cases getP pl r with
      | none => rfl
      | some ds =>
        show (match g ds as with | some (ds', dz) => _ | none => none) = (g ds as).map _
        cases g ds as <;> rfl
@[simp] theorem ev_getN (i : Nat) : getP (.nm i) ρ = match ρ[i]? with
  | some (some (.ol _ ds)) => some ds
  | _ => none := rfl
@[simp] theorem ev_setN (i : Nat) (es : List Dat) : setP (.nm i) es ρ = match ρ[i]? with
  | some (some (.ol t _)) => ρ.set i (some (.ol t es))
  | _ => ρ := rfl
@[simp] theorem ev_callO (f : Fd) (fa : M (List AR)) : callO f fa ρ = (fa ρ).bind fun p => if (slotsOf p.1).Nodup then (insOf p.2 p.1).bind fun ins => (f ins).map fun q => (q.1, putO p.1 q.2 p.2) else none := by
  unfold callO
  rw [ev_bnd']
  cases fa ρ with
  | none => rfl
  | some p =>
    obtain ⟨as, r⟩ := p
    show (if (slotsOf as).Nodup then (match insOf r as with | some ins => _ | none => none) else none) = if (slotsOf as).Nodup then _ else none
    split
    · show _ = (insOf r as).bind _
      cases insOf r as with
      | none => rfl
      | some ins =>
        show (match f ins with | some (r, outs) => _ | none => none) = (f ins).map _
        cases f ins <;> rfl
    · rfl
@[simp] theorem ev_callP (f : Fd) (fa : M (List Dat)) : callP f fa ρ = (fa ρ).bind fun p => (f (p.1.map .sh)).map fun q => (q.1, p.2) := by
  unfold callP
  rw [ev_bnd']
  cases fa ρ with
  | none => rfl
  | some p =>
    obtain ⟨as, r⟩ := p
    show (match f (as.map .sh) with | some (r0, _) => _ | none => none) = (f (as.map .sh)).map _
    cases f (as.map .sh) <;> rfl
@[simp] theorem ev_slA (i : Nat) : slA i ρ = match ρ[i]? with
  | some (some _) => some (.sl i, ρ)
  | _ => none := rfl
@[simp] theorem insOf_nil : insOf ρ [] = some [] := rfl
@[simp] theorem insOf_sh (d : Dat) (as : List AR) : insOf ρ (.sh d :: as) = (insOf ρ as).map (Sl.sh d :: ·) := rfl
@[simp] theorem insOf_sl (i : Nat) (as : List AR) : insOf ρ (.sl i :: as) = match ρ[i]? with
  | some (some s) => (insOf ρ as).map (untag s :: ·)
  | _ => none := rfl
@[simp] theorem slotsOf_nil : slotsOf [] = [] := rfl
@[simp] theorem slotsOf_sh (d : Dat) (as : List AR) : slotsOf (.sh d :: as) = slotsOf as := rfl
@[simp] theorem slotsOf_sl (i : Nat) (as : List AR) : slotsOf (.sl i :: as) = i :: slotsOf as := rfl
end
end DL

set_option Elab.async false
set_option linter.all false
set_option maxRecDepth 100000
set_option maxHeartbeats 1000000
namespace DL
open PySem L2

/-! ### loops -/
section
variable {α : Type} {ρ ρ1 ρ2 : Env} {g : M (List Dat)} {gb : Dat → Env → Option Env} {body : Fm} {c : M Bool}
theorem loop_inv {enc : α → Dat} (I : List α → Env → Prop) (step : ∀ x xs ρ, I (x :: xs) ρ → ∃ ρ1 ρ2, gb (enc x) ρ = some ρ1 ∧ (body ρ1 = some (.nx, ρ2) ∨ body ρ1 = some (.ct, ρ2)) ∧ I xs ρ2) : ∀ xs ρ, I xs ρ → ∃ ρ2, loopD gb body (xs.map enc) ρ = some (.nx, ρ2) ∧ I [] ρ2
  | [], ρ, h => ⟨ρ, rfl, h⟩
  | x :: xs, ρ, h => by
    obtain ⟨ρ1, ρ2, h1, h2, h3⟩ := step x xs ρ h
    obtain ⟨ρ3, h4, h5⟩ := loop_inv I step xs ρ2 h3
    refine ⟨ρ3, ?_, h5⟩
    rw [List.map_cons]
    unfold loopD
    rw [h1]
    rcases h2 with h2 | h2
    · simp only [h2]; exact h4
    · simp only [h2]; exact h4
theorem for_inv {enc : α → Dat} {xs : List α} (I : List α → Env → Prop) (hg : g ρ = some (xs.map enc, ρ1)) (h0 : I xs ρ1) (step : ∀ x xs ρ, I (x :: xs) ρ → ∃ ρ1 ρ2, gb (enc x) ρ = some ρ1 ∧ (body ρ1 = some (.nx, ρ2) ∨ body ρ1 = some (.ct, ρ2)) ∧ I xs ρ2) :
    ∃ ρ2, forD g gb body ρ = some (.nx, ρ2) ∧ I [] ρ2 := by
  obtain ⟨ρ2, h1, h2⟩ := loop_inv I step xs ρ1 h0
  refine ⟨ρ2, ?_, h2⟩
  unfold forD
  rw [hg]
  exact h1
theorem while_inv (I : Nat → Env → Prop) (J : Env → Prop) (step : ∀ m ρ, I m ρ → (∃ ρ1, c ρ = some (false, ρ1) ∧ J ρ1) ∨ ∃ ρ1 ρ2 m', m' < m ∧ c ρ = some (true, ρ1) ∧ body ρ1 = some (.nx, ρ2) ∧ I m' ρ2) : ∀ n m ρ, I m ρ → m < n → ∃ ρ', whileD c body n ρ = some (.nx, ρ') ∧ J ρ'
  | 0, _, _, _, h => absurd h (Nat.not_lt_zero _)
  | n + 1, m, ρ, h, hm => by
    rcases step m ρ h with ⟨ρ1, h1, h2⟩ | ⟨ρ1, ρ2, m', h1, h2, h3, h4⟩
    · refine ⟨ρ1, ?_, h2⟩
      unfold whileD
      rw [h1]
    · obtain ⟨ρ3, h5, h6⟩ := while_inv I J step n m' ρ2 h4 (by omega)
      refine ⟨ρ3, ?_, h6⟩
      unfold whileD
      rw [h2]
      simp only [h3]
      exact h5
end
/-! ### comprehensions without change -/
section
variable {α : Type} {ρ ρ1 : Env} {g : M (List Dat)} {tt : M Bool} {te : M Dat}
theorem wipe1 {ρ : Env} {i : Nat} {x : Option Sl} : wipeE (ρ.set i x) [i] = ρ.set i none := by
  unfold wipeE wipeE
  rw [List.set_set]
theorem noOwn1 {ρ : Env} {i : Nat} {d : Dat} : noOwn (ρ.set i (some (.sh d))) [i] = true := by
  unfold noOwn
  simp only [List.all_cons, List.all_nil, Bool.and_true]
  by_cases h : i < ρ.length
  · rw [List.getElem?_set_self h]; rfl
  · rw [List.getElem?_eq_none (by simpa using h)]
theorem lc_loop1 {enc : α → Dat} {i : Nat} {p : α → Bool} {f : α → Dat} {ρ : Env} : ∀ {xs : List α}, (∀ x ∈ xs, tt (ρ.set i (some (.sh (enc x)))) = some (p x, ρ.set i (some (.sh (enc x))))) → (∀ x ∈ xs, p x = true → te (ρ.set i (some (.sh (enc x)))) = some (f x, ρ.set i (some (.sh (enc x))))) →
    lcLoop [i] (gnm i) tt te (xs.map enc) (ρ.set i none) = some ((xs.filter p).map f, ρ.set i none)
  | [], _, _ => rfl
  | x :: xs, h1, h2 => by
    have ih := lc_loop1 (xs := xs) (fun y hy => h1 y (List.mem_cons_of_mem _ hy)) (fun y hy => h2 y (List.mem_cons_of_mem _ hy))
    rw [List.map_cons]
    unfold lcLoop
    have e1 : gnm i (enc x) (ρ.set i none) = some (ρ.set i (some (.sh (enc x)))) := by
      unfold gnm
      rw [List.set_set]
    rw [e1]
    simp only [h1 x (by simp)]
    cases hp : p x with
    | true =>
      simp only [h2 x (by simp) hp, noOwn1, if_true, wipe1, ih, List.filter_cons, hp, List.map_cons]
    | false =>
      simp only [noOwn1, if_true, wipe1, ih, List.filter_cons, hp]
      rfl
theorem lc1 {enc : α → Dat} {i : Nat} {p : α → Bool} {f : α → Dat} {xs : List α} (hg : g ρ = some (xs.map enc, ρ1)) (hn : noOwn ρ1 [i] = true) (h1 : ∀ x ∈ xs, tt (ρ1.set i (some (.sh (enc x)))) = some (p x, ρ1.set i (some (.sh (enc x)))))
    (h2 : ∀ x ∈ xs, p x = true → te (ρ1.set i (some (.sh (enc x)))) = some (f x, ρ1.set i (some (.sh (enc x))))) : lcD [i] g (gnm i) tt te ρ = some (.ol none ((xs.filter p).map f), ρ1) := by
  unfold lcD
  rw [hg]
  simp only [hn, if_true]
  have e : wipeE ρ1 [i] = ρ1.set i none := rfl
  rw [e, lc_loop1 h1 h2]
  simp only
  rw [← e, backE_wipe]
/-- without a test -/
theorem lc1y {enc : α → Dat} {i : Nat} {f : α → Dat} {xs : List α} (hg : g ρ = some (xs.map enc, ρ1)) (hn : noOwn ρ1 [i] = true)
    (h2 : ∀ x ∈ xs, te (ρ1.set i (some (.sh (enc x)))) = some (f x, ρ1.set i (some (.sh (enc x))))) : lcD [i] g (gnm i) yesM te ρ = some (.ol none (xs.map f), ρ1) := by
  have := lc1 (tt := yesM) (p := fun _ => true) hg hn (fun _ _ => rfl) (fun x hx _ => h2 x hx)
  rw [this, List.filter_eq_self.mpr (fun _ _ => rfl)]
end
/-! ### defs -/
theorem ev_def {n N : Nat} {F : Fm} {ins : List Sl} {r0 : Sl} {ρ0 ρ' : Env} (hl : ins.length = n) (h0 : tagAll ins ++ List.replicate (N - n) none = ρ0) (h : F ρ0 = some (.rt r0, ρ')) : fnD n N F ins = some (untag r0, outsOf n ρ') := by
  unfold fnD
  rw [if_pos hl, h0, h]
theorem ev_defN {n N : Nat} {F : Fm} {ins : List Sl} {ρ0 ρ' : Env} (hl : ins.length = n) (h0 : tagAll ins ++ List.replicate (N - n) none = ρ0) (h : F ρ0 = some (.nx, ρ')) : fnD n N F ins = some (.sh .non, outsOf n ρ') := by
  unfold fnD
  rw [if_pos hl, h0, h]
theorem sq_nx {F G : Fm} {ρ ρ1 : Env} {o : Option (Fl × Env)} (h : F ρ = some (.nx, ρ1)) (k : G ρ1 = o) : sq F G ρ = o := by
  unfold sq
  rw [h]
  exact k
theorem sq_rt {F G : Fm} {ρ ρ1 : Env} {r : Sl} (h : F ρ = some (.rt r, ρ1)) : sq F G ρ = some (.rt r, ρ1) := by
  unfold sq
  rw [h]
theorem if_t {c : M Bool} {F G : Fm} {ρ ρ1 : Env} {o : Option (Fl × Env)} (h : c ρ = some (true, ρ1)) (k : F ρ1 = o) : iff_ c F G ρ = o := by
  unfold iff_
  rw [h]
  exact k
theorem if_f {c : M Bool} {F G : Fm} {ρ ρ1 : Env} {o : Option (Fl × Env)} (h : c ρ = some (false, ρ1)) (k : G ρ1 = o) : iff_ c F G ρ = o := by
  unfold iff_
  rw [h]
  exact k
theorem callP_ok {f : Fd} {fa : M (List Dat)} {ρ ρ1 : Env} {ds : List Dat} {r : Sl} {outs : Env} (h1 : fa ρ = some (ds, ρ1)) (h2 : f (ds.map .sh) = some (r, outs)) : callP f fa ρ = some (r, ρ1) := by
  unfold callP
  rw [ev_bnd h1]
  simp only [h2]
theorem callO_ok {f : Fd} {fa : M (List AR)} {ρ ρ1 : Env} {as : List AR} {ins : List Sl} {r : Sl} {outs : Env} (h1 : fa ρ = some (as, ρ1)) (h2 : (slotsOf as).Nodup) (h3 : insOf ρ1 as = some ins) (h4 : f ins = some (r, outs)) : callO f fa ρ = some (r, putO as outs ρ1) := by
  unfold callO
  rw [ev_bnd h1]
  simp only [h2, if_true, h3, h4]

/-! ### the source of numbers -/
def SrcOk (d : List Int) : Prop := ∃ s c rest, d = s :: c :: rest ∧ 0 ≤ s ∧ 0 ≤ c ∧ ∀ x ∈ rest, 0 ≤ x
abbrev srcS (t : Option Nat) (d : List Int) : Sl := .ol t (d.map .int)
theorem atI_0 {α : Type} (x : α) (xs : List α) : atI (x :: xs) 0 = some x := atI_nat (j := 0) rfl
theorem atI_1 {α : Type} (x y : α) (xs : List α) : atI (x :: y :: xs) 1 = some y := atI_nat (j := 1) rfl
@[simp] theorem frz_sh (d : Dat) : frz (.sh d) = d := by rw [frz]
@[simp] theorem frz_ol (t : Option Nat) (ds : List Dat) : frz (.ol t ds) = .lst ds := by rw [frz]
@[simp] theorem frz_oo (t : Option Nat) (c : Str) (fs : List (Str × Sl)) : frz (.oo t c fs) = .ins c (frzF fs) := by rw [frz]
@[simp] theorem frzF_nil : frzF [] = [] := by rw [frzF]
@[simp] theorem frzF_cons (f : Str) (s : Sl) (r : List (Str × Sl)) : frzF ((f, s) :: r) = (f, frz s) :: frzF r := by rw [frzF]
@[simp] theorem untag_sh (d : Dat) : untag (.sh d) = .sh d := by rw [untag]
@[simp] theorem untag_ol (t : Option Nat) (ds : List Dat) : untag (.ol t ds) = .ol none ds := by rw [untag]
@[simp] theorem untag_oo (t : Option Nat) (c : Str) (fs : List (Str × Sl)) : untag (.oo t c fs) = .oo none c (untagF fs) := by rw [untag]
@[simp] theorem untagF_nil : untagF [] = [] := by rw [untagF]
@[simp] theorem untagF_cons (f : Str) (s : Sl) (r : List (Str × Sl)) : untagF ((f, s) :: r) = (f, untag s) :: untagF r := by rw [untagF]
@[simp] theorem tagAt_sh (k : Nat) (d : Dat) : tagAt k (.sh d) = .sh d := rfl
@[simp] theorem tagAt_ol (k : Nat) (t : Option Nat) (ds : List Dat) : tagAt k (.ol t ds) = .ol (some k) ds := rfl
@[simp] theorem tagAt_oo (k : Nat) (t : Option Nat) (c : Str) (fs : List (Str × Sl)) : tagAt k (.oo t c fs) = .oo (some k) c fs := rfl
@[simp] theorem toPy_int (i : Int) : toPy (.int i) = some (.int i) := by rw [toPy]
@[simp] theorem toPy_str (i : Str) : toPy (.str i) = some (.str i) := by rw [toPy]
@[simp] theorem toPy_bl (i : Bool) : toPy (.bl i) = some (.bool i) := by rw [toPy]
@[simp] theorem toPy_non : toPy .non = some .none := by rw [toPy]
@[simp] theorem shaped_int (i : Int) : SeqAt.shaped (.int i) = true := rfl
@[simp] theorem shaped_bl (i : Bool) : SeqAt.shaped (.bool i) = true := rfl
@[simp] theorem shaped_non : SeqAt.shaped .none = true := rfl
@[simp] theorem eqv_int (i j : Int) : PyData.eqv (.int i) (.int j) = (i == j) := by rw [PyData.eqv]
@[simp] theorem eqv_bool (i j : Bool) : PyData.eqv (.bool i) (.bool j) = (i == j) := by rw [PyData.eqv]
@[simp] theorem eqv_str (i j : Str) : PyData.eqv (.str i) (.str j) = (i == j) := by rw [PyData.eqv]
@[simp] theorem eqD_int (i j : Int) : eqD (.int i) (.int j) = some (.bl (i == j)) := by unfold eqD; simp
@[simp] theorem neD_int (i j : Int) : neD (.int i) (.int j) = some (.bl (!(i == j))) := by unfold neD; simp
@[simp] theorem eqD_bl (i j : Bool) : eqD (.bl i) (.bl j) = some (.bl (i == j)) := by unfold eqD; simp
@[simp] theorem neD_bl (i j : Bool) : neD (.bl i) (.bl j) = some (.bl (!(i == j))) := by unfold neD; simp
@[simp] theorem addD_int (i j : Int) : addD (.int i) (.int j) = some (.int (i + j)) := rfl
@[simp] theorem subD_int (i j : Int) : subD (.int i) (.int j) = some (.int (i - j)) := rfl
@[simp] theorem ltD_int (i j : Int) : ltD (.int i) (.int j) = some (.bl (decide (i < j))) := rfl
@[simp] theorem leD_int (i j : Int) : leD (.int i) (.int j) = some (.bl (decide (i ≤ j))) := rfl
@[simp] theorem gtD_int (i j : Int) : gtD (.int i) (.int j) = some (.bl (decide (j < i))) := rfl
@[simp] theorem geD_int (i j : Int) : geD (.int i) (.int j) = some (.bl (decide (j ≤ i))) := rfl
@[simp] theorem modD_int (i j : Int) (h : 0 < j) : modD (.int i) (.int j) = some (.int (i % j)) := if_pos h
@[simp] theorem fdvD_int (i j : Int) (h : 0 < j) (h2 : j < 9223372036854775808) : fdvD (.int i) (.int j) = some (.int (i / j)) := if_pos ⟨h, h2⟩
theorem mulD_int (i j : Int) (h : -18446744073709551616 < j ∧ j < 18446744073709551616) : mulD (.int i) (.int j) = some (.int (i * j)) := if_pos (.inr h)
@[simp] theorem absD_int (i : Int) : absD [.int i] = some (.int (if i < 0 then -i else i)) := rfl
@[simp] theorem lenD_lst (ds : List Dat) : lenD [.lst ds] = some (.int ds.length) := rfl
@[simp] theorem lenD_tuf (ds : List Dat) : lenD [.tuf ds] = some (.int ds.length) := rfl
@[simp] theorem ixD_tuf (ds : List Dat) (i : Int) : ixD (.tuf ds) (.int i) = atI ds i := rfl
@[simp] theorem lenD_tup (ds : List Dat) : lenD [.tup ds] = some (.int ds.length) := rfl
theorem lenD_str (s : Str) (h : s.length ≤ SZ) : lenD [.str s] = some (.int s.length) := if_pos h
@[simp] theorem ixD_lst (ds : List Dat) (i : Int) : ixD (.lst ds) (.int i) = atI ds i := rfl
@[simp] theorem ixD_tup (ds : List Dat) (i : Int) : ixD (.tup ds) (.int i) = atI ds i := rfl
theorem ixN_0 {n : Nat} : ixN (n + 1) 0 = some 0 := by simp [ixN]
theorem ixN_1 {n : Nat} : ixN (n + 2) 1 = some 1 := by
  unfold ixN
  rw [if_pos (by decide), if_pos (by omega)]
  rfl
@[simp] theorem scal_int (i : Int) : scalD (.int i) = true := rfl
@[simp] theorem scal_str (i : Str) : scalD (.str i) = true := rfl
@[simp] theorem scal_bl (i : Bool) : scalD (.bl i) = true := rfl
theorem pow18 : powD (.int 10) (.int 18) = some (.int 1000000000000000000) := by
  show (if ((0 : Int) ≤ 18 ∧ (18 : Int) ≤ 1000000) ∧ (10 : Int).natAbs < 18446744073709551616 then some (Dat.int (10 ^ (18 : Int).toNat)) else none) = _
  rw [if_pos ⟨⟨by decide, by decide⟩, by decide⟩]
  rfl

/-- a number drawn -/
theorem below_ok {d : List Int} {n : Int} (hd : SrcOk d) (hn : 0 < n) (hn2 : n < 9223372036854775808) : ∃ r d', 0 ≤ r ∧ r < n ∧ SrcOk d' ∧ f_law_below [.ol none (d.map .int), .sh (.int n)] = some (.sh (.int r), [some (.ol none (d'.map .int)), none]) := by
  obtain ⟨s, c, rest, rfl, hs, hc, hr⟩ := hd
  -- the second and third statement
  have tail : ∀ (s c : Int) (rest : List Int), 0 ≤ s → 0 ≤ c → (∀ x ∈ rest, 0 ≤ x) → ∃ r d' x, 0 ≤ r ∧ r < n ∧ SrcOk d' ∧
      (sq (iff_ (viewB 0 (tst (bin gtD (bin ixD (vr 0) (cst (.int 1))) (cst (.int 0)))))
        (sq (asg 2 (shM (bin modD (viewM 0 (bin ixD (vr 0) (cst (.int 1)))) (vr 1))))
        (sq (putAt (.nm 0) (bin fdvD (viewM 0 (bin ixD (vr 0) (cst (.int 1)))) (vr 1)) (cst (.int 1)))
        (rtn (shM (vr 2)))))
        nop)
        (sq (putAt (.nm 0) (bin modD (bin addD (bin mulD (viewM 0 (bin ixD (vr 0) (cst (.int 0)))) (cst (.int 48271))) (cst (.int 11))) (cst (.int 2147483647))) (cst (.int 0)))
        (rtn (shM (bin modD (bin fdvD (viewM 0 (bin ixD (vr 0) (cst (.int 0)))) (cst (.int 64))) (vr 1)))))) [some (.ol (some 0) ((s :: c :: rest).map .int)), some (.sh (.int n)), none] = some (.rt (.sh (.int r)), [some (.ol (some 0) (d'.map .int)), some (.sh (.int n)), x]) := by
    intro s c rest hs hc hr
    by_cases h0 : 0 < c
    · refine ⟨c % n, s :: (c / n) :: rest, some (.sh (.int (c % n))), Int.emod_nonneg _ (by omega), Int.emod_lt_of_pos _ hn, ⟨s, c / n, rest, rfl, hs, Int.ediv_nonneg hc (by omega), hr⟩, ?_⟩
      simp [atI_1, h0, hn, hn2, ixN_1]
    · refine ⟨((s * 48271 + 11) % 2147483647) / 64 % n, ((s * 48271 + 11) % 2147483647) :: c :: rest, none, Int.emod_nonneg _ (by omega), Int.emod_lt_of_pos _ hn, ⟨_, c, rest, rfl, Int.emod_nonneg _ (by omega), hc, hr⟩, ?_⟩
      simp [atI_1, atI_0, h0, hn, hn2, ixN_0, mulD_int]
  have fin : ∀ {o : Option (Fl × Env)} {r : Int} {d' : List Int} {x : Option Sl}, b_law_below [some (.ol (some 0) ((s :: c :: rest).map .int)), some (.sh (.int n)), none] = some (.rt (.sh (.int r)), [some (.ol (some 0) (d'.map .int)), some (.sh (.int n)), x]) → f_law_below [.ol none ((s :: c :: rest).map .int), .sh (.int n)] = some (.sh (.int r), [some (.ol none (d'.map .int)), none]) := by
    intro o r d' x h
    have := ev_def (n := 2) (N := 3) (F := b_law_below) (ins := [.ol none ((s :: c :: rest).map .int), .sh (.int n)]) rfl (by simp [tagAll]) h
    unfold f_law_below
    rw [this]
    simp [outsOf, List.range_succ, tagOf]
  by_cases h1 : c = 0
  · cases rest with
    | nil =>
      subst h1
      obtain ⟨r, d', x, g1, g2, g3, g4⟩ := tail s 0 [] hs (by omega) (by simp)
      refine ⟨r, d', g1, g2, g3, fin (o := none) (sq_nx (ρ1 := _) (if_f (ρ1 := _) ?_ rfl) g4)⟩
      simp [atI_1]
    | cons y rest =>
      subst h1
      obtain ⟨r, d', x, g1, g2, g3, g4⟩ := tail s y rest hs (hr y (by simp)) (fun z hz => hr z (List.mem_cons_of_mem _ hz))
      refine ⟨r, d', g1, g2, g3, fin (o := none) (sq_nx (ρ1 := _) (if_t (ρ1 := [some (.ol (some 0) ((s :: 0 :: y :: rest).map .int)), some (.sh (.int n)), none]) ?_ ?_) g4)⟩
      · simp [atI_1]
        omega
      · have e : seqIndex? 2 (rest.length + 1 + 1 + 1) = some 2 := by
          have := seqIndex_of (k := 2) (n := rest.length + 1 + 1 + 1) (by decide) (by omega)
          simpa using this
        simp [popG, e, ixN_1]
  · obtain ⟨r, d', x, g1, g2, g3, g4⟩ := tail s c rest hs hc hr
    refine ⟨r, d', g1, g2, g3, fin (o := none) (sq_nx (ρ1 := _) (if_f (ρ1 := _) ?_ rfl) g4)⟩
    simp [atI_1, h1]

theorem getI {xs : List Int} {i : Nat} {d : Dat} (h : (xs.map Dat.int)[i]? = some d) : ∃ j, d = .int j ∧ xs[i]? = some j := by
  rw [List.getElem?_map] at h
  obtain ⟨j, h1, rfl⟩ := Option.map_eq_some_iff.mp h
  exact ⟨j, rfl, h1⟩
/-- the source at the start -/
theorem random_ok (ns : List Int) (hl : ns.length ≤ 63) {salt : Int} (hs : 0 ≤ salt) : ∃ d, SrcOk d ∧ f_law_random [.sh (.lsf (ns.map .int)), .sh (.int salt)] = some (.ol none (d.map .int), [none, none]) := by
  -- the loop
  have loop := for_inv (g := liftF itA (vr 0)) (gb := gnm 3) (body := asg 2 (shM (bin modD (bin addD (bin mulD (vr 2) (cst (.int 31))) (liftA absD (consA (vr 3) nilA))) (cst (.int 2147483647))))) (enc := Dat.int) (xs := ns)
    (ρ := [some (.sh (.lsf (ns.map .int))), some (.sh (.int salt)), some (.sh (.int salt)), none]) (ρ1 := [some (.sh (.lsf (ns.map .int))), some (.sh (.int salt)), some (.sh (.int salt)), none])
    (fun _ ρ => ∃ s x, 0 ≤ s ∧ (x = none ∨ ∃ d, x = some (.sh d)) ∧ ρ = [some (.sh (.lsf (ns.map .int))), some (.sh (.int salt)), some (.sh (.int s)), x]) (by simp [itA]) ⟨salt, none, hs, .inl rfl, rfl⟩ (fun x xs ρ ⟨s, y, h1, _, e⟩ => by
      subst e
      refine ⟨_, _, rfl, .inl ?_, (s * 31 + (if x < 0 then -x else x)) % 2147483647, some (.sh (.int x)), Int.emod_nonneg _ (by omega), .inr ⟨_, rfl⟩, rfl⟩
      simp [mulD_int])
  obtain ⟨ρ2, h1, s, x, h2, h3, rfl⟩ := loop
  have hno : noOwn [some (.sh (.lsf (ns.map .int))), some (.sh (.int salt)), some (.sh (.int s)), x] [3] = true := by
    rcases h3 with rfl | ⟨d, rfl⟩ <;> simp [noOwn, isOwn]
  have hc := lc1 (ρ := [some (.sh (.lsf (ns.map .int))), some (.sh (.int salt)), some (.sh (.int s)), x]) (g := liftF itA (vr 0)) (tt := tst (bin geD (vr 3) (bin powD (cst (.int 10)) (cst (.int 18))))) (te := vr 3) (enc := Dat.int) (i := 3) (xs := ns) (p := fun z => decide (1000000000000000000 ≤ z)) (f := Dat.int)
    (by simp [itA]) hno (fun z _ => by simp [pow18]) (fun z _ _ => by simp)
  refine ⟨s :: 0 :: ns.filter (fun z => decide (1000000000000000000 ≤ z)), ⟨s, 0, _, rfl, h2, by omega, fun z hz => ?_⟩, ?_⟩
  · have := (List.mem_filter.mp hz).2
    simp at this
    omega
  · have hb : b_law_random [some (.sh (.lsf (ns.map .int))), some (.sh (.int salt)), none, none] = some (.rt (.ol none ((s :: 0 :: ns.filter (fun z => decide (1000000000000000000 ≤ z))).map .int)), [some (.sh (.lsf (ns.map .int))), some (.sh (.int salt)), some (.sh (.int s)), x]) := by
      refine sq_nx (ρ1 := [some (.sh (.lsf (ns.map .int))), some (.sh (.int salt)), some (.sh (.int salt)), none]) (by simp) (sq_nx h1 ?_)
      have hlen : (ns.filter fun z => decide (1000000000000000000 ≤ z)).length ≤ 63 := Nat.le_trans (List.length_filter_le _ _) hl
      have h5 : 1 + 1 + (ns.filter fun z => decide (1000000000000000000 ≤ z)).length ≤ 16777216 := by omega
      have h6 : 2 + (ns.filter fun z => decide (1000000000000000000 ≤ z)).length ≤ 16777216 := by omega
      simp [hc, h5, h6]
    have := ev_def (n := 2) (N := 4) (F := b_law_random) (ins := [.sh (.lsf (ns.map .int)), .sh (.int salt)]) rfl (by simp [tagAll]) hb
    unfold f_law_random
    rw [this]
    simp [outsOf, List.range_succ, tagOf]
end DL

set_option Elab.async false
set_option linter.all false
set_option maxRecDepth 100000
set_option maxHeartbeats 1000000
namespace DL
open PySem L2

/-! ### data that can be compared -/
def OkPy (d : Dat) : Prop := ∃ p, toPy d = some p ∧ p.canLay0 = true ∧ p.depth ≤ 60
theorem OkPy.list {ds : List Dat} (h : ∀ d ∈ ds, OkPy d) : ∃ ps, toPyL ds = some ps ∧ PyData.canLayAll0 ps = true ∧ PyData.depthAll ps ≤ 60 ∧ ps.length = ds.length := by
  induction ds with
  | nil => exact ⟨[], by rw [toPyL], by rw [PyData.canLayAll0], by rw [PyData.depthAll]; omega, rfl⟩
  | cons d ds ih =>
    obtain ⟨p, h1, h2, h3⟩ := h d (by simp)
    obtain ⟨ps, g1, g2, g3, g4⟩ := ih fun e he => h e (List.mem_cons_of_mem _ he)
    refine ⟨p :: ps, by rw [toPyL, h1, g1], by rw [PyData.canLayAll0, h2, g2]; rfl, ?_, by simp [g4]⟩
    rw [PyData.depthAll]
    exact Nat.max_le.mpr ⟨h3, g3⟩
theorem shaped_list {ps : List PyData} (h1 : PyData.canLayAll0 ps = true) (h2 : PyData.depthAll ps ≤ 60) : SeqAt.shaped (.list ps) = true := by
  unfold SeqAt.shaped
  rw [PyData.canLay0, h1, PyData.depth]
  simp
  omega
theorem neD_nil {ds : List Dat} (h : ∀ d ∈ ds, OkPy d) : neD (.lst ds) (.lst []) = some (.bl (!ds.isEmpty)) := by
  obtain ⟨ps, h1, h2, h3, h4⟩ := OkPy.list h
  have e1 : toPy (.lst ds) = some (.list ps) := by rw [toPy, h1]; rfl
  have e2 : toPy (.lst []) = some (.list []) := by rw [toPy, toPyL]; rfl
  have e3 : SeqAt.shaped (.list []) = true := shaped_list (by rw [PyData.canLayAll0]) (by rw [PyData.depthAll]; omega)
  unfold neD
  rw [e1, e2]
  simp only
  rw [if_pos ⟨shaped_list h2 h3, e3⟩, PyData.eqv]
  cases ds with
  | nil =>
    cases ps with
    | nil => rw [PyData.eqvAll]; rfl
    | cons p ps => simp at h4
  | cons d ds =>
    cases ps with
    | nil => simp at h4
    | cons p ps => rw [PyData.eqvAll]; rfl
theorem okPy_int (i : Int) : OkPy (.int i) := ⟨_, by rw [toPy], by rw [PyData.canLay0], by rw [PyData.depth]; omega⟩
theorem okPy_str {s : Str} (h : PyData.strOk s = true) : OkPy (.str s) := ⟨_, by rw [toPy], by rw [PyData.canLay0]; exact h, by rw [PyData.depth]; omega⟩
/-! ### shuffled -/
theorem seqIx {r : Int} {n : Nat} (h0 : 0 ≤ r) (h1 : r < n) : seqIndex? r n = some r.toNat := seqIndex_of h0 h1
theorem perm_erase {α : Type} : ∀ {l : List α} {i : Nat} {x : α}, l[i]? = some x → (x :: l.eraseIdx i).Perm l
  | [], _, _, h => by simp at h
  | y :: l, 0, x, h => by simp at h; subst h; exact List.Perm.refl _
  | y :: l, i + 1, x, h => by
    have h' : l[i]? = some x := by simpa using h
    rw [List.eraseIdx_cons_succ]
    exact (List.Perm.swap y x _).trans ((perm_erase h').cons y)
theorem shuffled_ok {d : List Int} {items : List Dat} (hd : SrcOk d) (hi : ∀ x ∈ items, OkPy x) (hl : items.length ≤ 1000) : ∃ res d', res.Perm items ∧ SrcOk d' ∧ f_law_shuffled [.ol none (d.map .int), .sh (.lst items)] = some (.ol none res, [some (.ol none (d'.map .int)), none]) := by
  let E (d : List Int) (pool res : List Dat) : Env := [some (.ol (some 0) (d.map .int)), some (.sh (.lst items)), some (.ol none pool), some (.ol none res)]
  have loop := while_inv (c := viewB 2 (tst (bin neD (vr 2) (frzM (lstM nilA)))))
    (body := dropS (shM (mutM (.nm 3) appG (consA (mutM (.nm 2) popG (consA (frzM (callO f_law_below (consA (slA 0) (consA (bnd (viewM 2 (liftA lenD (consA (vr 2) nilA))) fun d => ret (.sh d)) nilA)))) nilA)) nilA))))
    (fun m ρ => ∃ d pool res, m = pool.length ∧ ρ = E d pool res ∧ (res ++ pool).Perm items ∧ SrcOk d) (fun ρ => ∃ d res, ρ = E d [] res ∧ res.Perm items ∧ SrcOk d) (by
      rintro m ρ ⟨d, pool, res, rfl, rfl, hp, hd⟩
      have hle := hp.length_eq
      rw [List.length_append] at hle
      have hpl : pool.length ≤ 1000 := by omega
      have hrl : res.length ≤ 1000 := by omega
      have hpo : ∀ x ∈ pool, OkPy x := fun x hx => hi x (hp.subset (List.mem_append_right _ hx))
      have ne := neD_nil hpo
      by_cases h0 : pool = []
      · subst h0
        refine .inl ⟨E d [] res, ?_, d, res, rfl, by simpa using hp, hd⟩
        simp [E, ne]
      · refine .inr ?_
        have hpos : 0 < pool.length := List.length_pos_iff.mpr h0
        have hemp : pool.isEmpty = false := by cases pool with
          | nil => exact absurd rfl h0
          | cons _ _ => rfl
        rw [hemp] at ne
        obtain ⟨r, d', h1, h2, h3, h4⟩ := below_ok (n := (pool.length : Nat)) hd (by omega) (by omega)
        have hr : r.toNat < pool.length := by omega
        obtain ⟨y, hy⟩ : ∃ y, pool[r.toNat]? = some y := ⟨_, List.getElem?_eq_getElem hr⟩
        have hs := seqIx h1 h2
        refine ⟨E d pool res, E d' (pool.eraseIdx r.toNat) (res ++ [y]), (pool.eraseIdx r.toNat).length, ?_, ?_, ?_, d', _, _, rfl, rfl, ?_, h3⟩
        · rw [List.length_eraseIdx, if_pos hr]; omega
        · simp [E, ne]
        · have hb : -9223372036854775808 ≤ r ∧ r < 9223372036854775808 := by omega
          have hpop : popG pool [.int r] = some (pool.eraseIdx r.toNat, y) := by
            unfold popG
            simp only
            rw [if_pos hb, hs]
            simp only [hy, Option.map_some]
          have happ : appG res [y] = some (res ++ [y], .non) := by
            unfold appG
            simp only
            rw [if_pos (by show res.length < 16777216; omega)]
          simp [E, h4, hpop, happ, kOf, putO, retag, tagOf]
        · refine List.Perm.trans ?_ hp
          rw [List.append_assoc]
          exact List.Perm.append_left _ (perm_erase hy))
  obtain ⟨ρ', h1, d', res, rfl, h2, h3⟩ := loop 1000000 items.length (E d items []) ⟨d, items, [], rfl, rfl, by simp, hd⟩ (by omega)
  refine ⟨res, d', h2, h3, ?_⟩
  have hb : b_law_shuffled [some (.ol (some 0) (d.map .int)), some (.sh (.lst items)), none, none] = some (.rt (.ol none res), [some (.ol (some 0) (d'.map .int)), some (.sh (.lst items)), some (.ol none []), none]) := by
    refine sq_nx (ρ1 := [some (.ol (some 0) (d.map .int)), some (.sh (.lst items)), some (.ol none items), none]) (by simp [listS, seqD]) (sq_nx (ρ1 := E d items []) (by simp [E]) (sq_nx h1 ?_))
    simp [E]
  have := ev_def (n := 2) (N := 4) (F := b_law_shuffled) (ins := [.ol none (d.map .int), .sh (.lst items)]) rfl (by simp [tagAll]) hb
  unfold f_law_shuffled
  rw [this]
  simp [outsOf, List.range_succ, tagOf]
end DL

set_option Elab.async false
set_option linter.all false
set_option maxRecDepth 100000
set_option maxHeartbeats 1000000
namespace DL
open PySem L2

@[simp] theorem at4_0 {α : Type} (a b c d : α) : atI [a, b, c, d] 0 = some a := rfl
@[simp] theorem at4_1 {α : Type} (a b c d : α) : atI [a, b, c, d] 1 = some b := rfl
@[simp] theorem at4_2 {α : Type} (a b c d : α) : atI [a, b, c, d] 2 = some c := rfl
@[simp] theorem at4_3 {α : Type} (a b c d : α) : atI [a, b, c, d] 3 = some d := rfl
@[simp] theorem at3_0 {α : Type} (a b c : α) : atI [a, b, c] 0 = some a := rfl
@[simp] theorem at3_1 {α : Type} (a b c : α) : atI [a, b, c] 1 = some b := rfl
@[simp] theorem at3_2 {α : Type} (a b c : α) : atI [a, b, c] 2 = some c := rfl
@[simp] theorem at2_0 {α : Type} (a b : α) : atI [a, b] 0 = some a := rfl
@[simp] theorem at2_1 {α : Type} (a b : α) : atI [a, b] 1 = some b := rfl
theorem at2 {α : Type} (a b : α) {i : Int} (h0 : 0 ≤ i) (h1 : i < 2) : atI [a, b] i = some (if i = 0 then a else b) := by
  have : i = 0 ∨ i = 1 := by omega
  rcases this with rfl | rfl <;> rfl
@[simp] theorem ev_forD (g : M (List Dat)) (gb : Dat → Env → Option Env) (body : Fm) (ρ : Env) : forD g gb body ρ = (g ρ).bind fun p => loopD gb body p.1 p.2 := by
  unfold forD
  cases g ρ <;> rfl

theorem rngL0 (n : Nat) : rngL 0 n = (List.range n).map fun i : Nat => Dat.int (i : Int) := by simp [rngL]
theorem itR1_nat {n : Nat} (h : n ≤ 16777216) : itR1 [.int (n : Int)] = some ((List.range n).map fun i : Nat => Dat.int (i : Int)) := by
  rw [← rngL0]
  unfold itR1
  simp only
  rw [if_pos (by omega)]
  simp
/-! ### plans as the laws have them -/
structure Mt where
  tell : Bool
  one : Nat
  other : Nat
  tick : Nat
  deriving DecidableEq
def Mt.word (m : Mt) : Str := if m.tell then "tell" else "meet"
def enM (m : Mt) : Dat := .tup [.str m.word, .int m.one, .int m.other, .int m.tick]
structure Pln where
  size : Nat
  names : List Str
  mts : List Mt
abbrev enNs (ns : List Str) : List Dat := ns.map .str
def enPl (p : Pln) : Dat := .tup [.int p.size, .tuf (enNs p.names), .lst (p.mts.map enM)]
def ordM (n : Nat) (ms : List Mt) : List Mt := (List.range n).flatMap fun t => ms.filter fun m => decide (m.tick = t)
def Pln.ord (p : Pln) : Pln := { p with mts := ordM p.size p.mts }
theorem ordered_ok {p : Pln} (hs : p.size ≤ 1000) (hm : p.mts.length ≤ 1000) : f_law_ordered [.sh (enPl p)] = some (.sh (enPl p.ord), [none]) := by
  let E (found : List Mt) (x : Option Sl) : Env := [some (.sh (enPl p)), some (.sh (.lst (found.map enM))), x, none]
  have loop := for_inv (g := liftA itR1 (consA (bin ixD (vr 0) (cst (.int 0))) nilA)) (gb := gnm 2)
    (body := asg 1 (shM (bin addD (vr 1) (frzM (lcD [3] (liftF itA (bin ixD (vr 0) (cst (.int 2)))) (gnm 3) (tst (bin eqD (bin ixD (vr 3) (cst (.int 3))) (vr 2))) (vr 3))))))
    (enc := fun i : Nat => Dat.int (i : Int)) (xs := List.range p.size) (ρ := E [] none) (ρ1 := E [] none)
    (fun xs ρ => ∃ done x, done ++ xs = List.range p.size ∧ ρ = E (done.flatMap fun t => p.mts.filter fun m => decide (m.tick = t)) x ∧ (done.flatMap fun t => p.mts.filter fun m => decide (m.tick = t)).length ≤ done.length * 1000)
    (by
      have := itR1_nat (n := p.size) (by omega)
      simp [E, enPl, this]) ⟨[], none, rfl, rfl, by simp⟩ (fun t xs ρ ⟨done, x, h1, h2, h3⟩ => by
      subst h2
      have hd : done.length ≤ 1000 := by
        have := congrArg List.length h1
        simp at this
        omega
      let F := done.flatMap fun t => p.mts.filter fun m => decide (m.tick = t)
      have hc := lc1 (ρ := E F (some (.sh (.int (t : Int))))) (g := liftF itA (bin ixD (vr 0) (cst (.int 2)))) (tt := tst (bin eqD (bin ixD (vr 3) (cst (.int 3))) (vr 2))) (te := vr 3) (enc := enM) (i := 3) (xs := p.mts) (p := fun m => decide (m.tick = t)) (f := enM) (ρ1 := E F (some (.sh (.int (t : Int)))))
        (by simp [E, enPl, itA]) (by simp [noOwn, E]) (fun m _ => by simp [E, enM]; by_cases h : m.tick = t <;> simp [h]; omega) (fun m _ _ => by simp [E])
      have hf : (p.mts.filter fun m => decide (m.tick = t)).length ≤ 1000 := Nat.le_trans (List.length_filter_le _ _) hm
      refine ⟨E F (some (.sh (.int (t : Int)))), E (F ++ p.mts.filter fun m => decide (m.tick = t)) (some (.sh (.int (t : Int)))), rfl, .inl ?_, done ++ [t], some (.sh (.int (t : Int))), by rw [List.append_assoc]; exact h1, by simp [F], ?_⟩
      · have hF : F.length ≤ 1000000 := by
          have : done.length * 1000 ≤ 1000 * 1000 := Nat.mul_le_mul_right _ hd
          show (done.flatMap fun t => p.mts.filter fun m => decide (m.tick = t)).length ≤ _
          omega
        have hadd : addD (.lst (F.map enM)) (.lst ((p.mts.filter fun m => decide (m.tick = t)).map enM)) = some (.lst ((F ++ p.mts.filter fun m => decide (m.tick = t)).map enM)) := by
          unfold addD
          simp only [List.length_map]
          rw [if_pos (by show _ ≤ 16777216; omega), List.map_append]
        have e1 : E F (some (.sh (.int (t : Int)))) = [some (.sh (enPl p)), some (.sh (.lst (F.map enM))), some (.sh (.int (t : Int))), none] := rfl
        rw [ev_asg, ev_shM, ev_bin]
        have e2 : vr 1 (E F (some (.sh (.int (t : Int))))) = some (.lst (F.map enM), E F (some (.sh (.int (t : Int))))) := rfl
        rw [e2]
        simp only [Option.bind_some, ev_frzM, hc, Option.map_some, frz_ol, hadd]
        rfl
      · simp only [List.flatMap_append, List.length_append, List.flatMap_cons, List.flatMap_nil, List.append_nil, List.length_cons, List.length_nil]
        omega)
  obtain ⟨ρ', h1, done, x, h2, rfl, h3⟩ := loop
  rw [List.append_nil] at h2
  subst h2
  have hb : b_law_ordered [some (.sh (enPl p)), none, none, none] = some (.rt (.sh (enPl p.ord)), E (ordM p.size p.mts) x) := by
    refine sq_nx (ρ1 := E [] none) (by simp [E]) (sq_nx h1 ?_)
    simp [E, enPl, Pln.ord, ordM]
  have := ev_def (n := 1) (N := 4) (F := b_law_ordered) (ins := [.sh (enPl p)]) rfl (by simp [tagAll]) hb
  unfold f_law_ordered
  rw [this]
  simp [outsOf, List.range_succ, tagOf, E]
end DL

set_option Elab.async false
set_option linter.all false
set_option maxRecDepth 100000
set_option maxHeartbeats 1000000
namespace DL
open PySem L2

def eight : List Str := ["a", "bo", "carl", "dora", "ella", "f", "gustav", "hannahhh"]
structure PlOk (p : Pln) : Prop where
  s1 : 1 ≤ p.size
  s2 : p.size ≤ 60
  nn : p.names.Nodup
  ns : ∀ n ∈ p.names, n ∈ eight
  n2 : 2 ≤ p.names.length
  n8 : p.names.length ≤ 8
  ms : ∀ m ∈ p.mts, m.one < p.names.length ∧ m.other < p.names.length ∧ m.one ≠ m.other ∧ m.tick < p.size
  mn : p.mts.Nodup
  ml : p.mts.length ≤ 20
/-! ### meetings by ticks -/
theorem filter_perm {α : Type} (q : α → Bool) : ∀ l : List α, (l.filter q ++ l.filter fun x => !q x).Perm l
  | [] => List.Perm.refl _
  | x :: l => by
    cases h : q x with
    | true => simp only [List.filter_cons, h, if_true, Bool.not_true]; exact (filter_perm q l).cons x
    | false =>
      simp only [List.filter_cons, h, Bool.not_false, if_true]
      exact List.perm_middle.trans ((filter_perm q l).cons x)
theorem ordM_succ (n : Nat) (ms : List Mt) : ordM (n + 1) ms = ordM n ms ++ ms.filter fun m => decide (m.tick = n) := by
  unfold ordM
  rw [List.range_succ, List.flatMap_append]
  simp
theorem ordM_lt : ∀ (n : Nat) (ms : List Mt), (ordM n ms).Perm (ms.filter fun m => decide (m.tick < n))
  | 0, ms => by simp [ordM]
  | n + 1, ms => by
    rw [ordM_succ]
    have h1 := (ordM_lt n ms).append_right (ms.filter fun m => decide (m.tick = n))
    refine h1.trans ?_
    have h2 := filter_perm (fun m : Mt => decide (m.tick < n)) (ms.filter fun m => decide (m.tick < n + 1))
    rw [List.filter_filter, List.filter_filter] at h2
    have e1 : (fun m : Mt => decide (m.tick < n) && decide (m.tick < n + 1)) = fun m => decide (m.tick < n) := by
      funext m
      by_cases h : m.tick < n
      · simp [h]; omega
      · simp [h]
    have e2 : (fun m : Mt => (!decide (m.tick < n)) && decide (m.tick < n + 1)) = fun m => decide (m.tick = n) := by
      funext m
      by_cases h : m.tick < n
      · simp [h]; omega
      · by_cases h' : m.tick = n
        · simp [h']
        · simp [h, h']; omega
    rw [e1, e2] at h2
    exact h2
theorem ordM_perm {n : Nat} {ms : List Mt} (h : ∀ m ∈ ms, m.tick < n) : (ordM n ms).Perm ms := by
  have := ordM_lt n ms
  rwa [List.filter_eq_self.mpr fun m hm => decide_eq_true (h m hm)] at this
theorem ordM_mem {n : Nat} {ms : List Mt} {m : Mt} : m ∈ ordM n ms ↔ m ∈ ms ∧ m.tick < n := by
  rw [(ordM_lt n ms).mem_iff, List.mem_filter]
  simp
theorem ordM_filter (n t : Nat) (ms : List Mt) : (ordM n ms).filter (fun m => decide (m.tick = t)) = if t < n then ms.filter (fun m => decide (m.tick = t)) else [] := by
  induction n with
  | zero => simp [ordM]
  | succ n ih =>
    rw [ordM_succ, List.filter_append, ih, List.filter_filter]
    by_cases h : t < n
    · rw [if_pos h, if_pos (by omega)]
      have : (ms.filter fun m => decide (m.tick = t) && decide (m.tick = n)) = [] := by
        rw [List.filter_eq_nil_iff]
        intro m _ hm
        simp at hm
        omega
      rw [this, List.append_nil]
    · rw [if_neg h, List.nil_append]
      by_cases h2 : t = n
      · subst h2
        rw [if_pos (by omega)]
        congr 1
        funext m
        simp
      · rw [if_neg (by omega)]
        rw [List.filter_eq_nil_iff]
        intro m _ hm
        simp at hm
        omega
theorem ordM_idem (n : Nat) (ms : List Mt) : ordM n (ordM n ms) = ordM n ms := by
  have key : ∀ k, k ≤ n → ordM k (ordM n ms) = ordM k ms := by
    intro k hk
    induction k with
    | zero => simp [ordM]
    | succ k ih =>
      rw [ordM_succ, ordM_succ, ih (by omega), ordM_filter, if_pos (by omega)]
  exact key n (Nat.le_refl _)
theorem PlOk.ord {p : Pln} (h : PlOk p) : PlOk p.ord := by
  have hp := ordM_perm (n := p.size) (ms := p.mts) fun m hm => (h.ms m hm).2.2.2
  exact ⟨h.s1, h.s2, h.nn, h.ns, h.n2, h.n8, fun m hm => h.ms m (hp.mem_iff.mp hm), hp.nodup_iff.mpr h.mn, by rw [show p.ord.mts.length = _ from hp.length_eq]; exact h.ml⟩
theorem Pln.ord_ord (p : Pln) : p.ord.ord = p.ord := by
  unfold Pln.ord
  simp only [ordM_idem]
/-! ### what can be compared -/
theorem strOk_eight : ∀ s ∈ eight, PyData.strOk s = true := by decide +kernel
theorem strOk_word (m : Mt) : PyData.strOk m.word = true := by
  unfold Mt.word
  cases m.tell <;> decide +kernel
def pyM (m : Mt) : PyData := .tuple [.str m.word, .int m.one, .int m.other, .int m.tick]
theorem toPy_enM (m : Mt) : toPy (enM m) = some (pyM m) := by
  unfold enM pyM
  simp [toPy, toPyL]
theorem lay_pyM (m : Mt) : (pyM m).canLay0 = true ∧ (pyM m).depth ≤ 60 := by
  unfold pyM
  simp [PyData.canLay0, PyData.canLayAll0, strOk_word, PyData.depth, PyData.depthAll]
theorem okPy_enM (m : Mt) : OkPy (enM m) := ⟨pyM m, toPy_enM m, (lay_pyM m).1, (lay_pyM m).2⟩
theorem word_inj {m n : Mt} (h : m.word = n.word) : m.tell = n.tell := by
  unfold Mt.word at h
  cases hm : m.tell <;> cases hn : n.tell <;> rw [hm, hn] at h <;> first | rfl | exact absurd h (by decide +kernel)
theorem eqv_pyM (m n : Mt) : PyData.eqv (pyM m) (pyM n) = decide (m = n) := by
  unfold pyM
  simp only [PyData.eqv, PyData.eqvAll]
  by_cases h : m = n
  · subst h; simp
  · rw [decide_eq_false h]
    by_cases h1 : m.word = n.word
    · by_cases h2 : m.one = n.one
      · by_cases h3 : m.other = n.other
        · by_cases h4 : m.tick = n.tick
          · exact absurd (by have h5 := word_inj h1; cases m; cases n; simp only [Mt.mk.injEq] at *; exact ⟨h5, h2, h3, h4⟩) h
          · have : ((m.tick : Int) == (n.tick : Int)) = false := by simp; omega
            simp [this]
        · have : ((m.other : Int) == (n.other : Int)) = false := by simp; omega
          simp [this]
      · have : ((m.one : Int) == (n.one : Int)) = false := by simp; omega
        simp [this]
    · have : (m.word == n.word) = false := by simpa using h1
      simp [this]
theorem toPyL_ms : ∀ ms : List Mt, toPyL (ms.map enM) = some (ms.map pyM)
  | [] => by rw [List.map_nil, toPyL]; rfl
  | m :: ms => by rw [List.map_cons, toPyL, toPy_enM, toPyL_ms ms]; rfl
theorem any_pyM (m : Mt) (ms : List Mt) : ((ms.map pyM).any fun z => PyData.eqv z (pyM m)) = decide (m ∈ ms) := by
  rw [Bool.eq_iff_iff]
  simp [List.any_map, eqv_pyM]
theorem shaped_ms (ms : List Mt) : SeqAt.shaped (.list (ms.map pyM)) = true := by
  obtain ⟨ps, h1, h2, h3, h4⟩ := OkPy.list (ds := ms.map enM) (fun d hd => by
    obtain ⟨m, _, rfl⟩ := List.mem_map.mp hd
    exact okPy_enM m)
  rw [toPyL_ms] at h1
  cases h1
  exact shaped_list h2 h3
theorem shaped_m (m : Mt) : SeqAt.shaped (pyM m) = true := by
  unfold SeqAt.shaped
  rw [(lay_pyM m).1]
  have := (lay_pyM m).2
  simp
  omega
theorem inB_ms (m : Mt) (ms : List Mt) : inB (enM m) (.lst (ms.map enM)) = some (decide (m ∈ ms)) := by
  have e : inB (enM m) (.lst (ms.map enM)) = match toPy (enM m), toPyL (ms.map enM) with
    | some a, some bs => if SeqAt.shaped a = true ∧ SeqAt.shaped (.list bs) = true then some (bs.any fun z => PyData.eqv z a) else none
    | _, _ => none := rfl
  rw [e, toPy_enM, toPyL_ms]
  simp only
  rw [if_pos ⟨shaped_m m, shaped_ms ms⟩, any_pyM]
theorem ninD_ms (m : Mt) (ms : List Mt) : ninD (enM m) (.lst (ms.map enM)) = some (.bl (!decide (m ∈ ms))) := by
  unfold ninD
  rw [inB_ms]
  rfl
/-! ### the random plan -/
def unS : Dat → Str
  | .str s => s
  | _ => Str.empty
theorem perm_strs {res : List Dat} {ns : List Str} (h : res.Perm (ns.map .str)) : ∃ ms : List Str, res = ms.map .str ∧ ms.Perm ns := by
  refine ⟨res.map unS, ?_, ?_⟩
  · rw [List.map_map]
    symm
    rw [List.map_congr_left (g := id) (fun x hx => ?_), List.map_id]
    obtain ⟨s, _, rfl⟩ := List.mem_map.mp (h.mem_iff.mp hx)
    rfl
  · have := h.map unS
    rw [List.map_map] at this
    have e : (unS ∘ Dat.str) = id := rfl
    rwa [e, List.map_id] at this
theorem cut_take {α : Type} (xs : List α) {k : Int} (h : 0 ≤ k) : cut xs none (some k) = xs.take k.toNat := by
  unfold cut
  have e1 : HT.sIx xs.length 0 none = 0 := rfl
  have e2 : HT.sIx xs.length xs.length (some k) = min k.toNat xs.length := by
    unfold HT.sIx
    simp only
    rw [if_neg (by omega)]
  rw [e1, e2, List.drop_zero, Nat.sub_zero]
  rcases Nat.le_total k.toNat xs.length with h | h
  · rw [Nat.min_eq_left h]
  · rw [Nat.min_eq_right h, List.take_length, List.take_of_length_le h]

theorem eight_len : eight.length = 8 := rfl
theorem eight_nd : eight.Nodup := by decide +kernel
theorem mulD_lst {xs : List Dat} {k : Nat} (h : xs.length * k ≤ SZ) (hk : k ≤ 1000) : mulD (.lst xs) (.int (k : Int)) = some (.lst (List.replicate k xs).flatten) := by
  show (if (-9223372036854775808 ≤ (k : Int) ∧ (k : Int) < 9223372036854775808) ∧ xs.length * (k : Int).toNat ≤ SZ then some (Dat.lst (List.replicate (k : Int).toNat xs).flatten) else none) = _
  rw [if_pos ⟨by omega, by simpa using h⟩]
  simp
theorem addD_lst {xs ys : List Dat} (h : xs.length + ys.length ≤ 16777216) : addD (.lst xs) (.lst ys) = some (.lst (xs ++ ys)) := if_pos h
abbrev dS (d : List Int) : Option Sl := some (.ol (some 0) (d.map .int))
abbrev iS (i : Int) : Option Sl := some (.sh (.int i))
def plE (d : List Int) (most ticks : Int) (names : List Str) (size : Int) (ms : List Mt) (a b c e : Option Sl) : Env := [dS d, iS most, iS ticks, some (.sh (.lst (enNs names))), iS size, some (.sh (.lst (ms.map enM))), a, b, c, e]
set_option maxHeartbeats 4000000 in
theorem plan_ok2 {d : List Int} (hd : SrcOk d) {most ticks : Int} (hm : 2 ≤ most) (hm8 : most ≤ 8) (ht : 1 ≤ ticks) (ht60 : ticks ≤ 60) : ∃ p d', PlOk p ∧ p.ord = p ∧ p.mts ≠ [] ∧ p.names.length ≤ most ∧ p.size ≤ ticks ∧ SrcOk d' ∧
    f_law_plan [.ol none (d.map .int), .sh (.int most), .sh (.int ticks)] = some (.sh (enPl p), [some (.ol none (d'.map .int)), none, none]) := by
  -- the names
  obtain ⟨res, d1, hp, hd1, hf1⟩ := shuffled_ok (items := enNs eight) hd (fun x hx => by
    obtain ⟨s, hs, rfl⟩ := List.mem_map.mp hx
    exact okPy_str (strOk_eight s hs)) (by decide)
  obtain ⟨all, rfl, hall⟩ := perm_strs hp
  obtain ⟨r2, d2, h20, h21, hd2, hf2⟩ := below_ok (n := most - 1) hd1 (by omega) (by omega)
  obtain ⟨r3, d3, h30, h31, hd3, hf3⟩ := below_ok (n := ticks) hd2 (by omega) (by omega)
  obtain ⟨r4, d4, h40, h41, hd4, hf4⟩ := below_ok (n := 5) hd3 (by omega) (by omega)
  obtain ⟨r5, d5, h50, h51, hd5, hf5⟩ := below_ok (n := 3) hd4 (by omega) (by omega)
  let names := all.take (2 + r2).toNat
  have hal : all.length = 8 := hall.length_eq.trans eight_len
  have hnl : names.length = (2 + r2).toNat := by
    show (all.take (2 + r2).toNat).length = _
    rw [List.length_take, hal]
    omega
  have hnn : names.Nodup := ((hall.nodup_iff.mpr eight_nd).sublist (List.take_sublist _ _))
  have hns : ∀ n ∈ names, n ∈ eight := fun n hn => hall.mem_iff.mp (List.mem_of_mem_take hn)
  obtain ⟨cnt, hce⟩ : ∃ c : Int, c = (if r4 = 0 then (20 : Int) else 2 * (names.length : Int)) - r5 := ⟨_, rfl⟩
  have hnI : (names.length : Int) = 2 + r2 := by omega
  have hcnt : cnt ≤ 20 ∧ 1 ≤ cnt := by
    rw [hce]
    split <;> omega
  have hnames : all.take (2 + r2).toNat = names := rfl
  have hn2 : 2 ≤ names.length := by omega
  -- the loop
  have loop := for_inv (g := liftA itR1 (consA (bin subD (bin ixD (frzM (lstM (consA (bin mulD (cst (.int 2)) (liftA lenD (consA (vr 3) nilA))) (consA (cst (.int 20)) nilA)))) (liftA toInt (consA (bin eqD (frzM (callO f_law_below (consA (slA 0) (consA (bnd (cst (.int 5)) fun d => ret (.sh d)) nilA)))) (cst (.int 0))) nilA))) (frzM (callO f_law_below (consA (slA 0) (consA (bnd (cst (.int 3)) fun d => ret (.sh d)) nilA))))) nilA))
    (gb := gnm 6)
    (body := (sq (asg 7 (shM (frzM (callO f_law_below (consA (slA 0) (consA (bnd (liftA lenD (consA (vr 3) nilA)) fun d => ret (.sh d)) nilA))))))
  (sq (asg 8 (shM (bin modD (bin addD (bin addD (vr 7) (cst (.int 1))) (frzM (callO f_law_below (consA (slA 0) (consA (bnd (bin subD (liftA lenD (consA (vr 3) nilA)) (cst (.int 1))) fun d => ret (.sh d)) nilA))))) (liftA lenD (consA (vr 3) nilA)))))
  (sq (asg 9 (shM (tupM (consA (bin ixD (frzM (lstM (consA (cst (.str "meet")) (consA (cst (.str "tell")) nilA)))) (frzM (callO f_law_below (consA (slA 0) (consA (bnd (cst (.int 2)) fun d => ret (.sh d)) nilA))))) (consA (vr 7) (consA (vr 8) (consA (frzM (callO f_law_below (consA (slA 0) (consA (bnd (vr 4) fun d => ret (.sh d)) nilA)))) nilA)))))))
  (asg 5 (shM (bin addD (vr 5) (bin mulD (frzM (lstM (consA (vr 9) nilA))) (liftA toInt (consA (bin ninD (vr 9) (vr 5)) nilA))))))))))
    (enc := fun i : Nat => Dat.int (i : Int)) (xs := List.range cnt.toNat) (ρ := plE d3 most ticks names (1 + r3) [] none none none none) (ρ1 := plE d5 most ticks names (1 + r3) [] none none none none)
    (fun xs ρ => ∃ d ms a b c e, ρ = plE d most ticks names (1 + r3) ms a b c e ∧ SrcOk d ∧ (∀ m ∈ ms, m.one < names.length ∧ m.other < names.length ∧ m.one ≠ m.other ∧ (m.tick : Int) < 1 + r3) ∧ ms.Nodup ∧ ms.length + xs.length ≤ 20 ∧ (ms ≠ [] ∨ 0 < xs.length))
    (by
      have e1 : atI [Dat.int (2 * (names.length : Int)), Dat.int 20] (if r4 = 0 then 1 else 0) = some (.int (if r4 = 0 then (20 : Int) else 2 * (names.length : Int))) := by
        by_cases h : r4 = 0
        · rw [if_pos h, if_pos h]; rfl
        · rw [if_neg h, if_neg h]; rfl
      have e2 : itR1 [.int cnt] = some ((List.range cnt.toNat).map fun i : Nat => Dat.int (i : Int)) := by
        unfold itR1
        simp only
        rw [if_pos (by omega), rngL0]
      have e3 : mulD (.int 2) (.int (names.length : Int)) = some (.int (2 * (names.length : Int))) := mulD_int _ _ (by omega)
      simp [plE, hf4, hf5, kOf, putO, retag, tagOf, e3, toInt, e1, ← hce, e2])
    ⟨d5, [], none, none, none, none, rfl, hd5, by simp, by simp, by simp; omega, .inr (by rw [List.length_range]; omega)⟩
    (fun k xs ρ ⟨d, ms, a, b, c, e, h1, h2, h3, h4, h5, _⟩ => by
      subst h1
      obtain ⟨o1, q1, u1, v1, w1, g1⟩ := below_ok (n := (names.length : Int)) h2 (by omega) (by omega)
      obtain ⟨o2, q2, u2, v2, w2, g2⟩ := below_ok (n := (names.length : Int) - 1) w1 (by omega) (by omega)
      obtain ⟨o3, q3, u3, v3, w3, g3⟩ := below_ok (n := 2) w2 (by omega) (by omega)
      obtain ⟨o4, q4, u4, v4, w4, g4⟩ := below_ok (n := 1 + r3) w3 (by omega) (by omega)
      have hoth0 := Int.emod_nonneg (o1 + 1 + o2) (b := (names.length : Int)) (by omega)
      have hoth1 := Int.emod_lt_of_pos (o1 + 1 + o2) (b := (names.length : Int)) (by omega)
      have hne : (o1 + 1 + o2) % (names.length : Int) ≠ o1 := by
        by_cases hlt : o1 + 1 + o2 < names.length
        · rw [Int.emod_eq_of_lt (by omega) hlt]; omega
        · have : (o1 + 1 + o2) % (names.length : Int) = o1 + 1 + o2 - names.length := by
            rw [Int.emod_def]
            have : (o1 + 1 + o2) / (names.length : Int) = 1 := by
              apply Int.le_antisymm
              · have : (o1 + 1 + o2) / (names.length : Int) < 2 := Int.ediv_lt_of_lt_mul (by omega) (by omega)
                omega
              · exact Int.le_ediv_of_mul_le (by omega) (by omega)
            rw [this]; omega
          rw [this]; omega
      let m : Mt := ⟨decide (o3 ≠ 0), o1.toNat, ((o1 + 1 + o2) % (names.length : Int)).toNat, o4.toNat⟩
      have e1 : ((m.one : Nat) : Int) = o1 := by show ((o1.toNat : Nat) : Int) = o1; omega
      have e2 : ((m.other : Nat) : Int) = (o1 + 1 + o2) % (names.length : Int) := by show ((((o1 + 1 + o2) % (names.length : Int)).toNat : Nat) : Int) = _; omega
      have e3 : ((m.tick : Nat) : Int) = o4 := by show ((o4.toNat : Nat) : Int) = o4; omega
      have e4 : Dat.tup [.str (if o3 = 0 then "meet" else "tell"), .int o1, .int ((o1 + 1 + o2) % (names.length : Int)), .int o4] = enM m := by
        unfold enM
        rw [e1, e2, e3]
        congr 2
        show Dat.str (if o3 = 0 then "meet" else "tell") = Dat.str (if decide (o3 ≠ 0) then "tell" else "meet")
        by_cases h : o3 = 0
        · simp [h]
        · simp [h]
      have hpos : (0 : Int) < names.length := by omega
      have hmd := modD_int (o1 + 1 + o2) (names.length : Int) hpos
      refine ⟨plE d most ticks names (1 + r3) ms (iS k) b c e, plE q4 most ticks names (1 + r3) (if m ∈ ms then ms else ms ++ [m]) (iS k) (iS o1) (iS ((o1 + 1 + o2) % (names.length : Int))) (some (.sh (enM m))), rfl, .inl ?_, q4, _, _, _, _, _, rfl, w4, ?_, ?_, ?_, .inl ?_⟩
      · refine sq_nx (ρ1 := plE q1 most ticks names (1 + r3) ms (iS k) (iS o1) c e) (by simp [plE, g1, kOf, putO, retag, tagOf]) ?_
        refine sq_nx (ρ1 := plE q2 most ticks names (1 + r3) ms (iS k) (iS o1) (iS ((o1 + 1 + o2) % (names.length : Int))) e) (by simp [plE, g2, kOf, putO, retag, tagOf, hmd]) ?_
        refine sq_nx (ρ1 := plE q4 most ticks names (1 + r3) ms (iS k) (iS o1) (iS ((o1 + 1 + o2) % (names.length : Int))) (some (.sh (enM m)))) (by
          have ha := at2 (Dat.str "meet") (Dat.str "tell") u3 v3
          rw [← e4]
          by_cases h : o3 = 0
          · rw [if_pos h] at ha
            simp [plE, g3, g4, kOf, putO, retag, tagOf, ha, h]
          · rw [if_neg h] at ha
            simp [plE, g3, g4, kOf, putO, retag, tagOf, ha, h]) ?_
        have hn := ninD_ms m ms
        have hmsl : ms.length ≤ 20 := by omega
        by_cases hmem : m ∈ ms
        · rw [if_pos hmem]
          have hmu := mulD_lst (xs := [enM m]) (k := 0) (by simp) (by omega)
          have had := addD_lst (xs := ms.map enM) (ys := []) (by simp; omega)
          simp at hmu had
          simp [plE, hn, hmem, toInt, hmu, had]
        · rw [if_neg hmem]
          have hmu := mulD_lst (xs := [enM m]) (k := 1) (by simp) (by omega)
          have had := addD_lst (xs := ms.map enM) (ys := [enM m]) (by simp; omega)
          simp at hmu had
          simp [plE, hn, hmem, toInt, hmu, had]
      · intro z hz
        by_cases hmem : m ∈ ms
        · rw [if_pos hmem] at hz; exact h3 z hz
        · rw [if_neg hmem] at hz
          rcases List.mem_append.mp hz with hz | hz
          · exact h3 z hz
          · simp at hz
            subst hz
            refine ⟨by omega, by omega, fun hh => hne (by omega), by omega⟩
      · by_cases hmem : m ∈ ms
        · rw [if_pos hmem]; exact h4
        · rw [if_neg hmem]
          refine List.nodup_append.mpr ⟨h4, by simp, fun x hx y hy => ?_⟩
          simp at hy
          subst hy
          exact fun hxy => hmem (hxy ▸ hx)
      · have : (k :: xs).length = xs.length + 1 := rfl
        by_cases hmem : m ∈ ms
        · rw [if_pos hmem]; omega
        · rw [if_neg hmem]; simp; omega
      · by_cases hmem : m ∈ ms
        · rw [if_pos hmem]; exact List.ne_nil_of_mem hmem
        · rw [if_neg hmem]; simp)
  obtain ⟨ρ', h1, d6, ms, a, b, c, e, rfl, h2, h3, h4, h5, h6⟩ := loop
  let p : Pln := ⟨(1 + r3).toNat, names, ms⟩
  have hsz : ((p.size : Nat) : Int) = 1 + r3 := by show (((1 + r3).toNat : Nat) : Int) = _; omega
  have hok : PlOk p := ⟨by show 1 ≤ (1 + r3).toNat; omega, by show (1 + r3).toNat ≤ 60; omega, hnn, hns, hn2, by show names.length ≤ 8; omega, fun m hm => by
    obtain ⟨x1, x2, x3, x4⟩ := h3 m hm
    exact ⟨x1, x2, x3, by show m.tick < (1 + r3).toNat; omega⟩, h4, by simp at h5; exact h5⟩
  have hne : p.ord.mts ≠ [] := by
    rcases h6 with h6 | h6
    · intro z
      have := (ordM_perm (n := p.size) (ms := p.mts) fun m hm => (hok.ms m hm).2.2.2).length_eq
      have z : ordM p.size p.mts = [] := z
      rw [z] at this
      exact h6 (List.eq_nil_of_length_eq_zero this.symm)
    · simp at h6
  refine ⟨p.ord, d6, hok.ord, p.ord_ord, hne, by show (names.length : Int) ≤ most; omega, by show ((p.size : Nat) : Int) ≤ ticks; omega, h2, ?_⟩
  have hord := ordered_ok (p := p) (by show (1 + r3).toNat ≤ 1000; omega) (by simp at h5; show ms.length ≤ 1000; omega)
  have hb : b_law_plan [dS d, iS most, iS ticks, none, none, none, none, none, none, none] = some (.rt (.sh (enPl p.ord)), plE d6 most ticks names (1 + r3) ms a b c e) := by
    refine sq_nx (ρ1 := [dS d1, iS most, iS ticks, some (.sh (.lst (enNs all))), none, none, none, none, none, none]) (by
      have : f_law_shuffled [Sl.ol none (d.map Dat.int), Sl.sh (Dat.lst [.str "a", .str "bo", .str "carl", .str "dora", .str "ella", .str "f", .str "gustav", .str "hannahhh"])] = some (.ol none (enNs all), [some (.ol none (d1.map .int)), none]) := hf1
      simp [this, kOf, putO, retag, tagOf]) ?_
    refine sq_nx (ρ1 := [dS d2, iS most, iS ticks, some (.sh (.lst (enNs names))), none, none, none, none, none, none]) (by
      have hc : cut (enNs all) none (some (2 + r2)) = enNs names := by
        rw [cut_take _ (by omega), ← List.map_take]
      simp [slM, slD, hf2, kOf, putO, retag, tagOf, intO, hc]) ?_
    refine sq_nx (ρ1 := plE d3 most ticks names (1 + r3) [] none none none none) (by simp [par2, hf3, kOf, putO, retag, tagOf, plE]) ?_
    refine sq_nx h1 ?_
    have e5 : Dat.tup [.int (1 + r3), .tuf (enNs names), .lst (ms.map enM)] = enPl p := by
      unfold enPl
      rw [hsz]
    simp [plE, tupD, e5, hord]
  have := ev_def (n := 3) (N := 10) (F := b_law_plan) (ins := [.ol none (d.map .int), .sh (.int most), .sh (.int ticks)]) rfl (by simp [tagAll]) hb
  unfold f_law_plan
  rw [this]
  simp [outsOf, List.range_succ, tagOf, plE]
theorem plan_ok {d : List Int} (hd : SrcOk d) {most ticks : Int} (hm : 2 ≤ most) (hm8 : most ≤ 8) (ht : 1 ≤ ticks) (ht60 : ticks ≤ 60) : ∃ p d', PlOk p ∧ p.ord = p ∧ p.names.length ≤ most ∧ p.size ≤ ticks ∧ SrcOk d' ∧
    f_law_plan [.ol none (d.map .int), .sh (.int most), .sh (.int ticks)] = some (.sh (enPl p), [some (.ol none (d'.map .int)), none, none]) := by
  obtain ⟨p, d', h1, h2, _, h3⟩ := plan_ok2 hd hm hm8 ht ht60
  exact ⟨p, d', h1, h2, h3⟩
end DL

set_option Elab.async false
set_option linter.all false
set_option maxRecDepth 100000
set_option maxHeartbeats 1000000
namespace DL
open PySem L2

/-! ### texts as lists of code points -/
abbrev T (l : List Nat) : Str := ⟨l.toArray⟩
theorem T_cat (a b : List Nat) : T a ++ T b = T (a ++ b) := by
  show (⟨a.toArray ++ b.toArray⟩ : Str) = _
  simp
theorem T_len (a : List Nat) : (T a).length = a.length := by simp [Str.length]
theorem T_of (s : Str) : T s.cps.toList = s := by cases s; simp
theorem T_inj {a b : List Nat} (h : T a = T b) : a = b := by
  have := congrArg (fun s : Str => s.cps.toList) h
  simpa using this
theorem empty_cat (s : Str) : Str.empty ++ s = s := by
  show (⟨#[] ++ s.cps⟩ : Str) = s
  simp
def inter (sep : List Nat) : List (List Nat) → List Nat
  | [] => []
  | [x] => x
  | x :: y :: r => x ++ sep ++ inter sep (y :: r)
theorem join_T (sep : List Nat) : ∀ ls : List (List Nat), Str.join (T sep) (ls.map T) = T (inter sep ls)
  | [] => rfl
  | [x] => rfl
  | x :: y :: r => by
    show T x ++ T sep ++ Str.join (T sep) (T y :: r.map T) = _
    have := join_T sep (y :: r)
    rw [List.map_cons] at this
    rw [this, T_cat, T_cat]
    rfl
theorem tjoin_T (sep : List Nat) (ls : List (List Nat)) : Txt.join (T sep) (ls.map T) = T (inter sep ls) := by
  unfold Txt.join
  rw [StrLaws.glued_eq_join]
  exact join_T sep ls
theorem inter_cons (sep x : List Nat) (ls : List (List Nat)) : inter sep (x :: ls) = x ++ (ls.flatMap fun y => sep ++ y) := by
  induction ls generalizing x with
  | nil => simp [inter]
  | cons y r ih =>
    show x ++ sep ++ inter sep (y :: r) = _
    rw [ih y]
    simp
/-- the number's figures -/
abbrev num (n : Nat) : List Nat := TL.numL n
theorem num_str (n : Nat) : Str.ofString (toString ((n : Nat) : Int)) = T (num n) := SX.num_S n

abbrev cR : List Nat := [114, 111, 117, 110, 100]
abbrev cP : List Nat := [112, 101, 111, 112, 108, 101]
abbrev cM : List Nat := [109, 101, 101, 116]
abbrev cT : List Nat := [116, 101, 108, 108]
theorem s_round : ("round " : Str) = T (cR ++ [32]) := by decide +kernel
theorem s_people : ("people " : Str) = T (cP ++ [32]) := by decide +kernel
theorem s_semi : (";" : Str) = T [59] := by decide +kernel
theorem s_sp : (" " : Str) = T [32] := by decide +kernel
theorem s_nl : ("\n" : Str) = T [10] := by decide +kernel
theorem s_meet : ("meet" : Str) = T cM := by decide +kernel
theorem s_tell : ("tell" : Str) = T cT := by decide +kernel
def Mt.wL (m : Mt) : List Nat := if m.tell then cT else cM
theorem word_T (m : Mt) : m.word = T m.wL := by
  unfold Mt.word Mt.wL
  cases m.tell
  · simp only [Bool.false_eq_true, if_false]; exact s_meet
  · simp only [if_true]; exact s_tell
abbrev nL (s : Str) : List Nat := s.cps.toList
def nmOf (names : List Str) (i : Nat) : List Nat := nL (names.getD i Str.empty)
def lineM (names : List Str) (m : Mt) : List Nat := inter [32] [m.wL, nmOf names m.one, nmOf names m.other, num m.tick] ++ [59]
def linesOf (p : Pln) : List (List Nat) := (cR ++ [32] ++ num p.size ++ [59]) :: (cP ++ [32] ++ inter [32] (p.names.map nL) ++ [59]) :: p.mts.map (lineM p.names)
def textOf (p : Pln) : List Nat := inter [10] (linesOf p)
abbrev enTs (ls : List (List Nat)) : List Dat := ls.map fun l => .str (T l)
/-! lengths -/
theorem num_small : ∀ n : Nat, n < 61 → (num n).length ≤ 2 ∧ (num n) ≠ [] ∧ (num n).all (fun c => decide (48 ≤ c) && decide (c ≤ 57)) = true ∧ ((num n).length = 1 ∨ (num n).head? ≠ some 48) := by decide +kernel
theorem eight_small : ∀ s ∈ eight, (nL s).length ≤ 8 ∧ nL s ≠ [] ∧ (nL s).all (fun c => decide (97 ≤ c) && decide (c ≤ 122)) = true ∧ s ∉ [("round" : Str), "people", "meet", "tell"] := by decide +kernel
theorem inter_len (sep : List Nat) (k : Nat) : ∀ ls : List (List Nat), (∀ l ∈ ls, l.length ≤ k) → (inter sep ls).length ≤ ls.length * (k + sep.length)
  | [], _ => by simp [inter]
  | [x], h => by
    have := h x (by simp)
    simp [inter]
    omega
  | x :: y :: r, h => by
    have h1 := h x (by simp)
    have h2 := inter_len sep k (y :: r) fun l hl => h l (List.mem_cons_of_mem _ hl)
    simp only [inter, List.length_append, List.length_cons] at h2 ⊢
    rw [Nat.add_mul (r.length + 1) 1]
    omega
theorem sum_le (k : Nat) : ∀ ls : List (List Nat), (∀ l ∈ ls, l.length ≤ k) → (ls.map List.length).sum ≤ ls.length * k
  | [], _ => by simp
  | x :: r, h => by
    have h1 := h x (by simp)
    have h2 := sum_le k r fun l hl => h l (List.mem_cons_of_mem _ hl)
    simp only [List.map_cons, List.sum_cons, List.length_cons]
    rw [Nat.add_mul]
    omega
theorem strsOf_T : ∀ ls : List (List Nat), strsOf (enTs ls) = some (ls.map T)
  | [] => rfl
  | x :: r => by
    show (strsOf (enTs r)).map _ = _
    rw [strsOf_T r]
    rfl
theorem joinD_T {sep : List Nat} {ls : List (List Nat)} {d : Dat} (hd : seqD d = some (enTs ls)) (k : Nat) (hk : ∀ l ∈ ls, l.length ≤ k) (hn : ls.length * (k + sep.length) ≤ 16777216) : joinD (T sep) d = some (.str (T (inter sep ls))) := by
  unfold joinD
  rw [hd]
  simp only [strsOf_T, List.map_map, List.length_map]
  have e : ((fun x : Str => x.length) ∘ T) = List.length := by funext l; exact T_len l
  rw [e, T_len, if_pos, tjoin_T]
  have := sum_le k ls hk
  rw [Nat.mul_add] at hn
  omega
theorem nmOf_len {p : Pln} (h : PlOk p) {i : Nat} (hi : i < p.names.length) : nmOf p.names i = nL p.names[i] ∧ (nmOf p.names i).length ≤ 8 := by
  have e : nmOf p.names i = nL p.names[i] := by
    unfold nmOf
    rw [List.getD_eq_getElem?_getD, List.getElem?_eq_getElem hi]
    rfl
  exact ⟨e, by rw [e]; exact (eight_small _ (h.ns _ (List.getElem_mem hi))).1⟩
theorem wL_len (m : Mt) : m.wL.length = 4 := by
  unfold Mt.wL
  cases m.tell <;> rfl
theorem lineM_len {p : Pln} (h : PlOk p) {m : Mt} (hm : m ∈ p.mts) : (lineM p.names m).length ≤ 100 := by
  obtain ⟨h1, h2, h3, h4⟩ := h.ms m hm
  have n1 := (nmOf_len h h1).2
  have n2 := (nmOf_len h h2).2
  have n3 := (num_small m.tick (by have := h.s2; omega)).1
  have := wL_len m
  unfold lineM
  simp [inter]
  omega
theorem names_len {p : Pln} (h : PlOk p) : (inter [32] (p.names.map nL)).length ≤ 72 := by
  have h1 := inter_len [32] 8 (p.names.map nL) fun l hl => by
    obtain ⟨s, hs, rfl⟩ := List.mem_map.mp hl
    exact (eight_small s (h.ns s hs)).1
  have := h.n8
  simp at h1
  omega
theorem lines_len {p : Pln} (h : PlOk p) : (∀ l ∈ linesOf p, l.length ≤ 100) ∧ (linesOf p).length ≤ 22 := by
  constructor
  · intro l hl
    unfold linesOf at hl
    rcases List.mem_cons.mp hl with rfl | hl
    · have := (num_small p.size (by have := h.s2; omega)).1
      simp
      omega
    · rcases List.mem_cons.mp hl with rfl | hl
      · have := names_len h
        simp
        omega
      · obtain ⟨m, hm, rfl⟩ := List.mem_map.mp hl
        exact lineM_len h hm
  · have := h.ml
    simp [linesOf]
    omega
theorem enNs_T (ns : List Str) : enNs ns = enTs (ns.map nL) := by
  unfold enNs enTs
  rw [List.map_map]
  exact List.map_congr_left fun s _ => by show Dat.str s = Dat.str (T (nL s)); rw [T_of]
theorem at_name {p : Pln} (h : PlOk p) {i : Nat} (hi : i < p.names.length) : atI (enNs p.names) ((i : Nat) : Int) = some (.str (T (nmOf p.names i))) := by
  refine atI_nat ?_
  rw [List.getElem?_map, List.getElem?_eq_getElem hi, (nmOf_len h hi).1, T_of]
  rfl
@[simp] theorem toStr_nat (n : Nat) (h : n < 1000) : toStr [.int (n : Int)] = some (.str (T (num n))) := by
  show (if ((n : Int)).natAbs < 18446744073709551616 then some (Dat.str (Str.ofString (toString (n : Int)))) else none) = _
  rw [if_pos (by omega), num_str]
theorem addD_T {a b : List Nat} (h : a.length + b.length ≤ 16777216) : addD (.str (T a)) (.str (T b)) = some (.str (T (a ++ b))) := by
  show (if (T a).length + (T b).length ≤ SZ then some (Dat.str (T a ++ T b)) else none) = _
  rw [if_pos (by rw [T_len, T_len]; exact h), T_cat]
end DL

set_option Elab.async false
set_option linter.all false
set_option maxRecDepth 100000
set_option maxHeartbeats 1000000
namespace DL
open PySem L2

/-! ### the law's text -/
@[simp] theorem ev_m1M {α : Type} (g : Str → Dat → Option α) (f fe : M Dat) (ρ : Env) : m1M g f fe ρ = (f ρ).bind fun p => (onStr some p.1).bind fun a => (fe p.2).bind fun q => (g a q.1).map fun z => (z, q.2) := by
  unfold m1M
  simp
  cases f ρ with
  | none => rfl
  | some p =>
    obtain ⟨d, r⟩ := p
    simp only [Option.bind_some]
    cases onStr some d <;> rfl
@[simp] theorem ev_m0M {α : Type} (g : Str → Option α) (f : M Dat) (ρ : Env) : m0M g f ρ = (f ρ).bind fun p => (onStr g p.1).map fun z => (z, p.2) := by
  unfold m0M
  simp
@[simp] theorem onStr_str {α : Type} (g : Str → Option α) (s : Str) : onStr g (.str s) = g s := rfl
theorem w3 {p : Pln} (h : PlOk p) {m : Mt} (hm : m ∈ p.mts) : joinD (T [32]) (.lst [.str m.word, .str (T (nmOf p.names m.one)), .str (T (nmOf p.names m.other)), .str (T (num m.tick))]) = some (.str (T (inter [32] [m.wL, nmOf p.names m.one, nmOf p.names m.other, num m.tick]))) := by
  obtain ⟨h1, h2, h3, h4⟩ := h.ms m hm
  have n1 := (nmOf_len h h1).2
  have n2 := (nmOf_len h h2).2
  have n3 := (num_small m.tick (by have := h.s2; omega)).1
  have := wL_len m
  rw [word_T]
  refine joinD_T (ls := [m.wL, nmOf p.names m.one, nmOf p.names m.other, num m.tick]) rfl 10 (fun l hl => ?_) (by simp)
  simp at hl
  rcases hl with rfl | rfl | rfl | rfl <;> omega
theorem lines_ok {p : Pln} (h : PlOk p) : f_law_lines [.sh (enPl p)] = some (.ol none (enTs (linesOf p)), [none]) := by
  let E (ls : List (List Nat)) (a b c e : Option Sl) : Env := [some (.sh (enPl p)), iS p.size, some (.sh (.tuf (enNs p.names))), some (.sh (.lst (p.mts.map enM))), some (.ol none (enTs ls)), a, b, c, e]
  have hs := h.s2
  have l2 : ∀ (ms : List Mt), (∀ m ∈ ms, m ∈ p.mts) → True := fun _ _ => trivial
  let L0 : List (List Nat) := [cR ++ [32] ++ num p.size ++ [59], cP ++ [32] ++ inter [32] (p.names.map nL) ++ [59]]
  have loop := for_inv (g := liftF itA (vr 3)) (gb := gtp (gcns (gnm 5) (gcns (gnm 6) (gcns (gnm 7) (gcns (gnm 8) gnil)))))
    (body := dropS (shM (mutM (.nm 4) appG (consA (bin addD (m1M joinD (cst (.str " ")) (frzM (lstM (consA (vr 5) (consA (bin ixD (vr 2) (vr 6)) (consA (bin ixD (vr 2) (vr 7)) (consA (liftA toStr (consA (vr 8) nilA)) nilA))))))) (cst (.str ";"))) nilA))))
    (enc := enM) (xs := p.mts) (ρ := E L0 none none none none) (ρ1 := E L0 none none none none)
    (fun xs ρ => ∃ done a b c e, done ++ xs = p.mts ∧ ρ = E (L0 ++ done.map (lineM p.names)) a b c e)
    (by simp [E, itA]) ⟨[], none, none, none, none, rfl, by simp⟩ (fun m xs ρ ⟨done, a, b, c, e, h1, h2⟩ => by
      subst h2
      have hm : m ∈ p.mts := by rw [← h1]; simp
      obtain ⟨g1, g2, g3, g4⟩ := h.ms m hm
      have hj := w3 h hm
      have a1 := at_name h g1
      have a2 := at_name h g2
      have t1 := toStr_nat m.tick (by omega)
      have hl := lineM_len h hm
      have ad : addD (.str (T (inter [32] [m.wL, nmOf p.names m.one, nmOf p.names m.other, num m.tick]))) (.str (T [59])) = some (.str (T (lineM p.names m))) := by
        refine addD_T ?_
        unfold lineM at hl
        rw [List.length_append] at hl
        omega
      have hdl : done.length ≤ 20 := by
        have := congrArg List.length h1
        have := h.ml
        simp at *
        omega
      have ap : appG (enTs (L0 ++ done.map (lineM p.names))) [.str (T (lineM p.names m))] = some (enTs (L0 ++ (done ++ [m]).map (lineM p.names)), .non) := by
        unfold appG
        simp only
        rw [if_pos]
        · simp [enTs]
        · show (enTs (L0 ++ done.map (lineM p.names))).length < 16777216
          simp [enTs, L0]
          omega
      refine ⟨E (L0 ++ done.map (lineM p.names)) (some (.sh (.str m.word))) (iS m.one) (iS m.other) (iS m.tick), E (L0 ++ (done ++ [m]).map (lineM p.names)) (some (.sh (.str m.word))) (iS m.one) (iS m.other) (iS m.tick), ?_, .inl ?_, done ++ [m], _, _, _, _, by rw [List.append_assoc]; exact h1, rfl⟩
      · simp [enM, gtp, gcns, gnm, gnil, E]
      · rw [ev_dropS, ev_shM, ev_mutM]
        simp [E, s_sp, s_semi, a1, a2, t1, hj, ad]
        simp [E] at ap
        simp [ap])
  obtain ⟨ρ', h1, done, a, b, c, e, h2, rfl⟩ := loop
  rw [List.append_nil] at h2
  subst h2
  have hb : b_law_lines [some (.sh (enPl p)), none, none, none, none, none, none, none, none] = some (.rt (.ol none (enTs (linesOf p))), (E (linesOf p) a b c e).set 4 none) := by
    refine sq_nx (ρ1 := [some (.sh (enPl p)), iS p.size, some (.sh (.tuf (enNs p.names))), some (.sh (.lst (p.mts.map enM))), none, none, none, none, none]) (by simp [asgT, enPl, gtp, gcns, gnm, gnil]) ?_
    refine sq_nx (ρ1 := E L0 none none none none) ?_ (sq_nx h1 ?_)
    · have t1 := toStr_nat p.size (by omega)
      have n1 := (num_small p.size (by omega)).1
      have n2 := names_len h
      have a1 : addD (.str (T (cR ++ [32]))) (.str (T (num p.size))) = some (.str (T (cR ++ [32] ++ num p.size))) := addD_T (by simp; omega)
      have a2 : addD (.str (T (cR ++ [32] ++ num p.size))) (.str (T [59])) = some (.str (T (cR ++ [32] ++ num p.size ++ [59]))) := addD_T (by simp; omega)
      have j : joinD (T [32]) (.tuf (enNs p.names)) = some (.str (T (inter [32] (p.names.map nL)))) := joinD_T (by rw [enNs_T]; rfl) 8 (fun l hl => by
        obtain ⟨s, hs, rfl⟩ := List.mem_map.mp hl
        exact (eight_small s (h.ns s hs)).1) (by have := h.n8; simp; omega)
      have a3 : addD (.str (T (cP ++ [32]))) (.str (T (inter [32] (p.names.map nL)))) = some (.str (T (cP ++ [32] ++ inter [32] (p.names.map nL)))) := addD_T (by simp; omega)
      have a4 : addD (.str (T (cP ++ [32] ++ inter [32] (p.names.map nL)))) (.str (T [59])) = some (.str (T (cP ++ [32] ++ inter [32] (p.names.map nL) ++ [59]))) := addD_T (by simp; omega)
      simp only [List.cons_append, List.nil_append] at a1 a2 a3 a4
      simp [s_round, s_people, s_semi, s_sp, t1, a1, a2, a3, a4, j, E, L0]
    · simp [E, linesOf, L0]
  have := ev_def (n := 1) (N := 9) (F := b_law_lines) (ins := [.sh (enPl p)]) rfl (by simp [tagAll]) hb
  unfold f_law_lines
  rw [this]
  simp [outsOf, List.range_succ, tagOf, E]
theorem text_ok {p : Pln} (h : PlOk p) : f_law_text [.sh (enPl p)] = some (.sh (.str (T (textOf p))), [none]) := by
  have hl := lines_ok h
  obtain ⟨h1, h2⟩ := lines_len h
  have hj : joinD (T [10]) (.lst (enTs (linesOf p))) = some (.str (T (textOf p))) := joinD_T rfl 100 h1 (by simp; omega)
  have hb : b_law_text [some (.sh (enPl p))] = some (.rt (.sh (.str (T (textOf p)))), [some (.sh (enPl p))]) := by
    unfold b_law_text
    simp [hl, s_nl, hj]
  have := ev_def (n := 1) (N := 1) (F := b_law_text) (ins := [.sh (enPl p)]) rfl (by simp [tagAll]) hb
  unfold f_law_text
  rw [this]
  simp [outsOf, List.range_succ, tagOf]
end DL

set_option Elab.async false
set_option linter.all false
set_option maxRecDepth 100000
set_option maxHeartbeats 1000000
namespace DL
open PySem L2

/-! ### the program's objects -/
def mD (m : Mt) : Dat := .ins "Meeting" [("word", .str m.word), ("one", .int m.one), ("other", .int m.other), ("tick", .int m.tick)]
def plD (p : Pln) : Dat := .ins "Plan" [("size", .int p.size), ("names", .tuf (enNs p.names)), ("meetings", .lst (p.mts.map mD))]
def plS (p : Pln) : Sl := .oo none "Plan" [("size", .sh (.int p.size)), ("names", .sh (.tuf (enNs p.names))), ("meetings", .sh (.lst (p.mts.map mD)))]
theorem frz_plS (p : Pln) : frz (plS p) = plD p := by simp [plS, plD]
theorem fld_eq {c f : Str} {fs : List (Str × Dat)} {d : Dat} (h : fs.lookup f = some d) : fldD c f (.ins c fs) = some d := by
  show (if c = c then fs.lookup f else none) = some d
  rw [if_pos rfl, h]
theorem lk_hit {α : Type} {f : Str} {d : α} {r : List (Str × α)} : List.lookup f ((f, d) :: r) = some d := by simp [List.lookup]
theorem lk_miss {α : Type} {f g : Str} {d : α} {r : List (Str × α)} (h : (f == g) = false) : List.lookup f ((g, d) :: r) = List.lookup f r := by simp [List.lookup, h]
@[simp] theorem fld_word (m : Mt) : fldD "Meeting" "word" (mD m) = some (.str m.word) := fld_eq lk_hit
@[simp] theorem fld_one (m : Mt) : fldD "Meeting" "one" (mD m) = some (.int m.one) := fld_eq ((lk_miss (by decide +kernel)).trans lk_hit)
@[simp] theorem fld_other (m : Mt) : fldD "Meeting" "other" (mD m) = some (.int m.other) := fld_eq ((lk_miss (by decide +kernel)).trans ((lk_miss (by decide +kernel)).trans lk_hit))
@[simp] theorem fld_tick (m : Mt) : fldD "Meeting" "tick" (mD m) = some (.int m.tick) := fld_eq ((lk_miss (by decide +kernel)).trans ((lk_miss (by decide +kernel)).trans ((lk_miss (by decide +kernel)).trans lk_hit)))
@[simp] theorem fld_size (p : Pln) : fldD "Plan" "size" (plD p) = some (.int p.size) := fld_eq lk_hit
@[simp] theorem fld_names (p : Pln) : fldD "Plan" "names" (plD p) = some (.tuf (enNs p.names)) := fld_eq ((lk_miss (by decide +kernel)).trans lk_hit)
@[simp] theorem fld_meetings (p : Pln) : fldD "Plan" "meetings" (plD p) = some (.lst (p.mts.map mD)) := fld_eq ((lk_miss (by decide +kernel)).trans ((lk_miss (by decide +kernel)).trans lk_hit))
/-! ### texts put together -/
theorem j_nil {acc : Str} {ρ : Env} : joinedM acc [] ρ = some (.str acc, ρ) := rfl
theorem j_cons {a y : List Nat} {f : M Dat} {fs : List (M Dat)} {ρ : Env} (h : f ρ = some (.str (T y), ρ)) (hl : a.length + y.length ≤ 16777216) : joinedM (T a) (f :: fs) ρ = joinedM (T (a ++ y)) fs ρ := by
  show bnd f _ ρ = _
  rw [ev_bnd h]
  show (if (T a ++ T y).length ≤ SZ then joinedM (T a ++ T y) fs else fun _ => none) ρ = _
  rw [T_cat, if_pos (by rw [T_len, List.length_append]; exact hl)]
theorem fmt_T {y : List Nat} (h : y.length ≤ 16777216) : fmtD (.str (T y)) = some (.str (T y)) := by
  show (if (T y).length ≤ SZ then some (Dat.str (T y)) else none) = _
  rw [if_pos (by rw [T_len]; exact h)]
theorem fmt_nat {n : Nat} (h : n < 1000) : fmtD (.int (n : Int)) = some (.str (T (num n))) := by
  show (if ((n : Int)).natAbs < 18446744073709551616 then some (Dat.str (Str.ofString (toString (n : Int)))) else none) = _
  rw [if_pos (by omega), num_str]
theorem empty_T : Str.empty = T [] := rfl
end DL

set_option Elab.async false
set_option linter.all false
set_option maxRecDepth 100000
set_option maxHeartbeats 1000000
namespace DL
open PySem L2

/-! ### tokens -/
def tkD (k : Str) (w : List Nat) (line col : Int) : Dat := .ins "Token" [("kind", .str k), ("text", .str (T w)), ("line", .int line), ("column", .int col)]
@[simp] theorem fld_kind (k : Str) (w : List Nat) (a b : Int) : fldD "Token" "kind" (tkD k w a b) = some (.str k) := fld_eq lk_hit
@[simp] theorem fld_text (k : Str) (w : List Nat) (a b : Int) : fldD "Token" "text" (tkD k w a b) = some (.str (T w)) := fld_eq ((lk_miss (by decide +kernel)).trans lk_hit)
theorem put_hit {f : Str} {s x : Sl} {r : List (Str × Sl)} : putS f s ((f, x) :: r) = (f, s) :: r := by
  show (if f = f then _ else _) = _
  rw [if_pos rfl]
theorem put_miss {f g : Str} {s x : Sl} {r : List (Str × Sl)} (h : g ≠ f) : putS f s ((g, x) :: r) = (g, x) :: putS f s r := by
  show (if g = f then _ else _) = _
  rw [if_neg h]
theorem put_nil {f : Str} {s : Sl} : putS f s [] = [(f, s)] := rfl
@[simp] theorem ev_fldS (i : Nat) (c f : Str) (fv : M Sl) (ρ : Env) : fldS i c f fv ρ = (fv ρ).bind fun p => match p.2[i]? with
  | some (some (.oo t c' fs)) => if c' = c ∧ fs.length < 1000 then some (.nx, p.2.set i (some (.oo t c' (putS f p.1 fs)))) else none
  | _ => none := by
  unfold fldS
  cases fv ρ <;> rfl
theorem tk_init (k : Str) (w : List Nat) (a b : Int) : f_Token_init [.oo none "Token" [], .sh (.str k), .sh (.str (T w)), .sh (.int a), .sh (.int b)] =
    some (.sh .non, [some (.oo none "Token" [("kind", .sh (.str k)), ("text", .sh (.str (T w))), ("line", .sh (.int a)), ("column", .sh (.int b))]), none, none, none, none]) := by
  have p1 : putS "text" (.sh (.str (T w))) [(("kind" : Str), Sl.sh (.str k))] = ([("kind", .sh (.str k)), ("text", .sh (.str (T w)))] : List (Str × Sl)) := (put_miss (by decide +kernel)).trans (by rw [put_nil])
  have p2 : putS "line" (.sh (.int a)) ([("kind", .sh (.str k)), ("text", .sh (.str (T w)))] : List (Str × Sl)) = ([("kind", .sh (.str k)), ("text", .sh (.str (T w))), ("line", .sh (.int a))] : List (Str × Sl)) := (put_miss (by decide +kernel)).trans (by rw [put_miss (by decide +kernel), put_nil])
  have p3 : putS "column" (.sh (.int b)) ([("kind", .sh (.str k)), ("text", .sh (.str (T w))), ("line", .sh (.int a))] : List (Str × Sl)) = ([("kind", .sh (.str k)), ("text", .sh (.str (T w))), ("line", .sh (.int a)), ("column", .sh (.int b))] : List (Str × Sl)) :=
    (put_miss (by decide +kernel)).trans (by rw [put_miss (by decide +kernel), put_miss (by decide +kernel), put_nil])
  have hb : b_Token_init [some (.oo (some 0) "Token" []), some (.sh (.str k)), some (.sh (.str (T w))), some (.sh (.int a)), some (.sh (.int b))] =
      some (.nx, [some (.oo (some 0) "Token" [("kind", .sh (.str k)), ("text", .sh (.str (T w))), ("line", .sh (.int a)), ("column", .sh (.int b))]), some (.sh (.str k)), some (.sh (.str (T w))), some (.sh (.int a)), some (.sh (.int b))]) := by
    unfold b_Token_init
    simp [put_nil, p1, p2, p3]
  have := ev_defN (n := 5) (N := 5) (F := b_Token_init) (ins := [.oo none "Token" [], .sh (.str k), .sh (.str (T w)), .sh (.int a), .sh (.int b)]) rfl (by simp [tagAll]) hb
  unfold f_Token_init
  rw [this]
  simp [outsOf, List.range_succ, tagOf]
@[simp] theorem ev_mkO (c : Str) (f : Fd) (fa : M (List Dat)) (ρ : Env) : mkO c f fa ρ = (fa ρ).bind fun p => match f (.oo none c [] :: p.1.map .sh) with
  | some (.sh .non, some s0 :: _) => some (s0, p.2)
  | _ => none := by
  unfold mkO
  rw [ev_bnd']
  all_goals (cases fa ρ <;> rfl)
def tkS (k : Str) (w : List Nat) (a b : Int) : Sl := .oo none "Token" [("kind", .sh (.str k)), ("text", .sh (.str (T w))), ("line", .sh (.int a)), ("column", .sh (.int b))]
theorem frz_tk (k : Str) (w : List Nat) (a b : Int) : frz (tkS k w a b) = tkD k w a b := by simp [tkS, tkD]
/-! ### one sign -/
theorem ix_T {row : List Nat} {i : Nat} {c : Nat} (hl : row.length ≤ 16777216) (h : row[i]? = some c) : ixD (.str (T row)) (.int (i : Int)) = some (.str (T [c])) := by
  show (if (T row).length ≤ SZ then (atI (T row).cps.toList (i : Int)).map fun c => Dat.str ⟨#[c]⟩ else none) = _
  rw [if_pos (by rw [T_len]; exact hl)]
  have : (T row).cps.toList = row := by simp
  rw [this, atI_nat h]
  rfl
theorem in_T (c : Nat) (z : List Nat) : inD (.str (T [c])) (.str (T z)) = some (.bl (decide (c ∈ z))) := by
  have e : inB (.str (T [c])) (.str (T z)) = if (T [c]).cps.size = 1 then some (decide ((T [c]).cps.getD 0 0 ∈ (T z).cps.toList)) else none := rfl
  have h1 : (T [c]).cps.size = 1 := rfl
  have h2 : (T [c]).cps.getD 0 0 = c := rfl
  have h3 : (T z).cps.toList = z := by simp
  unfold inD
  rw [e, if_pos h1, h2, h3]
  rfl
theorem len_T {row : List Nat} (hl : row.length ≤ 16777216) : lenD [.str (T row)] = some (.int row.length) := by
  rw [lenD_str _ (by rw [T_len]; exact hl), T_len]
theorem s_dig : ("0123456789" : Str) = T [48, 49, 50, 51, 52, 53, 54, 55, 56, 57] := by decide +kernel
theorem s_let : ("abcdefghijklmnopqrstuvwxyz" : Str) = T [97, 98, 99, 100, 101, 102, 103, 104, 105, 106, 107, 108, 109, 110, 111, 112, 113, 114, 115, 116, 117, 118, 119, 120, 121, 122] := by decide +kernel
theorem s_spn : (" \n" : Str) = T [32, 10] := by decide +kernel
abbrev dig : List Nat := [48, 49, 50, 51, 52, 53, 54, 55, 56, 57]
abbrev let_ : List Nat := [97, 98, 99, 100, 101, 102, 103, 104, 105, 106, 107, 108, 109, 110, 111, 112, 113, 114, 115, 116, 117, 118, 119, 120, 121, 122]
theorem mem_dig (c : Nat) : c ∈ dig ↔ 48 ≤ c ∧ c ≤ 57 := by simp [dig]; omega
theorem mem_let (c : Nat) : c ∈ let_ ↔ 97 ≤ c ∧ c ≤ 122 := by simp [let_]; omega
/-- the run's end -/
theorem run_end_ok {row z : List Nat} {st k : Nat} (hw : ∀ i, i < k → ∃ c, c ∈ z ∧ row[st + i]? = some c) (hl : ∀ c, row[st + k]? = some c → c ∉ z) (hk : st + k ≤ row.length) (hlen : row.length ≤ 100000) :
    f_run_end [.sh (.str (T row)), .sh (.int (st : Int)), .sh (.str (T z))] = some (.sh (.int ((st + k : Nat) : Int)), [none, none, none]) := by
  let E (i : Nat) : Env := [some (.sh (.str (T row))), iS st, some (.sh (.str (T z))), iS ((st + i : Nat) : Int)]
  have hl16 : row.length ≤ 16777216 := by omega
  have e1 := len_T hl16
  have loop := while_inv (c := andB (tst (bin ltD (vr 3) (liftA lenD (consA (vr 0) nilA)))) (tst (bin inD (bin ixD (vr 0) (vr 3)) (vr 2)))) (body := augS 3 addI (cst (.int 1)))
    (fun m ρ => ∃ i, m = k - i ∧ i ≤ k ∧ ρ = E i) (fun ρ => ρ = E k) (by
      rintro m ρ ⟨i, rfl, hi, rfl⟩
      have ev : ∀ c : Nat, row[st + i]? = some c → andB (tst (bin ltD (vr 3) (liftA lenD (consA (vr 0) nilA)))) (tst (bin inD (bin ixD (vr 0) (vr 3)) (vr 2))) (E i) = some (decide (c ∈ z), E i) := fun c hc => by
        have e2 := ix_T hl16 hc
        have e3 := in_T c z
        have lt : decide (((st + i : Nat) : Int) < (row.length : Int)) = true := by
          have := (List.getElem?_eq_some_iff.mp hc).1
          exact decide_eq_true (by omega)
        have hv : ∀ j, j = ((st + i : Nat) : Int) → andB (tst (bin ltD (vr 3) (liftA lenD (consA (vr 0) nilA)))) (tst (bin inD (bin ixD (vr 0) (vr 3)) (vr 2))) [some (.sh (.str (T row))), iS st, some (.sh (.str (T z))), iS j] = some (decide (c ∈ z), [some (.sh (.str (T row))), iS st, some (.sh (.str (T z))), iS j]) := by
          intro j hj
          rw [← hj] at e2 lt
          simp only [decide_eq_true_eq] at lt
          simp [e1, e2, e3, lt]
        exact hv _ rfl
      by_cases hlt : i < k
      · obtain ⟨c, hc1, hc2⟩ := hw i hlt
        refine .inr ⟨E i, E (i + 1), k - (i + 1), by omega, ?_, ?_, i + 1, rfl, by omega, rfl⟩
        · rw [ev c hc2, decide_eq_true hc1]
        · simp [E, augS, addI]
          omega
      · have : i = k := by omega
        subst this
        refine .inl ⟨E i, ?_, rfl⟩
        cases hc : row[st + i]? with
        | some c => rw [ev c hc, decide_eq_false (hl c hc)]
        | none =>
          have h1 := List.getElem?_eq_none_iff.mp hc
          have hv : ∀ j : Int, (row.length : Int) ≤ j → andB (tst (bin ltD (vr 3) (liftA lenD (consA (vr 0) nilA)))) (tst (bin inD (bin ixD (vr 0) (vr 3)) (vr 2))) [some (.sh (.str (T row))), iS st, some (.sh (.str (T z))), iS j] = some (false, [some (.sh (.str (T row))), iS st, some (.sh (.str (T z))), iS j]) := by
            intro j hj
            have : ¬ (j < (row.length : Int)) := by omega
            simp [e1, this]
          exact hv _ (by omega))
  obtain ⟨ρ', h1, rfl⟩ := loop 1000000 k (E 0) ⟨0, by omega, by omega, rfl⟩ (by omega)
  have hb : b_run_end [some (.sh (.str (T row))), iS st, some (.sh (.str (T z))), none] = some (.rt (.sh (.int ((st + k : Nat) : Int))), E k) := by
    refine sq_nx (ρ1 := E 0) (by simp [E]) (sq_nx h1 (by simp [E]))
  have := ev_def (n := 3) (N := 4) (F := b_run_end) (ins := [.sh (.str (T row)), .sh (.int (st : Int)), .sh (.str (T z))]) rfl (by simp [tagAll]) hb
  unfold f_run_end
  rw [this]
  simp [outsOf, List.range_succ, tagOf, E]
end DL

set_option Elab.async false
set_option linter.all false
set_option maxRecDepth 100000
set_option maxHeartbeats 1000000
namespace DL
open PySem L2

theorem strOk_T (w : List Nat) : PyData.strOk (T w) = w.all fun c => decide (c < 1114112) := by
  unfold PyData.strOk
  simp
theorem shaped_str {s : Str} (h : PyData.strOk s = true) : SeqAt.shaped (.str s) = true := by
  unfold SeqAt.shaped
  rw [PyData.canLay0, h, PyData.depth]
  rfl
theorem eqD_str {a b : Str} (h1 : PyData.strOk a = true) (h2 : PyData.strOk b = true) : eqD (.str a) (.str b) = some (.bl (a == b)) := by
  unfold eqD
  simp only [toPy_str]
  rw [if_pos ⟨shaped_str h1, shaped_str h2⟩, eqv_str]
theorem neD_str {a b : Str} (h1 : PyData.strOk a = true) (h2 : PyData.strOk b = true) : neD (.str a) (.str b) = some (.bl (!(a == b))) := by
  unfold neD
  simp only [toPy_str]
  rw [if_pos ⟨shaped_str h1, shaped_str h2⟩, eqv_str]
theorem toPyL_strs : ∀ ks : List Str, toPyL (enNs ks) = some (ks.map .str)
  | [] => by rw [enNs, List.map_nil, toPyL]; rfl
  | k :: ks => by
    show toPyL (Dat.str k :: enNs ks) = _
    rw [toPyL, toPy_str, toPyL_strs ks]
    rfl
theorem inD_tup (s : Str) (ks : List Str) : inD (.str s) (.tup (enNs ks)) = some (.bl (decide (s ∈ ks))) := by
  have e : inB (.str s) (.tup (enNs ks)) = match toPy (.str s), toPyL (enNs ks) with
    | some a, some bs => if scalD (.str s) = true ∧ (enNs ks).all scalD = true then some (bs.any fun z => PyData.eqv z a) else none
    | _, _ => none := rfl
  unfold inD
  rw [e, toPy_str, toPyL_strs]
  have h : scalD (.str s) = true ∧ (enNs ks).all scalD = true := ⟨rfl, by simp [enNs]⟩
  simp only
  rw [if_pos h]
  simp only [Option.map_some, Option.some.injEq, Dat.bl.injEq]
  rw [Bool.eq_iff_iff]
  simp [List.any_map]
theorem ninD_tup (s : Str) (ks : List Str) : ninD (.str s) (.tup (enNs ks)) = some (.bl (!decide (s ∈ ks))) := by
  have := inD_tup s ks
  unfold inD at this
  unfold ninD
  obtain ⟨b, h1, h2⟩ := Option.map_eq_some_iff.mp this
  rw [h1]
  cases h2
  rfl
theorem cutS_T {row : List Nat} {a b : Nat} (ha : a ≤ row.length) (hb : b ≤ row.length) : cutS (T row) (some (a : Int)) (some (b : Int)) = T ((row.drop a).take (b - a)) := by
  unfold cutS
  have h1 : (T row).cps.toList = row := by simp
  rw [h1, HT.sIx_nat, HT.sIx_nat, T_len, Nat.min_eq_left ha, Nat.min_eq_left hb]
theorem take_at {row w : List Nat} {st : Nat} (h : ∀ i, i < w.length → row[st + i]? = w[i]?) : (row.drop st).take w.length = w := by
  refine List.ext_getElem? fun i => ?_
  by_cases hi : i < w.length
  · rw [List.getElem?_take, if_pos hi, List.getElem?_drop, h i hi]
  · rw [List.getElem?_take, if_neg hi, List.getElem?_eq_none (by omega)]
abbrev kws : List Str := ["round", "people", "meet", "tell"]
/-- a token stands at st -/
inductive TkAt (row : List Nat) (st : Nat) : Str → List Nat → Prop
  | sign : row[st]? = some 59 → TkAt row st "sign" [59]
  | numb {w : List Nat} : w ≠ [] → w.length ≤ 2 → (w.length = 1 ∨ w.head? ≠ some 48) → (∀ c ∈ w, c ∈ dig) → (∀ i, i < w.length → row[st + i]? = w[i]?) → (∀ c, row[st + w.length]? = some c → c ∉ dig) → TkAt row st "number" w
  | word {w : List Nat} : w ≠ [] → (T w ∉ kws → w.length ≤ 8) → (∀ c ∈ w, c ∈ let_) → (∀ i, i < w.length → row[st + i]? = w[i]?) → (∀ c, row[st + w.length]? = some c → c ∉ let_) → TkAt row st (if T w ∈ kws then "keyword" else "name") w
theorem slM_T {row : List Nat} {a b : Nat} (ha : a ≤ row.length) (hb : b ≤ row.length) (hl : row.length ≤ 16777216) : slD (.str (T row)) (some (a : Int)) (some (b : Int)) = some (.str (T ((row.drop a).take (b - a)))) := by
  show (if (T row).length ≤ SZ then some (Dat.str (cutS (T row) (some (a : Int)) (some (b : Int)))) else none) = _
  rw [if_pos (by rw [T_len]; exact hl), cutS_T ha hb]
@[simp] theorem ev_slM (f : M Dat) (fl fh : M (Option Int)) (ρ : Env) : slM f fl fh ρ = (f ρ).bind fun p => (fl p.2).bind fun q => (fh q.2).bind fun r => (slD p.1 q.1 r.1).map fun z => (z, r.2) := by
  unfold slM
  simp
@[simp] theorem ev_chM (g g' : Dat → Dat → Option Dat) (fa fb fc : M Dat) (ρ : Env) : chM g g' fa fb fc ρ = (fa ρ).bind fun p => (fb p.2).bind fun q => (g p.1 q.1).bind fun z => match z with
  | .bl true => (fc q.2).bind fun r => (g' q.1 r.1).bind fun u => match u with
    | .bl b => some (b, r.2)
    | _ => none
  | .bl false => some (false, q.2)
  | _ => none := by
  unfold chM
  simp only [ev_bnd', ev_lift]
  cases fa ρ with
  | none => rfl
  | some p =>
    simp only [Option.bind_some]
    cases fb p.2 with
    | none => rfl
    | some q =>
      simp only [Option.bind_some]
      cases g p.1 q.1 with
      | none => rfl
      | some z =>
        simp only [Option.bind_some, Option.map_some]
        cases z with
        | bl b =>
          cases b with
          | false => rfl
          | true =>
            simp only [ev_bnd', ev_lift]
            cases fc q.2 with
            | none => rfl
            | some r =>
              simp only [Option.bind_some]
              cases g' q.1 r.1 with
              | none => rfl
              | some u =>
                simp only [Option.bind_some, Option.map_some]
                cases u <;> rfl
        | _ => rfl
@[simp] theorem intO_int (i : Int) : intO (.int i) = some (some i) := rfl
theorem read_ok {row : List Nat} {st : Nat} {line : Int} {k : Str} {w : List Nat} (h : TkAt row st k w) (hlen : row.length ≤ 100000) : f_read_token [.sh (.str (T row)), .sh (.int line), .sh (.int (st : Int))] = some (tkS k w line st, [none, none, none]) := by
  have hl16 : row.length ≤ 16777216 := by omega
  have fin : ∀ (a b : Option Sl), b_read_token [some (.sh (.str (T row))), iS line, iS st, none, none] = some (.rt (tkS k w line st), [some (.sh (.str (T row))), iS line, iS st, a, b]) → f_read_token [.sh (.str (T row)), .sh (.int line), .sh (.int (st : Int))] = some (tkS k w line st, [none, none, none]) := by
    intro a b hb
    have := ev_def (n := 3) (N := 5) (F := b_read_token) (ins := [.sh (.str (T row)), .sh (.int line), .sh (.int (st : Int))]) rfl (by simp [tagAll]) hb
    unfold f_read_token
    rw [this]
    simp [outsOf, List.range_succ, tagOf, tkS]
  have first : ∀ {c : Nat}, row[st]? = some c → asg 3 (shM (bin ixD (vr 0) (vr 2))) [some (.sh (.str (T row))), iS line, iS st, none, none] = some (.nx, [some (.sh (.str (T row))), iS line, iS st, some (.sh (.str (T [c]))), none]) := fun {c} hc => by
    simp [ix_T hl16 hc]
  cases h with
  | sign hc =>
    refine fin (some (.sh (.str (T [59])))) none (sq_nx (first hc) (sq_rt ?_))
    have e1 := in_T 59 [59]
    have t1 := tk_init "sign" [59] line st
    simp [s_semi, e1, t1, tkS]
  | numb w0 w2 w48 wd wr we =>
    obtain ⟨c, w', rfl⟩ : ∃ c w', w = c :: w' := by cases w with
      | nil => exact absurd rfl w0
      | cons c w' => exact ⟨c, w', rfl⟩
    have hc : row[st]? = some c := by simpa using wr 0 (by simp)
    have hcd := wd c (by simp)
    have hcr := (mem_dig c).mp hcd
    have hend : st + (c :: w').length ≤ row.length := by
      have := wr w'.length (by simp)
      have h2 : (c :: w')[w'.length]? ≠ none := by simp
      rw [← this] at h2
      have := (List.getElem?_eq_some_iff.mp (Option.ne_none_iff_exists'.mp h2).choose_spec).1
      simp
      omega
    have hr := run_end_ok (row := row) (z := dig) (st := st) (k := (c :: w').length) (fun i hi => ⟨(c :: w')[i], wd _ (List.getElem_mem hi), by rw [wr i hi]; exact List.getElem?_eq_getElem hi⟩) we hend hlen
    have e0 := in_T c [59]
    have e1 := in_T c dig
    have n59 : c ≠ 59 := by omega
    have hs := slM_T (row := row) (a := st) (b := st + (c :: w').length) (by omega) hend hl16
    rw [show st + (c :: w').length - st = (c :: w').length by omega, take_at wr] at hs
    have hlw := len_T (row := c :: w') (by simp at w2 ⊢; omega)
    have t1 := tk_init "number" (c :: w') line st
    have ok0 : PyData.strOk (T [c]) = true := by rw [strOk_T]; simp; omega
    have ok1 : PyData.strOk (("0" : Str)) = true := by decide +kernel
    have s0 : ("0" : Str) = T [48] := by decide +kernel
    have e2 := eqD_str ok0 ok1
    refine fin (some (.sh (.str (T [c])))) (some (.sh (.str (T (c :: w'))))) (sq_nx (first hc) (sq_nx (ρ1 := [some (.sh (.str (T row))), iS line, iS st, some (.sh (.str (T [c]))), none]) ?_ (sq_rt ?_)))
    · simp [s_semi, e0, n59]
    · refine if_t (ρ1 := [some (.sh (.str (T row))), iS line, iS st, some (.sh (.str (T [c]))), none]) (by simp [s_dig, e1, hcd]) ?_
      refine sq_nx (ρ1 := [some (.sh (.str (T row))), iS line, iS st, some (.sh (.str (T [c]))), some (.sh (.str (T (c :: w'))))]) ?_ (sq_nx (ρ1 := [some (.sh (.str (T row))), iS line, iS st, some (.sh (.str (T [c]))), some (.sh (.str (T (c :: w'))))]) ?_ ?_)
      · simp only [ev_asg, ev_shM, ev_slM, ev_frzM, ev_callP, ev_liftF, ev_consA, ev_nilA, ev_vr, ev_cst, s_dig, List.getElem?_cons_zero, List.getElem?_cons_succ, Option.bind_some, Option.map_some, List.map_cons, List.map_nil, hr, frz_sh, intO_int, hs]
        rfl
      · obtain ⟨n, hn⟩ : ∃ n : Int, n = (((c :: w').length : Nat) : Int) := ⟨_, rfl⟩
        rw [← hn] at hlw
        have b1 : ¬ (2 < n) := by omega
        refine if_f (ρ1 := [some (.sh (.str (T row))), iS line, iS st, some (.sh (.str (T [c]))), some (.sh (.str (T (c :: w'))))]) ?_ rfl
        rcases w48 with h1 | h1
        · have b2 : ¬ ((1 : Int) < n) := by omega
          simp [hlw, b1, b2]
        · have b3 : (T [c] == T [48]) = false := by
            have : c ≠ 48 := fun e => h1 (by rw [e]; rfl)
            simpa using this
          rw [s0] at e2
          rw [b3] at e2
          by_cases b2 : (1 : Int) < n
          · simp [hlw, s0, e2, b1, b2]
          · simp [hlw, s0, e2, b1, b2]
      · simp [t1, tkS]
  | word w0 w8 wd wr we =>
    obtain ⟨c, w', rfl⟩ : ∃ c w', w = c :: w' := by cases w with
      | nil => exact absurd rfl w0
      | cons c w' => exact ⟨c, w', rfl⟩
    have hc : row[st]? = some c := by simpa using wr 0 (by simp)
    have hcr := (mem_let c).mp (wd c (by simp))
    have hend : st + (c :: w').length ≤ row.length := by
      have := wr w'.length (by simp)
      have h2 : (c :: w')[w'.length]? ≠ none := by simp
      rw [← this] at h2
      have := (List.getElem?_eq_some_iff.mp (Option.ne_none_iff_exists'.mp h2).choose_spec).1
      simp
      omega
    have hr := run_end_ok (row := row) (z := let_) (st := st) (k := (c :: w').length) (fun i hi => ⟨(c :: w')[i], wd _ (List.getElem_mem hi), by rw [wr i hi]; exact List.getElem?_eq_getElem hi⟩) we hend hlen
    have e0 := in_T c [59]
    have e1 := in_T c dig
    have n59 : c ≠ 59 := by omega
    have nd : c ∉ dig := fun hd => by have := (mem_dig c).mp hd; omega
    have hs := slM_T (row := row) (a := st) (b := st + (c :: w').length) (by omega) hend hl16
    rw [show st + (c :: w').length - st = (c :: w').length by omega, take_at wr] at hs
    have hlw := len_T (row := c :: w') (by omega)
    have t1 := tk_init "keyword" (c :: w') line st
    have t2 := tk_init "name" (c :: w') line st
    have e3 := inD_tup (T (c :: w')) kws
    refine fin (some (.sh (.str (T [c])))) (some (.sh (.str (T (c :: w'))))) (sq_nx (first hc) (sq_nx (ρ1 := [some (.sh (.str (T row))), iS line, iS st, some (.sh (.str (T [c]))), none]) ?_ (sq_nx (ρ1 := [some (.sh (.str (T row))), iS line, iS st, some (.sh (.str (T [c]))), none]) ?_ ?_)))
    · simp [s_semi, e0, n59]
    · refine if_f (ρ1 := [some (.sh (.str (T row))), iS line, iS st, some (.sh (.str (T [c]))), none]) (by simp [s_dig, e1, nd]) rfl
    · refine sq_nx (ρ1 := [some (.sh (.str (T row))), iS line, iS st, some (.sh (.str (T [c]))), some (.sh (.str (T (c :: w'))))]) ?_ ?_
      · simp only [ev_asg, ev_shM, ev_slM, ev_frzM, ev_callP, ev_liftF, ev_consA, ev_nilA, ev_vr, ev_cst, s_let, List.getElem?_cons_zero, List.getElem?_cons_succ, Option.bind_some, Option.map_some, List.map_cons, List.map_nil, hr, frz_sh, intO_int, hs]
        rfl
      · by_cases hk : T (c :: w') ∈ kws
        · rw [if_pos hk]
          refine sq_rt (if_t (ρ1 := [some (.sh (.str (T row))), iS line, iS st, some (.sh (.str (T [c]))), some (.sh (.str (T (c :: w'))))]) ?_ ?_)
          · rw [decide_eq_true hk] at e3
            simp only [enNs, kws, List.map_cons, List.map_nil] at e3
            simp [e3]
          · simp [t1, tkS]
        · rw [if_neg hk]
          refine sq_nx (ρ1 := [some (.sh (.str (T row))), iS line, iS st, some (.sh (.str (T [c]))), some (.sh (.str (T (c :: w'))))]) (if_f (ρ1 := [some (.sh (.str (T row))), iS line, iS st, some (.sh (.str (T [c]))), some (.sh (.str (T (c :: w'))))]) ?_ rfl) (sq_nx (ρ1 := [some (.sh (.str (T row))), iS line, iS st, some (.sh (.str (T [c]))), some (.sh (.str (T (c :: w'))))]) (if_f (ρ1 := [some (.sh (.str (T row))), iS line, iS st, some (.sh (.str (T [c]))), some (.sh (.str (T (c :: w'))))]) ?_ rfl) ?_)
          · rw [decide_eq_false hk] at e3
            simp only [enNs, kws, List.map_cons, List.map_nil] at e3
            simp [e3]
          · have h8 := w8 hk
            obtain ⟨n, hn⟩ : ∃ n : Int, n = (((c :: w').length : Nat) : Int) := ⟨_, rfl⟩
            rw [← hn] at hlw
            have b1 : (1 : Int) ≤ n := by
              rw [hn, List.length_cons]
              omega
            have b2 : n ≤ 8 := by omega
            simp [hlw, b1, b2]
          · simp [t2, tkS]
end DL

set_option Elab.async false
set_option linter.all false
set_option maxRecDepth 100000
set_option maxHeartbeats 1000000
namespace DL
open PySem L2

abbrev Tk := Str × List Nat
/-- a token, what stands behind it -/
inductive TkL : Str → List Nat → List Nat → Prop
  | sign {l : List Nat} : TkL "sign" [59] l
  | numb {w l : List Nat} : w ≠ [] → w.length ≤ 2 → (w.length = 1 ∨ w.head? ≠ some 48) → (∀ c ∈ w, c ∈ dig) → (∀ c, l.head? = some c → c ∉ dig) → TkL "number" w l
  | word {w l : List Nat} : w ≠ [] → (T w ∉ kws → w.length ≤ 8) → (∀ c ∈ w, c ∈ let_) → (∀ c, l.head? = some c → c ∉ let_) → TkL (if T w ∈ kws then "keyword" else "name") w l
inductive Lex : List Nat → List Tk → Prop
  | nil : Lex [] []
  | sp {c : Nat} {l : List Nat} {ts : List Tk} : c = 32 ∨ c = 10 → Lex l ts → Lex (c :: l) ts
  | tk {k : Str} {w l : List Nat} {ts : List Tk} : TkL k w l → Lex l ts → Lex (w ++ l) ((k, w) :: ts)
theorem TkL.at_ {k : Str} {w l pre : List Nat} (h : TkL k w l) : TkAt (pre ++ (w ++ l)) pre.length k w := by
  have hw : ∀ i, i < w.length → (pre ++ (w ++ l))[pre.length + i]? = w[i]? := fun i hi => by
    rw [List.getElem?_append_right (by omega), List.getElem?_append_left (by omega)]
    congr 1
    omega
  have he : (pre ++ (w ++ l))[pre.length + w.length]? = l.head? := by
    rw [List.getElem?_append_right (by omega), List.getElem?_append_right (by omega)]
    rw [show pre.length + w.length - pre.length - w.length = 0 by omega]
    cases l <;> rfl
  cases h with
  | sign => exact .sign (by simpa using hw 0 (by simp))
  | numb h0 h1 h2 h3 h4 => exact .numb h0 h1 h2 h3 hw fun c hc => h4 c (he ▸ hc)
  | word h0 h1 h2 h3 => exact .word h0 h1 h2 hw fun c hc => h3 c (he ▸ hc)
theorem TkL.ne {k : Str} {w l : List Nat} (h : TkL k w l) : w ≠ [] := by
  cases h with
  | sign => simp
  | numb h0 _ _ _ _ => exact h0
  | word h0 _ _ _ => exact h0
theorem TkL.no10 {k : Str} {w l : List Nat} (h : TkL k w l) : 10 ∉ w := by
  cases h with
  | sign => simp
  | numb _ _ _ h3 _ => exact fun z => by have := (mem_dig 10).mp (h3 10 z); omega
  | word _ _ h3 _ => exact fun z => by have := (mem_let 10).mp (h3 10 z); omega
theorem TkL.cut {k : Str} {w l b : List Nat} (h : TkL k w (l ++ b)) : TkL k w l := by
  have hh : ∀ c, l.head? = some c → (l ++ b).head? = some c := fun c hc => by
    cases l with
    | nil => simp at hc
    | cons x r => simpa using hc
  cases h with
  | sign => exact .sign
  | numb h0 h1 h2 h3 h4 => exact .numb h0 h1 h2 h3 fun c hc => h4 c (hh c hc)
  | word h0 h1 h2 h3 => exact .word h0 h1 h2 fun c hc => h3 c (hh c hc)
theorem Lex.split : ∀ {x : List Nat} {ts : List Tk}, Lex x ts → ∀ {a b : List Nat}, x = a ++ 10 :: b → 10 ∉ a → ∃ t1 t2, Lex a t1 ∧ Lex b t2 ∧ ts = t1 ++ t2 := by
  intro x ts h
  induction h with
  | nil => intro a b e _; simp at e
  | @sp c l ts hc hl ih =>
    intro a b e hn
    cases a with
    | nil =>
      simp at e
      obtain ⟨rfl, rfl⟩ := e
      exact ⟨[], ts, .nil, hl, rfl⟩
    | cons x a =>
      simp at e
      obtain ⟨rfl, rfl⟩ := e
      obtain ⟨t1, t2, h1, h2, h3⟩ := ih rfl (fun z => hn (by simp [z]))
      exact ⟨t1, t2, .sp hc h1, h2, h3⟩
  | @tk k w l ts hk hl ih =>
    intro a b e hn
    -- w lies within a
    obtain ⟨a', rfl, rfl⟩ : ∃ a', a = w ++ a' ∧ l = a' ++ 10 :: b := by
      have hle : w.length ≤ a.length := by
        rcases Nat.lt_or_ge a.length w.length with hlt | hge
        · have : (w ++ l)[a.length]? = some 10 := by rw [e]; simp
          rw [List.getElem?_append_left hlt] at this
          exact absurd (List.mem_of_getElem? this) hk.no10
        · exact hge
      have h1 : w = a.take w.length := by
        have := congrArg (List.take w.length) e
        rw [List.take_left, List.take_append_of_le_length hle] at this
        exact this
      refine ⟨a.drop w.length, by have h2 := List.take_append_drop w.length a; rw [← h1] at h2; exact h2.symm, ?_⟩
      have := congrArg (List.drop w.length) e
      rw [List.drop_left, List.drop_append_of_le_length hle] at this
      exact this
    obtain ⟨t1, t2, h1, h2, h3⟩ := ih rfl (fun z => hn (List.mem_append_right _ z))
    exact ⟨(k, w) :: t1, t2, .tk hk.cut h1, h2, by rw [h3]; rfl⟩
inductive Lexs : List (List Nat) → List Tk → Prop
  | nil : Lexs [] []
  | cons {r : List Nat} {rs : List (List Nat)} {t ts : List Tk} : Lex r t → Lexs rs ts → Lexs (r :: rs) (t ++ ts)
theorem Lex.rows : ∀ {rows : List (List Nat)} {ts : List Tk}, rows ≠ [] → (∀ r ∈ rows, 10 ∉ r) → Lex (inter [10] rows) ts → Lexs rows ts
  | [], _, h, _, _ => absurd rfl h
  | [r], ts, _, _, h => by
    have h' : Lex r ts := h
    have := Lexs.cons h' .nil
    simpa using this
  | r :: s :: rs, ts, _, hn, h => by
    have e : inter [10] (r :: s :: rs) = r ++ 10 :: inter [10] (s :: rs) := by simp [inter]
    obtain ⟨t1, t2, h1, h2, h3⟩ := h.split e (hn r (by simp))
    subst h3
    exact .cons h1 (Lex.rows (by simp) (fun x hx => hn x (List.mem_cons_of_mem _ hx)) h2)
/-- the tokens' objects -/
inductive TksOf : List Dat → List Tk → Prop
  | nil : TksOf [] []
  | cons {k : Str} {w : List Nat} {a b : Int} {ds : List Dat} {ts : List Tk} : TksOf ds ts → TksOf (tkD k w a b :: ds) ((k, w) :: ts)
theorem TksOf.append : ∀ {ds es : List Dat} {ts us : List Tk}, TksOf ds ts → TksOf es us → TksOf (ds ++ es) (ts ++ us)
  | _, _, _, _, .nil, h => h
  | _, _, _, _, .cons r, h => .cons (TksOf.append r h)
theorem TksOf.len : ∀ {ds : List Dat} {ts : List Tk}, TksOf ds ts → ds.length = ts.length
  | _, _, .nil => rfl
  | _, _, .cons r => congrArg Nat.succ (TksOf.len r)
theorem TksOf.get : ∀ {ds : List Dat} {ts : List Tk} {i : Nat} {t : Tk}, TksOf ds ts → ts[i]? = some t → ∃ a b, ds[i]? = some (tkD t.1 t.2 a b)
  | _, _, _, _, .nil, h => by simp at h
  | _, _, 0, _, .cons r, h => by simp at h; subst h; exact ⟨_, _, rfl⟩
  | _, _, i + 1, _, .cons r, h => by simpa using TksOf.get (i := i) r (by simpa using h)
def tzE (src rows : Dat) (toks : List Dat) (line : Int) (row : List Nat) (col : Int) (x : Option Sl) : Env := [some (.sh src), some (.ol none toks), some (.sh rows), iS line, some (.sh (.str (T row))), iS col, x]
/-- one row -/
theorem row_ok {src rows : Dat} {line : Int} {row : List Nat} (hlen : row.length ≤ 100000) {pre0 : List Dat} : ∀ {ts0 : List Tk}, Lex row ts0 → pre0.length + ts0.length ≤ 1000000 → ∀ x, ∃ tds y z,
    whileD (tst (bin ltD (vr 5) (liftA lenD (consA (vr 4) nilA))))
  (iff_ (tst (bin inD (bin ixD (vr 4) (vr 5)) (cst (.str " \n"))))
  (augS 5 addI (cst (.int 1)))
  (sq (asg 6 (shM (frzM (callP f_read_token (consA (vr 4) (consA (vr 3) (consA (vr 5) nilA)))))))
  (sq (dropS (shM (mutM (.nm 1) appG (consA (vr 6) nilA))))
  (augS 5 addI (liftA lenD (consA (un (fldD "Token" "text") (vr 6)) nilA)))))) 1000000 (tzE src rows pre0 line row 0 x) = some (.nx, tzE src rows (pre0 ++ tds) line row y z) ∧ TksOf tds ts0 := by
  intro ts0 hlex hN x
  have hl16 : row.length ≤ 16777216 := by omega
  have hrl := len_T hl16
  have loop := while_inv (c := tst (bin ltD (vr 5) (liftA lenD (consA (vr 4) nilA))))
    (body := (iff_ (tst (bin inD (bin ixD (vr 4) (vr 5)) (cst (.str " \n"))))
  (augS 5 addI (cst (.int 1)))
  (sq (asg 6 (shM (frzM (callP f_read_token (consA (vr 4) (consA (vr 3) (consA (vr 5) nilA)))))))
  (sq (dropS (shM (mutM (.nm 1) appG (consA (vr 6) nilA))))
  (augS 5 addI (liftA lenD (consA (un (fldD "Token" "text") (vr 6)) nilA)))))))
    (fun m ρ => ∃ pre rest ts tds done x, row = pre ++ rest ∧ m = rest.length ∧ Lex rest ts ∧ done ++ ts = ts0 ∧ TksOf tds done ∧ ρ = tzE src rows (pre0 ++ tds) line row pre.length x)
    (fun ρ => ∃ tds y z, ρ = tzE src rows (pre0 ++ tds) line row y z ∧ TksOf tds ts0) (by
      rintro m ρ ⟨pre, rest, ts, tds, done, x, hrow, rfl, hl, hd, htk, rfl⟩
      have cond : ∀ b, b = decide (0 < rest.length) → tst (bin ltD (vr 5) (liftA lenD (consA (vr 4) nilA))) (tzE src rows (pre0 ++ tds) line row pre.length x) = some (b, tzE src rows (pre0 ++ tds) line row pre.length x) := fun b hb => by
        have e : b = decide ((pre.length : Int) < (row.length : Int)) := by
          rw [hb, hrow, Bool.eq_iff_iff]
          simp
          omega
        simp [tzE, hrl, e]
      have spaces : ∀ c, row[pre.length]? = some c → tst (bin inD (bin ixD (vr 4) (vr 5)) (cst (.str " \n"))) (tzE src rows (pre0 ++ tds) line row pre.length x) = some (decide (c ∈ [32, 10]), tzE src rows (pre0 ++ tds) line row pre.length x) := fun c hc => by
        have e2 := ix_T hl16 hc
        have e3 := in_T c [32, 10]
        simp only [tzE]
        simp [e2, s_spn, e3]
      cases hl with
      | nil =>
        refine .inl ⟨_, cond false (by simp), tds, _, _, rfl, ?_⟩
        rw [List.append_nil] at hd
        rw [← hd]; exact htk
      | @sp c l ts hc hl =>
        have hcc : row[pre.length]? = some c := by rw [hrow]; simp
        refine .inr ⟨_, tzE src rows (pre0 ++ tds) line row ((pre ++ [c]).length : Nat) x, l.length, by simp, cond true (by simp), ?_, pre ++ [c], l, ts, tds, done, x, by rw [hrow]; simp, rfl, hl, hd, htk, rfl⟩
        refine if_t (ρ1 := tzE src rows (pre0 ++ tds) line row pre.length x) ?_ ?_
        · rw [spaces c hcc]
          have : c ∈ [32, 10] := by simpa using hc
          rw [decide_eq_true this]
        · simp [tzE, augS, addI]
      | @tk k w l ts hk hl =>
        have hat := hk.at_ (pre := pre)
        rw [← hrow] at hat
        have hrd := read_ok (line := line) hat hlen
        obtain ⟨c, w', hw⟩ : ∃ c w', w = c :: w' := by
          have := hk.ne
          cases w with
          | nil => exact absurd rfl this
          | cons c w' => exact ⟨c, w', rfl⟩
        have hcc : row[pre.length]? = some c := by rw [hrow, hw]; simp
        have hns : c ∉ [32, 10] := by
          have : c ∈ w := by rw [hw]; simp
          intro hx
          simp at hx
          cases hk with
          | sign => simp at this; omega
          | numb _ _ _ h3 _ => have := (mem_dig c).mp (h3 c this); omega
          | word _ _ h3 _ => have := (mem_let c).mp (h3 c this); omega
        have hwl : w.length ≤ 16777216 := by
          have := congrArg List.length hrow
          simp at this
          omega
        have hlw := len_T hwl
        have htl := htk.len
        have hdl : done.length ≤ ts0.length := by rw [← hd]; simp
        refine .inr ⟨_, tzE src rows (pre0 ++ (tds ++ [tkD k w line pre.length])) line row ((pre ++ w).length : Nat) (some (.sh (tkD k w line pre.length))), l.length, by rw [hw]; simp; omega, cond true (by rw [hw]; simp), ?_, pre ++ w, l, ts, tds ++ [tkD k w line pre.length], done ++ [(k, w)], _, by rw [hrow]; simp, rfl, hl, by rw [List.append_assoc]; exact hd, htk.append (.cons .nil), rfl⟩
        refine if_f (ρ1 := tzE src rows (pre0 ++ tds) line row pre.length x) ?_ ?_
        · rw [spaces c hcc, decide_eq_false hns]
        · refine sq_nx (ρ1 := tzE src rows (pre0 ++ tds) line row pre.length (some (.sh (tkD k w line pre.length)))) ?_ (sq_nx (ρ1 := tzE src rows (pre0 ++ (tds ++ [tkD k w line pre.length])) line row pre.length (some (.sh (tkD k w line pre.length)))) ?_ ?_)
          · simp only [tzE]
            simp [hrd, frz_tk]
          · have ap : appG (pre0 ++ tds) [tkD k w line pre.length] = some (pre0 ++ (tds ++ [tkD k w line pre.length]), .non) := by
              unfold appG
              simp only
              rw [if_pos (by simp; omega), List.append_assoc]
            simp only [tzE]
            simp [ap]
          · simp only [tzE]
            simp [augS, hlw, addI])
  obtain ⟨ρ', h1, tds, y, z, rfl, h2⟩ := loop 1000000 row.length (tzE src rows pre0 line row 0 x) ⟨[], row, ts0, [], [], x, rfl, rfl, hlex, rfl, .nil, by simp⟩ (by omega)
  exact ⟨tds, y, z, h1, h2⟩
end DL

set_option Elab.async false
set_option linter.all false
set_option maxRecDepth 100000
set_option maxHeartbeats 1000000
namespace DL
open PySem L2

theorem enL_T (rows : List (List Nat)) : enL (enTs rows) = (rows.mapIdx fun i r => (i, r)).map fun q : Nat × List Nat => Dat.tup [.int (q.1 : Nat), .str (T q.2)] := by
  unfold enL enTs
  refine List.ext_getElem? fun i => ?_
  simp [List.getElem?_mapIdx]
  cases rows[i]? <;> rfl
theorem splitS_T (text : List Nat) (h : text.length ≤ 100000) : ∃ rows : List (List Nat), rows ≠ [] ∧ (∀ r ∈ rows, 10 ∉ r) ∧ inter [10] rows = text ∧ splitS (T text) (.str (T [10])) = some (.ol none (enTs rows)) := by
  refine ⟨(Txt.split (T text) (T [10])).map nL, ?_, ?_, ?_, ?_⟩
  · have := PyProof.Rows.split_pos (T text) (T [10])
    intro e
    rw [List.map_eq_nil_iff] at e
    rw [e] at this
    simp at this
  · intro r hr
    obtain ⟨p, hp, rfl⟩ := List.mem_map.mp hr
    exact StrLaws.split_free (T text) 10 p hp
  · have := StrLaws.join_split (T text) (T [10])
    have back : ∀ ls : List Str, (ls.map nL).map T = ls := fun ls => by
      induction ls with
      | nil => rfl
      | cons s ls ih => rw [List.map_cons, List.map_cons, ih, T_of]
    have e : Txt.split (T text) (T [10]) = ((Txt.split (T text) (T [10])).map nL).map T := (back _).symm
    rw [e, join_T] at this
    exact T_inj this
  · show (if ((T [10]).length == 0) = false ∧ (T text).length + 2 ≤ SZ then some (Sl.ol none ((Txt.split (T text) (T [10])).map .str)) else none) = _
    rw [if_pos ⟨rfl, by rw [T_len]; show _ ≤ 16777216; omega⟩]
    unfold enTs
    rw [List.map_map]
    have e : (Txt.split (T text) (T [10])).map Dat.str = (Txt.split (T text) (T [10])).map ((fun l => Dat.str (T l)) ∘ nL) := List.map_congr_left fun s _ => by show Dat.str s = Dat.str (T (nL s)); rw [T_of]
    rw [e]
theorem inter_mem_len {rows : List (List Nat)} {r : List Nat} (h : r ∈ rows) : r.length ≤ (inter [10] rows).length := by
  cases rows with
  | nil => simp at h
  | cons x rs =>
    rw [inter_cons]
    rcases List.mem_cons.mp h with rfl | h
    · simp
    · rw [List.length_append]
      have : ∀ rs : List (List Nat), r ∈ rs → r.length ≤ (rs.flatMap fun y => [10] ++ y).length := by
        intro rs
        induction rs with
        | nil => intro h; simp at h
        | cons y rs ih =>
          intro h
          rw [List.flatMap_cons, List.length_append]
          rcases List.mem_cons.mp h with rfl | h
          · simp
            omega
          · have := ih h
            omega
      have := this rs h
      omega
theorem inter_rows_len : ∀ {rows : List (List Nat)}, rows.length ≤ (inter [10] rows).length + 1
  | [] => by simp
  | [x] => by simp
  | x :: y :: r => by
    have := inter_rows_len (rows := y :: r)
    simp [inter] at this ⊢
    omega
theorem Lex.len : ∀ {x : List Nat} {ts : List Tk}, Lex x ts → ts.length ≤ x.length := by
  intro x ts h
  induction h with
  | nil => simp
  | sp _ _ ih => simp; omega
  | tk hk _ ih =>
    have := List.length_pos_iff.mpr hk.ne
    simp
    omega
theorem tokenize_ok {text : List Nat} {ts : List Tk} (hlex : Lex text ts) (hlen : text.length ≤ 100000) : ∃ tds, TksOf tds (ts ++ [(("end", []) : Tk)]) ∧ f_tokenize [.sh (.str (T text))] = some (.sh (.lst tds), [none]) := by
  obtain ⟨rows, hr0, hr1, hr2, hsp⟩ := splitS_T text hlen
  have hls : Lexs rows ts := Lex.rows hr0 hr1 (hr2 ▸ hlex)
  have htl := hlex.len
  have hrl : ∀ r ∈ rows, r.length ≤ 100000 := fun r hr => by
    have := inter_mem_len hr
    rw [hr2] at this
    omega
  have hnr : rows.length ≤ 100001 := by
    have := inter_rows_len (rows := rows)
    rw [hr2] at this
    omega
  let E (toks : List Dat) (a b c d : Option Sl) : Env := [some (.sh (.str (T text))), some (.ol none toks), some (.sh (.lst (enTs rows))), a, b, c, d]
  have loop := for_inv (g := liftA itEn (consA (vr 2) nilA)) (gb := gtp (gcns (gnm 3) (gcns (gnm 4) gnil)))
    (body := (sq (asg 5 (shM (cst (.int 0))))
  (whileD (tst (bin ltD (vr 5) (liftA lenD (consA (vr 4) nilA))))
  (iff_ (tst (bin inD (bin ixD (vr 4) (vr 5)) (cst (.str " \n"))))
  (augS 5 addI (cst (.int 1)))
  (sq (asg 6 (shM (frzM (callP f_read_token (consA (vr 4) (consA (vr 3) (consA (vr 5) nilA)))))))
  (sq (dropS (shM (mutM (.nm 1) appG (consA (vr 6) nilA))))
  (augS 5 addI (liftA lenD (consA (un (fldD "Token" "text") (vr 6)) nilA)))))) 1000000)))
    (enc := fun q : Nat × List Nat => Dat.tup [.int (q.1 : Nat), .str (T q.2)]) (xs := rows.mapIdx fun i r => (i, r)) (ρ := E [] none none none none) (ρ1 := E [] none none none none)
    (fun xs ρ => ∃ tds done rem a b c d, ρ = E tds a b c d ∧ TksOf tds done ∧ done ++ rem = ts ∧ Lexs (xs.map (·.2)) rem ∧ ∀ q ∈ xs, q.2.length ≤ 100000)
    (by
      have : itEn [.lst (enTs rows)] = some ((rows.mapIdx fun i r => (i, r)).map fun q : Nat × List Nat => Dat.tup [.int (q.1 : Nat), .str (T q.2)]) := by
        show (itL (.lst (enTs rows))).map enL = _
        rw [← enL_T]
        rfl
      simp only [E]
      simp [this])
    ⟨[], [], ts, none, none, none, none, rfl, .nil, rfl, by
      have : (rows.mapIdx fun i r => (i, r)).map (·.2) = rows := by
        refine List.ext_getElem? fun i => ?_
        rw [List.getElem?_map, List.getElem?_mapIdx]
        cases rows[i]? <;> rfl
      rw [this]; exact hls, fun q hq => by
        obtain ⟨i, hi, rfl⟩ := List.mem_mapIdx.mp hq
        exact hrl _ (List.getElem_mem hi)⟩
    (fun q xs ρ ⟨tds, done, rem, a, b, c, d, e1, h1, h2, h3, h4⟩ => by
      subst e1
      rw [List.map_cons] at h3
      cases h3 with
      | @cons _ _ t rem' hx hxs =>
        have htd := h1.len
        have hdl : done.length + t.length ≤ ts.length := by rw [← h2]; simp
        obtain ⟨tds', y, z, g1, g2⟩ := row_ok (src := .str (T text)) (rows := .lst (enTs rows)) (line := (q.1 : Nat)) (row := q.2) (h4 q (by simp)) (pre0 := tds) hx (by omega) d
        refine ⟨E tds (iS (q.1 : Nat)) (some (.sh (.str (T q.2)))) c d, tzE (.str (T text)) (.lst (enTs rows)) (tds ++ tds') (q.1 : Nat) q.2 y z, ?_, .inl ?_, tds ++ tds', done ++ t, rem', iS (q.1 : Nat), some (.sh (.str (T q.2))), iS y, z, rfl, h1.append g2, by rw [List.append_assoc]; exact h2, hxs, fun q' hq' => h4 q' (List.mem_cons_of_mem _ hq')⟩
        · simp [gtp, gcns, gnm, gnil, E]
        · refine sq_nx (ρ1 := tzE (.str (T text)) (.lst (enTs rows)) tds (q.1 : Nat) q.2 0 d) ?_ g1
          simp [E, tzE])
  obtain ⟨ρ', h1, tds, done, rem, a, b, c, d, rfl, h2, h3, h4, _⟩ := loop
  have hrem : rem = [] := by
    cases h4
    rfl
  subst hrem
  rw [List.append_nil] at h3
  subst h3
  refine ⟨tds ++ [tkD "end" [] rows.length 0], h2.append (.cons .nil), ?_⟩
  have t1 := tk_init "end" [] (rows.length : Nat) 0
  have s0 : ("" : Str) = T [] := by decide +kernel
  have hrd : (enTs rows).length = rows.length := by simp [enTs]
  have hlt := h2.len
  have ad : addD (.lst tds) (.lst [tkD "end" [] rows.length 0]) = some (.lst (tds ++ [tkD "end" [] rows.length 0])) := addD_lst (by simp; omega)
  have hb : b_tokenize [some (.sh (.str (T text))), none, none, none, none, none, none] = some (.rt (.sh (.lst (tds ++ [tkD "end" [] rows.length 0]))), [some (.sh (.str (T text))), some (.sh (.lst tds)), some (.sh (.lst (enTs rows))), a, b, c, d]) := by
    refine sq_nx (ρ1 := [some (.sh (.str (T text))), some (.ol none []), none, none, none, none, none]) (by simp) (sq_nx (ρ1 := E [] none none none none) ?_ (sq_nx h1 ?_))
    · rw [← s_nl] at hsp
      simp [hsp, E]
    · have ft := frz_tk "end" [] (rows.length : Nat) 0
      unfold tkS at ft
      simp only [E]
      simp only [ev_rtn, ev_shM, ev_bin, ev_vrF, ev_frzM, ev_lstM, ev_consA, ev_nilA, ev_mkO, ev_cst, ev_liftA, ev_vr, List.getElem?_cons_zero, List.getElem?_cons_succ, Option.bind_some, Option.map_some, List.set_cons_zero, List.set_cons_succ, lenD_lst, hrd, List.map_cons, List.map_nil, s0, t1, ft, frz_ol, List.length_cons, List.length_nil]
      simp [ad]
  have := ev_def (n := 1) (N := 7) (F := b_tokenize) (ins := [.sh (.str (T text))]) rfl (by simp [tagAll]) hb
  unfold f_tokenize
  rw [this]
  simp [outsOf, List.range_succ, tagOf]
end DL

set_option Elab.async false
set_option linter.all false
set_option maxRecDepth 100000
set_option maxHeartbeats 1000000
namespace DL
open PySem L2

/-! ### the parser's object -/
def psF (tds : List Dat) (k : Nat) (ns ms : List Dat) : List (Str × Sl) := [("tokens", .sh (.lst tds)), ("at", .sh (.int k)), ("faults", .ol none []), ("names", .ol none ns), ("meetings", .ol none ms)]
def psO (t : Option Nat) (tds : List Dat) (k : Nat) (ns ms : List Dat) : Sl := .oo t "Parser" (psF tds k ns ms)
def psD (tds : List Dat) (k : Nat) (ns ms : List Dat) : Dat := .ins "Parser" [("tokens", .lst tds), ("at", .int k), ("faults", .lst []), ("names", .lst ns), ("meetings", .lst ms)]
section
variable {t : Option Nat} {tds ns ms : List Dat} {k : Nat} {rest : Env}
@[simp] theorem untag_ps : untag (psO t tds k ns ms) = psO none tds k ns ms := by simp [psO, psF]
@[simp] theorem frz_ps : frz (psO t tds k ns ms) = psD tds k ns ms := by simp [psO, psF, psD]
@[simp] theorem tagAt_ps (j : Nat) : tagAt j (psO t tds k ns ms) = psO (some j) tds k ns ms := rfl
@[simp] theorem tagOf_ps : tagOf (psO t tds k ns ms) = t := rfl
@[simp] theorem retag_ps (u : Option Nat) : retag u (psO t tds k ns ms) = psO u tds k ns ms := rfl
@[simp] theorem isOwn_ps : isOwn (psO t tds k ns ms) = true := rfl
theorem lk2 {α : Type} {a b f : Str} {x y : α} {r : List (Str × α)} (h : (f == a) = false) (e : List.lookup f r = some y) : List.lookup f ((a, x) :: r) = some y := (lk_miss h).trans e
theorem ps_tokens : List.lookup ("tokens" : Str) (psF tds k ns ms) = some (.sh (.lst tds)) := lk_hit
theorem ps_at : List.lookup ("at" : Str) (psF tds k ns ms) = some (.sh (.int k)) := (lk_miss (by decide +kernel)).trans lk_hit
theorem ps_names : List.lookup ("names" : Str) (psF tds k ns ms) = some (.ol none ns) := (lk_miss (by decide +kernel)).trans ((lk_miss (by decide +kernel)).trans ((lk_miss (by decide +kernel)).trans lk_hit))
theorem ps_meetings : List.lookup ("meetings" : Str) (psF tds k ns ms) = some (.ol none ms) := (lk_miss (by decide +kernel)).trans ((lk_miss (by decide +kernel)).trans ((lk_miss (by decide +kernel)).trans ((lk_miss (by decide +kernel)).trans lk_hit)))
theorem ps_none {m : Str} (h : (m == "tokens") = false ∧ (m == "at") = false ∧ (m == "faults") = false ∧ (m == "names") = false ∧ (m == "meetings") = false) : List.lookup m (psF tds k ns ms) = none := by
  obtain ⟨h1, h2, h3, h4, h5⟩ := h
  unfold psF
  rw [lk_miss h1, lk_miss h2, lk_miss h3, lk_miss h4, lk_miss h5]
  rfl
@[simp] theorem pd_names : fldD "Parser" "names" (psD tds k ns ms) = some (.lst ns) := fld_eq ((lk_miss (by decide +kernel)).trans ((lk_miss (by decide +kernel)).trans ((lk_miss (by decide +kernel)).trans lk_hit)))
@[simp] theorem pd_faults : fldD "Parser" "faults" (psD tds k ns ms) = some (.lst []) := fld_eq ((lk_miss (by decide +kernel)).trans ((lk_miss (by decide +kernel)).trans lk_hit))
@[simp] theorem pd_meetings : fldD "Parser" "meetings" (psD tds k ns ms) = some (.lst ms) := fld_eq ((lk_miss (by decide +kernel)).trans ((lk_miss (by decide +kernel)).trans ((lk_miss (by decide +kernel)).trans ((lk_miss (by decide +kernel)).trans lk_hit))))
@[simp] theorem fo_tokens : fldO 0 "Parser" "tokens" (some (psO t tds k ns ms) :: rest) = some (.lst tds, some (psO t tds k ns ms) :: rest) := by
  have e : fldO 0 "Parser" "tokens" (some (psO t tds k ns ms) :: rest) = match List.lookup ("tokens" : Str) (psF tds k ns ms) with
    | some (.sh d) => some (d, some (psO t tds k ns ms) :: rest)
    | _ => none := rfl
  rw [e, ps_tokens]
@[simp] theorem fo_at : fldO 0 "Parser" "at" (some (psO t tds k ns ms) :: rest) = some (.int k, some (psO t tds k ns ms) :: rest) := by
  have e : fldO 0 "Parser" "at" (some (psO t tds k ns ms) :: rest) = match List.lookup ("at" : Str) (psF tds k ns ms) with
    | some (.sh d) => some (d, some (psO t tds k ns ms) :: rest)
    | _ => none := rfl
  rw [e, ps_at]
@[simp] theorem fa_at : fldAugS 0 "Parser" "at" (fun a b => a + b) (cst (.int 1)) (some (psO t tds k ns ms) :: rest) = some (.nx, some (psO t tds (k + 1) ns ms) :: rest) := by
  have e : fldAugS 0 "Parser" "at" (fun a b => a + b) (cst (.int 1)) (some (psO t tds k ns ms) :: rest) = match List.lookup ("at" : Str) (psF tds k ns ms) with
    | some (.sh (.int a)) => some (.nx, some (.oo t "Parser" (putS "at" (.sh (.int (a + 1))) (psF tds k ns ms))) :: rest)
    | _ => none := rfl
  rw [e, ps_at]
  simp only
  have p : putS "at" (.sh (.int ((k : Int) + 1))) (psF tds k ns ms) = psF tds (k + 1) ns ms := (put_miss (by decide +kernel)).trans (by rw [put_hit]; rfl)
  rw [p]
  rfl
theorem gp_names : getP (.fl 0 "Parser" "names") (some (psO t tds k ns ms) :: rest) = some ns := by
  have e : getP (.fl 0 "Parser" "names") (some (psO t tds k ns ms) :: rest) = match List.lookup ("names" : Str) (psF tds k ns ms) with
    | some (.ol _ ds) => some ds
    | _ => none := rfl
  rw [e, ps_names]
theorem gp_meetings : getP (.fl 0 "Parser" "meetings") (some (psO t tds k ns ms) :: rest) = some ms := by
  have e : getP (.fl 0 "Parser" "meetings") (some (psO t tds k ns ms) :: rest) = match List.lookup ("meetings" : Str) (psF tds k ns ms) with
    | some (.ol _ ds) => some ds
    | _ => none := rfl
  rw [e, ps_meetings]
theorem set_hit {f g : Str} {s x : Sl} {r : List (Str × Sl)} (h : (f == g) = true) : setS f s ((g, x) :: r) = (g, s) :: r := by
  show (if (f == g) = true then _ else _) = _
  rw [if_pos h]
theorem set_miss {f g : Str} {s x : Sl} {r : List (Str × Sl)} (h : (f == g) = false) : setS f s ((g, x) :: r) = (g, x) :: setS f s r := by
  show (if (f == g) = true then _ else _) = _
  rw [h, if_neg (by decide)]
theorem st_names (es : List Dat) : setS "names" (.ol none es) (psF tds k ns ms) = psF tds k es ms := by
  unfold psF
  rw [set_miss (by decide +kernel), set_miss (by decide +kernel), set_miss (by decide +kernel), set_hit (by decide +kernel)]
theorem st_meetings (es : List Dat) : setS "meetings" (.ol none es) (psF tds k ns ms) = psF tds k ns es := by
  unfold psF
  rw [set_miss (by decide +kernel), set_miss (by decide +kernel), set_miss (by decide +kernel), set_miss (by decide +kernel), set_hit (by decide +kernel)]
theorem sp_names (es : List Dat) : setP (.fl 0 "Parser" "names") es (some (psO t tds k ns ms) :: rest) = some (psO t tds k es ms) :: rest := by
  have e : setP (.fl 0 "Parser" "names") es (some (psO t tds k ns ms) :: rest) = match List.lookup ("names" : Str) (psF tds k ns ms) with
    | some (.ol t2 _) => some (.oo t "Parser" (setS "names" (.ol t2 es) (psF tds k ns ms))) :: rest
    | _ => some (psO t tds k ns ms) :: rest := rfl
  rw [e, ps_names]
  simp only
  rw [st_names]
  rfl
theorem sp_meetings (es : List Dat) : setP (.fl 0 "Parser" "meetings") es (some (psO t tds k ns ms) :: rest) = some (psO t tds k ns es) :: rest := by
  have e : setP (.fl 0 "Parser" "meetings") es (some (psO t tds k ns ms) :: rest) = match List.lookup ("meetings" : Str) (psF tds k ns ms) with
    | some (.ol t2 _) => some (.oo t "Parser" (setS "meetings" (.ol t2 es) (psF tds k ns ms))) :: rest
    | _ => some (psO t tds k ns ms) :: rest := rfl
  rw [e, ps_meetings]
  simp only
  rw [st_meetings]
  rfl
/-- a method of it, called -/
theorem mt_ps {m : Str} {f : Fd} {far : M (List AR)} {as : List Dat} {r : Sl} {k' : Nat} {ns' ms' : List Dat} {o : List (Option Sl)}
    (hm : (m == "tokens") = false ∧ (m == "at") = false ∧ (m == "faults") = false ∧ (m == "names") = false ∧ (m == "meetings") = false)
    (ha : far (some (psO t tds k ns ms) :: rest) = some (as.map .sh, some (psO t tds k ns ms) :: rest)) (hf : f (psO none tds k ns ms :: as.map .sh) = some (r, some (psO none tds k' ns' ms') :: o)) :
    methO 0 "Parser" m f far (some (psO t tds k ns ms) :: rest) = some (r, some (psO t tds k' ns' ms') :: rest) := by
  have e : methO 0 "Parser" m f far (some (psO t tds k ns ms) :: rest) = if (("Parser" : Str) = "Parser" ∧ List.lookup m (psF tds k ns ms) = none) then callO f (consA (slA 0) far) (some (psO t tds k ns ms) :: rest) else none := rfl
  rw [e, if_pos ⟨rfl, ps_none hm⟩]
  have hs : slotsOf (.sl 0 :: as.map .sh) = [0] := by
    have : ∀ as : List Dat, slotsOf (as.map .sh) = [] := fun as => by
      induction as with
      | nil => rfl
      | cons a as ih => exact ih
    rw [slotsOf_sl, this]
  have hi : insOf (some (psO t tds k ns ms) :: rest) (.sl 0 :: as.map .sh) = some (psO none tds k ns ms :: as.map .sh) := by
    have : ∀ (ρ : Env) (as : List Dat), insOf ρ (as.map .sh) = some (as.map .sh) := fun ρ as => by
      induction as with
      | nil => rfl
      | cons a as ih =>
        rw [List.map_cons, insOf_sh, ih]
        rfl
    rw [insOf_sl]
    simp only [List.getElem?_cons_zero, this, Option.map_some, untag_ps]
  have h1 : consA (slA 0) far (some (psO t tds k ns ms) :: rest) = some (.sl 0 :: as.map .sh, some (psO t tds k ns ms) :: rest) := by
    rw [ev_consA, ev_slA]
    simp only [List.getElem?_cons_zero, Option.bind_some, ha, Option.map_some]
  rw [callO_ok h1 (by rw [hs]; simp) hi hf]
  congr 1
  have hk : ∀ (as : List Dat) (j : Nat), kOf (.sl 0 :: as.map .sh) j = if j = 0 then some 0 else none := fun as j => by
    have : ∀ as : List Dat, kOf (as.map .sh) j = none := fun as => by
      induction as with
      | nil => rfl
      | cons a as ih =>
        show (kOf (as.map .sh) j).map _ = none
        rw [ih]
        rfl
    show (if 0 = j then some 0 else (kOf (as.map .sh) j).map _) = _
    rw [this]
    by_cases h : j = 0
    · subst h; rfl
    · rw [if_neg h, if_neg (fun e => h e.symm)]
      rfl
  unfold putO
  rw [List.mapIdx_cons, hk]
  simp only [if_true, List.getElem?_cons_zero, Option.join_some, Option.map_some, Option.bind_some, tagOf_ps, retag_ps]
  congr 2
  refine List.ext_getElem? fun i => ?_
  rw [List.getElem?_mapIdx]
  cases rest[i]? with
  | none => rfl
  | some o => simp [hk]
end
end DL

set_option Elab.async false
set_option linter.all false
set_option maxRecDepth 100000
set_option maxHeartbeats 1000000
namespace DL
open PySem L2

@[simp] theorem tagOf_sh (d : Dat) : tagOf (.sh d) = none := rfl
@[simp] theorem tagOf_ol (t : Option Nat) (ds : List Dat) : tagOf (.ol t ds) = t := rfl
section
variable {t : Option Nat} {tds ns ms : List Dat} {k : Nat} {rest : Env}
theorem peek_ok {d : Dat} (h : tds[k]? = some d) : f_Parser_peek [psO none tds k ns ms] = some (.sh d, [some (psO none tds k ns ms)]) := by
  have hb : b_Parser_peek [some (psO (some 0) tds k ns ms)] = some (.rt (.sh d), [some (psO (some 0) tds k ns ms)]) := by
    unfold b_Parser_peek
    simp [atI_nat h]
  have := ev_def (n := 1) (N := 1) (F := b_Parser_peek) (ins := [psO none tds k ns ms]) rfl (by simp [tagAll]) hb
  unfold f_Parser_peek
  rw [this]
  simp [outsOf, List.range_succ]
theorem peek_m {d : Dat} (h : tds[k]? = some d) : methO 0 "Parser" "peek" f_Parser_peek nilA (some (psO t tds k ns ms) :: rest) = some (.sh d, some (psO t tds k ns ms) :: rest) :=
  mt_ps (as := []) (by decide +kernel) rfl (peek_ok h)
theorem take_ok {kd : Str} {w : List Nat} {a b : Int} (h : tds[k]? = some (tkD kd w a b)) (hk : PyData.strOk kd = true) : f_Parser_take [psO none tds k ns ms, .sh (.str kd)] = some (.sh (tkD kd w a b), [some (psO none tds (k + 1) ns ms), none]) := by
  have ne := neD_str hk hk
  have hb : b_Parser_take [some (psO (some 0) tds k ns ms), some (.sh (.str kd)), none] = some (.rt (.sh (tkD kd w a b)), [some (psO (some 0) tds (k + 1) ns ms), some (.sh (.str kd)), some (.sh (tkD kd w a b))]) := by
    refine sq_nx (ρ1 := [some (psO (some 0) tds k ns ms), some (.sh (.str kd)), some (.sh (tkD kd w a b))]) (by simp [peek_m h]) (sq_nx (ρ1 := [some (psO (some 0) tds k ns ms), some (.sh (.str kd)), some (.sh (tkD kd w a b))]) ?_ (sq_nx (ρ1 := [some (psO (some 0) tds (k + 1) ns ms), some (.sh (.str kd)), some (.sh (tkD kd w a b))]) fa_at (by simp)))
    simp [ne]
  have := ev_def (n := 2) (N := 3) (F := b_Parser_take) (ins := [psO none tds k ns ms, .sh (.str kd)]) rfl (by simp [tagAll]) hb
  unfold f_Parser_take
  rw [this]
  simp [outsOf, List.range_succ]
theorem word_ok {kd : Str} {w : List Nat} {a b : Int} (h : tds[k]? = some (tkD kd w a b)) (hk : PyData.strOk (T w) = true) : f_Parser_take_word [psO none tds k ns ms, .sh (.str (T w))] = some (.sh (tkD kd w a b), [some (psO none tds (k + 1) ns ms), none]) := by
  have ne := neD_str hk hk
  have hb : b_Parser_take_word [some (psO (some 0) tds k ns ms), some (.sh (.str (T w))), none] = some (.rt (.sh (tkD kd w a b)), [some (psO (some 0) tds (k + 1) ns ms), some (.sh (.str (T w))), some (.sh (tkD kd w a b))]) := by
    refine sq_nx (ρ1 := [some (psO (some 0) tds k ns ms), some (.sh (.str (T w))), some (.sh (tkD kd w a b))]) (by simp [peek_m h]) (sq_nx (ρ1 := [some (psO (some 0) tds k ns ms), some (.sh (.str (T w))), some (.sh (tkD kd w a b))]) ?_ (sq_nx (ρ1 := [some (psO (some 0) tds (k + 1) ns ms), some (.sh (.str (T w))), some (.sh (tkD kd w a b))]) fa_at (by simp)))
    simp [ne]
  have := ev_def (n := 2) (N := 3) (F := b_Parser_take_word) (ins := [psO none tds k ns ms, .sh (.str (T w))]) rfl (by simp [tagAll]) hb
  unfold f_Parser_take_word
  rw [this]
  simp [outsOf, List.range_succ]
theorem take_m {kd : Str} {w : List Nat} {a b : Int} (h : tds[k]? = some (tkD kd w a b)) (hk : PyData.strOk kd = true) : methO 0 "Parser" "take" f_Parser_take (consA (bnd (cst (.str kd)) fun d => ret (.sh d)) nilA) (some (psO t tds k ns ms) :: rest) = some (.sh (tkD kd w a b), some (psO t tds (k + 1) ns ms) :: rest) :=
  mt_ps (as := [.str kd]) (by decide +kernel) rfl (take_ok h hk)
theorem word_m {kd : Str} {w : List Nat} {a b : Int} {x : Str} (hx : x = T w) (h : tds[k]? = some (tkD kd w a b)) (hk : PyData.strOk (T w) = true) : methO 0 "Parser" "take_word" f_Parser_take_word (consA (bnd (cst (.str x)) fun d => ret (.sh d)) nilA) (some (psO t tds k ns ms) :: rest) = some (.sh (tkD kd w a b), some (psO t tds (k + 1) ns ms) :: rest) := by
  subst hx
  exact mt_ps (as := [.str (T w)]) (by decide +kernel) rfl (word_ok h hk)
theorem ok_name : PyData.strOk ("name" : Str) = true := by decide +kernel
theorem ok_number : PyData.strOk ("number" : Str) = true := by decide +kernel
theorem ok_end : PyData.strOk ("end" : Str) = true := by decide +kernel
theorem ok_sign : PyData.strOk ("sign" : Str) = true := by decide +kernel
theorem ok_keyword : PyData.strOk ("keyword" : Str) = true := by decide +kernel
/-- a name of the list -/
theorem inB_strs {s : Str} {ks : List Str} (h : PyData.strOk s = true) (hk : ∀ x ∈ ks, PyData.strOk x = true) : inB (.str s) (.lst (enNs ks)) = some (decide (s ∈ ks)) := by
  have e : inB (.str s) (.lst (enNs ks)) = match toPy (.str s), toPyL (enNs ks) with
    | some a, some bs => if SeqAt.shaped a = true ∧ SeqAt.shaped (.list bs) = true then some (bs.any fun z => PyData.eqv z a) else none
    | _, _ => none := rfl
  have hs : SeqAt.shaped (.list (ks.map .str)) = true := by
    obtain ⟨ps, h1, h2, h3, h4⟩ := OkPy.list (ds := enNs ks) (fun d hd => by
      obtain ⟨x, hx, rfl⟩ := List.mem_map.mp hd
      exact okPy_str (hk x hx))
    rw [toPyL_strs] at h1
    cases h1
    exact shaped_list h2 h3
  rw [e, toPy_str, toPyL_strs]
  simp only
  rw [if_pos ⟨shaped_str h, hs⟩]
  congr 1
  rw [Bool.eq_iff_iff]
  simp [List.any_map]
theorem idx_strs {ks : List Str} (hn : ks.Nodup) {i : Nat} {s : Str} (h : ks[i]? = some s) : idxD (.lst (enNs ks)) (.str s) = some (.int (i : Int)) := by
  have e : idxD (.lst (enNs ks)) (.str s) = match toPyL (enNs ks), toPy (.str s) with
    | some bs, some a => if scalD (.str s) = true ∧ (enNs ks).all scalD = true then (bs.findIdx? fun z => PyData.eqv z a).map fun j => .int (j : Nat) else none
    | _, _ => none := rfl
  rw [e, toPy_str, toPyL_strs]
  simp only
  rw [if_pos ⟨rfl, by simp [enNs]⟩]
  have hi := (List.getElem?_eq_some_iff.mp h)
  obtain ⟨hil, hie⟩ := hi
  have hf : (ks.map PyData.str).findIdx? (fun z => PyData.eqv z (.str s)) = some i := by
    rw [List.findIdx?_eq_some_iff_getElem]
    refine ⟨by simpa using hil, by simp [hie], fun j hj => ?_⟩
    simp
    intro he
    have h1 : ks[j]'(by omega) = ks[i] := by rw [he, hie]
    have := (List.getElem_inj hn).mp h1
    omega
  rw [hf]
  rfl
/-- a person -/
theorem person_ok {ks : List Str} (hn : ks.Nodup) (hk : ∀ x ∈ ks, PyData.strOk x = true) {i : Nat} {w : List Nat} (hw : ks[i]? = some (T w)) {a b : Int} (h : tds[k]? = some (tkD "name" w a b)) : f_Parser_person [psO none tds k (enNs ks) ms] = some (.sh (.int (i : Int)), [some (psO none tds (k + 1) (enNs ks) ms)]) := by
  have hm : T w ∈ ks := List.mem_of_getElem? hw
  have e1 := inB_strs (hk _ hm) hk
  have e2 := idx_strs hn hw
  have e3 : inD (.str (T w)) (.lst (enNs ks)) = some (.bl true) := by
    unfold inD
    rw [e1, decide_eq_true hm]
    rfl
  have hb : b_Parser_person [some (psO (some 0) tds k (enNs ks) ms), none] = some (.rt (.sh (.int (i : Int))), [some (psO (some 0) tds (k + 1) (enNs ks) ms), some (.sh (tkD "name" w a b))]) := by
    refine sq_nx (ρ1 := [some (psO (some 0) tds (k + 1) (enNs ks) ms), some (.sh (tkD "name" w a b))]) (by simp [take_m h ok_name]) (sq_rt (if_t (ρ1 := [some (psO (some 0) tds (k + 1) (enNs ks) ms), some (.sh (tkD "name" w a b))]) ?_ ?_))
    · simp [e3]
    · simp [idxM, e2]
  have := ev_def (n := 1) (N := 2) (F := b_Parser_person) (ins := [psO none tds k (enNs ks) ms]) rfl (by simp [tagAll]) hb
  unfold f_Parser_person
  rw [this]
  simp [outsOf, List.range_succ]
theorem person_m {ks : List Str} (hn : ks.Nodup) (hk : ∀ x ∈ ks, PyData.strOk x = true) {i : Nat} {w : List Nat} (hw : ks[i]? = some (T w)) {a b : Int} (h : tds[k]? = some (tkD "name" w a b)) : methO 0 "Parser" "person" f_Parser_person nilA (some (psO t tds k (enNs ks) ms) :: rest) = some (.sh (.int (i : Int)), some (psO t tds (k + 1) (enNs ks) ms) :: rest) :=
  mt_ps (as := []) (by decide +kernel) rfl (person_ok hn hk hw h)
/-! a meeting -/
theorem mt_init (m : Mt) : f_Meeting_init [.oo none "Meeting" [], .sh (.str m.word), .sh (.int m.one), .sh (.int m.other), .sh (.int m.tick)] =
    some (.sh .non, [some (.oo none "Meeting" [("word", .sh (.str m.word)), ("one", .sh (.int m.one)), ("other", .sh (.int m.other)), ("tick", .sh (.int m.tick))]), none, none, none, none]) := by
  have p1 : putS "one" (.sh (.int m.one)) [(("word" : Str), Sl.sh (.str m.word))] = ([("word", .sh (.str m.word)), ("one", .sh (.int m.one))] : List (Str × Sl)) := (put_miss (by decide +kernel)).trans (by rw [put_nil])
  have p2 : putS "other" (.sh (.int m.other)) ([("word", .sh (.str m.word)), ("one", .sh (.int m.one))] : List (Str × Sl)) = ([("word", .sh (.str m.word)), ("one", .sh (.int m.one)), ("other", .sh (.int m.other))] : List (Str × Sl)) := (put_miss (by decide +kernel)).trans (by rw [put_miss (by decide +kernel), put_nil])
  have p3 : putS "tick" (.sh (.int m.tick)) ([("word", .sh (.str m.word)), ("one", .sh (.int m.one)), ("other", .sh (.int m.other))] : List (Str × Sl)) = ([("word", .sh (.str m.word)), ("one", .sh (.int m.one)), ("other", .sh (.int m.other)), ("tick", .sh (.int m.tick))] : List (Str × Sl)) :=
    (put_miss (by decide +kernel)).trans (by rw [put_miss (by decide +kernel), put_miss (by decide +kernel), put_nil])
  have hb : b_Meeting_init [some (.oo (some 0) "Meeting" []), some (.sh (.str m.word)), iS m.one, iS m.other, iS m.tick] =
      some (.nx, [some (.oo (some 0) "Meeting" [("word", .sh (.str m.word)), ("one", .sh (.int m.one)), ("other", .sh (.int m.other)), ("tick", .sh (.int m.tick))]), some (.sh (.str m.word)), iS m.one, iS m.other, iS m.tick]) := by
    unfold b_Meeting_init
    simp [put_nil, p1, p2, p3]
  have := ev_defN (n := 5) (N := 5) (F := b_Meeting_init) (ins := [.oo none "Meeting" [], .sh (.str m.word), .sh (.int m.one), .sh (.int m.other), .sh (.int m.tick)]) rfl (by simp [tagAll]) hb
  unfold f_Meeting_init
  rw [this]
  simp [outsOf, List.range_succ, tagOf]
theorem frz_mt (m : Mt) : frz (.oo none "Meeting" [("word", .sh (.str m.word)), ("one", .sh (.int m.one)), ("other", .sh (.int m.other)), ("tick", .sh (.int m.tick))]) = mD m := by simp [mD]
theorem key_ok (m : Mt) : f_Meeting_key [.sh (mD m)] = some (.sh (enM m), [none]) := by
  have hb : b_Meeting_key [some (.sh (mD m))] = some (.rt (.sh (enM m)), [some (.sh (mD m))]) := by
    unfold b_Meeting_key
    simp [enM]
  have := ev_def (n := 1) (N := 1) (F := b_Meeting_key) (ins := [.sh (mD m)]) rfl (by simp [tagAll]) hb
  unfold f_Meeting_key
  rw [this]
  simp [outsOf, List.range_succ, tagOf]
theorem key_p {fo : M Dat} {ρ ρ1 : Env} {m : Mt} (h : fo ρ = some (mD m, ρ1)) : propP "Meeting" f_Meeting_key fo ρ = some (.sh (enM m), ρ1) := by
  unfold propP
  rw [ev_bnd h]
  show (if ("Meeting" : Str) = "Meeting" then callP f_Meeting_key (ret [mD m]) else fun _ => none) ρ1 = _
  rw [if_pos rfl]
  exact callP_ok (ds := [mD m]) rfl (key_ok m)
end
end DL

set_option Elab.async false
set_option linter.all false
set_option maxRecDepth 100000
set_option maxHeartbeats 1000000
namespace DL
open PySem L2

@[simp] theorem isOwn_sh (d : Dat) : isOwn (.sh d) = false := rfl
/-! ### two for's without change -/
section
variable {α β : Type} {ρ ρ1 : Env} {g g1 : M (List Dat)} {tt1 : M Bool} {te : M Dat}
theorem lc2_in {enc1 : β → Dat} {i j : Nat} {p : β → Bool} {f : β → Dat} {ρ2 : Env} {vs : List Nat} : ∀ {ys : List β}, (∀ y ∈ ys, noOwn ((wipeE ρ2 [j]).set j (some (.sh (enc1 y)))) vs = true) → (∀ y ∈ ys, ∃ ρ3, tt1 ((wipeE ρ2 [j]).set j (some (.sh (enc1 y)))) = some (p y, ρ3)) → (∀ y ∈ ys, p y = true → ∃ ρ3, te ((wipeE ρ2 [j]).set j (some (.sh (enc1 y)))) = some (f y, ρ3)) →
    lc2In vs [j] (gnm j) tt1 te ρ2 (ys.map enc1) = some ((ys.filter p).map f)
  | [], _, _, _ => rfl
  | y :: ys, h0, h1, h2 => by
    have ih := lc2_in (ys := ys) (i := i) (fun z hz => h0 z (List.mem_cons_of_mem _ hz)) (fun z hz => h1 z (List.mem_cons_of_mem _ hz)) (fun z hz => h2 z (List.mem_cons_of_mem _ hz))
    rw [List.map_cons]
    unfold lc2In
    have e1 : gnm j (enc1 y) (wipeE ρ2 [j]) = some ((wipeE ρ2 [j]).set j (some (.sh (enc1 y)))) := rfl
    rw [e1]
    obtain ⟨ρ3, h3⟩ := h1 y (by simp)
    simp only [h0 y (by simp), if_true, h3]
    cases hp : p y with
    | true =>
      obtain ⟨ρ4, h4⟩ := h2 y (by simp) hp
      simp only [h4, ih, Option.map_some, List.filter_cons, hp, if_true, List.map_cons]
    | false =>
      simp only [ih, List.filter_cons, hp]
      rfl
theorem lc2_out {enc : α → Dat} {enc1 : β → Dat} {i j : Nat} {p : α → β → Bool} {f : α → β → Dat} {ρw : Env} {vs : List Nat} {ys : List β} : ∀ {xs : List α}, (∀ x ∈ xs, noOwn (ρw.set i (some (.sh (enc x)))) vs = true ∧ (∃ ρ3, g1 (ρw.set i (some (.sh (enc x)))) = some (ys.map enc1, ρ3)) ∧
      ∀ y ∈ ys, noOwn ((wipeE (ρw.set i (some (.sh (enc x)))) [j]).set j (some (.sh (enc1 y)))) vs = true ∧ (∃ ρ3, tt1 ((wipeE (ρw.set i (some (.sh (enc x)))) [j]).set j (some (.sh (enc1 y)))) = some (p x y, ρ3)) ∧ (p x y = true → ∃ ρ3, te ((wipeE (ρw.set i (some (.sh (enc x)))) [j]).set j (some (.sh (enc1 y)))) = some (f x y, ρ3))) →
    lc2Out vs [j] (gnm i) yesM g1 (gnm j) tt1 te ρw (xs.map enc) = some (xs.flatMap fun x => (ys.filter (p x)).map (f x))
  | [], _ => rfl
  | x :: xs, h => by
    have ih := lc2_out (xs := xs) fun z hz => h z (List.mem_cons_of_mem _ hz)
    obtain ⟨h1, ⟨ρ3, h2⟩, h3⟩ := h x (by simp)
    have h4 := lc2_in (ρ2 := ρw.set i (some (.sh (enc x)))) (vs := vs) (enc1 := enc1) (i := i) (j := j) (p := p x) (f := f x) (tt1 := tt1) (te := te) (ys := ys) (fun y hy => (h3 y hy).1) (fun y hy => (h3 y hy).2.1) (fun y hy => (h3 y hy).2.2)
    rw [List.map_cons]
    unfold lc2Out
    have e1 : gnm i (enc x) ρw = some (ρw.set i (some (.sh (enc x)))) := rfl
    have e2 : yesM (ρw.set i (some (.sh (enc x)))) = some (true, ρw.set i (some (.sh (enc x)))) := rfl
    rw [e1]
    simp only [h1, if_true, e2, h2, h4, ih, Option.map_some, List.flatMap_cons]
end
theorem plan_init {p : Pln} (hs : p.size ≤ 1000) (hm : p.mts.length ≤ 1000) : f_Plan_init [.oo none "Plan" [], .sh (.int p.size), .sh (.tuf (enNs p.names)), .sh (.lst (p.mts.map mD))] = some (.sh .non, [some (plS p.ord), none, none, none]) := by
  let R (fs : List (Str × Sl)) : Env := [some (.oo (some 0) "Plan" fs), iS p.size, some (.sh (.tuf (enNs p.names))), some (.sh (.lst (p.mts.map mD))), none, none]
  let F2 : List (Str × Sl) := [("size", .sh (.int p.size)), ("names", .sh (.tuf (enNs p.names)))]
  have hr := itR1_nat (n := p.size) (by omega)
  have hc : lc2D [4, 5] [5] (liftA itR1 (consA (vr 1) nilA)) (gnm 4) yesM (liftF itA (vr 3)) (gnm 5) (tst (bin eqD (un (fldD "Meeting" "tick") (vr 5)) (vr 4))) (vr 5) (R F2) = some (.ol none ((ordM p.size p.mts).map mD), R F2) := by
    have hg : liftA itR1 (consA (vr 1) nilA) (R F2) = some ((List.range p.size).map fun i : Nat => Dat.int (i : Int), R F2) := by simp [R, hr]
    have ho := lc2_out (g1 := liftF itA (vr 3)) (tt1 := tst (bin eqD (un (fldD "Meeting" "tick") (vr 5)) (vr 4))) (te := vr 5) (enc := fun i : Nat => Dat.int (i : Int)) (enc1 := mD) (i := 4) (j := 5) (p := fun t m => decide (m.tick = t)) (f := fun _ m => mD m) (ρw := wipeE (R F2) [4, 5]) (vs := [4, 5]) (ys := p.mts) (xs := List.range p.size) (fun t _ => by
      refine ⟨by simp [R, wipeE, noOwn], ⟨_, by simp [R, wipeE, itA]; rfl⟩, fun m _ => ?_⟩
      have he : ((m.tick : Int) == (t : Int)) = decide (m.tick = t) := by
        rw [Bool.eq_iff_iff]
        simp
        omega
      exact ⟨by simp [R, wipeE, noOwn], ⟨_, by simp [R, wipeE, he]; rfl⟩, fun _ => ⟨_, by simp [R, wipeE]; rfl⟩⟩)
    have hl : (ordM p.size p.mts).length ≤ 1000 := by
      have := (ordM_lt p.size p.mts).length_eq
      have h2 := List.length_filter_le (fun m : Mt => decide (m.tick < p.size)) p.mts
      omega
    unfold lc2D
    rw [hg]
    have hn : noOwn (R F2) [4, 5] = true := by simp [R, noOwn]
    simp only [hn, if_true, ho]
    have e : ((List.range p.size).flatMap fun t => (p.mts.filter fun m => decide (m.tick = t)).map mD) = (ordM p.size p.mts).map mD := by
      unfold ordM
      rw [List.map_flatMap]
    rw [e, if_pos (by simp; omega)]
  have p1 : putS "names" (.sh (.tuf (enNs p.names))) [(("size" : Str), Sl.sh (.int p.size))] = F2 := (put_miss (by decide +kernel)).trans (by rw [put_nil])
  have p2 : putS "meetings" (.sh (.lst ((ordM p.size p.mts).map mD))) F2 = ([("size", .sh (.int p.size)), ("names", .sh (.tuf (enNs p.names))), ("meetings", .sh (.lst ((ordM p.size p.mts).map mD)))] : List (Str × Sl)) := (put_miss (by decide +kernel)).trans (by rw [put_miss (by decide +kernel), put_nil])
  have hb : b_Plan_init (R []) = some (.nx, R [("size", .sh (.int p.size)), ("names", .sh (.tuf (enNs p.names))), ("meetings", .sh (.lst ((ordM p.size p.mts).map mD)))]) := by
    refine sq_nx (ρ1 := R [("size", .sh (.int p.size))]) (by simp [R, put_nil]) (sq_nx (ρ1 := R F2) (by simp [R, p1]) ?_)
    rw [ev_fldS, ev_shM, ev_frzM, hc]
    simp only [Option.map_some, Option.bind_some, frz_ol]
    simp [R, p2, F2]
  have := ev_defN (n := 4) (N := 6) (F := b_Plan_init) (ins := [.oo none "Plan" [], .sh (.int p.size), .sh (.tuf (enNs p.names)), .sh (.lst (p.mts.map mD))]) rfl (by simp [tagAll, R]) hb
  unfold f_Plan_init
  rw [this]
  simp [outsOf, List.range_succ, R, plS, Pln.ord, tagOf]
/-! ### the parser's methods -/
section
variable {t : Option Nat} {tds ns ms : List Dat} {k : Nat} {rest : Env}
theorem toInt_num {n : Nat} (h : n < 61) : toInt [.str (T (num n))] = some (.int (n : Int)) := by
  have hl := (num_small n h).1
  have e : intText? (T (num n)) = some (n : Int) := by
    rw [← num_str]
    exact TL.int_num (by show (num n).length ≤ _; omega)
  show (if (T (num n)).length ≤ 640 then (intText? (T (num n))).map Dat.int else none) = _
  rw [if_pos (by rw [T_len]; omega), e]
  rfl
theorem nk1 : (("sign" : Str) == "name") = false := by decide +kernel
theorem nk2 : (("keyword" : Str) == "end") = false := by decide +kernel
theorem people_ok {ks : List Str} (hn : ks.Nodup) (hk : ∀ x ∈ ks, PyData.strOk x = true) (h2 : 2 ≤ ks.length) (h8 : ks.length ≤ 8) {a b : Int} (t0 : tds[k]? = some (tkD "keyword" cP a b)) (t1 : ∀ i s, ks[i]? = some s → ∃ a b, tds[k + 1 + i]? = some (tkD "name" (nL s) a b))
    {c d : Int} (t2 : tds[k + 1 + ks.length]? = some (tkD "sign" [59] c d)) : f_Parser_parse_people [psO none tds k [] ms] = some (.sh .non, [some (psO none tds (k + 2 + ks.length) (enNs ks) ms)]) := by
  let P (j : Nat) : Option Sl := some (psO (some 0) tds (k + 1 + j) [] ms)
  let L (j : Nat) : List Dat := (tds.drop (k + 1)).take j
  have Ls : ∀ j x, tds[k + 1 + j]? = some x → L (j + 1) = L j ++ [x] := fun j x hx => by
    show (tds.drop (k + 1)).take (j + 1) = _
    rw [List.take_add_one, List.getElem?_drop, hx]
    rfl
  have okP : PyData.strOk (T cP) = true := by decide +kernel
  have okS : PyData.strOk (T [59]) = true := by decide +kernel
  have eP : ("people" : Str) = T cP := by decide +kernel
  obtain ⟨s0, hs0⟩ : ∃ s, ks[0]? = some s := ⟨_, List.getElem?_eq_getElem (by omega)⟩
  obtain ⟨a0, b0, n0⟩ := t1 0 s0 hs0
  have eqn := eqD_str ok_name ok_name
  have eqs := eqD_str ok_sign ok_name
  rw [nk1] at eqs
  let W (j : Nat) : Env := [P j, some (.sh (tkD "keyword" cP a b)), some (.ol none (L j)), none]
  have loop := while_inv (c := tst (bin eqD (un (fldD "Token" "kind") (frzM (methO 0 "Parser" "peek" f_Parser_peek nilA))) (cst (.str "name")))) (body := dropS (shM (mutM (.nm 2) appG (consA (frzM (methO 0 "Parser" "take" f_Parser_take (consA (bnd (cst (.str "name")) fun d => ret (.sh d)) nilA))) nilA))))
    (fun m ρ => ∃ j, m = ks.length - j ∧ 1 ≤ j ∧ j ≤ ks.length ∧ ρ = W j) (fun ρ => ρ = W ks.length) (by
      rintro m ρ ⟨j, rfl, h1, hj, rfl⟩
      by_cases hlt : j < ks.length
      · obtain ⟨s, hs⟩ : ∃ s, ks[j]? = some s := ⟨_, List.getElem?_eq_getElem hlt⟩
        obtain ⟨a1, b1, n1⟩ := t1 j s hs
        refine .inr ⟨W j, W (j + 1), ks.length - (j + 1), by omega, ?_, ?_, j + 1, rfl, by omega, by omega, rfl⟩
        · simp [W, P, peek_m n1, eqn]
        · have ap : appG (L j) [tkD "name" (nL s) a1 b1] = some (L (j + 1), .non) := by
            unfold appG
            simp only
            rw [if_pos, Ls j _ n1]
            have : (L j).length ≤ j := List.length_take_le _ _
            show (L j).length < 16777216
            omega
          simp [W, P, take_m n1 ok_name, ap]
          rfl
      · have : j = ks.length := by omega
        subst this
        exact .inl ⟨W ks.length, by simp [W, P, peek_m t2, eqs], rfl⟩)
  obtain ⟨ρ', g1, rfl⟩ := loop 1000000 (ks.length - 1) (W 1) ⟨1, rfl, by omega, by omega, rfl⟩ (by omega)
  let N (i : Nat) : List Dat := enNs (ks.take i)
  have N0 : N 0 = [] := rfl
  have NL : N ks.length = enNs ks := by show enNs (ks.take ks.length) = _; rw [List.take_length]
  let Z (i : Nat) (x : Option Sl) : Env := [some (psO (some 0) tds (k + 2 + ks.length) (N i) ms), some (.sh (tkD "keyword" cP a b)), some (.sh (.lst (L ks.length))), x]
  have hLl : (L ks.length).length = ks.length := by
    have : k + 1 + ks.length < tds.length := (List.getElem?_eq_some_iff.mp t2).1
    show ((tds.drop (k + 1)).take ks.length).length = _
    rw [List.length_take, List.length_drop]
    omega
  have hLg : ∀ i s, ks[i]? = some s → ∃ a b, (L ks.length)[i]? = some (tkD "name" (nL s) a b) := fun i s hs => by
    obtain ⟨a1, b1, n1⟩ := t1 i s hs
    refine ⟨a1, b1, ?_⟩
    show ((tds.drop (k + 1)).take ks.length)[i]? = _
    rw [List.getElem?_take, if_pos (List.getElem?_eq_some_iff.mp hs).1, List.getElem?_drop]
    exact n1
  have loop2 := for_inv (g := liftF itA (vrF 2)) (gb := gnm 3)
    (body := (iff_ (viewB 0 (tst (bin inD (un (fldD "Token" "text") (vr 3)) (un (fldD "Parser" "names") (vr 0)))))
  nvr
  (iff_ (viewB 0 (tst (bin eqD (liftA lenD (consA (un (fldD "Parser" "names") (vr 0)) nilA)) (cst (.int 8)))))
  nvr
  (dropS (shM (mutM (.fl 0 "Parser" "names") appG (consA (un (fldD "Token" "text") (vr 3)) nilA)))))))
    (enc := fun d : Dat => d) (xs := L ks.length) (ρ := [some (psO (some 0) tds (k + 2 + ks.length) [] ms), some (.sh (tkD "keyword" cP a b)), some (.ol none (L ks.length)), none]) (ρ1 := Z 0 none)
    (fun xs ρ => ∃ i x, i ≤ ks.length ∧ xs = (L ks.length).drop i ∧ ρ = Z i x) (by simp [itA, Z, N0]) ⟨0, none, by omega, rfl, rfl⟩
    (fun d xs ρ ⟨i, x, hi, e1, e2⟩ => by
      subst e2
      have hlt : i < ks.length := by
        have := congrArg List.length e1
        rw [List.length_drop, hLl] at this
        simp at this
        omega
      have hks : ks[i]? = some ks[i] := List.getElem?_eq_getElem hlt
      obtain ⟨a1, b1, n1⟩ := hLg i _ hks
      rw [drop_cons n1] at e1
      cases e1
      have hnew : ks[i] ∉ ks.take i := fun hm => by
        obtain ⟨j, hj, he⟩ := List.mem_iff_getElem.mp hm
        rw [List.getElem_take] at he
        have hj' : j < i := by simp at hj; omega
        have := (List.getElem_inj hn).mp he
        omega
      have hok := hk _ (List.getElem_mem hlt)
      have e3 := inB_strs (s := ks[i]) (ks := ks.take i) hok (fun x hx => hk x (List.mem_of_mem_take hx))
      have e4 : inD (.str ks[i]) (.lst (N i)) = some (.bl false) := by
        show inD (.str ks[i]) (.lst (enNs (ks.take i))) = _
        unfold inD
        rw [e3, decide_eq_false hnew]
        rfl
      have htl : (N i).length = i := by show (enNs (ks.take i)).length = i; simp [enNs]; omega
      have ap : appG (N i) [.str ks[i]] = some (N (i + 1), .non) := by
        have e5 : N (i + 1) = N i ++ [.str ks[i]] := by
          show (ks.take (i + 1)).map Dat.str = (ks.take i).map Dat.str ++ [.str ks[i]]
          rw [List.take_add_one, hks, List.map_append]
          rfl
        unfold appG
        simp only
        rw [if_pos (by rw [htl]; show i < 16777216; omega), e5]
      have n8 : ¬ ((i : Int) = 8) := by omega
      refine ⟨Z i (some (.sh (tkD "name" (nL ks[i]) a1 b1))), Z (i + 1) (some (.sh (tkD "name" (nL ks[i]) a1 b1))), rfl, .inl ?_, i + 1, _, by omega, rfl, rfl⟩
      refine if_f (ρ1 := Z i (some (.sh (tkD "name" (nL ks[i]) a1 b1)))) (by simp [Z, T_of, e4]) (if_f (ρ1 := Z i (some (.sh (tkD "name" (nL ks[i]) a1 b1)))) ?_ ?_)
      · simp only [Z]
        simp [htl, n8]
      · simp only [Z]
        rw [ev_dropS, ev_shM, ev_mutM, gp_names]
        simp [T_of, gp_names, ap, sp_names])
  obtain ⟨ρ', g2, i, x, hi, e1, rfl⟩ := loop2
  have hi2 : i = ks.length := by
    have := congrArg List.length e1
    rw [List.length_drop, hLl] at this
    simp at this
    omega
  subst hi2
  have hb : b_Parser_parse_people [some (psO (some 0) tds k [] ms), none, none, none] = some (.nx, Z ks.length x) := by
    refine sq_nx (ρ1 := [P 0, some (.sh (tkD "keyword" cP a b)), none, none]) ?_ (sq_nx (ρ1 := W 1) ?_ (sq_nx g1 (sq_nx (ρ1 := [some (psO (some 0) tds (k + 2 + ks.length) [] ms), some (.sh (tkD "keyword" cP a b)), some (.ol none (L ks.length)), none]) ?_ (sq_nx g2 ?_))))
    · simp [P, word_m eP t0 okP]
    · have l1 : L 1 = [tkD "name" (nL s0) a0 b0] := by
        have := Ls 0 _ n0
        simpa [L] using this
      have n0' : tds[k + 1]? = some (tkD "name" (nL s0) a0 b0) := n0
      simp [P, W, take_m n0' ok_name, l1]
    · have : k + 1 + ks.length + 1 = k + 2 + ks.length := by omega
      simp [W, P, word_m s_semi t2 okS, this]
    · have htl : (N ks.length).length = ks.length := by rw [NL]; simp [enNs]
      have n2 : ¬ ((ks.length : Int) < 2) := by omega
      refine if_f (ρ1 := Z ks.length x) ?_ rfl
      simp only [Z]
      simp [htl, n2]
  have := ev_defN (n := 1) (N := 4) (F := b_Parser_parse_people) (ins := [psO none tds k [] ms]) rfl (by simp [tagAll]) hb
  unfold f_Parser_parse_people
  rw [this]
  simp [outsOf, List.range_succ, Z, NL]
end
end DL

set_option Elab.async false
set_option linter.all false
set_option maxRecDepth 100000
set_option maxHeartbeats 1000000
namespace DL
open PySem L2

/-! ### tokens of a plan -/
def tksM (names : List Str) (m : Mt) : List Tk := [("keyword", m.wL), ("name", nmOf names m.one), ("name", nmOf names m.other), ("number", num m.tick), ("sign", [59])]
def tksP (p : Pln) : List Tk := ([("keyword", cR), ("number", num p.size), ("sign", [59]), ("keyword", cP)] : List Tk) ++ (p.names.map (fun s => (("name", nL s) : Tk)) ++ (([("sign", [59])] : List Tk) ++ p.mts.flatMap (tksM p.names)))
section
variable {t : Option Nat} {tds ns : List Dat} {k : Nat} {rest : Env}
theorem strOk_wL (m : Mt) : PyData.strOk (T m.wL) = true := by rw [← word_T]; exact strOk_word m
theorem meeting_ok {p : Pln} (h : PlOk p) {m : Mt} (hm : m ∈ p.mts) {ms : List Mt} (hnew : m ∉ ms) (hms : ms.length < 20) {a0 b0 a1 b1 a2 b2 a3 b3 a4 b4 : Int}
    (t0 : tds[k]? = some (tkD "keyword" m.wL a0 b0)) (t1 : tds[k + 1]? = some (tkD "name" (nmOf p.names m.one) a1 b1)) (t2 : tds[k + 1 + 1]? = some (tkD "name" (nmOf p.names m.other) a2 b2)) (t3 : tds[k + 1 + 1 + 1]? = some (tkD "number" (num m.tick) a3 b3)) (t4 : tds[k + 1 + 1 + 1 + 1]? = some (tkD "sign" [59] a4 b4)) :
    f_Parser_parse_meeting [psO none tds k (enNs p.names) (ms.map mD), .sh (.int p.size)] = some (.sh .non, [some (psO none tds (k + 5) (enNs p.names) ((ms ++ [m]).map mD)), none]) := by
  obtain ⟨g1, g2, g3, g4⟩ := h.ms m hm
  have hs2 := h.s2
  have hks : ∀ x ∈ p.names, PyData.strOk x = true := fun x hx => strOk_eight x (h.ns x hx)
  have w1 : p.names[m.one]? = some (T (nmOf p.names m.one)) := by rw [(nmOf_len h g1).1, T_of]; exact List.getElem?_eq_getElem g1
  have w2 : p.names[m.other]? = some (T (nmOf p.names m.other)) := by rw [(nmOf_len h g2).1, T_of]; exact List.getElem?_eq_getElem g2
  let N := enNs p.names
  let S (j : Nat) (q : List Dat) : Option Sl := some (psO (some 0) tds j N q)
  let kw : Option Sl := some (.sh (tkD "keyword" m.wL a0 b0))
  let tk : Option Sl := some (.sh (tkD "name" (nmOf p.names m.other) a2 b2))
  let nb : Option Sl := some (.sh (tkD "number" (num m.tick) a3 b3))
  let Q : List Dat := ms.map mD
  have okS : PyData.strOk (T [59]) = true := by decide +kernel
  have e0 := ninD_tup (T m.wL) ["meet", "tell"]
  have hmem : T m.wL ∈ ([("meet" : Str), "tell"] : List Str) := by
    rw [← word_T]
    unfold Mt.word
    cases m.tell <;> simp
  rw [decide_eq_true hmem] at e0
  simp only [enNs, List.map_cons, List.map_nil] at e0
  have ti := toInt_num (n := m.tick) (by omega)
  have n1 : ((m.one : Int) == (m.other : Int)) = false := by
    rw [beq_eq_false_iff_ne]
    omega
  have lt : ¬ ((p.size : Int) ≤ (m.tick : Int)) := by omega
  have mi := mt_init m
  rw [word_T] at mi
  have fm := frz_mt m
  rw [word_T] at fm
  have hQ : Q.length = ms.length := by simp [Q]
  let R (j : Nat) (q : List Dat) (a b c d e : Option Sl) : Env := [S j q, iS p.size, kw, a, b, c, d, e, none]
  have hin : inD (enM m) (.lst (ms.map enM)) = some (.bl false) := by
    unfold inD
    rw [inB_ms, decide_eq_false hnew]
    rfl
  let V : Env := [some (.sh (psD tds (k + 5) N Q)), iS p.size, kw, iS m.one, tk, iS m.other, nb, some (.sh (mD m)), none]
  have hc := lc1y (ρ := V) (ρ1 := V) (g := liftF itA (un (fldD "Parser" "meetings") (vr 0))) (te := frzM (propP "Meeting" f_Meeting_key (vr 8))) (enc := mD) (i := 8) (xs := ms) (f := enM)
    (by simp [V, itA, Q]) (by simp [V, noOwn]) (fun z _ => by
      have hv : vr 8 (V.set 8 (some (.sh (mD z)))) = some (mD z, V.set 8 (some (.sh (mD z)))) := by simp [V]
      rw [ev_frzM, key_p hv]
      simp)
  have hb : b_Parser_parse_meeting [S k Q, iS p.size, none, none, none, none, none, none, none] = some (.nx, R (k + 5) ((ms ++ [m]).map mD) (iS m.one) tk (iS m.other) nb (some (.sh (mD m)))) := by
    refine sq_nx (ρ1 := R k Q none none none none none) (by simp [R, S, kw, peek_m t0]) ?_
    refine sq_nx (ρ1 := R k Q none none none none none) (if_f (ρ1 := R k Q none none none none none) (by simp [R, kw, e0]) rfl) ?_
    refine sq_nx (ρ1 := R (k + 1) Q none none none none none) fa_at ?_
    refine sq_nx (ρ1 := R (k + 1 + 1) Q (iS m.one) none none none none) (by simp [R, S, N, person_m h.nn hks w1 t1]) ?_
    refine sq_nx (ρ1 := R (k + 1 + 1) Q (iS m.one) tk none none none) (by simp [R, S, peek_m t2, tk]) ?_
    refine sq_nx (ρ1 := R (k + 1 + 1 + 1) Q (iS m.one) tk (iS m.other) none none) (by simp [R, S, N, person_m h.nn hks w2 t2]) ?_
    refine sq_nx (ρ1 := R (k + 1 + 1 + 1) Q (iS m.one) tk (iS m.other) none none) (if_f (ρ1 := R (k + 1 + 1 + 1) Q (iS m.one) tk (iS m.other) none none) ?_ rfl) ?_
    · rw [ev_andB, ev_tst, ev_bin]
      have v3 : vr 3 (R (k + 1 + 1 + 1) Q (iS m.one) tk (iS m.other) none none) = some (.int m.one, R (k + 1 + 1 + 1) Q (iS m.one) tk (iS m.other) none none) := rfl
      have v5 : vr 5 (R (k + 1 + 1 + 1) Q (iS m.one) tk (iS m.other) none none) = some (.int m.other, R (k + 1 + 1 + 1) Q (iS m.one) tk (iS m.other) none none) := rfl
      simp only [v3, v5, Option.bind_some, eqD_int, n1, Option.map_some]
      rfl
    refine sq_nx (ρ1 := R (k + 1 + 1 + 1 + 1) Q (iS m.one) tk (iS m.other) nb none) (by simp [R, S, take_m t3 ok_number, nb]) ?_
    refine sq_nx (ρ1 := R (k + 5) Q (iS m.one) tk (iS m.other) nb none) (by simp [R, S, word_m s_semi t4 okS]) ?_
    refine sq_nx (ρ1 := R (k + 5) Q (iS m.one) tk (iS m.other) nb none) (if_f (ρ1 := R (k + 5) Q (iS m.one) tk (iS m.other) nb none) (by simp [R, nb, ti, lt]) rfl) ?_
    refine sq_nx (ρ1 := R (k + 5) Q (iS m.one) tk (iS m.other) nb (some (.sh (mD m)))) ?_ ?_
    · simp only [R, kw, nb]
      simp [ti, mi, mD, word_T]
    refine sq_nx (ρ1 := R (k + 5) Q (iS m.one) tk (iS m.other) nb (some (.sh (mD m)))) (if_f (ρ1 := R (k + 5) Q (iS m.one) tk (iS m.other) nb (some (.sh (mD m)))) ?_ rfl) ?_
    · have hvw : viewE 0 (R (k + 5) Q (iS m.one) tk (iS m.other) nb (some (.sh (mD m)))) = V := by simp [R, S, V]
      have hv7 : vr 7 V = some (mD m, V) := by simp [V]
      rw [ev_viewB, hvw, ev_tst, ev_bin, ev_frzM, key_p hv7]
      simp only [Option.map_some, Option.bind_some, frz_sh, ev_frzM, hc, frz_ol, hin]
    refine if_f (ρ1 := R (k + 5) Q (iS m.one) tk (iS m.other) nb (some (.sh (mD m)))) ?_ ?_
    · have n20 : ¬ ((ms.length : Int) = 20) := by omega
      simp only [R, S]
      simp [hQ, n20]
    · have ap : appG Q [mD m] = some ((ms ++ [m]).map mD, .non) := by
        unfold appG
        simp only
        rw [if_pos (by rw [hQ]; show _ < 16777216; omega)]
        simp [Q]
      simp only [R, S]
      rw [ev_dropS, ev_shM, ev_mutM, gp_meetings]
      simp [gp_meetings, ap, sp_meetings]
  have := ev_defN (n := 2) (N := 9) (F := b_Parser_parse_meeting) (ins := [psO none tds k (enNs p.names) (ms.map mD), .sh (.int p.size)]) rfl (by simp [tagAll, S, N, Q]) hb
  unfold f_Parser_parse_meeting
  rw [this]
  simp [outsOf, List.range_succ, R, S, N]
theorem meeting_m {p : Pln} (h : PlOk p) {m : Mt} (hm : m ∈ p.mts) {ms : List Mt} (hnew : m ∉ ms) (hms : ms.length < 20) {a0 b0 a1 b1 a2 b2 a3 b3 a4 b4 : Int}
    (t0 : tds[k]? = some (tkD "keyword" m.wL a0 b0)) (t1 : tds[k + 1]? = some (tkD "name" (nmOf p.names m.one) a1 b1)) (t2 : tds[k + 1 + 1]? = some (tkD "name" (nmOf p.names m.other) a2 b2)) (t3 : tds[k + 1 + 1 + 1]? = some (tkD "number" (num m.tick) a3 b3)) (t4 : tds[k + 1 + 1 + 1 + 1]? = some (tkD "sign" [59] a4 b4)) {i : Nat} {ρ' : Env}
    (hv : vr i (some (psO t tds k (enNs p.names) (ms.map mD)) :: rest) = some (.int p.size, some (psO t tds k (enNs p.names) (ms.map mD)) :: rest)) :
    methO 0 "Parser" "parse_meeting" f_Parser_parse_meeting (consA (bnd (vr i) fun d => ret (.sh d)) nilA) (some (psO t tds k (enNs p.names) (ms.map mD)) :: rest) = some (.sh .non, some (psO t tds (k + 5) (enNs p.names) ((ms ++ [m]).map mD)) :: rest) := by
  refine mt_ps (as := [.int p.size]) (by decide +kernel) ?_ (meeting_ok h hm hnew hms t0 t1 t2 t3 t4)
  rw [ev_consA, ev_bnd hv]
  rfl
/-- fields given up -/
theorem ff_names {ms : List Dat} : fldF 0 "Parser" "names" (some (psO t tds k ns ms) :: rest) = some (.lst ns, some (.oo t "Parser" [("tokens", .sh (.lst tds)), ("at", .sh (.int k)), ("faults", .ol none []), ("names", .sh (.lst ns)), ("meetings", .ol none ms)]) :: rest) := by
  have e : fldF 0 "Parser" "names" (some (psO t tds k ns ms) :: rest) = match List.lookup ("names" : Str) (psF tds k ns ms) with
    | some s => some (frz s, some (.oo t "Parser" (setS "names" (.sh (frz s)) (psF tds k ns ms))) :: rest)
    | none => none := rfl
  rw [e, ps_names]
  simp only [frz_ol]
  have p : setS "names" (.sh (.lst ns)) (psF tds k ns ms) = ([("tokens", .sh (.lst tds)), ("at", .sh (.int k)), ("faults", .ol none []), ("names", .sh (.lst ns)), ("meetings", .ol none ms)] : List (Str × Sl)) := by
    unfold psF
    rw [set_miss (by decide +kernel), set_miss (by decide +kernel), set_miss (by decide +kernel), set_hit (by decide +kernel)]
  rw [p]
theorem ff_meetings {ms : List Dat} {x : Sl} : ∃ ρ', fldF 0 "Parser" "meetings" (some (.oo t "Parser" [("tokens", .sh (.lst tds)), ("at", .sh (.int k)), ("faults", .ol none []), ("names", x), ("meetings", .ol none ms)]) :: rest) = some (.lst ms, some ρ' :: rest) := by
  have l : List.lookup ("meetings" : Str) ([("tokens", .sh (.lst tds)), ("at", .sh (.int k)), ("faults", .ol none []), ("names", x), ("meetings", .ol none ms)] : List (Str × Sl)) = some (.ol none ms) := (lk_miss (by decide +kernel)).trans ((lk_miss (by decide +kernel)).trans ((lk_miss (by decide +kernel)).trans ((lk_miss (by decide +kernel)).trans lk_hit)))
  have e : fldF 0 "Parser" "meetings" (some (.oo t "Parser" [("tokens", .sh (.lst tds)), ("at", .sh (.int k)), ("faults", .ol none []), ("names", x), ("meetings", .ol none ms)]) :: rest) = match List.lookup ("meetings" : Str) ([("tokens", .sh (.lst tds)), ("at", .sh (.int k)), ("faults", .ol none []), ("names", x), ("meetings", .ol none ms)] : List (Str × Sl)) with
    | some s => some (frz s, some (.oo t "Parser" (setS "meetings" (.sh (frz s)) [("tokens", .sh (.lst tds)), ("at", .sh (.int k)), ("faults", .ol none []), ("names", x), ("meetings", .ol none ms)])) :: rest)
    | none => none := rfl
  rw [e, l]
  exact ⟨_, rfl⟩
theorem nk3 : (("end" : Str) == "end") = true := by decide +kernel
theorem neD_same {s : Str} (h : PyData.strOk s = true) : neD (.str s) (.str s) = some (.bl false) := by
  rw [neD_str h h]
  simp
theorem tksM_len (names : List Str) : ∀ ms : List Mt, (ms.flatMap (tksM names)).length = 5 * ms.length
  | [] => rfl
  | m :: ms => by
    rw [List.flatMap_cons, List.length_append, tksM_len names ms]
    simp [tksM]
    omega
theorem tksM_get (names : List Str) {ms : List Mt} {i : Nat} {m : Mt} (h : ms[i]? = some m) : ∀ j, j < 5 → (ms.flatMap (tksM names))[5 * i + j]? = (tksM names m)[j]? := by
  induction ms generalizing i with
  | nil => simp at h
  | cons x ms ih =>
    intro j hj
    rw [List.flatMap_cons]
    have l5 : (tksM names x).length = 5 := rfl
    cases i with
    | zero =>
      simp at h
      subst h
      rw [List.getElem?_append_left (by omega)]
      simp
    | succ i =>
      rw [List.getElem?_append_right (by omega), l5]
      rw [show 5 * (i + 1) + j - 5 = 5 * i + j by omega]
      exact ih (by simpa using h) j hj
/-- the whole plan -/
theorem plan_parse {p : Pln} (h : PlOk p) (htk : TksOf tds (tksP p ++ [(("end", []) : Tk)])) : ∃ o, f_Parser_parse_plan [psO none tds 0 [] []] = some (plS p.ord, o) := by
  have hs1 := h.s1
  have hs2 := h.s2
  have hks : ∀ x ∈ p.names, PyData.strOk x = true := fun x hx => strOk_eight x (h.ns x hx)
  have n := p.names.length
  have get : ∀ {i : Nat} {x : Tk}, (tksP p ++ [(("end", []) : Tk)])[i]? = some x → ∃ a b, tds[i]? = some (tkD x.1 x.2 a b) := fun hx => htk.get hx
  obtain ⟨a0, b0, t0⟩ := get (i := 0) (x := ("keyword", cR)) rfl
  obtain ⟨a1, b1, t1⟩ := get (i := 1) (x := ("number", num p.size)) rfl
  obtain ⟨a2, b2, t2⟩ := get (i := 2) (x := ("sign", [59])) rfl
  obtain ⟨a3, b3, t3⟩ := get (i := 3) (x := ("keyword", cP)) rfl
  have lead : ∀ i, (tksP p ++ [(("end", []) : Tk)])[4 + i]? = ((p.names.map (fun s => (("name", nL s) : Tk)) ++ (([("sign", [59])] : List Tk) ++ p.mts.flatMap (tksM p.names))) ++ [(("end", []) : Tk)])[i]? := fun i => by
    unfold tksP
    rw [List.append_assoc, List.getElem?_append_right (by simp)]
    simp
  have tn : ∀ i s, p.names[i]? = some s → ∃ a b, tds[3 + 1 + i]? = some (tkD "name" (nL s) a b) := fun i s hs => by
    refine get (i := 4 + i) (x := ("name", nL s)) ?_
    have hl := (List.getElem?_eq_some_iff.mp hs).1
    rw [lead, List.append_assoc, List.getElem?_append_left (by simpa using hl), List.getElem?_map, hs]
    rfl
  obtain ⟨a4, b4, t4⟩ := get (i := 4 + p.names.length) (x := ("sign", [59])) (by
    rw [lead, List.append_assoc, List.getElem?_append_right (by simp)]
    simp)
  have lead2 : ∀ i, (tksP p ++ [(("end", []) : Tk)])[4 + (p.names.length + 1 + i)]? = (p.mts.flatMap (tksM p.names) ++ [(("end", []) : Tk)])[i]? := fun i => by
    rw [lead, List.append_assoc, List.getElem?_append_right (by simp; omega)]
    simp only [List.length_map]
    rw [show p.names.length + 1 + i - p.names.length = 1 + i by omega, List.append_assoc, List.getElem?_append_right (by simp)]
    simp
  have tm : ∀ i m, p.mts[i]? = some m → ∀ j x, j < 5 → (tksM p.names m)[j]? = some x → ∃ a b, tds[5 + p.names.length + 5 * i + j]? = some (tkD x.1 x.2 a b) := fun i m hm j x hj hx => by
    have hil := (List.getElem?_eq_some_iff.mp hm).1
    have : (tksP p ++ [(("end", []) : Tk)])[4 + (p.names.length + 1 + (5 * i + j))]? = some x := by
      rw [lead2, List.getElem?_append_left (by rw [tksM_len]; omega), tksM_get p.names hm j hj]
      exact hx
    have := get this
    rw [show 4 + (p.names.length + 1 + (5 * i + j)) = 5 + p.names.length + 5 * i + j by omega] at this
    exact this
  obtain ⟨a5, b5, t5⟩ := get (i := 4 + (p.names.length + 1 + 5 * p.mts.length)) (x := ("end", [])) (by
    rw [lead2, List.getElem?_append_right (by rw [tksM_len]; omega), tksM_len]
    simp)
  have okR : PyData.strOk (T cR) = true := by decide +kernel
  have okS : PyData.strOk (T [59]) = true := by decide +kernel
  have eR : ("round" : Str) = T cR := by decide +kernel
  have ti := toInt_num (n := p.size) (by omega)
  let N := enNs p.names
  let tk : Option Sl := some (.sh (tkD "number" (num p.size) a1 b1))
  let B : Nat := 5 + p.names.length
  let W (j : Nat) : Env := [some (psO (some 0) tds (B + 5 * j) N ((p.mts.take j).map mD)), tk, iS p.size, none, none, none, none]
  have pp := people_ok (ms := []) h.nn hks h.n2 h.n8 t3 tn t4
  have nek := neD_str ok_keyword ok_end
  rw [nk2] at nek
  have nee := neD_same ok_end
  have loop := while_inv (c := tst (bin neD (un (fldD "Token" "kind") (frzM (methO 0 "Parser" "peek" f_Parser_peek nilA))) (cst (.str "end")))) (body := dropS (methO 0 "Parser" "parse_meeting" f_Parser_parse_meeting (consA (bnd (vr 2) fun d => ret (.sh d)) nilA)))
    (fun m ρ => ∃ j, m = p.mts.length - j ∧ j ≤ p.mts.length ∧ ρ = W j) (fun ρ => ρ = W p.mts.length) (by
      rintro m ρ ⟨j, rfl, hj, rfl⟩
      by_cases hlt : j < p.mts.length
      · have hm : p.mts[j]? = some p.mts[j] := List.getElem?_eq_getElem hlt
        obtain ⟨x0, y0, u0⟩ := tm j _ hm 0 _ (by omega) rfl
        obtain ⟨x1, y1, u1⟩ := tm j _ hm 1 _ (by omega) rfl
        obtain ⟨x2, y2, u2⟩ := tm j _ hm 2 _ (by omega) rfl
        obtain ⟨x3, y3, u3⟩ := tm j _ hm 3 _ (by omega) rfl
        obtain ⟨x4, y4, u4⟩ := tm j _ hm 4 _ (by omega) rfl
        have hnew : p.mts[j] ∉ p.mts.take j := fun hx => by
          obtain ⟨i, hi, he⟩ := List.mem_iff_getElem.mp hx
          rw [List.getElem_take] at he
          have hi' : i < j := by simp at hi; omega
          have := (List.getElem_inj h.mn).mp he
          omega
        have hml := h.ml
        refine .inr ⟨W j, W (j + 1), p.mts.length - (j + 1), by omega, ?_, ?_, j + 1, rfl, by omega, rfl⟩
        · have u0' : tds[B + 5 * j]? = some (tkD "keyword" (p.mts[j]).wL x0 y0) := u0
          simp [W, peek_m u0', nek]
        · have hmm := meeting_m (t := some 0) (rest := [tk, iS p.size, none, none, none, none]) h (List.getElem_mem hlt) hnew (by simp; omega) u0 u1 u2 u3 u4 (i := 2) (ρ' := []) rfl
          have e1 : W j = some (psO (some 0) tds (5 + p.names.length + 5 * j) (enNs p.names) ((p.mts.take j).map mD)) :: [tk, iS p.size, none, none, none, none] := rfl
          have e2 : p.mts.take (j + 1) = p.mts.take j ++ [p.mts[j]] := by
            rw [List.take_add_one, hm]
            rfl
          have e3 : W (j + 1) = some (psO (some 0) tds (5 + p.names.length + 5 * j + 5) (enNs p.names) ((p.mts.take j ++ [p.mts[j]]).map mD)) :: [tk, iS p.size, none, none, none, none] := by
            show some (psO (some 0) tds (5 + p.names.length + 5 * (j + 1)) (enNs p.names) ((p.mts.take (j + 1)).map mD)) :: _ = _
            rw [e2, show 5 + p.names.length + 5 * (j + 1) = 5 + p.names.length + 5 * j + 5 by omega]
          rw [e1, ev_dropS, e3]
          have e4 : (5 + p.names.length + 5 * j + 0) = 5 + p.names.length + 5 * j := by omega
          simp only [Nat.add_zero] at hmm
          rw [hmm]
          rfl
      · have : j = p.mts.length := by omega
        subst this
        refine .inl ⟨W p.mts.length, ?_, rfl⟩
        have t5' : tds[B + 5 * p.mts.length]? = some (tkD "end" [] a5 b5) := by
          rw [show B + 5 * p.mts.length = 4 + (p.names.length + 1 + 5 * p.mts.length) by show 5 + p.names.length + _ = _; omega]
          exact t5
        simp [W, peek_m t5', nee])
  obtain ⟨ρ', g1, rfl⟩ := loop 1000000 p.mts.length (W 0) ⟨0, by omega, by omega, rfl⟩ (by have := h.ml; omega)
  have pin := plan_init (p := p) (by omega) (by have := h.ml; omega)
  obtain ⟨ρm, fm⟩ := ff_meetings (t := some 0) (tds := tds) (k := B + 5 * p.mts.length) (rest := [tk, iS p.size, none, none, none, none]) (ms := p.mts.map mD) (x := .sh (.lst N))
  have hb : ∃ ρf, b_Parser_parse_plan [some (psO (some 0) tds 0 [] []), none, none, none, none, none, none] = some (.rt (plS p.ord), ρf) := by
    refine ⟨some ρm :: [tk, iS p.size, none, none, none, none], ?_⟩
    let U (j : Nat) (a b : Option Sl) : Env := [some (psO (some 0) tds j [] []), a, b, none, none, none, none]
    refine sq_nx (ρ1 := U 1 none none) (by simp [U, word_m eR t0 okR]) ?_
    refine sq_nx (ρ1 := U 2 tk none) (by simp [U, tk, take_m t1 ok_number]) ?_
    refine sq_nx (ρ1 := U 2 tk (iS p.size)) (by simp [U, tk, ti]) ?_
    refine sq_nx (ρ1 := U 3 tk (iS p.size)) (by simp [U, tk, word_m s_semi t2 okS]) ?_
    refine sq_nx (ρ1 := U 3 tk (iS p.size)) (if_f (ρ1 := U 3 tk (iS p.size)) ?_ rfl) ?_
    · have l1 : (1 : Int) ≤ (p.size : Int) := by omega
      have l2 : (p.size : Int) ≤ 60 := by omega
      simp only [U]
      simp [decide_eq_true l1, decide_eq_true l2]
    refine sq_nx (ρ1 := W 0) ?_ (sq_nx g1 ?_)
    · have pm := mt_ps (t := some 0) (rest := [tk, iS p.size, none, none, none, none]) (m := "parse_people") (far := nilA) (as := []) (by decide +kernel) rfl pp
      have e1 : U 3 tk (iS p.size) = some (psO (some 0) tds 3 [] []) :: [tk, iS p.size, none, none, none, none] := rfl
      rw [ev_dropS, e1, pm]
      show some (Fl.nx, _) = some (Fl.nx, W 0)
      have e2 : W 0 = some (psO (some 0) tds (5 + p.names.length + 5 * 0) (enNs p.names) ((p.mts.take 0).map mD)) :: [tk, iS p.size, none, none, none, none] := rfl
      rw [e2, show 5 + p.names.length + 5 * 0 = 3 + 2 + p.names.length by omega]
      rfl
    have hT : (p.mts.take p.mts.length).map mD = p.mts.map mD := by rw [List.take_length]
    let Y : Env := [some (psO (some 0) tds (B + 5 * p.mts.length) N (p.mts.map mD)), tk, iS p.size, none, none, none, none]
    have hWY : W p.mts.length = Y := by
      show [some (psO (some 0) tds (B + 5 * p.mts.length) N ((p.mts.take p.mts.length).map mD)), tk, iS p.size, none, none, none, none] = _
      rw [hT]
    rw [hWY]
    have ne0 := neD_nil (ds := []) (by simp)
    refine sq_nx (ρ1 := Y) (if_f (ρ1 := Y) ?_ rfl) ?_
    · simp only [Y]
      simp [ne0]
    · have fn := ff_names (t := some 0) (tds := tds) (k := B + 5 * p.mts.length) (ns := N) (rest := [tk, iS p.size, none, none, none, none]) (ms := p.mts.map mD)
      have eY : Y = some (psO (some 0) tds (B + 5 * p.mts.length) N (p.mts.map mD)) :: [tk, iS p.size, none, none, none, none] := rfl
      rw [ev_rtn, ev_mkO, ev_consA]
      have v2 : vr 2 Y = some (.int p.size, Y) := rfl
      rw [v2]
      simp only [Option.bind_some, ev_consA, ev_liftA, eY, fn, ev_nilA, Option.map_some, tupD, fm, List.map_cons, List.map_nil]
      have pin' : f_Plan_init [.oo none "Plan" [], .sh (.int p.size), .sh (.tuf N), .sh (.lst (p.mts.map mD))] = _ := pin
      rw [pin']
      rfl
  obtain ⟨ρf, hb⟩ := hb
  have := ev_def (n := 1) (N := 7) (F := b_Parser_parse_plan) (ins := [psO none tds 0 [] []]) rfl (by simp [tagAll]) hb
  refine ⟨outsOf 1 ρf, ?_⟩
  unfold f_Parser_parse_plan
  rw [this]
  simp [plS]
end
end DL

set_option Elab.async false
set_option linter.all false
set_option maxRecDepth 100000
set_option maxHeartbeats 1000000
namespace DL
open PySem L2

/-! ### loading -/
theorem ps_init (tds : List Dat) : f_Parser_init [.oo none "Parser" [], .sh (.lst tds)] = some (.sh .non, [some (psO none tds 0 [] []), none]) := by
  let G1 : List (Str × Sl) := [("tokens", .sh (.lst tds))]
  let G2 : List (Str × Sl) := [("tokens", .sh (.lst tds)), ("at", .sh (.int 0))]
  let G3 : List (Str × Sl) := [("tokens", .sh (.lst tds)), ("at", .sh (.int 0)), ("faults", .ol none [])]
  let G4 : List (Str × Sl) := [("tokens", .sh (.lst tds)), ("at", .sh (.int 0)), ("faults", .ol none []), ("names", .ol none [])]
  have p1 : putS "at" (.sh (.int 0)) G1 = G2 := (put_miss (by decide +kernel)).trans (by rw [put_nil])
  have p2 : putS "faults" (.ol none []) G2 = G3 := (put_miss (by decide +kernel)).trans (by rw [put_miss (by decide +kernel), put_nil])
  have p3 : putS "names" (.ol none []) G3 = G4 := (put_miss (by decide +kernel)).trans (by rw [put_miss (by decide +kernel), put_miss (by decide +kernel), put_nil])
  have p4 : putS "meetings" (.ol none []) G4 = psF tds 0 [] [] := (put_miss (by decide +kernel)).trans (by rw [put_miss (by decide +kernel), put_miss (by decide +kernel), put_miss (by decide +kernel), put_nil]; rfl)
  let R (fs : List (Str × Sl)) : Env := [some (.oo (some 0) "Parser" fs), some (.sh (.lst tds))]
  have hb : b_Parser_init (R []) = some (.nx, R (psF tds 0 [] [])) := by
    refine sq_nx (ρ1 := R G1) (by simp [R, G1, put_nil]) (sq_nx (ρ1 := R G2) ?_ (sq_nx (ρ1 := R G3) ?_ (sq_nx (ρ1 := R G4) ?_ ?_)))
    · simp only [R]; rw [← p1]; simp [G1]
    · simp only [R]; rw [← p2]; simp [G2]
    · simp only [R]; rw [← p3]; simp [G3]
    · simp only [R]; rw [← p4]; simp [G4]
  have := ev_defN (n := 2) (N := 2) (F := b_Parser_init) (ins := [.oo none "Parser" [], .sh (.lst tds)]) rfl (by simp [tagAll, R]) hb
  unfold f_Parser_init
  rw [this]
  have e : R (psF tds 0 [] []) = [some (psO (some 0) tds 0 [] []), some (.sh (.lst tds))] := rfl
  rw [e]
  simp [outsOf, List.range_succ]
theorem load_ok {text : List Nat} {p : Pln} (h : PlOk p) (hl : Lex text (tksP p)) (hn : text.length ≤ 100000) : f_load [.sh (.str (T text))] = some (plS p.ord, [none]) := by
  obtain ⟨tds, ht, e1⟩ := tokenize_ok hl hn
  obtain ⟨o, e2⟩ := plan_parse h ht
  let R : Env := [some (.sh (.str (T text)))]
  have c1 : mkO "Parser" f_Parser_init (consA (frzM (callP f_tokenize (consA (vr 0) nilA))) nilA) R = some (psO none tds 0 [] [], R) := by
    simp [R, e1, ps_init]
  have c2 : methT "Parser" "parse_plan" f_Parser_parse_plan (mkO "Parser" f_Parser_init (consA (frzM (callP f_tokenize (consA (vr 0) nilA))) nilA)) R = some (plS p.ord, R) := by
    unfold methT
    rw [ev_bnd c1]
    show (if ("Parser" : Str) = "Parser" ∧ List.lookup ("parse_plan" : Str) (psF tds 0 [] []) = none then (fun ρ => match f_Parser_parse_plan [untag (psO none tds 0 [] [])] with
      | some (r, _) => some (r, ρ)
      | none => none) else fun _ => none) R = _
    rw [if_pos ⟨rfl, ps_none (by decide +kernel)⟩]
    simp only [untag_ps, e2]
  have hb : b_load R = some (.rt (plS p.ord), R) := by
    unfold b_load
    rw [ev_rtn, c2]
    rfl
  have := ev_def (n := 1) (N := 1) (F := b_load) (ins := [.sh (.str (T text))]) rfl (by simp [tagAll, R]) hb
  unfold f_load
  rw [this]
  simp [outsOf, List.range_succ, plS, R]
end DL

set_option Elab.async false
set_option linter.all false
set_option maxRecDepth 100000
set_option maxHeartbeats 1000000
namespace DL
open PySem L2

/-! ### texts of tokens with gaps -/
abbrev Gt := List Nat × Tk
def rend (xs : List Gt) : List Nat := xs.flatMap fun x => x.1 ++ x.2.2
def GoodTk (x : Tk) : Prop := ∀ l : List Nat, (∀ c, l.head? = some c → c ∉ let_ ∧ c ∉ dig) → TkL x.1 x.2 l
structure GtOk (x : Gt) : Prop where
  gap : ∀ c ∈ x.1, c = 32 ∨ c = 10
  good : GoodTk x.2
  sep : x.1 ≠ [] ∨ x.2.2 = [59]
theorem lex_gap : ∀ {g l : List Nat} {ts : List Tk}, (∀ c ∈ g, c = 32 ∨ c = 10) → Lex l ts → Lex (g ++ l) ts
  | [], _, _, _, h => h
  | c :: g, _, _, hg, h => .sp (hg c (by simp)) (lex_gap (fun x hx => hg x (by simp [hx])) h)
theorem head_rend {xs : List Gt} (h : ∀ x ∈ xs, GtOk x) : ∀ c, (rend xs).head? = some c → c ∉ let_ ∧ c ∉ dig := by
  intro c hc
  cases xs with
  | nil => simp [rend] at hc
  | cons x xs =>
    have hx := h x (by simp)
    obtain ⟨g, k, w⟩ := x
    have hn : ∀ z : Nat, z = 32 ∨ z = 10 ∨ z = 59 → z ∉ let_ ∧ z ∉ dig := fun z hz => by
      rw [mem_let, mem_dig]
      omega
    cases g with
    | nil =>
      rcases hx.sep with h1 | h1
      · exact absurd rfl h1
      · have h1 : w = [59] := h1
        subst h1
        simp [rend] at hc
        exact hn c (by omega)
    | cons z g =>
      have := hx.gap z (by simp)
      simp [rend] at hc
      exact hn c (by omega)
theorem lex_rend : ∀ {xs : List Gt}, (∀ x ∈ xs, GtOk x) → Lex (rend xs) (xs.map (·.2))
  | [], _ => .nil
  | x :: xs, h => by
    have hx := h x (by simp)
    have ht : ∀ y ∈ xs, GtOk y := fun y hy => h y (by simp [hy])
    have e : rend (x :: xs) = x.1 ++ (x.2.2 ++ rend xs) := by simp [rend]
    rw [e]
    exact lex_gap hx.gap (.tk (hx.good _ (head_rend ht)) (lex_rend ht))
theorem lex_rend0 {k : Str} {w : List Nat} {xs : List Gt} (h0 : GoodTk (k, w)) (h : ∀ x ∈ xs, GtOk x) : Lex (w ++ rend xs) ((k, w) :: xs.map (·.2)) :=
  .tk (h0 _ (head_rend h)) (lex_rend h)
/-! the tokens are good -/
theorem good_sign : GoodTk (("sign", [59]) : Tk) := fun _ _ => .sign
theorem good_num {n : Nat} (h : n < 61) : GoodTk (("number", num n) : Tk) := fun l hl => by
  obtain ⟨h1, h2, h3, h4⟩ := num_small n h
  refine .numb h2 h1 h4 (fun c hc => ?_) fun c hc => (hl c hc).2
  have := List.all_eq_true.mp h3 c hc
  simp at this
  exact (mem_dig c).mpr (by omega)
theorem good_kw {w : List Nat} (h0 : w ≠ []) (h : T w ∈ kws) (hw : ∀ c ∈ w, c ∈ let_) : GoodTk (("keyword", w) : Tk) := fun l hl => by
  have := TkL.word (w := w) (l := l) h0 (fun z => absurd h z) hw fun c hc => (hl c hc).1
  rwa [if_pos h] at this
theorem good_name {s : Str} (h : s ∈ eight) : GoodTk (("name", nL s) : Tk) := fun l hl => by
  obtain ⟨h1, h2, h3, h4⟩ := eight_small s h
  have hn : T (nL s) ∉ kws := by rw [T_of]; exact h4
  have := TkL.word (w := nL s) (l := l) h2 (fun _ => h1) (fun c hc => by
    have := List.all_eq_true.mp h3 c hc
    simp at this
    exact (mem_let c).mpr (by omega)) fun c hc => (hl c hc).1
  rwa [if_neg hn] at this
theorem good_round : GoodTk (("keyword", cR) : Tk) := good_kw (by simp) (by decide +kernel) (by decide +kernel)
theorem good_people : GoodTk (("keyword", cP) : Tk) := good_kw (by simp) (by decide +kernel) (by decide +kernel)
theorem good_word (m : Mt) : GoodTk (("keyword", m.wL) : Tk) := by
  unfold Mt.wL
  cases m.tell
  · exact good_kw (by simp) (by decide +kernel) (by decide +kernel)
  · exact good_kw (by simp) (by decide +kernel) (by decide +kernel)
theorem good_nmOf {p : Pln} (h : PlOk p) {i : Nat} (hi : i < p.names.length) : GoodTk (("name", nmOf p.names i) : Tk) := by
  rw [(nmOf_len h hi).1]
  exact good_name (h.ns _ (List.getElem_mem hi))
theorem good_tksM {p : Pln} (h : PlOk p) {m : Mt} (hm : m ∈ p.mts) : ∀ x ∈ tksM p.names m, GoodTk x := by
  obtain ⟨h1, h2, h3, h4⟩ := h.ms m hm
  have hs := h.s2
  intro x hx
  simp only [tksM, List.mem_cons, List.not_mem_nil, or_false] at hx
  rcases hx with rfl | rfl | rfl | rfl | rfl
  · exact good_word m
  · exact good_nmOf h h1
  · exact good_nmOf h h2
  · exact good_num (by omega)
  · exact good_sign
theorem good_tksP {p : Pln} (h : PlOk p) : ∀ x ∈ tksP p, GoodTk x := by
  have hs := h.s2
  intro x hx
  simp only [tksP, List.mem_append, List.mem_cons, List.not_mem_nil, or_false, List.mem_map, List.mem_flatMap] at hx
  rcases hx with (rfl | rfl | rfl | rfl) | ⟨s, hs, rfl⟩ | rfl | ⟨m, hm, hx⟩
  · exact good_round
  · exact good_num (by omega)
  · exact good_sign
  · exact good_people
  · exact good_name (h.ns s hs)
  · exact good_sign
  · exact good_tksM h hm x hx
/-! the text as tokens with gaps -/
def gtsM (names : List Str) (m : Mt) : List Gt := [([10], ("keyword", m.wL)), ([32], ("name", nmOf names m.one)), ([32], ("name", nmOf names m.other)), ([32], ("number", num m.tick)), ([], ("sign", [59]))]
def gtsP (p : Pln) : List Gt := ([([32], ("number", num p.size)), ([], ("sign", [59])), ([10], ("keyword", cP))] : List Gt) ++ (p.names.map (fun s => (([32], ("name", nL s)) : Gt)) ++ (([([], ("sign", [59]))] : List Gt) ++ p.mts.flatMap (gtsM p.names)))
theorem gts_tks (p : Pln) : tksP p = (("keyword", cR) : Tk) :: (gtsP p).map (fun x : Gt => x.2) := by
  unfold tksP gtsP
  simp only [List.map_append, List.map_map, List.map_flatMap, List.map_cons, List.map_nil]
  rfl
theorem rend_names (ns : List Str) : rend (ns.map fun s => (([32], ("name", nL s)) : Gt)) = (ns.map nL).flatMap fun y => [32] ++ y := by
  unfold rend
  rw [List.flatMap_map, List.flatMap_map]
theorem rend_app (a b : List Gt) : rend (a ++ b) = rend a ++ rend b := by simp [rend]
theorem rend_mts (names : List Str) (ms : List Mt) : rend (ms.flatMap (gtsM names)) = (ms.map (lineM names)).flatMap fun y => [10] ++ y := by
  unfold rend
  rw [List.flatMap_assoc, List.flatMap_map]
  congr 1
  funext m
  simp [gtsM, lineM, inter]
theorem text_rend {p : Pln} (h : PlOk p) : textOf p = cR ++ rend (gtsP p) := by
  obtain ⟨n, ns, hn⟩ : ∃ n ns, p.names = n :: ns := by
    have := h.n2
    cases hh : p.names with
    | nil => rw [hh] at this; simp at this
    | cons n ns => exact ⟨n, ns, rfl⟩
  unfold textOf linesOf gtsP
  rw [inter_cons, rend_app, rend_app, rend_app, rend_names, rend_mts, List.flatMap_cons, hn, List.map_cons, inter_cons, List.flatMap_cons]
  simp [rend]
theorem gts_ok {p : Pln} (h : PlOk p) : ∀ x ∈ gtsP p, GtOk x := by
  intro x hx
  have hg : GoodTk x.2 := good_tksP h _ (by rw [gts_tks]; exact List.mem_cons_of_mem _ (List.mem_map_of_mem hx))
  simp only [gtsP, List.mem_append, List.mem_cons, List.not_mem_nil, or_false, List.mem_map, List.mem_flatMap] at hx
  rcases hx with (rfl | rfl | rfl) | ⟨s, hs, rfl⟩ | rfl | ⟨m, hm, hx⟩
  · exact ⟨by simp, hg, .inl (by simp)⟩
  · exact ⟨by simp, hg, .inr rfl⟩
  · exact ⟨by simp, hg, .inl (by simp)⟩
  · exact ⟨by simp, hg, .inl (by simp)⟩
  · exact ⟨by simp, hg, .inr rfl⟩
  · simp only [gtsM, List.mem_cons, List.not_mem_nil, or_false] at hx
    rcases hx with rfl | rfl | rfl | rfl | rfl
    · exact ⟨by simp, hg, .inl (by simp)⟩
    · exact ⟨by simp, hg, .inl (by simp)⟩
    · exact ⟨by simp, hg, .inl (by simp)⟩
    · exact ⟨by simp, hg, .inl (by simp)⟩
    · exact ⟨by simp, hg, .inr rfl⟩
theorem text_lex {p : Pln} (h : PlOk p) : Lex (textOf p) (tksP p) := by
  rw [text_rend h, gts_tks]
  exact lex_rend0 good_round (gts_ok h)
theorem tksP_len {p : Pln} (h : PlOk p) : (tksP p).length ≤ 200 := by
  have := h.ml
  have := h.n8
  have h5 := tksM_len p.names p.mts
  unfold tksP
  rw [List.length_append, List.length_append, List.length_append, h5]
  simp
  omega
theorem good_len {x : Tk} (h : GoodTk x) : x.2.length ≤ 8 ∨ T x.2 ∈ kws := by
  obtain ⟨k, w⟩ := x
  have hh : TkL k w [] := h [] (by simp)
  show w.length ≤ 8 ∨ T w ∈ kws
  clear h
  cases hh with
  | sign => exact .inl (by simp)
  | numb _ h1 _ _ _ => exact .inl (by omega)
  | word _ h1 _ _ =>
    by_cases hk : T w ∈ kws
    · exact .inr hk
    · exact .inl (h1 hk)
theorem kws_len : ∀ s ∈ kws, (nL s).length ≤ 8 := by decide +kernel
theorem good_len8 {x : Tk} (h : GoodTk x) : x.2.length ≤ 8 := by
  rcases good_len h with h | h
  · exact h
  · have := kws_len _ h
    simpa using this
theorem rend_len : ∀ {xs : List Gt} (k : Nat), (∀ x ∈ xs, x.1.length + x.2.2.length ≤ k) → (rend xs).length ≤ xs.length * k
  | [], _, _ => by simp [rend]
  | x :: xs, k, h => by
    have h1 := h x (by simp)
    have h2 := rend_len (xs := xs) k fun y hy => h y (by simp [hy])
    have e : rend (x :: xs) = x.1 ++ (x.2.2 ++ rend xs) := by simp [rend]
    rw [e]
    simp only [List.length_append, List.length_cons]
    rw [Nat.add_mul]
    omega
theorem text_len {p : Pln} (h : PlOk p) : (textOf p).length ≤ 100000 := by
  have h1 := tksP_len h
  have h2 := lines_len h
  unfold textOf
  have := inter_len [10] 100 (linesOf p) h2.1
  simp at this
  have := h2.2
  omega
end DL

set_option Elab.async false
set_option linter.all false
set_option maxRecDepth 100000
set_option maxHeartbeats 1000000
namespace DL
open PySem L2

/-! ### the law's own equality -/
inductive EqOk : Nat → Dat → Prop
  | non {n : Nat} : EqOk (n + 1) .non
  | bl {n : Nat} {b : Bool} : EqOk (n + 1) (.bl b)
  | int {n : Nat} {i : Int} : EqOk (n + 1) (.int i)
  | str {n : Nat} {s : Str} : PyData.strOk s = true → EqOk (n + 1) (.str s)
  | lst {n : Nat} {ds : List Dat} : (∀ d ∈ ds, EqOk n d) → ds.length ≤ 16777216 → EqOk (n + 1) (.lst ds)
  | tup {n : Nat} {ds : List Dat} : (∀ d ∈ ds, EqOk n d) → ds.length ≤ 16777216 → EqOk (n + 1) (.tup ds)
@[simp] theorem ev_isiM (n : String) (f : M Dat) (ρ : Env) : isiM n f ρ = (f ρ).bind fun p => (isiD n p.1).map fun z => (z, p.2) := ev_un _ _
@[simp] theorem isD_non (d : Dat) : isD d .non = some (.bl (isNon d)) := by cases d <;> rfl
@[simp] theorem isN_non : isNon .non = true := rfl
@[simp] theorem isN_bl (b : Bool) : isNon (.bl b) = false := rfl
@[simp] theorem isN_int (b : Int) : isNon (.int b) = false := rfl
@[simp] theorem isN_str (b : Str) : isNon (.str b) = false := rfl
@[simp] theorem isN_lst (b : List Dat) : isNon (.lst b) = false := rfl
@[simp] theorem isN_tup (b : List Dat) : isNon (.tup b) = false := rfl
@[simp] theorem isi_bb (b : Bool) : isiD "bool" (.bl b) = some (.bl true) := rfl
@[simp] theorem isi_bi (i : Int) : isiD "bool" (.int i) = some (.bl false) := rfl
@[simp] theorem isi_ii (i : Int) : isiD "int" (.int i) = some (.bl true) := rfl
@[simp] theorem isi_bs (i : Str) : isiD "bool" (.str i) = some (.bl false) := rfl
@[simp] theorem isi_is (i : Str) : isiD "int" (.str i) = some (.bl false) := rfl
@[simp] theorem isi_ss (i : Str) : isiD "str" (.str i) = some (.bl true) := rfl
@[simp] theorem isi_bL (i : List Dat) : isiD "bool" (.lst i) = some (.bl false) := rfl
@[simp] theorem isi_iL (i : List Dat) : isiD "int" (.lst i) = some (.bl false) := rfl
@[simp] theorem isi_sL (i : List Dat) : isiD "str" (.lst i) = some (.bl false) := rfl
@[simp] theorem isi_tL (i : List Dat) : isiD "tuple" (.lst i) = some (.bl false) := rfl
@[simp] theorem isi_lL (i : List Dat) : isiD "list" (.lst i) = some (.bl true) := rfl
@[simp] theorem isi_bT (i : List Dat) : isiD "bool" (.tup i) = some (.bl false) := rfl
@[simp] theorem isi_iT (i : List Dat) : isiD "int" (.tup i) = some (.bl false) := rfl
@[simp] theorem isi_sT (i : List Dat) : isiD "str" (.tup i) = some (.bl false) := rfl
@[simp] theorem isi_tT (i : List Dat) : isiD "tuple" (.tup i) = some (.bl true) := rfl
@[simp] theorem isi_lT (i : List Dat) : isiD "list" (.tup i) = some (.bl false) := rfl
theorem bols_true : ∀ n : Nat, bolsOf ((List.range n).map fun _ => Dat.bl true) = some ((List.range n).map fun _ => true) := by
  intro n
  have key : ∀ l : List Nat, bolsOf (l.map fun _ => Dat.bl true) = some (l.map fun _ => true) := by
    intro l
    induction l with
    | nil => rfl
    | cons x l ih =>
      show (bolsOf (l.map fun _ => Dat.bl true)).map _ = _
      rw [ih]
      rfl
  exact key _
theorem all_true (n : Nat) : allD [.lst ((List.range n).map fun _ => Dat.bl true)] = some (.bl true) := by
  show (bolsOf ((List.range n).map fun _ => Dat.bl true)).map (fun bs => Dat.bl (bs.all id)) = _
  rw [bols_true]
  simp
theorem eq_refl_ok : ∀ {n : Nat} {d : Dat}, EqOk n d → f_law_equal n [.sh d, .sh d] = some (.sh (.bl true), [none, none]) := by
  intro n
  induction n with
  | zero => intro d h; nomatch h
  | succ n ih =>
    intro d h
    have fin : ∀ {x : Dat} {ρ' : Env}, b_law_equal (f_law_equal n) [some (.sh x), some (.sh x), none] = some (.rt (.sh (.bl true)), ρ') → ρ' = [some (.sh x), some (.sh x), none] → f_law_equal (n + 1) [.sh x, .sh x] = some (.sh (.bl true), [none, none]) := fun {x ρ'} hb hρ => by
      subst hρ
      have := ev_def (n := 2) (N := 3) (F := b_law_equal (f_law_equal n)) (ins := [.sh x, .sh x]) rfl (by simp [tagAll]) hb
      show fnD 2 3 (b_law_equal (f_law_equal n)) [.sh x, .sh x] = _
      rw [this]
      simp [outsOf, List.range_succ]
    have seq : ∀ ds : List Dat, (∀ d ∈ ds, EqOk n d) → ds.length ≤ 16777216 → ∀ x : Dat, (∀ i : Int, ixD x (.int i) = atI ds i) → lenD [x] = some (.int ds.length) →
        lcD [2] (liftA itR1 (consA (liftA lenD (consA (vr 1) nilA)) nilA)) (gnm 2) yesM (frzM (callP (f_law_equal n) (consA (bin ixD (vr 0) (vr 2)) (consA (bin ixD (vr 1) (vr 2)) nilA)))) [some (.sh x), some (.sh x), none] =
          some (.ol none ((List.range ds.length).map fun _ => Dat.bl true), [some (.sh x), some (.sh x), none]) := fun ds hd hl x hx hlen => by
      have hr := itR1_nat hl
      have hc := lc1y (ρ := [some (.sh x), some (.sh x), none]) (ρ1 := [some (.sh x), some (.sh x), none]) (g := liftA itR1 (consA (liftA lenD (consA (vr 1) nilA)) nilA)) (te := frzM (callP (f_law_equal n) (consA (bin ixD (vr 0) (vr 2)) (consA (bin ixD (vr 1) (vr 2)) nilA)))) (enc := fun i : Nat => Dat.int (i : Int)) (i := 2) (xs := List.range ds.length) (f := fun _ => Dat.bl true)
        (by simp [hlen, hr]) (by simp [noOwn]) (fun i hi => by
          have hi := List.mem_range.mp hi
          have he := ih (hd ds[i] (List.getElem_mem hi))
          have ha := atI_nat (List.getElem?_eq_getElem hi)
          simp [hx, ha, he])
      exact hc
    cases h with
    | non => exact fin (by unfold b_law_equal; simp) rfl
    | @bl _ b => exact fin (by unfold b_law_equal; simp) rfl
    | @int _ i => exact fin (by unfold b_law_equal; simp) rfl
    | @str _ s hs =>
      have e := eqD_str hs hs
      exact fin (by unfold b_law_equal; simp [e]) rfl
    | @lst _ ds hd hl =>
      have e := seq ds hd hl (.lst ds) (fun i => rfl) rfl
      refine fin (ρ' := [some (.sh (.lst ds)), some (.sh (.lst ds)), none]) ?_ rfl
      have a := all_true ds.length
      generalize hL : (List.range ds.length).map (fun _ => Dat.bl true) = L at e a
      unfold b_law_equal
      simp [e, a]
    | @tup _ ds hd hl =>
      have e := seq ds hd hl (.tup ds) (fun i => rfl) rfl
      refine fin (ρ' := [some (.sh (.tup ds)), some (.sh (.tup ds)), none]) ?_ rfl
      have a := all_true ds.length
      generalize hL : (List.range ds.length).map (fun _ => Dat.bl true) = L at e a
      unfold b_law_equal
      simp [e, a]
end DL

set_option Elab.async false
set_option linter.all false
set_option maxRecDepth 100000
set_option maxHeartbeats 1000000
namespace DL
open PySem L2

/-! ### meetings by ticks -/
def Srt (l : List Mt) : Prop := l.Pairwise fun a b => a.tick ≤ b.tick
theorem ordM_srt : ∀ (n : Nat) (ms : List Mt), Srt (ordM n ms) ∧ ∀ m ∈ ordM n ms, m.tick < n
  | 0, ms => ⟨by simp [ordM, Srt], by simp [ordM]⟩
  | n + 1, ms => by
    obtain ⟨h1, h2⟩ := ordM_srt n ms
    rw [ordM_succ]
    have hf : ∀ m ∈ ms.filter (fun m => decide (m.tick = n)), m.tick = n := fun m hm => by simpa using (List.mem_filter.mp hm).2
    refine ⟨List.pairwise_append.mpr ⟨h1, ?_, fun a ha b hb => ?_⟩, fun m hm => ?_⟩
    · exact List.pairwise_of_forall_mem_list fun a ha b hb => by rw [hf a ha, hf b hb]; exact Nat.le_refl _
    · have := h2 a ha
      rw [hf b hb]
      omega
    · rcases List.mem_append.mp hm with h | h
      · have := h2 m h; omega
      · rw [hf m h]; omega
theorem srt_split {n : Nat} : ∀ {l : List Mt}, Srt l → (∀ m ∈ l, m.tick < n + 1) → l = l.filter (fun m => decide (m.tick < n)) ++ l.filter fun m => decide (m.tick = n)
  | [], _, _ => rfl
  | m :: l, hs, hl => by
    have hs := List.pairwise_cons.mp hs
    have ih := srt_split hs.2 fun x hx => hl x (List.mem_cons_of_mem _ hx)
    have hm := hl m (by simp)
    by_cases h : m.tick < n
    · have h2 : ¬ m.tick = n := by omega
      simp only [List.filter_cons, h, h2, decide_true, decide_false, if_true, List.cons_append, Bool.false_eq_true, if_false]
      rw [← ih]
    · have h2 : m.tick = n := by omega
      have e1 : l.filter (fun m => decide (m.tick < n)) = [] := List.filter_eq_nil_iff.mpr fun x hx => by
        have := hs.1 x hx
        simp
        omega
      rw [e1, List.nil_append] at ih
      have h3 : ¬ m.tick < n := h
      simp only [List.filter_cons, h3, h2, decide_true, decide_false, if_true, Bool.false_eq_true, if_false, e1, List.nil_append, Nat.lt_irrefl]
      rw [← ih]
theorem ordM_flt {n : Nat} (ms : List Mt) : ∀ k, k ≤ n → ordM k (ms.filter fun m => decide (m.tick < n)) = ordM k ms
  | 0, _ => by simp [ordM]
  | k + 1, h => by
    rw [ordM_succ, ordM_succ, ordM_flt ms k (by omega), List.filter_filter]
    congr 1
    refine List.filter_congr fun m _ => ?_
    by_cases e : m.tick = k
    · have : m.tick < n := by omega
      simp [e]
      omega
    · simp [e]
theorem ordM_of_srt : ∀ {n : Nat} {l : List Mt}, Srt l → (∀ m ∈ l, m.tick < n) → ordM n l = l
  | 0, l, _, h => by
    cases l with
    | nil => simp [ordM]
    | cons m l => exact absurd (h m (by simp)) (Nat.not_lt_zero _)
  | n + 1, l, hs, h => by
    have sp := srt_split hs h
    rw [ordM_succ]
    conv => rhs; rw [sp]
    congr 1
    rw [← ordM_flt l n (Nat.le_refl _)]
    exact ordM_of_srt (List.Pairwise.filter _ hs) fun m hm => by simpa using (List.mem_filter.mp hm).2
theorem srt_of_ord {p : Pln} (h : p.ord = p) : Srt p.mts := by
  have := (ordM_srt p.size p.mts).1
  have e : ordM p.size p.mts = p.mts := congrArg Pln.mts h
  rwa [e] at this
/-- fewer meetings -/
theorem PlOk.sub {p : Pln} (h : PlOk p) (ho : p.ord = p) {ms : List Mt} (hs : ms.Sublist p.mts) : PlOk ⟨p.size, p.names, ms⟩ ∧ Pln.ord ⟨p.size, p.names, ms⟩ = ⟨p.size, p.names, ms⟩ := by
  refine ⟨⟨h.s1, h.s2, h.nn, h.ns, h.n2, h.n8, fun m hm => h.ms m (hs.subset hm), hs.nodup h.mn, Nat.le_trans hs.length_le h.ml⟩, ?_⟩
  have e : ordM p.size ms = ms := ordM_of_srt (List.Pairwise.sublist hs (srt_of_ord ho)) fun m hm => (h.ms m (hs.subset hm)).2.2.2
  show (⟨p.size, p.names, ordM p.size ms⟩ : Pln) = _
  rw [e]
end DL

set_option Elab.async false
set_option linter.all false
set_option maxRecDepth 100000
set_option maxHeartbeats 1000000
namespace DL

/-! ### who knows what: the ticks of all news -/
abbrev Know := Nat → Nat → Option Nat
def nwT : Option Nat → Option Nat → Option Nat
  | none, b => b
  | some x, none => some x
  | some x, some y => if x < y then some y else some x
def hear (K : Know) (t h : Nat) : Know := fun i j => if i = h then nwT (K h j) (K t j) else K i j
def meetK (K : Know) (m : Mt) : Know := if m.tell then hear K m.one m.other else hear (hear K m.one m.other) m.other m.one
def knowAt (K : Know) (t : Nat) : Know := fun i j => if j = i then some t else K i j
def dayM (p : Pln) (t : Nat) : List Mt := p.mts.filter fun m => decide (m.tick = t % p.size)
def dayK (p : Pln) (t : Nat) (K : Know) : Know := (dayM p t).foldl meetK (knowAt K t)
def KN (p : Pln) : Nat → Know
  | 0 => fun _ _ => none
  | t + 1 => dayK p t (KN p t)
/-- the age of j's news at i after tick t -/
def AG (p : Pln) (t : Nat) : Know := fun i j => (KN p (t + 1) i j).map fun k => t - k

/-! ### whom a word reaches -/
abbrev Grp := Nat → Prop
def hearS (S : Grp) (t h : Nat) : Grp := fun i => S i ∨ (i = h ∧ S t)
def meetS (S : Grp) (m : Mt) : Grp := if m.tell then hearS S m.one m.other else hearS (hearS S m.one m.other) m.other m.one
def dayS (p : Pln) (t : Nat) (S : Grp) : Grp := (dayM p t).foldl meetS S
def reach (p : Pln) (s : Nat) : Nat → Grp → Grp
  | 0, S => S
  | n + 1, S => dayS p (s + n) (reach p s n S)
def SubS (S T : Grp) : Prop := ∀ i, S i → T i
theorem hearS_mono {S T : Grp} (h : SubS S T) (a b : Nat) : SubS (hearS S a b) (hearS T a b) := fun i z => z.imp (h i) fun q => ⟨q.1, h a q.2⟩
theorem meetS_mono {S T : Grp} (h : SubS S T) (m : Mt) : SubS (meetS S m) (meetS T m) := by
  unfold meetS
  split
  · exact hearS_mono h _ _
  · exact hearS_mono (hearS_mono h _ _) _ _
theorem foldS_mono {ms : List Mt} : ∀ {S T : Grp}, SubS S T → SubS (ms.foldl meetS S) (ms.foldl meetS T) := by
  induction ms with
  | nil => exact fun h => h
  | cons m ms ih => exact fun h => ih (meetS_mono h m)
theorem dayS_mono {p : Pln} {t : Nat} {S T : Grp} (h : SubS S T) : SubS (dayS p t S) (dayS p t T) := foldS_mono h
theorem reach_mono {p : Pln} {s : Nat} {S T : Grp} (h : SubS S T) : ∀ n, SubS (reach p s n S) (reach p s n T)
  | 0 => h
  | n + 1 => dayS_mono (reach_mono h n)
theorem meetS_le (S : Grp) (m : Mt) : SubS S (meetS S m) := by
  unfold meetS
  split
  · exact fun i h => .inl h
  · exact fun i h => .inl (.inl h)
theorem foldS_le {ms : List Mt} : ∀ {S : Grp}, SubS S (ms.foldl meetS S) := by
  induction ms with
  | nil => exact fun i h => h
  | cons m ms ih => exact fun i h => ih i (meetS_le _ m i h)
theorem dayS_le {p : Pln} {t : Nat} {S : Grp} : SubS S (dayS p t S) := foldS_le
theorem reach_le {p : Pln} {s : Nat} {S : Grp} : ∀ n, SubS S (reach p s n S)
  | 0 => fun _ h => h
  | n + 1 => fun i h => dayS_le i (reach_le n i h)
theorem reach_add {p : Pln} {s : Nat} {S : Grp} (n : Nat) : ∀ m, reach p s (n + m) S = reach p (s + n) m (reach p s n S)
  | 0 => rfl
  | m + 1 => by
    show dayS p (s + (n + m)) (reach p s (n + m) S) = dayS p (s + n + m) (reach p (s + n) m (reach p s n S))
    rw [reach_add n m, Nat.add_assoc]
theorem reach_step {p : Pln} {s n m : Nat} {S : Grp} (h : n ≤ m) : SubS (reach p s n S) (reach p s m S) := by
  obtain ⟨k, rfl⟩ := Nat.exists_eq_add_of_le h
  rw [reach_add]
  exact reach_le k
/-- who starts earlier gets as far -/
theorem reach_early {p : Pln} {s n k : Nat} {S : Grp} : SubS (reach p (s + k) n S) (reach p s (k + n) S) := by
  rw [reach_add]
  exact reach_mono (reach_le k) n
theorem dayM_mod {p : Pln} {t u : Nat} (h : t % p.size = u % p.size) : dayM p t = dayM p u := by unfold dayM; rw [h]
theorem reach_mod {p : Pln} {s u : Nat} {S : Grp} (h : s % p.size = u % p.size) : ∀ n, reach p s n S = reach p u n S
  | 0 => rfl
  | n + 1 => by
    show dayS p (s + n) (reach p s n S) = dayS p (u + n) (reach p u n S)
    rw [reach_mod h n]
    unfold dayS
    rw [dayM_mod (t := s + n) (u := u + n) (by rw [Nat.add_mod, h, ← Nat.add_mod])]

/-! ### ages by reach -/
def GeK (K : Know) (s j : Nat) : Grp := fun i => ∃ k, K i j = some k ∧ s ≤ k
theorem ge_nw {a b : Option Nat} {s : Nat} : (∃ k, nwT a b = some k ∧ s ≤ k) ↔ (∃ k, a = some k ∧ s ≤ k) ∨ ∃ k, b = some k ∧ s ≤ k := by
  cases a with
  | none => simp [nwT]
  | some x =>
    cases b with
    | none => simp [nwT]
    | some y =>
      by_cases h : x < y
      · simp [nwT, h]; omega
      · simp [nwT, h]; omega
theorem ge_hear {K : Know} {s j t h : Nat} : GeK (hear K t h) s j = hearS (GeK K s j) t h := by
  funext i
  refine propext ?_
  unfold GeK hear hearS
  by_cases e : i = h
  · subst e
    simp only [if_true, true_and]
    exact ge_nw
  · simp [e]
theorem ge_meet {K : Know} {s j : Nat} {m : Mt} : GeK (meetK K m) s j = meetS (GeK K s j) m := by
  unfold meetK meetS
  split
  · exact ge_hear
  · rw [ge_hear, ge_hear]
theorem ge_fold {ms : List Mt} {s j : Nat} : ∀ {K : Know}, GeK (ms.foldl meetK K) s j = ms.foldl meetS (GeK K s j) := by
  induction ms with
  | nil => exact rfl
  | cons m ms ih =>
    intro K
    show GeK (ms.foldl meetK (meetK K m)) s j = ms.foldl meetS (meetS (GeK K s j) m)
    rw [ih, ge_meet]
theorem nw_lt {a b : Option Nat} {t : Nat} (ha : ∀ k, a = some k → k < t) (hb : ∀ k, b = some k → k < t) : ∀ k, nwT a b = some k → k < t := by
  intro k h
  cases a with
  | none => exact hb k h
  | some x =>
    cases b with
    | none => exact ha k h
    | some y =>
      unfold nwT at h
      simp only at h
      split at h
      · exact hb k h
      · exact ha k h
theorem hear_lt {K : Know} {t a b : Nat} (h : ∀ i j k, K i j = some k → k < t) : ∀ i j k, hear K a b i j = some k → k < t := by
  intro i j k e
  unfold hear at e
  split at e
  · exact nw_lt (h _ _) (h _ _) k e
  · exact h _ _ _ e
theorem meet_lt {K : Know} {t : Nat} {m : Mt} (h : ∀ i j k, K i j = some k → k < t) : ∀ i j k, meetK K m i j = some k → k < t := by
  unfold meetK
  split
  · exact hear_lt h
  · exact hear_lt (hear_lt h)
theorem fold_lt {ms : List Mt} {t : Nat} : ∀ {K : Know}, (∀ i j k, K i j = some k → k < t) → ∀ i j k, ms.foldl meetK K i j = some k → k < t := by
  induction ms with
  | nil => exact fun h => h
  | cons m ms ih => exact fun h => ih (meet_lt h)
theorem KN_lt {p : Pln} : ∀ (t : Nat) (i j k : Nat), KN p t i j = some k → k < t
  | 0, _, _, _, h => nomatch h
  | t + 1, i, j, k, h => by
    refine fold_lt (K := knowAt (KN p t) t) ?_ i j k h
    intro i j k e
    unfold knowAt at e
    split at e
    · cases e; omega
    · have := KN_lt t i j k e; omega
abbrev OneS (j : Nat) : Grp := fun i => i = j
theorem ge_KN {p : Pln} {s j : Nat} : ∀ n, GeK (KN p (s + n)) s j = if n = 0 then (fun _ => False) else reach p s n (OneS j)
  | 0 => by
    rw [if_pos rfl]
    funext i
    refine propext ⟨fun ⟨k, h1, h2⟩ => ?_, fun h => h.elim⟩
    have := KN_lt _ _ _ _ h1
    omega
  | n + 1 => by
    rw [if_neg (by omega)]
    show GeK ((dayM p (s + n)).foldl meetK (knowAt (KN p (s + n)) (s + n))) s j = dayS p (s + n) (reach p s n (OneS j))
    rw [ge_fold]
    unfold dayS
    have e : GeK (knowAt (KN p (s + n)) (s + n)) s j = reach p s n (OneS j) := by
      have ih := ge_KN (p := p) (s := s) (j := j) n
      funext i
      have ihi := congrFun ih i
      refine propext ?_
      by_cases hij : j = i
      · have h1 : reach p s n (OneS j) i := reach_le n i hij.symm
        refine ⟨fun _ => h1, fun _ => ⟨s + n, ?_, by omega⟩⟩
        unfold knowAt
        rw [if_pos hij]
      · have h1 : GeK (knowAt (KN p (s + n)) (s + n)) s j i ↔ GeK (KN p (s + n)) s j i := by
          unfold GeK knowAt
          rw [if_neg hij]
        rw [h1, ihi]
        by_cases hn : n = 0
        · subst hn
          rw [if_pos rfl]
          exact ⟨fun h => h.elim, fun h => hij h.symm⟩
        · rw [if_neg hn]
    rw [e]
/-- an age at most a -/
theorem AG_le {p : Pln} {t a i j : Nat} (h : a ≤ t) : (∃ b, AG p t i j = some b ∧ b ≤ a) ↔ reach p (t - a) (a + 1) (OneS j) i := by
  have e := congrFun (ge_KN (p := p) (s := t - a) (j := j) (a + 1)) i
  rw [if_neg (by omega)] at e
  have e2 : t - a + (a + 1) = t + 1 := by omega
  rw [e2] at e
  rw [← e]
  unfold AG GeK
  constructor
  · rintro ⟨b, h1, h2⟩
    obtain ⟨k, h3, rfl⟩ := Option.map_eq_some_iff.mp h1
    have := KN_lt _ _ _ _ h3
    exact ⟨k, h3, by omega⟩
  · rintro ⟨k, h1, h2⟩
    exact ⟨t - k, by rw [h1]; rfl, by omega⟩
theorem AG_bd {p : Pln} {t a i j : Nat} (h : AG p t i j = some a) : a ≤ t := by
  unfold AG at h
  obtain ⟨k, h3, rfl⟩ := Option.map_eq_some_iff.mp h
  omega
theorem AG_reach {p : Pln} {t a i j : Nat} (h : AG p t i j = some a) : reach p (t - a) (a + 1) (OneS j) i := (AG_le (AG_bd h)).mp ⟨a, h, Nat.le_refl _⟩
theorem reach_AG {p : Pln} {s n i j : Nat} (h : reach p s (n + 1) (OneS j) i) : ∃ a, AG p (s + n) i j = some a ∧ a ≤ n :=
  (AG_le (p := p) (t := s + n) (a := n) (by omega)).mpr (by rw [show s + n - n = s by omega]; exact h)
/-- two ages are alike where the same reach is -/
theorem AG_ext {p q : Pln} {t u i j i' j' : Nat} (h1 : ∀ a, a ≤ t → reach p (t - a) (a + 1) (OneS j) i → ∃ b, b ≤ a ∧ b ≤ u ∧ reach q (u - b) (b + 1) (OneS j') i') (h2 : ∀ a, a ≤ u → reach q (u - a) (a + 1) (OneS j') i' → ∃ b, b ≤ a ∧ b ≤ t ∧ reach p (t - b) (b + 1) (OneS j) i) : AG p t i j = AG q u i' j' := by
  cases e : AG p t i j with
  | none =>
    cases e' : AG q u i' j' with
    | none => rfl
    | some b =>
      obtain ⟨c, _, c2, c3⟩ := h2 b (AG_bd e') (AG_reach e')
      obtain ⟨d, h, _⟩ := (AG_le c2).mpr c3
      rw [e] at h; cases h
  | some a =>
    obtain ⟨c, c1, c2, c3⟩ := h1 a (AG_bd e) (AG_reach e)
    obtain ⟨d, d1, d2⟩ := (AG_le c2).mpr c3
    rw [d1]
    obtain ⟨c', c1', c2', c3'⟩ := h2 d (AG_bd d1) (AG_reach d1)
    obtain ⟨d', d1', d2'⟩ := (AG_le c2').mpr c3'
    rw [e] at d1'
    cases d1'
    congr 1
    omega
end DL

set_option Elab.async false
set_option linter.all false
set_option maxRecDepth 100000
set_option maxHeartbeats 1000000
namespace DL

/-! ### all repeats -/
def MtsIn (p : Pln) (n : Nat) : Prop := ∀ m ∈ p.mts, m.one < n ∧ m.other < n
theorem hearS_in {S : Grp} {t h n : Nat} (hh : h < n) (hS : ∀ i, S i → i < n) : ∀ i, hearS S t h i → i < n := fun i q => q.elim (hS i) fun z => z.1 ▸ hh
theorem meetS_in {S : Grp} {m : Mt} {n : Nat} (h1 : m.one < n) (h2 : m.other < n) (hS : ∀ i, S i → i < n) : ∀ i, meetS S m i → i < n := by
  unfold meetS
  split
  · exact hearS_in h2 hS
  · exact hearS_in h1 (hearS_in h2 hS)
theorem foldS_in {ms : List Mt} {n : Nat} : ∀ {S : Grp}, (∀ m ∈ ms, m.one < n ∧ m.other < n) → (∀ i, S i → i < n) → ∀ i, ms.foldl meetS S i → i < n := by
  induction ms with
  | nil => exact fun _ h => h
  | cons m ms ih => exact fun hm h => ih (fun x hx => hm x (List.mem_cons_of_mem _ hx)) (meetS_in (hm m (by simp)).1 (hm m (by simp)).2 h)
theorem reach_in {p : Pln} {s n : Nat} {S : Grp} (hp : MtsIn p n) (hS : ∀ i, S i → i < n) : ∀ k i, reach p s k S i → i < n
  | 0 => hS
  | k + 1 => foldS_in (fun m hm => hp m (List.mem_filter.mp hm).1) (reach_in hp hS k)
open Classical in
noncomputable def cntS (n : Nat) (S : Grp) : Nat := ((List.range n).filter fun i => decide (S i)).length
theorem filter_le_len {α : Type} {f g : α → Bool} : ∀ {l : List α}, (∀ x ∈ l, f x = true → g x = true) → (l.filter f).length ≤ (l.filter g).length
  | [], _ => Nat.le_refl _
  | x :: l, h => by
    have ih := filter_le_len (f := f) (g := g) (l := l) fun y hy => h y (List.mem_cons_of_mem _ hy)
    have hx := h x (by simp)
    cases hf : f x <;> cases hg : g x <;> simp [hf, hg] at hx ⊢ <;> omega
theorem filter_lt_len {α : Type} {f g : α → Bool} {y : α} : ∀ {l : List α}, (∀ x ∈ l, f x = true → g x = true) → y ∈ l → f y = false → g y = true → (l.filter f).length < (l.filter g).length
  | [], _, h, _, _ => by simp at h
  | x :: l, h, hy, h1, h2 => by
    have ih := filter_le_len (f := f) (g := g) (l := l) fun y hy => h y (List.mem_cons_of_mem _ hy)
    rcases List.mem_cons.mp hy with rfl | hy
    · simp [h1, h2]; omega
    · have ih2 := filter_lt_len (f := f) (g := g) (l := l) (fun y hy => h y (List.mem_cons_of_mem _ hy)) hy h1 h2
      have hx := h x (by simp)
      cases hf : f x <;> cases hg : g x <;> simp [hf, hg] at hx ⊢ <;> omega
theorem cnt_le (n : Nat) (S : Grp) : cntS n S ≤ n := by
  unfold cntS
  have := List.length_filter_le (p := fun i => @decide (S i) (Classical.propDecidable _)) (l := List.range n)
  simpa using this
theorem cnt_lt {n : Nat} {S T : Grp} (h : SubS S T) {i : Nat} (hi : i < n) (h1 : ¬ S i) (h2 : T i) : cntS n S < cntS n T := by
  unfold cntS
  refine filter_lt_len (y := i) (fun x _ hx => ?_) (List.mem_range.mpr hi) ?_ ?_
  · simp only [decide_eq_true_eq] at hx ⊢
    exact h x hx
  · simp [h1]
  · simp [h2]
theorem cnt_pos {n : Nat} {S : Grp} {i : Nat} (hi : i < n) (h : S i) : 1 ≤ cntS n S := by
  have := cnt_lt (n := n) (S := fun _ => False) (T := S) (fun _ h => h.elim) hi (fun h => h) h
  omega
/-- the rounds from 0 on -/
theorem round_fix {p : Pln} {n j : Nat} (hp : MtsIn p n) (hj : j < n) : ∀ k, (∀ m, k ≤ m → SubS (reach p 0 (m * p.size) (OneS j)) (reach p 0 (k * p.size) (OneS j))) ∨ k + 1 ≤ cntS n (reach p 0 (k * p.size) (OneS j))
  | 0 => by
    refine .inr (cnt_pos hj ?_)
    rw [Nat.zero_mul]
    exact rfl
  | k + 1 => by
    have up : ∀ m, reach p 0 ((m + 1) * p.size) (OneS j) = reach p 0 p.size (reach p 0 (m * p.size) (OneS j)) := fun m => by
      rw [Nat.succ_mul, reach_add, reach_mod (s := 0 + m * p.size) (u := 0) (by simp)]
    rcases round_fix hp hj k with h | h
    · refine .inl fun m hm => fun i hi => ?_
      exact reach_step (Nat.mul_le_mul_right _ (Nat.le_succ k)) i (h m (by omega) i hi)
    · by_cases q : SubS (reach p 0 ((k + 1) * p.size) (OneS j)) (reach p 0 (k * p.size) (OneS j))
      · refine .inl ?_
        have all : ∀ d, SubS (reach p 0 ((k + d) * p.size) (OneS j)) (reach p 0 (k * p.size) (OneS j)) := by
          intro d
          induction d with
          | zero => exact fun i h => h
          | succ d ih =>
            intro i hi
            rw [show k + (d + 1) = (k + d) + 1 by omega, up] at hi
            have := reach_mono (p := p) (s := 0) ih p.size i hi
            rw [← up] at this
            exact q i this
        intro m hm i hi
        obtain ⟨d, rfl⟩ := Nat.exists_eq_add_of_le hm
        rw [show k + 1 + d = k + (d + 1) by omega] at hi
        exact reach_step (Nat.mul_le_mul_right _ (Nat.le_succ k)) i (all (d + 1) i hi)
      · refine .inr ?_
        obtain ⟨i, hi⟩ := Classical.not_forall.mp q
        obtain ⟨h1, h2⟩ := Classical.not_imp.mp hi
        have hin : i < n := reach_in (S := OneS j) hp (fun i hi => hi ▸ hj) _ i h1
        have := cnt_lt (n := n) (S := reach p 0 (k * p.size) (OneS j)) (T := reach p 0 ((k + 1) * p.size) (OneS j)) (reach_step (Nat.mul_le_mul_right _ (Nat.le_succ k))) hin h2 h1
        omega
theorem reach_sat {p : Pln} {n j : Nat} (hp : MtsIn p n) (hj : j < n) (hs : 1 ≤ p.size) {m : Nat} : SubS (reach p 0 m (OneS j)) (reach p 0 (n * p.size) (OneS j)) := by
  rcases round_fix hp hj n with h | h
  · intro i hi
    by_cases hm : n ≤ m
    · exact h m hm i (reach_step (by have := Nat.mul_le_mul_left m hs; omega) i hi)
    · exact reach_step (by have := Nat.mul_le_mul_left n hs; omega) i hi
  · have := cnt_le n (reach p 0 (n * p.size) (OneS j))
    omega
theorem AG_round {p : Pln} {n i j t : Nat} (hp : MtsIn p n) (hj : j < n) (hs : 1 ≤ p.size) (ht : n * p.size ≤ t + 1) : AG p (t + p.size) i j = AG p t i j := by
  refine AG_ext (fun a ha hr => ?_) (fun a ha hr => ⟨a, Nat.le_refl _, by omega, ?_⟩)
  · by_cases h : a ≤ t
    · refine ⟨a, Nat.le_refl _, h, ?_⟩
      rw [reach_mod (s := t + p.size - a) (u := t - a) (by rw [show t + p.size - a = t - a + p.size by omega]; simp)] at hr
      exact hr
    · refine ⟨t, by omega, Nat.le_refl _, ?_⟩
      rw [Nat.sub_self]
      have h1 : reach p 0 (t + p.size - a + (a + 1)) (OneS j) i := reach_early (s := 0) i (by rw [Nat.zero_add]; exact hr)
      exact reach_step ht i (reach_sat hp hj hs i h1)
  · rw [reach_mod (s := t + p.size - a) (u := t - a) (by rw [show t + p.size - a = t - a + p.size by omega]; simp)]
    exact hr
theorem AG_rounds {p : Pln} {n i j t : Nat} (hp : MtsIn p n) (hj : j < n) (hs : 1 ≤ p.size) (ht : n * p.size ≤ t + 1) : ∀ k, AG p (t + k * p.size) i j = AG p t i j
  | 0 => by rw [Nat.zero_mul, Nat.add_zero]
  | k + 1 => by
    rw [Nat.succ_mul, ← Nat.add_assoc, AG_round hp hj hs (by omega), AG_rounds hp hj hs ht k]
/-- the tick at which a story looks -/
def look (p : Pln) (t : Nat) : Nat := if t < p.size * p.names.length then t else p.size * p.names.length + (t - p.size * p.names.length) % p.size
theorem AG_look {p : Pln} {i j t : Nat} (hp : MtsIn p p.names.length) (hj : j < p.names.length) (hs : 1 ≤ p.size) : AG p (look p t) i j = AG p t i j := by
  unfold look
  split
  · rfl
  · rename_i h
    have e := Nat.mod_add_div (t - p.size * p.names.length) p.size
    have h2 : t = (p.size * p.names.length + (t - p.size * p.names.length) % p.size) + ((t - p.size * p.names.length) / p.size) * p.size := by
      rw [Nat.mul_comm ((t - p.size * p.names.length) / p.size)]
      omega
    conv => rhs; rw [h2]
    rw [AG_rounds hp hj hs]
    rw [Nat.mul_comm]
    omega
theorem look_lt {p : Pln} {t : Nat} (hs : 1 ≤ p.size) : look p t < p.size * (p.names.length + 1) := by
  unfold look
  rw [Nat.mul_succ]
  have := Nat.mod_lt (t - p.size * p.names.length) (show 0 < p.size by omega)
  split <;> omega
end DL

set_option Elab.async false
set_option linter.all false
set_option maxRecDepth 100000
set_option maxHeartbeats 1000000
namespace DL
open PySem L2

/-! ### how a block ends -/
def Ends (o : Option (Fl × Env)) (Φ : Fl → Env → Prop) : Prop := ∃ fl ρ, o = some (fl, ρ) ∧ Φ fl ρ
def EndO {α : Type} (o : Option (α × Env)) (Ψ : α → Env → Prop) : Prop := ∃ a ρ, o = some (a, ρ) ∧ Ψ a ρ
def thenF (G : Fm) (Φ : Fl → Env → Prop) : Fl → Env → Prop
  | .nx, ρ => Ends (G ρ) Φ
  | fl, ρ => Φ fl ρ
def loopF (J : Env → Prop) (Φ : Fl → Env → Prop) : Fl → Env → Prop
  | .nx, ρ => J ρ
  | .ct, ρ => J ρ
  | .bk, ρ => Φ .nx ρ
  | .rt r, ρ => Φ (.rt r) ρ
section
variable {α : Type} {ρ ρ1 : Env} {fl : Fl} {Φ : Fl → Env → Prop} {J : Env → Prop} {G : Fm} {r : Sl}
@[simp] theorem ends_some : Ends (some (fl, ρ)) Φ ↔ Φ fl ρ := ⟨fun ⟨_, _, e, h⟩ => by cases e; exact h, fun h => ⟨_, _, rfl, h⟩⟩
@[simp] theorem endO_some {a : α} {Ψ : α → Env → Prop} : EndO (some (a, ρ)) Ψ ↔ Ψ a ρ := ⟨fun ⟨_, _, e, h⟩ => by cases e; exact h, fun h => ⟨_, _, rfl, h⟩⟩
@[simp] theorem thenF_nx : thenF G Φ .nx ρ ↔ Ends (G ρ) Φ := Iff.rfl
@[simp] theorem thenF_rt : thenF G Φ (.rt r) ρ ↔ Φ (.rt r) ρ := Iff.rfl
@[simp] theorem thenF_bk : thenF G Φ .bk ρ ↔ Φ .bk ρ := Iff.rfl
@[simp] theorem thenF_ct : thenF G Φ .ct ρ ↔ Φ .ct ρ := Iff.rfl
@[simp] theorem loopF_nx : loopF J Φ .nx ρ ↔ J ρ := Iff.rfl
@[simp] theorem loopF_ct : loopF J Φ .ct ρ ↔ J ρ := Iff.rfl
@[simp] theorem loopF_bk : loopF J Φ .bk ρ ↔ Φ .nx ρ := Iff.rfl
@[simp] theorem loopF_rt : loopF J Φ (.rt r) ρ ↔ Φ (.rt r) ρ := Iff.rfl
@[simp ↓] theorem e_sq (F G : Fm) : Ends (sq F G ρ) Φ ↔ Ends (F ρ) (thenF G Φ) := by
  unfold sq
  constructor
  · rintro ⟨fl, ρ', h, q⟩
    cases e : F ρ with
    | none => rw [e] at h; cases h
    | some y =>
      obtain ⟨f, ρ2⟩ := y
      rw [e] at h
      cases f with
      | nx => exact ⟨_, _, rfl, fl, ρ', h, q⟩
      | bk => cases h; exact ⟨_, _, rfl, q⟩
      | ct => cases h; exact ⟨_, _, rfl, q⟩
      | rt r => cases h; exact ⟨_, _, rfl, q⟩
  · rintro ⟨f, ρ', h, q⟩
    rw [h]
    cases f with
    | nx => exact q
    | bk => exact ⟨_, _, rfl, q⟩
    | ct => exact ⟨_, _, rfl, q⟩
    | rt r => exact ⟨_, _, rfl, q⟩
@[simp ↓] theorem e_iff (c : M Bool) (F G : Fm) : Ends (iff_ c F G ρ) Φ ↔ EndO (c ρ) fun b ρ1 => if b = true then Ends (F ρ1) Φ else Ends (G ρ1) Φ := by
  unfold iff_
  constructor
  · rintro ⟨fl, ρ', h, q⟩
    cases e : c ρ with
    | none => rw [e] at h; cases h
    | some y =>
      obtain ⟨b, ρ2⟩ := y
      rw [e] at h
      refine ⟨b, ρ2, rfl, ?_⟩
      cases b with
      | true => exact ⟨fl, ρ', h, q⟩
      | false => exact ⟨fl, ρ', h, q⟩
  · rintro ⟨b, ρ', h, q⟩
    rw [h]
    cases b with
    | true => exact q
    | false => exact q
theorem Ends.mono {o : Option (Fl × Env)} {Φ Ψ : Fl → Env → Prop} (h : Ends o Φ) (k : ∀ fl ρ, Φ fl ρ → Ψ fl ρ) : Ends o Ψ := let ⟨fl, ρ, e, q⟩ := h; ⟨fl, ρ, e, k _ _ q⟩
theorem Ends.loop {enc : α → Dat} {gb : Dat → Env → Option Env} {body : Fm} (I : Nat → Env → Prop) : ∀ (xs : List α) (k0 : Nat) (ρ : Env), I k0 ρ →
    (∀ k x ρ, xs[k]? = some x → I (k0 + k) ρ → ∃ ρ', gb (enc x) ρ = some ρ' ∧ Ends (body ρ') (loopF (I (k0 + k + 1)) Φ)) → (∀ ρ, I (k0 + xs.length) ρ → Φ .nx ρ) → Ends (loopD gb body (xs.map enc) ρ) Φ
  | [], k0, ρ, h0, _, k => ⟨.nx, ρ, rfl, k ρ h0⟩
  | x :: xs, k0, ρ, h0, step, k => by
    obtain ⟨ρ', h1, fl, ρ2, h2, h3⟩ := step 0 x ρ rfl h0
    rw [List.map_cons]
    have rest : I (k0 + 1) ρ2 → Ends (loopD gb body (xs.map enc) ρ2) Φ := fun h => by
      refine Ends.loop I xs (k0 + 1) ρ2 h (fun j y ρ hj hI => ?_) (fun ρ hI => ?_)
      · have := step (j + 1) y ρ (by simpa using hj) (by rw [show k0 + (j + 1) = k0 + 1 + j by omega]; exact hI)
        rw [show k0 + (j + 1) + 1 = k0 + 1 + j + 1 by omega] at this
        exact this
      · exact k ρ (by rw [List.length_cons, show k0 + (xs.length + 1) = k0 + 1 + xs.length by omega]; exact hI)
    unfold loopD
    rw [h1]
    simp only [h2]
    cases fl with
    | nx => exact rest h3
    | ct => exact rest h3
    | bk => exact ⟨_, _, rfl, h3⟩
    | rt r => exact ⟨_, _, rfl, h3⟩
theorem Ends.seq {F G : Fm} {ρ ρ1 : Env} {Φ : Fl → Env → Prop} (h : F ρ = some (.nx, ρ1)) (k : Ends (G ρ1) Φ) : Ends (sq F G ρ) Φ := (e_sq F G).mpr ⟨_, _, h, k⟩
/-- a for loop: I k holds when k items are done -/
theorem Ends.for {enc : α → Dat} {g : M (List Dat)} {gb : Dat → Env → Option Env} {body : Fm} {xs : List α} (I : Nat → Env → Prop) (hg : g ρ = some (xs.map enc, ρ1)) (h0 : I 0 ρ1)
    (step : ∀ k x ρ, xs[k]? = some x → I k ρ → ∃ ρ', gb (enc x) ρ = some ρ' ∧ Ends (body ρ') (loopF (I (k + 1)) Φ)) (k : ∀ ρ, I xs.length ρ → Φ .nx ρ) : Ends (forD g gb body ρ) Φ := by
  unfold forD
  rw [hg]
  exact Ends.loop I xs 0 ρ1 h0 (fun k x ρ hk hI => by simp only [Nat.zero_add] at hI ⊢; exact step k x ρ hk hI) (by simpa using k)
theorem Ends.while {c : M Bool} {body : Fm} (I : Nat → Env → Prop) (step : ∀ m ρ, I m ρ → EndO (c ρ) fun b ρ1 => if b = true then Ends (body ρ1) (fun fl ρ2 => fl = .nx ∧ ∃ m', m' < m ∧ I m' ρ2) else Φ .nx ρ1) : ∀ n m ρ, I m ρ → m < n → Ends (whileD c body n ρ) Φ
  | 0, _, _, _, h => absurd h (Nat.not_lt_zero _)
  | n + 1, m, ρ, h, hm => by
    obtain ⟨b, ρ1, h1, h2⟩ := step m ρ h
    unfold whileD
    rw [h1]
    cases b with
    | false => exact ⟨_, _, rfl, h2⟩
    | true =>
      obtain ⟨fl, ρ2, h3, e, m', h4, h5⟩ := h2
      subst e
      simp only [h3]
      exact Ends.while I step n m' ρ2 h5 (by omega)
/-- a def by its body -/
theorem def_rt {n N : Nat} {F : Fm} {ins : List Sl} {r : Sl} {outs : Env} (hl : ins.length = n) (h : Ends (F (tagAll ins ++ List.replicate (N - n) none)) fun fl ρ' => (∃ r0, fl = .rt r0 ∧ untag r0 = r) ∧ outsOf n ρ' = outs) : fnD n N F ins = some (r, outs) := by
  obtain ⟨fl, ρ', h1, ⟨r0, rfl, h2⟩, h3⟩ := h
  rw [ev_def hl rfl h1, h2, h3]
theorem def_nx {n N : Nat} {F : Fm} {ins : List Sl} {outs : Env} (hl : ins.length = n) (h : Ends (F (tagAll ins ++ List.replicate (N - n) none)) fun fl ρ' => fl = .nx ∧ outsOf n ρ' = outs) : fnD n N F ins = some (.sh .non, outs) := by
  obtain ⟨fl, ρ', h1, rfl, h3⟩ := h
  rw [ev_defN hl rfl h1, h3]
end
/-! ### comprehensions -/
section
variable {α : Type} {ρ ρ1 : Env} {g : M (List Dat)} {gb : Dat → Env → Option Env} {tt : M Bool} {te tk tv : M Dat} {vs : List Nat} {enc : α → Dat}
theorem lcG_loop {p : α → Bool} {f : α → Dat} {ρw : Env} {E : α → Env} : ∀ {xs : List α}, (∀ x ∈ xs, gb (enc x) ρw = some (E x)) → (∀ x ∈ xs, noOwn (E x) vs = true) → (∀ x ∈ xs, wipeE (E x) vs = ρw) → (∀ x ∈ xs, tt (E x) = some (p x, E x)) → (∀ x ∈ xs, p x = true → te (E x) = some (f x, E x)) →
    lcLoop vs gb tt te (xs.map enc) ρw = some ((xs.filter p).map f, ρw)
  | [], _, _, _, _, _ => rfl
  | x :: xs, h0, h1, h2, h3, h4 => by
    have ih := lcG_loop (xs := xs) (fun y hy => h0 y (List.mem_cons_of_mem _ hy)) (fun y hy => h1 y (List.mem_cons_of_mem _ hy)) (fun y hy => h2 y (List.mem_cons_of_mem _ hy)) (fun y hy => h3 y (List.mem_cons_of_mem _ hy)) (fun y hy => h4 y (List.mem_cons_of_mem _ hy))
    rw [List.map_cons]
    unfold lcLoop
    rw [h0 x (by simp)]
    simp only [h3 x (by simp)]
    cases hp : p x with
    | true => simp only [h4 x (by simp) hp, h1 x (by simp), if_true, h2 x (by simp), ih, List.filter_cons, hp, List.map_cons]
    | false =>
      simp only [h1 x (by simp), if_true, h2 x (by simp), ih, List.filter_cons, hp]
      rfl
theorem lcG {p : α → Bool} {f : α → Dat} {xs : List α} (E : α → Env) (hg : g ρ = some (xs.map enc, ρ1)) (hn : noOwn ρ1 vs = true) (h0 : ∀ x ∈ xs, gb (enc x) (wipeE ρ1 vs) = some (E x)) (h1 : ∀ x ∈ xs, noOwn (E x) vs = true) (h2 : ∀ x ∈ xs, wipeE (E x) vs = wipeE ρ1 vs)
    (h3 : ∀ x ∈ xs, tt (E x) = some (p x, E x)) (h4 : ∀ x ∈ xs, p x = true → te (E x) = some (f x, E x)) : lcD vs g gb tt te ρ = some (.ol none ((xs.filter p).map f), ρ1) := by
  unfold lcD
  rw [hg]
  simp only [hn, if_true]
  rw [lcG_loop h0 h1 h2 h3 h4]
  simp only [backE_wipe]
theorem lcGy {f : α → Dat} {xs : List α} (E : α → Env) (hg : g ρ = some (xs.map enc, ρ1)) (hn : noOwn ρ1 vs = true) (h0 : ∀ x ∈ xs, gb (enc x) (wipeE ρ1 vs) = some (E x)) (h1 : ∀ x ∈ xs, noOwn (E x) vs = true) (h2 : ∀ x ∈ xs, wipeE (E x) vs = wipeE ρ1 vs)
    (h4 : ∀ x ∈ xs, te (E x) = some (f x, E x)) : lcD vs g gb yesM te ρ = some (.ol none (xs.map f), ρ1) := by
  have := lcG (tt := yesM) (p := fun _ => true) E hg hn h0 h1 h2 (fun _ _ => rfl) (fun x hx _ => h4 x hx)
  rw [this, List.filter_eq_self.mpr (fun _ _ => rfl)]
theorem dcG_loop {p : α → Bool} {kf : α → Key} {f : α → Dat} {ρw : Env} {E : α → Env} : ∀ {xs : List α}, (∀ x ∈ xs, gb (enc x) ρw = some (E x)) → (∀ x ∈ xs, noOwn (E x) vs = true) → (∀ x ∈ xs, tt (E x) = some (p x, E x)) → (∀ x ∈ xs, p x = true → tk (E x) = some (keyD (kf x), E x) ∧ tv (E x) = some (f x, E x)) →
    dcLoop vs gb tt tk tv ρw (xs.map enc) = some ((xs.filter p).map fun x => (kf x, f x))
  | [], _, _, _, _ => rfl
  | x :: xs, h0, h1, h3, h4 => by
    have ih := dcG_loop (xs := xs) (fun y hy => h0 y (List.mem_cons_of_mem _ hy)) (fun y hy => h1 y (List.mem_cons_of_mem _ hy)) (fun y hy => h3 y (List.mem_cons_of_mem _ hy)) (fun y hy => h4 y (List.mem_cons_of_mem _ hy))
    rw [List.map_cons]
    unfold dcLoop
    rw [h0 x (by simp)]
    simp only [h1 x (by simp), if_true, h3 x (by simp)]
    cases hp : p x with
    | true =>
      obtain ⟨a, b⟩ := h4 x (by simp) hp
      simp only [a, unKey_keyD, b, ih, List.filter_cons, hp, if_true, List.map_cons, Option.map_some]
    | false =>
      simp only [ih, List.filter_cons, hp]
      rfl
theorem dcG {p : α → Bool} {kf : α → Key} {f : α → Dat} {xs : List α} (E : α → Env) (hg : g ρ = some (xs.map enc, ρ1)) (hn : noOwn ρ1 vs = true) (h0 : ∀ x ∈ xs, gb (enc x) (wipeE ρ1 vs) = some (E x)) (h1 : ∀ x ∈ xs, noOwn (E x) vs = true)
    (h3 : ∀ x ∈ xs, tt (E x) = some (p x, E x)) (h4 : ∀ x ∈ xs, p x = true → tk (E x) = some (keyD (kf x), E x) ∧ tv (E x) = some (f x, E x)) (hl : xs.length ≤ 16777216) :
    dcD vs g gb tt tk tv ρ = some (.od none false (mergeD [] ((xs.filter p).map fun x => (kf x, f x))), ρ1) := by
  unfold dcD
  rw [hg]
  simp only [hn, if_true]
  rw [dcG_loop h0 h1 h3 h4]
  simp only
  rw [if_pos]
  show _ ≤ 16777216
  rw [List.length_map]
  exact Nat.le_trans (List.length_filter_le _ _) hl
end
/-! ### evaluation, more -/
section
variable {ρ : Env}
@[simp] theorem ev_lokM (f : M Sl) : lokM f ρ = (f ρ).bind fun p => match p.1 with
  | .od _ false kvs => some (.dif kvs, p.2)
  | _ => none := by
  unfold lokM
  rw [ev_bnd']
  cases f ρ with
  | none => rfl
  | some q =>
    obtain ⟨s, r⟩ := q
    cases s with
    | od t b kvs => cases b <;> rfl
    | _ => rfl
@[simp] theorem ixE_lst (ds : List Dat) (i : Int) : ixE (.lst ds) (.int i) = atI ds i := rfl
@[simp] theorem ixE_tuf (ds : List Dat) (i : Int) : ixE (.tuf ds) (.int i) = atI ds i := rfl
@[simp] theorem itE_tuf (ds : List Dat) : itE (.tuf ds) = some ds := rfl
@[simp] theorem ixE_tup (ds : List Dat) (i : Int) : ixE (.tup ds) (.int i) = atI ds i := rfl
@[simp] theorem itE_lst (ds : List Dat) : itE (.lst ds) = some ds := rfl
@[simp] theorem itE_tup (ds : List Dat) : itE (.tup ds) = some ds := rfl
@[simp] theorem itE_dif (ds : List (Dat × Dat)) : itE (.dif ds) = some (keysD ds) := rfl
theorem ixE_dif {kvs : List (Dat × Dat)} {k : Key} {v : Dat} (h : lkK kvs k = some v) : ixE (.dif kvs) (keyD k) = some v := by
  unfold ixE dgetD
  rw [unKey_keyD]
  simp only [kvOf]
  rw [h]
theorem methP_at {c m : Str} {f : Fd} {fo : M Dat} {fa : M (List Dat)} {ρ ρ1 ρ2 : Env} {fs : List (Str × Dat)} {ds : List Dat} {r : Sl} {outs : Env} (h1 : fo ρ = some (.ins c fs, ρ1)) (h2 : fs.lookup m = none) (h3 : fa ρ1 = some (ds, ρ2))
    (h4 : f (.sh (.ins c fs) :: ds.map .sh) = some (r, outs)) : methP c m f fo fa ρ = some (r, ρ2) := by
  unfold methP
  rw [ev_bnd h1]
  simp only
  rw [if_pos ⟨trivial, h2⟩]
  refine callP_ok (ds := .ins c fs :: ds) ?_ h4
  rw [ev_bnd h3]
  rfl
theorem lk_none3 {α : Type} {m a b c : Str} {x y z : α} (h : (m == a) = false ∧ (m == b) = false ∧ (m == c) = false) : List.lookup m [(a, x), (b, y), (c, z)] = none := by
  obtain ⟨h1, h2, h3⟩ := h
  rw [lk_miss h1, lk_miss h2, lk_miss h3]
  rfl
def fre (a : Option Sl) : Prop := ∀ s, a = some s → isOwn s = false
theorem fre_none : fre none := fun _ h => nomatch h
theorem fre_sh (d : Dat) : fre (some (.sh d)) := fun s h => by cases h; rfl
end
theorem mulE_int (i j : Int) (h : -18446744073709551616 < j ∧ j < 18446744073709551616) : mulE (.int i) (.int j) = some (.int (i * j)) := by rw [mulE_eq]; exact mulD_int i j h
theorem mulE_lst {xs : List Dat} {k : Nat} (h : xs.length * k ≤ SZ) (hk : k ≤ 1000) : mulE (.lst xs) (.int (k : Int)) = some (.lst (List.replicate k xs).flatten) := by rw [mulE_eq]; exact mulD_lst h hk
theorem bin_at {g : Dat → Dat → Option Dat} {fa fb : M Dat} {ρ ρ1 ρ2 : Env} {x y z : Dat} (h1 : fa ρ = some (x, ρ1)) (h2 : fb ρ1 = some (y, ρ2)) (h3 : g x y = some z) : bin g fa fb ρ = some (z, ρ2) := by
  rw [ev_bin, h1]
  simp only [Option.bind_some, h2, h3, Option.map_some]
/-! what owned parameters hold -/
def ooF (k : Nat) : Option Sl → Option Sl
  | some s => if tagOf s = some k then some (untag s) else none
  | none => none
section
variable {k : Nat} {a b c d e f : Option Sl} {r : Env}
@[simp] theorem ooF_none : ooF k none = none := rfl
@[simp] theorem ooF_sh (x : Dat) : ooF k (some (.sh x)) = none := rfl
@[simp] theorem ooF_ol0 (ds : List Dat) : ooF k (some (.ol none ds)) = none := rfl
@[simp] theorem ooF_od0 (b : Bool) (ds : List (Dat × Dat)) : ooF k (some (.od none b ds)) = none := rfl
@[simp] theorem ooF_oo0 (x : Str) (ds : List (Str × Sl)) : ooF k (some (.oo none x ds)) = none := rfl
@[simp] theorem ooF_ol (ds : List Dat) : ooF k (some (.ol (some k) ds)) = some (.ol none ds) := by simp [ooF, tagOf]
@[simp] theorem ooF_oo (x : Str) (ds : List (Str × Sl)) : ooF k (some (.oo (some k) x ds)) = some (.oo none x (untagF ds)) := by simp [ooF, tagOf]
@[simp] theorem outs0 : outsOf 0 r = [] := rfl
@[simp] theorem outs1 : outsOf 1 (a :: r) = [ooF 0 a] := by cases a <;> rfl
@[simp] theorem outs2 : outsOf 2 (a :: b :: r) = [ooF 0 a, ooF 1 b] := by cases a <;> cases b <;> rfl
@[simp] theorem outs3 : outsOf 3 (a :: b :: c :: r) = [ooF 0 a, ooF 1 b, ooF 2 c] := by cases a <;> cases b <;> cases c <;> rfl
@[simp] theorem outs4 : outsOf 4 (a :: b :: c :: d :: r) = [ooF 0 a, ooF 1 b, ooF 2 c, ooF 3 d] := by cases a <;> cases b <;> cases c <;> cases d <;> rfl
@[simp] theorem outs5 : outsOf 5 (a :: b :: c :: d :: e :: r) = [ooF 0 a, ooF 1 b, ooF 2 c, ooF 3 d, ooF 4 e] := by cases a <;> cases b <;> cases c <;> cases d <;> cases e <;> rfl
end
/-! tests of values -/
@[simp] theorem isDw_non : isD .non .non = some (.bl true) := rfl
@[simp] theorem isDw_int (i : Int) : isD (.int i) .non = some (.bl false) := rfl
@[simp] theorem isDw_lst (i : List Dat) : isD (.lst i) .non = some (.bl false) := rfl
@[simp] theorem isDw_tup (i : List Dat) : isD (.tup i) .non = some (.bl false) := rfl
@[simp] theorem isDw_str (i : Str) : isD (.str i) .non = some (.bl false) := rfl
@[simp] theorem isDw_bl (i : Bool) : isD (.bl i) .non = some (.bl false) := rfl
@[simp] theorem notDw_non : notD .non .non = some (.bl false) := rfl
@[simp] theorem notDw_int (i : Int) : notD (.int i) .non = some (.bl true) := rfl
@[simp] theorem notDw_lst (i : List Dat) : notD (.lst i) .non = some (.bl true) := rfl
@[simp] theorem notDw_tup (i : List Dat) : notD (.tup i) .non = some (.bl true) := rfl
@[simp] theorem tag1 (a : Sl) : tagAll [a] = [some (tagAt 0 a)] := rfl
@[simp] theorem tag2 (a b : Sl) : tagAll [a, b] = [some (tagAt 0 a), some (tagAt 1 b)] := rfl
@[simp] theorem tag3 (a b c : Sl) : tagAll [a, b, c] = [some (tagAt 0 a), some (tagAt 1 b), some (tagAt 2 c)] := rfl
@[simp] theorem tag4 (a b c d : Sl) : tagAll [a, b, c, d] = [some (tagAt 0 a), some (tagAt 1 b), some (tagAt 2 c), some (tagAt 3 d)] := rfl
@[simp] theorem tag5 (a b c d e : Sl) : tagAll [a, b, c, d, e] = [some (tagAt 0 a), some (tagAt 1 b), some (tagAt 2 c), some (tagAt 3 d), some (tagAt 4 e)] := rfl
end DL

set_option Elab.async false
set_option linter.all false
set_option maxRecDepth 100000
set_option maxHeartbeats 1000000
namespace DL
open PySem L2

/-! ### rows of ticks as data -/
def enO : Option Nat → Dat
  | none => .non
  | some k => .int (k : Int)
@[simp] theorem enO_none : enO none = .non := rfl
@[simp] theorem enO_some (k : Nat) : enO (some k) = .int (k : Int) := rfl
def enRow (n : Nat) (r : Nat → Option Nat) : Dat := .lst ((List.range n).map fun j => enO (r j))
def enMat (n : Nat) (K : Know) : Dat := .lst ((List.range n).map fun i => enRow n (K i))
theorem atI_range {n i : Nat} (f : Nat → Dat) (h : i < n) : atI ((List.range n).map f) (i : Int) = some (f i) := atI_nat (by simp [List.getElem?_range h])
theorem ixE_mat {n i : Nat} {K : Know} (h : i < n) : ixE (enMat n K) (.int (i : Int)) = some (enRow n (K i)) := by
  unfold enMat
  rw [ixE_lst, atI_range _ h]
theorem ixE_row {n j : Nat} {r : Nat → Option Nat} (h : j < n) : ixE (enRow n r) (.int (j : Int)) = some (enO (r j)) := by
  unfold enRow
  rw [ixE_lst, atI_range _ h]
theorem enL_range (n : Nat) (f : Nat → Dat) : enL ((List.range n).map f) = (List.range n).map fun i => .tup [.int (i : Int), f i] := by
  unfold enL
  refine List.ext_getElem (by simp) fun i h1 h2 => ?_
  simp
theorem zpL_range (n : Nat) (f g : Nat → Dat) : zpL ((List.range n).map f) ((List.range n).map g) = (List.range n).map fun i => .tup [f i, g i] := by
  unfold zpL
  refine List.ext_getElem (by simp) fun i h1 h2 => ?_
  simp
@[simp] theorem isD_enO (a : Option Nat) : isD (enO a) .non = some (.bl a.isNone) := by cases a <;> rfl
@[simp] theorem notD_enO (a : Option Nat) : notD (enO a) .non = some (.bl a.isSome) := by cases a <;> rfl
@[simp] theorem itEnE_lst (ds : List Dat) : itEnE [.lst ds] = some (enL ds) := rfl
@[simp] theorem itEnE_tuf (ds : List Dat) : itEnE [.tuf ds] = some (enL ds) := rfl
@[simp] theorem itEnE_tup (ds : List Dat) : itEnE [.tup ds] = some (enL ds) := rfl
@[simp] theorem itZp_lst (ds es : List Dat) : itZp [.lst ds, .lst es] = some (zpL ds es) := rfl

/-! ### one telling -/
theorem newest_ok (a b : Option Nat) : f_newest [.sh (enO a), .sh (enO b)] = some (.sh (enO (nwT a b)), [none, none]) := by
  refine def_rt rfl ?_
  unfold b_newest
  cases a with
  | none => simp [nwT]
  | some x =>
    cases b with
    | none => simp [nwT]
    | some y =>
      by_cases h : x < y
      · simp [nwT, h]
      · simp [nwT, h]
theorem heard_ok {n t h : Nat} (K : Know) (ht : t < n) (hh : h < n) : f_heard [.sh (enMat n K), .sh (.int (t : Int)), .sh (.int (h : Int))] = some (.ol none ((List.range n).map fun i => enRow n (hear K t h i)), [none, none, none]) := by
  have c0 : c_heard_0 [some (.sh (enMat n K)), iS t, iS h, none, none, none, none, none] = some (.ol none ((List.range n).map fun j => enO (nwT (K h j) (K t j))), [some (.sh (enMat n K)), iS t, iS h, none, none, none, none, none]) := by
    unfold c_heard_0
    refine lcGy (enc := fun j => Dat.tup [enO (K h j), enO (K t j)]) (fun j => [some (.sh (enMat n K)), iS t, iS h, none, some (.sh (enO (K h j))), some (.sh (enO (K t j))), none, none]) ?_ rfl (fun _ _ => rfl) (fun _ _ => rfl) (fun _ _ => rfl) (fun j _ => ?_)
    · simp [ixE_mat ht, ixE_mat hh, enRow, zpL_range]
    · simp [newest_ok]
  have c1 : c_heard_1 [some (.sh (enMat n K)), iS t, iS h, some (.sh (enRow n (hear K t h h))), none, none, none, none] = some (.ol none ((List.range n).map fun i => enRow n (hear K t h i)), [some (.sh (enMat n K)), iS t, iS h, some (.sh (enRow n (hear K t h h))), none, none, none, none]) := by
    unfold c_heard_1
    refine lcGy (enc := fun i : Nat => Dat.tup [.int (i : Int), enRow n (K i)]) (fun i => [some (.sh (enMat n K)), iS t, iS h, some (.sh (enRow n (hear K t h h))), none, none, iS i, some (.sh (enRow n (K i)))]) ?_ rfl (fun _ _ => rfl) (fun _ _ => rfl) (fun _ _ => rfl) (fun i _ => ?_)
    · simp [enMat, enL_range]
    · by_cases e : i = h
      · subst e; simp
      · have e2 : (i : Int) ≠ (h : Int) := by omega
        have e3 : hear K t h i = K i := by funext j; simp [hear, e]
        simp [e2, e3]
  have e : enRow n (hear K t h h) = .lst ((List.range n).map fun j => enO (nwT (K h j) (K t j))) := by simp [enRow, hear]
  refine def_rt rfl ?_
  unfold b_heard
  rw [e] at c1
  simp [c0, c1]
theorem after_ok {n : Nat} (K : Know) {m : Mt} (h1 : m.one < n) (h2 : m.other < n) : ∃ s, f_after_meeting [.sh (enMat n K), .sh (mD m)] = some (s, [none, none]) ∧ frz s = enMat n (meetK K m) := by
  have a := heard_ok K h1 h2
  have fz : ∀ K' : Know, Dat.lst ((List.range n).map fun i => enRow n (K' i)) = enMat n K' := fun _ => rfl
  cases ht : m.tell with
  | true =>
    have w : m.word = "tell" := by unfold Mt.word; rw [ht]; rfl
    have ne : eqD (.str m.word) (.str "meet") = some (.bl false) := by rw [w, eqD_str (by decide +kernel) (by decide +kernel), show (("tell" : Str) == "meet") = false by decide +kernel]
    refine ⟨.sh (enMat n (meetK K m)), ?_, rfl⟩
    refine def_rt rfl ?_
    unfold b_after_meeting
    simp [a, ne, meetK, ht, fz]
  | false =>
    have w : m.word = "meet" := by unfold Mt.word; rw [ht]; rfl
    have ne : eqD (.str m.word) (.str "meet") = some (.bl true) := by rw [w, eqD_str (by decide +kernel) (by decide +kernel), show (("meet" : Str) == "meet") = true by decide +kernel]
    have b := heard_ok (hear K m.one m.other) h2 h1
    refine ⟨.ol none ((List.range n).map fun i => enRow n (meetK K m i)), ?_, by simp [fz]⟩
    refine def_rt rfl ?_
    unfold b_after_meeting
    simp [a, b, ne, meetK, ht, fz]
theorem known_ok (n t : Nat) (K : Know) : f_known_at [.sh (enMat n K), .sh (.int (t : Int))] = some (.ol none ((List.range n).map fun i => enRow n (knowAt K t i)), [none, none]) := by
  let E (a b c d : Option Sl) : Env := [some (.sh (enMat n K)), iS t, a, b, c, d]
  have c0 : ∀ i : Nat, c_known_at_0 (E none none (iS i) (some (.sh (enRow n (K i))))) = some (.ol none ((List.range n).map fun j => enO (knowAt K t i j)), E none none (iS i) (some (.sh (enRow n (K i))))) := fun i => by
    unfold c_known_at_0
    refine lcGy (enc := fun j : Nat => Dat.tup [.int (j : Int), enO (K i j)]) (fun j => E (iS j) (some (.sh (enO (K i j)))) (iS i) (some (.sh (enRow n (K i))))) ?_ rfl (fun _ _ => rfl) (fun _ _ => rfl) (fun _ _ => rfl) (fun j _ => ?_)
    · simp [E, enRow, enL_range]
    · by_cases e : j = i
      · subst e; simp [E, knowAt]
      · have e2 : (j : Int) ≠ (i : Int) := by omega
        simp [E, e2, knowAt, e]
  have c1 : c_known_at_1 (E none none none none) = some (.ol none ((List.range n).map fun i => enRow n (knowAt K t i)), E none none none none) := by
    unfold c_known_at_1
    refine lcGy (enc := fun i : Nat => Dat.tup [.int (i : Int), enRow n (K i)]) (fun i => E none none (iS i) (some (.sh (enRow n (K i))))) ?_ rfl (fun _ _ => rfl) (fun _ _ => rfl) (fun _ _ => rfl) (fun i _ => ?_)
    · simp [E, enMat, enL_range]
    · simp [c0]
      rfl
  refine def_rt rfl ?_
  unfold b_known_at
  simp only [E] at c1
  simp [c1]
theorem in_tick_ok {p : Pln} (hs : 1 ≤ p.size) (t : Nat) : f_Plan_in_tick [.sh (plD p), .sh (.int (t : Int))] = some (.ol none ((dayM p t).map mD), [none, none]) := by
  have c0 : c_Plan_in_tick_0 [some (.sh (plD p)), iS t, none] = some (.ol none ((dayM p t).map mD), [some (.sh (plD p)), iS t, none]) := by
    unfold c_Plan_in_tick_0
    refine lcG (enc := mD) (p := fun m => decide (m.tick = t % p.size)) (f := mD) (fun m => [some (.sh (plD p)), iS t, some (.sh (mD m))]) ?_ rfl (fun _ _ => rfl) (fun _ _ => rfl) (fun _ _ => rfl) (fun m _ => ?_) (fun m _ _ => by simp)
    · simp
    · have hm := modD_int (t : Int) (p.size : Int) (by omega)
      by_cases e : m.tick = t % p.size
      · have e2 : (m.tick : Int) = (t : Int) % (p.size : Int) := by omega
        simp [hm, e, e2]
      · have e2 : ¬ (m.tick : Int) = (t : Int) % (p.size : Int) := by omega
        simp [hm, e, e2]
  refine def_rt rfl ?_
  unfold b_Plan_in_tick
  simp [c0]
end DL

set_option Elab.async false
set_option linter.all false
set_option maxRecDepth 100000
set_option maxHeartbeats 1000000
namespace DL
open PySem L2

/-! ### all ages -/
def agesD (p : Pln) (k : Nat) : List Dat := (List.range k).map fun t => enMat p.names.length (AG p t)
def stF (p : Pln) (k : Nat) : List (Str × Sl) := [("size", .sh (.int p.size)), ("ages", .ol none (agesD p k))]
def stS (t : Option Nat) (p : Pln) (k : Nat) : Sl := .oo t "Story" (stF p k)
def stZ (p : Pln) : Sl := .oo none "Story" [("size", .sh (.int p.size)), ("ages", .ol none (agesD p (p.size * (p.names.length + 1)))), ("start", .sh (.int ((p.size : Int) * (p.names.length : Int))))]
def stD (p : Pln) : Dat := .ins "Story" [("size", .int p.size), ("ages", .lst (agesD p (p.size * (p.names.length + 1)))), ("start", .int ((p.size : Int) * (p.names.length : Int)))]
theorem frz_stZ (p : Pln) : frz (stZ p) = stD p := by simp [stZ, stD]
section
variable {p : Pln} {k : Nat} {t : Option Nat} {rest : Env}
theorem st_size : List.lookup ("size" : Str) (stF p k) = some (.sh (.int p.size)) := lk_hit
theorem st_ages : List.lookup ("ages" : Str) (stF p k) = some (.ol none (agesD p k)) := (lk_miss (by decide +kernel)).trans lk_hit
theorem gp_ages : getP (.fl 0 "Story" "ages") (some (stS t p k) :: rest) = some (agesD p k) := by
  have e : getP (.fl 0 "Story" "ages") (some (stS t p k) :: rest) = match List.lookup ("ages" : Str) (stF p k) with
    | some (.ol _ ds) => some ds
    | _ => none := rfl
  rw [e, st_ages]
theorem sp_ages (j : Nat) : setP (.fl 0 "Story" "ages") (agesD p j) (some (stS t p k) :: rest) = some (stS t p j) :: rest := by
  have e : setP (.fl 0 "Story" "ages") (agesD p j) (some (stS t p k) :: rest) = match List.lookup ("ages" : Str) (stF p k) with
    | some (.ol t2 _) => some (.oo t "Story" (setS "ages" (.ol t2 (agesD p j)) (stF p k))) :: rest
    | _ => some (stS t p k) :: rest := rfl
  rw [e, st_ages]
  simp only
  have q : setS "ages" (.ol none (agesD p j)) (stF p k) = stF p j := by
    unfold stF
    rw [set_miss (by decide +kernel), set_hit (by decide +kernel)]
  rw [q]
  rfl
end
abbrev siE (p : Pln) (o : Sl) (c x3 x4 x5 x6 x7 x8 : Option Sl) : Env := [some o, some (.sh (plD p)), c, x3, x4, x5, x6, x7, x8]
section
variable {p : Pln} {o : Sl} {c x3 x4 x5 x6 x7 x8 : Option Sl}
theorem rep_non {n i : Nat} (hn : n ≤ 1000) : mulE (.lst [Dat.non]) (.int (n : Int)) = some (enRow n (KN p 0 i)) := by
  have mu := mulE_lst (xs := [Dat.non]) (k := n) (by show 1 * n ≤ 16777216; omega) hn
  have e : (List.replicate n [Dat.non]).flatten = (List.range n).map fun j => enO (KN p 0 i j) := by
    refine List.ext_getElem (by simp) fun j h1 h2 => ?_
    simp [KN]
  rw [e] at mu
  exact mu
theorem lst_non {ρ : Env} : frzM (lstM (consA (cst .non) nilA)) ρ = some (.lst [.non], ρ) := by
  simp
theorem si_c0 (hn : p.names.length ≤ 1000) : c_Story_init_0 (siE p o (iS p.names.length) none none none none none none) = some (.ol none ((List.range p.names.length).map fun i => enRow p.names.length (KN p 0 i)), siE p o (iS p.names.length) none none none none none none) := by
  generalize hnn : p.names.length = n at hn
  unfold c_Story_init_0
  refine lcGy (enc := fun i : Nat => Dat.int (i : Int)) (fun i => siE p o (iS n) none (iS i) none none none none) ?_ rfl (fun _ _ => rfl) (fun _ _ => rfl) (fun _ _ => rfl) (fun i _ => bin_at lst_non rfl (rep_non hn))
  have := itR1_nat (n := n) (by omega)
  simp [this]
theorem si_in (hm : MtsIn p p.names.length) (hs : 1 ≤ p.size) {t : Nat} {Φ : Fl → Env → Prop} (hΦ : ∀ y6, Φ .nx (siE p o c (some (.sh (enMat p.names.length (KN p (t + 1))))) x4 (iS t) y6 x7 x8)) :
    Ends (l_Story_init_2 (siE p o c (some (.sh (enMat p.names.length (knowAt (KN p t) t)))) x4 (iS t) x6 x7 x8)) Φ := by
  unfold l_Story_init_2
  refine Ends.for (enc := mD) (xs := dayM p t) (fun j ρ => ∃ y6, ρ = siE p o c (some (.sh (enMat p.names.length (((dayM p t).take j).foldl meetK (knowAt (KN p t) t))))) x4 (iS t) y6 x7 x8)
    (ρ1 := siE p o c (some (.sh (enMat p.names.length (knowAt (KN p t) t)))) x4 (iS t) x6 x7 x8) ?_ ⟨x6, rfl⟩ ?_ ?_
  · rw [ev_liftF, ev_frzM, methP_at (ds := [.int (t : Int)]) rfl (lk_none3 (by decide +kernel)) rfl (in_tick_ok hs t)]
    simp
  · rintro j m ρ hj ⟨y6, rfl⟩
    have hmem : m ∈ p.mts := (List.mem_filter.mp (List.mem_of_getElem? hj)).1
    obtain ⟨h1, h2⟩ := hm m hmem
    obtain ⟨s, hs1, hs2⟩ := after_ok (((dayM p t).take j).foldl meetK (knowAt (KN p t) t)) h1 h2
    refine ⟨_, rfl, ?_⟩
    have e : ((dayM p t).take (j + 1)).foldl meetK (knowAt (KN p t) t) = meetK (((dayM p t).take j).foldl meetK (knowAt (KN p t) t)) m := by
      rw [List.take_succ, hj, List.foldl_append]
      rfl
    unfold w_Story_init_1
    simp [hs1, hs2, e]
  · rintro ρ ⟨y6, rfl⟩
    rw [List.take_length]
    exact hΦ y6
theorem age_of {x : Nat} {i j : Nat} : (match KN p (x + 1) i j with
    | none => Dat.non
    | some k => .int ((x : Int) - (k : Int))) = enO (AG p x i j) := by
  unfold AG
  cases h : KN p (x + 1) i j with
  | none => rfl
  | some k =>
    have := KN_lt _ _ _ _ h
    show Dat.int ((x : Int) - (k : Int)) = .int ((x - k : Nat) : Int)
    congr 1
    omega
theorem si_c3 {x i : Nat} : c_Story_init_3 (siE p o c x3 x4 (iS x) x6 none (some (.sh (enRow p.names.length (KN p (x + 1) i))))) = some (.ol none ((List.range p.names.length).map fun j => enO (AG p x i j)), siE p o c x3 x4 (iS x) x6 none (some (.sh (enRow p.names.length (KN p (x + 1) i))))) := by
  unfold c_Story_init_3
  refine lcGy (enc := fun j => enO (KN p (x + 1) i j)) (fun j => siE p o c x3 x4 (iS x) x6 (some (.sh (enO (KN p (x + 1) i j)))) (some (.sh (enRow p.names.length (KN p (x + 1) i))))) ?_ rfl (fun _ _ => rfl) (fun _ _ => rfl) (fun _ _ => rfl) (fun j _ => ?_)
  · simp [enRow]
  · rw [← age_of]
    cases h : KN p (x + 1) i j with
    | none => simp
    | some k => simp
theorem si_c4 {x : Nat} : c_Story_init_4 (siE p o c (some (.sh (enMat p.names.length (KN p (x + 1))))) x4 (iS x) x6 none none) = some (.ol none ((List.range p.names.length).map fun i => enRow p.names.length (AG p x i)), siE p o c (some (.sh (enMat p.names.length (KN p (x + 1))))) x4 (iS x) x6 none none) := by
  unfold c_Story_init_4
  refine lcGy (enc := fun i => enRow p.names.length (KN p (x + 1) i)) (fun i => siE p o c (some (.sh (enMat p.names.length (KN p (x + 1))))) x4 (iS x) x6 none (some (.sh (enRow p.names.length (KN p (x + 1) i))))) ?_ rfl (fun _ _ => rfl) (fun _ _ => rfl) (fun _ _ => rfl) (fun j _ => ?_)
  · simp [enMat]
  · rw [ev_frzM, si_c3]
    rfl
end
end DL

set_option Elab.async false
set_option linter.all false
set_option maxRecDepth 100000
set_option maxHeartbeats 1000000
namespace DL
open PySem L2

section
variable {p : Pln} {o : Sl} {c x3 x4 x5 x6 x7 x8 : Option Sl}
theorem enMat_fz (n : Nat) (K : Know) : Dat.lst ((List.range n).map fun i => enRow n (K i)) = enMat n K := rfl
theorem agesD_succ (p : Pln) (k : Nat) : agesD p (k + 1) = agesD p k ++ [enMat p.names.length (AG p k)] := by
  unfold agesD
  rw [List.range_succ, List.map_append]
  rfl
theorem agesD_len (p : Pln) (k : Nat) : (agesD p k).length = k := by simp [agesD]
/-- one tick -/
theorem si_day (hm : MtsIn p p.names.length) (hs : 1 ≤ p.size) {x : Nat} (hx : x < 16777216) {Φ : Fl → Env → Prop} (hΦ : ∀ y6, Φ .nx (siE p (stS (some 0) p (x + 1)) c (some (.sh (enMat p.names.length (KN p (x + 1))))) x4 (iS x) y6 none none)) :
    Ends (w_Story_init_6 (siE p (stS (some 0) p x) c (some (.sh (enMat p.names.length (KN p x)))) x4 (iS x) x6 none none)) Φ := by
  unfold w_Story_init_6
  have kn := known_ok p.names.length x (KN p x)
  simp [kn, enMat_fz]
  refine si_in (t := x) hm hs fun y6 => ?_
  show Ends (t_Story_init_5 _) Φ
  unfold t_Story_init_5
  have ap : appG (agesD p x) [enMat p.names.length (AG p x)] = some (agesD p (x + 1), .non) := by
    unfold appG
    simp only
    rw [if_pos (by show (agesD p x).length < 16777216; rw [agesD_len]; exact hx), agesD_succ]
  rw [ev_dropS, ev_shM, ev_mutM, gp_ages]
  simp only [Option.bind_some, ev_consA, ev_frzM, si_c4, Option.map_some, ev_nilA, frz_ol, enMat_fz, gp_ages, ap, sp_ages]
  exact ends_some.mpr (hΦ y6)
theorem si_all (hm : MtsIn p p.names.length) (hs : 1 ≤ p.size) (hk : p.size * (p.names.length + 1) ≤ 1000000) (hs2 : p.size ≤ 1000) {Φ : Fl → Env → Prop} (hΦ : ∀ y3 y5 y6, Φ .nx (siE p (stS (some 0) p (p.size * (p.names.length + 1))) (iS p.names.length) y3 none y5 y6 none none)) :
    Ends (l_Story_init_7 (siE p (stS (some 0) p 0) (iS p.names.length) (some (.sh (enMat p.names.length (KN p 0)))) none none none none none)) Φ := by
  unfold l_Story_init_7
  have hr := itR1_nat (n := p.size * (p.names.length + 1)) (by omega)
  have hm2 := mulE_int (p.size : Int) ((p.names.length : Int) + 1) (by have := Nat.mul_le_mul_right (p.names.length + 1) hs; omega)
  have e1 : ((p.size * (p.names.length + 1) : Nat) : Int) = (p.size : Int) * ((p.names.length : Int) + 1) := by simp
  rw [e1] at hr
  refine Ends.for (enc := fun i : Nat => Dat.int (i : Int)) (xs := List.range (p.size * (p.names.length + 1))) (fun k ρ => ∃ x5 x6, ρ = siE p (stS (some 0) p k) (iS p.names.length) (some (.sh (enMat p.names.length (KN p k)))) none x5 x6 none none)
    (ρ1 := siE p (stS (some 0) p 0) (iS p.names.length) (some (.sh (enMat p.names.length (KN p 0)))) none none none none none) ?_ ⟨none, none, rfl⟩ ?_ ?_
  · simp [hm2, hr]
  · rintro k x ρ hk' ⟨x5, x6, rfl⟩
    obtain ⟨hk1, rfl⟩ : k < p.size * (p.names.length + 1) ∧ x = k := by
      obtain ⟨a, b⟩ := List.getElem?_eq_some_iff.mp hk'
      simp at a b
      exact ⟨a, b.symm⟩
    exact ⟨_, rfl, si_day (x := x) hm hs (by omega) fun y6 => ⟨_, _, rfl⟩⟩
  · rintro ρ ⟨x5, x6, rfl⟩
    rw [List.length_range]
    exact hΦ _ x5 x6
end
theorem init_ok {p : Pln} (hm : MtsIn p p.names.length) (hs : 1 ≤ p.size) (hs2 : p.size ≤ 1000) (hn : p.names.length ≤ 900) : f_Story_init [.oo none "Story" [], .sh (plD p)] = some (.sh .non, [some (stZ p), none]) := by
  refine def_nx rfl ?_
  unfold b_Story_init
  have p1 : putS "ages" (.ol none []) [(("size" : Str), Sl.sh (.int p.size))] = stF p 0 := (put_miss (by decide +kernel)).trans (by rw [put_nil]; rfl)
  have c0 := si_c0 (p := p) (o := stS (some 0) p 0) (by omega)
  have hk : p.size * (p.names.length + 1) ≤ 1000000 := Nat.le_trans (Nat.mul_le_mul hs2 (show p.names.length + 1 ≤ 1000 by omega)) (by omega)
  have hm3 := mulE_int (p.size : Int) (p.names.length : Int) (by omega)
  have sh0 : shF c_Story_init_0 (siE p (stS (some 0) p 0) (iS p.names.length) none none none none none none) = some (.sh (enMat p.names.length (KN p 0)), siE p (stS (some 0) p 0) (iS p.names.length) none none none none none none) := by
    unfold shF
    rw [ev_shM, ev_frzM, c0]
    simp [enMat_fz]
  have fo : some (.oo (some 0) "Story" (stF p 0)) = some (stS (some 0) p 0) := rfl
  simp [put_nil, p1]
  rw [fo, sh0]
  simp
  refine si_all hm hs hk hs2 fun y3 y5 y6 => ?_
  have p2 : putS "start" (.sh (.int ((p.size : Int) * (p.names.length : Int)))) (stF p (p.size * (p.names.length + 1))) = ([("size", .sh (.int p.size)), ("ages", .ol none (agesD p (p.size * (p.names.length + 1)))), ("start", .sh (.int ((p.size : Int) * (p.names.length : Int))))] : List (Str × Sl)) := (put_miss (by decide +kernel)).trans (by rw [put_miss (by decide +kernel), put_nil])
  show Ends (t_Story_init_8 _) _
  unfold t_Story_init_8
  have fo2 : ∀ k, stS (some 0) p k = .oo (some 0) "Story" (stF p k) := fun _ => rfl
  have hl : (stF p (p.size * (p.names.length + 1))).length < 1000 := by show 2 < 1000; omega
  simp [fo2, hm3, hl, p2, stZ]
/-- the ages after a tick -/
theorem fld_stD {p : Pln} : fldD "Story" "size" (stD p) = some (.int p.size) ∧ fldD "Story" "ages" (stD p) = some (.lst (agesD p (p.size * (p.names.length + 1)))) ∧ fldD "Story" "start" (stD p) = some (.int ((p.size : Int) * (p.names.length : Int))) :=
  ⟨fld_eq lk_hit, fld_eq ((lk_miss (by decide +kernel)).trans lk_hit), fld_eq ((lk_miss (by decide +kernel)).trans ((lk_miss (by decide +kernel)).trans lk_hit))⟩
end DL

set_option Elab.async false
set_option linter.all false
set_option maxRecDepth 100000
set_option maxHeartbeats 1000000
namespace DL
open PySem L2

/-! ### arguments, and the ages that are asked -/
theorem kit_ii : kitB "int" "int" = some true := by decide +kernel
theorem kit_ib : kitB "int" "bool" = some false := by decide +kernel
theorem kit_ss : kitB "str" "str" = some true := by decide +kernel
@[simp] theorem ev_isiW (n : String) (f : M Dat) (ρ : Env) : isiM n f ρ = (f ρ).bind fun p => (isiD n p.1).map fun z => (z, p.2) := ev_un _ _
@[simp] theorem isiW_ii (i : Int) : isiD "int" (.int i) = some (.bl true) := rfl
@[simp] theorem isiW_bi (i : Int) : isiD "bool" (.int i) = some (.bl false) := rfl
@[simp] theorem isiW_ss (i : Str) : isiD "str" (.str i) = some (.bl true) := rfl
@[simp] theorem ev_bolD (f : M Bool) (ρ : Env) : bolD f ρ = (f ρ).map fun p => (.bl p.1, p.2) := by
  unfold bolD
  rw [ev_bnd']
  cases f ρ <;> rfl
theorem chM_at {g g' : Dat → Dat → Option Dat} {fa fb fc : M Dat} {ρ ρ1 ρ2 ρ3 : Env} {x y z : Dat} {b : Bool} (h1 : fa ρ = some (x, ρ1)) (h2 : fb ρ1 = some (y, ρ2)) (h3 : g x y = some (.bl true)) (h4 : fc ρ2 = some (z, ρ3)) (h5 : g' y z = some (.bl b)) : chM g g' fa fb fc ρ = some (b, ρ3) := by
  unfold chM bnd lift
  simp only [h1, h2, h3, h4, h5]
  rfl
/-- names that are told apart -/
structure NmOk (ns : List Str) : Prop where
  nd : ns.Nodup
  ok : ∀ n ∈ ns, PyData.strOk n = true
theorem inB_tup {s : Str} {ks : List Str} : inB (.str s) (.tuf (enNs ks)) = some (decide (s ∈ ks)) := by
  have e : inB (.str s) (.tuf (enNs ks)) = match toPy (.str s), toPyL (enNs ks) with
    | some a, some bs => if scalD (.str s) = true ∧ (enNs ks).all scalD = true then some (bs.any fun z => PyData.eqv z a) else none
    | _, _ => none := rfl
  rw [e, toPy_str, toPyL_strs]
  simp only
  rw [if_pos ⟨rfl, by simp [enNs]⟩]
  congr 1
  rw [Bool.eq_iff_iff]
  simp [List.any_map]
theorem strsOf_ns : ∀ ks : List Str, strsOf (enNs ks) = some ks
  | [] => rfl
  | k :: ks => by
    show (strsOf (enNs ks)).map _ = _
    rw [strsOf_ns ks]
    rfl
theorem idx_tup {ks : List Str} (hn : ks.Nodup) {i : Nat} {s : Str} (h : ks[i]? = some s) : idxE (.tuf (enNs ks)) (.str s) = some (.int (i : Int)) := by
  show (match strsOf (enNs ks) with
    | some ys => (ys.findIdx? fun u => u == s).map fun j => Dat.int (j : Nat)
    | none => none) = _
  rw [strsOf_ns]
  obtain ⟨hi, he⟩ := List.getElem?_eq_some_iff.mp h
  have : ks.findIdx? (fun u => u == s) = some i := by
    rw [List.findIdx?_eq_some_iff_getElem]
    refine ⟨hi, by simp [he], fun j hj => ?_⟩
    simp
    intro hh
    have := (List.getElem_inj hn).mp (hh.trans he.symm)
    omega
  simp only [this]
  rfl
@[simp] theorem ev_idxN (f fe : M Dat) (ρ : Env) : idxN f fe ρ = (f ρ).bind fun p => (fe p.2).bind fun q => (idxE p.1 q.1).map fun z => (z, q.2) := by
  unfold idxN
  simp
end DL

set_option Elab.async false
set_option linter.all false
set_option maxRecDepth 100000
set_option maxHeartbeats 1000000
namespace DL
open PySem L2

theorem personof_ok {p : Pln} (hn : p.names.Nodup) {i : Nat} {s : Str} (h : p.names[i]? = some s) : f_person_of [.sh (plD p), .sh (.str s)] = some (.sh (.int (i : Int)), [none, none]) := by
  have hm : s ∈ p.names := List.mem_of_getElem? h
  have e1 : ninE (.str s) (.tuf (enNs p.names)) = some (.bl false) := by
    show ninD (.str s) (.tuf (enNs p.names)) = _
    unfold ninD
    rw [inB_tup, decide_eq_true hm]
    rfl
  have e2 := idx_tup hn h
  refine def_rt rfl ?_
  unfold b_person_of
  simp [isiM, isiD, tyD, kitB, e1, e2]
end DL

set_option Elab.async false
set_option linter.all false
set_option maxRecDepth 100000
set_option maxHeartbeats 1000000
namespace DL
open PySem L2

/-! ### what is asked of a text -/
structure PWf (p : Pln) : Prop where
  mi : MtsIn p p.names.length
  s1 : 1 ≤ p.size
  s2 : p.size ≤ 1000
  n2 : 1 ≤ p.names.length
  n9 : p.names.length ≤ 900
  nd : p.names.Nodup
  ok : ∀ n ∈ p.names, PyData.strOk n = true
theorem PlOk.wf {p : Pln} (h : PlOk p) : PWf p :=
  ⟨fun m hm => ⟨(h.ms m hm).1, (h.ms m hm).2.1⟩, h.s1, by have := h.s2; omega, by have := h.n2; omega, by have := h.n8; omega, h.nn, fun n hn => strOk_eight n (h.ns n hn)⟩
abbrev Lds (x : Str) (p : Pln) : Prop := f_load [.sh (.str x)] = some (plS p, [none])
theorem loads_text {p : Pln} (h : PlOk p) (ho : p.ord = p) : Lds (T (textOf p)) p := by
  have := load_ok h (text_lex h) (text_len h)
  rwa [ho] at this
theorem mkO_at {c : Str} {f : Fd} {fa : M (List Dat)} {ρ ρ1 : Env} {ds : List Dat} {s0 : Sl} {r : Env} (h1 : fa ρ = some (ds, ρ1)) (h2 : f (.oo none c [] :: ds.map .sh) = some (.sh .non, some s0 :: r)) : mkO c f fa ρ = some (s0, ρ1) := by
  unfold mkO
  rw [ev_bnd h1]
  simp only [h2]
theorem story_at {p : Pln} (w : PWf p) {fa : M (List Dat)} {ρ : Env} (h1 : fa ρ = some ([plD p], ρ)) : frzM (mkO "Story" f_Story_init fa) ρ = some (stD p, ρ) := by
  rw [ev_frzM, mkO_at h1 (init_ok w.mi w.s1 w.s2 w.n9), ← frz_stZ]
  rfl
theorem lt_get {α : Type} {l : List α} {i : Nat} {a : α} (h : l[i]? = some a) : i < l.length := (List.getElem?_eq_some_iff.mp h).1
end DL

set_option Elab.async false
set_option linter.all false
set_option maxRecDepth 100000
set_option maxHeartbeats 1000000
namespace DL
open PySem L2

theorem consA_at {α : Type} {f : M α} {g : M (List α)} {ρ ρ1 ρ2 : Env} {x : α} {xs : List α} (h1 : f ρ = some (x, ρ1)) (h2 : g ρ1 = some (xs, ρ2)) : consA f g ρ = some (x :: xs, ρ2) := by
  rw [ev_consA, h1]
  simp only [Option.bind_some, h2, Option.map_some]
theorem starA_at {f : M Dat} {g : M (List Dat)} {ρ ρ1 ρ2 : Env} {xs ys : List Dat} (h1 : f ρ = some (.lst xs, ρ1)) (h2 : g ρ1 = some (ys, ρ2)) : starA f g ρ = some (xs ++ ys, ρ2) := by
  unfold starA
  rw [ev_bnd h1]
  simp only
  rw [ev_bnd (α := List Dat) (a := xs) (ρ1 := ρ1) rfl, ev_bnd h2]
  rfl
theorem lstM_at {f : M (List Dat)} {ρ ρ1 : Env} {ds : List Dat} (h1 : f ρ = some (ds, ρ1)) (hl : ds.length ≤ 16777216) : frzM (lstM f) ρ = some (.lst ds, ρ1) := by
  rw [ev_frzM, ev_lstM, h1]
  simp only [Option.bind_some]
  rw [if_pos hl]
  rfl
/-! ### dicts: put, merge, look up -/
theorem putD_new {ds : List (Dat × Dat)} {k : Key} {v : Dat} (h : ∀ q ∈ ds, unKey q.1 ≠ some k) : putD ds k v = ds ++ [(keyD k, v)] := by
  unfold putD
  rw [if_neg]
  intro z
  obtain ⟨q, hq, e⟩ := List.any_eq_true.mp z
  exact h q hq (of_decide_eq_true e)
theorem merge_new : ∀ {ps : List (Key × Dat)} {ds : List (Dat × Dat)}, (ps.map (·.1)).Nodup → (∀ q ∈ ds, ∀ r ∈ ps, unKey q.1 ≠ some r.1) → mergeD ds ps = ds ++ ps.map fun q => (keyD q.1, q.2)
  | [], ds, _, _ => by simp [mergeD]
  | (k, v) :: ps, ds, hn, hd => by
    simp at hn
    have e : mergeD ds ((k, v) :: ps) = mergeD (putD ds k v) ps := rfl
    rw [e, putD_new fun q hq => hd q hq (k, v) (by simp), merge_new hn.2]
    · simp
    · intro q hq r hr
      rcases List.mem_append.mp hq with hq | hq
      · exact hd q hq r (List.mem_cons_of_mem _ hr)
      · simp at hq
        subst hq
        rw [unKey_keyD]
        intro z
        cases z
        exact hn.1 r.2 hr
theorem lkK_none {ds : List (Dat × Dat)} {k : Key} (h : ∀ q ∈ ds, unKey q.1 ≠ some k) : lkK ds k = none := by
  unfold lkK
  rw [List.find?_eq_none.mpr fun q hq z => h q hq (of_decide_eq_true z)]
  rfl
theorem lkK_mem {k : Key} {v : Dat} : ∀ {ds : List (Dat × Dat)}, (keyD k, v) ∈ ds → (ds.map (·.1)).Nodup → (∀ q ∈ ds, ∃ k', q.1 = keyD k') → lkK ds k = some v
  | [], h, _, _ => nomatch h
  | q :: ds, h, hn, hk => by
    rw [List.map_cons, List.nodup_cons] at hn
    unfold lkK
    rw [List.find?_cons]
    rcases List.mem_cons.mp h with h | h
    · subst h
      simp [unKey_keyD]
    · have ne : decide (unKey q.1 = some k) = false := by
        refine decide_eq_false fun z => hn.1 ?_
        rw [unKey_inv z]
        exact List.mem_map.mpr ⟨_, h, rfl⟩
      rw [ne]
      exact lkK_mem h hn.2 fun r hr => hk r (List.mem_cons_of_mem _ hr)
theorem len_sub {α : Type} [DecidableEq α] : ∀ {l m : List α}, l.Nodup → (∀ x ∈ l, x ∈ m) → l.length ≤ m.length
  | [], _, _, _ => Nat.zero_le _
  | x :: l, m, hn, hs => by
    rw [List.nodup_cons] at hn
    have h1 : x ∈ m := hs x (by simp)
    have ih := len_sub (l := l) (m := m.erase x) hn.2 fun y hy => (List.mem_erase_of_ne (fun e : y = x => hn.1 (by rw [← e]; exact hy))).mpr (hs y (List.mem_cons_of_mem _ hy))
    rw [List.length_erase_of_mem h1] at ih
    have := List.length_pos_of_mem h1
    rw [List.length_cons]
    omega
/-! ### a row of ticks as a dict -/
structure RowD (n : Nat) (r : Nat → Option Nat) (kvs : List (Dat × Dat)) : Prop where
  ks : ∀ q ∈ kvs, ∃ j v : Nat, q = (.int (j : Int), .int (v : Int)) ∧ j < n ∧ r j = some v
  nd : (kvs.map (·.1)).Nodup
  al : ∀ j v : Nat, j < n → r j = some v → (.int (j : Int), .int (v : Int)) ∈ kvs
section
variable {n : Nat} {r : Nat → Option Nat} {kvs : List (Dat × Dat)}
theorem RowD.key (h : RowD n r kvs) : ∀ q ∈ kvs, ∃ k', q.1 = keyD k' := fun q hq => by
  obtain ⟨j, v, e, _⟩ := h.ks q hq
  exact ⟨.inl j, by rw [e]; rfl⟩
theorem RowD.lk (h : RowD n r kvs) {j : Nat} (hj : j < n) : lkK kvs (.inl (j : Int)) = (r j).map fun v : Nat => .int (v : Int) := by
  cases e : r j with
  | some v => exact lkK_mem (k := .inl (j : Int)) (h.al j v hj e) h.nd h.key
  | none =>
    refine lkK_none fun q hq z => ?_
    obtain ⟨i, v, e1, hi, e2⟩ := h.ks q hq
    subst e1
    have z : some (Sum.inl (i : Int) : Key) = some (Sum.inl (j : Int)) := z
    have : i = j := by have := Sum.inl.inj (Option.some.inj z); omega
    subst this
    rw [e] at e2; cases e2
theorem RowD.len (h : RowD n r kvs) : kvs.length ≤ n := by
  have g : ∃ js : List Nat, kvs.map (·.1) = js.map fun j : Nat => Dat.int (j : Int) := by
    refine ⟨kvs.map fun q => match q.1 with
      | .int i => i.toNat
      | _ => 0, ?_⟩
    rw [List.map_map]
    refine List.map_congr_left fun q hq => ?_
    obtain ⟨j, v, e, _⟩ := h.ks q hq
    subst e
    simp
  obtain ⟨js, e⟩ := g
  have nd : js.Nodup := by
    have := h.nd
    rw [e] at this
    exact (List.pairwise_map.mp this).imp fun h z => h (by rw [z])
  have hl : js.length ≤ (List.range n).length := len_sub nd fun j hj => by
    have : Dat.int (j : Int) ∈ kvs.map (·.1) := by rw [e]; exact List.mem_map.mpr ⟨j, hj, rfl⟩
    obtain ⟨q, hq, e2⟩ := List.mem_map.mp this
    obtain ⟨i, v, e3, hi, _⟩ := h.ks q hq
    subst e3
    have e2 : Dat.int (i : Int) = Dat.int (j : Int) := e2
    injection e2 with e2
    exact List.mem_range.mpr (by omega)
  have := congrArg List.length e
  simp at this hl
  omega
theorem RowD.put (h : RowD n r kvs) {j : Nat} (hj : j < n) (v : Nat) : RowD n (fun i => if i = j then some v else r i) (putD kvs (.inl (j : Int)) (.int (v : Int))) := by
  have hu : ∀ {i : Nat}, unKey (.int (i : Int)) = some (Sum.inl (j : Int) : Key) ↔ i = j := fun {i} => by
    constructor
    · intro z
      have z : some (Sum.inl (i : Int) : Key) = some (Sum.inl (j : Int)) := z
      have := Sum.inl.inj (Option.some.inj z); omega
    · rintro rfl; rfl
  by_cases ha : (kvs.any fun p => decide (unKey p.1 = some (Sum.inl (j : Int) : Key))) = true
  · have e : putD kvs (.inl (j : Int)) (.int (v : Int)) = kvs.map fun p => if unKey p.1 = some (Sum.inl (j : Int) : Key) then (p.1, .int (v : Int)) else p := by
      unfold putD; rw [if_pos ha]
    rw [e]
    refine ⟨fun q hq => ?_, ?_, fun i u hi hu' => ?_⟩
    · obtain ⟨p, hp, e1⟩ := List.mem_map.mp hq
      obtain ⟨i, u, e2, hi, e3⟩ := h.ks p hp
      subst e2
      by_cases e4 : i = j
      · subst e4
        rw [if_pos (hu.mpr rfl)] at e1
        exact ⟨i, v, e1.symm, hi, if_pos rfl⟩
      · rw [if_neg fun z => e4 (hu.mp z)] at e1
        exact ⟨i, u, e1.symm, hi, by rw [if_neg e4]; exact e3⟩
    · rw [List.map_map]
      have : (kvs.map ((fun q : Dat × Dat => q.1) ∘ fun p => if unKey p.1 = some (Sum.inl (j : Int) : Key) then (p.1, .int (v : Int)) else p)) = kvs.map (·.1) := by
        refine List.map_congr_left fun p _ => ?_
        simp only [Function.comp]
        split <;> rfl
      rw [this]
      exact h.nd
    · by_cases e4 : i = j
      · subst e4
        rw [if_pos rfl] at hu'
        cases hu'
        obtain ⟨p, hp, e5⟩ := List.any_eq_true.mp ha
        have e5 := of_decide_eq_true e5
        refine List.mem_map.mpr ⟨p, hp, ?_⟩
        rw [if_pos e5]
        congr 1
        exact unKey_inv e5
      · rw [if_neg e4] at hu'
        refine List.mem_map.mpr ⟨_, h.al i u hi hu', ?_⟩
        rw [if_neg fun z => e4 (hu.mp z)]
  · have no : ∀ q ∈ kvs, unKey q.1 ≠ some (Sum.inl (j : Int) : Key) := fun q hq z => ha (List.any_eq_true.mpr ⟨q, hq, decide_eq_true z⟩)
    rw [putD_new no]
    have nj : ∀ {i u : Nat}, (Dat.int (i : Int), Dat.int (u : Int)) ∈ kvs → i ≠ j := fun {i u} hm z => no _ hm (hu.mpr z)
    refine ⟨fun q hq => ?_, ?_, fun i u hi hu' => ?_⟩
    · rcases List.mem_append.mp hq with hq | hq
      · obtain ⟨i, u, e2, hi, e3⟩ := h.ks q hq
        subst e2
        exact ⟨i, u, rfl, hi, by rw [if_neg (nj hq)]; exact e3⟩
      · simp at hq
        subst hq
        exact ⟨j, v, rfl, hj, if_pos rfl⟩
    · rw [List.map_append, List.nodup_append]
      refine ⟨h.nd, by simp, fun a ha' b hb z => ?_⟩
      simp at hb
      subst hb
      subst z
      obtain ⟨q, hq, e⟩ := List.mem_map.mp ha'
      obtain ⟨i, u, e2, hi, e3⟩ := h.ks q hq
      subst e2
      have e : Dat.int (i : Int) = keyD (.inl (j : Int)) := e
      refine nj hq ?_
      have e : Dat.int (i : Int) = Dat.int (j : Int) := e
      injection e with e
      omega
    · by_cases e4 : i = j
      · subst e4
        rw [if_pos rfl] at hu'
        cases hu'
        exact List.mem_append_right _ (by simp [keyD])
      · rw [if_neg e4] at hu'
        exact List.mem_append_left _ (h.al i u hi hu')
theorem RowD.congr (h : RowD n r kvs) {r' : Nat → Option Nat} (e : ∀ j, j < n → r j = r' j) : RowD n r' kvs :=
  ⟨fun q hq => let ⟨j, v, a, b, c⟩ := h.ks q hq; ⟨j, v, a, b, (e j b) ▸ c⟩, h.nd, fun j v hj hv => h.al j v hj ((e j hj).trans hv)⟩
theorem rowD_nil : RowD n (fun _ => none) [] := ⟨fun _ h => (nomatch h), by simp, fun _ _ _ h => (nomatch h)⟩
theorem rowD_one {k t : Nat} (hk : k < n) : RowD n (fun j => if j = k then some t else none) [(.int (k : Int), .int (t : Int))] := by
  have := rowD_nil.put hk t
  exact this
end
end DL

set_option Elab.async false
set_option linter.all false
set_option maxRecDepth 100000
set_option maxHeartbeats 1000000
namespace DL
open PySem L2

/-! ### comprehensions with any for's -/
theorem walkF_map {α : Type} {vs : List Nat} {gb : Dat → Env → Option Env} {tt : M Bool} {inn : CB} {enc : α → Dat} {ρw : Env} {E : α → Env} {ys : α → List Dat} : ∀ {xs : List α}, (∀ x ∈ xs, gb (enc x) ρw = some (E x)) → (∀ x ∈ xs, noOwn (E x) vs = true) → (∀ x ∈ xs, tt (E x) = some (true, E x)) → (∀ x ∈ xs, inn (E x) = some (ys x)) →
    walkF vs gb tt inn ρw (xs.map enc) = some (xs.flatMap ys)
  | [], _, _, _, _ => rfl
  | x :: xs, h0, h1, h2, h3 => by
    have ih := walkF_map (xs := xs) (fun y hy => h0 y (List.mem_cons_of_mem _ hy)) (fun y hy => h1 y (List.mem_cons_of_mem _ hy)) (fun y hy => h2 y (List.mem_cons_of_mem _ hy)) (fun y hy => h3 y (List.mem_cons_of_mem _ hy))
    rw [List.map_cons]
    unfold walkF
    rw [h0 x (by simp)]
    simp only [h1 x (by simp), if_true, h2 x (by simp), h3 x (by simp), ih, Option.map_some, List.flatMap_cons]

/-! ### the greatest age -/
def lasK (p : Pln) : List Know := (List.range p.size).map fun k => AG p (p.size * p.names.length + k)
def evL (n : Nat) (Ks : List Know) : List (Option Nat) := Ks.flatMap fun K => (List.range n).flatMap fun i => (List.range n).map fun j => K i j
def greL (os : List (Option Nat)) : Option Nat := if none ∈ os then none else (os.filterMap id).max?
def greP (p : Pln) : Option Nat := greL (evL p.names.length (lasK p))
theorem lasting_ok (p : Pln) (hs : p.size ≤ 1000) (hn : p.names.length ≤ 900) : f_Story_lasting [.sh (stD p)] = some (.sh (.lst ((lasK p).map (enMat p.names.length))), [none]) := by
  obtain ⟨f1, f2, f3⟩ := fld_stD (p := p)
  refine def_rt rfl ?_
  unfold b_Story_lasting
  have hk : p.size * p.names.length ≤ 1000 * 900 := Nat.mul_le_mul hs hn
  have e : slD (.lst (agesD p (p.size * (p.names.length + 1)))) (some ((p.size : Int) * (p.names.length : Int))) none = some (.lst ((lasK p).map (enMat p.names.length))) := by
    show some (Dat.lst (cut _ _ _)) = _
    congr 2
    unfold cut
    have e1 : HT.sIx (agesD p (p.size * (p.names.length + 1))).length 0 (some ((p.size : Int) * (p.names.length : Int))) = p.size * p.names.length := by
      unfold HT.sIx
      simp only
      rw [if_neg (by have : (0 : Int) ≤ (p.size : Int) * (p.names.length : Int) := by rw [← Int.natCast_mul]; omega
                     omega)]
      unfold agesD
      rw [List.length_map, List.length_range, ← Int.natCast_mul, Int.toNat_natCast, Nat.mul_succ]
      omega
    have e2 : HT.sIx (agesD p (p.size * (p.names.length + 1))).length (agesD p (p.size * (p.names.length + 1))).length none = (agesD p (p.size * (p.names.length + 1))).length := rfl
    rw [e1, e2]
    unfold agesD lasK
    refine List.ext_getElem ?_ fun k h1 h2 => ?_
    · simp [Nat.mul_succ]
    · simp
  simp [f2, f3, slM, intO, e]
theorem toPyL_os : ∀ os : List (Option Nat), ∃ ps, toPyL (os.map enO) = some ps ∧ PyData.canLayAll0 ps = true ∧ PyData.depthAll ps ≤ 60 ∧ (ps.any fun z => PyData.eqv z .none) = decide (none ∈ os)
  | [] => ⟨[], by rw [List.map_nil, toPyL], by rw [PyData.canLayAll0], by rw [PyData.depthAll]; omega, rfl⟩
  | o :: os => by
    obtain ⟨ps, h1, h2, h3, h4⟩ := toPyL_os os
    cases o with
    | none =>
      refine ⟨.none :: ps, by rw [List.map_cons, toPyL, h1]; rfl, by rw [PyData.canLayAll0, h2]; rfl, by rw [PyData.depthAll]; exact Nat.max_le.mpr ⟨by rw [PyData.depth]; omega, h3⟩, ?_⟩
      rw [List.any_cons, show PyData.eqv .none .none = true by rw [PyData.eqv]]
      simp
    | some k =>
      refine ⟨.int k :: ps, by rw [List.map_cons, toPyL, h1]; rfl, by rw [PyData.canLayAll0, h2]; rfl, by rw [PyData.depthAll]; exact Nat.max_le.mpr ⟨by rw [PyData.depth]; omega, h3⟩, ?_⟩
      rw [List.any_cons, show PyData.eqv (.int k) .none = false by simp [PyData.eqv], h4]
      simp
theorem inD_os (os : List (Option Nat)) : inD .non (.lst (os.map enO)) = some (.bl (decide (none ∈ os))) := by
  obtain ⟨ps, h1, h2, h3, h4⟩ := toPyL_os os
  have e : inB .non (.lst (os.map enO)) = match toPy .non, toPyL (os.map enO) with
    | some a, some bs => if SeqAt.shaped a = true ∧ SeqAt.shaped (.list bs) = true then some (bs.any fun z => PyData.eqv z a) else none
    | _, _ => none := rfl
  unfold inD
  rw [e, h1, show toPy .non = some .none by rw [toPy]]
  simp only
  rw [if_pos ⟨by decide +kernel, shaped_list h2 h3⟩, h4]
  rfl
theorem intsOf_os : ∀ {os : List (Option Nat)}, none ∉ os → intsOf (os.map enO) = some ((os.filterMap id).map fun k : Nat => (k : Int))
  | [], _ => rfl
  | none :: os, h => absurd (by simp) h
  | some k :: os, h => by
    have ih := intsOf_os (os := os) fun z => h (List.mem_cons_of_mem _ z)
    show (intsOf (os.map enO)).map _ = _
    rw [ih]
    rfl
theorem max_cast (l : List Nat) : (l.map fun k : Nat => (k : Int)).max? = l.max?.map fun k : Nat => (k : Int) := by
  cases h : l.max? with
  | none => rw [List.max?_eq_none_iff] at h; subst h; rfl
  | some m =>
    obtain ⟨h1, h2⟩ := List.max?_eq_some_iff.mp h
    refine List.max?_eq_some_iff.mpr ⟨List.mem_map.mpr ⟨m, h1, rfl⟩, fun b hb => ?_⟩
    obtain ⟨x, hx, rfl⟩ := List.mem_map.mp hb
    have := h2 x hx
    show (x : Int) ≤ (m : Int)
    omega
theorem maxE_os {os : List (Option Nat)} (h : none ∉ os) (hne : os ≠ []) : ∃ k, (os.filterMap id).max? = some k ∧ maxE [.lst (os.map enO)] = some (.int (k : Nat)) := by
  have h2 := intsOf_os h
  cases hm : (os.filterMap id).max? with
  | none =>
    rw [List.max?_eq_none_iff] at hm
    cases os with
    | nil => exact absurd rfl hne
    | cons o os =>
      cases o with
      | none => exact absurd (by simp) h
      | some k => simp at hm
  | some m =>
    refine ⟨m, rfl, ?_⟩
    have e : maxE [.lst (os.map enO)] = (intsOf (os.map enO)).bind fun ns => ns.max?.map Dat.int := rfl
    rw [e, h2]
    simp only [Option.bind_some]
    rw [max_cast, hm]
    rfl
theorem greatest_ok {n : Nat} {Ks : List Know} (hn : 1 ≤ n) (hk : Ks ≠ []) (hl : Ks.length ≤ 1000) (hn2 : n ≤ 100) : f_greatest [.sh (.lst (Ks.map (enMat n)))] = some (.sh (enO (greL (evL n Ks))), [none]) := by
  refine def_rt rfl ?_
  have len : (evL n Ks).length = Ks.length * (n * n) := by
    unfold evL
    simp [List.length_flatMap, Function.comp_def, List.map_const', List.sum_replicate_nat]
  have lb : Ks.length * (n * n) ≤ 1000 * (100 * 100) := Nat.mul_le_mul hl (Nat.mul_le_mul hn2 hn2)
  have hc : c_greatest_0 [some (.sh (.lst (Ks.map (enMat n)))), none, none, none, none] = some (.ol none ((evL n Ks).map enO), [some (.sh (.lst (Ks.map (enMat n)))), none, none, none, none]) := by
    generalize hZ : Dat.lst (Ks.map (enMat n)) = Z
    have hit : itE Z = some (Ks.map (enMat n)) := by rw [← hZ]; rfl
    unfold c_greatest_0 lcN
    have hg : liftF itE (vr 0) [some (.sh Z), none, none, none, none] = some (Ks.map (enMat n), [some (.sh Z), none, none, none, none]) := by simp [hit]
    rw [hg]
    simp only
    rw [if_pos (by rfl)]
    rw [walkF_map (E := fun K => [some (.sh Z), none, some (.sh (enMat n K)), none, none]) (ys := fun K => ((List.range n).flatMap fun i => (List.range n).map fun j => enO (K i j))) (fun _ _ => rfl) (fun _ _ => rfl) (fun _ _ => rfl) (fun K _ => ?_)]
    · have e : (Ks.flatMap fun K => (List.range n).flatMap fun i => (List.range n).map fun j => enO (K i j)) = (evL n Ks).map enO := by
        unfold evL
        simp [List.map_flatMap, Function.comp_def]
      rw [e]
      simp only
      rw [if_pos (by rw [List.length_map, len]; exact Nat.le_trans lb (by decide))]
    · unfold bodF
      have hg2 : liftF itE (vr 2) [some (.sh Z), none, some (.sh (enMat n K)), none, none] = some ((List.range n).map fun i => enRow n (K i), [some (.sh Z), none, some (.sh (enMat n K)), none, none]) := by simp [enMat]
      rw [hg2]
      simp only
      refine walkF_map (E := fun i => [some (.sh Z), none, some (.sh (enMat n K)), some (.sh (enRow n (K i))), none]) (fun _ _ => rfl) (fun _ _ => rfl) (fun _ _ => rfl) (fun i _ => ?_)
      have hg3 : liftF itE (vr 3) [some (.sh Z), none, some (.sh (enMat n K)), some (.sh (enRow n (K i))), none] = some ((List.range n).map fun j => enO (K i j), [some (.sh Z), none, some (.sh (enMat n K)), some (.sh (enRow n (K i))), none]) := by simp [enRow]
      rw [hg3]
      simp only
      rw [walkF_map (E := fun j => [some (.sh Z), none, some (.sh (enMat n K)), some (.sh (enRow n (K i))), some (.sh (enO (K i j)))]) (ys := fun j => [enO (K i j)]) (fun _ _ => rfl) (fun _ _ => rfl) (fun _ _ => rfl) (fun j _ => rfl)]
      rw [← List.map_eq_flatMap]
  have hne : evL n Ks ≠ [] := by
    intro z
    have := congrArg List.length z
    rw [len] at this
    have h0 : 0 < Ks.length := List.length_pos_iff.mpr hk
    have : 0 < Ks.length * (n * n) := Nat.mul_pos h0 (Nat.mul_pos hn hn)
    simp at *
    omega
  have hin : inE .non (.lst ((evL n Ks).map enO)) = some (.bl (decide (none ∈ evL n Ks))) := inD_os _
  unfold b_greatest
  generalize Dat.lst (Ks.map (enMat n)) = Z at hc ⊢
  unfold greL
  by_cases h : none ∈ evL n Ks
  · generalize (evL n Ks).map enO = L at hc hin
    simp [shF, hc, hin, h]
  · obtain ⟨k, k1, k2⟩ := maxE_os h hne
    generalize (evL n Ks).map enO = L at hc hin k2
    simp [shF, hc, hin, h, k1, k2]
theorem lasK_ne {p : Pln} (hs : 1 ≤ p.size) : lasK p ≠ [] := by
  unfold lasK
  intro z
  simp at z
  omega
end DL

set_option Elab.async false
set_option linter.all false
set_option maxRecDepth 100000
set_option maxHeartbeats 1000000
namespace DL
open PySem L2

/-! ### the greatest age of a plan -/
theorem greatest_las {p : Pln} (w : PWf p) (h9 : p.names.length ≤ 100) : f_greatest [.sh (.lst ((lasK p).map (enMat p.names.length)))] = some (.sh (enO (greP p)), [none]) :=
  greatest_ok w.n2 (lasK_ne w.s1) (by unfold lasK; simp; exact w.s2) h9
theorem lasting_at {p : Pln} (w : PWf p) {fa : M Dat} {ρ : Env} (h1 : fa ρ = some (stD p, ρ)) : frzM (methP "Story" "lasting" f_Story_lasting fa nilA) ρ = some (.lst ((lasK p).map (enMat p.names.length)), ρ) := by
  rw [ev_frzM, methP_at (ds := []) h1 (lk_none3 (by decide +kernel)) rfl (lasting_ok p w.s2 w.n9)]
  rfl
/-! ### one meeting more -/
def addP (p : Pln) (m : Mt) : Pln := ⟨p.size, p.names, p.mts ++ [m]⟩
theorem PWf.ord {p : Pln} (w : PWf p) : PWf p.ord :=
  ⟨fun m hm => w.mi m (List.mem_filter.mp ((ordM_lt p.size p.mts).mem_iff.mp hm)).1, w.s1, w.s2, w.n2, w.n9, w.nd, w.ok⟩
theorem PWf.add {p : Pln} (w : PWf p) {m : Mt} (h1 : m.one < p.names.length) (h2 : m.other < p.names.length) : PWf (addP p m) :=
  ⟨fun x hx => by
    rcases List.mem_append.mp hx with h | h
    · exact w.mi x h
    · simp at h; subst h; exact ⟨h1, h2⟩, w.s1, w.s2, w.n2, w.n9, w.nd, w.ok⟩
def metM (i j t : Nat) : Mt := ⟨false, i, j, t⟩
def grB (p : Pln) (i j t : Nat) : Option Nat := greP (addP p (metM i j t)).ord
def bst (f : Nat → Option Nat) : Nat → Option (Nat × Nat)
  | 0 => none
  | k + 1 => match f k with
    | none => bst f k
    | some a => match bst f k with
      | none => some (a, k)
      | some (b, u) => if a < b then some (a, k) else some (b, u)
def enB : Option (Nat × Nat) → Dat
  | none => .non
  | some (a, t) => .tup [.int (a : Int), .int (t : Int)]
theorem with_ok {p : Pln} (w : PWf p) (ms : List Mt) (hm : ms.length ≤ 1000) : f_Plan_with_meetings [.sh (plD p), .sh (.lst (ms.map mD))] = some (plS (Pln.ord ⟨p.size, p.names, ms⟩), [none, none]) := by
  have hi := plan_init (p := ⟨p.size, p.names, ms⟩) w.s2 hm
  have h := mkO_at (fa := consA (un (fldD "Plan" "size") (vr 0)) (consA (un (fldD "Plan" "names") (vr 0)) (consA (vr 1) nilA))) (ρ := [some (.sh (plD p)), some (.sh (.lst (ms.map mD)))]) (ρ1 := [some (.sh (plD p)), some (.sh (.lst (ms.map mD)))]) (ds := [.int p.size, .tuf (enNs p.names), .lst (ms.map mD)]) (by simp) hi
  refine def_rt rfl ?_
  unfold b_Plan_with_meetings
  rw [show tagAll [Sl.sh (plD p), Sl.sh (.lst (ms.map mD))] ++ List.replicate (2 - 2) none = [some (.sh (plD p)), some (.sh (.lst (ms.map mD)))] from rfl, ev_rtn, h]
  simp [plS]
theorem mt_at {ρ : Env} {i j t : Nat} {fi fj ft : M Dat} (h1 : fi ρ = some (.int (i : Int), ρ)) (h2 : fj ρ = some (.int (j : Int), ρ)) (h3 : ft ρ = some (.int (t : Int), ρ)) : frzM (mkO "Meeting" f_Meeting_init (consA (cst (.str "meet")) (consA fi (consA fj (consA ft nilA))))) ρ = some (mD (metM i j t), ρ) := by
  rw [ev_frzM, mkO_at (ρ1 := ρ) (ds := [.str (metM i j t).word, .int (metM i j t).one, .int (metM i j t).other, .int (metM i j t).tick]) (by simp [h1, h2, h3, metM, Mt.word]) (mt_init (metM i j t))]
  rfl
section
variable {p : Pln} {x a b : Str} {i j : Nat}
def btE (p : Pln) (x a b : Str) (i j : Nat) (e6 e7 e8 e9 : Option Sl) : Env := [some (.sh (.str x)), some (.sh (.str a)), some (.sh (.str b)), some (.sh (plD p)), iS i, iS j, e6, e7, e8, e9]
theorem bt_step (w : PWf p) (hi : i < p.names.length) (hj : j < p.names.length) (h9 : p.names.length ≤ 100) (hm : p.mts.length ≤ 900) {k : Nat} {e8 e9 : Option Sl} :
    Ends (w_best_tick_0 (btE p x a b i j (some (.sh (enB (bst (grB p i j) k)))) (iS k) e8 e9)) fun fl ρ => fl = .nx ∧ ∃ y8 y9, ρ = btE p x a b i j (some (.sh (enB (bst (grB p i j) (k + 1))))) (iS k) y8 y9 := by
  have wq := (w.add (m := metM i j k) hi hj).ord
  let E (e8 e9 : Option Sl) : Env := btE p x a b i j (some (.sh (enB (bst (grB p i j) k)))) (iS k) e8 e9
  let q : Pln := (addP p (metM i j k)).ord
  have hw := with_ok w (p.mts ++ [metM i j k]) (by simp; omega)
  have s1 : asg 8 (shM (frzM (methP "Plan" "with_meetings" f_Plan_with_meetings (vr 3) (consA (frzM (lstM (starA (un (fldD "Plan" "meetings") (vr 3)) (consA (frzM (mkO "Meeting" f_Meeting_init (consA (cst (.str "meet")) (consA (vr 4) (consA (vr 5) (consA (vr 7) nilA)))))) nilA)))) nilA)))) (E e8 e9) = some (.nx, E (some (.sh (plD q))) e9) := by
    have ar : consA (frzM (lstM (starA (un (fldD "Plan" "meetings") (vr 3)) (consA (frzM (mkO "Meeting" f_Meeting_init (consA (cst (.str "meet")) (consA (vr 4) (consA (vr 5) (consA (vr 7) nilA)))))) nilA)))) nilA (E e8 e9) = some ([.lst ((p.mts ++ [metM i j k]).map mD)], E e8 e9) := by
      have h1 := mt_at (ρ := E e8 e9) (fi := vr 4) (fj := vr 5) (ft := vr 7) (i := i) (j := j) (t := k) rfl rfl rfl
      have h2 : un (fldD "Plan" "meetings") (vr 3) (E e8 e9) = some (.lst (p.mts.map mD), E e8 e9) := by
        simp only [E, btE]
        simp
      have e : (p.mts ++ [metM i j k]).map mD = p.mts.map mD ++ [mD (metM i j k)] := by simp
      rw [e]
      exact consA_at (lstM_at (starA_at h2 (consA_at h1 rfl)) (by simp; omega)) rfl
    rw [ev_asg, ev_shM, ev_frzM, methP_at (ds := [.lst ((p.mts ++ [metM i j k]).map mD)]) rfl (lk_none3 (by decide +kernel)) ar hw]
    simp only [Option.map_some, frz_plS]
    rfl
  have s2 : asg 9 (shM (frzM (callP f_greatest (consA (frzM (methP "Story" "lasting" f_Story_lasting (frzM (mkO "Story" f_Story_init (consA (vr 8) nilA))) nilA)) nilA)))) (E (some (.sh (plD q))) e9) = some (.nx, E (some (.sh (plD q))) (some (.sh (enO (grB p i j k))))) := by
    have h1 := lasting_at wq (fa := frzM (mkO "Story" f_Story_init (consA (vr 8) nilA))) (ρ := E (some (.sh (plD q))) e9) (story_at wq rfl)
    have h2 := greatest_las wq h9
    rw [ev_asg, ev_shM, ev_frzM, ev_callP, ev_consA, h1]
    simp only [Option.bind_some, ev_nilA, Option.map_some, List.map_cons, List.map_nil]
    rw [h2]
    rfl
  unfold w_best_tick_0
  refine Ends.seq s1 (Ends.seq s2 ?_)
  cases hg : grB p i j k with
  | none =>
    have e : bst (grB p i j) (k + 1) = bst (grB p i j) k := by simp [bst, hg]
    rw [e]
    simp only [E, btE]
    simp
  | some g =>
    cases hb : bst (grB p i j) k with
    | none =>
      have e : bst (grB p i j) (k + 1) = some (g, k) := by simp [bst, hg, hb]
      rw [e]
      simp only [E, btE]
      simp [hb, enB]
    | some bu =>
      obtain ⟨u, v⟩ := bu
      by_cases hlt : g < u
      · have e : bst (grB p i j) (k + 1) = some (g, k) := by simp [bst, hg, hb, hlt]
        rw [e]
        simp only [E, btE]
        have hz : atI [Dat.int (u : Int), Dat.int (v : Int)] 0 = some (.int u) := rfl
        simp [hb, enB, hlt, hz]
      · have e : bst (grB p i j) (k + 1) = some (u, v) := by simp [bst, hg, hb, hlt]
        rw [e]
        simp only [E, btE]
        have hz : atI [Dat.int (u : Int), Dat.int (v : Int)] 0 = some (.int u) := rfl
        simp [hb, enB, hlt, hz]
theorem best_tick_ok (w : PWf p) (hl : Lds x p) (hi : p.names[i]? = some a) (hj : p.names[j]? = some b) (hij : i ≠ j) (h9 : p.names.length ≤ 100) (hm : p.mts.length < 20) :
    f_best_tick [.sh (.str x), .sh (.str a), .sh (.str b)] = some (.sh (enB (bst (grB p i j) p.size)), [none, none, none]) := by
  have p1 := personof_ok w.nd hi
  have p2 := personof_ok w.nd hj
  have hil := (List.getElem?_eq_some_iff.mp hi).1
  have hjl := (List.getElem?_eq_some_iff.mp hj).1
  have lp : Ends (l_best_tick_1 (btE p x a b i j (some (.sh .non)) none none none)) (thenF t_best_tick_2 fun fl ρ' => (∃ r0, fl = .rt r0 ∧ untag r0 = .sh (enB (bst (grB p i j) p.size))) ∧ outsOf 3 ρ' = [none, none, none]) := by
    unfold l_best_tick_1
    refine Ends.for (enc := fun k : Nat => Dat.int (k : Int)) (xs := List.range p.size) (ρ1 := btE p x a b i j (some (.sh .non)) none none none) (fun k ρ => ∃ y7 y8 y9, ρ = btE p x a b i j (some (.sh (enB (bst (grB p i j) k)))) y7 y8 y9) ?_ ⟨none, none, none, rfl⟩ (fun k t ρ hk ⟨y7, y8, y9, e⟩ => ?_) (fun ρ ⟨y7, y8, y9, e⟩ => ?_)
    · have := itR1_nat (n := p.size) (by have := w.s2; omega)
      simp only [btE]
      simp [this]
    · subst e
      obtain ⟨h1, h2⟩ := List.getElem?_eq_some_iff.mp hk
      simp at h1 h2
      subst h2
      refine ⟨_, rfl, (bt_step w hil hjl h9 (by omega)).mono fun fl ρ ⟨h1, y8, y9, h2⟩ => ?_⟩
      subst h1 h2
      exact ⟨_, _, _, rfl⟩
    · subst e
      unfold t_best_tick_2
      simp only [List.length_range, btE]
      simp
  have hne : ((i : Int) == (j : Int)) = false := by simp; omega
  have hlen : ((p.mts.length : Int) == 20) = false := by simp; omega
  refine def_rt rfl ?_
  unfold b_best_tick
  simp only [btE] at lp
  simp [hl, p1, p2, frz_plS, par2, hne, hlen, lenD]
  exact lp
end
end DL

set_option Elab.async false
set_option linter.all false
set_option maxRecDepth 100000
set_option maxHeartbeats 1000000
namespace DL
open PySem L2

/-! ### the law's own days: told -/
theorem pairs_ok : ∀ {ps : List (Key × Dat)}, pairsD (ps.map fun q => .tup [keyD q.1, q.2]) = some ps
  | [] => rfl
  | (k, v) :: ps => by
    rw [List.map_cons]
    unfold pairsD
    rw [pairs_ok]
    cases k <;> rfl
/-- the law's keys are numbers -/
theorem RowD.asKV {n : Nat} {r : Nat → Option Nat} {kvs : List (Dat × Dat)} (h : RowD n r kvs) : ∃ ps : List (Key × Dat), kvs = ps.map fun q => (keyD q.1, q.2) := by
  refine ⟨kvs.map fun q => (match q.1 with
    | .int i => .inl i
    | _ => .inl 0, q.2), ?_⟩
  rw [List.map_map]
  conv => lhs; rw [← List.map_id kvs]
  refine List.map_congr_left fun q hq => ?_
  obtain ⟨j, v, e, _⟩ := h.ks q hq
  subst e
  rfl
theorem RowD.again {n : Nat} {r : Nat → Option Nat} {kvs : List (Dat × Dat)} (h : RowD n r kvs) : dictS [.lst (kvs.map fun q => .tup [q.1, q.2])] = some (.od none false kvs) := by
  obtain ⟨ps, e⟩ := h.asKV
  have nd := h.nd
  rw [e, List.map_map] at nd
  have nd2 : (ps.map (·.1)).Nodup := by
    have : ps.map ((fun q : Dat × Dat => q.1) ∘ fun q : Key × Dat => (keyD q.1, q.2)) = (ps.map (·.1)).map keyD := by rw [List.map_map]; rfl
    rw [this] at nd
    exact (List.pairwise_map.mp nd).imp fun h z => h (by rw [z])
  have e2 : (kvs.map fun q => Dat.tup [q.1, q.2]) = ps.map fun q => .tup [keyD q.1, q.2] := by rw [e, List.map_map]; rfl
  rw [e2]
  show (pairsD _).map _ = _
  rw [pairs_ok]
  simp only [Option.map_some]
  rw [merge_new nd2 (by simp), List.nil_append, ← e]
def nwAt (n : Nat) (ra rb : Nat → Option Nat) (ks : List (Dat × Dat)) : Nat → Option Nat := fun j => if (ks.any fun q => decide (unKey q.1 = some (Sum.inl (j : Int) : Key))) = true then nwT (rb j) (ra j) else rb j
theorem max_two {v o : Int} : maxE [.lst [.int v, .int o]] = some (.int (max v o)) := by
  have e : maxE [.lst [.int v, .int o]] = (intsOf [.int v, .int o]).bind fun ns => ns.max?.map Dat.int := rfl
  rw [e]
  simp [intsOf, List.max?]
theorem told_ok {n : Nat} {ds : List Dat} {a b : Nat} {ta tb : List (Dat × Dat)} {ra rb : Nat → Option Nat} (ha : ds[a]? = some (.dif ta)) (hb : ds[b]? = some (.dif tb)) (wa : RowD n ra ta) (wb : RowD n rb tb) (hn : n ≤ 1000) :
    ∃ kvs, f_law_told [.sh (.lst ds), .sh (.int (a : Int)), .sh (.int (b : Int))] = some (.sh (.dif kvs), [none, none, none]) ∧ RowD n (fun j => nwT (rb j) (ra j)) kvs := by
  let E (y3 y4 : Option Sl) : Env := [some (.sh (.lst ds)), iS a, iS b, y3, y4]
  have xa : ixE (.lst ds) (.int (a : Int)) = some (.dif ta) := by rw [ixE_lst]; exact atI_nat ha
  have xb : ixE (.lst ds) (.int (b : Int)) = some (.dif tb) := by rw [ixE_lst]; exact atI_nat hb
  have kx : ∀ {r : Nat → Option Nat} {t : List (Dat × Dat)}, RowD n r t → ∀ q ∈ t, ixE (.dif t) q.1 = some q.2 := fun {r t} w q hq => by
    obtain ⟨j, v, e, _⟩ := w.ks q hq
    subst e
    exact ixE_dif (k := .inl (j : Int)) (lkK_mem (k := .inl (j : Int)) hq w.nd w.key)
  have c0 : c_law_told_0 (E none none) = some (.ol none (tb.map fun q => .tup [q.1, q.2]), E none none) := by
    unfold c_law_told_0
    refine lcGy (enc := fun q : Dat × Dat => q.1) (xs := tb) (fun q => E none (some (.sh q.1))) ?_ rfl (fun _ _ => rfl) (fun _ _ => rfl) (fun _ _ => rfl) (fun q hq => ?_)
    · simp only [E]
      simp [xb, keysD]
    · have := kx wb q hq
      simp only [E]
      simp [xb, this]
  have s1 : asg 3 (liftA dictS (consA (frzM c_law_told_0) nilA)) (E none none) = some (.nx, E (some (.od none false tb)) none) := by
    have h := wb.again
    simp [c0, h, E]
  have lp : Ends (l_law_told_2 (E (some (.od none false tb)) none)) fun fl ρ => fl = .nx ∧ ∃ kvs y4, ρ = E (some (.od none false kvs)) y4 ∧ RowD n (fun j => nwT (rb j) (ra j)) kvs := by
    unfold l_law_told_2
    refine Ends.for (enc := fun q : Dat × Dat => q.1) (xs := ta) (ρ1 := E (some (.od none false tb)) none) (fun k ρ => ∃ kvs y4, ρ = E (some (.od none false kvs)) y4 ∧ RowD n (nwAt n ra rb (ta.take k)) kvs) ?_ ⟨tb, none, rfl, wb.congr fun j _ => by simp [nwAt]⟩ (fun k q ρ hk ⟨kvs, y4, e, w⟩ => ?_) (fun ρ ⟨kvs, y4, e, w⟩ => ⟨rfl, kvs, y4, e, ?_⟩)
    · simp only [E]
      simp [xa, keysD]
    · subst e
      have hq := List.mem_of_getElem? hk
      have hx := kx wa q hq
      obtain ⟨j, v, e, hj, hv⟩ := wa.ks q hq
      have hkl := (List.getElem?_eq_some_iff.mp hk).1
      have hno : ((ta.take k).any fun q => decide (unKey q.1 = some (Sum.inl (j : Int) : Key))) = false := by
        rw [Bool.eq_false_iff]
        intro z
        obtain ⟨q2, hq2, e2⟩ := List.any_eq_true.mp z
        have e2 := of_decide_eq_true e2
        have nd := wa.nd
        have sp : ta = ta.take k ++ q :: ta.drop (k + 1) := by
          have := List.take_append_drop k ta
          rw [drop_cons hk] at this
          exact this.symm
        rw [sp, List.map_append, List.nodup_append] at nd
        exact nd.2.2 q2.1 (List.mem_map.mpr ⟨q2, hq2, rfl⟩) q.1 (by simp) (by rw [unKey_inv e2, e]; rfl)
      have hold := w.lk hj
      have hr : nwAt n ra rb (ta.take k) j = rb j := by unfold nwAt; rw [hno]; rfl
      rw [hr] at hold
      have hlen := w.len
      -- what is put
      obtain ⟨o, ho1, ho2⟩ : ∃ o : Int, (lkK kvs (.inl (j : Int))).getD (.int (-1)) = .int o ∧ some (max (v : Int) o).toNat = nwT (rb j) (ra j) ∧ 0 ≤ max (v : Int) o := by
        rw [hold, hv]
        cases e1 : rb j with
        | none => exact ⟨-1, rfl, by simp [nwT]; omega, by omega⟩
        | some x =>
          refine ⟨x, rfl, ?_, by omega⟩
          unfold nwT
          simp only
          split <;> (congr 1; omega)
      have w2 := w.put hj (max (v : Int) o).toNat
      have e5 : (((max (v : Int) o).toNat : Nat) : Int) = max (v : Int) o := by omega
      rw [e5] at w2
      refine ⟨_, rfl, ?_⟩
      have st : w_law_told_1 (E (some (.od none false kvs)) (some (.sh q.1))) = some (.nx, E (some (.od none false (putD kvs (.inl (j : Int)) (.int (max (v : Int) o))))) (some (.sh q.1))) := by
        subst e
        have g1 : oget2M 3 (vr 4) (bin subD (cst (.int 0)) (cst (.int 1))) (E (some (.od none false kvs)) (iS j)) = some (.int o, E (some (.od none false kvs)) (iS j)) := by
          have g0 : (bin subD (cst (.int 0)) (cst (.int 1))) (E (some (.od none false kvs)) (iS j)) = some (.int (-1), E (some (.od none false kvs)) (iS j)) := by simp
          unfold oget2M
          rw [show (E (some (.od none false kvs)) (iS j))[3]? = some (some (.od none false kvs)) from rfl]
          simp only
          rw [show vr 4 (E (some (.od none false kvs)) (iS j)) = some (.int (j : Int), E (some (.od none false kvs)) (iS j)) from rfl]
          simp only [unKey_int, g0]
          rw [ho1]
        have g2 : liftA maxE (consA (frzM (lstM (consA (bin ixE (bin ixE (vr 0) (vr 1)) (vr 4)) (consA (oget2M 3 (vr 4) (bin subD (cst (.int 0)) (cst (.int 1)))) nilA)))) nilA) (E (some (.od none false kvs)) (iS j)) = some (.int (max (v : Int) o), E (some (.od none false kvs)) (iS j)) := by
          have g3 : bin ixE (bin ixE (vr 0) (vr 1)) (vr 4) (E (some (.od none false kvs)) (iS j)) = some (.int (v : Int), E (some (.od none false kvs)) (iS j)) := by
            simp only [E]
            simp at hx
            simp [xa, hx]
          have g4 : consA (bin ixE (bin ixE (vr 0) (vr 1)) (vr 4)) (consA (oget2M 3 (vr 4) (bin subD (cst (.int 0)) (cst (.int 1)))) nilA) (E (some (.od none false kvs)) (iS j)) = some ([.int (v : Int), .int o], E (some (.od none false kvs)) (iS j)) := by
            rw [ev_consA, g3]
            simp only [Option.bind_some]
            rw [ev_consA, g1]
            rfl
          rw [ev_liftA, ev_consA, ev_frzM, ev_lstM, g4]
          simp [max_two]
        unfold w_law_told_1 putDS
        rw [g2]
        simp only
        rw [show (E (some (.od none false kvs)) (iS j))[3]? = some (some (.od none false kvs)) from rfl]
        simp only
        rw [show vr 4 (E (some (.od none false kvs)) (iS j)) = some (.int (j : Int), E (some (.od none false kvs)) (iS j)) from rfl]
        simp only [unKey_int]
        rw [if_pos (show kvs.length < 16777216 by omega)]
        rfl
      refine ⟨_, _, st, _, _, rfl, w2.congr fun i hi => ?_⟩
      have tk : ta.take (k + 1) = ta.take k ++ [q] := by rw [List.take_succ, hk]; rfl
      by_cases e6 : i = j
      · subst e6
        have : nwAt n ra rb (ta.take (k + 1)) i = nwT (rb i) (ra i) := by
          unfold nwAt
          rw [tk, List.any_append, e]
          simp
        rw [this, if_pos rfl]
        exact ho2.1
      · rw [if_neg e6]
        unfold nwAt
        rw [tk, List.any_append, e]
        have : ([(Dat.int (j : Int), Dat.int (v : Int))].any fun q => decide (unKey q.1 = some (Sum.inl (i : Int) : Key))) = false := by simp; omega
        rw [this, Bool.or_false]
    · refine w.congr fun j hj => ?_
      rw [List.take_length]
      unfold nwAt
      split
      · rfl
      · rename_i h
        cases e1 : ra j with
        | none => cases rb j <;> rfl
        | some v =>
          exfalso
          exact h (List.any_eq_true.mpr ⟨_, wa.al j v hj e1, decide_eq_true rfl⟩)
  obtain ⟨fl, ρ, e1, rfl, kvs, y4, e2, w⟩ := lp
  subst e2
  refine ⟨kvs, def_rt rfl ?_, w⟩
  unfold b_law_told
  refine Ends.seq s1 (Ends.seq e1 ?_)
  unfold t_law_told_3
  simp [E, vrO]
end DL

set_option Elab.async false
set_option linter.all false
set_option maxRecDepth 100000
set_option maxHeartbeats 1000000
namespace DL
open PySem L2

/-! ### the law's own days: held, passed -/
def difs (ks : List (List (Dat × Dat))) : List Dat := ks.map .dif
structure MatD (n : Nat) (K : Know) (ks : List (List (Dat × Dat))) : Prop where
  ln : ks.length = n
  rw : ∀ i, i < n → RowD n (K i) (ks.getD i [])
section
variable {n : Nat} {K : Know} {ks : List (List (Dat × Dat))}
theorem MatD.at (h : MatD n K ks) {i : Nat} (hi : i < n) : (difs ks)[i]? = some (.dif (ks.getD i [])) := by
  unfold difs
  rw [List.getElem?_map, List.getD_eq_getElem?_getD, List.getElem?_eq_getElem (by rw [h.ln]; exact hi)]
  rfl
theorem MatD.ix (h : MatD n K ks) {i : Nat} (hi : i < n) : ixE (.lst (difs ks)) (.int (i : Int)) = some (.dif (ks.getD i [])) := by rw [ixE_lst]; exact atI_nat (h.at hi)
theorem nwT_again (a b : Option Nat) : nwT a (nwT b a) = nwT a b := by
  cases a with
  | none => cases b <;> rfl
  | some x =>
    cases b with
    | none => simp [nwT]
    | some y =>
      unfold nwT
      by_cases h : y < x
      · by_cases h2 : x < y
        · omega
        · simp [h, h2]
      · by_cases h2 : x < y <;> simp [h, h2]
theorem eq_word (m : Mt) : eqD (.str m.word) (.str "meet") = some (.bl (!m.tell)) := by
  rw [eqD_str (strOk_word m) (by decide +kernel)]
  congr 2
  unfold Mt.word
  cases m.tell <;> decide +kernel
theorem held_ok (h : MatD n K ks) (hn : n ≤ 1000) {m : Mt} (h1 : m.one < n) (h2 : m.other < n) (hne : m.one ≠ m.other) :
    ∃ ks', f_law_held [.sh (.lst (difs ks)), .sh (enM m)] = some (.ol none (difs ks'), [none, none]) ∧ MatD n (meetK K m) ks' := by
  obtain ⟨t1, e1, w1⟩ := told_ok (h.at h2) (h.at h1) (h.rw _ h2) (h.rw _ h1) hn
  obtain ⟨t2, e2, w2⟩ := told_ok (h.at h1) (h.at h2) (h.rw _ h1) (h.rw _ h2) hn
  obtain ⟨f1, hf1, wf1⟩ : ∃ f1, (if m.tell then ks.getD m.one [] else t1) = f1 ∧ RowD n (meetK K m m.one) f1 := by
    refine ⟨_, rfl, ?_⟩
    unfold meetK
    cases ht : m.tell with
    | true =>
      simp only [if_true]
      refine (h.rw _ h1).congr fun j _ => ?_
      unfold hear
      rw [if_neg hne]
    | false =>
      simp only [Bool.false_eq_true, if_false]
      refine w1.congr fun j _ => ?_
      unfold hear
      simp only [if_true, hne, if_false]
      rw [nwT_again]
  have wf2 : RowD n (meetK K m m.other) t2 := by
    refine w2.congr fun j _ => ?_
    unfold meetK
    cases ht : m.tell with
    | true => simp [hear]
    | false => simp [hear, Ne.symm hne]
  have wf3 : ∀ i, i ≠ m.one → i ≠ m.other → meetK K m i = K i := fun i g1 g2 => by
    funext j
    unfold meetK
    cases ht : m.tell with
    | true => simp [hear, g2]
    | false => simp [hear, g1, g2]
  let rs : List (List (Dat × Dat)) := (List.range n).map fun i => if i = m.one then f1 else if i = m.other then t2 else ks.getD i []
  refine ⟨rs, def_rt rfl ?_, by simp [rs], fun i hi => ?_⟩
  · let E (y6 y7 y8 : Option Sl) : Env := [some (.sh (.lst (difs ks))), some (.sh (enM m)), some (.sh (.str m.word)), iS m.one, iS m.other, iS m.tick, y6, y7, y8]
    have hlen : lenD [.lst (difs ks)] = some (.int (n : Int)) := by simp [lenD, difs, h.ln]
    have x1 := h.ix h1
    have c : c_law_held_0 (E (some (.sh (.dif f1))) (some (.sh (.dif t2))) none) = some (.ol none (difs rs), E (some (.sh (.dif f1))) (some (.sh (.dif t2))) none) := by
      unfold c_law_held_0
      have e : difs rs = (List.range n).map fun i => if i = m.one then Dat.dif f1 else if i = m.other then .dif t2 else .dif (ks.getD i []) := by
        unfold difs
        rw [List.map_map]
        refine List.map_congr_left fun i _ => ?_
        simp only [Function.comp]
        by_cases g1 : i = m.one
        · simp [g1]
        · by_cases g2 : i = m.other
          · simp [g2, Ne.symm hne]
          · simp [g1, g2]
      rw [e]
      refine lcGy (enc := fun i : Nat => Dat.int (i : Int)) (xs := List.range n) (fun i => E (some (.sh (.dif f1))) (some (.sh (.dif t2))) (iS i)) ?_ rfl (fun _ _ => rfl) (fun _ _ => rfl) (fun _ _ => rfl) (fun i hi => ?_)
      · have := itR1_nat (n := n) (by omega)
        simp only [E]
        simp [hlen, this]
      · have hi := List.mem_range.mp hi
        have x3 := h.ix hi
        simp only [E]
        by_cases g1 : i = m.one
        · subst g1; simp
        · have g1' : ((i : Int) == (m.one : Int)) = false := by simp; omega
          by_cases g2 : i = m.other
          · subst g2; simp [g1, g1']
          · have g2' : ((i : Int) == (m.other : Int)) = false := by simp; omega
            simp [g1, g1', g2, g2', x3]
    have hw := eq_word m
    have s1 : asgT (gtp (gcns (gnm 2) (gcns (gnm 3) (gcns (gnm 4) (gcns (gnm 5) gnil))))) (vr 1) [some (.sh (.lst (difs ks))), some (.sh (enM m)), none, none, none, none, none, none, none] = some (.nx, E none none none) := by
      simp [enM, asgT, gtp, gcns, gnm, gnil, E]
    have s2 : asg 6 (shM (ifM (tst (bin eqD (vr 2) (cst (.str "meet")))) (frzM (callP f_law_told (consA (vr 0) (consA (vr 4) (consA (vr 3) nilA))))) (bin ixE (vr 0) (vr 3)))) (E none none none) = some (.nx, E (some (.sh (.dif f1))) none none) := by
      simp only [E]
      cases ht : m.tell with
      | true =>
        rw [ht] at hf1 hw
        simp only [if_true] at hf1
        rw [hf1] at x1
        simp [hw, x1]
      | false =>
        rw [ht] at hf1 hw
        simp only [Bool.false_eq_true, if_false] at hf1
        rw [hf1] at e1
        simp [hw, e1]
    have s3 : asg 7 (shM (frzM (callP f_law_told (consA (vr 0) (consA (vr 3) (consA (vr 4) nilA)))))) (E (some (.sh (.dif f1))) none none) = some (.nx, E (some (.sh (.dif f1))) (some (.sh (.dif t2))) none) := by
      simp only [E]
      simp [e2]
    unfold b_law_held
    refine Ends.seq s1 (Ends.seq s2 (Ends.seq s3 ?_))
    simp [c, E]
  · have : rs.getD i [] = if i = m.one then f1 else if i = m.other then t2 else ks.getD i [] := by simp [rs, List.getD_eq_getElem?_getD, hi]
    rw [this]
    by_cases g1 : i = m.one
    · rw [if_pos g1, g1]; exact wf1
    · rw [if_neg g1]
      by_cases g2 : i = m.other
      · rw [if_pos g2, g2]; exact wf2
      · rw [if_neg g2, wf3 i g1 g2]; exact h.rw i hi
/-! a tick -/
theorem passed_ok {p : Pln} (hp : ∀ m ∈ p.mts, m.one < p.names.length ∧ m.other < p.names.length ∧ m.one ≠ m.other) (hs : 1 ≤ p.size) (hn : p.names.length ≤ 1000) {t : Nat} (h : MatD p.names.length (KN p t) ks) :
    ∃ ks', f_law_passed [.sh (enPl p), .sh (.lst (difs ks)), .sh (.int (t : Int))] = some (.sh (.lst (difs ks')), [none, none, none]) ∧ MatD p.names.length (KN p (t + 1)) ks' := by
  generalize hN : p.names.length = n at hp h hn ⊢
  let E (ks : List (List (Dat × Dat))) (y3 y4 : Option Sl) : Env := [some (.sh (enPl p)), some (.sh (.lst (difs ks))), iS t, y3, y4]
  have hlen : lenD [.lst (difs ks)] = some (.int (n : Int)) := by simp [lenD, difs, h.ln]
  -- what is so in this tick
  have one : ∀ i, i < n → ∃ kvs, f_law_told [.sh (.lst [.dif (ks.getD i []), .dif [(.int (i : Int), .int (t : Int))]]), .sh (.int 1), .sh (.int 0)] = some (.sh (.dif kvs), [none, none, none]) ∧ RowD n (knowAt (KN p t) t i) kvs := fun i hi => by
    obtain ⟨kvs, e, w⟩ := told_ok (n := n) (ds := [.dif (ks.getD i []), .dif [(.int (i : Int), .int (t : Int))]]) (a := 1) (b := 0) rfl rfl (rowD_one hi) (h.rw i hi) hn
    refine ⟨kvs, e, w.congr fun j hj => ?_⟩
    unfold knowAt
    by_cases e : j = i
    · rw [if_pos e, if_pos e]
      cases e2 : KN p t i j with
      | none => rfl
      | some x =>
        have := KN_lt t i j x e2
        simp [nwT, this]
    · rw [if_neg e, if_neg e]
      cases KN p t i j <;> rfl
  obtain ⟨f, hf⟩ : ∃ f : Nat → List (Dat × Dat), ∀ i, i < n → f_law_told [.sh (.lst [.dif (ks.getD i []), .dif [(.int (i : Int), .int (t : Int))]]), .sh (.int 1), .sh (.int 0)] = some (.sh (.dif (f i)), [none, none, none]) ∧ RowD n (knowAt (KN p t) t i) (f i) :=
    ⟨fun i => if hi : i < n then Classical.choose (one i hi) else [], fun i hi => by simp only [dif_pos hi]; exact Classical.choose_spec (one i hi)⟩
  let k0 : List (List (Dat × Dat)) := (List.range n).map f
  have hk0 : MatD n (knowAt (KN p t) t) k0 := ⟨by simp [k0], fun i hi => by
    have : k0.getD i [] = f i := by simp [k0, List.getD_eq_getElem?_getD, hi]
    rw [this]
    exact (hf i hi).2⟩
  have c : c_law_passed_0 (E ks none none) = some (.ol none (difs k0), E ks none none) := by
    unfold c_law_passed_0
    have e : difs k0 = (List.range n).map fun i => Dat.dif (f i) := by
      unfold difs
      rw [List.map_map]
      rfl
    rw [e]
    refine lcGy (enc := fun i : Nat => Dat.int (i : Int)) (xs := List.range n) (fun i => E ks (iS i) none) ?_ rfl (fun _ _ => rfl) (fun _ _ => rfl) (fun _ _ => rfl) (fun i hi => ?_)
    · have := itR1_nat (n := n) (by omega)
      simp only [E]
      simp [hlen, this]
    · have hi := List.mem_range.mp hi
      have x3 := h.ix hi
      have x4 := (hf i hi).1
      have hd : lokM (dspM1 (vr 3) (vr 2)) (E ks (iS i) none) = some (.dif [(.int (i : Int), .int (t : Int))], E ks (iS i) none) := by
        simp [dspM1, keyD, E]
      have hx : bin ixE (vr 1) (vr 3) (E ks (iS i) none) = some (.dif (ks.getD i []), E ks (iS i) none) := bin_at rfl rfl x3
      rw [ev_frzM, ev_callP, consA_at (lstM_at (consA_at hx (consA_at hd rfl)) (by simp)) (consA_at rfl (consA_at rfl rfl))]
      simp only [Option.bind_some, List.map_cons, List.map_nil]
      rw [x4]
      rfl
  have x0 : ixE (enPl p) (.int 0) = some (.int p.size) := rfl
  have x2 : ixE (enPl p) (.int 2) = some (.lst (p.mts.map enM)) := rfl
  have lp : Ends (l_law_passed_2 (E k0 none none)) fun fl ρ => fl = .nx ∧ ∃ k1 y4, ρ = E k1 none y4 ∧ MatD n (KN p (t + 1)) k1 := by
    unfold l_law_passed_2
    refine Ends.for (enc := enM) (xs := p.mts) (ρ1 := E k0 none none) (fun k ρ => ∃ k1 y4, ρ = E k1 none y4 ∧ MatD n (((p.mts.take k).filter fun m => decide (m.tick = t % p.size)).foldl meetK (knowAt (KN p t) t)) k1) ?_ ⟨k0, none, rfl, by simpa using hk0⟩ (fun k m ρ hk ⟨k1, y4, e, w⟩ => ?_) (fun ρ ⟨k1, y4, e, w⟩ => ⟨rfl, k1, y4, e, ?_⟩)
    · simp only [E]
      simp [x2]
    · subst e
      have hm := List.mem_of_getElem? hk
      obtain ⟨m1, m2, m3⟩ := hp m hm
      obtain ⟨k2, e2, w2⟩ := held_ok w hn m1 m2 m3
      have tk : p.mts.take (k + 1) = p.mts.take k ++ [m] := by rw [List.take_succ, hk]; rfl
      have hmod := modD_int (t : Int) (p.size : Int) (by omega)
      have hx3 : ixE (enM m) (.int 3) = some (.int m.tick) := rfl
      have x0' := x0
      refine ⟨_, rfl, ?_⟩
      unfold w_law_passed_1
      by_cases ht : m.tick = t % p.size
      · have hb : ((m.tick : Int) == (t : Int) % (p.size : Int)) = true := by rw [ht]; simp
        refine ⟨.nx, E k2 none (some (.sh (enM m))), ?_, ⟨k2, _, rfl, ?_⟩⟩
        · simp only [E]
          simp only [difs] at e2 ⊢
          generalize enPl p = PL at x0' ⊢
          generalize enM m = MM at hx3 e2 ⊢
          simp [x0', hx3, hmod, hb, e2]
        · rw [tk, List.filter_append, List.foldl_append]
          simp only [List.filter_cons, ht, decide_true, if_true, List.filter_nil, List.foldl_cons, List.foldl_nil]
          exact w2
      · have hb : ((m.tick : Int) == (t : Int) % (p.size : Int)) = false := by
          rw [Bool.eq_false_iff]
          intro z
          have z := eq_of_beq z
          rw [← Int.natCast_emod] at z
          omega
        refine ⟨.nx, E k1 none (some (.sh (enM m))), ?_, ⟨k1, _, rfl, ?_⟩⟩
        · simp only [E]
          generalize enPl p = PL at x0' ⊢
          generalize enM m = MM at hx3 ⊢
          simp [x0', hx3, hmod, hb]
        · rw [tk, List.filter_append]
          simp only [List.filter_cons, ht, decide_false, Bool.false_eq_true, if_false, List.filter_nil, List.append_nil]
          exact w
    · rw [List.take_length] at w
      exact w
  obtain ⟨fl, ρ, e1, rfl, k1, y4, e2, w⟩ := lp
  subst e2
  refine ⟨k1, def_rt rfl ?_, w⟩
  have s1 : asg 1 (shM (frzM c_law_passed_0)) (E ks none none) = some (.nx, E k0 none none) := by
    rw [ev_asg, ev_shM, ev_frzM, c]
    rfl
  unfold b_law_passed
  refine Ends.seq s1 (Ends.seq e1 ?_)
  unfold t_law_passed_3
  simp [E]
end
end DL

set_option Elab.async false
set_option linter.all false
set_option maxRecDepth 100000
set_option maxHeartbeats 1000000
namespace DL
open PySem L2

/-! ### the law's own days -/
theorem inE_dif {kvs : List (Dat × Dat)} {k : Nat} : inE (.int (k : Int)) (.dif kvs) = some (.bl (lkK kvs (.inl (k : Int))).isSome) := rfl
theorem ixE_difk {kvs : List (Dat × Dat)} {k : Nat} {v : Dat} (h : lkK kvs (.inl (k : Int)) = some v) : ixE (.dif kvs) (.int (k : Int)) = some v := ixE_dif (k := .inl (k : Int)) h
/-- what is asked of a plan of the law -/
structure LWf (p : Pln) : Prop where
  mi : ∀ m ∈ p.mts, m.one < p.names.length ∧ m.other < p.names.length ∧ m.one ≠ m.other
  s1 : 1 ≤ p.size
  n9 : p.names.length ≤ 900
section
variable {p : Pln}
def dyE (p : Pln) (T : Nat) (y2 y3 y4 y5 y6 y7 : Option Sl) : Env := [some (.sh (enPl p)), iS T, y2, y3, y4, y5, y6, y7]
theorem day_ok (w : LWf p) {T t : Nat} {y3 y4 : Option Sl} {ks : List (List (Dat × Dat))} (h : MatD p.names.length (KN p (t + 1)) ks) :
    c_law_days_2 (dyE p T (some (.sh (.lst (difs ks)))) y3 y4 (iS t) none none) = some (.ol none ((List.range p.names.length).map fun i => enRow p.names.length (AG p t i)), dyE p T (some (.sh (.lst (difs ks)))) y3 y4 (iS t) none none) := by
  have hn := w.n9
  generalize hN : p.names.length = n at h hn ⊢
  have hlen : lenD [.lst (difs ks)] = some (.int (n : Int)) := by simp [lenD, difs, h.ln]
  have hr := itR1_nat (n := n) (by omega)
  have e0 : difs ks = (List.range n).map fun i => Dat.dif (ks.getD i []) := by
    unfold difs
    refine List.ext_getElem (by simp [h.ln]) fun k h1 h2 => ?_
    have h1 : k < ks.length := by simpa using h1
    simp [List.getD_eq_getElem?_getD, h1]
  unfold c_law_days_2
  generalize hPL : enPl p = PL
  unfold dyE
  rw [hPL]
  refine lcGy (enc := fun i : Nat => .dif (ks.getD i [])) (xs := List.range n) (fun i => [some (.sh PL), iS T, some (.sh (.lst (difs ks))), y3, y4, iS t, none, some (.sh (.dif (ks.getD i [])))]) ?_ rfl (fun _ _ => rfl) (fun _ _ => rfl) (fun _ _ => rfl) (fun i hi => ?_)
  · simp [e0]
  · have hi := List.mem_range.mp hi
    have w1 := h.rw i hi
    have c1 : c_law_days_1 [some (.sh PL), iS T, some (.sh (.lst (difs ks))), y3, y4, iS t, none, some (.sh (.dif (ks.getD i [])))] = some (.ol none ((List.range n).map fun j => enO (AG p t i j)), [some (.sh PL), iS T, some (.sh (.lst (difs ks))), y3, y4, iS t, none, some (.sh (.dif (ks.getD i [])))]) := by
      unfold c_law_days_1
      refine lcGy (enc := fun j : Nat => Dat.int (j : Int)) (xs := List.range n) (fun j => [some (.sh PL), iS T, some (.sh (.lst (difs ks))), y3, y4, iS t, iS j, some (.sh (.dif (ks.getD i [])))]) ?_ rfl (fun _ _ => rfl) (fun _ _ => rfl) (fun _ _ => rfl) (fun j hj => ?_)
      · simp [hlen, hr]
      · have hj := List.mem_range.mp hj
        have lk := w1.lk hj
        generalize ks.getD i [] = kv at lk ⊢
        unfold AG
        cases e : KN p (t + 1) i j with
        | none =>
          rw [e] at lk
          simp [inE_dif, lk]
        | some v =>
          rw [e] at lk
          have hv := KN_lt _ _ _ _ e
          have e2 : (t : Int) - (v : Int) = ((t - v : Nat) : Int) := by omega
          simp [inE_dif, lk, ixE_difk lk, e2]
    rw [ev_frzM, c1]
    rfl
theorem days_ok (w : LWf p) {T : Nat} (hT : T ≤ 1000000) : f_law_days [.sh (enPl p), .sh (.int (T : Int))] = some (.ol none ((List.range T).map fun t => enMat p.names.length (AG p t)), [none, none]) := by
  let n := p.names.length
  have x1 : ixE (enPl p) (.int 1) = some (.tuf (enNs p.names)) := rfl
  let k0 : List (List (Dat × Dat)) := p.names.map fun _ => []
  have hk0 : MatD p.names.length (KN p 0) k0 := ⟨by simp [k0], fun i hi => by
    have : k0.getD i [] = [] := by simp [k0, List.getD_eq_getElem?_getD, hi]
    rw [this]
    exact rowD_nil⟩
  have c0 : c_law_days_0 (dyE p T none none none none none none) = some (.ol none (difs k0), dyE p T none none none none none none) := by
    unfold c_law_days_0
    have e : difs k0 = p.names.map fun _ => Dat.dif [] := by simp [difs, k0]
    rw [e]
    refine lcGy (enc := Dat.str) (xs := p.names) (fun s => dyE p T none none (some (.sh (.str s))) none none none) ?_ rfl (fun _ _ => rfl) (fun _ _ => rfl) (fun _ _ => rfl) (fun s _ => ?_)
    · simp only [dyE]
      generalize enPl p = PL at x1 ⊢
      simp [x1]
    · simp [dspM0]
  have lp : Ends (l_law_days_4 (dyE p T (some (.sh (.lst (difs k0)))) (some (.ol none [])) none none none none)) fun fl ρ => fl = .nx ∧ ∃ y2 y5, ρ = dyE p T y2 (some (.ol none ((List.range T).map fun t => enMat p.names.length (AG p t)))) none y5 none none := by
    unfold l_law_days_4
    refine Ends.for (enc := fun k : Nat => Dat.int (k : Int)) (xs := List.range T) (ρ1 := dyE p T (some (.sh (.lst (difs k0)))) (some (.ol none [])) none none none none)
      (fun k ρ => ∃ ks y5, ρ = dyE p T (some (.sh (.lst (difs ks)))) (some (.ol none ((List.range k).map fun t => enMat p.names.length (AG p t)))) none y5 none none ∧ MatD p.names.length (KN p k) ks) ?_ ⟨k0, none, rfl, hk0⟩ (fun k t ρ hk ⟨ks, y5, e, m⟩ => ?_) (fun ρ ⟨ks, y5, e, m⟩ => ⟨rfl, _, y5, by rw [List.length_range] at e; exact e⟩)
    · have := itR1_nat (n := T) (by omega)
      simp only [dyE]
      generalize enPl p = PL
      simp [this]
    · subst e
      obtain ⟨h1, h2⟩ := List.getElem?_eq_some_iff.mp hk
      simp at h1 h2
      subst h2
      have hn9 := w.n9
      obtain ⟨ks', e1, m'⟩ := passed_ok w.mi w.s1 (by omega) m
      have d := day_ok w (T := T) (y3 := some (.ol none ((List.range k).map fun t => enMat p.names.length (AG p t)))) (y4 := none) m'
      refine ⟨_, rfl, ?_⟩
      have ap : appG ((List.range k).map fun t => enMat p.names.length (AG p t)) [enMat p.names.length (AG p k)] = some ((List.range (k + 1)).map fun t => enMat p.names.length (AG p t), .non) := by
        unfold appG
        simp only
        rw [if_pos (by simp; omega)]
        simp [List.range_succ]
      unfold w_law_days_3
      refine Ends.seq (ρ1 := dyE p T (some (.sh (.lst (difs ks')))) (some (.ol none ((List.range k).map fun t => enMat p.names.length (AG p t)))) none (iS k) none none) ?_ ?_
      · simp only [dyE]
        generalize enPl p = PL at e1 ⊢
        simp [e1]
      · refine ⟨.nx, dyE p T (some (.sh (.lst (difs ks')))) (some (.ol none ((List.range (k + 1)).map fun t => enMat p.names.length (AG p t)))) none (iS k) none none, ?_, ks', _, rfl, m'⟩
        have d2 : consA (frzM c_law_days_2) nilA (dyE p T (some (.sh (.lst (difs ks')))) (some (.ol none ((List.range k).map fun t => enMat p.names.length (AG p t)))) none (iS k) none none) = some ([enMat p.names.length (AG p k)], dyE p T (some (.sh (.lst (difs ks')))) (some (.ol none ((List.range k).map fun t => enMat p.names.length (AG p t)))) none (iS k) none none) := by
          refine consA_at ?_ rfl
          rw [ev_frzM, d]
          rfl
        rw [ev_dropS, ev_shM, ev_mutM, d2]
        simp only [dyE] at *
        generalize enPl p = PL
        generalize ((List.range k).map fun t => enMat p.names.length (AG p t)) = L at ap ⊢
        simp [ap]
  obtain ⟨fl, ρ, e1, rfl, y2, y5, e2⟩ := lp
  subst e2
  refine def_rt rfl ?_
  unfold b_law_days
  refine Ends.seq (ρ1 := dyE p T (some (.sh (.lst (difs k0)))) (some (.ol none [])) none none none none) ?_ (Ends.seq e1 ?_)
  · have c0' := c0
    simp only [dyE] at c0' ⊢
    generalize enPl p = PL at c0' ⊢
    simp [parT, c0', setAll]
  · unfold t_law_days_5
    simp only [dyE]
    generalize enPl p = PL
    simp [vrO]
end
end DL

set_option Elab.async false
set_option linter.all false
set_option maxRecDepth 100000
set_option maxHeartbeats 1000000
namespace DL
open PySem L2

/-! ### the law's own greatest age -/
section
variable {p : Pln}
theorem enough_ok (h9 : p.names.length ≤ 900) (hs : p.size ≤ 1000) : f_law_enough [.sh (enPl p)] = some (.sh (.int ((p.size * (p.names.length + 1) : Nat) : Int)), [none]) := by
  have x0 : ixE (enPl p) (.int 0) = some (.int p.size) := rfl
  have x1 : ixE (enPl p) (.int 1) = some (.tuf (enNs p.names)) := rfl
  have l1 : lenD [.tuf (enNs p.names)] = some (.int (p.names.length : Int)) := by simp [lenD, enNs]
  have m := mulE_int (p.size : Int) ((p.names.length : Int) + 1) (by omega)
  have e : (p.size : Int) * ((p.names.length : Int) + 1) = ((p.size * (p.names.length + 1) : Nat) : Int) := by push_cast; rfl
  rw [e] at m
  refine def_rt rfl ?_
  unfold b_law_enough
  generalize enPl p = PL at *
  generalize enNs p.names = N at *
  generalize p.size * (p.names.length + 1) = Z at *
  simp [x0, x1, l1, m]
theorem all_ok (w : LWf p) (hs : p.size ≤ 1000) : f_law_all [.sh (enPl p)] = some (.ol none ((List.range (p.size * (p.names.length + 1) + p.size)).map fun t => enMat p.names.length (AG p t)), [none]) := by
  have x0 : ixE (enPl p) (.int 0) = some (.int p.size) := rfl
  have h9 := w.n9
  have e1 := enough_ok h9 hs
  have hb : p.size * (p.names.length + 1) ≤ 1000 * 901 := Nat.mul_le_mul hs (by omega)
  have d := days_ok w (T := p.size * (p.names.length + 1) + p.size) (by omega)
  refine def_rt rfl ?_
  unfold b_law_all
  generalize ((List.range (p.size * (p.names.length + 1) + p.size)).map fun t => enMat p.names.length (AG p t)) = L at *
  have e : ((p.size * (p.names.length + 1) : Nat) : Int) + (p.size : Int) = ((p.size * (p.names.length + 1) + p.size : Nat) : Int) := by push_cast; rfl
  rw [← e] at d
  generalize ((p.size * (p.names.length + 1) : Nat) : Int) = Z at *
  generalize enPl p = PL at *
  simp [x0, e1, d]
def farK (p : Pln) : List Know := (List.range p.size).map fun k => AG p (p.size * (p.names.length + 1) + k)
theorem ev_congr {n : Nat} {Ks Ls : List Know} (hl : Ks.length = Ls.length) (h : ∀ k i j, i < n → j < n → k < Ks.length → (Ks.getD k (fun _ _ => none)) i j = (Ls.getD k (fun _ _ => none)) i j) : evL n Ks = evL n Ls := by
  induction Ks generalizing Ls with
  | nil => cases Ls with
    | nil => rfl
    | cons L Ls => simp at hl
  | cons K Ks ih => cases Ls with
    | nil => simp at hl
    | cons L Ls =>
      have e1 : ((List.range n).flatMap fun i => (List.range n).map fun j => K i j) = (List.range n).flatMap fun i => (List.range n).map fun j => L i j := by
        rw [List.flatMap_def, List.flatMap_def]
        congr 1
        refine List.map_congr_left fun i hi => ?_
        refine List.map_congr_left fun j hj => ?_
        have := h 0 i j (List.mem_range.mp hi) (List.mem_range.mp hj) (by simp)
        simpa using this
      have e2 := ih (Ls := Ls) (by simpa using hl) fun k i j hi hj hk => by
        have := h (k + 1) i j hi hj (by simpa using hk)
        simpa using this
      unfold evL at e2 ⊢
      rw [List.flatMap_cons, List.flatMap_cons, e1, e2]
theorem far_las (hp : MtsIn p p.names.length) (hs : 1 ≤ p.size) : evL p.names.length (farK p) = evL p.names.length (lasK p) := by
  refine ev_congr (by simp [farK, lasK]) fun k i j hi hj hk => ?_
  have hk : k < p.size := by simpa [farK] using hk
  have e1 : (farK p).getD k (fun _ _ => none) = AG p (p.size * (p.names.length + 1) + k) := by simp [farK, List.getD_eq_getElem?_getD, hk]
  have e2 : (lasK p).getD k (fun _ _ => none) = AG p (p.size * p.names.length + k) := by simp [lasK, List.getD_eq_getElem?_getD, hk]
  rw [e1, e2]
  have e3 : p.size * (p.names.length + 1) + k = p.size * p.names.length + k + p.size := by rw [Nat.mul_succ]; omega
  rw [e3]
  exact AG_round hp hj hs (by rw [Nat.mul_comm]; omega)
theorem lgreatest_ok (w : LWf p) (hs : p.size ≤ 1000) (hn : 1 ≤ p.names.length) (h9 : p.names.length ≤ 100) : f_law_greatest [.sh (enPl p)] = some (.sh (enO (greP p)), [none]) := by
  have hmi : MtsIn p p.names.length := fun m hm => ⟨(w.mi m hm).1, (w.mi m hm).2.1⟩
  let E (y1 : List Dat) (y2 y3 : Option Sl) : Env := [some (.sh (enPl p)), some (.sh (.lst y1)), y2, y3]
  have a1 := all_ok w hs
  have e1 := enough_ok w.n9 hs
  have hb : p.size * (p.names.length + 1) ≤ 1000 * 101 := Nat.mul_le_mul hs (by omega)
  have len : ∀ Ks : List Know, (evL p.names.length Ks).length = Ks.length * (p.names.length * p.names.length) := fun Ks => by
    unfold evL
    simp [List.length_flatMap, Function.comp_def, List.map_const', List.sum_replicate_nat]
  have lb : ∀ Ks : List Know, Ks.length ≤ 1000 → Ks.length * (p.names.length * p.names.length) ≤ 1000 * (100 * 100) := fun Ks hk => Nat.mul_le_mul hk (Nat.mul_le_mul h9 h9)
  have cutE : slD (.lst ((List.range (p.size * (p.names.length + 1) + p.size)).map fun t => enMat p.names.length (AG p t))) (some ((p.size * (p.names.length + 1) : Nat) : Int)) none = some (.lst ((farK p).map (enMat p.names.length))) := by
    show some (Dat.lst (cut _ _ _)) = _
    congr 2
    unfold cut
    have e1 : HT.sIx ((List.range (p.size * (p.names.length + 1) + p.size)).map fun t => enMat p.names.length (AG p t)).length 0 (some ((p.size * (p.names.length + 1) : Nat) : Int)) = p.size * (p.names.length + 1) := by
      unfold HT.sIx
      simp only
      rw [if_neg (by omega), Int.toNat_natCast, List.length_map, List.length_range]
      omega
    have e2 : HT.sIx ((List.range (p.size * (p.names.length + 1) + p.size)).map fun t => enMat p.names.length (AG p t)).length ((List.range (p.size * (p.names.length + 1) + p.size)).map fun t => enMat p.names.length (AG p t)).length none = ((List.range (p.size * (p.names.length + 1) + p.size)).map fun t => enMat p.names.length (AG p t)).length := rfl
    rw [e1, e2]
    unfold farK
    refine List.ext_getElem ?_ fun k h1 h2 => ?_
    · simp
    · simp
  have g0 : liftF itE (slM (frzM (callP f_law_all (consA (vr 0) nilA))) (liftF intO (frzM (callP f_law_enough (consA (vr 0) nilA)))) (ret none)) (E [] none none) = some ((farK p).map (enMat p.names.length), E [] none none) := by
    simp only [E]
    generalize ((List.range (p.size * (p.names.length + 1) + p.size)).map fun t => enMat p.names.length (AG p t)) = L at *
    generalize ((p.size * (p.names.length + 1) : Nat) : Int) = Z at *
    generalize enPl p = PL at *
    simp [a1, e1, slM, intO, cutE]
  have lp : Ends (l_law_greatest_3 (E [] none none)) fun fl ρ => fl = .nx ∧ ∃ y2 y3, ρ = E ((evL p.names.length (farK p)).map enO) y2 y3 := by
    unfold l_law_greatest_3
    have hfl : (farK p).length = p.size := by simp [farK]
    refine Ends.for (enc := enMat p.names.length) (xs := farK p) (ρ1 := E [] none none) (fun k ρ => ∃ y2 y3, ρ = E ((evL p.names.length ((farK p).take k)).map enO) y2 y3) g0 ⟨none, none, rfl⟩ (fun k K ρ hk ⟨y2, y3, e⟩ => ?_) (fun ρ ⟨y2, y3, e⟩ => ⟨rfl, y2, y3, by rw [List.take_length] at e; exact e⟩)
    subst e
    refine ⟨_, rfl, ?_⟩
    unfold w_law_greatest_2 l_law_greatest_1
    have hkl := (List.getElem?_eq_some_iff.mp hk).1
    have tk : evL p.names.length ((farK p).take (k + 1)) = evL p.names.length ((farK p).take k) ++ (List.range p.names.length).flatMap fun i => (List.range p.names.length).map fun j => K i j := by
      rw [List.take_succ, hk]
      unfold evL
      simp
    have hbase : (evL p.names.length ((farK p).take k)).length ≤ 1000 * (100 * 100) := by
      rw [len]
      exact lb _ (by rw [List.length_take]; omega)
    refine Ends.for (enc := fun i => enRow p.names.length (K i)) (xs := List.range p.names.length) (ρ1 := E ((evL p.names.length ((farK p).take k)).map enO) (some (.sh (enMat p.names.length K))) y3)
      (fun i ρ => ∃ y3, ρ = E ((evL p.names.length ((farK p).take k)).map enO ++ ((List.range i).flatMap fun i => (List.range p.names.length).map fun j => enO (K i j))) (some (.sh (enMat p.names.length K))) y3) ?_ ⟨y3, by simp⟩ (fun i i2 ρ hi ⟨y3, e⟩ => ?_) (fun ρ ⟨y3, e⟩ => ⟨some (.sh (enMat p.names.length K)), y3, ?_⟩)
    · simp only [E]
      generalize enPl p = PL at *
      simp [enMat]
    · subst e
      obtain ⟨h1, h2⟩ := List.getElem?_eq_some_iff.mp hi
      simp at h1 h2
      subst h2
      refine ⟨_, rfl, ?_⟩
      unfold w_law_greatest_0
      have lrow : ((List.range i).flatMap fun i => (List.range p.names.length).map fun j => enO (K i j)).length = i * p.names.length := by
        simp [List.length_flatMap, Function.comp_def, List.map_const', List.sum_replicate_nat]
      have lr2 : i * p.names.length ≤ 100 * 100 := Nat.mul_le_mul (by omega) h9
      have ad := addD_lst (xs := (evL p.names.length ((farK p).take k)).map enO ++ ((List.range i).flatMap fun i => (List.range p.names.length).map fun j => enO (K i j))) (ys := (List.range p.names.length).map fun j => enO (K i j)) (by
        rw [List.length_append, List.length_map, lrow, List.length_map, List.length_range]
        omega)
      refine ⟨.nx, E ((evL p.names.length ((farK p).take k)).map enO ++ ((List.range (i + 1)).flatMap fun i => (List.range p.names.length).map fun j => enO (K i j))) (some (.sh (enMat p.names.length K))) (some (.sh (enRow p.names.length (K i)))), ?_, _, rfl⟩
      have e9 : (evL p.names.length ((farK p).take k)).map enO ++ ((List.range (i + 1)).flatMap fun i => (List.range p.names.length).map fun j => enO (K i j)) = ((evL p.names.length ((farK p).take k)).map enO ++ ((List.range i).flatMap fun i => (List.range p.names.length).map fun j => enO (K i j))) ++ (List.range p.names.length).map fun j => enO (K i j) := by
        rw [List.range_succ, List.flatMap_append, List.append_assoc]
        simp
      rw [e9]
      simp only [E]
      unfold enRow
      generalize ((List.range p.names.length).map fun j => enO (K i j)) = R2 at *
      generalize ((evL p.names.length ((farK p).take k)).map enO ++ ((List.range i).flatMap fun i => (List.range p.names.length).map fun j => enO (K i j))) = R1 at *
      generalize enPl p = PL at *
      generalize enMat p.names.length K = MK at *
      simp [ad]
    · rw [List.length_range] at e
      have e9 : ((List.range p.names.length).flatMap fun i => (List.range p.names.length).map fun j => K i j).map enO = (List.range p.names.length).flatMap fun i => (List.range p.names.length).map fun j => enO (K i j) := by
        simp [List.map_flatMap, Function.comp_def]
      rw [e, tk, List.map_append, e9]
  obtain ⟨fl, ρ, e2, rfl, y2, y3, e3⟩ := lp
  subst e3
  have hev : evL p.names.length (farK p) = evL p.names.length (lasK p) := far_las hmi w.s1
  have hne : evL p.names.length (farK p) ≠ [] := by
    intro z
    have := congrArg List.length z
    rw [len] at this
    have h0 : (farK p).length = p.size := by simp [farK]
    have h1 := w.s1
    have : 0 < (farK p).length * (p.names.length * p.names.length) := Nat.mul_pos (by omega) (Nat.mul_pos hn hn)
    simp at *
    omega
  have hin : inE .non (.lst ((evL p.names.length (farK p)).map enO)) = some (.bl (decide (none ∈ evL p.names.length (farK p)))) := inD_os _
  refine def_rt rfl ?_
  unfold b_law_greatest
  refine Ends.seq (ρ1 := E [] none none) ?_ (Ends.seq e2 ?_)
  · simp only [E]
    generalize enPl p = PL
    simp
  · unfold greP greL t_law_greatest_4
    rw [← hev]
    simp only [E]
    generalize enPl p = PL
    by_cases h : none ∈ evL p.names.length (farK p)
    · generalize (evL p.names.length (farK p)).map enO = L at hin ⊢
      simp [hin, h]
    · obtain ⟨k, k1, k2⟩ := maxE_os h hne
      generalize (evL p.names.length (farK p)).map enO = L at hin k2 ⊢
      simp [hin, h, k1, k2]
end
end DL

set_option Elab.async false
set_option linter.all false
set_option maxRecDepth 100000
set_option maxHeartbeats 1000000
namespace DL
open PySem L2

section
variable {s : Sl} {d : List Int} {p : Pln} {i j : Nat}
def wE (s : Sl) (d : List Int) (p : Pln) (i j : Nat) (a7 a8 a9 : Option Sl) : Env :=
  [some s, some (.ol none (d.map .int)), iS p.size, some (.sh (.tuf (enNs p.names))), some (.sh (.lst (p.mts.map enM))), iS i, iS j, a7, a8, a9]
theorem lw_of (h : PlOk p) (hi : i < p.names.length) (hj : j < p.names.length) (hij : i ≠ j) (k : Nat) : LWf (addP p (metM i j k)).ord :=
  ⟨fun m hm => by
    have := (List.mem_filter.mp ((ordM_lt p.size (p.mts ++ [metM i j k])).mem_iff.mp hm)).1
    rcases List.mem_append.mp this with h1 | h1
    · have := h.ms m h1
      exact ⟨this.1, this.2.1, this.2.2.1⟩
    · simp at h1; subst h1; exact ⟨hi, hj, hij⟩, h.s1, by show p.names.length ≤ 900; have := h.n8; omega⟩
theorem w0_ok (h : PlOk p) (hi : i < p.names.length) (hj : j < p.names.length) (hij : i ≠ j) {k : Nat} {a9 : Option Sl} :
    Ends (w_law_0 (wE s d p i j (some (.sh (enB (bst (grB p i j) k)))) (iS k) a9)) fun fl ρ => fl = .nx ∧ ∃ y9, ρ = wE s d p i j (some (.sh (enB (bst (grB p i j) (k + 1))))) (iS k) y9 := by
  have h8 := h.n8
  have h2 := h.n2
  have hs2 := h.s2
  have hml := h.ml
  have ho := ordered_ok (p := addP p (metM i j k)) (by show p.size ≤ 1000; omega) (by show (p.mts ++ [metM i j k]).length ≤ 1000; simp; omega)
  have hg := lgreatest_ok (lw_of h hi hj hij k) (by show p.size ≤ 1000; omega) (by show 1 ≤ p.names.length; omega) (by show p.names.length ≤ 100; omega)
  have eP : enPl (addP p (metM i j k)) = .tup [.int p.size, .tuf (enNs p.names), .lst (p.mts.map enM ++ [.tup [.str "meet", .int i, .int j, .int k]])] := by
    unfold enPl addP
    simp [enM, metM, Mt.word]
  rw [eP] at ho
  have ad := addD_lst (xs := p.mts.map enM) (ys := [Dat.tup [.str "meet", .int i, .int j, .int k]]) (by simp; omega)
  have s1 : asg 9 (shM (frzM (callP f_law_greatest (consA (frzM (callP f_law_ordered (consA (tupM (consA (vr 2) (consA (vr 3) (consA (bin addD (vr 4) (frzM (lstM (consA (tupM (consA (cst (.str "meet")) (consA (vr 5) (consA (vr 6) (consA (vr 8) nilA))))) nilA)))) nilA)))) nilA))) nilA)))) (wE s d p i j (some (.sh (enB (bst (grB p i j) k)))) (iS k) a9) =
      some (.nx, wE s d p i j (some (.sh (enB (bst (grB p i j) k)))) (iS k) (some (.sh (enO (grB p i j k))))) := by
    have hg' : f_law_greatest [.sh (enPl (addP p (metM i j k)).ord)] = some (.sh (enO (grB p i j k)), [none]) := hg
    simp only [wE]
    generalize enPl (addP p (metM i j k)).ord = PO at ho hg'
    generalize p.mts.map enM = MM at ad ho ⊢
    generalize enNs p.names = N at ho ⊢
    simp [ad, ho, hg']
  unfold w_law_0
  refine Ends.seq s1 ?_
  cases hg : grB p i j k with
  | none =>
    have e : bst (grB p i j) (k + 1) = bst (grB p i j) k := by simp [bst, hg]
    rw [e]
    simp only [wE]
    simp
  | some g =>
    cases hb : bst (grB p i j) k with
    | none =>
      have e : bst (grB p i j) (k + 1) = some (g, k) := by simp [bst, hg, hb]
      rw [e]
      simp only [wE]
      simp [hb, enB]
    | some bu =>
      obtain ⟨u, v⟩ := bu
      have hz : atI [Dat.int (u : Int), Dat.int (v : Int)] 0 = some (.int u) := rfl
      by_cases hlt : g < u
      · have e : bst (grB p i j) (k + 1) = some (g, k) := by simp [bst, hg, hb, hlt]
        rw [e]
        simp only [wE]
        simp [hb, enB, hlt, hz]
      · have e : bst (grB p i j) (k + 1) = some (u, v) := by simp [bst, hg, hb, hlt]
        rw [e]
        simp only [wE]
        simp [hb, enB, hlt, hz]
theorem eqOk_enB : ∀ o : Option (Nat × Nat), EqOk 12 (enB o)
  | none => .non (n := 11)
  | some (a, t) => .tup (n := 11) (fun x hx => by
    simp only [List.mem_cons, List.not_mem_nil, or_false] at hx
    rcases hx with rfl | rfl
    · exact .int (n := 10)
    · exact .int (n := 10)) (by simp)
theorem lt_ok (h : PlOk p) (ho : p.ord = p) (hi : i < p.names.length) (hj : j < p.names.length) (hij : i ≠ j) (hm : p.mts.length < 20) :
    Ends (sq l_law_1 t_law_2 (wE s d p i j (some (.sh .non)) none none)) fun fl ρ => fl = .rt (.sh (.bl true)) := by
  refine (e_sq _ _).mpr ?_
  unfold l_law_1
  have hs2 := h.s2
  refine Ends.for (enc := fun k : Nat => Dat.int (k : Int)) (xs := List.range p.size) (ρ1 := wE s d p i j (some (.sh .non)) none none) (fun k ρ => ∃ y8 y9, ρ = wE s d p i j (some (.sh (enB (bst (grB p i j) k)))) y8 y9) ?_ ⟨none, none, rfl⟩ (fun k t ρ hk ⟨y8, y9, e⟩ => ?_) (fun ρ ⟨y8, y9, e⟩ => ?_)
  · have := itR1_nat (n := p.size) (by omega)
    simp only [wE]
    simp [this]
  · subst e
    obtain ⟨h1, h2⟩ := List.getElem?_eq_some_iff.mp hk
    simp at h1 h2
    subst h2
    refine ⟨_, rfl, (w0_ok h hi hj hij).mono fun fl ρ ⟨h1, y9, h2⟩ => ?_⟩
    subst h1 h2
    exact ⟨_, _, rfl⟩
  · subst e
    rw [List.length_range]
    have h8 := h.n8
    have tx := text_ok h
    obtain ⟨ni, n1⟩ : ∃ z, p.names[i]? = some z := ⟨_, List.getElem?_eq_getElem hi⟩
    obtain ⟨nj, n2⟩ : ∃ z, p.names[j]? = some z := ⟨_, List.getElem?_eq_getElem hj⟩
    have b := best_tick_ok h.wf (loads_text h ho) n1 n2 hij (by omega) hm
    have e2 : enPl p = .tup [.int p.size, .tuf (enNs p.names), .lst (p.mts.map enM)] := rfl
    rw [e2] at tx
    have a1 : atI (enNs p.names) (i : Int) = some (.str ni) := atI_nat (by unfold enNs; rw [List.getElem?_map, n1]; rfl)
    have a2 : atI (enNs p.names) (j : Int) = some (.str nj) := atI_nat (by unfold enNs; rw [List.getElem?_map, n2]; rfl)
    have eq := eq_refl_ok (eqOk_enB (bst (grB p i j) p.size))
    unfold t_law_2
    simp only [wE]
    generalize enB (bst (grB p i j) p.size) = BB at *
    generalize p.mts.map enM = MM at *
    generalize enNs p.names = N at *
    generalize T (textOf p) = X at *
    simp [tx, a1, a2, b, eq]
end
theorem law_true (ns : List Int) (hl : ns.length ≤ 63) : ∃ outs, f_law [.sh (.lsf (ns.map .int))] = some (.sh (.bl true), outs) := by
  obtain ⟨d0, hd0, hr⟩ := random_ok ns hl (salt := 9) (by omega)
  obtain ⟨p, d1, hk, ho, hne, hn4, hs6, hd1, hp⟩ := plan_ok2 (most := 4) (ticks := 6) hd0 (by omega) (by omega) (by omega) (by omega)
  have h2 := hk.n2
  obtain ⟨r, d2, r0, r1, hd2, f1⟩ := below_ok (n := 12) hd1 (by omega) (by omega)
  obtain ⟨o, d3, o0, o1, hd3, f2⟩ := below_ok (n := (p.names.length : Int)) hd2 (by omega) (by omega)
  obtain ⟨u, d4, u0, u1, hd4, f3⟩ := below_ok (n := (p.names.length : Int) - 1) hd3 (by omega) (by omega)
  let q : Pln := ⟨p.size, p.names, p.mts.take r.toNat⟩
  obtain ⟨qk, qo⟩ := hk.sub ho (List.take_sublist r.toNat p.mts)
  obtain ⟨i, rfl⟩ : ∃ i : Nat, o = i := ⟨o.toNat, by omega⟩
  have hij : ∃ j : Nat, ((i : Int) + 1 + u) % (p.names.length : Int) = j ∧ j < p.names.length ∧ i ≠ j := by
    have g0 := Int.emod_nonneg ((i : Int) + 1 + u) (b := (p.names.length : Int)) (by omega)
    have g1 := Int.emod_lt_of_pos ((i : Int) + 1 + u) (b := (p.names.length : Int)) (by omega)
    refine ⟨(((i : Int) + 1 + u) % (p.names.length : Int)).toNat, by omega, by omega, fun z => ?_⟩
    have z : ((i : Int) + 1 + u) % (p.names.length : Int) = i := by omega
    by_cases hlt : (i : Int) + 1 + u < p.names.length
    · rw [Int.emod_eq_of_lt (by omega) hlt] at z; omega
    · have e : ((i : Int) + 1 + u) % (p.names.length : Int) = (i : Int) + 1 + u - p.names.length := by
        rw [← Int.sub_emod_right, Int.emod_eq_of_lt (by omega) (by omega)]
      omega
  obtain ⟨j, hj1, hj2, hj3⟩ := hij
  have fin := lt_ok (s := .sh (.lsf (ns.map .int))) (d := d4) (p := q) (i := i) (j := j) qk qo (by show i < p.names.length; omega) hj2 hj3 (by show (p.mts.take r.toNat).length < 20; rw [List.length_take]; omega)
  let src : Sl := .sh (.lsf (ns.map .int))
  have ct : cut (p.mts.map enM) none (some r) = (p.mts.take r.toNat).map enM := by rw [cut_take _ r0, List.map_take]
  have hmd := modD_int ((i : Int) + 1 + u) (p.names.length : Int) (by omega)
  have hb : Ends (b_law [some src, none, none, none, none, none, none, none, none, none]) fun fl ρ => fl = .rt (.sh (.bl true)) := by
    have e2 : enPl p = .tup [.int p.size, .tuf (enNs p.names), .lst (p.mts.map enM)] := rfl
    have hlen : lenD [.tuf (enNs p.names)] = some (.int (p.names.length : Int)) := by simp [lenD, enNs]
    unfold b_law
    rw [e2] at hp
    simp only [wE] at fin
    generalize p.mts.map enM = MM at hp ct
    have fin' : Ends (sq l_law_1 t_law_2 [some src, some (.ol none (d4.map .int)), iS p.size, some (.sh (.tuf (enNs p.names))), some (.sh (.lst ((p.mts.take r.toNat).map enM))), iS i, iS j, some (.sh .non), none, none]) fun fl ρ => fl = .rt (.sh (.bl true)) := fin
    generalize (p.mts.take r.toNat).map enM = M2 at ct fin'
    generalize enNs p.names = N at *
    generalize sq l_law_1 t_law_2 = TL at fin' ⊢
    simp [src, hr, hp, f1, f2, f3, kOf, putO, retag, tagOf, par2, asgT, gtp, gcns, gnm, gnil, slM, slD, intO, ct, hlen, hmd, hj1]
    exact fin'
  obtain ⟨fl, ρ', h1, h2⟩ := hb
  refine ⟨outsOf 1 ρ', ?_⟩
  subst h2
  have := ev_def (n := 1) (N := 10) (F := b_law) (ins := [.sh (.lsf (ns.map .int))]) rfl (by simpa [tagAll, src] using h1) h1
  unfold f_law
  rw [this]
  simp
end DL

set_option Elab.async false
set_option linter.all false
set_option maxRecDepth 100000
set_option maxHeartbeats 0
namespace DL
open PySem PySem.Spec PyProof.Rows L2
/-! the text -/
def top (i : Nat) : Stmt := PySem.Challenge.pw_newsages_k09_best_ticks_of_plans.main.body.getD i (.Pass ⟨0, 0, 0, 0⟩)
def clsB : Stmt → List Stmt
  | .ClassDef (body := b) .. => b
  | _ => []
def mth (i j : Nat) : Stmt := (clsB (top i)).getD j (.Pass ⟨0, 0, 0, 0⟩)
abbrev s_law_random : Stmt := (top 47)
abbrev s_law_below : Stmt := (top 48)
abbrev s_law_shuffled : Stmt := (top 49)
abbrev s_law_ordered : Stmt := (top 50)
abbrev s_law_plan : Stmt := (top 51)
abbrev s_law_told : Stmt := (top 52)
abbrev s_law_held : Stmt := (top 53)
abbrev s_law_passed : Stmt := (top 54)
abbrev s_law_days : Stmt := (top 55)
abbrev s_law_enough : Stmt := (top 56)
abbrev s_law_all : Stmt := (top 57)
abbrev s_law_greatest : Stmt := (top 58)
abbrev s_law_equal : Stmt := (top 59)
abbrev s_Parser_peek : Stmt := (mth 34 1)
abbrev s_Parser_take_word : Stmt := (mth 34 5)
abbrev s_Parser_take : Stmt := (mth 34 4)
abbrev s_Parser_parse_people : Stmt := (mth 34 6)
abbrev s_Parser_person : Stmt := (mth 34 7)
abbrev s_Meeting_init : Stmt := (mth 32 0)
abbrev s_Meeting_key : Stmt := (mth 32 1)
abbrev s_Parser_parse_meeting : Stmt := (mth 34 8)
abbrev s_Plan_init : Stmt := (mth 33 0)
abbrev s_Parser_parse_plan : Stmt := (mth 34 9)
abbrev s_Parser_init : Stmt := (mth 34 0)
abbrev s_Token_init : Stmt := (mth 21 0)
abbrev s_run_end : Stmt := (top 22)
abbrev s_read_token : Stmt := (top 23)
abbrev s_tokenize : Stmt := (top 24)
abbrev s_load : Stmt := (top 35)
abbrev s_person_of : Stmt := (top 37)
abbrev s_Plan_with_meetings : Stmt := (mth 33 2)
abbrev s_greatest : Stmt := (top 43)
abbrev s_Story_lasting : Stmt := (mth 42 2)
abbrev s_known_at : Stmt := (top 41)
abbrev s_Plan_in_tick : Stmt := (mth 33 1)
abbrev s_newest : Stmt := (top 38)
abbrev s_heard : Stmt := (top 39)
abbrev s_after_meeting : Stmt := (top 40)
abbrev s_Story_init : Stmt := (mth 42 0)
abbrev s_best_tick : Stmt := (top 45)
abbrev s_law_lines : Stmt := (top 60)
abbrev s_law_text : Stmt := (top 61)
abbrev s_law : Stmt := (top 62)
abbrev N_law_random : List Str := ["_law_script", "_law_salt", "_law_seed", "_law_cell"]
theorem sc_law_random : FnScope N_law_random ["_law_script", "_law_salt"] (defScope s_law_random) := ⟨rfl, rfl, rfl, by decide +kernel, rfl, by decide +kernel, by decide +kernel⟩
abbrev N_law_below : List Str := ["_law_d", "_law_limit", "_law_result"]
theorem sc_law_below : FnScope N_law_below ["_law_d", "_law_limit"] (defScope s_law_below) := ⟨rfl, rfl, rfl, by decide +kernel, rfl, by decide +kernel, by decide +kernel⟩
abbrev N_law_shuffled : List Str := ["_law_d", "_law_items", "_law_pool", "_law_result"]
theorem sc_law_shuffled : FnScope N_law_shuffled ["_law_d", "_law_items"] (defScope s_law_shuffled) := ⟨rfl, rfl, rfl, by decide +kernel, rfl, by decide +kernel, by decide +kernel⟩
abbrev N_law_ordered : List Str := ["_law_plan_here", "_law_found", "_law_tick", "_law_meeting"]
theorem sc_law_ordered : FnScope N_law_ordered ["_law_plan_here"] (defScope s_law_ordered) := ⟨rfl, rfl, rfl, by decide +kernel, rfl, by decide +kernel, by decide +kernel⟩
abbrev N_law_plan : List Str := ["_law_d", "_law_most", "_law_ticks", "_law_names", "_law_size", "_law_meetings", "_law_k", "_law_one", "_law_other", "_law_meeting"]
theorem sc_law_plan : FnScope N_law_plan ["_law_d", "_law_most", "_law_ticks"] (defScope s_law_plan) := ⟨rfl, rfl, rfl, by decide +kernel, rfl, by decide +kernel, by decide +kernel⟩
abbrev N_law_told : List Str := ["_law_known", "_law_teller", "_law_hearer", "_law_found", "_law_key"]
theorem sc_law_told : FnScope N_law_told ["_law_known", "_law_teller", "_law_hearer"] (defScope s_law_told) := ⟨rfl, rfl, rfl, by decide +kernel, rfl, by decide +kernel, by decide +kernel⟩
abbrev N_law_held : List Str := ["_law_known", "_law_meeting", "_law_word", "_law_one", "_law_other", "_law_tick", "_law_first", "_law_second", "_law_k"]
theorem sc_law_held : FnScope N_law_held ["_law_known", "_law_meeting"] (defScope s_law_held) := ⟨rfl, rfl, rfl, by decide +kernel, rfl, by decide +kernel, by decide +kernel⟩
abbrev N_law_passed : List Str := ["_law_plan_here", "_law_known", "_law_tick", "_law_k", "_law_meeting"]
theorem sc_law_passed : FnScope N_law_passed ["_law_plan_here", "_law_known", "_law_tick"] (defScope s_law_passed) := ⟨rfl, rfl, rfl, by decide +kernel, rfl, by decide +kernel, by decide +kernel⟩
abbrev N_law_days : List Str := ["_law_plan_here", "_law_ticks", "_law_known", "_law_found", "_law_name", "_law_tick", "_law_k", "_law_row"]
theorem sc_law_days : FnScope N_law_days ["_law_plan_here", "_law_ticks"] (defScope s_law_days) := ⟨rfl, rfl, rfl, by decide +kernel, rfl, by decide +kernel, by decide +kernel⟩
abbrev N_law_enough : List Str := ["_law_plan_here"]
theorem sc_law_enough : FnScope N_law_enough ["_law_plan_here"] (defScope s_law_enough) := ⟨rfl, rfl, rfl, by decide +kernel, rfl, by decide +kernel, by decide +kernel⟩
abbrev N_law_all : List Str := ["_law_plan_here"]
theorem sc_law_all : FnScope N_law_all ["_law_plan_here"] (defScope s_law_all) := ⟨rfl, rfl, rfl, by decide +kernel, rfl, by decide +kernel, by decide +kernel⟩
abbrev N_law_greatest : List Str := ["_law_plan_here", "_law_every", "_law_rows", "_law_row"]
theorem sc_law_greatest : FnScope N_law_greatest ["_law_plan_here"] (defScope s_law_greatest) := ⟨rfl, rfl, rfl, by decide +kernel, rfl, by decide +kernel, by decide +kernel⟩
abbrev N_law_equal : List Str := ["_law_actual", "_law_expected", "_law_k"]
theorem sc_law_equal : FnScope N_law_equal ["_law_actual", "_law_expected"] (defScope s_law_equal) := ⟨rfl, rfl, rfl, by decide +kernel, rfl, by decide +kernel, by decide +kernel⟩
abbrev N_Parser_peek : List Str := ["self"]
theorem sc_Parser_peek : FnScope N_Parser_peek ["self"] (defScope s_Parser_peek) := ⟨rfl, rfl, rfl, by decide +kernel, rfl, by decide +kernel, by decide +kernel⟩
abbrev N_Parser_take_word : List Str := ["self", "word", "token"]
theorem sc_Parser_take_word : FnScope N_Parser_take_word ["self", "word"] (defScope s_Parser_take_word) := ⟨rfl, rfl, rfl, by decide +kernel, rfl, by decide +kernel, by decide +kernel⟩
abbrev N_Parser_take : List Str := ["self", "kind", "token"]
theorem sc_Parser_take : FnScope N_Parser_take ["self", "kind"] (defScope s_Parser_take) := ⟨rfl, rfl, rfl, by decide +kernel, rfl, by decide +kernel, by decide +kernel⟩
abbrev N_Parser_parse_people : List Str := ["self", "keyword", "tokens", "token"]
theorem sc_Parser_parse_people : FnScope N_Parser_parse_people ["self"] (defScope s_Parser_parse_people) := ⟨rfl, rfl, rfl, by decide +kernel, rfl, by decide +kernel, by decide +kernel⟩
abbrev N_Parser_person : List Str := ["self", "token"]
theorem sc_Parser_person : FnScope N_Parser_person ["self"] (defScope s_Parser_person) := ⟨rfl, rfl, rfl, by decide +kernel, rfl, by decide +kernel, by decide +kernel⟩
abbrev N_Meeting_init : List Str := ["self", "word", "one", "other", "tick"]
theorem sc_Meeting_init : FnScope N_Meeting_init ["self", "word", "one", "other", "tick"] (defScope s_Meeting_init) := ⟨rfl, rfl, rfl, by decide +kernel, rfl, by decide +kernel, by decide +kernel⟩
abbrev N_Meeting_key : List Str := ["self"]
theorem sc_Meeting_key : FnScope N_Meeting_key ["self"] (defScope s_Meeting_key) := ⟨rfl, rfl, rfl, by decide +kernel, rfl, by decide +kernel, by decide +kernel⟩
abbrev N_Parser_parse_meeting : List Str := ["self", "size", "keyword", "one", "token", "other", "number", "meeting", "known"]
theorem sc_Parser_parse_meeting : FnScope N_Parser_parse_meeting ["self", "size"] (defScope s_Parser_parse_meeting) := ⟨rfl, rfl, rfl, by decide +kernel, rfl, by decide +kernel, by decide +kernel⟩
abbrev N_Plan_init : List Str := ["self", "size", "names", "meetings", "tick", "meeting"]
theorem sc_Plan_init : FnScope N_Plan_init ["self", "size", "names", "meetings"] (defScope s_Plan_init) := ⟨rfl, rfl, rfl, by decide +kernel, rfl, by decide +kernel, by decide +kernel⟩
abbrev N_Parser_parse_plan : List Str := ["self", "token", "size", "line", "column", "number", "reason"]
theorem sc_Parser_parse_plan : FnScope N_Parser_parse_plan ["self"] (defScope s_Parser_parse_plan) := ⟨rfl, rfl, rfl, by decide +kernel, rfl, by decide +kernel, by decide +kernel⟩
abbrev N_Parser_init : List Str := ["self", "tokens"]
theorem sc_Parser_init : FnScope N_Parser_init ["self", "tokens"] (defScope s_Parser_init) := ⟨rfl, rfl, rfl, by decide +kernel, rfl, by decide +kernel, by decide +kernel⟩
abbrev N_Token_init : List Str := ["self", "kind", "text", "line", "column"]
theorem sc_Token_init : FnScope N_Token_init ["self", "kind", "text", "line", "column"] (defScope s_Token_init) := ⟨rfl, rfl, rfl, by decide +kernel, rfl, by decide +kernel, by decide +kernel⟩
abbrev N_run_end : List Str := ["row", "start", "letters", "end"]
theorem sc_run_end : FnScope N_run_end ["row", "start", "letters"] (defScope s_run_end) := ⟨rfl, rfl, rfl, by decide +kernel, rfl, by decide +kernel, by decide +kernel⟩
abbrev N_read_token : List Str := ["row", "line", "column", "first", "word"]
theorem sc_read_token : FnScope N_read_token ["row", "line", "column"] (defScope s_read_token) := ⟨rfl, rfl, rfl, by decide +kernel, rfl, by decide +kernel, by decide +kernel⟩
abbrev N_tokenize : List Str := ["source", "tokens", "rows", "line", "row", "column", "token"]
theorem sc_tokenize : FnScope N_tokenize ["source"] (defScope s_tokenize) := ⟨rfl, rfl, rfl, by decide +kernel, rfl, by decide +kernel, by decide +kernel⟩
abbrev N_load : List Str := ["plan"]
theorem sc_load : FnScope N_load ["plan"] (defScope s_load) := ⟨rfl, rfl, rfl, by decide +kernel, rfl, by decide +kernel, by decide +kernel⟩
abbrev N_person_of : List Str := ["parsed", "name"]
theorem sc_person_of : FnScope N_person_of ["parsed", "name"] (defScope s_person_of) := ⟨rfl, rfl, rfl, by decide +kernel, rfl, by decide +kernel, by decide +kernel⟩
abbrev N_Plan_with_meetings : List Str := ["self", "meetings"]
theorem sc_Plan_with_meetings : FnScope N_Plan_with_meetings ["self", "meetings"] (defScope s_Plan_with_meetings) := ⟨rfl, rfl, rfl, by decide +kernel, rfl, by decide +kernel, by decide +kernel⟩
abbrev N_greatest : List Str := ["lasting", "every", "rows", "row", "old"]
theorem sc_greatest : FnScope N_greatest ["lasting"] (defScope s_greatest) := ⟨rfl, rfl, rfl, by decide +kernel, rfl, by decide +kernel, by decide +kernel⟩
abbrev N_Story_lasting : List Str := ["self"]
theorem sc_Story_lasting : FnScope N_Story_lasting ["self"] (defScope s_Story_lasting) := ⟨rfl, rfl, rfl, by decide +kernel, rfl, by decide +kernel, by decide +kernel⟩
abbrev N_known_at : List Str := ["rows", "tick", "place", "old", "person", "row"]
theorem sc_known_at : FnScope N_known_at ["rows", "tick"] (defScope s_known_at) := ⟨rfl, rfl, rfl, by decide +kernel, rfl, by decide +kernel, by decide +kernel⟩
abbrev N_Plan_in_tick : List Str := ["self", "tick", "meeting"]
theorem sc_Plan_in_tick : FnScope N_Plan_in_tick ["self", "tick"] (defScope s_Plan_in_tick) := ⟨rfl, rfl, rfl, by decide +kernel, rfl, by decide +kernel, by decide +kernel⟩
abbrev N_newest : List Str := ["one", "other"]
theorem sc_newest : FnScope N_newest ["one", "other"] (defScope s_newest) := ⟨rfl, rfl, rfl, by decide +kernel, rfl, by decide +kernel, by decide +kernel⟩
abbrev N_heard : List Str := ["rows", "teller", "hearer", "row", "one", "other", "place", "old"]
theorem sc_heard : FnScope N_heard ["rows", "teller", "hearer"] (defScope s_heard) := ⟨rfl, rfl, rfl, by decide +kernel, rfl, by decide +kernel, by decide +kernel⟩
abbrev N_after_meeting : List Str := ["rows", "meeting"]
theorem sc_after_meeting : FnScope N_after_meeting ["rows", "meeting"] (defScope s_after_meeting) := ⟨rfl, rfl, rfl, by decide +kernel, rfl, by decide +kernel, by decide +kernel⟩
abbrev N_Story_init : List Str := ["self", "parsed", "count", "rows", "person", "tick", "meeting", "old", "row"]
theorem sc_Story_init : FnScope N_Story_init ["self", "parsed"] (defScope s_Story_init) := ⟨rfl, rfl, rfl, by decide +kernel, rfl, by decide +kernel, by decide +kernel⟩
abbrev N_best_tick : List Str := ["plan", "name", "other", "parsed", "one", "two", "best", "tick", "changed", "old"]
theorem sc_best_tick : FnScope N_best_tick ["plan", "name", "other"] (defScope s_best_tick) := ⟨rfl, rfl, rfl, by decide +kernel, rfl, by decide +kernel, by decide +kernel⟩
abbrev N_law_lines : List Str := ["_law_plan_here", "_law_size", "_law_names", "_law_meetings", "_law_lines_here", "_law_word", "_law_one", "_law_other", "_law_tick"]
theorem sc_law_lines : FnScope N_law_lines ["_law_plan_here"] (defScope s_law_lines) := ⟨rfl, rfl, rfl, by decide +kernel, rfl, by decide +kernel, by decide +kernel⟩
abbrev N_law_text : List Str := ["_law_plan_here"]
theorem sc_law_text : FnScope N_law_text ["_law_plan_here"] (defScope s_law_text) := ⟨rfl, rfl, rfl, by decide +kernel, rfl, by decide +kernel, by decide +kernel⟩
abbrev N_law : List Str := ["_law_script", "_law_d", "_law_size", "_law_names", "_law_meetings", "_law_one", "_law_two", "_law_best", "_law_tick", "_law_old"]
theorem sc_law : FnScope N_law ["_law_script"] (defScope s_law) := ⟨rfl, rfl, rfl, by decide +kernel, rfl, by decide +kernel, by decide +kernel⟩
/-! the facts -/
structure Fs (K : PySem.W.Frag) (mg : Str → Option Value) : Prop where
  g__law_random : mg "_law_random" = some (.ref (He.ga K "_law_random"))
  u_abs : mg "abs" = none
  g__law_plan : mg "_law_plan" = some (.ref (He.ga K "_law_plan"))
  g__law_shuffled : mg "_law_shuffled" = some (.ref (He.ga K "_law_shuffled"))
  u_list : mg "list" = none
  g__law_below : mg "_law_below" = some (.ref (He.ga K "_law_below"))
  u_len : mg "len" = none
  u_range : mg "range" = none
  u_int : mg "int" = none
  g__law_ordered : mg "_law_ordered" = some (.ref (He.ga K "_law_ordered"))
  u_tuple : mg "tuple" = none
  g__law_greatest : mg "_law_greatest" = some (.ref (He.ga K "_law_greatest"))
  g__law_all : mg "_law_all" = some (.ref (He.ga K "_law_all"))
  g__law_days : mg "_law_days" = some (.ref (He.ga K "_law_days"))
  g__law_passed : mg "_law_passed" = some (.ref (He.ga K "_law_passed"))
  g__law_told : mg "_law_told" = some (.ref (He.ga K "_law_told"))
  u_dict : mg "dict" = none
  u_max : mg "max" = none
  g__law_held : mg "_law_held" = some (.ref (He.ga K "_law_held"))
  g__law_enough : mg "_law_enough" = some (.ref (He.ga K "_law_enough"))
  g__law_equal : mg "_law_equal" = some (.ref (He.ga K "_law_equal"))
  u_isinstance : mg "isinstance" = none
  u_bool : mg "bool" = none
  u_str : mg "str" = none
  u_all : mg "all" = none
  g_best_tick : mg "best_tick" = some (.ref (He.ga K "best_tick"))
  g_load : mg "load" = some (.ref (He.ga K "load"))
  c_Parser : Cls K (He.ga K "Parser")
  n_Parser_tokens : NoAttr K (He.ga K "Parser") "tokens"
  n_Parser_at : NoAttr K (He.ga K "Parser") "at"
  m_Parser_peek : Meth K (He.ga K "Parser") "peek" (He.ma K (He.ga K "Parser") "peek")
  c_Token : Cls K (He.ga K "Token")
  n_Token_text : NoAttr K (He.ga K "Token") "text"
  m_Parser_take_word : Meth K (He.ga K "Parser") "take_word" (He.ma K (He.ga K "Parser") "take_word")
  n_Token_kind : NoAttr K (He.ga K "Token") "kind"
  m_Parser_take : Meth K (He.ga K "Parser") "take" (He.ma K (He.ga K "Parser") "take")
  k_NUMBER : ∃ t, mg "NUMBER" = some (.str "number" t)
  k_MAX_ROUND : ∃ t, mg "MAX_ROUND" = some (.int 60 t)
  k_NAME : ∃ t, mg "NAME" = some (.str "name" t)
  n_Parser_names : NoAttr K (He.ga K "Parser") "names"
  k_MAX_PEOPLE : ∃ t, mg "MAX_PEOPLE" = some (.int 8 t)
  k_MIN_PEOPLE : ∃ t, mg "MIN_PEOPLE" = some (.int 2 t)
  m_Parser_parse_people : Meth K (He.ga K "Parser") "parse_people" (He.ma K (He.ga K "Parser") "parse_people")
  k_END : ∃ t, mg "END" = some (.str "end" t)
  k_TELL : ∃ t, mg "TELL" = some (.str "tell" t)
  k_MEET : ∃ t, mg "MEET" = some (.str "meet" t)
  m_Parser_person : Meth K (He.ga K "Parser") "person" (He.ma K (He.ga K "Parser") "person")
  c_Meeting : Cls K (He.ga K "Meeting")
  n_Meeting_word : NoAttr K (He.ga K "Meeting") "word"
  n_Meeting_one : NoAttr K (He.ga K "Meeting") "one"
  n_Meeting_other : NoAttr K (He.ga K "Meeting") "other"
  n_Meeting_tick : NoAttr K (He.ga K "Meeting") "tick"
  i_Meeting : Mk K (He.ga K "Meeting") (He.ma K (He.ga K "Meeting") "__init__")
  g_Meeting : mg "Meeting" = some (.ref (He.ga K "Meeting"))
  p_Meeting_key : PropOf K (He.ga K "Meeting") "key" (pAd K "Meeting" "key") (gAd K "Meeting" "key")
  n_Parser_meetings : NoAttr K (He.ga K "Parser") "meetings"
  k_MAX_MEETINGS : ∃ t, mg "MAX_MEETINGS" = some (.int 20 t)
  m_Parser_parse_meeting : Meth K (He.ga K "Parser") "parse_meeting" (He.ma K (He.ga K "Parser") "parse_meeting")
  n_Parser_faults : NoAttr K (He.ga K "Parser") "faults"
  c_Plan : Cls K (He.ga K "Plan")
  n_Plan_size : NoAttr K (He.ga K "Plan") "size"
  n_Plan_names : NoAttr K (He.ga K "Plan") "names"
  n_Plan_meetings : NoAttr K (He.ga K "Plan") "meetings"
  i_Plan : Mk K (He.ga K "Plan") (He.ma K (He.ga K "Plan") "__init__")
  g_Plan : mg "Plan" = some (.ref (He.ga K "Plan"))
  m_Parser_parse_plan : Meth K (He.ga K "Parser") "parse_plan" (He.ma K (He.ga K "Parser") "parse_plan")
  g_tokenize : mg "tokenize" = some (.ref (He.ga K "tokenize"))
  u_enumerate : mg "enumerate" = none
  k_SPACES : ∃ t, mg "SPACES" = some (.str " \n" t)
  g_read_token : mg "read_token" = some (.ref (He.ga K "read_token"))
  k_SIGNS : ∃ t, mg "SIGNS" = some (.str ";" t)
  n_Token_line : NoAttr K (He.ga K "Token") "line"
  n_Token_column : NoAttr K (He.ga K "Token") "column"
  k_SIGN : ∃ t, mg "SIGN" = some (.str "sign" t)
  i_Token : Mk K (He.ga K "Token") (He.ma K (He.ga K "Token") "__init__")
  g_Token : mg "Token" = some (.ref (He.ga K "Token"))
  k_DIGITS : ∃ t, mg "DIGITS" = some (.str "0123456789" t)
  g_run_end : mg "run_end" = some (.ref (He.ga K "run_end"))
  k_MAX_DIGITS : ∃ t, mg "MAX_DIGITS" = some (.int 2 t)
  k_LETTERS : ∃ t, mg "LETTERS" = some (.str "abcdefghijklmnopqrstuvwxyz" t)
  g_KEYWORDS : mg "KEYWORDS" = some (.ref (He.ga K "KEYWORDS"))
  t_KEYWORDS : He.tupB K "KEYWORDS" [.str "round", .str "people", .str "meet", .str "tell"] = true
  k_KEYWORD : ∃ t, mg "KEYWORD" = some (.str "keyword" t)
  k_MAX_LETTERS : ∃ t, mg "MAX_LETTERS" = some (.int 8 t)
  i_Parser : Mk K (He.ga K "Parser") (He.ma K (He.ga K "Parser") "__init__")
  g_Parser : mg "Parser" = some (.ref (He.ga K "Parser"))
  g_person_of : mg "person_of" = some (.ref (He.ga K "person_of"))
  m_Plan_with_meetings : Meth K (He.ga K "Plan") "with_meetings" (He.ma K (He.ga K "Plan") "with_meetings")
  g_greatest : mg "greatest" = some (.ref (He.ga K "greatest"))
  c_Story : Cls K (He.ga K "Story")
  n_Story_ages : NoAttr K (He.ga K "Story") "ages"
  n_Story_start : NoAttr K (He.ga K "Story") "start"
  m_Story_lasting : Meth K (He.ga K "Story") "lasting" (He.ma K (He.ga K "Story") "lasting")
  n_Story_size : NoAttr K (He.ga K "Story") "size"
  g_known_at : mg "known_at" = some (.ref (He.ga K "known_at"))
  m_Plan_in_tick : Meth K (He.ga K "Plan") "in_tick" (He.ma K (He.ga K "Plan") "in_tick")
  g_after_meeting : mg "after_meeting" = some (.ref (He.ga K "after_meeting"))
  g_heard : mg "heard" = some (.ref (He.ga K "heard"))
  u_zip : mg "zip" = none
  g_newest : mg "newest" = some (.ref (He.ga K "newest"))
  i_Story : Mk K (He.ga K "Story") (He.ma K (He.ga K "Story") "__init__")
  g_Story : mg "Story" = some (.ref (He.ga K "Story"))
  g__law_text : mg "_law_text" = some (.ref (He.ga K "_law_text"))
  g__law_lines : mg "_law_lines" = some (.ref (He.ga K "_law_lines"))
  g_law : mg "law" = some (.ref (He.ga K "law"))
  F_law_random : ∃ fd, FunD K "_law_random" "_law_random" (defArgs s_law_random) (defBody s_law_random) (defScope s_law_random) [] [] (He.ga K "_law_random") fd
  F_law_below : ∃ fd, FunD K "_law_below" "_law_below" (defArgs s_law_below) (defBody s_law_below) (defScope s_law_below) [] [] (He.ga K "_law_below") fd
  F_law_shuffled : ∃ fd, FunD K "_law_shuffled" "_law_shuffled" (defArgs s_law_shuffled) (defBody s_law_shuffled) (defScope s_law_shuffled) [] [] (He.ga K "_law_shuffled") fd
  F_law_ordered : ∃ fd, FunD K "_law_ordered" "_law_ordered" (defArgs s_law_ordered) (defBody s_law_ordered) (defScope s_law_ordered) [] [] (He.ga K "_law_ordered") fd
  F_law_plan : ∃ fd, FunD K "_law_plan" "_law_plan" (defArgs s_law_plan) (defBody s_law_plan) (defScope s_law_plan) [] [] (He.ga K "_law_plan") fd
  F_law_told : ∃ fd, FunD K "_law_told" "_law_told" (defArgs s_law_told) (defBody s_law_told) (defScope s_law_told) [] [] (He.ga K "_law_told") fd
  F_law_held : ∃ fd, FunD K "_law_held" "_law_held" (defArgs s_law_held) (defBody s_law_held) (defScope s_law_held) [] [] (He.ga K "_law_held") fd
  F_law_passed : ∃ fd, FunD K "_law_passed" "_law_passed" (defArgs s_law_passed) (defBody s_law_passed) (defScope s_law_passed) [] [] (He.ga K "_law_passed") fd
  F_law_days : ∃ fd, FunD K "_law_days" "_law_days" (defArgs s_law_days) (defBody s_law_days) (defScope s_law_days) [] [] (He.ga K "_law_days") fd
  F_law_enough : ∃ fd, FunD K "_law_enough" "_law_enough" (defArgs s_law_enough) (defBody s_law_enough) (defScope s_law_enough) [] [] (He.ga K "_law_enough") fd
  F_law_all : ∃ fd, FunD K "_law_all" "_law_all" (defArgs s_law_all) (defBody s_law_all) (defScope s_law_all) [] [] (He.ga K "_law_all") fd
  F_law_greatest : ∃ fd, FunD K "_law_greatest" "_law_greatest" (defArgs s_law_greatest) (defBody s_law_greatest) (defScope s_law_greatest) [] [] (He.ga K "_law_greatest") fd
  F_law_equal : ∃ fd, FunD K "_law_equal" "_law_equal" (defArgs s_law_equal) (defBody s_law_equal) (defScope s_law_equal) [] [] (He.ga K "_law_equal") fd
  F_Parser_peek : ∃ fd, FunD K "peek" "Parser.peek" (defArgs s_Parser_peek) (defBody s_Parser_peek) (defScope s_Parser_peek) [] [] (He.ma K (He.ga K "Parser") "peek") fd
  F_Parser_take_word : ∃ fd, FunD K "take_word" "Parser.take_word" (defArgs s_Parser_take_word) (defBody s_Parser_take_word) (defScope s_Parser_take_word) [] [] (He.ma K (He.ga K "Parser") "take_word") fd
  F_Parser_take : ∃ fd, FunD K "take" "Parser.take" (defArgs s_Parser_take) (defBody s_Parser_take) (defScope s_Parser_take) [] [] (He.ma K (He.ga K "Parser") "take") fd
  F_Parser_parse_people : ∃ fd, FunD K "parse_people" "Parser.parse_people" (defArgs s_Parser_parse_people) (defBody s_Parser_parse_people) (defScope s_Parser_parse_people) [] [] (He.ma K (He.ga K "Parser") "parse_people") fd
  F_Parser_person : ∃ fd, FunD K "person" "Parser.person" (defArgs s_Parser_person) (defBody s_Parser_person) (defScope s_Parser_person) [] [] (He.ma K (He.ga K "Parser") "person") fd
  F_Meeting_init : ∃ fd, FunD K "__init__" "Meeting.__init__" (defArgs s_Meeting_init) (defBody s_Meeting_init) (defScope s_Meeting_init) [] [] (He.ma K (He.ga K "Meeting") "__init__") fd
  F_Meeting_key : ∃ fd, FunD K "key" "Meeting.key" (defArgs s_Meeting_key) (defBody s_Meeting_key) (defScope s_Meeting_key) [] [] (gAd K "Meeting" "key") fd
  F_Parser_parse_meeting : ∃ fd, FunD K "parse_meeting" "Parser.parse_meeting" (defArgs s_Parser_parse_meeting) (defBody s_Parser_parse_meeting) (defScope s_Parser_parse_meeting) [] [] (He.ma K (He.ga K "Parser") "parse_meeting") fd
  F_Plan_init : ∃ fd, FunD K "__init__" "Plan.__init__" (defArgs s_Plan_init) (defBody s_Plan_init) (defScope s_Plan_init) [] [] (He.ma K (He.ga K "Plan") "__init__") fd
  F_Parser_parse_plan : ∃ fd, FunD K "parse_plan" "Parser.parse_plan" (defArgs s_Parser_parse_plan) (defBody s_Parser_parse_plan) (defScope s_Parser_parse_plan) [] [] (He.ma K (He.ga K "Parser") "parse_plan") fd
  F_Parser_init : ∃ fd, FunD K "__init__" "Parser.__init__" (defArgs s_Parser_init) (defBody s_Parser_init) (defScope s_Parser_init) [] [] (He.ma K (He.ga K "Parser") "__init__") fd
  F_Token_init : ∃ fd, FunD K "__init__" "Token.__init__" (defArgs s_Token_init) (defBody s_Token_init) (defScope s_Token_init) [] [] (He.ma K (He.ga K "Token") "__init__") fd
  F_run_end : ∃ fd, FunD K "run_end" "run_end" (defArgs s_run_end) (defBody s_run_end) (defScope s_run_end) [] [] (He.ga K "run_end") fd
  F_read_token : ∃ fd, FunD K "read_token" "read_token" (defArgs s_read_token) (defBody s_read_token) (defScope s_read_token) [] [] (He.ga K "read_token") fd
  F_tokenize : ∃ fd, FunD K "tokenize" "tokenize" (defArgs s_tokenize) (defBody s_tokenize) (defScope s_tokenize) [] [] (He.ga K "tokenize") fd
  F_load : ∃ fd, FunD K "load" "load" (defArgs s_load) (defBody s_load) (defScope s_load) [] [] (He.ga K "load") fd
  F_person_of : ∃ fd, FunD K "person_of" "person_of" (defArgs s_person_of) (defBody s_person_of) (defScope s_person_of) [] [] (He.ga K "person_of") fd
  F_Plan_with_meetings : ∃ fd, FunD K "with_meetings" "Plan.with_meetings" (defArgs s_Plan_with_meetings) (defBody s_Plan_with_meetings) (defScope s_Plan_with_meetings) [] [] (He.ma K (He.ga K "Plan") "with_meetings") fd
  F_greatest : ∃ fd, FunD K "greatest" "greatest" (defArgs s_greatest) (defBody s_greatest) (defScope s_greatest) [] [] (He.ga K "greatest") fd
  F_Story_lasting : ∃ fd, FunD K "lasting" "Story.lasting" (defArgs s_Story_lasting) (defBody s_Story_lasting) (defScope s_Story_lasting) [] [] (He.ma K (He.ga K "Story") "lasting") fd
  F_known_at : ∃ fd, FunD K "known_at" "known_at" (defArgs s_known_at) (defBody s_known_at) (defScope s_known_at) [] [] (He.ga K "known_at") fd
  F_Plan_in_tick : ∃ fd, FunD K "in_tick" "Plan.in_tick" (defArgs s_Plan_in_tick) (defBody s_Plan_in_tick) (defScope s_Plan_in_tick) [] [] (He.ma K (He.ga K "Plan") "in_tick") fd
  F_newest : ∃ fd, FunD K "newest" "newest" (defArgs s_newest) (defBody s_newest) (defScope s_newest) [] [] (He.ga K "newest") fd
  F_heard : ∃ fd, FunD K "heard" "heard" (defArgs s_heard) (defBody s_heard) (defScope s_heard) [] [] (He.ga K "heard") fd
  F_after_meeting : ∃ fd, FunD K "after_meeting" "after_meeting" (defArgs s_after_meeting) (defBody s_after_meeting) (defScope s_after_meeting) [] [] (He.ga K "after_meeting") fd
  F_Story_init : ∃ fd, FunD K "__init__" "Story.__init__" (defArgs s_Story_init) (defBody s_Story_init) (defScope s_Story_init) [] [] (He.ma K (He.ga K "Story") "__init__") fd
  F_best_tick : ∃ fd, FunD K "best_tick" "best_tick" (defArgs s_best_tick) (defBody s_best_tick) (defScope s_best_tick) [] [] (He.ga K "best_tick") fd
  F_law_lines : ∃ fd, FunD K "_law_lines" "_law_lines" (defArgs s_law_lines) (defBody s_law_lines) (defScope s_law_lines) [] [] (He.ga K "_law_lines") fd
  F_law_text : ∃ fd, FunD K "_law_text" "_law_text" (defArgs s_law_text) (defBody s_law_text) (defScope s_law_text) [] [] (He.ga K "_law_text") fd
  F_law : ∃ fd, FunD K "law" "law" (defArgs s_law) (defBody s_law) (defScope s_law) [] [] (He.ga K "law") fd
section
variable {P : Program} {w : World} {K : PySem.W.Frag} {mg : Str → Option Value} {base : Heap}
theorem ok_law_random (Z : Fs K mg) : DefOk P w K mg base 1 (He.ga K "_law_random") ["_law_script", "_law_salt"] f_law_random := by
  obtain ⟨fd, FF⟩ := Z.F_law_random
  exact def_ok (k := 0) (N := N_law_random) FF sc_law_random (fun _ _ _ _ _ _ us hl => match us, hl with | [_, _], _ => rfl) fun cdv A outer s H vs E hr =>
    (psd_cons (psd_asg (i := 2) (sc_law_random).nd rfl (by first | exact Or.inl rfl | exact Or.inr rfl) (PE.sh (ped_var 1 (pv 1))))
    (psd_cons (psd_for PassesOwn.never rfl (pid_any (ped_var 0 (pv 0))) (pgd_name (i := 3) (sc_law_random).nd rfl (by first | exact Or.inl rfl | exact Or.inr rfl))
    (psd_one (psd_asg (i := 2) (sc_law_random).nd rfl (by first | exact Or.inl rfl | exact Or.inr rfl) (PE.sh (ped_bin op_mod modD_ok (ped_bin op_addU addD_ok (ped_bin op_mulU mulD_ok (ped_var 2 (pv 2)) ped_int) (ped_callB call_abs absD_ok (by rfl) Z.u_abs (by decide +kernel) (pad_cons (ped_var 3 (pv 3)) pad_nil))) ped_int)))))
    (psd_one (psd_ret (peo_cat (PE.frz (peo_list (pad_cons (ped_var 2 (pv 2)) (pad_cons ped_int pad_nil)))) (PE.frz (peo_lc (own := [("_law_cell", 3)]) rfl (sc_law_random).nd (pid_any (ped_var 0 (pv 0))) (blkOk_by (own := [("_law_cell", 3)]) (N := N_law_random) (sc := defScope s_law_random) (by decide +kernel)) (fun _ _ _ _ _ => (pgd_name (i := 3) (sc_law_random).nd rfl (by first | exact Or.inl rfl | exact Or.inr rfl))) (fun _ _ _ _ _ => (ptsd_one (ptd_cmp op_ge geD_ok (nomark _) (ped_var 3 (pv 3)) (ped_bin op_pow powD_ok ped_int ped_int)))) (fun _ _ _ _ _ => (ped_var 3 (pv 3))) gnm_ok (by decide))))))))
theorem ok_law_below (Z : Fs K mg) : DefOk P w K mg base 1 (He.ga K "_law_below") ["_law_d", "_law_limit"] f_law_below := by
  obtain ⟨fd, FF⟩ := Z.F_law_below
  exact def_ok (k := 0) (N := N_law_below) FF sc_law_below (fun _ _ _ _ _ _ us hl => match us, hl with | [_, _], _ => rfl) fun cdv A outer s H vs E hr =>
    (psd_cons (psd_if (ptd_view 0 (PWD.pt (pwd_and (ptd_cmp (op_eqD hr.units) eqD_ok (nomark _) (ped_ix (ped_var 0 (pv 0)) ped_int fun _ _ => rfl) ped_int) (pwd_and1 (ptd_cmp op_gt gtD_ok (nomark _) (ped_callB call_lenU lenD_ok (by rfl) Z.u_len (by decide +kernel) (pad_cons (ped_var 0 (pv 0)) pad_nil)) ped_int)))))
    (psd_one (psd_put (ped_mut F.slot_list_pop F.type_list_pop mt_popU popG_ok (ppl_nm 0 (pv 0)) (pad_cons ped_int pad_nil) rfl) (ppl_nm 0 (pv 0)) ped_int))
    psd_nil)
    (psd_cons (psd_if (ptd_view 0 (ptd_cmp op_gt gtD_ok (nomark _) (ped_ix (ped_var 0 (pv 0)) ped_int fun _ _ => rfl) ped_int))
    (psd_cons (psd_asg (i := 2) (sc_law_below).nd rfl (by first | exact Or.inl rfl | exact Or.inr rfl) (PE.sh (ped_bin op_mod modD_ok (ped_view 0 (ped_ix (ped_var 0 (pv 0)) ped_int fun _ _ => rfl)) (ped_var 1 (pv 1)))))
    (psd_cons (psd_put (ped_bin op_fdivW fdvD_ok (ped_view 0 (ped_ix (ped_var 0 (pv 0)) ped_int fun _ _ => rfl)) (ped_var 1 (pv 1))) (ppl_nm 0 (pv 0)) ped_int)
    (psd_one (psd_ret (PE.sh (ped_var 2 (pv 2)))))))
    psd_nil)
    (psd_cons (psd_put (ped_bin op_mod modD_ok (ped_bin op_addU addD_ok (ped_bin op_mulU mulD_ok (ped_view 0 (ped_ix (ped_var 0 (pv 0)) ped_int fun _ _ => rfl)) ped_int) ped_int) ped_int) (ppl_nm 0 (pv 0)) ped_int)
    (psd_one (psd_ret (PE.sh (ped_bin op_mod modD_ok (ped_bin op_fdivW fdvD_ok (ped_view 0 (ped_ix (ped_var 0 (pv 0)) ped_int fun _ _ => rfl)) ped_int) (ped_var 1 (pv 1)))))))))
theorem ok_law_shuffled (Z : Fs K mg) : DefOk P w K mg base 2 (He.ga K "_law_shuffled") ["_law_d", "_law_items"] f_law_shuffled := by
  obtain ⟨fd, FF⟩ := Z.F_law_shuffled
  exact def_ok (k := 1) (N := N_law_shuffled) FF sc_law_shuffled (fun _ _ _ _ _ _ us hl => match us, hl with | [_, _], _ => rfl) fun cdv A outer s H vs E hr =>
    (psd_cons (psd_asg (i := 2) (sc_law_shuffled).nd rfl (by first | exact Or.inl rfl | exact Or.inr rfl) (peo_callTy call_list_of listS_ok (by rfl) Z.u_list (by decide +kernel) (pad_cons (ped_var 1 (pv 1)) pad_nil)))
    (psd_cons (psd_asg (i := 3) (sc_law_shuffled).nd rfl (by first | exact Or.inl rfl | exact Or.inr rfl) (peo_list pad_nil))
    (psd_cons (psd_while 1000000 PassesOwn.never (ptd_view 2 (ptd_cmp (op_neD hr.units) neD_ok (nomark _) (ped_var 2 (pv 2)) (PE.frz (peo_list pad_nil))))
    (psd_one (psd_expr (PE.sh (ped_mut F.slot_list_append F.type_list_append mt_append appG_ok (ppl_nm 3 (pv 3)) (pad_cons (ped_mut F.slot_list_pop F.type_list_pop mt_popU popG_ok (ppl_nm 2 (pv 2)) (pad_cons (PE.frz (cwO (ok_law_below Z) hr (by decide) (by rfl) Z.g__law_below (par_sl 0 (pv 0) (par_sh (ped_view 2 (ped_callB call_lenU lenD_ok (by rfl) Z.u_len (by decide +kernel) (pad_cons (ped_var 2 (pv 2)) pad_nil))) par_nil)))) pad_nil) rfl) pad_nil) rfl)))))
    (psd_one (psd_ret (peo_varO 3 (pv 3)))))))
theorem ok_law_ordered (Z : Fs K mg) : DefOk P w K mg base 1 (He.ga K "_law_ordered") ["_law_plan_here"] f_law_ordered := by
  obtain ⟨fd, FF⟩ := Z.F_law_ordered
  exact def_ok (k := 0) (N := N_law_ordered) FF sc_law_ordered (fun _ _ _ _ _ _ us hl => match us, hl with | [_], _ => rfl) fun cdv A outer s H vs E hr =>
    (psd_cons (psd_asg (i := 1) (sc_law_ordered).nd rfl (by first | exact Or.inl rfl | exact Or.inr rfl) (PE.sh (PE.frz (peo_list pad_nil))))
    (psd_cons (psd_for PassesOwn.never rfl (pid_range1 (by rfl) Z.u_range (pad_cons (ped_ix (ped_var 0 (pv 0)) ped_int fun _ _ => rfl) pad_nil)) (pgd_name (i := 2) (sc_law_ordered).nd rfl (by first | exact Or.inl rfl | exact Or.inr rfl))
    (psd_one (psd_asg (i := 1) (sc_law_ordered).nd rfl (by first | exact Or.inl rfl | exact Or.inr rfl) (PE.sh (ped_bin op_addU addD_ok (ped_var 1 (pv 1)) (PE.frz (peo_lc (own := [("_law_meeting", 3)]) rfl (sc_law_ordered).nd (pid_any (ped_ix (ped_var 0 (pv 0)) ped_int fun _ _ => rfl)) (blkOk_by (own := [("_law_meeting", 3)]) (N := N_law_ordered) (sc := defScope s_law_ordered) (by decide +kernel)) (fun _ _ _ _ _ => (pgd_name (i := 3) (sc_law_ordered).nd rfl (by first | exact Or.inl rfl | exact Or.inr rfl))) (fun _ _ _ _ _ => (ptsd_one (ptd_cmp (op_eqD hr.units) eqD_ok (nomark _) (ped_ix (ped_var 3 (pv 3)) ped_int fun _ _ => rfl) (ped_var 2 (pv 2))))) (fun _ _ _ _ _ => (ped_var 3 (pv 3))) gnm_ok (by decide))))))))
    (psd_one (psd_ret (PE.sh (ped_tup (pad_cons (ped_ix (ped_var 0 (pv 0)) ped_int fun _ _ => rfl) (pad_cons (ped_ix (ped_var 0 (pv 0)) ped_int fun _ _ => rfl) (pad_cons (ped_var 1 (pv 1)) pad_nil)))))))))
theorem ok_law_plan (Z : Fs K mg) : DefOk P w K mg base 3 (He.ga K "_law_plan") ["_law_d", "_law_most", "_law_ticks"] f_law_plan := by
  obtain ⟨fd, FF⟩ := Z.F_law_plan
  exact def_ok (k := 2) (N := N_law_plan) FF sc_law_plan (fun _ _ _ _ _ _ us hl => match us, hl with | [_, _, _], _ => rfl) fun cdv A outer s H vs E hr =>
    (psd_cons (psd_asg (i := 3) (sc_law_plan).nd rfl (by first | exact Or.inl rfl | exact Or.inr rfl) (PE.sh (PE.frz (cwO (ok_law_shuffled Z) hr (by decide) (by rfl) Z.g__law_shuffled (par_sl 0 (pv 0) (par_sh (PE.frz (peo_list (pad_cons ped_str (pad_cons ped_str (pad_cons ped_str (pad_cons ped_str (pad_cons ped_str (pad_cons ped_str (pad_cons ped_str (pad_cons ped_str pad_nil)))))))))) par_nil))))))
    (psd_cons (psd_asg (i := 3) (sc_law_plan).nd rfl (by first | exact Or.inl rfl | exact Or.inr rfl) (PE.sh (ped_sl (ped_var 3 (pv 3)) pod_none (pod_some (ped_bin op_addU addD_ok ped_int (PE.frz (cwO (ok_law_below Z) hr (by decide) (by rfl) Z.g__law_below (par_sl 0 (pv 0) (par_sh (ped_bin op_sub subD_ok (ped_var 1 (pv 1)) ped_int) par_nil)))))))))
    (psd_cons (psd_par (i := 4) (j := 5) rfl (sc_law_plan).nd rfl rfl (by decide) rfl rfl (pas_cons (PE.sh (ped_bin op_addU addD_ok ped_int (PE.frz (cwO (ok_law_below Z) hr (by decide) (by rfl) Z.g__law_below (par_sl 0 (pv 0) (par_sh (ped_var 2 (pv 2)) par_nil)))))) (pas_cons (PE.sh (PE.frz (peo_list pad_nil))) pas_nil)) rfl)
    (psd_cons (psd_for PassesOwn.never rfl (pid_range1 (by rfl) Z.u_range (pad_cons (ped_bin op_sub subD_ok (ped_ix (PE.frz (peo_list (pad_cons (ped_bin op_mulU mulD_ok ped_int (ped_callB call_lenU lenD_ok (by rfl) Z.u_len (by decide +kernel) (pad_cons (ped_var 3 (pv 3)) pad_nil))) (pad_cons ped_int pad_nil)))) (ped_callTy call_intU toInt_ok (by rfl) Z.u_int (by decide +kernel) (pad_cons (ped_cmp (op_eqD hr.units) eqD_ok (nomark _) (PE.frz (cwO (ok_law_below Z) hr (by decide) (by rfl) Z.g__law_below (par_sl 0 (pv 0) (par_sh ped_int par_nil)))) ped_int) pad_nil)) fun _ _ => rfl) (PE.frz (cwO (ok_law_below Z) hr (by decide) (by rfl) Z.g__law_below (par_sl 0 (pv 0) (par_sh ped_int par_nil))))) pad_nil)) (pgd_name (i := 6) (sc_law_plan).nd rfl (by first | exact Or.inl rfl | exact Or.inr rfl))
    (psd_cons (psd_asg (i := 7) (sc_law_plan).nd rfl (by first | exact Or.inl rfl | exact Or.inr rfl) (PE.sh (PE.frz (cwO (ok_law_below Z) hr (by decide) (by rfl) Z.g__law_below (par_sl 0 (pv 0) (par_sh (ped_callB call_lenU lenD_ok (by rfl) Z.u_len (by decide +kernel) (pad_cons (ped_var 3 (pv 3)) pad_nil)) par_nil))))))
    (psd_cons (psd_asg (i := 8) (sc_law_plan).nd rfl (by first | exact Or.inl rfl | exact Or.inr rfl) (PE.sh (ped_bin op_mod modD_ok (ped_bin op_addU addD_ok (ped_bin op_addU addD_ok (ped_var 7 (pv 7)) ped_int) (PE.frz (cwO (ok_law_below Z) hr (by decide) (by rfl) Z.g__law_below (par_sl 0 (pv 0) (par_sh (ped_bin op_sub subD_ok (ped_callB call_lenU lenD_ok (by rfl) Z.u_len (by decide +kernel) (pad_cons (ped_var 3 (pv 3)) pad_nil)) ped_int) par_nil))))) (ped_callB call_lenU lenD_ok (by rfl) Z.u_len (by decide +kernel) (pad_cons (ped_var 3 (pv 3)) pad_nil)))))
    (psd_cons (psd_asg (i := 9) (sc_law_plan).nd rfl (by first | exact Or.inl rfl | exact Or.inr rfl) (PE.sh (ped_tup (pad_cons (ped_ix (PE.frz (peo_list (pad_cons ped_str (pad_cons ped_str pad_nil)))) (PE.frz (cwO (ok_law_below Z) hr (by decide) (by rfl) Z.g__law_below (par_sl 0 (pv 0) (par_sh ped_int par_nil)))) fun _ _ => rfl) (pad_cons (ped_var 7 (pv 7)) (pad_cons (ped_var 8 (pv 8)) (pad_cons (PE.frz (cwO (ok_law_below Z) hr (by decide) (by rfl) Z.g__law_below (par_sl 0 (pv 0) (par_sh (ped_var 4 (pv 4)) par_nil)))) pad_nil)))))))
    (psd_one (psd_asg (i := 5) (sc_law_plan).nd rfl (by first | exact Or.inl rfl | exact Or.inr rfl) (PE.sh (ped_bin op_addU addD_ok (ped_var 5 (pv 5)) (ped_bin op_mulU mulD_ok (PE.frz (peo_list (pad_cons (ped_var 9 (pv 9)) pad_nil))) (ped_callTy call_intU toInt_ok (by rfl) Z.u_int (by decide +kernel) (pad_cons (ped_cmp (op_ninU (room65 hr)) ninD_ok rfl (ped_var 9 (pv 9)) (ped_var 5 (pv 5))) pad_nil)))))))))))
    (psd_one (psd_ret (cw (ok_law_ordered Z) hr (by decide) (by rfl) Z.g__law_ordered (pad_cons (ped_tup (pad_cons (ped_var 4 (pv 4)) (pad_cons (ped_callTy call_tupF tupD_ok (by rfl) Z.u_tuple (by decide +kernel) (pad_cons (ped_var 3 (pv 3)) pad_nil)) (pad_cons (ped_var 5 (pv 5)) pad_nil)))) pad_nil))))))))
theorem ok_law_told (Z : Fs K mg) : DefOk P w K mg base 1 (He.ga K "_law_told") ["_law_known", "_law_teller", "_law_hearer"] f_law_told := by
  obtain ⟨fd, FF⟩ := Z.F_law_told
  exact def_ok (k := 0) (N := N_law_told) FF sc_law_told (fun _ _ _ _ _ _ us hl => match us, hl with | [_, _, _], _ => rfl) fun cdv A outer s H vs E hr =>
    (psd_cons (psd_asg (i := 3) (sc_law_told).nd rfl (by first | exact Or.inl rfl | exact Or.inr rfl) (peo_callTy (call_dictU rfl) dictS_ok (by rfl) Z.u_dict (by decide +kernel) (pad_cons (PE.frz (peo_lc (own := [("_law_key", 4)]) rfl (sc_law_told).nd (pid_itE (ped_ixE (room65 hr) (ped_var 0 (pv 0)) (ped_var 2 (pv 2)) fun _ _ => rfl)) (blkOk_by (own := [("_law_key", 4)]) (N := N_law_told) (sc := defScope s_law_told) (by decide +kernel)) (fun _ _ _ _ _ => (pgd_name (i := 4) (sc_law_told).nd rfl (by first | exact Or.inl rfl | exact Or.inr rfl))) (fun _ _ _ _ _ => ptsd_nil) (fun _ _ _ _ _ => (ped_tup (pad_cons (ped_var 4 (pv 4)) (pad_cons (ped_ixE (room65 hr) (ped_ixE (room65 hr) (ped_var 0 (pv 0)) (ped_var 2 (pv 2)) fun _ _ => rfl) (ped_var 4 (pv 4)) fun _ _ => rfl) pad_nil)))) gnm_ok (by decide))) pad_nil)))
    (psd_cons (psd_for PassesOwn.never rfl (pid_itE (ped_ixE (room65 hr) (ped_var 0 (pv 0)) (ped_var 1 (pv 1)) fun _ _ => rfl)) (pgd_name (i := 4) (sc_law_told).nd rfl (by first | exact Or.inl rfl | exact Or.inr rfl))
    (psd_one (psd_dput 3 (room65 hr) (ped_callB (call_maxE rfl) maxE_ok (by rfl) Z.u_max (by decide +kernel) (pad_cons (PE.frz (peo_list (pad_cons (ped_ixE (room65 hr) (ped_ixE (room65 hr) (ped_var 0 (pv 0)) (ped_var 1 (pv 1)) fun _ _ => rfl) (ped_var 4 (pv 4)) fun _ _ => rfl) (pad_cons (ped_oget2 3 (room65 hr) (pv 3) (ped_var 4 (pv 4)) (ped_bin op_sub subD_ok ped_int ped_int) ⟨rfl, rfl, rfl, rfl⟩) pad_nil)))) pad_nil)) (pv 3) (ped_var 4 (pv 4)))))
    (psd_one (psd_ret (PE.sh (PE.lok (peo_varO 3 (pv 3))))))))
theorem ok_law_held (Z : Fs K mg) : DefOk P w K mg base 2 (He.ga K "_law_held") ["_law_known", "_law_meeting"] f_law_held := by
  obtain ⟨fd, FF⟩ := Z.F_law_held
  exact def_ok (k := 1) (N := N_law_held) FF sc_law_held (fun _ _ _ _ _ _ us hl => match us, hl with | [_, _], _ => rfl) fun cdv A outer s H vs E hr =>
    (psd_cons (psd_asgT (ped_var 1 (pv 1)) (pgd_tup rfl (pgds_cons (pgd_name (i := 2) (sc_law_held).nd rfl (by first | exact Or.inl rfl | exact Or.inr rfl)) (pgds_cons (pgd_name (i := 3) (sc_law_held).nd rfl (by first | exact Or.inl rfl | exact Or.inr rfl)) (pgds_cons (pgd_name (i := 4) (sc_law_held).nd rfl (by first | exact Or.inl rfl | exact Or.inr rfl)) (pgds_cons (pgd_name (i := 5) (sc_law_held).nd rfl (by first | exact Or.inl rfl | exact Or.inr rfl)) pgds_nil)))) (gcns_len (gcns_len (gcns_len (gcns_len gnil_len))))))
    (psd_cons (psd_asg (i := 6) (sc_law_held).nd rfl (by first | exact Or.inl rfl | exact Or.inr rfl) (PE.sh (ped_if (ptd_cmp (op_eqD hr.units) eqD_ok (nomark _) (ped_var 2 (pv 2)) ped_str) (PE.frz (cw (ok_law_told Z) hr (by decide) (by rfl) Z.g__law_told (pad_cons (ped_var 0 (pv 0)) (pad_cons (ped_var 4 (pv 4)) (pad_cons (ped_var 3 (pv 3)) pad_nil))))) (ped_ixE (room65 hr) (ped_var 0 (pv 0)) (ped_var 3 (pv 3)) fun _ _ => rfl))))
    (psd_cons (psd_asg (i := 7) (sc_law_held).nd rfl (by first | exact Or.inl rfl | exact Or.inr rfl) (PE.sh (PE.frz (cw (ok_law_told Z) hr (by decide) (by rfl) Z.g__law_told (pad_cons (ped_var 0 (pv 0)) (pad_cons (ped_var 3 (pv 3)) (pad_cons (ped_var 4 (pv 4)) pad_nil)))))))
    (psd_one (psd_ret (peo_lc (own := [("_law_k", 8)]) rfl (sc_law_held).nd (pid_range1 (by rfl) Z.u_range (pad_cons (ped_callB call_lenU lenD_ok (by rfl) Z.u_len (by decide +kernel) (pad_cons (ped_var 0 (pv 0)) pad_nil)) pad_nil)) (blkOk_by (own := [("_law_k", 8)]) (N := N_law_held) (sc := defScope s_law_held) (by decide +kernel)) (fun _ _ _ _ _ => (pgd_name (i := 8) (sc_law_held).nd rfl (by first | exact Or.inl rfl | exact Or.inr rfl))) (fun _ _ _ _ _ => ptsd_nil) (fun _ _ _ _ _ => (ped_if (ptd_cmp (op_eqD hr.units) eqD_ok (nomark _) (ped_var 8 (pv 8)) (ped_var 3 (pv 3))) (ped_var 6 (pv 6)) (ped_if (ptd_cmp (op_eqD hr.units) eqD_ok (nomark _) (ped_var 8 (pv 8)) (ped_var 4 (pv 4))) (ped_var 7 (pv 7)) (ped_ixE (room65 hr) (ped_var 0 (pv 0)) (ped_var 8 (pv 8)) fun _ _ => rfl)))) gnm_ok (by decide)))))))
theorem ok_law_passed (Z : Fs K mg) : DefOk P w K mg base 3 (He.ga K "_law_passed") ["_law_plan_here", "_law_known", "_law_tick"] f_law_passed := by
  obtain ⟨fd, FF⟩ := Z.F_law_passed
  exact def_ok (k := 2) (N := N_law_passed) FF sc_law_passed (fun _ _ _ _ _ _ us hl => match us, hl with | [_, _, _], _ => rfl) fun cdv A outer s H vs E hr =>
    (psd_cons (psd_asg (i := 1) (sc_law_passed).nd rfl (by first | exact Or.inl rfl | exact Or.inr rfl) (PE.sh (PE.frz (peo_lc (own := [("_law_k", 3)]) rfl (sc_law_passed).nd (pid_range1 (by rfl) Z.u_range (pad_cons (ped_callB call_lenU lenD_ok (by rfl) Z.u_len (by decide +kernel) (pad_cons (ped_var 1 (pv 1)) pad_nil)) pad_nil)) (blkOk_by (own := [("_law_k", 3)]) (N := N_law_passed) (sc := defScope s_law_passed) (by decide +kernel)) (fun _ _ _ _ _ => (pgd_name (i := 3) (sc_law_passed).nd rfl (by first | exact Or.inl rfl | exact Or.inr rfl))) (fun _ _ _ _ _ => ptsd_nil) (fun _ _ _ _ _ => (PE.frz (cw (ok_law_told Z) hr (by decide) (by rfl) Z.g__law_told (pad_cons (PE.frz (peo_list (pad_cons (ped_ixE (room65 hr) (ped_var 1 (pv 1)) (ped_var 3 (pv 3)) fun _ _ => rfl) (pad_cons (PE.lok (peo_dsp1 (ped_var 3 (pv 3)) (ped_var 2 (pv 2)))) pad_nil)))) (pad_cons ped_int (pad_cons ped_int pad_nil)))))) gnm_ok (by decide)))))
    (psd_cons (psd_for PassesOwn.never rfl (pid_itE (ped_ixE (room65 hr) (ped_var 0 (pv 0)) ped_int fun _ _ => rfl)) (pgd_name (i := 4) (sc_law_passed).nd rfl (by first | exact Or.inl rfl | exact Or.inr rfl))
    (psd_one (psd_if (ptd_cmp (op_eqD hr.units) eqD_ok (nomark _) (ped_ixE (room65 hr) (ped_var 4 (pv 4)) ped_int fun _ _ => rfl) (ped_bin op_mod modD_ok (ped_var 2 (pv 2)) (ped_ixE (room65 hr) (ped_var 0 (pv 0)) ped_int fun _ _ => rfl)))
    (psd_one (psd_asg (i := 1) (sc_law_passed).nd rfl (by first | exact Or.inl rfl | exact Or.inr rfl) (PE.sh (PE.frz (cw (ok_law_held Z) hr (by decide) (by rfl) Z.g__law_held (pad_cons (ped_var 1 (pv 1)) (pad_cons (ped_var 4 (pv 4)) pad_nil)))))))
    psd_nil)))
    (psd_one (psd_ret (PE.sh (ped_var 1 (pv 1)))))))
theorem ok_law_days (Z : Fs K mg) : DefOk P w K mg base 4 (He.ga K "_law_days") ["_law_plan_here", "_law_ticks"] f_law_days := by
  obtain ⟨fd, FF⟩ := Z.F_law_days
  exact def_ok (k := 3) (N := N_law_days) FF sc_law_days (fun _ _ _ _ _ _ us hl => match us, hl with | [_, _], _ => rfl) fun cdv A outer s H vs E hr =>
    (psd_cons (psd_parT (is := [2, 3]) rfl (by rfl) (pgs_cons (pg_name (i := 2) (sc_law_days).nd rfl (by first | exact Or.inl rfl | exact Or.inr rfl)) (pgs_cons (pg_name (i := 3) (sc_law_days).nd rfl (by first | exact Or.inl rfl | exact Or.inr rfl)) pgs_nil)) (pas_cons (PE.sh (PE.frz (peo_lc (own := [("_law_name", 4)]) rfl (sc_law_days).nd (pid_itE (ped_ixE (room65 hr) (ped_var 0 (pv 0)) ped_int fun _ _ => rfl)) (blkOk_by (own := [("_law_name", 4)]) (N := N_law_days) (sc := defScope s_law_days) (by decide +kernel)) (fun _ _ _ _ _ => (pgd_name (i := 4) (sc_law_days).nd rfl (by first | exact Or.inl rfl | exact Or.inr rfl))) (fun _ _ _ _ _ => ptsd_nil) (fun _ _ _ _ _ => (PE.lok peo_dsp0)) gnm_ok (by decide)))) (pas_cons (peo_list pad_nil) pas_nil)))
    (psd_cons (psd_for PassesOwn.never rfl (pid_range1 (by rfl) Z.u_range (pad_cons (ped_var 1 (pv 1)) pad_nil)) (pgd_name (i := 5) (sc_law_days).nd rfl (by first | exact Or.inl rfl | exact Or.inr rfl))
    (psd_cons (psd_asg (i := 2) (sc_law_days).nd rfl (by first | exact Or.inl rfl | exact Or.inr rfl) (PE.sh (PE.frz (cw (ok_law_passed Z) hr (by decide) (by rfl) Z.g__law_passed (pad_cons (ped_var 0 (pv 0)) (pad_cons (ped_var 2 (pv 2)) (pad_cons (ped_var 5 (pv 5)) pad_nil)))))))
    (psd_one (psd_expr (PE.sh (ped_mut F.slot_list_append F.type_list_append mt_append appG_ok (ppl_nm 3 (pv 3)) (pad_cons (PE.frz (peo_lc (own := [("_law_row", 7)]) rfl (sc_law_days).nd (pid_itE (ped_var 2 (pv 2))) (blkOk_by (own := [("_law_row", 7)]) (N := N_law_days) (sc := defScope s_law_days) (by decide +kernel)) (fun _ _ _ _ _ => (pgd_name (i := 7) (sc_law_days).nd rfl (by first | exact Or.inl rfl | exact Or.inr rfl))) (fun _ _ _ _ _ => ptsd_nil) (fun _ _ _ _ _ => (PE.frz (peo_lc (own := [("_law_k", 6)]) rfl (sc_law_days).nd (pid_range1 (by rfl) Z.u_range (pad_cons (ped_callB call_lenU lenD_ok (by rfl) Z.u_len (by decide +kernel) (pad_cons (ped_var 2 (pv 2)) pad_nil)) pad_nil)) (blkOk_nest (own := [("_law_k", 6)]) (N := N_law_days) (by decide +kernel)) (fun _ _ _ _ _ => (pgd_name (i := 6) (sc_law_days).nd rfl (by first | exact Or.inl rfl | exact Or.inr rfl))) (fun _ _ _ _ _ => ptsd_nil) (fun _ _ _ _ _ => (ped_if (ptd_cmp (op_inE (room65 hr)) inE_ok rfl (ped_var 6 (pv 6)) (ped_var 7 (pv 7))) (ped_bin op_sub subD_ok (ped_var 5 (pv 5)) (ped_ixE (room65 hr) (ped_var 7 (pv 7)) (ped_var 6 (pv 6)) fun _ _ => rfl)) ped_non)) gnm_ok (by decide)))) gnm_ok (by decide))) pad_nil) rfl))))))
    (psd_one (psd_ret (peo_varO 3 (pv 3))))))
theorem ok_law_enough (Z : Fs K mg) : DefOk P w K mg base 1 (He.ga K "_law_enough") ["_law_plan_here"] f_law_enough := by
  obtain ⟨fd, FF⟩ := Z.F_law_enough
  exact def_ok (k := 0) (N := N_law_enough) FF sc_law_enough (fun _ _ _ _ _ _ us hl => match us, hl with | [_], _ => rfl) fun cdv A outer s H vs E hr =>
    (psd_one (psd_ret (PE.sh (ped_bin op_mulU mulE_ok (ped_ixE (room65 hr) (ped_var 0 (pv 0)) ped_int fun _ _ => rfl) (ped_bin op_addU addD_ok (ped_callB call_lenU lenD_ok (by rfl) Z.u_len (by decide +kernel) (pad_cons (ped_ixE (room65 hr) (ped_var 0 (pv 0)) ped_int fun _ _ => rfl) pad_nil)) ped_int)))))
theorem ok_law_all (Z : Fs K mg) : DefOk P w K mg base 5 (He.ga K "_law_all") ["_law_plan_here"] f_law_all := by
  obtain ⟨fd, FF⟩ := Z.F_law_all
  exact def_ok (k := 4) (N := N_law_all) FF sc_law_all (fun _ _ _ _ _ _ us hl => match us, hl with | [_], _ => rfl) fun cdv A outer s H vs E hr =>
    (psd_one (psd_ret (cw (ok_law_days Z) hr (by decide) (by rfl) Z.g__law_days (pad_cons (ped_var 0 (pv 0)) (pad_cons (ped_bin op_addU addD_ok (PE.frz (cw (ok_law_enough Z) hr (by decide) (by rfl) Z.g__law_enough (pad_cons (ped_var 0 (pv 0)) pad_nil))) (ped_ixE (room65 hr) (ped_var 0 (pv 0)) ped_int fun _ _ => rfl)) pad_nil)))))
theorem ok_law_greatest (Z : Fs K mg) : DefOk P w K mg base 6 (He.ga K "_law_greatest") ["_law_plan_here"] f_law_greatest := by
  obtain ⟨fd, FF⟩ := Z.F_law_greatest
  exact def_ok (k := 5) (N := N_law_greatest) FF sc_law_greatest (fun _ _ _ _ _ _ us hl => match us, hl with | [_], _ => rfl) fun cdv A outer s H vs E hr =>
    (psd_cons (psd_asg (i := 1) (sc_law_greatest).nd rfl (by first | exact Or.inl rfl | exact Or.inr rfl) (PE.sh (PE.frz (peo_list pad_nil))))
    (psd_cons (psd_for PassesOwn.never rfl (pid_itE (ped_sl (PE.frz (cw (ok_law_all Z) hr (by decide) (by rfl) Z.g__law_all (pad_cons (ped_var 0 (pv 0)) pad_nil))) (pod_some (PE.frz (cw (ok_law_enough Z) hr (by decide) (by rfl) Z.g__law_enough (pad_cons (ped_var 0 (pv 0)) pad_nil)))) pod_none)) (pgd_name (i := 2) (sc_law_greatest).nd rfl (by first | exact Or.inl rfl | exact Or.inr rfl))
    (psd_one (psd_for PassesOwn.never rfl (pid_itE (ped_var 2 (pv 2))) (pgd_name (i := 3) (sc_law_greatest).nd rfl (by first | exact Or.inl rfl | exact Or.inr rfl))
    (psd_one (psd_asg (i := 1) (sc_law_greatest).nd rfl (by first | exact Or.inl rfl | exact Or.inr rfl) (PE.sh (ped_bin op_addU addD_ok (ped_var 1 (pv 1)) (ped_var 3 (pv 3)))))))))
    (psd_one (psd_ret (peo_if (ptd_cmp (op_inE (room65 hr)) inE_ok rfl ped_non (ped_var 1 (pv 1))) (PE.sh ped_non) (PE.sh (ped_callB (call_maxE rfl) maxE_ok (by rfl) Z.u_max (by decide +kernel) (pad_cons (ped_var 1 (pv 1)) pad_nil))))))))
theorem ok_law_equal (Z : Fs K mg) : ∀ n : Nat, DefOk P w K mg base (n + 1) (He.ga K "_law_equal") ["_law_actual", "_law_expected"] (f_law_equal n)
  | 0 => by
    obtain ⟨fd, FF⟩ := Z.F_law_equal
    exact def_none FF (fun _ _ _ _ _ _ us hl => match us, hl with | [_, _], _ => rfl)
  | n + 1 => by
    have ih := ok_law_equal Z n
    obtain ⟨fd, FF⟩ := Z.F_law_equal
    exact def_ok (k := n + 1) (N := N_law_equal) FF sc_law_equal (fun _ _ _ _ _ _ us hl => match us, hl with | [_, _], _ => rfl) fun cdv A outer s H vs E hr =>
    (psd_cons (psd_if (ptd_cmp op_isN isD_ok (nomark _) (ped_var 1 (pv 1)) ped_non)
    (psd_one (psd_ret (PE.sh (ped_cmp op_isN isD_ok (nomark _) (ped_var 0 (pv 0)) ped_non))))
    psd_nil)
    (psd_cons (psd_if (ptd_val (ped_isi (by rfl) Z.u_isinstance (by rfl) Z.u_bool (by decide +kernel) (ped_var 1 (pv 1))))
    (psd_one (psd_ret (PE.sh (ped_and (ped_isi (by rfl) Z.u_isinstance (by rfl) Z.u_bool (by decide +kernel) (ped_var 0 (pv 0))) (ped_one (ped_cmp (op_eqD hr.units) eqD_ok (nomark _) (ped_var 0 (pv 0)) (ped_var 1 (pv 1))))))))
    psd_nil)
    (psd_cons (psd_if (ptd_val (ped_isi (by rfl) Z.u_isinstance (by rfl) Z.u_int (by decide +kernel) (ped_var 1 (pv 1))))
    (psd_one (psd_ret (PE.sh (ped_and (ped_isi (by rfl) Z.u_isinstance (by rfl) Z.u_int (by decide +kernel) (ped_var 0 (pv 0))) (ped_and (ped_not (ped_isi (by rfl) Z.u_isinstance (by rfl) Z.u_bool (by decide +kernel) (ped_var 0 (pv 0)))) (ped_one (ped_cmp (op_eqD hr.units) eqD_ok (nomark _) (ped_var 0 (pv 0)) (ped_var 1 (pv 1)))))))))
    psd_nil)
    (psd_cons (psd_if (ptd_val (ped_isi (by rfl) Z.u_isinstance (by rfl) Z.u_str (by decide +kernel) (ped_var 1 (pv 1))))
    (psd_one (psd_ret (PE.sh (ped_and (ped_isi (by rfl) Z.u_isinstance (by rfl) Z.u_str (by decide +kernel) (ped_var 0 (pv 0))) (ped_one (ped_cmp (op_eqD hr.units) eqD_ok (nomark _) (ped_var 0 (pv 0)) (ped_var 1 (pv 1))))))))
    psd_nil)
    (psd_cons (psd_if (ptd_cmp (op_neD hr.units) neD_ok (nomark _) (ped_isi (by rfl) Z.u_isinstance (by rfl) Z.u_tuple (by decide +kernel) (ped_var 1 (pv 1))) (ped_isi (by rfl) Z.u_isinstance (by rfl) Z.u_tuple (by decide +kernel) (ped_var 0 (pv 0))))
    (psd_one (psd_ret (PE.sh ped_bl)))
    psd_nil)
    (psd_cons (psd_if (ptd_cmp (op_neD hr.units) neD_ok (nomark _) (ped_isi (by rfl) Z.u_isinstance (by rfl) Z.u_list (by decide +kernel) (ped_var 1 (pv 1))) (ped_isi (by rfl) Z.u_isinstance (by rfl) Z.u_list (by decide +kernel) (ped_var 0 (pv 0))))
    (psd_one (psd_ret (PE.sh ped_bl)))
    psd_nil)
    (psd_cons (psd_if (ptd_cmp (op_neD hr.units) neD_ok (nomark _) (ped_callB call_lenU lenD_ok (by rfl) Z.u_len (by decide +kernel) (pad_cons (ped_var 0 (pv 0)) pad_nil)) (ped_callB call_lenU lenD_ok (by rfl) Z.u_len (by decide +kernel) (pad_cons (ped_var 1 (pv 1)) pad_nil)))
    (psd_one (psd_ret (PE.sh ped_bl)))
    psd_nil)
    (psd_one (psd_ret (PE.sh (ped_callB (cr_all rfl) allD_ok (by rfl) Z.u_all (by decide +kernel) (pad_cons (PE.frz (peo_lc (own := [("_law_k", 2)]) rfl (sc_law_equal).nd (pid_range1 (by rfl) Z.u_range (pad_cons (ped_callB call_lenU lenD_ok (by rfl) Z.u_len (by decide +kernel) (pad_cons (ped_var 1 (pv 1)) pad_nil)) pad_nil)) (blkOk_by (own := [("_law_k", 2)]) (N := N_law_equal) (sc := defScope s_law_equal) (by decide +kernel)) (fun _ _ _ _ _ => (pgd_name (i := 2) (sc_law_equal).nd rfl (by first | exact Or.inl rfl | exact Or.inr rfl))) (fun _ _ _ _ _ => ptsd_nil) (fun _ _ _ _ _ => (PE.frz (cw ih hr (Nat.le_refl _) (by rfl) Z.g__law_equal (pad_cons (ped_ix (ped_var 0 (pv 0)) (ped_var 2 (pv 2)) fun _ _ => rfl) (pad_cons (ped_ix (ped_var 1 (pv 1)) (ped_var 2 (pv 2)) fun _ _ => rfl) pad_nil))))) gnm_ok (by decide))) pad_nil))))))))))))
theorem ok_Parser_peek (Z : Fs K mg) : DefOk P w K mg base 1 (He.ma K (He.ga K "Parser") "peek") ["self"] f_Parser_peek := by
  obtain ⟨fd, FF⟩ := Z.F_Parser_peek
  exact def_ok (k := 0) (N := N_Parser_peek) FF sc_Parser_peek (fun _ _ _ _ _ _ us hl => match us, hl with | [_], _ => rfl) fun cdv A outer s H vs E hr =>
    (psd_one (psd_ret (PE.sh (ped_ix (ped_fldO 0 Z.c_Parser Z.n_Parser_tokens (pv 0) rfl) (ped_fldO 0 Z.c_Parser Z.n_Parser_at (pv 0) rfl) fun _ _ => rfl))))
theorem ok_Parser_take_word (Z : Fs K mg) : DefOk P w K mg base 2 (He.ma K (He.ga K "Parser") "take_word") ["self", "word"] f_Parser_take_word := by
  obtain ⟨fd, FF⟩ := Z.F_Parser_take_word
  exact def_ok (k := 1) (N := N_Parser_take_word) FF sc_Parser_take_word (fun _ _ _ _ _ _ us hl => match us, hl with | [_, _], _ => rfl) fun cdv A outer s H vs E hr =>
    (psd_cons (psd_asg (i := 2) (sc_Parser_take_word).nd rfl (by first | exact Or.inl rfl | exact Or.inr rfl) (PE.sh (PE.frz (mwO0 0 (pv 0) Z.c_Parser Z.m_Parser_peek (ok_Parser_peek Z) hr (by decide)))))
    (psd_cons (psd_if (ptd_cmp (op_neD hr.units) neD_ok (nomark _) (ped_fld Z.c_Token Z.n_Token_text (ped_var 2 (pv 2)) rfl) (ped_var 1 (pv 1)))
    psds_never
    psd_nil)
    (psd_cons (psd_fldaug 0 Z.c_Parser Z.n_Parser_at (pv 0) ped_int in_add)
    (psd_one (psd_ret (PE.sh (ped_var 2 (pv 2))))))))
theorem ok_Parser_take (Z : Fs K mg) : DefOk P w K mg base 2 (He.ma K (He.ga K "Parser") "take") ["self", "kind"] f_Parser_take := by
  obtain ⟨fd, FF⟩ := Z.F_Parser_take
  exact def_ok (k := 1) (N := N_Parser_take) FF sc_Parser_take (fun _ _ _ _ _ _ us hl => match us, hl with | [_, _], _ => rfl) fun cdv A outer s H vs E hr =>
    (psd_cons (psd_asg (i := 2) (sc_Parser_take).nd rfl (by first | exact Or.inl rfl | exact Or.inr rfl) (PE.sh (PE.frz (mwO0 0 (pv 0) Z.c_Parser Z.m_Parser_peek (ok_Parser_peek Z) hr (by decide)))))
    (psd_cons (psd_if (ptd_cmp (op_neD hr.units) neD_ok (nomark _) (ped_fld Z.c_Token Z.n_Token_kind (ped_var 2 (pv 2)) rfl) (ped_var 1 (pv 1)))
    psds_never
    psd_nil)
    (psd_cons (psd_fldaug 0 Z.c_Parser Z.n_Parser_at (pv 0) ped_int in_add)
    (psd_one (psd_ret (PE.sh (ped_var 2 (pv 2))))))))
theorem ok_Parser_parse_people (Z : Fs K mg) : DefOk P w K mg base 3 (He.ma K (He.ga K "Parser") "parse_people") ["self"] f_Parser_parse_people := by
  obtain ⟨fd, FF⟩ := Z.F_Parser_parse_people
  exact def_ok (k := 2) (N := N_Parser_parse_people) FF sc_Parser_parse_people (fun _ _ _ _ _ _ us hl => match us, hl with | [_], _ => rfl) fun cdv A outer s H vs E hr =>
    (psd_cons (psd_asg (i := 1) (sc_Parser_parse_people).nd rfl (by first | exact Or.inl rfl | exact Or.inr rfl) (PE.sh (PE.frz (mwO 0 (pv 0) Z.c_Parser Z.m_Parser_take_word (ok_Parser_take_word Z) hr (by decide) (par_sh ped_str par_nil)))))
    (psd_cons (psd_asg (i := 2) (sc_Parser_parse_people).nd rfl (by first | exact Or.inl rfl | exact Or.inr rfl) (peo_list (pad_cons (PE.frz (mwO 0 (pv 0) Z.c_Parser Z.m_Parser_take (ok_Parser_take Z) hr (by decide) (par_sh (ped_gstr (by rfl) Z.k_NAME) par_nil))) pad_nil)))
    (psd_cons (psd_while 1000000 PassesOwn.never (ptd_cmp (op_eqD hr.units) eqD_ok (nomark _) (ped_fld Z.c_Token Z.n_Token_kind (PE.frz (mwO0 0 (pv 0) Z.c_Parser Z.m_Parser_peek (ok_Parser_peek Z) hr (by decide))) rfl) (ped_gstr (by rfl) Z.k_NAME))
    (psd_one (psd_expr (PE.sh (ped_mut F.slot_list_append F.type_list_append mt_append appG_ok (ppl_nm 2 (pv 2)) (pad_cons (PE.frz (mwO 0 (pv 0) Z.c_Parser Z.m_Parser_take (ok_Parser_take Z) hr (by decide) (par_sh (ped_gstr (by rfl) Z.k_NAME) par_nil))) pad_nil) rfl)))))
    (psd_cons (psd_expr (mwO 0 (pv 0) Z.c_Parser Z.m_Parser_take_word (ok_Parser_take_word Z) hr (by decide) (par_sh ped_str par_nil)))
    (psd_cons (psd_for PassesOwn.never rfl (pid_any (ped_varF 2 (pv 2))) (pgd_name (i := 3) (sc_Parser_parse_people).nd rfl (by first | exact Or.inl rfl | exact Or.inr rfl))
    (psd_one (psd_if (ptd_view 0 (ptd_cmp (op_inU (room65 hr)) inD_ok rfl (ped_fld Z.c_Token Z.n_Token_text (ped_var 3 (pv 3)) rfl) (ped_fld Z.c_Parser Z.n_Parser_names (ped_var 0 (pv 0)) rfl)))
    psds_never
    (psd_one (psd_if (ptd_view 0 (ptd_cmp (op_eqD hr.units) eqD_ok (nomark _) (ped_callB call_lenU lenD_ok (by rfl) Z.u_len (by decide +kernel) (pad_cons (ped_fld Z.c_Parser Z.n_Parser_names (ped_var 0 (pv 0)) rfl) pad_nil)) (ped_gint (by rfl) Z.k_MAX_PEOPLE)))
    psds_never
    (psd_one (psd_expr (PE.sh (ped_mut F.slot_list_append F.type_list_append mt_append appG_ok (ppl_fl 0 Z.c_Parser Z.n_Parser_names (pv 0)) (pad_cons (ped_fld Z.c_Token Z.n_Token_text (ped_var 3 (pv 3)) rfl) pad_nil) rfl)))))))))
    (psd_one (psd_if (ptd_view 0 (ptd_cmp op_lt ltD_ok (nomark _) (ped_callB call_lenU lenD_ok (by rfl) Z.u_len (by decide +kernel) (pad_cons (ped_fld Z.c_Parser Z.n_Parser_names (ped_var 0 (pv 0)) rfl) pad_nil)) (ped_gint (by rfl) Z.k_MIN_PEOPLE)))
    psds_never
    psd_nil)))))))
theorem ok_Parser_person (Z : Fs K mg) : DefOk P w K mg base 3 (He.ma K (He.ga K "Parser") "person") ["self"] f_Parser_person := by
  obtain ⟨fd, FF⟩ := Z.F_Parser_person
  exact def_ok (k := 2) (N := N_Parser_person) FF sc_Parser_person (fun _ _ _ _ _ _ us hl => match us, hl with | [_], _ => rfl) fun cdv A outer s H vs E hr =>
    (psd_cons (psd_asg (i := 1) (sc_Parser_person).nd rfl (by first | exact Or.inl rfl | exact Or.inr rfl) (PE.sh (PE.frz (mwO 0 (pv 0) Z.c_Parser Z.m_Parser_take (ok_Parser_take Z) hr (by decide) (par_sh (ped_gstr (by rfl) Z.k_NAME) par_nil)))))
    (psd_cons (psd_if (ptd_view 0 (ptd_cmp (op_inU (room65 hr)) inD_ok rfl (ped_fld Z.c_Token Z.n_Token_text (ped_var 1 (pv 1)) rfl) (ped_fld Z.c_Parser Z.n_Parser_names (ped_var 0 (pv 0)) rfl)))
    (psd_one (psd_ret (PE.sh (ped_view 0 (ped_index (ped_fld Z.c_Parser Z.n_Parser_names (ped_var 0 (pv 0)) rfl) (ped_fld Z.c_Token Z.n_Token_text (ped_var 1 (pv 1)) rfl))))))
    psd_nil)
    psds_never))
theorem ok_Meeting_init (Z : Fs K mg) : DefOk P w K mg base 1 (He.ma K (He.ga K "Meeting") "__init__") ["self", "word", "one", "other", "tick"] f_Meeting_init := by
  obtain ⟨fd, FF⟩ := Z.F_Meeting_init
  exact def_ok (k := 0) (N := N_Meeting_init) FF sc_Meeting_init (fun _ _ _ _ _ _ us hl => match us, hl with | [_, _, _, _, _], _ => rfl) fun cdv A outer s H vs E hr =>
    (psd_cons (psd_fld 0 Z.c_Meeting Z.n_Meeting_word (pv 0) (PE.sh (ped_var 1 (pv 1))))
    (psd_cons (psd_fld 0 Z.c_Meeting Z.n_Meeting_one (pv 0) (PE.sh (ped_var 2 (pv 2))))
    (psd_cons (psd_fld 0 Z.c_Meeting Z.n_Meeting_other (pv 0) (PE.sh (ped_var 3 (pv 3))))
    (psd_one (psd_fld 0 Z.c_Meeting Z.n_Meeting_tick (pv 0) (PE.sh (ped_var 4 (pv 4))))))))
theorem ok_Meeting_key (Z : Fs K mg) : DefOk P w K mg base 1 (gAd K "Meeting" "key") ["self"] f_Meeting_key := by
  obtain ⟨fd, FF⟩ := Z.F_Meeting_key
  exact def_ok (k := 0) (N := N_Meeting_key) FF sc_Meeting_key (fun _ _ _ _ _ _ us hl => match us, hl with | [_], _ => rfl) fun cdv A outer s H vs E hr =>
    (psd_one (psd_ret (PE.sh (ped_tup (pad_cons (ped_fld Z.c_Meeting Z.n_Meeting_word (ped_var 0 (pv 0)) rfl) (pad_cons (ped_fld Z.c_Meeting Z.n_Meeting_one (ped_var 0 (pv 0)) rfl) (pad_cons (ped_fld Z.c_Meeting Z.n_Meeting_other (ped_var 0 (pv 0)) rfl) (pad_cons (ped_fld Z.c_Meeting Z.n_Meeting_tick (ped_var 0 (pv 0)) rfl) pad_nil))))))))
theorem ok_Parser_parse_meeting (Z : Fs K mg) : DefOk P w K mg base 4 (He.ma K (He.ga K "Parser") "parse_meeting") ["self", "size"] f_Parser_parse_meeting := by
  obtain ⟨fd, FF⟩ := Z.F_Parser_parse_meeting
  exact def_ok (k := 3) (N := N_Parser_parse_meeting) FF sc_Parser_parse_meeting (fun _ _ _ _ _ _ us hl => match us, hl with | [_, _], _ => rfl) fun cdv A outer s H vs E hr =>
    (psd_cons (psd_asg (i := 2) (sc_Parser_parse_meeting).nd rfl (by first | exact Or.inl rfl | exact Or.inr rfl) (PE.sh (PE.frz (mwO0 0 (pv 0) Z.c_Parser Z.m_Parser_peek (ok_Parser_peek Z) hr (by decide)))))
    (psd_cons (psd_if (ptd_cmp (op_ninU (room65 hr)) ninD_ok rfl (ped_fld Z.c_Token Z.n_Token_text (ped_var 2 (pv 2)) rfl) (ped_tup (pad_cons (ped_gstr (by rfl) Z.k_MEET) (pad_cons (ped_gstr (by rfl) Z.k_TELL) pad_nil))))
    psds_never
    psd_nil)
    (psd_cons (psd_fldaug 0 Z.c_Parser Z.n_Parser_at (pv 0) ped_int in_add)
    (psd_cons (psd_asg (i := 3) (sc_Parser_parse_meeting).nd rfl (by first | exact Or.inl rfl | exact Or.inr rfl) (PE.sh (PE.frz (mwO0 0 (pv 0) Z.c_Parser Z.m_Parser_person (ok_Parser_person Z) hr (by decide)))))
    (psd_cons (psd_asg (i := 4) (sc_Parser_parse_meeting).nd rfl (by first | exact Or.inl rfl | exact Or.inr rfl) (PE.sh (PE.frz (mwO0 0 (pv 0) Z.c_Parser Z.m_Parser_peek (ok_Parser_peek Z) hr (by decide)))))
    (psd_cons (psd_asg (i := 5) (sc_Parser_parse_meeting).nd rfl (by first | exact Or.inl rfl | exact Or.inr rfl) (PE.sh (PE.frz (mwO0 0 (pv 0) Z.c_Parser Z.m_Parser_person (ok_Parser_person Z) hr (by decide)))))
    (psd_cons (psd_if (PWD.pt (pwd_and (ptd_cmp (op_eqD hr.units) eqD_ok (nomark _) (ped_var 3 (pv 3)) (ped_var 5 (pv 5))) (pwd_and1 (ptd_cmp op_ge geD_ok (nomark _) (ped_var 3 (pv 3)) ped_int))))
    psds_never
    psd_nil)
    (psd_cons (psd_asg (i := 6) (sc_Parser_parse_meeting).nd rfl (by first | exact Or.inl rfl | exact Or.inr rfl) (PE.sh (PE.frz (mwO 0 (pv 0) Z.c_Parser Z.m_Parser_take (ok_Parser_take Z) hr (by decide) (par_sh (ped_gstr (by rfl) Z.k_NUMBER) par_nil)))))
    (psd_cons (psd_expr (mwO 0 (pv 0) Z.c_Parser Z.m_Parser_take_word (ok_Parser_take_word Z) hr (by decide) (par_sh ped_str par_nil)))
    (psd_cons (psd_if (ptd_cmp op_ge geD_ok (nomark _) (ped_callTy call_intU toInt_ok (by rfl) Z.u_int (by decide +kernel) (pad_cons (ped_fld Z.c_Token Z.n_Token_text (ped_var 6 (pv 6)) rfl) pad_nil)) (ped_var 1 (pv 1)))
    psds_never
    psd_nil)
    (psd_cons (psd_asg (i := 7) (sc_Parser_parse_meeting).nd rfl (by first | exact Or.inl rfl | exact Or.inr rfl) (PE.sh (PE.frz (mkw Z.i_Meeting (ok_Meeting_init Z) hr (by decide) (by rfl) Z.g_Meeting (pad_cons (ped_fld Z.c_Token Z.n_Token_text (ped_var 2 (pv 2)) rfl) (pad_cons (ped_var 3 (pv 3)) (pad_cons (ped_var 5 (pv 5)) (pad_cons (ped_callTy call_intU toInt_ok (by rfl) Z.u_int (by decide +kernel) (pad_cons (ped_fld Z.c_Token Z.n_Token_text (ped_var 6 (pv 6)) rfl) pad_nil)) pad_nil))))))))
    (psd_cons (psd_if (ptd_view 0 (ptd_cmp (op_inU (room65 hr)) inD_ok rfl (PE.frz (pwP (ped_var 7 (pv 7)) Z.c_Meeting Z.p_Meeting_key (ok_Meeting_key Z) hr (by decide))) (PE.frz (peo_lc (own := [("known", 8)]) rfl (sc_Parser_parse_meeting).nd (pid_any (ped_fld Z.c_Parser Z.n_Parser_meetings (ped_var 0 (pv 0)) rfl)) (blkOk_by (own := [("known", 8)]) (N := N_Parser_parse_meeting) (sc := defScope s_Parser_parse_meeting) (by decide +kernel)) (fun _ _ _ _ _ => (pgd_name (i := 8) (sc_Parser_parse_meeting).nd rfl (by first | exact Or.inl rfl | exact Or.inr rfl))) (fun _ _ _ _ _ => ptsd_nil) (fun _ _ _ _ _ => (PE.frz (pwP (ped_var 8 (pv 8)) Z.c_Meeting Z.p_Meeting_key (ok_Meeting_key Z) hr (by decide)))) gnm_ok (by decide)))))
    psds_never
    psd_nil)
    (psd_one (psd_if (ptd_view 0 (ptd_cmp (op_eqD hr.units) eqD_ok (nomark _) (ped_callB call_lenU lenD_ok (by rfl) Z.u_len (by decide +kernel) (pad_cons (ped_fld Z.c_Parser Z.n_Parser_meetings (ped_var 0 (pv 0)) rfl) pad_nil)) (ped_gint (by rfl) Z.k_MAX_MEETINGS)))
    psds_never
    (psd_one (psd_expr (PE.sh (ped_mut F.slot_list_append F.type_list_append mt_append appG_ok (ppl_fl 0 Z.c_Parser Z.n_Parser_meetings (pv 0)) (pad_cons (ped_var 7 (pv 7)) pad_nil) rfl))))))))))))))))))
theorem ok_Plan_init (Z : Fs K mg) : DefOk P w K mg base 1 (He.ma K (He.ga K "Plan") "__init__") ["self", "size", "names", "meetings"] f_Plan_init := by
  obtain ⟨fd, FF⟩ := Z.F_Plan_init
  exact def_ok (k := 0) (N := N_Plan_init) FF sc_Plan_init (fun _ _ _ _ _ _ us hl => match us, hl with | [_, _, _, _], _ => rfl) fun cdv A outer s H vs E hr =>
    (psd_cons (psd_fld 0 Z.c_Plan Z.n_Plan_size (pv 0) (PE.sh (ped_var 1 (pv 1))))
    (psd_cons (psd_fld 0 Z.c_Plan Z.n_Plan_names (pv 0) (PE.sh (ped_var 2 (pv 2))))
    (psd_one (psd_fld 0 Z.c_Plan Z.n_Plan_meetings (pv 0) (PE.sh (PE.frz (peo_lc2 (own := [("tick", 4), ("meeting", 5)]) (vs1 := [5]) rfl (sc_Plan_init).nd (pid_range1 (by rfl) Z.u_range (pad_cons (ped_var 1 (pv 1)) pad_nil)) (blkOk_by (own := [("tick", 4), ("meeting", 5)]) (N := N_Plan_init) (sc := defScope s_Plan_init) (by decide +kernel)) (by decide) (fun _ _ _ _ _ => (pgd_name (i := 4) (sc_Plan_init).nd rfl (by first | exact Or.inl rfl | exact Or.inr rfl))) (fun _ _ _ _ _ => ptsd_nil) (fun _ _ _ _ _ => (pid_any (ped_var 3 (pv 3)))) (fun _ _ _ _ _ => (pgd_name (i := 5) (sc_Plan_init).nd rfl (by first | exact Or.inl rfl | exact Or.inr rfl))) (fun _ _ _ _ _ => (ptsd_one (ptd_cmp (op_eqD hr.units) eqD_ok (nomark _) (ped_fld Z.c_Meeting Z.n_Meeting_tick (ped_var 5 (pv 5)) rfl) (ped_var 4 (pv 4))))) (fun _ _ _ _ _ => (ped_var 5 (pv 5))) gnm_ok (by decide) gnm_ok (by decide))))))))
theorem ok_Parser_parse_plan (Z : Fs K mg) : DefOk P w K mg base 5 (He.ma K (He.ga K "Parser") "parse_plan") ["self"] f_Parser_parse_plan := by
  obtain ⟨fd, FF⟩ := Z.F_Parser_parse_plan
  exact def_ok (k := 4) (N := N_Parser_parse_plan) FF sc_Parser_parse_plan (fun _ _ _ _ _ _ us hl => match us, hl with | [_], _ => rfl) fun cdv A outer s H vs E hr =>
    (psd_cons (psd_expr (mwO 0 (pv 0) Z.c_Parser Z.m_Parser_take_word (ok_Parser_take_word Z) hr (by decide) (par_sh ped_str par_nil)))
    (psd_cons (psd_asg (i := 1) (sc_Parser_parse_plan).nd rfl (by first | exact Or.inl rfl | exact Or.inr rfl) (PE.sh (PE.frz (mwO 0 (pv 0) Z.c_Parser Z.m_Parser_take (ok_Parser_take Z) hr (by decide) (par_sh (ped_gstr (by rfl) Z.k_NUMBER) par_nil)))))
    (psd_cons (psd_asg (i := 2) (sc_Parser_parse_plan).nd rfl (by first | exact Or.inl rfl | exact Or.inr rfl) (PE.sh (ped_callTy call_intU toInt_ok (by rfl) Z.u_int (by decide +kernel) (pad_cons (ped_fld Z.c_Token Z.n_Token_text (ped_var 1 (pv 1)) rfl) pad_nil))))
    (psd_cons (psd_expr (mwO 0 (pv 0) Z.c_Parser Z.m_Parser_take_word (ok_Parser_take_word Z) hr (by decide) (par_sh ped_str par_nil)))
    (psd_cons (psd_if (ptd_not (ptd_chain op_le leD_ok op_le leD_ok ped_int (ped_var 2 (pv 2)) (ped_gint (by rfl) Z.k_MAX_ROUND)))
    psds_never
    psd_nil)
    (psd_cons (psd_expr (mwO0 0 (pv 0) Z.c_Parser Z.m_Parser_parse_people (ok_Parser_parse_people Z) hr (by decide)))
    (psd_cons (psd_while 1000000 PassesOwn.never (ptd_cmp (op_neD hr.units) neD_ok (nomark _) (ped_fld Z.c_Token Z.n_Token_kind (PE.frz (mwO0 0 (pv 0) Z.c_Parser Z.m_Parser_peek (ok_Parser_peek Z) hr (by decide))) rfl) (ped_gstr (by rfl) Z.k_END))
    (psd_one (psd_expr (mwO 0 (pv 0) Z.c_Parser Z.m_Parser_parse_meeting (ok_Parser_parse_meeting Z) hr (by decide) (par_sh (ped_var 2 (pv 2)) par_nil)))))
    (psd_cons (psd_if (ptd_view 0 (ptd_cmp (op_neD hr.units) neD_ok (nomark _) (ped_fld Z.c_Parser Z.n_Parser_faults (ped_var 0 (pv 0)) rfl) (PE.frz (peo_list pad_nil))))
    psds_never
    psd_nil)
    (psd_one (psd_ret (mkw Z.i_Plan (ok_Plan_init Z) hr (by decide) (by rfl) Z.g_Plan (pad_cons (ped_var 2 (pv 2)) (pad_cons (ped_callTy call_tupF tupD_ok (by rfl) Z.u_tuple (by decide +kernel) (pad_cons (ped_fldF 0 Z.c_Parser Z.n_Parser_names (pv 0)) pad_nil)) (pad_cons (ped_fldF 0 Z.c_Parser Z.n_Parser_meetings (pv 0)) pad_nil))))))))))))))
theorem ok_Parser_init (Z : Fs K mg) : DefOk P w K mg base 1 (He.ma K (He.ga K "Parser") "__init__") ["self", "tokens"] f_Parser_init := by
  obtain ⟨fd, FF⟩ := Z.F_Parser_init
  exact def_ok (k := 0) (N := N_Parser_init) FF sc_Parser_init (fun _ _ _ _ _ _ us hl => match us, hl with | [_, _], _ => rfl) fun cdv A outer s H vs E hr =>
    (psd_cons (psd_fld 0 Z.c_Parser Z.n_Parser_tokens (pv 0) (PE.sh (ped_var 1 (pv 1))))
    (psd_cons (psd_fld 0 Z.c_Parser Z.n_Parser_at (pv 0) (PE.sh ped_int))
    (psd_cons (psd_fld 0 Z.c_Parser Z.n_Parser_faults (pv 0) (peo_list pad_nil))
    (psd_cons (psd_fld 0 Z.c_Parser Z.n_Parser_names (pv 0) (peo_list pad_nil))
    (psd_one (psd_fld 0 Z.c_Parser Z.n_Parser_meetings (pv 0) (peo_list pad_nil)))))))
theorem ok_Token_init (Z : Fs K mg) : DefOk P w K mg base 1 (He.ma K (He.ga K "Token") "__init__") ["self", "kind", "text", "line", "column"] f_Token_init := by
  obtain ⟨fd, FF⟩ := Z.F_Token_init
  exact def_ok (k := 0) (N := N_Token_init) FF sc_Token_init (fun _ _ _ _ _ _ us hl => match us, hl with | [_, _, _, _, _], _ => rfl) fun cdv A outer s H vs E hr =>
    (psd_cons (psd_fld 0 Z.c_Token Z.n_Token_kind (pv 0) (PE.sh (ped_var 1 (pv 1))))
    (psd_cons (psd_fld 0 Z.c_Token Z.n_Token_text (pv 0) (PE.sh (ped_var 2 (pv 2))))
    (psd_cons (psd_fld 0 Z.c_Token Z.n_Token_line (pv 0) (PE.sh (ped_var 3 (pv 3))))
    (psd_one (psd_fld 0 Z.c_Token Z.n_Token_column (pv 0) (PE.sh (ped_var 4 (pv 4))))))))
theorem ok_run_end (Z : Fs K mg) : DefOk P w K mg base 1 (He.ga K "run_end") ["row", "start", "letters"] f_run_end := by
  obtain ⟨fd, FF⟩ := Z.F_run_end
  exact def_ok (k := 0) (N := N_run_end) FF sc_run_end (fun _ _ _ _ _ _ us hl => match us, hl with | [_, _, _], _ => rfl) fun cdv A outer s H vs E hr =>
    (psd_cons (psd_asg (i := 3) (sc_run_end).nd rfl (by first | exact Or.inl rfl | exact Or.inr rfl) (PE.sh (ped_var 1 (pv 1))))
    (psd_cons (psd_while 1000000 PassesOwn.never (PWD.pt (pwd_and (ptd_cmp op_lt ltD_ok (nomark _) (ped_var 3 (pv 3)) (ped_callB call_lenU lenD_ok (by rfl) Z.u_len (by decide +kernel) (pad_cons (ped_var 0 (pv 0)) pad_nil))) (pwd_and1 (ptd_cmp (op_inU (room65 hr)) inD_ok rfl (ped_ix (ped_var 0 (pv 0)) (ped_var 3 (pv 3)) fun _ _ => rfl) (ped_var 2 (pv 2))))))
    (psd_one (psd_aug (i := 3) (sc_run_end).nd rfl (by first | exact Or.inl rfl | exact Or.inr rfl) ped_int ip_add addI_ok)))
    (psd_one (psd_ret (PE.sh (ped_var 3 (pv 3)))))))
theorem ok_read_token (Z : Fs K mg) : DefOk P w K mg base 3 (He.ga K "read_token") ["row", "line", "column"] f_read_token := by
  obtain ⟨fd, FF⟩ := Z.F_read_token
  exact def_ok (k := 2) (N := N_read_token) FF sc_read_token (fun _ _ _ _ _ _ us hl => match us, hl with | [_, _, _], _ => rfl) fun cdv A outer s H vs E hr =>
    (psd_cons (psd_asg (i := 3) (sc_read_token).nd rfl (by first | exact Or.inl rfl | exact Or.inr rfl) (PE.sh (ped_ix (ped_var 0 (pv 0)) (ped_var 2 (pv 2)) fun _ _ => rfl)))
    (psd_cons (psd_if (ptd_cmp (op_inU (room65 hr)) inD_ok rfl (ped_var 3 (pv 3)) (ped_gstr (by rfl) Z.k_SIGNS))
    (psd_one (psd_ret (mkw Z.i_Token (ok_Token_init Z) hr (by decide) (by rfl) Z.g_Token (pad_cons (ped_gstr (by rfl) Z.k_SIGN) (pad_cons (ped_var 3 (pv 3)) (pad_cons (ped_var 1 (pv 1)) (pad_cons (ped_var 2 (pv 2)) pad_nil)))))))
    psd_nil)
    (psd_cons (psd_if (ptd_cmp (op_inU (room65 hr)) inD_ok rfl (ped_var 3 (pv 3)) (ped_gstr (by rfl) Z.k_DIGITS))
    (psd_cons (psd_asg (i := 4) (sc_read_token).nd rfl (by first | exact Or.inl rfl | exact Or.inr rfl) (PE.sh (ped_sl (ped_var 0 (pv 0)) (pod_some (ped_var 2 (pv 2))) (pod_some (PE.frz (cw (ok_run_end Z) hr (by decide) (by rfl) Z.g_run_end (pad_cons (ped_var 0 (pv 0)) (pad_cons (ped_var 2 (pv 2)) (pad_cons (ped_gstr (by rfl) Z.k_DIGITS) pad_nil)))))))))
    (psd_cons (psd_if (PWD.pt (pwd_or (ptd_cmp op_gt gtD_ok (nomark _) (ped_callB call_lenU lenD_ok (by rfl) Z.u_len (by decide +kernel) (pad_cons (ped_var 4 (pv 4)) pad_nil)) (ped_gint (by rfl) Z.k_MAX_DIGITS)) (pwd_or1 (PWD.pt (pwd_and (ptd_cmp op_gt gtD_ok (nomark _) (ped_callB call_lenU lenD_ok (by rfl) Z.u_len (by decide +kernel) (pad_cons (ped_var 4 (pv 4)) pad_nil)) ped_int) (pwd_and1 (ptd_cmp (op_eqD hr.units) eqD_ok (nomark _) (ped_var 3 (pv 3)) ped_str)))))))
    psds_never
    psd_nil)
    (psd_one (psd_ret (mkw Z.i_Token (ok_Token_init Z) hr (by decide) (by rfl) Z.g_Token (pad_cons (ped_gstr (by rfl) Z.k_NUMBER) (pad_cons (ped_var 4 (pv 4)) (pad_cons (ped_var 1 (pv 1)) (pad_cons (ped_var 2 (pv 2)) pad_nil)))))))))
    psd_nil)
    (psd_cons (psd_asg (i := 4) (sc_read_token).nd rfl (by first | exact Or.inl rfl | exact Or.inr rfl) (PE.sh (ped_sl (ped_var 0 (pv 0)) (pod_some (ped_var 2 (pv 2))) (pod_some (PE.frz (cw (ok_run_end Z) hr (by decide) (by rfl) Z.g_run_end (pad_cons (ped_var 0 (pv 0)) (pad_cons (ped_var 2 (pv 2)) (pad_cons (ped_gstr (by rfl) Z.k_LETTERS) pad_nil)))))))))
    (psd_cons (psd_if (ptd_cmp (op_inU (room65 hr)) inD_ok rfl (ped_var 4 (pv 4)) (ped_gtup (vs := [.str "round", .str "people", .str "meet", .str "tell"]) (by rfl) Z.g_KEYWORDS Z.t_KEYWORDS))
    (psd_one (psd_ret (mkw Z.i_Token (ok_Token_init Z) hr (by decide) (by rfl) Z.g_Token (pad_cons (ped_gstr (by rfl) Z.k_KEYWORD) (pad_cons (ped_var 4 (pv 4)) (pad_cons (ped_var 1 (pv 1)) (pad_cons (ped_var 2 (pv 2)) pad_nil)))))))
    psd_nil)
    (psd_cons (psd_if (ptd_not (ptd_chain op_le leD_ok op_le leD_ok ped_int (ped_callB call_lenU lenD_ok (by rfl) Z.u_len (by decide +kernel) (pad_cons (ped_var 4 (pv 4)) pad_nil)) (ped_gint (by rfl) Z.k_MAX_LETTERS)))
    psds_never
    psd_nil)
    (psd_one (psd_ret (mkw Z.i_Token (ok_Token_init Z) hr (by decide) (by rfl) Z.g_Token (pad_cons (ped_gstr (by rfl) Z.k_NAME) (pad_cons (ped_var 4 (pv 4)) (pad_cons (ped_var 1 (pv 1)) (pad_cons (ped_var 2 (pv 2)) pad_nil)))))))))))))
theorem ok_tokenize (Z : Fs K mg) : DefOk P w K mg base 4 (He.ga K "tokenize") ["source"] f_tokenize := by
  obtain ⟨fd, FF⟩ := Z.F_tokenize
  exact def_ok (k := 3) (N := N_tokenize) FF sc_tokenize (fun _ _ _ _ _ _ us hl => match us, hl with | [_], _ => rfl) fun cdv A outer s H vs E hr =>
    (psd_cons (psd_asg (i := 1) (sc_tokenize).nd rfl (by first | exact Or.inl rfl | exact Or.inr rfl) (peo_list pad_nil))
    (psd_cons (psd_asg (i := 2) (sc_tokenize).nd rfl (by first | exact Or.inl rfl | exact Or.inr rfl) (PE.sh (PE.frz (peo_m1 F.slot_str_split F.type_str_split mt_split splitS_ok (ped_var 0 (pv 0)) ped_str))))
    (psd_cons (psd_for PassesOwn.never rfl (pid_enum (by rfl) Z.u_enumerate (pad_cons (ped_var 2 (pv 2)) pad_nil)) (pgd_tup rfl (pgds_cons (pgd_name (i := 3) (sc_tokenize).nd rfl (by first | exact Or.inl rfl | exact Or.inr rfl)) (pgds_cons (pgd_name (i := 4) (sc_tokenize).nd rfl (by first | exact Or.inl rfl | exact Or.inr rfl)) pgds_nil)) (gcns_len (gcns_len gnil_len)))
    (psd_cons (psd_asg (i := 5) (sc_tokenize).nd rfl (by first | exact Or.inl rfl | exact Or.inr rfl) (PE.sh ped_int))
    (psd_one (psd_while 1000000 PassesOwn.never (ptd_cmp op_lt ltD_ok (nomark _) (ped_var 5 (pv 5)) (ped_callB call_lenU lenD_ok (by rfl) Z.u_len (by decide +kernel) (pad_cons (ped_var 4 (pv 4)) pad_nil)))
    (psd_one (psd_if (ptd_cmp (op_inU (room65 hr)) inD_ok rfl (ped_ix (ped_var 4 (pv 4)) (ped_var 5 (pv 5)) fun _ _ => rfl) (ped_gstr (by rfl) Z.k_SPACES))
    (psd_one (psd_aug (i := 5) (sc_tokenize).nd rfl (by first | exact Or.inl rfl | exact Or.inr rfl) ped_int ip_add addI_ok))
    (psd_cons (psd_asg (i := 6) (sc_tokenize).nd rfl (by first | exact Or.inl rfl | exact Or.inr rfl) (PE.sh (PE.frz (cw (ok_read_token Z) hr (by decide) (by rfl) Z.g_read_token (pad_cons (ped_var 4 (pv 4)) (pad_cons (ped_var 3 (pv 3)) (pad_cons (ped_var 5 (pv 5)) pad_nil)))))))
    (psd_cons (psd_expr (PE.sh (ped_mut F.slot_list_append F.type_list_append mt_append appG_ok (ppl_nm 1 (pv 1)) (pad_cons (ped_var 6 (pv 6)) pad_nil) rfl)))
    (psd_one (psd_aug (i := 5) (sc_tokenize).nd rfl (by first | exact Or.inl rfl | exact Or.inr rfl) (ped_callB call_lenU lenD_ok (by rfl) Z.u_len (by decide +kernel) (pad_cons (ped_fld Z.c_Token Z.n_Token_text (ped_var 6 (pv 6)) rfl) pad_nil)) ip_add addI_ok))))))))))
    (psd_one (psd_ret (PE.sh (ped_bin op_addU addD_ok (ped_varF 1 (pv 1)) (PE.frz (peo_list (pad_cons (PE.frz (mkw Z.i_Token (ok_Token_init Z) hr (by decide) (by rfl) Z.g_Token (pad_cons (ped_gstr (by rfl) Z.k_END) (pad_cons ped_str (pad_cons (ped_callB call_lenU lenD_ok (by rfl) Z.u_len (by decide +kernel) (pad_cons (ped_var 2 (pv 2)) pad_nil)) (pad_cons ped_int pad_nil)))))) pad_nil))))))))))
theorem ok_load (Z : Fs K mg) : DefOk P w K mg base 6 (He.ga K "load") ["plan"] f_load := by
  obtain ⟨fd, FF⟩ := Z.F_load
  exact def_ok (k := 5) (N := N_load) FF sc_load (fun _ _ _ _ _ _ us hl => match us, hl with | [_], _ => rfl) fun cdv A outer s H vs E hr =>
    (psd_one (psd_ret (mwT (mkw Z.i_Parser (ok_Parser_init Z) hr (by decide) (by rfl) Z.g_Parser (pad_cons (PE.frz (cw (ok_tokenize Z) hr (by decide) (by rfl) Z.g_tokenize (pad_cons (ped_var 0 (pv 0)) pad_nil))) pad_nil)) Z.c_Parser Z.m_Parser_parse_plan (ok_Parser_parse_plan Z) hr (by decide))))
theorem ok_person_of (Z : Fs K mg) : DefOk P w K mg base 1 (He.ga K "person_of") ["parsed", "name"] f_person_of := by
  obtain ⟨fd, FF⟩ := Z.F_person_of
  exact def_ok (k := 0) (N := N_person_of) FF sc_person_of (fun _ _ _ _ _ _ us hl => match us, hl with | [_, _], _ => rfl) fun cdv A outer s H vs E hr =>
    (psd_cons (psd_if (PWD.pt (pwd_or (ptd_not (ptd_val (ped_isi (by rfl) Z.u_isinstance (by rfl) Z.u_str (by decide +kernel) (ped_var 1 (pv 1))))) (pwd_or1 (ptd_cmp (op_ninE (room65 hr)) ninE_ok rfl (ped_var 1 (pv 1)) (ped_fld Z.c_Plan Z.n_Plan_names (ped_var 0 (pv 0)) rfl)))))
    psds_never
    psd_nil)
    (psd_one (psd_ret (PE.sh (ped_indexE (ped_fld Z.c_Plan Z.n_Plan_names (ped_var 0 (pv 0)) rfl) (ped_var 1 (pv 1)))))))
theorem ok_Plan_with_meetings (Z : Fs K mg) : DefOk P w K mg base 3 (He.ma K (He.ga K "Plan") "with_meetings") ["self", "meetings"] f_Plan_with_meetings := by
  obtain ⟨fd, FF⟩ := Z.F_Plan_with_meetings
  exact def_ok (k := 2) (N := N_Plan_with_meetings) FF sc_Plan_with_meetings (fun _ _ _ _ _ _ us hl => match us, hl with | [_, _], _ => rfl) fun cdv A outer s H vs E hr =>
    (psd_one (psd_ret (mkw Z.i_Plan (ok_Plan_init Z) hr (by decide) (by rfl) Z.g_Plan (pad_cons (ped_fld Z.c_Plan Z.n_Plan_size (ped_var 0 (pv 0)) rfl) (pad_cons (ped_fld Z.c_Plan Z.n_Plan_names (ped_var 0 (pv 0)) rfl) (pad_cons (ped_var 1 (pv 1)) pad_nil))))))
theorem ok_greatest (Z : Fs K mg) : DefOk P w K mg base 1 (He.ga K "greatest") ["lasting"] f_greatest := by
  obtain ⟨fd, FF⟩ := Z.F_greatest
  exact def_ok (k := 0) (N := N_greatest) FF sc_greatest (fun _ _ _ _ _ _ us hl => match us, hl with | [_], _ => rfl) fun cdv A outer s H vs E hr =>
    (psd_cons (psd_asg_frz (psd_setLc3 (i := 1) (own := [("rows", 2), ("row", 3), ("old", 4)]) (vs1 := [3, 4]) (vs2 := [4]) rfl (sc_greatest).nd rfl rfl (sw_true rfl rfl rfl (by decide +kernel)) (pid_itE (ped_var 0 (pv 0))) (blkOk_by (own := [("rows", 2), ("row", 3), ("old", 4)]) (N := N_greatest) (sc := defScope s_greatest) (by decide +kernel)) (by decide) (by decide) (fun _ _ _ _ _ => (pgd_name (i := 2) (sc_greatest).nd rfl (by first | exact Or.inl rfl | exact Or.inr rfl))) (fun _ _ _ _ _ => ptsd_nil) (fun _ _ _ _ _ => (pid_itE (ped_var 2 (pv 2)))) (fun _ _ _ _ _ => (pgd_name (i := 3) (sc_greatest).nd rfl (by first | exact Or.inl rfl | exact Or.inr rfl))) (fun _ _ _ _ _ => ptsd_nil) (fun _ _ _ _ _ => (pid_itE (ped_var 3 (pv 3)))) (fun _ _ _ _ _ => (pgd_name (i := 4) (sc_greatest).nd rfl (by first | exact Or.inl rfl | exact Or.inr rfl))) (fun _ _ _ _ _ => ptsd_nil) (fun _ _ _ _ _ => (ped_var 4 (pv 4))) gnm_ok (by decide) gnm_ok (by decide) gnm_ok (by decide)))
    (psd_one (psd_ret (peo_if (ptd_cmp (op_inE (room65 hr)) inE_ok rfl ped_non (ped_var 1 (pv 1))) (PE.sh ped_non) (PE.sh (ped_callB (call_maxE rfl) maxE_ok (by rfl) Z.u_max (by decide +kernel) (pad_cons (ped_var 1 (pv 1)) pad_nil)))))))
theorem ok_Story_lasting (Z : Fs K mg) : DefOk P w K mg base 1 (He.ma K (He.ga K "Story") "lasting") ["self"] f_Story_lasting := by
  obtain ⟨fd, FF⟩ := Z.F_Story_lasting
  exact def_ok (k := 0) (N := N_Story_lasting) FF sc_Story_lasting (fun _ _ _ _ _ _ us hl => match us, hl with | [_], _ => rfl) fun cdv A outer s H vs E hr =>
    (psd_one (psd_ret (PE.sh (ped_sl (ped_fld Z.c_Story Z.n_Story_ages (ped_var 0 (pv 0)) rfl) (pod_some (ped_fld Z.c_Story Z.n_Story_start (ped_var 0 (pv 0)) rfl)) pod_none))))
theorem ok_known_at (Z : Fs K mg) : DefOk P w K mg base 1 (He.ga K "known_at") ["rows", "tick"] f_known_at := by
  obtain ⟨fd, FF⟩ := Z.F_known_at
  exact def_ok (k := 0) (N := N_known_at) FF sc_known_at (fun _ _ _ _ _ _ us hl => match us, hl with | [_, _], _ => rfl) fun cdv A outer s H vs E hr =>
    (psd_one (psd_ret (peo_lc (own := [("person", 4), ("row", 5)]) rfl (sc_known_at).nd (pid_enumE (by rfl) Z.u_enumerate (pad_cons (ped_var 0 (pv 0)) pad_nil)) (blkOk_by (own := [("person", 4), ("row", 5)]) (N := N_known_at) (sc := defScope s_known_at) (by decide +kernel)) (fun _ _ _ _ _ => (pgd_tup rfl (pgds_cons (pgd_name (i := 4) (sc_known_at).nd rfl (by first | exact Or.inl rfl | exact Or.inr rfl)) (pgds_cons (pgd_name (i := 5) (sc_known_at).nd rfl (by first | exact Or.inl rfl | exact Or.inr rfl)) pgds_nil)) (gcns_len (gcns_len gnil_len)))) (fun _ _ _ _ _ => ptsd_nil) (fun _ _ _ _ _ => (PE.frz (peo_lc (own := [("place", 2), ("old", 3)]) rfl (sc_known_at).nd (pid_enumE (by rfl) Z.u_enumerate (pad_cons (ped_var 5 (pv 5)) pad_nil)) (blkOk_nest (own := [("place", 2), ("old", 3)]) (N := N_known_at) (by decide +kernel)) (fun _ _ _ _ _ => (pgd_tup rfl (pgds_cons (pgd_name (i := 2) (sc_known_at).nd rfl (by first | exact Or.inl rfl | exact Or.inr rfl)) (pgds_cons (pgd_name (i := 3) (sc_known_at).nd rfl (by first | exact Or.inl rfl | exact Or.inr rfl)) pgds_nil)) (gcns_len (gcns_len gnil_len)))) (fun _ _ _ _ _ => ptsd_nil) (fun _ _ _ _ _ => (ped_if (ptd_cmp (op_eqD hr.units) eqD_ok (nomark _) (ped_var 2 (pv 2)) (ped_var 4 (pv 4))) (ped_var 1 (pv 1)) (ped_var 3 (pv 3)))) (gtp_ok (gcns_ok gnm_ok (gcns_ok gnm_ok gnil_ok))) (by decide)))) (gtp_ok (gcns_ok gnm_ok (gcns_ok gnm_ok gnil_ok))) (by decide))))
theorem ok_Plan_in_tick (Z : Fs K mg) : DefOk P w K mg base 1 (He.ma K (He.ga K "Plan") "in_tick") ["self", "tick"] f_Plan_in_tick := by
  obtain ⟨fd, FF⟩ := Z.F_Plan_in_tick
  exact def_ok (k := 0) (N := N_Plan_in_tick) FF sc_Plan_in_tick (fun _ _ _ _ _ _ us hl => match us, hl with | [_, _], _ => rfl) fun cdv A outer s H vs E hr =>
    (psd_one (psd_ret (peo_lc (own := [("meeting", 2)]) rfl (sc_Plan_in_tick).nd (pid_itE (ped_fld Z.c_Plan Z.n_Plan_meetings (ped_var 0 (pv 0)) rfl)) (blkOk_by (own := [("meeting", 2)]) (N := N_Plan_in_tick) (sc := defScope s_Plan_in_tick) (by decide +kernel)) (fun _ _ _ _ _ => (pgd_name (i := 2) (sc_Plan_in_tick).nd rfl (by first | exact Or.inl rfl | exact Or.inr rfl))) (fun _ _ _ _ _ => (ptsd_one (ptd_cmp (op_eqD hr.units) eqD_ok (nomark _) (ped_fld Z.c_Meeting Z.n_Meeting_tick (ped_var 2 (pv 2)) rfl) (ped_bin op_mod modD_ok (ped_var 1 (pv 1)) (ped_fld Z.c_Plan Z.n_Plan_size (ped_var 0 (pv 0)) rfl))))) (fun _ _ _ _ _ => (ped_var 2 (pv 2))) gnm_ok (by decide))))
theorem ok_newest (Z : Fs K mg) : DefOk P w K mg base 1 (He.ga K "newest") ["one", "other"] f_newest := by
  obtain ⟨fd, FF⟩ := Z.F_newest
  exact def_ok (k := 0) (N := N_newest) FF sc_newest (fun _ _ _ _ _ _ us hl => match us, hl with | [_, _], _ => rfl) fun cdv A outer s H vs E hr =>
    (psd_cons (psd_if (PWD.pt (pwd_or (ptd_cmp op_isN isD_ok (nomark _) (ped_var 0 (pv 0)) ped_non) (pwd_or1 (PWD.pt (pwd_and (ptd_cmp op_notN notD_ok (nomark _) (ped_var 1 (pv 1)) ped_non) (pwd_and1 (ptd_cmp op_gt gtD_ok (nomark _) (ped_var 1 (pv 1)) (ped_var 0 (pv 0)))))))))
    (psd_one (psd_ret (PE.sh (ped_var 1 (pv 1)))))
    psd_nil)
    (psd_one (psd_ret (PE.sh (ped_var 0 (pv 0))))))
theorem ok_heard (Z : Fs K mg) : DefOk P w K mg base 2 (He.ga K "heard") ["rows", "teller", "hearer"] f_heard := by
  obtain ⟨fd, FF⟩ := Z.F_heard
  exact def_ok (k := 1) (N := N_heard) FF sc_heard (fun _ _ _ _ _ _ us hl => match us, hl with | [_, _, _], _ => rfl) fun cdv A outer s H vs E hr =>
    (psd_cons (psd_asg (i := 3) (sc_heard).nd rfl (by first | exact Or.inl rfl | exact Or.inr rfl) (PE.sh (PE.frz (peo_lc (own := [("one", 4), ("other", 5)]) rfl (sc_heard).nd (pid_zip (by rfl) Z.u_zip (pad_cons (ped_ixE (room65 hr) (ped_var 0 (pv 0)) (ped_var 2 (pv 2)) fun _ _ => rfl) (pad_cons (ped_ixE (room65 hr) (ped_var 0 (pv 0)) (ped_var 1 (pv 1)) fun _ _ => rfl) pad_nil))) (blkOk_by (own := [("one", 4), ("other", 5)]) (N := N_heard) (sc := defScope s_heard) (by decide +kernel)) (fun _ _ _ _ _ => (pgd_tup rfl (pgds_cons (pgd_name (i := 4) (sc_heard).nd rfl (by first | exact Or.inl rfl | exact Or.inr rfl)) (pgds_cons (pgd_name (i := 5) (sc_heard).nd rfl (by first | exact Or.inl rfl | exact Or.inr rfl)) pgds_nil)) (gcns_len (gcns_len gnil_len)))) (fun _ _ _ _ _ => ptsd_nil) (fun _ _ _ _ _ => (PE.frz (cw (ok_newest Z) hr (by decide) (by rfl) Z.g_newest (pad_cons (ped_var 4 (pv 4)) (pad_cons (ped_var 5 (pv 5)) pad_nil))))) (gtp_ok (gcns_ok gnm_ok (gcns_ok gnm_ok gnil_ok))) (by decide)))))
    (psd_one (psd_ret (peo_lc (own := [("place", 6), ("old", 7)]) rfl (sc_heard).nd (pid_enumE (by rfl) Z.u_enumerate (pad_cons (ped_var 0 (pv 0)) pad_nil)) (blkOk_by (own := [("place", 6), ("old", 7)]) (N := N_heard) (sc := defScope s_heard) (by decide +kernel)) (fun _ _ _ _ _ => (pgd_tup rfl (pgds_cons (pgd_name (i := 6) (sc_heard).nd rfl (by first | exact Or.inl rfl | exact Or.inr rfl)) (pgds_cons (pgd_name (i := 7) (sc_heard).nd rfl (by first | exact Or.inl rfl | exact Or.inr rfl)) pgds_nil)) (gcns_len (gcns_len gnil_len)))) (fun _ _ _ _ _ => ptsd_nil) (fun _ _ _ _ _ => (ped_if (ptd_cmp (op_eqD hr.units) eqD_ok (nomark _) (ped_var 6 (pv 6)) (ped_var 2 (pv 2))) (ped_var 3 (pv 3)) (ped_var 7 (pv 7)))) (gtp_ok (gcns_ok gnm_ok (gcns_ok gnm_ok gnil_ok))) (by decide)))))
theorem ok_after_meeting (Z : Fs K mg) : DefOk P w K mg base 3 (He.ga K "after_meeting") ["rows", "meeting"] f_after_meeting := by
  obtain ⟨fd, FF⟩ := Z.F_after_meeting
  exact def_ok (k := 2) (N := N_after_meeting) FF sc_after_meeting (fun _ _ _ _ _ _ us hl => match us, hl with | [_, _], _ => rfl) fun cdv A outer s H vs E hr =>
    (psd_cons (psd_asg (i := 0) (sc_after_meeting).nd rfl (by first | exact Or.inl rfl | exact Or.inr rfl) (PE.sh (PE.frz (cw (ok_heard Z) hr (by decide) (by rfl) Z.g_heard (pad_cons (ped_var 0 (pv 0)) (pad_cons (ped_fld Z.c_Meeting Z.n_Meeting_one (ped_var 1 (pv 1)) rfl) (pad_cons (ped_fld Z.c_Meeting Z.n_Meeting_other (ped_var 1 (pv 1)) rfl) pad_nil)))))))
    (psd_one (psd_ret (peo_if (ptd_cmp (op_eqD hr.units) eqD_ok (nomark _) (ped_fld Z.c_Meeting Z.n_Meeting_word (ped_var 1 (pv 1)) rfl) (ped_gstr (by rfl) Z.k_MEET)) (cw (ok_heard Z) hr (by decide) (by rfl) Z.g_heard (pad_cons (ped_var 0 (pv 0)) (pad_cons (ped_fld Z.c_Meeting Z.n_Meeting_other (ped_var 1 (pv 1)) rfl) (pad_cons (ped_fld Z.c_Meeting Z.n_Meeting_one (ped_var 1 (pv 1)) rfl) pad_nil)))) (PE.sh (ped_var 0 (pv 0)))))))
theorem ok_Story_init (Z : Fs K mg) : DefOk P w K mg base 4 (He.ma K (He.ga K "Story") "__init__") ["self", "parsed"] f_Story_init := by
  obtain ⟨fd, FF⟩ := Z.F_Story_init
  exact def_ok (k := 3) (N := N_Story_init) FF sc_Story_init (fun _ _ _ _ _ _ us hl => match us, hl with | [_, _], _ => rfl) fun cdv A outer s H vs E hr =>
    (psd_cons (psd_asg (i := 2) (sc_Story_init).nd rfl (by first | exact Or.inl rfl | exact Or.inr rfl) (PE.sh (ped_callB call_lenU lenD_ok (by rfl) Z.u_len (by decide +kernel) (pad_cons (ped_fld Z.c_Plan Z.n_Plan_names (ped_var 1 (pv 1)) rfl) pad_nil))))
    (psd_cons (psd_fld 0 Z.c_Story Z.n_Story_size (pv 0) (PE.sh (ped_fld Z.c_Plan Z.n_Plan_size (ped_var 1 (pv 1)) rfl)))
    (psd_cons (psd_fld 0 Z.c_Story Z.n_Story_ages (pv 0) (peo_list pad_nil))
    (psd_cons (psd_asg_frz (psd_setLc (i := 3) (own := [("person", 4)]) rfl (sc_Story_init).nd rfl rfl (sw_true rfl rfl rfl (by decide +kernel)) (pid_range1 (by rfl) Z.u_range (pad_cons (ped_var 2 (pv 2)) pad_nil)) (blkOk_by (own := [("person", 4)]) (N := N_Story_init) (sc := defScope s_Story_init) (by decide +kernel)) (fun _ _ _ _ _ => (pgd_name (i := 4) (sc_Story_init).nd rfl (by first | exact Or.inl rfl | exact Or.inr rfl))) (fun _ _ _ _ _ => ptsd_nil) (fun _ _ _ _ _ => (ped_bin op_mulU mulE_ok (PE.frz (peo_list (pad_cons ped_non pad_nil))) (ped_var 2 (pv 2)))) gnm_ok (by decide)))
    (psd_cons (psd_for PassesOwn.never rfl (pid_range1 (by rfl) Z.u_range (pad_cons (ped_bin op_mulU mulE_ok (ped_fld Z.c_Plan Z.n_Plan_size (ped_var 1 (pv 1)) rfl) (ped_bin op_addU addD_ok (ped_var 2 (pv 2)) ped_int)) pad_nil)) (pgd_name (i := 5) (sc_Story_init).nd rfl (by first | exact Or.inl rfl | exact Or.inr rfl))
    (psd_cons (psd_asg (i := 3) (sc_Story_init).nd rfl (by first | exact Or.inl rfl | exact Or.inr rfl) (PE.sh (PE.frz (cw (ok_known_at Z) hr (by decide) (by rfl) Z.g_known_at (pad_cons (ped_var 3 (pv 3)) (pad_cons (ped_var 5 (pv 5)) pad_nil))))))
    (psd_cons (psd_for PassesOwn.never rfl (pid_itE (PE.frz (mwP (ped_var 1 (pv 1)) Z.c_Plan Z.m_Plan_in_tick (ok_Plan_in_tick Z) hr (by decide) (pad_cons (ped_var 5 (pv 5)) pad_nil)))) (pgd_name (i := 6) (sc_Story_init).nd rfl (by first | exact Or.inl rfl | exact Or.inr rfl))
    (psd_one (psd_asg (i := 3) (sc_Story_init).nd rfl (by first | exact Or.inl rfl | exact Or.inr rfl) (PE.sh (PE.frz (cw (ok_after_meeting Z) hr (by decide) (by rfl) Z.g_after_meeting (pad_cons (ped_var 3 (pv 3)) (pad_cons (ped_var 6 (pv 6)) pad_nil))))))))
    (psd_one (psd_expr (PE.sh (ped_mut F.slot_list_append F.type_list_append mt_append appG_ok (ppl_fl 0 Z.c_Story Z.n_Story_ages (pv 0)) (pad_cons (PE.frz (peo_lc (own := [("row", 8)]) rfl (sc_Story_init).nd (pid_itE (ped_var 3 (pv 3))) (blkOk_by (own := [("row", 8)]) (N := N_Story_init) (sc := defScope s_Story_init) (by decide +kernel)) (fun _ _ _ _ _ => (pgd_name (i := 8) (sc_Story_init).nd rfl (by first | exact Or.inl rfl | exact Or.inr rfl))) (fun _ _ _ _ _ => ptsd_nil) (fun _ _ _ _ _ => (PE.frz (peo_lc (own := [("old", 7)]) rfl (sc_Story_init).nd (pid_itE (ped_var 8 (pv 8))) (blkOk_nest (own := [("old", 7)]) (N := N_Story_init) (by decide +kernel)) (fun _ _ _ _ _ => (pgd_name (i := 7) (sc_Story_init).nd rfl (by first | exact Or.inl rfl | exact Or.inr rfl))) (fun _ _ _ _ _ => ptsd_nil) (fun _ _ _ _ _ => (ped_if (ptd_cmp op_isN isD_ok (nomark _) (ped_var 7 (pv 7)) ped_non) ped_non (ped_bin op_sub subD_ok (ped_var 5 (pv 5)) (ped_var 7 (pv 7))))) gnm_ok (by decide)))) gnm_ok (by decide))) pad_nil) rfl)))))))
    (psd_one (psd_fld 0 Z.c_Story Z.n_Story_start (pv 0) (PE.sh (ped_bin op_mulU mulE_ok (ped_fld Z.c_Plan Z.n_Plan_size (ped_var 1 (pv 1)) rfl) (ped_var 2 (pv 2)))))))))))
theorem ok_best_tick (Z : Fs K mg) : DefOk P w K mg base 7 (He.ga K "best_tick") ["plan", "name", "other"] f_best_tick := by
  obtain ⟨fd, FF⟩ := Z.F_best_tick
  exact def_ok (k := 6) (N := N_best_tick) FF sc_best_tick (fun _ _ _ _ _ _ us hl => match us, hl with | [_, _, _], _ => rfl) fun cdv A outer s H vs E hr =>
    (psd_cons (psd_asg (i := 3) (sc_best_tick).nd rfl (by first | exact Or.inl rfl | exact Or.inr rfl) (PE.sh (PE.frz (cw (ok_load Z) hr (by decide) (by rfl) Z.g_load (pad_cons (ped_var 0 (pv 0)) pad_nil)))))
    (psd_cons (psd_par (i := 4) (j := 5) rfl (sc_best_tick).nd rfl rfl (by decide) rfl rfl (pas_cons (PE.sh (PE.frz (cw (ok_person_of Z) hr (by decide) (by rfl) Z.g_person_of (pad_cons (ped_var 3 (pv 3)) (pad_cons (ped_var 1 (pv 1)) pad_nil))))) (pas_cons (PE.sh (PE.frz (cw (ok_person_of Z) hr (by decide) (by rfl) Z.g_person_of (pad_cons (ped_var 3 (pv 3)) (pad_cons (ped_var 2 (pv 2)) pad_nil))))) pas_nil)) rfl)
    (psd_cons (psd_if (ptd_cmp (op_eqD hr.units) eqD_ok (nomark _) (ped_var 4 (pv 4)) (ped_var 5 (pv 5)))
    psds_never
    psd_nil)
    (psd_cons (psd_if (ptd_cmp (op_eqD hr.units) eqD_ok (nomark _) (ped_callB call_lenU lenD_ok (by rfl) Z.u_len (by decide +kernel) (pad_cons (ped_fld Z.c_Plan Z.n_Plan_meetings (ped_var 3 (pv 3)) rfl) pad_nil)) (ped_gint (by rfl) Z.k_MAX_MEETINGS))
    psds_never
    psd_nil)
    (psd_cons (psd_asg (i := 6) (sc_best_tick).nd rfl (by first | exact Or.inl rfl | exact Or.inr rfl) (PE.sh ped_non))
    (psd_cons (psd_for PassesOwn.never rfl (pid_range1 (by rfl) Z.u_range (pad_cons (ped_fld Z.c_Plan Z.n_Plan_size (ped_var 3 (pv 3)) rfl) pad_nil)) (pgd_name (i := 7) (sc_best_tick).nd rfl (by first | exact Or.inl rfl | exact Or.inr rfl))
    (psd_cons (psd_asg (i := 8) (sc_best_tick).nd rfl (by first | exact Or.inl rfl | exact Or.inr rfl) (PE.sh (PE.frz (mwP (ped_var 3 (pv 3)) Z.c_Plan Z.m_Plan_with_meetings (ok_Plan_with_meetings Z) hr (by decide) (pad_cons (PE.frz (peo_list (pad_star (ped_fld Z.c_Plan Z.n_Plan_meetings (ped_var 3 (pv 3)) rfl) (pad_cons (PE.frz (mkw Z.i_Meeting (ok_Meeting_init Z) hr (by decide) (by rfl) Z.g_Meeting (pad_cons (ped_gstr (by rfl) Z.k_MEET) (pad_cons (ped_var 4 (pv 4)) (pad_cons (ped_var 5 (pv 5)) (pad_cons (ped_var 7 (pv 7)) pad_nil)))))) pad_nil)))) pad_nil)))))
    (psd_cons (psd_asg (i := 9) (sc_best_tick).nd rfl (by first | exact Or.inl rfl | exact Or.inr rfl) (PE.sh (PE.frz (cw (ok_greatest Z) hr (by decide) (by rfl) Z.g_greatest (pad_cons (PE.frz (mwP0 (PE.frz (mkw Z.i_Story (ok_Story_init Z) hr (by decide) (by rfl) Z.g_Story (pad_cons (ped_var 8 (pv 8)) pad_nil))) Z.c_Story Z.m_Story_lasting (ok_Story_lasting Z) hr (by decide))) pad_nil)))))
    (psd_one (psd_if (PWD.pt (pwd_and (ptd_cmp op_notN notD_ok (nomark _) (ped_var 9 (pv 9)) ped_non) (pwd_and1 (PWD.pt (pwd_or (ptd_cmp op_isN isD_ok (nomark _) (ped_var 6 (pv 6)) ped_non) (pwd_or1 (ptd_cmp op_lt ltD_ok (nomark _) (ped_var 9 (pv 9)) (ped_ixE (room65 hr) (ped_var 6 (pv 6)) ped_int fun _ _ => rfl))))))))
    (psd_one (psd_asg (i := 6) (sc_best_tick).nd rfl (by first | exact Or.inl rfl | exact Or.inr rfl) (PE.sh (ped_tup (pad_cons (ped_var 9 (pv 9)) (pad_cons (ped_var 7 (pv 7)) pad_nil))))))
    psd_nil)))))
    (psd_one (psd_ret (PE.sh (ped_var 6 (pv 6)))))))))))
theorem ok_law_lines (Z : Fs K mg) : DefOk P w K mg base 1 (He.ga K "_law_lines") ["_law_plan_here"] f_law_lines := by
  obtain ⟨fd, FF⟩ := Z.F_law_lines
  exact def_ok (k := 0) (N := N_law_lines) FF sc_law_lines (fun _ _ _ _ _ _ us hl => match us, hl with | [_], _ => rfl) fun cdv A outer s H vs E hr =>
    (psd_cons (psd_asgT (ped_var 0 (pv 0)) (pgd_tup rfl (pgds_cons (pgd_name (i := 1) (sc_law_lines).nd rfl (by first | exact Or.inl rfl | exact Or.inr rfl)) (pgds_cons (pgd_name (i := 2) (sc_law_lines).nd rfl (by first | exact Or.inl rfl | exact Or.inr rfl)) (pgds_cons (pgd_name (i := 3) (sc_law_lines).nd rfl (by first | exact Or.inl rfl | exact Or.inr rfl)) pgds_nil))) (gcns_len (gcns_len (gcns_len gnil_len)))))
    (psd_cons (psd_asg (i := 4) (sc_law_lines).nd rfl (by first | exact Or.inl rfl | exact Or.inr rfl) (peo_list (pad_cons (ped_bin op_addU addD_ok (ped_bin op_addU addD_ok ped_str (ped_callTy call_strU toStr_ok (by rfl) Z.u_str (by decide +kernel) (pad_cons (ped_var 1 (pv 1)) pad_nil))) ped_str) (pad_cons (ped_bin op_addU addD_ok (ped_bin op_addU addD_ok ped_str (ped_m1 F.slot_str_join F.type_str_join mt_join joinD_ok ped_str (ped_var 2 (pv 2)))) ped_str) pad_nil))))
    (psd_cons (psd_for PassesOwn.never rfl (pid_any (ped_var 3 (pv 3))) (pgd_tup rfl (pgds_cons (pgd_name (i := 5) (sc_law_lines).nd rfl (by first | exact Or.inl rfl | exact Or.inr rfl)) (pgds_cons (pgd_name (i := 6) (sc_law_lines).nd rfl (by first | exact Or.inl rfl | exact Or.inr rfl)) (pgds_cons (pgd_name (i := 7) (sc_law_lines).nd rfl (by first | exact Or.inl rfl | exact Or.inr rfl)) (pgds_cons (pgd_name (i := 8) (sc_law_lines).nd rfl (by first | exact Or.inl rfl | exact Or.inr rfl)) pgds_nil)))) (gcns_len (gcns_len (gcns_len (gcns_len gnil_len)))))
    (psd_one (psd_expr (PE.sh (ped_mut F.slot_list_append F.type_list_append mt_append appG_ok (ppl_nm 4 (pv 4)) (pad_cons (ped_bin op_addU addD_ok (ped_m1 F.slot_str_join F.type_str_join mt_join joinD_ok ped_str (PE.frz (peo_list (pad_cons (ped_var 5 (pv 5)) (pad_cons (ped_ix (ped_var 2 (pv 2)) (ped_var 6 (pv 6)) fun _ _ => rfl) (pad_cons (ped_ix (ped_var 2 (pv 2)) (ped_var 7 (pv 7)) fun _ _ => rfl) (pad_cons (ped_callTy call_strU toStr_ok (by rfl) Z.u_str (by decide +kernel) (pad_cons (ped_var 8 (pv 8)) pad_nil)) pad_nil))))))) ped_str) pad_nil) rfl)))))
    (psd_one (psd_ret (peo_varO 4 (pv 4)))))))
theorem ok_law_text (Z : Fs K mg) : DefOk P w K mg base 2 (He.ga K "_law_text") ["_law_plan_here"] f_law_text := by
  obtain ⟨fd, FF⟩ := Z.F_law_text
  exact def_ok (k := 1) (N := N_law_text) FF sc_law_text (fun _ _ _ _ _ _ us hl => match us, hl with | [_], _ => rfl) fun cdv A outer s H vs E hr =>
    (psd_one (psd_ret (PE.sh (ped_m1 F.slot_str_join F.type_str_join mt_join joinD_ok ped_str (PE.frz (cw (ok_law_lines Z) hr (by decide) (by rfl) Z.g__law_lines (pad_cons (ped_var 0 (pv 0)) pad_nil)))))))
theorem ok_law (Z : Fs K mg) : DefOk P w K mg base 14 (He.ga K "law") ["_law_script"] f_law := by
  obtain ⟨fd, FF⟩ := Z.F_law
  exact def_ok (k := 13) (N := N_law) FF sc_law (fun _ _ _ _ _ _ us hl => match us, hl with | [_], _ => rfl) fun cdv A outer s H vs E hr =>
    (psd_cons (psd_asg (i := 1) (sc_law).nd rfl (by first | exact Or.inl rfl | exact Or.inr rfl) (cw (ok_law_random Z) hr (by decide) (by rfl) Z.g__law_random (pad_cons (ped_var 0 (pv 0)) (pad_cons ped_int pad_nil))))
    (psd_cons (psd_asgT (PE.frz (cwO (ok_law_plan Z) hr (by decide) (by rfl) Z.g__law_plan (par_sl 1 (pv 1) (par_sh ped_int (par_sh ped_int par_nil))))) (pgd_tup rfl (pgds_cons (pgd_name (i := 2) (sc_law).nd rfl (by first | exact Or.inl rfl | exact Or.inr rfl)) (pgds_cons (pgd_name (i := 3) (sc_law).nd rfl (by first | exact Or.inl rfl | exact Or.inr rfl)) (pgds_cons (pgd_name (i := 4) (sc_law).nd rfl (by first | exact Or.inl rfl | exact Or.inr rfl)) pgds_nil))) (gcns_len (gcns_len (gcns_len gnil_len)))))
    (psd_cons (psd_asg (i := 4) (sc_law).nd rfl (by first | exact Or.inl rfl | exact Or.inr rfl) (PE.sh (ped_sl (ped_var 4 (pv 4)) pod_none (pod_some (PE.frz (cwO (ok_law_below Z) hr (by decide) (by rfl) Z.g__law_below (par_sl 1 (pv 1) (par_sh ped_int par_nil))))))))
    (psd_cons (psd_asg (i := 5) (sc_law).nd rfl (by first | exact Or.inl rfl | exact Or.inr rfl) (PE.sh (PE.frz (cwO (ok_law_below Z) hr (by decide) (by rfl) Z.g__law_below (par_sl 1 (pv 1) (par_sh (ped_callB call_lenU lenD_ok (by rfl) Z.u_len (by decide +kernel) (pad_cons (ped_var 3 (pv 3)) pad_nil)) par_nil))))))
    (psd_cons (psd_par (i := 6) (j := 7) rfl (sc_law).nd rfl rfl (by decide) rfl rfl (pas_cons (PE.sh (ped_bin op_mod modD_ok (ped_bin op_addU addD_ok (ped_bin op_addU addD_ok (ped_var 5 (pv 5)) ped_int) (PE.frz (cwO (ok_law_below Z) hr (by decide) (by rfl) Z.g__law_below (par_sl 1 (pv 1) (par_sh (ped_bin op_sub subD_ok (ped_callB call_lenU lenD_ok (by rfl) Z.u_len (by decide +kernel) (pad_cons (ped_var 3 (pv 3)) pad_nil)) ped_int) par_nil))))) (ped_callB call_lenU lenD_ok (by rfl) Z.u_len (by decide +kernel) (pad_cons (ped_var 3 (pv 3)) pad_nil)))) (pas_cons (PE.sh ped_non) pas_nil)) rfl)
    (psd_cons (psd_for PassesOwn.never rfl (pid_range1 (by rfl) Z.u_range (pad_cons (ped_var 2 (pv 2)) pad_nil)) (pgd_name (i := 8) (sc_law).nd rfl (by first | exact Or.inl rfl | exact Or.inr rfl))
    (psd_cons (psd_asg (i := 9) (sc_law).nd rfl (by first | exact Or.inl rfl | exact Or.inr rfl) (PE.sh (PE.frz (cw (ok_law_greatest Z) hr (by decide) (by rfl) Z.g__law_greatest (pad_cons (PE.frz (cw (ok_law_ordered Z) hr (by decide) (by rfl) Z.g__law_ordered (pad_cons (ped_tup (pad_cons (ped_var 2 (pv 2)) (pad_cons (ped_var 3 (pv 3)) (pad_cons (ped_bin op_addU addD_ok (ped_var 4 (pv 4)) (PE.frz (peo_list (pad_cons (ped_tup (pad_cons ped_str (pad_cons (ped_var 5 (pv 5)) (pad_cons (ped_var 6 (pv 6)) (pad_cons (ped_var 8 (pv 8)) pad_nil))))) pad_nil)))) pad_nil)))) pad_nil))) pad_nil)))))
    (psd_one (psd_if (PWD.pt (pwd_and (ptd_cmp op_notN notD_ok (nomark _) (ped_var 9 (pv 9)) ped_non) (pwd_and1 (PWD.pt (pwd_or (ptd_cmp op_isN isD_ok (nomark _) (ped_var 7 (pv 7)) ped_non) (pwd_or1 (ptd_cmp op_lt ltD_ok (nomark _) (ped_var 9 (pv 9)) (ped_ixE (room65 hr) (ped_var 7 (pv 7)) ped_int fun _ _ => rfl))))))))
    (psd_one (psd_asg (i := 7) (sc_law).nd rfl (by first | exact Or.inl rfl | exact Or.inr rfl) (PE.sh (ped_tup (pad_cons (ped_var 9 (pv 9)) (pad_cons (ped_var 8 (pv 8)) pad_nil))))))
    psd_nil))))
    (psd_one (psd_ret (cw (ok_law_equal Z 12) hr (by decide) (by rfl) Z.g__law_equal (pad_cons (PE.frz (cw (ok_best_tick Z) hr (by decide) (by rfl) Z.g_best_tick (pad_cons (PE.frz (cw (ok_law_text Z) hr (by decide) (by rfl) Z.g__law_text (pad_cons (ped_tup (pad_cons (ped_var 2 (pv 2)) (pad_cons (ped_var 3 (pv 3)) (pad_cons (ped_var 4 (pv 4)) pad_nil)))) pad_nil))) (pad_cons (ped_ixE (room65 hr) (ped_var 3 (pv 3)) (ped_var 5 (pv 5)) fun _ _ => rfl) (pad_cons (ped_ixE (room65 hr) (ped_var 3 (pv 3)) (ped_var 6 (pv 6)) fun _ _ => rfl) pad_nil))))) (pad_cons (ped_var 7 (pv 7)) pad_nil)))))))))))
end
theorem law_fn {P : Program} {w : World} {K : PySem.W.Frag} {mg : Str → Option Value} {base : Heap} {f : Addr} {fd : FuncData} (Z : Fs K mg) (FF : FunD K "law" "law" (defArgs s_law) (defBody s_law) (defScope s_law) [] [] f fd) : FnOk P w K mg base CX0 14 f fd ["_law_script"] (spD K 1 f_law) :=
  fun_ok (k := 13) (N := N_law) FF sc_law fun cdv A outer s H vs E hr => PSs.nox (
    (psd_cons (psd_asg (i := 1) (sc_law).nd rfl (by first | exact Or.inl rfl | exact Or.inr rfl) (cw (ok_law_random Z) hr (by decide) (by rfl) Z.g__law_random (pad_cons (ped_var 0 (pv 0)) (pad_cons ped_int pad_nil))))
    (psd_cons (psd_asgT (PE.frz (cwO (ok_law_plan Z) hr (by decide) (by rfl) Z.g__law_plan (par_sl 1 (pv 1) (par_sh ped_int (par_sh ped_int par_nil))))) (pgd_tup rfl (pgds_cons (pgd_name (i := 2) (sc_law).nd rfl (by first | exact Or.inl rfl | exact Or.inr rfl)) (pgds_cons (pgd_name (i := 3) (sc_law).nd rfl (by first | exact Or.inl rfl | exact Or.inr rfl)) (pgds_cons (pgd_name (i := 4) (sc_law).nd rfl (by first | exact Or.inl rfl | exact Or.inr rfl)) pgds_nil))) (gcns_len (gcns_len (gcns_len gnil_len)))))
    (psd_cons (psd_asg (i := 4) (sc_law).nd rfl (by first | exact Or.inl rfl | exact Or.inr rfl) (PE.sh (ped_sl (ped_var 4 (pv 4)) pod_none (pod_some (PE.frz (cwO (ok_law_below Z) hr (by decide) (by rfl) Z.g__law_below (par_sl 1 (pv 1) (par_sh ped_int par_nil))))))))
    (psd_cons (psd_asg (i := 5) (sc_law).nd rfl (by first | exact Or.inl rfl | exact Or.inr rfl) (PE.sh (PE.frz (cwO (ok_law_below Z) hr (by decide) (by rfl) Z.g__law_below (par_sl 1 (pv 1) (par_sh (ped_callB call_lenU lenD_ok (by rfl) Z.u_len (by decide +kernel) (pad_cons (ped_var 3 (pv 3)) pad_nil)) par_nil))))))
    (psd_cons (psd_par (i := 6) (j := 7) rfl (sc_law).nd rfl rfl (by decide) rfl rfl (pas_cons (PE.sh (ped_bin op_mod modD_ok (ped_bin op_addU addD_ok (ped_bin op_addU addD_ok (ped_var 5 (pv 5)) ped_int) (PE.frz (cwO (ok_law_below Z) hr (by decide) (by rfl) Z.g__law_below (par_sl 1 (pv 1) (par_sh (ped_bin op_sub subD_ok (ped_callB call_lenU lenD_ok (by rfl) Z.u_len (by decide +kernel) (pad_cons (ped_var 3 (pv 3)) pad_nil)) ped_int) par_nil))))) (ped_callB call_lenU lenD_ok (by rfl) Z.u_len (by decide +kernel) (pad_cons (ped_var 3 (pv 3)) pad_nil)))) (pas_cons (PE.sh ped_non) pas_nil)) rfl)
    (psd_cons (psd_for PassesOwn.never rfl (pid_range1 (by rfl) Z.u_range (pad_cons (ped_var 2 (pv 2)) pad_nil)) (pgd_name (i := 8) (sc_law).nd rfl (by first | exact Or.inl rfl | exact Or.inr rfl))
    (psd_cons (psd_asg (i := 9) (sc_law).nd rfl (by first | exact Or.inl rfl | exact Or.inr rfl) (PE.sh (PE.frz (cw (ok_law_greatest Z) hr (by decide) (by rfl) Z.g__law_greatest (pad_cons (PE.frz (cw (ok_law_ordered Z) hr (by decide) (by rfl) Z.g__law_ordered (pad_cons (ped_tup (pad_cons (ped_var 2 (pv 2)) (pad_cons (ped_var 3 (pv 3)) (pad_cons (ped_bin op_addU addD_ok (ped_var 4 (pv 4)) (PE.frz (peo_list (pad_cons (ped_tup (pad_cons ped_str (pad_cons (ped_var 5 (pv 5)) (pad_cons (ped_var 6 (pv 6)) (pad_cons (ped_var 8 (pv 8)) pad_nil))))) pad_nil)))) pad_nil)))) pad_nil))) pad_nil)))))
    (psd_one (psd_if (PWD.pt (pwd_and (ptd_cmp op_notN notD_ok (nomark _) (ped_var 9 (pv 9)) ped_non) (pwd_and1 (PWD.pt (pwd_or (ptd_cmp op_isN isD_ok (nomark _) (ped_var 7 (pv 7)) ped_non) (pwd_or1 (ptd_cmp op_lt ltD_ok (nomark _) (ped_var 9 (pv 9)) (ped_ixE (room65 hr) (ped_var 7 (pv 7)) ped_int fun _ _ => rfl))))))))
    (psd_one (psd_asg (i := 7) (sc_law).nd rfl (by first | exact Or.inl rfl | exact Or.inr rfl) (PE.sh (ped_tup (pad_cons (ped_var 9 (pv 9)) (pad_cons (ped_var 8 (pv 8)) pad_nil))))))
    psd_nil))))
    (psd_one (psd_ret (cw (ok_law_equal Z 12) hr (by decide) (by rfl) Z.g__law_equal (pad_cons (PE.frz (cw (ok_best_tick Z) hr (by decide) (by rfl) Z.g_best_tick (pad_cons (PE.frz (cw (ok_law_text Z) hr (by decide) (by rfl) Z.g__law_text (pad_cons (ped_tup (pad_cons (ped_var 2 (pv 2)) (pad_cons (ped_var 3 (pv 3)) (pad_cons (ped_var 4 (pv 4)) pad_nil)))) pad_nil))) (pad_cons (ped_ixE (room65 hr) (ped_var 3 (pv 3)) (ped_var 5 (pv 5)) fun _ _ => rfl) (pad_cons (ped_ixE (room65 hr) (ped_var 3 (pv 3)) (ped_var 6 (pv 6)) fun _ _ => rfl) pad_nil))))) (pad_cons (ped_var 7 (pv 7)) pad_nil))))))))))))
end DL

set_option Elab.async false
set_option linter.all false
set_option maxRecDepth 100000
set_option maxHeartbeats 0
namespace DL
open PySem PySem.Spec PyProof.Rows L2
/-! the head -/
def e_law_random : De := ⟨.fn "_law_random", "_law_random", "_law_random", defArgs s_law_random, defBody s_law_random, defScope s_law_random⟩
def e_law_below : De := ⟨.fn "_law_below", "_law_below", "_law_below", defArgs s_law_below, defBody s_law_below, defScope s_law_below⟩
def e_law_shuffled : De := ⟨.fn "_law_shuffled", "_law_shuffled", "_law_shuffled", defArgs s_law_shuffled, defBody s_law_shuffled, defScope s_law_shuffled⟩
def e_law_ordered : De := ⟨.fn "_law_ordered", "_law_ordered", "_law_ordered", defArgs s_law_ordered, defBody s_law_ordered, defScope s_law_ordered⟩
def e_law_plan : De := ⟨.fn "_law_plan", "_law_plan", "_law_plan", defArgs s_law_plan, defBody s_law_plan, defScope s_law_plan⟩
def e_law_told : De := ⟨.fn "_law_told", "_law_told", "_law_told", defArgs s_law_told, defBody s_law_told, defScope s_law_told⟩
def e_law_held : De := ⟨.fn "_law_held", "_law_held", "_law_held", defArgs s_law_held, defBody s_law_held, defScope s_law_held⟩
def e_law_passed : De := ⟨.fn "_law_passed", "_law_passed", "_law_passed", defArgs s_law_passed, defBody s_law_passed, defScope s_law_passed⟩
def e_law_days : De := ⟨.fn "_law_days", "_law_days", "_law_days", defArgs s_law_days, defBody s_law_days, defScope s_law_days⟩
def e_law_enough : De := ⟨.fn "_law_enough", "_law_enough", "_law_enough", defArgs s_law_enough, defBody s_law_enough, defScope s_law_enough⟩
def e_law_all : De := ⟨.fn "_law_all", "_law_all", "_law_all", defArgs s_law_all, defBody s_law_all, defScope s_law_all⟩
def e_law_greatest : De := ⟨.fn "_law_greatest", "_law_greatest", "_law_greatest", defArgs s_law_greatest, defBody s_law_greatest, defScope s_law_greatest⟩
def e_law_equal : De := ⟨.fn "_law_equal", "_law_equal", "_law_equal", defArgs s_law_equal, defBody s_law_equal, defScope s_law_equal⟩
def e_Parser_peek : De := ⟨.me "Parser" "peek", "peek", "Parser.peek", defArgs s_Parser_peek, defBody s_Parser_peek, defScope s_Parser_peek⟩
def e_Parser_take_word : De := ⟨.me "Parser" "take_word", "take_word", "Parser.take_word", defArgs s_Parser_take_word, defBody s_Parser_take_word, defScope s_Parser_take_word⟩
def e_Parser_take : De := ⟨.me "Parser" "take", "take", "Parser.take", defArgs s_Parser_take, defBody s_Parser_take, defScope s_Parser_take⟩
def e_Parser_parse_people : De := ⟨.me "Parser" "parse_people", "parse_people", "Parser.parse_people", defArgs s_Parser_parse_people, defBody s_Parser_parse_people, defScope s_Parser_parse_people⟩
def e_Parser_person : De := ⟨.me "Parser" "person", "person", "Parser.person", defArgs s_Parser_person, defBody s_Parser_person, defScope s_Parser_person⟩
def e_Meeting_init : De := ⟨.me "Meeting" "__init__", "__init__", "Meeting.__init__", defArgs s_Meeting_init, defBody s_Meeting_init, defScope s_Meeting_init⟩
def e_Meeting_key : De := ⟨.pr "Meeting" "key", "key", "Meeting.key", defArgs s_Meeting_key, defBody s_Meeting_key, defScope s_Meeting_key⟩
def e_Parser_parse_meeting : De := ⟨.me "Parser" "parse_meeting", "parse_meeting", "Parser.parse_meeting", defArgs s_Parser_parse_meeting, defBody s_Parser_parse_meeting, defScope s_Parser_parse_meeting⟩
def e_Plan_init : De := ⟨.me "Plan" "__init__", "__init__", "Plan.__init__", defArgs s_Plan_init, defBody s_Plan_init, defScope s_Plan_init⟩
def e_Parser_parse_plan : De := ⟨.me "Parser" "parse_plan", "parse_plan", "Parser.parse_plan", defArgs s_Parser_parse_plan, defBody s_Parser_parse_plan, defScope s_Parser_parse_plan⟩
def e_Parser_init : De := ⟨.me "Parser" "__init__", "__init__", "Parser.__init__", defArgs s_Parser_init, defBody s_Parser_init, defScope s_Parser_init⟩
def e_Token_init : De := ⟨.me "Token" "__init__", "__init__", "Token.__init__", defArgs s_Token_init, defBody s_Token_init, defScope s_Token_init⟩
def e_run_end : De := ⟨.fn "run_end", "run_end", "run_end", defArgs s_run_end, defBody s_run_end, defScope s_run_end⟩
def e_read_token : De := ⟨.fn "read_token", "read_token", "read_token", defArgs s_read_token, defBody s_read_token, defScope s_read_token⟩
def e_tokenize : De := ⟨.fn "tokenize", "tokenize", "tokenize", defArgs s_tokenize, defBody s_tokenize, defScope s_tokenize⟩
def e_load : De := ⟨.fn "load", "load", "load", defArgs s_load, defBody s_load, defScope s_load⟩
def e_person_of : De := ⟨.fn "person_of", "person_of", "person_of", defArgs s_person_of, defBody s_person_of, defScope s_person_of⟩
def e_Plan_with_meetings : De := ⟨.me "Plan" "with_meetings", "with_meetings", "Plan.with_meetings", defArgs s_Plan_with_meetings, defBody s_Plan_with_meetings, defScope s_Plan_with_meetings⟩
def e_greatest : De := ⟨.fn "greatest", "greatest", "greatest", defArgs s_greatest, defBody s_greatest, defScope s_greatest⟩
def e_Story_lasting : De := ⟨.me "Story" "lasting", "lasting", "Story.lasting", defArgs s_Story_lasting, defBody s_Story_lasting, defScope s_Story_lasting⟩
def e_known_at : De := ⟨.fn "known_at", "known_at", "known_at", defArgs s_known_at, defBody s_known_at, defScope s_known_at⟩
def e_Plan_in_tick : De := ⟨.me "Plan" "in_tick", "in_tick", "Plan.in_tick", defArgs s_Plan_in_tick, defBody s_Plan_in_tick, defScope s_Plan_in_tick⟩
def e_newest : De := ⟨.fn "newest", "newest", "newest", defArgs s_newest, defBody s_newest, defScope s_newest⟩
def e_heard : De := ⟨.fn "heard", "heard", "heard", defArgs s_heard, defBody s_heard, defScope s_heard⟩
def e_after_meeting : De := ⟨.fn "after_meeting", "after_meeting", "after_meeting", defArgs s_after_meeting, defBody s_after_meeting, defScope s_after_meeting⟩
def e_Story_init : De := ⟨.me "Story" "__init__", "__init__", "Story.__init__", defArgs s_Story_init, defBody s_Story_init, defScope s_Story_init⟩
def e_best_tick : De := ⟨.fn "best_tick", "best_tick", "best_tick", defArgs s_best_tick, defBody s_best_tick, defScope s_best_tick⟩
def e_law_lines : De := ⟨.fn "_law_lines", "_law_lines", "_law_lines", defArgs s_law_lines, defBody s_law_lines, defScope s_law_lines⟩
def e_law_text : De := ⟨.fn "_law_text", "_law_text", "_law_text", defArgs s_law_text, defBody s_law_text, defScope s_law_text⟩
def e_law : De := ⟨.fn "law", "law", "law", defArgs s_law, defBody s_law, defScope s_law⟩
def fns : List De := [e_law_random, e_law_below, e_law_shuffled, e_law_ordered, e_law_plan, e_law_told, e_law_held, e_law_passed, e_law_days, e_law_enough, e_law_all, e_law_greatest, e_law_equal, e_Parser_peek, e_Parser_take_word, e_Parser_take, e_Parser_parse_people, e_Parser_person, e_Meeting_init, e_Meeting_key, e_Parser_parse_meeting, e_Plan_init, e_Parser_parse_plan, e_Parser_init, e_Token_init, e_run_end, e_read_token, e_tokenize, e_load, e_person_of, e_Plan_with_meetings, e_greatest, e_Story_lasting, e_known_at, e_Plan_in_tick, e_newest, e_heard, e_after_meeting, e_Story_init, e_best_tick, e_law_lines, e_law_text, e_law]
def fas0 : List Fb := [.fa (.glo "_law_random"),
  .fa (.free "abs"),
  .fa (.glo "_law_plan"),
  .fa (.glo "_law_shuffled"),
  .fa (.free "list"),
  .fa (.glo "_law_below"),
  .fa (.free "len"),
  .fa (.free "range"),
  .fa (.free "int"),
  .fa (.glo "_law_ordered"),
  .fa (.free "tuple"),
  .fa (.glo "_law_greatest"),
  .fa (.glo "_law_all"),
  .fa (.glo "_law_days"),
  .fa (.glo "_law_passed"),
  .fa (.glo "_law_told"),
  .fa (.free "dict"),
  .fa (.free "max"),
  .fa (.glo "_law_held"),
  .fa (.glo "_law_enough")]
def fas1 : List Fb := [.fa (.glo "_law_equal"),
  .fa (.free "isinstance"),
  .fa (.free "bool"),
  .fa (.free "str"),
  .fa (.free "all"),
  .fa (.glo "best_tick"),
  .fa (.glo "load"),
  .fa (.cls "Parser"),
  .fa (.noat "Parser" "tokens"),
  .fa (.noat "Parser" "at"),
  .fa (.meth "Parser" "peek"),
  .fa (.cls "Token"),
  .fa (.noat "Token" "text"),
  .fa (.meth "Parser" "take_word"),
  .fa (.noat "Token" "kind"),
  .fa (.meth "Parser" "take"),
  .fa (.str "NUMBER" "number"),
  .fa (.int "MAX_ROUND" 60),
  .fa (.str "NAME" "name"),
  .fa (.noat "Parser" "names")]
def fas2 : List Fb := [.fa (.int "MAX_PEOPLE" 8),
  .fa (.int "MIN_PEOPLE" 2),
  .fa (.meth "Parser" "parse_people"),
  .fa (.str "END" "end"),
  .fa (.str "TELL" "tell"),
  .fa (.str "MEET" "meet"),
  .fa (.meth "Parser" "person"),
  .fa (.cls "Meeting"),
  .fa (.noat "Meeting" "word"),
  .fa (.noat "Meeting" "one"),
  .fa (.noat "Meeting" "other"),
  .fa (.noat "Meeting" "tick"),
  .fa (.mkr "Meeting"),
  .fa (.glo "Meeting"),
  .prop "Meeting" "key",
  .fa (.noat "Parser" "meetings"),
  .fa (.int "MAX_MEETINGS" 20),
  .fa (.meth "Parser" "parse_meeting"),
  .fa (.noat "Parser" "faults"),
  .fa (.cls "Plan")]
def fas3 : List Fb := [.fa (.noat "Plan" "size"),
  .fa (.noat "Plan" "names"),
  .fa (.noat "Plan" "meetings"),
  .fa (.mkr "Plan"),
  .fa (.glo "Plan"),
  .fa (.meth "Parser" "parse_plan"),
  .fa (.glo "tokenize"),
  .fa (.free "enumerate"),
  .fa (.str "SPACES" " \n"),
  .fa (.glo "read_token"),
  .fa (.str "SIGNS" ";"),
  .fa (.noat "Token" "line"),
  .fa (.noat "Token" "column"),
  .fa (.str "SIGN" "sign"),
  .fa (.mkr "Token"),
  .fa (.glo "Token"),
  .fa (.str "DIGITS" "0123456789"),
  .fa (.glo "run_end"),
  .fa (.int "MAX_DIGITS" 2),
  .fa (.str "LETTERS" "abcdefghijklmnopqrstuvwxyz")]
def fas4 : List Fb := [.fa (.glo "KEYWORDS"),
  .tup "KEYWORDS" [.str "round", .str "people", .str "meet", .str "tell"],
  .fa (.str "KEYWORD" "keyword"),
  .fa (.int "MAX_LETTERS" 8),
  .fa (.mkr "Parser"),
  .fa (.glo "Parser"),
  .fa (.glo "person_of"),
  .fa (.meth "Plan" "with_meetings"),
  .fa (.glo "greatest"),
  .fa (.cls "Story"),
  .fa (.noat "Story" "ages"),
  .fa (.noat "Story" "start"),
  .fa (.meth "Story" "lasting"),
  .fa (.noat "Story" "size"),
  .fa (.glo "known_at"),
  .fa (.meth "Plan" "in_tick"),
  .fa (.glo "after_meeting"),
  .fa (.glo "heard"),
  .fa (.free "zip"),
  .fa (.glo "newest")]
def fas5 : List Fb := [.fa (.mkr "Story"),
  .fa (.glo "Story"),
  .fa (.glo "_law_text"),
  .fa (.glo "_law_lines"),
  .fa (.glo "law")]
def fas : List Fb := fas0 ++ fas1 ++ fas2 ++ fas3 ++ fas4 ++ fas5
def nms0 : List Str := ["_wall", "NewsError", "SyntaxFault", "CheckFault", "UnknownPerson", "InvalidNumber", "TooMany", "KEYWORDS", "LETTERS", "DIGITS", "SPACES", "SIGNS", "MAX_LETTERS", "MAX_DIGITS", "NAME", "NUMBER", "KEYWORD", "SIGN", "END", "Token", "run_end", "read_token", "tokenize", "MAX_ROUND", "MIN_PEOPLE", "MAX_PEOPLE", "MAX_MEETINGS", "MEET", "TELL", "Meeting"]
def nms1 : List Str := ["Plan", "Parser", "load", "person_of", "newest", "heard", "after_meeting", "known_at", "Story", "greatest", "best_tick", "_law_random", "_law_below", "_law_shuffled", "_law_ordered", "_law_plan", "_law_told", "_law_held", "_law_passed", "_law_days", "_law_enough", "_law_all", "_law_greatest", "_law_equal", "_law_lines", "_law_text"]
def nms : List Str := nms0 ++ nms1
abbrev RR : PySem.W.OpenRow := PySem.W.OpenLaw.row PySem.Challenge.rw_newsages_k09_best_ticks_of_plans
abbrev qv : Program := PySem.W.view RR.prog [62]
abbrev hk : PySem.W.Hook := hookE 6 fas fns
def ob (s : PySem.W.SharedT) : He.AlD := obsEG 6 fas fns (HandSHeadRun.getT s)
theorem ob_eq (s : PySem.W.SharedT) : ob s = hk.obs s.abs := obsEG_eq (HandSHeadRun.getT_eq s)
theorem run (w : World) : HandSHeadRun.RunEq RR qv hk ob 9000 nms w := by
  intro os
  kernel_rfl
theorem facts {K : PySem.W.Frag} {h : Heap} {mg : Str → Option Value} (KX : K.In h) (G : h.Ns mainGlobals mg) (c : SaysE fas fns K) : Fs K mg := by
  constructor
  · exact He.glo_ok KX G (c.fact 0 (f := .fa (.glo "_law_random")) rfl)
  · exact He.free_ok KX G (c.fact 1 (f := .fa (.free "abs")) rfl)
  · exact He.glo_ok KX G (c.fact 2 (f := .fa (.glo "_law_plan")) rfl)
  · exact He.glo_ok KX G (c.fact 3 (f := .fa (.glo "_law_shuffled")) rfl)
  · exact He.free_ok KX G (c.fact 4 (f := .fa (.free "list")) rfl)
  · exact He.glo_ok KX G (c.fact 5 (f := .fa (.glo "_law_below")) rfl)
  · exact He.free_ok KX G (c.fact 6 (f := .fa (.free "len")) rfl)
  · exact He.free_ok KX G (c.fact 7 (f := .fa (.free "range")) rfl)
  · exact He.free_ok KX G (c.fact 8 (f := .fa (.free "int")) rfl)
  · exact He.glo_ok KX G (c.fact 9 (f := .fa (.glo "_law_ordered")) rfl)
  · exact He.free_ok KX G (c.fact 10 (f := .fa (.free "tuple")) rfl)
  · exact He.glo_ok KX G (c.fact 11 (f := .fa (.glo "_law_greatest")) rfl)
  · exact He.glo_ok KX G (c.fact 12 (f := .fa (.glo "_law_all")) rfl)
  · exact He.glo_ok KX G (c.fact 13 (f := .fa (.glo "_law_days")) rfl)
  · exact He.glo_ok KX G (c.fact 14 (f := .fa (.glo "_law_passed")) rfl)
  · exact He.glo_ok KX G (c.fact 15 (f := .fa (.glo "_law_told")) rfl)
  · exact He.free_ok KX G (c.fact 16 (f := .fa (.free "dict")) rfl)
  · exact He.free_ok KX G (c.fact 17 (f := .fa (.free "max")) rfl)
  · exact He.glo_ok KX G (c.fact 18 (f := .fa (.glo "_law_held")) rfl)
  · exact He.glo_ok KX G (c.fact 19 (f := .fa (.glo "_law_enough")) rfl)
  · exact He.glo_ok KX G (c.fact 20 (f := .fa (.glo "_law_equal")) rfl)
  · exact He.free_ok KX G (c.fact 21 (f := .fa (.free "isinstance")) rfl)
  · exact He.free_ok KX G (c.fact 22 (f := .fa (.free "bool")) rfl)
  · exact He.free_ok KX G (c.fact 23 (f := .fa (.free "str")) rfl)
  · exact He.free_ok KX G (c.fact 24 (f := .fa (.free "all")) rfl)
  · exact He.glo_ok KX G (c.fact 25 (f := .fa (.glo "best_tick")) rfl)
  · exact He.glo_ok KX G (c.fact 26 (f := .fa (.glo "load")) rfl)
  · exact He.cls_ok (c.fact 27 (f := .fa (.cls "Parser")) rfl)
  · exact He.noat_ok (c.fact 28 (f := .fa (.noat "Parser" "tokens")) rfl)
  · exact He.noat_ok (c.fact 29 (f := .fa (.noat "Parser" "at")) rfl)
  · exact He.meth_ok (c.fact 30 (f := .fa (.meth "Parser" "peek")) rfl)
  · exact He.cls_ok (c.fact 31 (f := .fa (.cls "Token")) rfl)
  · exact He.noat_ok (c.fact 32 (f := .fa (.noat "Token" "text")) rfl)
  · exact He.meth_ok (c.fact 33 (f := .fa (.meth "Parser" "take_word")) rfl)
  · exact He.noat_ok (c.fact 34 (f := .fa (.noat "Token" "kind")) rfl)
  · exact He.meth_ok (c.fact 35 (f := .fa (.meth "Parser" "take")) rfl)
  · exact He.str_ok KX G (c.fact 36 (f := .fa (.str "NUMBER" "number")) rfl)
  · exact He.int_ok KX G (c.fact 37 (f := .fa (.int "MAX_ROUND" 60)) rfl)
  · exact He.str_ok KX G (c.fact 38 (f := .fa (.str "NAME" "name")) rfl)
  · exact He.noat_ok (c.fact 39 (f := .fa (.noat "Parser" "names")) rfl)
  · exact He.int_ok KX G (c.fact 40 (f := .fa (.int "MAX_PEOPLE" 8)) rfl)
  · exact He.int_ok KX G (c.fact 41 (f := .fa (.int "MIN_PEOPLE" 2)) rfl)
  · exact He.meth_ok (c.fact 42 (f := .fa (.meth "Parser" "parse_people")) rfl)
  · exact He.str_ok KX G (c.fact 43 (f := .fa (.str "END" "end")) rfl)
  · exact He.str_ok KX G (c.fact 44 (f := .fa (.str "TELL" "tell")) rfl)
  · exact He.str_ok KX G (c.fact 45 (f := .fa (.str "MEET" "meet")) rfl)
  · exact He.meth_ok (c.fact 46 (f := .fa (.meth "Parser" "person")) rfl)
  · exact He.cls_ok (c.fact 47 (f := .fa (.cls "Meeting")) rfl)
  · exact He.noat_ok (c.fact 48 (f := .fa (.noat "Meeting" "word")) rfl)
  · exact He.noat_ok (c.fact 49 (f := .fa (.noat "Meeting" "one")) rfl)
  · exact He.noat_ok (c.fact 50 (f := .fa (.noat "Meeting" "other")) rfl)
  · exact He.noat_ok (c.fact 51 (f := .fa (.noat "Meeting" "tick")) rfl)
  · exact He.mkr_ok (c.fact 52 (f := .fa (.mkr "Meeting")) rfl)
  · exact He.glo_ok KX G (c.fact 53 (f := .fa (.glo "Meeting")) rfl)
  · exact prop_ok (c.fact 54 (f := .prop "Meeting" "key") rfl)
  · exact He.noat_ok (c.fact 55 (f := .fa (.noat "Parser" "meetings")) rfl)
  · exact He.int_ok KX G (c.fact 56 (f := .fa (.int "MAX_MEETINGS" 20)) rfl)
  · exact He.meth_ok (c.fact 57 (f := .fa (.meth "Parser" "parse_meeting")) rfl)
  · exact He.noat_ok (c.fact 58 (f := .fa (.noat "Parser" "faults")) rfl)
  · exact He.cls_ok (c.fact 59 (f := .fa (.cls "Plan")) rfl)
  · exact He.noat_ok (c.fact 60 (f := .fa (.noat "Plan" "size")) rfl)
  · exact He.noat_ok (c.fact 61 (f := .fa (.noat "Plan" "names")) rfl)
  · exact He.noat_ok (c.fact 62 (f := .fa (.noat "Plan" "meetings")) rfl)
  · exact He.mkr_ok (c.fact 63 (f := .fa (.mkr "Plan")) rfl)
  · exact He.glo_ok KX G (c.fact 64 (f := .fa (.glo "Plan")) rfl)
  · exact He.meth_ok (c.fact 65 (f := .fa (.meth "Parser" "parse_plan")) rfl)
  · exact He.glo_ok KX G (c.fact 66 (f := .fa (.glo "tokenize")) rfl)
  · exact He.free_ok KX G (c.fact 67 (f := .fa (.free "enumerate")) rfl)
  · exact He.str_ok KX G (c.fact 68 (f := .fa (.str "SPACES" " \n")) rfl)
  · exact He.glo_ok KX G (c.fact 69 (f := .fa (.glo "read_token")) rfl)
  · exact He.str_ok KX G (c.fact 70 (f := .fa (.str "SIGNS" ";")) rfl)
  · exact He.noat_ok (c.fact 71 (f := .fa (.noat "Token" "line")) rfl)
  · exact He.noat_ok (c.fact 72 (f := .fa (.noat "Token" "column")) rfl)
  · exact He.str_ok KX G (c.fact 73 (f := .fa (.str "SIGN" "sign")) rfl)
  · exact He.mkr_ok (c.fact 74 (f := .fa (.mkr "Token")) rfl)
  · exact He.glo_ok KX G (c.fact 75 (f := .fa (.glo "Token")) rfl)
  · exact He.str_ok KX G (c.fact 76 (f := .fa (.str "DIGITS" "0123456789")) rfl)
  · exact He.glo_ok KX G (c.fact 77 (f := .fa (.glo "run_end")) rfl)
  · exact He.int_ok KX G (c.fact 78 (f := .fa (.int "MAX_DIGITS" 2)) rfl)
  · exact He.str_ok KX G (c.fact 79 (f := .fa (.str "LETTERS" "abcdefghijklmnopqrstuvwxyz")) rfl)
  · exact He.glo_ok KX G (c.fact 80 (f := .fa (.glo "KEYWORDS")) rfl)
  · exact (c.fact 81 (f := .tup "KEYWORDS" [.str "round", .str "people", .str "meet", .str "tell"]) rfl)
  · exact He.str_ok KX G (c.fact 82 (f := .fa (.str "KEYWORD" "keyword")) rfl)
  · exact He.int_ok KX G (c.fact 83 (f := .fa (.int "MAX_LETTERS" 8)) rfl)
  · exact He.mkr_ok (c.fact 84 (f := .fa (.mkr "Parser")) rfl)
  · exact He.glo_ok KX G (c.fact 85 (f := .fa (.glo "Parser")) rfl)
  · exact He.glo_ok KX G (c.fact 86 (f := .fa (.glo "person_of")) rfl)
  · exact He.meth_ok (c.fact 87 (f := .fa (.meth "Plan" "with_meetings")) rfl)
  · exact He.glo_ok KX G (c.fact 88 (f := .fa (.glo "greatest")) rfl)
  · exact He.cls_ok (c.fact 89 (f := .fa (.cls "Story")) rfl)
  · exact He.noat_ok (c.fact 90 (f := .fa (.noat "Story" "ages")) rfl)
  · exact He.noat_ok (c.fact 91 (f := .fa (.noat "Story" "start")) rfl)
  · exact He.meth_ok (c.fact 92 (f := .fa (.meth "Story" "lasting")) rfl)
  · exact He.noat_ok (c.fact 93 (f := .fa (.noat "Story" "size")) rfl)
  · exact He.glo_ok KX G (c.fact 94 (f := .fa (.glo "known_at")) rfl)
  · exact He.meth_ok (c.fact 95 (f := .fa (.meth "Plan" "in_tick")) rfl)
  · exact He.glo_ok KX G (c.fact 96 (f := .fa (.glo "after_meeting")) rfl)
  · exact He.glo_ok KX G (c.fact 97 (f := .fa (.glo "heard")) rfl)
  · exact He.free_ok KX G (c.fact 98 (f := .fa (.free "zip")) rfl)
  · exact He.glo_ok KX G (c.fact 99 (f := .fa (.glo "newest")) rfl)
  · exact He.mkr_ok (c.fact 100 (f := .fa (.mkr "Story")) rfl)
  · exact He.glo_ok KX G (c.fact 101 (f := .fa (.glo "Story")) rfl)
  · exact He.glo_ok KX G (c.fact 102 (f := .fa (.glo "_law_text")) rfl)
  · exact He.glo_ok KX G (c.fact 103 (f := .fa (.glo "_law_lines")) rfl)
  · exact He.glo_ok KX G (c.fact 104 (f := .fa (.glo "law")) rfl)
  · exact c.def_ 0 (d := e_law_random) rfl
  · exact c.def_ 1 (d := e_law_below) rfl
  · exact c.def_ 2 (d := e_law_shuffled) rfl
  · exact c.def_ 3 (d := e_law_ordered) rfl
  · exact c.def_ 4 (d := e_law_plan) rfl
  · exact c.def_ 5 (d := e_law_told) rfl
  · exact c.def_ 6 (d := e_law_held) rfl
  · exact c.def_ 7 (d := e_law_passed) rfl
  · exact c.def_ 8 (d := e_law_days) rfl
  · exact c.def_ 9 (d := e_law_enough) rfl
  · exact c.def_ 10 (d := e_law_all) rfl
  · exact c.def_ 11 (d := e_law_greatest) rfl
  · exact c.def_ 12 (d := e_law_equal) rfl
  · exact c.def_ 13 (d := e_Parser_peek) rfl
  · exact c.def_ 14 (d := e_Parser_take_word) rfl
  · exact c.def_ 15 (d := e_Parser_take) rfl
  · exact c.def_ 16 (d := e_Parser_parse_people) rfl
  · exact c.def_ 17 (d := e_Parser_person) rfl
  · exact c.def_ 18 (d := e_Meeting_init) rfl
  · exact c.def_ 19 (d := e_Meeting_key) rfl
  · exact c.def_ 20 (d := e_Parser_parse_meeting) rfl
  · exact c.def_ 21 (d := e_Plan_init) rfl
  · exact c.def_ 22 (d := e_Parser_parse_plan) rfl
  · exact c.def_ 23 (d := e_Parser_init) rfl
  · exact c.def_ 24 (d := e_Token_init) rfl
  · exact c.def_ 25 (d := e_run_end) rfl
  · exact c.def_ 26 (d := e_read_token) rfl
  · exact c.def_ 27 (d := e_tokenize) rfl
  · exact c.def_ 28 (d := e_load) rfl
  · exact c.def_ 29 (d := e_person_of) rfl
  · exact c.def_ 30 (d := e_Plan_with_meetings) rfl
  · exact c.def_ 31 (d := e_greatest) rfl
  · exact c.def_ 32 (d := e_Story_lasting) rfl
  · exact c.def_ 33 (d := e_known_at) rfl
  · exact c.def_ 34 (d := e_Plan_in_tick) rfl
  · exact c.def_ 35 (d := e_newest) rfl
  · exact c.def_ 36 (d := e_heard) rfl
  · exact c.def_ 37 (d := e_after_meeting) rfl
  · exact c.def_ 38 (d := e_Story_init) rfl
  · exact c.def_ 39 (d := e_best_tick) rfl
  · exact c.def_ 40 (d := e_law_lines) rfl
  · exact c.def_ 41 (d := e_law_text) rfl
  · exact c.def_ 42 (d := e_law) rfl
end DL

open PySem PySem.W PySem.Calls PyProof.Rows
theorem PySem.Challenge.cw_newsages_k09_best_ticks_of_plans_holds : PySem.Challenge.rw_newsages_k09_best_ticks_of_plans.Holds := by
  w_on; o_law
  refine HandSHeadRun.head_any (r := OpenLaw.row PySem.Challenge.rw_newsages_k09_best_ticks_of_plans) (q := DL.qv) (H := DL.hk) (ob := DL.ob) (M := 9000) (loose := DL.nms) (d := HandSHeadRun.topDef (OpenLaw.row PySem.Challenge.rw_newsages_k09_best_ticks_of_plans).prog 62) (kwd := []) DL.ob_eq
    (by kernel_rfl) (fun s => by kernel_rfl) DL.run (by kernel_rfl) (by kernel_rfl) (by kernel_rfl) (by rfl) (by first | assumption | decide +kernel) (by decide +kernel) ⟨rfl, rfl, rfl, rfl, rfl, by decide +kernel⟩ ?hw ?hc
  case hw => w_witness2
  case hc =>
    refine L2.walk_ofE (l := PySem.Challenge.rw_newsages_k09_best_ticks_of_plans) (n := 63) (k := 14) (x := "_law_script") (CX := L2.CX0) rfl (by decide) (by kernel_rfl) ⟨rfl, by decide, by decide⟩ ?F (fun _ _ _ _ z => z)
    intro w mg fa h Y G hmg0
    obtain ⟨K, KX, c⟩ := Y
    have Z := DL.facts KX G c
    have hmg : mg ("law" : PySem.Str) = some (.ref fa) := by
      have e : (HandSHeadRun.topDef (OpenLaw.row PySem.Challenge.rw_newsages_k09_best_ticks_of_plans).prog 62).name = ("law" : PySem.Str) := by kernel_rfl
      rw [← e]
      exact hmg0
    have e := hmg.symm.trans Z.g_law
    cases e
    obtain ⟨fd, F⟩ := Z.F_law
    have hb : ∀ (s : Shared) (v : Value), BindsTo s fd ⟨[v], []⟩ [("_law_script", v)] := fun s v => L2.FunD.bindsA (ps := ["_law_script"]) F (fun _ _ _ _ _ _ us hl => match us, hl with | [_], _ => rfl) s [v] rfl
    refine ⟨K, fd, DL.spD K 1 DL.f_law, KX, hb, fun H a ns hl _ hS => DL.law_sp hS (DL.law_true ns hl), fun base _ _ => DL.law_fn Z F⟩
