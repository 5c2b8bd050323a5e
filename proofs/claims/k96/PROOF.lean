import PyProof.Rows.All
import Wide.All
import OpenK.AllK
import Wide.FinOn
import HandS.ForMost
import HandS.ExcInit
import HandS.Wide
import HandS.TupAny
import HandS.Deep
import HandS.Style
import KE.DataEq
import HandS.CallSlots
import HandS.ExcOwn
import HandS.FStr
import HandS.IsInst
import HandS.More
import HandS.Comp
import HandS.ExcIs
import KE.KExcIs
import HandS.ExcField
import HandS.TryOnly
import HandS.TryMany
import HandS.ExcValue
import HandS.WordsExc
import HandS.CallRecv
import HandS.Defaults
import HandS.Star
import HandS.HeadHook2
import HandS.HeadEnd
import HandS.Head0
import HandS.Head1
import HandS.Head2
import PySem.Challenge.RW_handsatwork_k96_errors_built
section
set_option Elab.async false
set_option linter.all false
set_option maxRecDepth 100000
set_option maxHeartbeats 2000000
namespace OT
open PySem PySem.Spec PyProof.Rows L2
/-! ### trees -/
inductive Fl where
  | own | frz | vw | st
  deriving DecidableEq
inductive T where
  | non | bl (b : Bool) | int (i : Int) | str (x : Str)
  | tup (ts : List T) | lst (f : Fl) (ts : List T)
  | dic (f : Fl) (ks : List Key) (ts : List T)
  | ins (f : Fl) (c : Str) (ns : List Str) (ts : List T)
  | rng (lo hi : Int)
  | gap (v : V)
  | xo (c : Str) (ns : List Str) (ts : List T)      -- an own exception, held as a value
def flatT : T → Bool
  | .non => true
  | .bl _ => true
  | .int _ => true
  | .str _ => true
  | _ => false
mutual
/-- no owned part -/
def cpy : T → Bool
  | .tup ts => cpys ts
  | .lst f ts => f != .own && cpys ts
  | .dic f _ ts => f != .own && cpys ts
  | .ins f _ _ ts => f != .own && cpys ts
  | .gap _ => false
  | _ => true
def cpys : List T → Bool
  | [] => true
  | t :: r => cpy t && cpys r
end
mutual
/-- no viewed part, no gap -/
def nvw : T → Bool
  | .tup ts => nvws ts
  | .lst f ts => f != .vw && nvws ts
  | .dic f _ ts => f != .vw && nvws ts
  | .ins f _ _ ts => f != .vw && nvws ts
  | .gap _ => false
  | _ => true
def nvws : List T → Bool
  | [] => true
  | t :: r => nvw t && nvws r
end
def toF (g f : Fl) : Fl := match f with
  | .own => g
  | f => f
mutual
/-- owned parts turned into g -/
def turn (g : Fl) : T → T
  | .tup ts => .tup (turns g ts)
  | .lst f ts => .lst (toF g f) (turns g ts)
  | .dic f ks ts => .dic (toF g f) ks (turns g ts)
  | .ins f c ns ts => .ins (toF g f) c ns (turns g ts)
  | t => t
def turns (g : Fl) : List T → List T
  | [] => []
  | t :: r => turn g t :: turns g r
end
theorem turns_length (g : Fl) : ∀ ts : List T, (turns g ts).length = ts.length
  | [] => rfl
  | t :: r => by simp [turns, turns_length g r]
/-! ### what a tree stands for -/
/-- the classes' places; what is caught at present -/
structure CA where
  f : Str → Addr
  x : Option (Addr × Value × Option Addr) := none
structure RE where
  K : PySem.W.Frag
  ca : CA
  gf : Addr → Prop
  gv : Addr → Prop
def RE.reg (E : RE) (f : Fl) (a : Addr) : Prop := match f with
  | .own => True
  | .frz => E.gf a
  | .vw => E.gv a
  | .st => True
def hd (f : Fl) (a : Addr) : List Addr := match f with
  | .own => [a]
  | _ => []
/-- a list that nobody changes: known to the object, or of the written part -/
def SqF (K : PySem.W.Frag) (H : Hp) (a : Addr) (xs : List V) : Prop :=
  (∃ o, H a = some (.frz o (.lst xs))) ∨ ∃ (o : Obj) (its : Array Value) (n : Nat), K.lookup a = some o ∧ o.cls = .type "list" ∧ o.dict = none ∧ o.data = .seq its n ∧ its.size ≤ sizeLine ∧ Vals xs its.toList
theorem SqF.to {K : PySem.W.Frag} {H : Hp} {a : Addr} {xs : List V} (h : SqF K H a xs) : SqL K H a xs := h.elim (fun z => .inl (.inr z)) .inr
def LsAt (K : PySem.W.Frag) (H : Hp) (f : Fl) (a : Addr) (vs : List V) : Prop := match f with
  | .st => SqF K H a vs
  | _ => H a = some (.lst vs)
/-- an exception of the class c at a, its fields kvs -/
def XoAt (E : RE) (H : Hp) (a : Addr) (c : Str) (kvs : List (Str × V)) : Prop := (∃ d, H a = some (exo a (E.ca.f c) (some d)) ∧ H d = some (exd d kvs)) ∨ (kvs = [] ∧ H a = some (exo a (E.ca.f c) none))
inductive Rp (E : RE) (H : Hp) : T ⊕ List T → V ⊕ List V → List Addr → Prop where
  | non : Rp E H (.inl .non) (.inl .non) []
  | bl {b} : Rp E H (.inl (.bl b)) (.inl (.bl b)) []
  | int {i} : Rp E H (.inl (.int i)) (.inl (.int i)) []
  | str {x} : Rp E H (.inl (.str x)) (.inl (.str x)) []
  | gap {v} : Rp E H (.inl (.gap v)) (.inl v) []
  | rng {a lo hi} : H a = some (.rng lo hi) → Rp E H (.inl (.rng lo hi)) (.inl (.ref a)) []
  | tup {a ts vs g} : SqT E.K H a vs → Rp E H (.inr ts) (.inr vs) g → Rp E H (.inl (.tup ts)) (.inl (.ref a)) g
  | lst {f a ts vs g} : LsAt E.K H f a vs → E.reg f a → Rp E H (.inr ts) (.inr vs) g → (f ≠ .own → g = []) → Rp E H (.inl (.lst f ts)) (.inl (.ref a)) (hd f a ++ g)
  | dic {f a ks ts vs g} : H a = some (.dK (ks.zip vs)) → ks.length = ts.length → E.reg f a → f ≠ .st → Rp E H (.inr ts) (.inr vs) g → (f ≠ .own → g = []) → Rp E H (.inl (.dic f ks ts)) (.inl (.ref a)) (hd f a ++ g)
  | ins {f a c dx ns ts vs g} : H a = some (.ins (E.ca.f c) dx (ns.zip vs)) → ns.length = ts.length → E.reg f a → f ≠ .st → Rp E H (.inr ts) (.inr vs) g → (f ≠ .own → g = []) → Rp E H (.inl (.ins f c ns ts)) (.inl (.ref a)) (hd f a ++ g)
  | xo {a c ns ts vs} : XoAt E H a c (ns.zip vs).reverse → ns.length = ts.length → ns.Nodup → ts.all flatT = true → Rp E H (.inr ts) (.inr vs) [] → Rp E H (.inl (.xo c ns ts)) (.inl (.ref a)) []
  | nil : Rp E H (.inr []) (.inr []) []
  | cons {t v f ts vs g} : Rp E H (.inl t) (.inl v) f → Rp E H (.inr ts) (.inr vs) g → Rp E H (.inr (t :: ts)) (.inr (v :: vs)) (f ++ g)
abbrev Rep (E : RE) (H : Hp) (t : T) (v : V) (f : List Addr) : Prop := Rp E H (.inl t) (.inl v) f
abbrev Reps (E : RE) (H : Hp) (ts : List T) (vs : List V) (f : List Addr) : Prop := Rp E H (.inr ts) (.inr vs) f
/-- what is changed in place -/
def Mt : HO → Prop
  | .lst _ => True
  | .dK _ => True
  | .ins _ _ _ => True
  | _ => False
section
variable {E E' : RE} {H H' : Hp} {t : T} {ts : List T} {v : V} {vs : List V} {f g : List Addr}
theorem Reps.length (h : Reps E H ts vs f) : ts.length = vs.length := by
  induction vs generalizing ts f with
  | nil => cases h; rfl
  | cons v vs ih =>
    cases h with
    | cons h1 h2 => simp [ih h2]
theorem Rp.mt {x : T ⊕ List T} {y : V ⊕ List V} (h : Rp E H x y f) : ∀ a ∈ f, ∃ o, H a = some o ∧ Mt o := by
  induction h with
  | @lst f a ts vs g hl hr hp hg ih =>
    intro b hb
    rcases List.mem_append.mp hb with hb | hb
    · cases f with
      | own =>
        have e : b = a := by simpa [hd] using hb
        subst e
        exact ⟨_, hl, trivial⟩
      | _ => simp [hd] at hb
    · exact ih b hb
  | @dic f a ks ts vs g hl hn hr ns hp hg ih =>
    intro b hb
    rcases List.mem_append.mp hb with hb | hb
    · cases f with
      | own =>
        have e : b = a := by simpa [hd] using hb
        subst e
        exact ⟨_, hl, trivial⟩
      | _ => simp [hd] at hb
    · exact ih b hb
  | @ins f a c dx ns' ts vs g hl hn hr ns hp hg ih =>
    intro b hb
    rcases List.mem_append.mp hb with hb | hb
    · cases f with
      | own =>
        have e : b = a := by simpa [hd] using hb
        subst e
        exact ⟨_, hl, trivial⟩
      | _ => simp [hd] at hb
    · exact ih b hb
  | tup _ _ ih => exact ih
  | cons _ _ ih1 ih2 =>
    intro b hb
    rcases List.mem_append.mp hb with hb | hb
    · exact ih1 b hb
    · exact ih2 b hb
  | _ => intro b hb; simp at hb
theorem rd_keep {a : Addr} {u : HO} (h : Rd H a u) (k : ∀ o, H a = some o → H' a = some o) : Rd H' a u := by
  rcases h with h | ⟨o, h⟩
  · exact .inl (k _ h)
  · exact .inr ⟨o, k _ h⟩
theorem sqt_keep {K : PySem.W.Frag} {a : Addr} {xs : List V} (h : SqT K H a xs) (k : ∀ o, H a = some o → ¬ Mt o → H' a = some o) : SqT K H' a xs := by
  rcases h with h | h
  · rcases h with h | ⟨o, h⟩
    · exact .inl (.inl (k _ h fun z => z))
    · exact .inl (.inr ⟨o, k _ h fun z => z⟩)
  · exact .inr h
theorem sql_keep {K : PySem.W.Frag} {a : Addr} {xs : List V} (h : SqL K H a xs) (k : ∀ o, H a = some o → H' a = some o) : SqL K H' a xs := by
  rcases h with h | h
  · exact .inl (rd_keep h k)
  · exact .inr h
theorem sqf_keep {K : PySem.W.Frag} {a : Addr} {xs : List V} (h : SqF K H a xs) (k : ∀ o, H a = some o → ¬ Mt o → H' a = some o) : SqF K H' a xs := by
  rcases h with ⟨o, h⟩ | h
  · exact .inl ⟨o, k _ h fun z => z⟩
  · exact .inr h
theorem xo_keep {a : Addr} {c : Str} {kvs : List (Str × V)} (h : XoAt E H a c kvs) (hc : E'.ca.f = E.ca.f) (k : ∀ b o, H b = some o → ¬ Mt o → H' b = some o) : XoAt E' H' a c kvs := by
  unfold XoAt at h ⊢
  rw [hc]
  rcases h with ⟨d, h1, h2⟩ | ⟨h1, h2⟩
  · exact .inl ⟨d, k _ _ h1 fun z => z, k _ _ h2 fun z => z⟩
  · exact .inr ⟨h1, k _ _ h2 fun z => z⟩
theorem flat_rp : ∀ {ts : List T} {vs : List V} {f : List Addr}, Reps E H ts vs f → ts.all flatT = true → Reps E' H' ts vs []
  | [], _, _, r, _ => by cases r; exact .nil
  | t :: ts, _, _, r, h => by
    rw [List.all_cons, Bool.and_eq_true] at h
    cases r with
    | cons r1 r2 =>
      refine Rp.cons (f := []) (g := []) ?_ (flat_rp r2 h.2)
      cases t <;> first | exact Bool.noConfusion (show false = true from h.1) | skip
      · cases r1; exact .non
      · cases r1; exact .bl
      · cases r1; exact .int
      · cases r1; exact .str
/-- what a tree stands for is kept where its own parts, what is frozen, what is viewed and what never changes is kept -/
theorem Rp.keep {x : T ⊕ List T} {y : V ⊕ List V} (h : Rp E H x y f) (hK : E'.K = E.K) (hc : E'.ca = E.ca) (hf : ∀ a, E.gf a → E'.gf a) (hv : ∀ a, E.gv a → E'.gv a)
    (k : ∀ a o, H a = some o → (a ∈ f ∨ E.gf a ∨ E.gv a ∨ ¬ Mt o) → H' a = some o) : Rp E' H' x y f := by
  induction h with
  | non => exact .non
  | bl => exact .bl
  | int => exact .int
  | str => exact .str
  | gap => exact .gap
  | rng h => exact .rng (k _ _ h (.inr (.inr (.inr fun z => z))))
  | tup h _ ih => exact .tup (by rw [hK]; exact sqt_keep h fun o e m => k _ _ e (.inr (.inr (.inr m)))) (ih k)
  | nil => exact .nil
  | xo hx hn hd hf hr ih => exact .xo (xo_keep hx (by rw [hc]) fun o u e m => k _ _ e (.inr (.inr (.inr m)))) hn hd hf (flat_rp hr hf)
  | cons _ _ ih1 ih2 =>
    exact .cons (ih1 fun a o e c => k a o e (c.imp (fun z => List.mem_append_left _ z) id)) (ih2 fun a o e c => k a o e (c.imp (fun z => List.mem_append_right _ z) id))
  | @lst f a ts vs g hl hr hp hg ih =>
    refine .lst ?_ ?_ (ih fun b o e c => k b o e (c.imp (fun z => List.mem_append_right _ z) id)) hg
    · cases f with
      | own => exact k _ _ hl (.inl (by simp [hd]))
      | frz => exact k _ _ hl (.inr (.inl hr))
      | vw => exact k _ _ hl (.inr (.inr (.inl hr)))
      | st =>
        show SqF E'.K H' a vs
        rw [hK]
        exact sqf_keep hl fun o e m => k _ _ e (.inr (.inr (.inr m)))
    · cases f with
      | own => trivial
      | frz => exact hf _ hr
      | vw => exact hv _ hr
      | st => trivial
  | @dic f a ks ts vs g hl hn hr ns hp hg ih =>
    refine .dic ?_ hn ?_ ns (ih fun b o e c => k b o e (c.imp (fun z => List.mem_append_right _ z) id)) hg
    · cases f with
      | own => exact k _ _ hl (.inl (by simp [hd]))
      | frz => exact k _ _ hl (.inr (.inl hr))
      | vw => exact k _ _ hl (.inr (.inr (.inl hr)))
      | st => exact absurd rfl ns
    · cases f with
      | own => trivial
      | frz => exact hf _ hr
      | vw => exact hv _ hr
      | st => trivial
  | @ins f a c dx ns' ts vs g hl hn hr ns hp hg ih =>
    refine .ins (dx := dx) ?_ hn ?_ ns (ih fun b o e c => k b o e (c.imp (fun z => List.mem_append_right _ z) id)) hg
    · rw [hc]
      cases f with
      | own => exact k _ _ hl (.inl (by simp [hd]))
      | frz => exact k _ _ hl (.inr (.inl hr))
      | vw => exact k _ _ hl (.inr (.inr (.inl hr)))
      | st => exact absurd rfl ns
    · cases f with
      | own => trivial
      | frz => exact hf _ hr
      | vw => exact hv _ hr
      | st => trivial
/-- owned parts as frozen, viewed ones -/
theorem Rp.turn {x : T ⊕ List T} {y : V ⊕ List V} {fl : Fl} (h : Rp E H x y f) (hn : fl = .frz ∨ fl = .vw) (hK : E'.K = E.K) (hc : E'.ca = E.ca) (hf : ∀ a, E.gf a → E'.gf a) (hv : ∀ a, E.gv a → E'.gv a)
    (ho : ∀ a ∈ f, E'.reg fl a) : Rp E' H (x.map (turn fl) (turns fl)) y [] := by
  have h1 : fl ≠ .own := by rcases hn with e | e <;> rw [e] <;> decide
  have h2 : fl ≠ .st := by rcases hn with e | e <;> rw [e] <;> decide
  have hd0 : ∀ a, hd fl a = [] := fun a => by rcases hn with e | e <;> rw [e] <;> rfl
  have hls : ∀ {a : Addr} {vs : List V}, H a = some (.lst vs) → LsAt E'.K H fl a vs := fun {a vs} z => by rcases hn with e | e <;> rw [e] <;> exact z
  induction h with
  | non => exact .non
  | bl => exact .bl
  | int => exact .int
  | str => exact .str
  | gap => exact .gap
  | rng h => exact .rng h
  | nil => exact .nil
  | xo hx hn hd hf hr ih => exact .xo (xo_keep hx (by rw [hc]) fun _ _ e _ => e) hn hd hf (flat_rp hr hf)
  | tup h _ ih => exact .tup (by rw [hK]; exact h) (ih ho)
  | cons _ _ ih1 ih2 =>
    exact Rp.cons (f := []) (g := []) (ih1 fun a z => ho a (List.mem_append_left _ z)) (ih2 fun a z => ho a (List.mem_append_right _ z))
  | @lst f a ts vs g hl hr hp hg ih =>
    have q := ih fun b z => ho b (List.mem_append_right _ z)
    cases f with
    | own =>
      have z : Rp E' H (.inl (.lst fl (turns fl ts))) (.inl (.ref a)) (hd fl a ++ []) := .lst (hls hl) (ho a (by simp [hd])) q fun _ => rfl
      rw [hd0] at z; exact z
    | frz => exact Rp.lst (f := .frz) (g := []) hl (hf _ hr) q fun _ => rfl
    | vw => exact Rp.lst (f := .vw) (g := []) hl (hv _ hr) q fun _ => rfl
    | st => exact Rp.lst (f := .st) (g := []) (show SqF E'.K H a vs by rw [hK]; exact hl) trivial q fun _ => rfl
  | @dic f a ks ts vs g hl hn' hr ns hp hg ih =>
    have q := ih fun b z => ho b (List.mem_append_right _ z)
    have hn2 : ks.length = (turns fl ts).length := by
      rw [hn', turns_length]
    cases f with
    | own =>
      have z : Rp E' H (.inl (.dic fl ks (turns fl ts))) (.inl (.ref a)) (hd fl a ++ []) := .dic hl hn2 (ho a (by simp [hd])) h2 q fun _ => rfl
      rw [hd0] at z; exact z
    | frz => exact Rp.dic (f := .frz) (g := []) hl hn2 (hf _ hr) ns q fun _ => rfl
    | vw => exact Rp.dic (f := .vw) (g := []) hl hn2 (hv _ hr) ns q fun _ => rfl
    | st => exact absurd rfl ns
  | @ins f a c dx ns' ts vs g hl hn' hr ns hp hg ih =>
    have q := ih fun b z => ho b (List.mem_append_right _ z)
    have hn2 : ns'.length = (turns fl ts).length := by
      rw [hn', turns_length]
    have hl' : H a = some (.ins (E'.ca.f c) dx (ns'.zip vs)) := by rw [hc]; exact hl
    cases f with
    | own =>
      have z : Rp E' H (.inl (.ins fl c ns' (turns fl ts))) (.inl (.ref a)) (hd fl a ++ []) := .ins (dx := dx) hl' hn2 (ho a (by simp [hd])) h2 q fun _ => rfl
      rw [hd0] at z; exact z
    | frz => exact Rp.ins (dx := dx) (f := .frz) (g := []) hl' hn2 (hf _ hr) ns q fun _ => rfl
    | vw => exact Rp.ins (dx := dx) (f := .vw) (g := []) hl' hn2 (hv _ hr) ns q fun _ => rfl
    | st => exact absurd rfl ns
end
end OT
end
section
set_option Elab.async false
set_option linter.all false
set_option maxRecDepth 100000
set_option maxHeartbeats 2000000
namespace OT
open PySem PySem.Spec PyProof.Rows L2
/-! ### frames -/
structure Frm (E E' : RE) (p p' : List Addr) (H H' : Hp) : Prop where
  K : E'.K = E.K
  ca : E'.ca = E.ca
  gv : E'.gv = E.gv
  keep : ∀ a o, H a = some o → a ∉ p → H' a = some o
  new : ∀ a ∈ p', a ∈ p ∨ H a = none
  gf : ∀ a, E.gf a → E'.gf a
  gfn : ∀ a, E'.gf a → E.gf a ∨ a ∈ p ∨ H a = none
  dom : ∀ a, H a ≠ none → H' a ≠ none
structure Gd (E : RE) (H : Hp) (p : List Addr) : Prop where
  nd : p.Nodup
  av : ∀ a ∈ p, ¬ E.gf a ∧ ¬ E.gv a
  dm : ∀ a, E.gf a ∨ E.gv a → H a ≠ none
  mt : ∀ a ∈ p, ∃ o, H a = some o ∧ Mt o
section
variable {E E' E'' : RE} {H H' H'' : Hp} {p p' p'' q f g : List Addr} {t : T} {v : V}
theorem Frm.refl : Frm E E p p H H := ⟨rfl, rfl, rfl, fun _ _ h _ => h, fun _ h => .inl h, fun _ h => h, fun _ h => .inl h, fun _ h => h⟩
theorem Frm.trans (a : Frm E E' p p' H H') (b : Frm E' E'' p' p'' H' H'') : Frm E E'' p p'' H H'' where
  K := b.K.trans a.K
  ca := b.ca.trans a.ca
  gv := b.gv.trans a.gv
  keep := fun c o h n => b.keep c o (a.keep c o h n) fun z => (a.new c z).elim n fun e => by rw [h] at e; cases e
  new := fun c h => (b.new c h).elim (a.new c) fun e => .inr (by
    cases q : H c with
    | none => rfl
    | some o => exact absurd e (a.dom c (by rw [q]; simp)))
  gf := fun c h => b.gf c (a.gf c h)
  gfn := fun c h => (b.gfn c h).elim (a.gfn c) fun z => .inr (z.elim (a.new c) fun e => .inr (by
    cases q : H c with
    | none => rfl
    | some o => exact absurd e (a.dom c (by rw [q]; simp))))
  dom := fun c h => b.dom c (a.dom c h)
theorem Frm.sub (a : Frm E E' p p' H H') (h1 : ∀ x ∈ p, x ∈ q) (h2 : ∀ x ∈ g, x ∈ p') : Frm E E' q g H H' :=
  ⟨a.K, a.ca, a.gv, fun c o h n => a.keep c o h fun z => n (h1 c z), fun c h => (a.new c (h2 c h)).imp (h1 c) id, a.gf, fun c h => (a.gfn c h).imp id (Or.imp (h1 c) id), a.dom⟩
/-- what stands beside comes along -/
theorem Frm.beside (a : Frm E E' p p' H H') : Frm E E' (f ++ p) (f ++ p') H H' :=
  ⟨a.K, a.ca, a.gv, fun c o h n => a.keep c o h fun z => n (List.mem_append_right _ z), fun c h => (List.mem_append.mp h).elim (fun z => .inl (List.mem_append_left _ z)) fun z => (a.new c z).imp (fun z => List.mem_append_right _ z) id, a.gf,
    fun c h => (a.gfn c h).imp id (Or.imp (fun z => List.mem_append_right _ z) id), a.dom⟩
theorem Gd.perm (h : Gd E H p) (e : p.Perm q) : Gd E H q := ⟨(e.nodup_iff).mp h.nd, fun a z => h.av a (e.mem_iff.mpr z), h.dm, fun a z => h.mt a (e.mem_iff.mpr z)⟩
theorem Gd.sub (h : Gd E H p) (e : q.Sublist p) : Gd E H q := ⟨h.nd.sublist e, fun a z => h.av a (e.subset z), h.dm, fun a z => h.mt a (e.subset z)⟩
theorem Gd.left (h : Gd E H (f ++ p)) : Gd E H f := h.sub (List.sublist_append_left _ _)
theorem Gd.right (h : Gd E H (f ++ p)) : Gd E H p := h.sub (List.sublist_append_right _ _)
theorem Gd.swap (h : Gd E H (f ++ p)) : Gd E H (p ++ f) := h.perm List.perm_append_comm
theorem Gd.dj (h : Gd E H (f ++ p)) {a : Addr} (x : a ∈ f) (y : a ∈ p) : False := (List.nodup_append.mp h.nd).2.2 a x a y rfl
theorem Rp.frame {x : T ⊕ List T} {y : V ⊕ List V} (h : Rp E H x y f) (gd : Gd E H (f ++ p)) (a : Frm E E' p p' H H') : Rp E' H' x y f :=
  h.keep a.K a.ca a.gf (fun c z => by rw [a.gv]; exact z) fun c o e z => a.keep c o e fun m => by
    rcases z with z | z | z | z
    · exact gd.dj z m
    · exact (gd.av c (List.mem_append_right _ m)).1 z
    · exact (gd.av c (List.mem_append_right _ m)).2 z
    · obtain ⟨o', e', m'⟩ := gd.mt c (List.mem_append_right _ m)
      rw [e] at e'
      cases e'
      exact z m'
theorem Gd.frame (gd : Gd E H (f ++ p)) (a : Frm E E' p p' H H') (gd' : Gd E' H' p') : Gd E' H' (f ++ p') where
  nd := List.nodup_append.mpr ⟨gd.left.nd, gd'.nd, fun c hc d hd e => by
    subst e
    rcases a.new c hd with z | z
    · exact gd.dj hc z
    · obtain ⟨o, e, _⟩ := gd.mt c (List.mem_append_left _ hc)
      rw [e] at z
      cases z⟩
  av := fun c hc => (List.mem_append.mp hc).elim (fun z => by
    have q := gd.av c (List.mem_append_left _ z)
    refine ⟨fun w => ?_, fun w => q.2 (by rw [← a.gv]; exact w)⟩
    rcases a.gfn c w with w | w | w
    · exact q.1 w
    · exact gd.dj z w
    · obtain ⟨o, e, _⟩ := gd.mt c (List.mem_append_left _ z)
      rw [e] at w
      cases w) (gd'.av c)
  dm := gd'.dm
  mt := fun c hc => (List.mem_append.mp hc).elim (fun z => by
    obtain ⟨o, e, m⟩ := gd.mt c (List.mem_append_left _ z)
    exact ⟨o, a.keep c o e fun w => gd.dj z w, m⟩) (gd'.mt c)
/-- a new object -/
theorem Frm.laid {a : Addr} {o : HO} (h : H a = none) (hq : ∀ x ∈ q, x = a ∨ x ∈ p) : Frm E E p q H (upd H a o) where
  K := rfl
  ca := rfl
  gv := rfl
  keep := fun c u e _ => by rw [upd_ne (ne_of_none e h)]; exact e
  new := fun c z => (hq c z).elim (fun e => .inr (by rw [e]; exact h)) .inl
  gf := fun _ z => z
  gfn := fun _ z => .inl z
  dom := fun c z => by
    unfold upd
    split
    · simp
    · exact z
theorem Gd.laid {a : Addr} {o : HO} (gd : Gd E H p) (h : H a = none) (m : Mt o) : Gd E (upd H a o) (a :: p) where
  nd := List.nodup_cons.mpr ⟨(fun z => by
    obtain ⟨o, e, _⟩ := gd.mt a z
    rw [h] at e
    cases e), gd.nd⟩
  av := fun c z => by
    rcases List.mem_cons.mp z with e | z
    · subst e
      exact ⟨fun w => gd.dm c (.inl w) h, fun w => gd.dm c (.inr w) h⟩
    · exact gd.av c z
  dm := fun c z => by
    unfold upd
    split
    · simp
    · exact gd.dm c z
  mt := fun c z => by
    rcases List.mem_cons.mp z with e | z
    · subst e
      exact ⟨o, upd_same, m⟩
    · obtain ⟨o', e, m'⟩ := gd.mt c z
      exact ⟨o', by rw [upd_ne (ne_of_none e h)]; exact e, m'⟩
/-- a new object that is not owned -/
theorem Gd.laid0 {a : Addr} {o : HO} (gd : Gd E H p) (h : H a = none) : Gd E (upd H a o) p where
  nd := gd.nd
  av := gd.av
  dm := fun c z => by
    unfold upd
    split
    · simp
    · exact gd.dm c z
  mt := fun c z => by
    obtain ⟨o', e, m'⟩ := gd.mt c z
    exact ⟨o', by rw [upd_ne (ne_of_none e h)]; exact e, m'⟩
/-- an owned object is changed -/
theorem Frm.wrote {a : Addr} {o : HO} (ha : a ∈ p) (hq : ∀ x ∈ q, x ∈ p) : Frm E E p q H (upd H a o) where
  K := rfl
  ca := rfl
  gv := rfl
  keep := fun c u e n => by rw [upd_ne (fun z => n (by rw [z]; exact ha))]; exact e
  new := fun c z => .inl (hq c z)
  gf := fun _ z => z
  gfn := fun _ z => .inl z
  dom := fun c z => by
    unfold upd
    split
    · simp
    · exact z
theorem Gd.wrote {a : Addr} {o : HO} (gd : Gd E H p) (m : Mt o) : Gd E (upd H a o) p where
  nd := gd.nd
  av := gd.av
  dm := fun c z => by
    unfold upd
    split
    · simp
    · exact gd.dm c z
  mt := fun c z => by
    unfold upd
    split
    · exact ⟨o, rfl, m⟩
    · exact gd.mt c z
mutual
theorem cpy_fp : ∀ {t : T} {v : V} {f : List Addr}, Rep E H t v f → cpy t = true → f = []
  | .non, _, _, h, _ => by cases h; rfl
  | .bl _, _, _, h, _ => by cases h; rfl
  | .int _, _, _, h, _ => by cases h; rfl
  | .str _, _, _, h, _ => by cases h; rfl
  | .rng _ _, _, _, h, _ => by cases h; rfl
  | .gap _, _, _, _, c => by cases c
  | .xo _ _ _, _, _, h, _ => by cases h; rfl
  | .tup ts, _, _, h, c => by
    cases h with
    | tup _ h => exact cpys_fp h c
  | .lst f ts, _, _, h, c => by
    obtain ⟨c1, c2⟩ := Bool.and_eq_true_iff.mp (show (f != .own && cpys ts) = true from c)
    cases h with
    | lst _ _ h _ =>
      rw [cpys_fp h c2]
      cases f <;> first | rfl | cases c1
  | .dic f ks ts, _, _, h, c => by
    obtain ⟨c1, c2⟩ := Bool.and_eq_true_iff.mp (show (f != .own && cpys ts) = true from c)
    cases h with
    | dic _ _ _ _ h _ =>
      rw [cpys_fp h c2]
      cases f <;> first | rfl | cases c1
  | .ins f _ _ ts, _, _, h, c => by
    obtain ⟨c1, c2⟩ := Bool.and_eq_true_iff.mp (show (f != .own && cpys ts) = true from c)
    cases h with
    | ins _ _ _ _ h _ =>
      rw [cpys_fp h c2]
      cases f <;> first | rfl | cases c1
theorem cpys_fp : ∀ {ts : List T} {vs : List V} {f : List Addr}, Reps E H ts vs f → cpys ts = true → f = []
  | [], _, _, h, _ => by cases h; rfl
  | t :: r, _, _, h, c => by
    obtain ⟨c1, c2⟩ := Bool.and_eq_true_iff.mp (show (cpy t && cpys r) = true from c)
    cases h with
    | cons h1 h2 => rw [cpy_fp h1 c1, cpys_fp h2 c2]; rfl
end
/-- a part without a viewed one stands whatever is viewed -/
theorem Rp.nov {x : T ⊕ List T} {y : V ⊕ List V} (h : Rp E H x y f) (hK : E'.K = E.K) (hc : E'.ca = E.ca) (hf : ∀ a, E.gf a → E'.gf a)
    (hx : (match x with | .inl t => nvw t | .inr ts => nvws ts) = true) : Rp E' H x y f := by
  induction h with
  | non => exact .non
  | bl => exact .bl
  | int => exact .int
  | str => exact .str
  | gap => cases hx
  | rng h => exact .rng h
  | tup h _ ih => exact .tup (by rw [hK]; exact h) (ih hx)
  | nil => exact .nil
  | xo hx' hn hd hf' hr ih => exact .xo (xo_keep hx' (by rw [hc]) fun _ _ e _ => e) hn hd hf' (flat_rp hr hf')
  | @cons t v f ts vs g _ _ ih1 ih2 =>
    obtain ⟨c1, c2⟩ := Bool.and_eq_true_iff.mp (show (nvw t && nvws ts) = true from hx)
    exact .cons (ih1 c1) (ih2 c2)
  | @lst f a ts vs g hl hr hp hg ih =>
    obtain ⟨c1, c2⟩ := Bool.and_eq_true_iff.mp (show (f != .vw && nvws ts) = true from hx)
    refine .lst ?_ ?_ (ih c2) hg
    · cases f with
      | st => show SqF E'.K H a vs; rw [hK]; exact hl
      | _ => exact hl
    · cases f with
      | own => trivial
      | frz => exact hf _ hr
      | vw => cases c1
      | st => trivial
  | @dic f a ks ts vs g hl hn hr ns hp hg ih =>
    obtain ⟨c1, c2⟩ := Bool.and_eq_true_iff.mp (show (f != .vw && nvws ts) = true from hx)
    refine .dic hl hn ?_ ns (ih c2) hg
    cases f with
    | own => trivial
    | frz => exact hf _ hr
    | vw => cases c1
    | st => trivial
  | @ins f a c dx ns' ts vs g hl hn hr ns hp hg ih =>
    obtain ⟨c1, c2⟩ := Bool.and_eq_true_iff.mp (show (f != .vw && nvws ts) = true from hx)
    refine .ins (dx := dx) (by rw [hc]; exact hl) hn ?_ ns (ih c2) hg
    cases f with
    | own => trivial
    | frz => exact hf _ hr
    | vw => cases c1
    | st => trivial
end
/-! ### lists of trees -/
section
variable {E : RE} {H : Hp} {ts us : List T} {vs ws : List V} {f g : List Addr}
theorem Reps.app : ∀ {ts : List T} {vs : List V} {f : List Addr}, Reps E H ts vs f → Reps E H us ws g → Reps E H (ts ++ us) (vs ++ ws) (f ++ g)
  | [], vs, f, h, k => by cases h; exact k
  | t :: r, vs, f, h, k => by
    cases h with
    | cons h1 h2 =>
      have q := Rp.cons h1 (Reps.app h2 k)
      simpa using q
theorem Reps.one {t : T} {v : V} (h : Rep E H t v f) : Reps E H [t] [v] f := by
  have q := Rp.cons h Rp.nil
  simpa using q
theorem Reps.get : ∀ {ts : List T} {vs : List V} {f : List Addr} {i : Nat} {t : T}, Reps E H ts vs f → ts[i]? = some t → ∃ v g, vs[i]? = some v ∧ Rep E H t v g ∧ g.Sublist f
  | [], _, _, _, _, _, e => by simp at e
  | a :: r, _, _, i, t, h, e => by
    cases h with
    | cons h1 h2 =>
      cases i with
      | zero =>
        have e' : a = t := by simpa using e
        subst e'
        exact ⟨_, _, rfl, h1, List.sublist_append_left _ _⟩
      | succ i =>
        obtain ⟨v, g, e1, h3, s⟩ := Reps.get h2 (by simpa using e)
        exact ⟨v, g, by simpa using e1, h3, s.trans (List.sublist_append_right _ _)⟩
/-- by place, where nothing is owned -/
theorem Reps.of0 : ∀ {ts : List T} {vs : List V}, ts.length = vs.length → (∀ (i : Nat) (t : T) (v : V), ts[i]? = some t → vs[i]? = some v → Rep E H t v []) → Reps E H ts vs []
  | [], [], _, _ => .nil
  | [], _ :: _, l, _ => by simp at l
  | _ :: _, [], l, _ => by simp at l
  | t :: r, v :: s, l, h => by
    have q := Rp.cons (h 0 t v rfl rfl) (Reps.of0 (ts := r) (vs := s) (by simpa using l) fun i t v a b => h (i + 1) t v (by simpa using a) (by simpa using b))
    simpa using q
theorem Reps.at0 (h : Reps E H ts vs []) {i : Nat} {t : T} {v : V} (a : ts[i]? = some t) (b : vs[i]? = some v) : Rep E H t v [] := by
  obtain ⟨v', g, e, r, s⟩ := Reps.get h a
  rw [b] at e
  cases e
  rw [List.sublist_nil.mp s] at r
  exact r
theorem Reps.len (h : Reps E H ts vs f) : ts.length = vs.length := h.length
theorem cpys_all : ∀ {ts : List T}, cpys ts = true ↔ ∀ t ∈ ts, cpy t = true
  | [] => by simp [cpys]
  | t :: r => by simp [cpys, cpys_all (ts := r)]
theorem nvws_all : ∀ {ts : List T}, nvws ts = true ↔ ∀ t ∈ ts, nvw t = true
  | [] => by simp [nvws]
  | t :: r => by simp [nvws, nvws_all (ts := r)]
theorem turns_eq (g : Fl) : ∀ ts : List T, turns g ts = ts.map (turn g)
  | [] => rfl
  | t :: r => by simp [turns, turns_eq g r]
end
end OT
end
section
set_option Elab.async false
set_option linter.all false
set_option maxRecDepth 100000
set_option maxHeartbeats 2000000
namespace OT
open PySem PySem.Spec PyProof.Rows L2
abbrev LIM : Nat := 16000000
theorem lim {n : Nat} (h : n ≤ LIM) : n ≤ sizeLine := by rw [sizeLine_eq]; unfold LIM at h; omega
theorem lim_lt {n : Nat} (h : n < LIM) : n < sizeLine := by rw [sizeLine_eq]; unfold LIM at h; omega
/-! ### an operation's end -/
def Out (E : RE) (H : Hp) (p : List Addr) (W : T → Prop) (Q : VK) : Prop := ∀ t v f H', Rep E H' t v f → Frm E E [] f H H' → Gd E H' (f ++ p) → W t → Q v H'
section
variable {E : RE} {H : Hp} {p : List Addr} {W : T → Prop} {Q : VK} {t : T} {v : V} {ts : List T} {vs : List V} {f : List Addr}
theorem Out.same (o : Out E H p W Q) (gd : Gd E H p) (r : Rep E H t v []) (w : W t) : Q v H := o t v [] H r Frm.refl gd w
theorem Rp.laid {x : T ⊕ List T} {y : V ⊕ List V} {a : Addr} {u : HO} (r : Rp E H x y f) (h : H a = none) : Rp E (upd H a u) x y f :=
  r.keep rfl rfl (fun _ z => z) (fun _ z => z) fun b o e _ => by rw [upd_ne (ne_of_none e h)]; exact e
theorem Out.lst (o : Out E H p W Q) (gd : Gd E H p) (r : Reps E H ts vs []) (w : W (.lst .own ts)) {a : Addr} (h : H a = none) : Q (.ref a) (upd H a (.lst vs)) := by
  refine o _ _ [a] _ ?_ (Frm.laid h fun x z => .inl (by simpa using z)) (gd.laid h trivial) w
  exact Rp.lst (f := .own) (g := []) (show upd H a (.lst vs) a = some (.lst vs) from upd_same) trivial (r.laid h) fun z => rfl
theorem Out.tup (o : Out E H p W Q) (gd : Gd E H p) (r : Reps E H ts vs []) (w : W (.tup ts)) {a : Addr} (h : H a = none) : Q (.ref a) (upd H a (.tup vs)) := by
  refine o _ _ [] _ ?_ (Frm.laid h fun x z => by cases z) (gd.laid0 h) w
  exact Rp.tup (SqT.of upd_same) (r.laid h)
end
theorem Reps.of_cpys {E : RE} {H : Hp} {ts : List T} {vs : List V} {f : List Addr} (h : Reps E H ts vs f) (c : cpys ts = true) : Reps E H ts vs [] := by
  have e := cpys_fp h c
  subst e
  exact h
theorem Rep.of_cpy {E : RE} {H : Hp} {t : T} {v : V} {f : List Addr} (h : Rep E H t v f) (c : cpy t = true) : Rep E H t v [] := by
  have e := cpy_fp h c
  subst e
  exact h
/-- a value-level operation of two places answers as b says -/
def SimR (K : PySem.W.Frag) (r : R2) (b : T → T → (T → Prop) → Prop) : Prop :=
  ∀ (E : RE) (H : Hp) (p : List Addr) (t1 : T) (v1 : V) (f1 : List Addr) (t2 : T) (v2 : V) (f2 : List Addr) (W : T → Prop) (Q : VK), E.K = K → Gd E H p → Rep E H t1 v1 f1 → Rep E H t2 v2 f2 → b t1 t2 W → Out E H p W Q → r v1 v2 H Q
/-! ### data for == and in -/
mutual
def dat : T → Option PyData
  | .non => some .none
  | .bl b => some (.bool b)
  | .int i => some (.int i)
  | .str x => some (.str x)
  | .tup ts => (dats ts).map .tuple
  | .lst _ ts => (dats ts).map .list
  | _ => none
def dats : List T → Option (List PyData)
  | [] => some []
  | t :: r => match dat t, dats r with
    | some d, some ds => some (d :: ds)
    | _, _ => none
end
theorem ls_sql {K : PySem.W.Frag} {H : Hp} {f : Fl} {a : Addr} {vs : List V} (h : LsAt K H f a vs) : SqL K H a vs := by
  cases f with
  | st => exact SqF.to h
  | own => exact SqL.of h
  | frz => exact SqL.of h
  | vw => exact SqL.of h
theorem ls_at {K : PySem.W.Frag} {H : Hp} {f : Fl} {a : Addr} {vs : List V} (h : LsAt K H f a vs) (n : (f != .st) = true) : H a = some (.lst vs) := by
  cases f with
  | st => cases n
  | own => exact h
  | frz => exact h
  | vw => exact h
mutual
theorem dat_dp {E : RE} {H : Hp} : ∀ {t : T} {v : V} {f : List Addr} {d : PyData}, Rep E H t v f → dat t = some d → Dp E.K H v d
  | .non, _, _, _, h, e => by cases h; cases e; exact .non
  | .bl _, _, _, _, h, e => by cases h; cases e; exact .bl _
  | .int _, _, _, _, h, e => by cases h; cases e; exact .int _
  | .str _, _, _, _, h, e => by cases h; cases e; exact .str _
  | .rng _ _, _, _, _, _, e => by cases e
  | .gap _, _, _, _, _, e => by cases e
  | .dic _ _ _, _, _, _, _, e => by cases e
  | .ins _ _ _ _, _, _, _, _, e => by cases e
  | .tup ts, _, _, _, h, e => by
    obtain ⟨ds, e1, e2⟩ := Option.map_eq_some_iff.mp (show (dats ts).map PyData.tuple = some _ from e)
    subst e2
    cases h with
    | tup h1 h2 => exact .tup h1 (dats_dp h2 e1)
  | .lst f ts, _, _, _, h, e => by
    obtain ⟨ds, e1, e2⟩ := Option.map_eq_some_iff.mp (show (dats ts).map PyData.list = some _ from e)
    subst e2
    cases h with
    | lst h1 _ h2 _ => exact .lst (ls_sql h1) (dats_dp h2 e1)
theorem dats_dp {E : RE} {H : Hp} : ∀ {ts : List T} {vs : List V} {f : List Addr} {ds : List PyData}, Reps E H ts vs f → dats ts = some ds → DpAll E.K H vs ds
  | [], _, _, _, h, e => by cases h; cases e; exact .nil
  | t :: r, _, _, ds, h, e => by
    cases h with
    | cons h1 h2 =>
      have e' : (match dat t, dats r with
        | some d, some ds => some (d :: ds)
        | _, _ => none) = some ds := e
      cases e1 : dat t with
      | none => rw [e1] at e'; cases e'
      | some d =>
        cases e2 : dats r with
        | none => rw [e1, e2] at e'; cases e'
        | some es =>
          rw [e1, e2] at e'
          cases e'
          exact .cons (dat_dp h1 e1) (dats_dp h2 e2)
end
/-! ### operators -/
/-- a text k times -/
def repS (z : Str) (k : Nat) : Str := ⟨(List.replicate k z.cps).foldl (· ++ ·) #[]⟩
def rRepS : R2 := fun x y H Q => ∃ z k, x = .str z ∧ y = .int k ∧ (2 ≤ k ∧ k ≤ 1000000) ∧ 1 ≤ z.length ∧ z.length * k.toNat ≤ sizeLine ∧ Q (.str (repS z k.toNat)) H
theorem op_repS {X : Cx} : OpR X (binaryOp .Mult) rRepS := by
  intro pins s σ H x y v u Q I rx ry h
  obtain ⟨z, k, rfl, rfl, ⟨h1, h2⟩, h3, h4, q⟩ := h
  obtain ⟨t, rfl⟩ := rx
  obtain ⟨t', rfl⟩ := ry
  have e1 : (k == 1) = false := beq_eq_false_iff_ne.mpr (by omega)
  have e2 : (z.length == 0) = false := beq_eq_false_iff_ne.mpr (by omega)
  have hs := sizeLine_eq
  refine PySem.P.mul_str ?_ ?_ ?_ ?_
  · rw [decide_eq_false (by omega), decide_eq_false (by omega)]
    rfl
  · intro _ _ h
    have e : (k.toNat : Int) = k := Int.toNat_of_nonneg (by omega)
    have h5 : (z.length : Int) * k ≤ 2 ^ 63 - 1 := by
      have z4 : ((z.length * k.toNat : Nat) : Int) ≤ ((16777216 : Nat) : Int) := Int.ofNat_le.mpr (by omega)
      rw [Int.natCast_mul, e] at z4
      omega
    have h6 := (Int.le_ediv_iff_mul_le (by omega : 0 < k)).mpr h5
    omega
  · intro _ _
    exact PyProof.Rows.short24 (by omega)
  · rw [if_neg (by omega), if_neg (by rw [e1, e2]; decide)]
    exact ⟨fits_reps (PyProof.Rows.short24 (by omega)), ⟨.str _, H, I.tok _, ⟨_, rfl⟩, q⟩⟩
def binT (o : Operator) (x y : T) (Q : T → Prop) : Prop := match o with
  | .Add => (match x, y with
    | .int i, .int j => Q (.int (i + j))
    | .str i, .str j => i.length + j.length ≤ LIM ∧ Q (.str (i ++ j))
    | .lst f xs, .lst g ys => (f != .st) = true ∧ (g != .st) = true ∧ cpys xs = true ∧ cpys ys = true ∧ xs.length + ys.length ≤ LIM ∧ Q (.lst .own (xs ++ ys))
    | .tup xs, .tup ys => cpys xs = true ∧ cpys ys = true ∧ xs.length + ys.length ≤ LIM ∧ Q (.tup (xs ++ ys))
    | _, _ => False)
  | .Sub => (match x, y with
    | .int i, .int j => Q (.int (i - j))
    | _, _ => False)
  | .Mult => (match x, y with
    | .int i, .int j => CMulW i j ∧ Q (.int (i * j))
    | .str z, .int k => (2 ≤ k ∧ k ≤ 1000000) ∧ 1 ≤ z.length ∧ z.length * k.toNat ≤ LIM ∧ Q (.str (repS z k.toNat))
    | .lst f xs, .int k => (f != .st) = true ∧ cpys xs = true ∧ (-1000000 ≤ k ∧ k ≤ 16000000) ∧ xs.length * k.toNat ≤ LIM ∧ Q (.lst .own (List.replicate k.toNat xs).flatten)
    | _, _ => False)
  | .FloorDiv => (match x, y with
    | .int i, .int j => CDiv i j ∧ Q (.int (i / j))
    | _, _ => False)
  | .Mod => (match x, y with
    | .int i, .int j => 0 < j ∧ Q (.int (i % j))
    | _, _ => False)
  | .Pow => (match x, y with
    | .int i, .int j => CPow i j ∧ Q (.int (i ^ j.toNat))
    | _, _ => False)
  | _ => False
def rAddA (K : PySem.W.Frag) : R2 := fun x y H Q => rI0 (fun i j => .int (i + j)) x y H Q ∨ ((∃ i j, x = .str i ∧ y = .str j ∧ i.length + j.length ≤ sizeLine ∧ Q (.str (i ++ j)) H) ∨ (rCat x y H Q ∨ rCatA K x y H Q))
def rMulA : R2 := fun x y H Q => rI CMulW (fun i j => .int (i * j)) x y H Q ∨ (rRep x y H Q ∨ rRepS x y H Q)
def opR (K : PySem.W.Frag) : Operator → R2
  | .Add => rAddA K
  | .Sub => rI0 fun i j => .int (i - j)
  | .Mult => rMulA
  | .FloorDiv => rI CDiv fun i j => .int (i / j)
  | .Mod => rI (fun _ j => 0 < j) fun i j => .int (i % j)
  | .Pow => rI CPow fun i j => .int (i ^ j.toNat)
  | _ => fun _ _ _ _ => False
theorem op_all {X : Cx} : ∀ o : Operator, OpR X (binaryOp o) (opR X.K o)
  | .Add => op_add.or (op_add_str.or (op_cat.or op_catA))
  | .Sub => op_sub
  | .Mult => op_mulW.or (op_rep.or op_repS)
  | .FloorDiv => op_fdiv
  | .Mod => op_mod
  | .Pow => op_pow
  | .MatMult => fun _ _ _ _ _ _ _ _ _ _ _ _ h => h.elim
  | .Div => fun _ _ _ _ _ _ _ _ _ _ _ _ h => h.elim
  | .LShift => fun _ _ _ _ _ _ _ _ _ _ _ _ h => h.elim
  | .RShift => fun _ _ _ _ _ _ _ _ _ _ _ _ h => h.elim
  | .BitOr => fun _ _ _ _ _ _ _ _ _ _ _ _ h => h.elim
  | .BitXor => fun _ _ _ _ _ _ _ _ _ _ _ _ h => h.elim
  | .BitAnd => fun _ _ _ _ _ _ _ _ _ _ _ _ h => h.elim
theorem Reps.rep {E : RE} {H : Hp} {ts : List T} {vs : List V} (h : Reps E H ts vs []) : ∀ k : Nat, Reps E H (List.replicate k ts).flatten (List.replicate k vs).flatten []
  | 0 => .nil
  | k + 1 => by
    have q := Reps.app h (Reps.rep h k)
    simpa [List.replicate_succ] using q
theorem sim_op {K : PySem.W.Frag} : ∀ o : Operator, SimR K (opR K o) (binT o)
  | .Add => by
    intro E H p t1 v1 f1 t2 v2 f2 W Q eK gd r1 r2 b o
    cases t1 <;> cases t2 <;> first | exact False.elim b | skip
    · cases r1; cases r2
      exact .inl ⟨_, _, rfl, rfl, o.same gd .int b⟩
    · cases r1; cases r2
      exact .inr (.inl ⟨_, _, rfl, rfl, lim b.1, o.same gd .str b.2⟩)
    · obtain ⟨c1, c2, l, w⟩ := b
      cases r1 with
      | tup h1 k1 =>
        cases r2 with
        | tup h2 k2 =>
          subst eK
          have q1 := Reps.of_cpys k1 c1
          have q2 := Reps.of_cpys k2 c2
          have e1 := q1.length
          have e2 := q2.length
          have q3 := Reps.app q1 q2
          refine .inr (.inr (.inr ⟨_, _, _, _, rfl, rfl, h1, h2, by rw [← e1, ← e2]; exact lim l, ?_, ?_, ?_⟩))
          · intro z
            subst z
            refine o.same gd (Rp.tup h2 ?_) w
            exact q3
          · intro z1 z2
            subst z2
            refine o.same gd (Rp.tup h1 ?_) w
            rw [List.append_nil] at q3
            exact q3
          · intro z1 z2 a ha
            exact o.tup gd q3 w ha
    · obtain ⟨n1, n2, c1, c2, l, w⟩ := b
      cases r1 with
      | lst h1 _ k1 _ =>
        cases r2 with
        | lst h2 _ k2 _ =>
          have q1 := Reps.of_cpys k1 c1
          have q2 := Reps.of_cpys k2 c2
          have e1 := q1.length
          have e2 := q2.length
          exact .inr (.inr (.inl ⟨_, _, _, _, rfl, rfl, ls_at h1 n1, ls_at h2 n2, by rw [← e1, ← e2]; exact lim l, fun a ha => o.lst gd (Reps.app q1 q2) w ha⟩))
  | .Sub => by
    intro E H p t1 v1 f1 t2 v2 f2 W Q eK gd r1 r2 b o
    cases t1 <;> cases t2 <;> first | exact False.elim b | skip
    cases r1; cases r2
    exact ⟨_, _, rfl, rfl, o.same gd .int b⟩
  | .Mult => by
    intro E H p t1 v1 f1 t2 v2 f2 W Q eK gd r1 r2 b o
    cases t1 <;> cases t2 <;> first | exact False.elim b | skip
    · cases r1; cases r2
      exact .inl ⟨_, _, rfl, rfl, b.1, o.same gd .int b.2⟩
    · cases r1; cases r2
      exact .inr (.inr ⟨_, _, rfl, rfl, b.1, b.2.1, lim b.2.2.1, o.same gd .str b.2.2.2⟩)
    · obtain ⟨n1, c1, k1, l, w⟩ := b
      cases r2
      cases r1 with
      | lst h1 _ k2 _ =>
        have q1 := Reps.of_cpys k2 c1
        have e1 := q1.length
        exact .inr (.inl ⟨_, _, _, rfl, rfl, ls_at h1 n1, by omega, by omega, by rw [← e1]; exact lim l, fun a ha => o.lst gd (Reps.rep q1 _) w ha⟩)
  | .FloorDiv => by
    intro E H p t1 v1 f1 t2 v2 f2 W Q eK gd r1 r2 b o
    cases t1 <;> cases t2 <;> first | exact False.elim b | skip
    cases r1; cases r2
    exact ⟨_, _, rfl, rfl, b.1, o.same gd .int b.2⟩
  | .Mod => by
    intro E H p t1 v1 f1 t2 v2 f2 W Q eK gd r1 r2 b o
    cases t1 <;> cases t2 <;> first | exact False.elim b | skip
    cases r1; cases r2
    exact ⟨_, _, rfl, rfl, b.1, o.same gd .int b.2⟩
  | .Pow => by
    intro E H p t1 v1 f1 t2 v2 f2 W Q eK gd r1 r2 b o
    cases t1 <;> cases t2 <;> first | exact False.elim b | skip
    cases r1; cases r2
    exact ⟨_, _, rfl, rfl, b.1, o.same gd .int b.2⟩
  | .MatMult => fun _ _ _ _ _ _ _ _ _ _ _ _ _ _ _ b _ => b.elim
  | .Div => fun _ _ _ _ _ _ _ _ _ _ _ _ _ _ _ b _ => b.elim
  | .LShift => fun _ _ _ _ _ _ _ _ _ _ _ _ _ _ _ b _ => b.elim
  | .RShift => fun _ _ _ _ _ _ _ _ _ _ _ _ _ _ _ b _ => b.elim
  | .BitOr => fun _ _ _ _ _ _ _ _ _ _ _ _ _ _ _ b _ => b.elim
  | .BitXor => fun _ _ _ _ _ _ _ _ _ _ _ _ _ _ _ b _ => b.elim
  | .BitAnd => fun _ _ _ _ _ _ _ _ _ _ _ _ _ _ _ b _ => b.elim
/-! ### comparisons -/
def eqF : T → T → Bool
  | .non, .non => true
  | .bl a, .bl b => a == b
  | .bl a, .int b => (if a then 1 else 0) == b
  | .int a, .bl b => a == (if b then 1 else 0)
  | .int a, .int b => a == b
  | .str a, .str b => a == b
  | _, _ => false
/-- no dict, not deep -/
def shp (d : PyData) : Bool := d.plain && decide (d.depth ≤ 64)
theorem shp_room {A : Around} {da db : PyData} (h : shp da = true) (hu : A.units + 64 < cLine) : A.units + min da.depth db.depth < cLine := by
  have h1 := of_decide_eq_true (Bool.and_eq_true_iff.mp h).2
  omega
def rEqP (K : PySem.W.Frag) : R2 := fun x y H Q => ∃ d e, Dp K H x d ∧ Dp K H y e ∧ shp d = true ∧ shp e = true ∧ Q (.bl (PyData.eqv d e)) H
def rNeP (K : PySem.W.Frag) : R2 := fun x y H Q => ∃ d e, Dp K H x d ∧ Dp K H y e ∧ shp d = true ∧ shp e = true ∧ Q (.bl (!PyData.eqv d e)) H
theorem op_eqP {X : Cx} (hu : X.A.units + 64 < cLine) : OpR X (compareOp .Eq) (rEqP X.K) := by
  intro pins s σ H x y v u Q I rx ry h
  obtain ⟨d, e, hd, he, sd, se, q⟩ := h
  obtain ⟨as, r1⟩ := Dp.reads I d x v hd rx
  obtain ⟨bs, r2⟩ := Dp.reads I e y u he ry
  exact SeqAt.eq_plain r1 r2 (Bool.and_eq_true_iff.mp sd).1 (Bool.and_eq_true_iff.mp se).1 (shp_room sd hu) ⟨.bl _, H, I, rfl, q⟩
theorem op_neP {X : Cx} (hu : X.A.units + 64 < cLine) : OpR X (compareOp .NotEq) (rNeP X.K) := by
  intro pins s σ H x y v u Q I rx ry h
  obtain ⟨d, e, hd, he, sd, se, q⟩ := h
  obtain ⟨as, r1⟩ := Dp.reads I d x v hd rx
  obtain ⟨bs, r2⟩ := Dp.reads I e y u he ry
  exact SeqAt.ne_plain r1 r2 (Bool.and_eq_true_iff.mp sd).1 (Bool.and_eq_true_iff.mp se).1 (shp_room sd hu) ⟨.bl _, H, I, rfl, q⟩
def eqD (x y : T) (Q : Bool → Prop) : Prop := ∃ d e, dat x = some d ∧ dat y = some e ∧ shp d = true ∧ shp e = true ∧ Q (PyData.eqv d e)
def eqT (x y : T) (Q : Bool → Prop) : Prop := match x, y with
  | .int i, .int j => Q (decide (i = j))
  | .str i, .str j => Q (decide (i = j))
  | .bl i, .bl j => Q (decide (i = j))
  | .non, .non => Q true
  | .non, .int _ => Q false
  | .int _, .non => Q false
  | .non, .bl _ => Q false
  | .bl _, .non => Q false
  | .non, .str _ => Q false
  | .str _, .non => Q false
  | .int _, .str _ => Q false
  | .str _, .int _ => Q false
  | .bl _, .str _ => Q false
  | .str _, .bl _ => Q false
  | x, y => eqD x y Q
def inL (x : T) (ys : List T) (l : Bool) (Q : Bool → Prop) : Prop :=
  (flatT x = true ∧ ys.all flatT = true ∧ Q (ys.any fun y => eqF y x)) ∨ (l = true ∧ ∃ d ds, dat x = some d ∧ dats ys = some ds ∧ SeqAt.shaped d = true ∧ SeqAt.shaped (.list ds) = true ∧ Q (ds.any fun z => PyData.eqv z d))
def inT (x y : T) (Q : Bool → Prop) : Prop := match y with
  | .lst _ ys => inL x ys true Q
  | .tup ys => inL x ys false Q
  | .str z => (match x with
    | .str w => ∃ c, w = ⟨#[c]⟩ ∧ Q (decide (c ∈ z.cps.toList))
    | _ => False)
  | _ => False
def isNo : T → Bool
  | .non => true
  | _ => false
def isB (b : Bool) : T → Bool
  | .bl c => b == c
  | _ => false
def isT (x y : T) (Q : Bool → Prop) : Prop := match y with
  | .non => (match x with
    | .gap _ => False
    | x => Q (isNo x))
  | .bl b => (match x with
    | .gap _ => False
    | x => Q (isB b x))
  | _ => False
def ordT (f : Int → Int → Bool) (x y : T) (Q : Bool → Prop) : Prop := match x, y with
  | .int i, .int j => Q (f i j)
  | _, _ => False
def cmpT (o : CmpOp) (x y : T) (Q : Bool → Prop) : Prop := match o with
  | .Eq => eqT x y Q
  | .NotEq => eqT x y fun b => Q (!b)
  | .Lt => ordT (fun i j => decide (i < j)) x y Q
  | .LtE => ordT (fun i j => decide (i ≤ j)) x y Q
  | .Gt => ordT (fun i j => decide (j < i)) x y Q
  | .GtE => ordT (fun i j => decide (j ≤ i)) x y Q
  | .Is => isT x y Q
  | .IsNot => isT x y fun b => Q (!b)
  | .In => inT x y Q
  | .NotIn => inT x y fun b => Q (!b)
section
variable {M : Model} {A : Around} {F : Value → Shared → Prop} {s : Shared} {Q : Value → Shared → Prop}
theorem is_bl_gen {x : V} {v : Value} {b : Bool} (r : RelV x v) (h : Q (.bool (v == .bool b)) s) : wpAny M A (compareOp .Is v (.bool b)) Q F s := by
  cases v <;> first | exact wpAny_pure h | (cases x <;> first | (obtain ⟨_, e⟩ := r; cases e; done) | (cases r; done))
theorem isnot_bl_gen {x : V} {v : Value} {b : Bool} (r : RelV x v) (h : Q (.bool (!(v == .bool b))) s) : wpAny M A (compareOp .IsNot v (.bool b)) Q F s := by
  cases v <;> first | exact wpAny_pure h | (cases x <;> first | (obtain ⟨_, e⟩ := r; cases e; done) | (cases r; done))
end
theorem RelV.bl_iff {x : V} {v : Value} {b : Bool} (r : RelV x v) : (v == Value.bool b) = decide (x = .bl b) := by
  cases x with
  | non => cases r; rfl
  | bl c =>
    cases r
    by_cases e : c = b
    · subst e; simp
    · have e2 : (Value.bool c == Value.bool b) = false := beq_eq_false_iff_ne.mpr fun z => e (Value.bool.inj z)
      rw [e2]
      exact (decide_eq_false fun z => e (V.bl.inj z)).symm
  | int _ => obtain ⟨t, rfl⟩ := r; rfl
  | str _ => obtain ⟨t, rfl⟩ := r; rfl
  | byt _ => obtain ⟨t, rfl⟩ := r; rfl
  | flt _ => obtain ⟨t, rfl⟩ := r; rfl
  | ref _ => cases r; rfl
  | ty _ => cases r; rfl
def rIsA : R2 := fun x y H Q => (y = .non ∧ Q (.bl (decide (x = .non))) H) ∨ ∃ b, y = .bl b ∧ Q (.bl (decide (x = .bl b))) H
def rNotA : R2 := fun x y H Q => (y = .non ∧ Q (.bl (!decide (x = .non))) H) ∨ ∃ b, y = .bl b ∧ Q (.bl (!decide (x = .bl b))) H
theorem op_isBA {X : Cx} : OpR X (compareOp .Is) (fun x y H Q => ∃ b, y = .bl b ∧ Q (.bl (decide (x = .bl b))) H) := by
  intro pins s σ H x y v u Q I rx ry h
  obtain ⟨b, rfl, q⟩ := h
  cases (show u = Value.bool b from ry)
  exact is_bl_gen rx ⟨.bl _, H, I, by rw [RelV.bl_iff rx]; rfl, q⟩
theorem op_notBA {X : Cx} : OpR X (compareOp .IsNot) (fun x y H Q => ∃ b, y = .bl b ∧ Q (.bl (!decide (x = .bl b))) H) := by
  intro pins s σ H x y v u Q I rx ry h
  obtain ⟨b, rfl, q⟩ := h
  cases (show u = Value.bool b from ry)
  exact isnot_bl_gen rx ⟨.bl _, H, I, by rw [RelV.bl_iff rx]; rfl, q⟩
theorem op_isA {X : Cx} : OpR X (compareOp .Is) rIsA := op_isN.or op_isBA
theorem op_notA {X : Cx} : OpR X (compareOp .IsNot) rNotA := op_notN.or op_notBA
def rSg (neg : Bool) : R2 := fun x y H Q => ∃ (c : Nat) (z : Str), x = .str ⟨#[c]⟩ ∧ y = .str z ∧ Q (.bl (if neg then !decide (c ∈ z.cps.toList) else decide (c ∈ z.cps.toList))) H
def cmpR (K : PySem.W.Frag) : CmpOp → R2
  | .Eq => fun x y H Q => rEq x y H Q ∨ rEqP K x y H Q
  | .NotEq => fun x y H Q => rNe x y H Q ∨ rNeP K x y H Q
  | .Lt => rI0 fun i j => .bl (decide (i < j))
  | .LtE => rI0 fun i j => .bl (decide (i ≤ j))
  | .Gt => rI0 fun i j => .bl (decide (j < i))
  | .GtE => rI0 fun i j => .bl (decide (j ≤ i))
  | .Is => rIsA
  | .IsNot => rNotA
  | .In => fun x y H Q => rIn K false x y H Q ∨ (rInD K x y H Q ∨ rSg false x y H Q)
  | .NotIn => fun x y H Q => rIn K true x y H Q ∨ (rNotInD K x y H Q ∨ rSg true x y H Q)
theorem cmp_all {X : Cx} (hu : X.A.units + 65 < cLine) : ∀ o : CmpOp, OpR X (compareOp o) (cmpR X.K o)
  | .Eq => op_eq.or (op_eqP (by omega))
  | .NotEq => op_ne.or (op_neP (by omega))
  | .Lt => op_lt
  | .LtE => op_le
  | .Gt => op_gt
  | .GtE => op_ge
  | .Is => op_isA
  | .IsNot => op_notA
  | .In => op_in_seq.or ((op_inD hu).or op_in_sign)
  | .NotIn => op_notIn_seq.or ((op_notInD hu).or op_notIn_sign)
/-- .. whose answer is a truth value -/
def SimC (K : PySem.W.Frag) (r : R2) (b : T → T → (Bool → Prop) → Prop) : Prop :=
  ∀ (E : RE) (H : Hp) (t1 : T) (v1 : V) (f1 : List Addr) (t2 : T) (v2 : V) (f2 : List Addr) (W : Bool → Prop) (Q : VK), E.K = K → Rep E H t1 v1 f1 → Rep E H t2 v2 f2 → b t1 t2 W → (∀ c, W c → Q (.bl c) H) → r v1 v2 H Q
section
variable {E : RE} {H : Hp} {t1 t2 : T} {v1 v2 : V} {f1 f2 : List Addr}
theorem flat_V (r : Rep E H t1 v1 f1) (h : flatT t1 = true) : flatV v1 = true := by
  cases t1 <;> first | (cases r; rfl) | cases h
theorem flats_V : ∀ {ts : List T} {vs : List V} {f : List Addr}, Reps E H ts vs f → ts.all flatT = true → vs.all flatV = true
  | [], _, _, r, _ => by cases r; rfl
  | t :: ts, _, _, r, h => by
    rw [List.all_cons, Bool.and_eq_true] at h
    cases r with
    | cons r1 r2 => rw [List.all_cons, flat_V r1 h.1, flats_V r2 h.2]; rfl
theorem eqF_V (r1 : Rep E H t1 v1 f1) (r2 : Rep E H t2 v2 f2) (h1 : flatT t1 = true) (h2 : flatT t2 = true) : eqV v1 v2 = eqF t1 t2 := by
  cases t1 <;> first | cases h1 | skip
  all_goals (cases t2 <;> first | cases h2 | skip)
  all_goals (cases r1; cases r2; rfl)
theorem inF_V (r1 : Rep E H t1 v1 f1) (h1 : flatT t1 = true) : ∀ {ts : List T} {vs : List V} {f : List Addr}, Reps E H ts vs f → ts.all flatT = true → inV v1 vs = ts.any fun y => eqF y t1
  | [], _, _, r, _ => by cases r; rfl
  | t :: ts, _, _, r, h => by
    rw [List.all_cons, Bool.and_eq_true] at h
    cases r with
    | cons r2 r3 =>
      have q := inF_V r1 h1 r3 h.2
      unfold inV at q ⊢
      rw [List.any_cons, List.any_cons, q, eqF_V r2 r1 h.1 h1]
end
theorem eqD_sim {E : RE} {H : Hp} {t1 t2 : T} {v1 v2 : V} {f1 f2 : List Addr} {W : Bool → Prop} (r1 : Rep E H t1 v1 f1) (r2 : Rep E H t2 v2 f2) (b : eqD t1 t2 W) :
    ∃ d e, Dp E.K H v1 d ∧ Dp E.K H v2 e ∧ shp d = true ∧ shp e = true ∧ W (PyData.eqv d e) := by
  obtain ⟨d, e, e1, e2, s1, s2, w⟩ := b
  exact ⟨d, e, dat_dp r1 e1, dat_dp r2 e2, s1, s2, w⟩
theorem eq_sim {K : PySem.W.Frag} {E : RE} {H : Hp} {t1 t2 : T} {v1 v2 : V} {f1 f2 : List Addr} {W : Bool → Prop} (eK : E.K = K) (r1 : Rep E H t1 v1 f1) (r2 : Rep E H t2 v2 f2) (b : eqT t1 t2 W) :
    (scal v1 v2 = true ∧ W (decide (v1 = v2))) ∨ ∃ d e, Dp K H v1 d ∧ Dp K H v2 e ∧ shp d = true ∧ shp e = true ∧ W (PyData.eqv d e) := by
  subst eK
  unfold eqT at b
  split at b
  all_goals first | exact .inr (eqD_sim r1 r2 b) | skip
  all_goals (cases r1; cases r2; refine .inl ⟨rfl, ?_⟩; simpa using b)
theorem in_sim {K : PySem.W.Frag} {E : RE} {H : Hp} {t1 t2 : T} {v1 v2 : V} {f1 f2 : List Addr} {W : Bool → Prop} (eK : E.K = K) (r1 : Rep E H t1 v1 f1) (r2 : Rep E H t2 v2 f2) (b : inT t1 t2 W) :
    (∃ p xs, v2 = .ref p ∧ (SqL K H p xs ∨ SqT K H p xs) ∧ flatV v1 = true ∧ xs.all flatV = true ∧ W (inV v1 xs)) ∨
    ((∃ d ds, Dp K H v1 d ∧ Dp K H v2 (.list ds) ∧ SeqAt.shaped d = true ∧ SeqAt.shaped (.list ds) = true ∧ W (ds.any fun z => PyData.eqv z d)) ∨
     ∃ (c : Nat) (z : Str), v1 = .str ⟨#[c]⟩ ∧ v2 = .str z ∧ W (decide (c ∈ z.cps.toList))) := by
  subst eK
  cases t2 with
  | lst f ys =>
    cases r2 with
    | lst h1 _ h2 _ =>
      rcases (show inL t1 ys true W from b) with ⟨c1, c2, w⟩ | ⟨_, d, ds, e1, e2, s1, s2, w⟩
      · exact .inl ⟨_, _, rfl, .inl (ls_sql h1), flat_V r1 c1, flats_V h2 c2, by rw [inF_V r1 c1 h2 c2]; exact w⟩
      · exact .inr (.inl ⟨d, ds, dat_dp r1 e1, .lst (ls_sql h1) (dats_dp h2 e2), s1, s2, w⟩)
  | tup ys =>
    cases r2 with
    | tup h1 h2 =>
      rcases (show inL t1 ys false W from b) with ⟨c1, c2, w⟩ | ⟨c, _⟩
      · exact .inl ⟨_, _, rfl, .inr h1, flat_V r1 c1, flats_V h2 c2, by rw [inF_V r1 c1 h2 c2]; exact w⟩
      · cases c
  | str z =>
    cases r2
    cases t1 with
    | str w =>
      obtain ⟨c, e, q⟩ := (show ∃ c, w = ⟨#[c]⟩ ∧ W (decide (c ∈ z.cps.toList)) from b)
      subst e
      cases r1
      exact .inr (.inr ⟨c, z, rfl, rfl, q⟩)
    | _ => exact False.elim b
  | _ => exact False.elim b
theorem is_sim {E : RE} {H : Hp} {t1 t2 : T} {v1 v2 : V} {f1 f2 : List Addr} {W : Bool → Prop} (r1 : Rep E H t1 v1 f1) (r2 : Rep E H t2 v2 f2) (b : isT t1 t2 W) :
    (v2 = .non ∧ W (decide (v1 = .non))) ∨ ∃ c, v2 = .bl c ∧ W (decide (v1 = .bl c)) := by
  cases t2 with
  | non =>
    cases r2
    refine .inl ⟨rfl, ?_⟩
    cases t1 <;> first | exact False.elim b | (cases r1; exact b) | (cases r1; simpa [isT, isNo] using b)
  | bl c =>
    cases r2
    refine .inr ⟨c, rfl, ?_⟩
    cases t1 with
    | bl d =>
      cases r1
      have e : decide (V.bl d = V.bl c) = (c == d) := by
        cases c <;> cases d <;> rfl
      rw [e]
      exact b
    | gap _ => exact False.elim b
    | _ => cases r1; simpa [isT, isB] using b
  | _ => exact False.elim b
theorem sim_cmp {K : PySem.W.Frag} : ∀ o : CmpOp, SimC K (cmpR K o) (cmpT o)
  | .Eq => fun E H t1 v1 f1 t2 v2 f2 W Q eK r1 r2 b o => (eq_sim (K := K) eK r1 r2 b).imp (fun ⟨a, w⟩ => ⟨a, o _ w⟩) fun ⟨d, e, h1, h2, h3, h4, w⟩ => ⟨d, e, h1, h2, h3, h4, o _ w⟩
  | .NotEq => fun E H t1 v1 f1 t2 v2 f2 W Q eK r1 r2 b o => (eq_sim (K := K) (W := fun b => W (!b)) eK r1 r2 b).imp (fun ⟨a, w⟩ => ⟨a, o _ w⟩) fun ⟨d, e, h1, h2, h3, h4, w⟩ => ⟨d, e, h1, h2, h3, h4, o _ w⟩
  | .Lt => fun E H t1 v1 f1 t2 v2 f2 W Q eK r1 r2 b o => by
    cases t1 <;> cases t2 <;> first | exact False.elim b | (cases r1; cases r2; exact ⟨_, _, rfl, rfl, o _ b⟩)
  | .LtE => fun E H t1 v1 f1 t2 v2 f2 W Q eK r1 r2 b o => by
    cases t1 <;> cases t2 <;> first | exact False.elim b | (cases r1; cases r2; exact ⟨_, _, rfl, rfl, o _ b⟩)
  | .Gt => fun E H t1 v1 f1 t2 v2 f2 W Q eK r1 r2 b o => by
    cases t1 <;> cases t2 <;> first | exact False.elim b | (cases r1; cases r2; exact ⟨_, _, rfl, rfl, o _ b⟩)
  | .GtE => fun E H t1 v1 f1 t2 v2 f2 W Q eK r1 r2 b o => by
    cases t1 <;> cases t2 <;> first | exact False.elim b | (cases r1; cases r2; exact ⟨_, _, rfl, rfl, o _ b⟩)
  | .Is => fun E H t1 v1 f1 t2 v2 f2 W Q eK r1 r2 b o => (is_sim r1 r2 b).imp (fun ⟨a, w⟩ => ⟨a, o _ w⟩) fun ⟨c, a, w⟩ => ⟨c, a, o _ w⟩
  | .IsNot => fun E H t1 v1 f1 t2 v2 f2 W Q eK r1 r2 b o => (is_sim (W := fun b => W (!b)) r1 r2 b).imp (fun ⟨a, w⟩ => ⟨a, o _ w⟩) fun ⟨c, a, w⟩ => ⟨c, a, o _ w⟩
  | .In => fun E H t1 v1 f1 t2 v2 f2 W Q eK r1 r2 b o => (in_sim (K := K) eK r1 r2 b).imp (fun ⟨p, xs, a1, a2, a3, a4, w⟩ => ⟨p, xs, a1, a2, a3, a4, o _ w⟩) (Or.imp (fun ⟨d, ds, a1, a2, a3, a4, w⟩ => ⟨d, ds, a1, a2, a3, a4, o _ w⟩) fun ⟨c, z, a1, a2, w⟩ => ⟨c, z, a1, a2, o _ w⟩)
  | .NotIn => fun E H t1 v1 f1 t2 v2 f2 W Q eK r1 r2 b o => (in_sim (K := K) (W := fun b => W (!b)) eK r1 r2 b).imp (fun ⟨p, xs, a1, a2, a3, a4, w⟩ => ⟨p, xs, a1, a2, a3, a4, o _ w⟩) (Or.imp (fun ⟨d, ds, a1, a2, a3, a4, w⟩ => ⟨d, ds, a1, a2, a3, a4, o _ w⟩) fun ⟨c, z, a1, a2, w⟩ => ⟨c, z, a1, a2, o _ w⟩)
end OT
end
section
set_option Elab.async false
set_option linter.all false
set_option maxRecDepth 100000
set_option maxHeartbeats 2000000
namespace OT
open PySem PySem.Spec PyProof.Rows L2
/-! ### the written forms -/
inductive Cn where
  | non | bl (b : Bool) | int (i : Int) | str (x : Str)
  deriving DecidableEq
def Cn.t : Cn → T
  | .non => .non
  | .bl b => .bl b
  | .int i => .int i
  | .str x => .str x
def Cn.v : Cn → V
  | .non => .non
  | .bl b => .bl b
  | .int i => .int i
  | .str x => .str x
inductive Bi where
  | len | int | abs | max2 | min2 | tuple | list | str | sum | sorted | all | any
  deriving DecidableEq
inductive Bm where
  | join | split
  deriving DecidableEq
inductive Mm where
  | append | extend | pop | reverse
  deriving DecidableEq
/-- a class that isinstance asks for -/
inductive Ck where
  | int | str | bool | tuple | list
  deriving DecidableEq
inductive Tg where
  | nm (i : Nat) | tp (is : List Nat)
  deriving DecidableEq
mutual
inductive E where
  | cn (c : Cn)
  | gl (x : Str) (c : Cn)
  | nm (i : Nat)
  | att (a : E) (f : Str)
  | mv (i : Nat)
  | fz (i : Nat)
  | fre (e : E)
  | frx (e : E)
  | neg (a : E)
  | not (a : E)
  | bin (o : Operator) (a b : E)
  | cmp (o : CmpOp) (a b : E)
  | chn (o u : CmpOp) (a b c : E)
  | and (a b : E)
  | or (a b : E)
  | ifx (c : Cd) (a b : E)
  | tup (es : Es)
  | lst (es : Es)
  | idx (a i : E)
  | slc (a : E) (lo hi : Eo)
  | bi (f : Bi) (es : Es)
  | bm (m : Bm) (a : E) (es : Es)
  | mm (m : Mm) (p : P) (es : Es)
  | call (n : Nat) (x : Str) (as : As)
  | comp (g : Tg) (it : It) (c : Co) (e : E) (own : List (Str × Nat))
  | fst (es : Es)
  | isi (a : E) (c : Ck)
  | xat (i : Nat) (f : Str)
  | xis (i : Nat) (c : Str)
  | mkx (c : Str) (es : Es)
  | mk0 (c : Str)
  | xatt (a : E) (f : Str)
  | isx (a : E) (c : Str)
  | mth (n : Nat) (c m : Str) (as : As)
  | mk (n : Nat) (c : Str) (as : As)
  | slf (e : E) (c m : Str)
inductive Cd where
  | val (e : E) | cmp (o : CmpOp) (a b : E) | chn (o u : CmpOp) (a b c : E) | not (c : Cd) | and (c d : Cd) | or (c d : Cd)
inductive Co where
  | no | so (c : Cd)
inductive Es where
  | nil | cons (e : E) (r : Es)
inductive P where
  | sl (i : Nat) | fld (p : P) (f : Str) | ix (p : P) (e : E) | slf (p : P) (c m : Str)
inductive Eo where
  | no | so (e : E)
inductive A where
  | v (e : E) | m (p : P) | w (p : P)
inductive As where
  | nil | cons (a : A) (r : As)
inductive It where
  | val (e : E) | rng1 (a : E) | rng2 (a b : E) | enum (e : E)
end
/-! ### states -/
inductive Sl where
  | und | has (io : Bool) (t : T) | exn (c : Str) (fs : List (Str × T))
abbrev En := List Sl
inductive Step where
  | fld (f : Str) | ix (n : Nat)
def lookT (f : Str) : List Str → List T → Option T
  | n :: ns, t :: ts => if f = n then some t else lookT f ns ts
  | _, _ => none
def putT (f : Str) (x : T) : List Str → List T → List T
  | n :: ns, t :: ts => if f = n then x :: ts else t :: putT f x ns ts
  | _, ts => ts
def getS : T → List Step → Option T
  | t, [] => some t
  | .ins _ _ ns ts, .fld f :: r => (lookT f ns ts).bind fun x => getS x r
  | .lst _ ts, .ix n :: r => ts[n]?.bind fun x => getS x r
  | .tup ts, .ix n :: r => ts[n]?.bind fun x => getS x r
  | _, _ => none
def setS : T → List Step → T → T
  | _, [], x => x
  | .ins f c ns ts, .fld g :: r, x => .ins f c ns (match lookT g ns ts with | some y => putT g (setS y r x) ns ts | none => ts)
  | .lst f ts, .ix n :: r, x => .lst f (match ts[n]? with | some y => ts.set n (setS y r x) | none => ts)
  | .tup ts, .ix n :: r, x => .tup (match ts[n]? with | some y => ts.set n (setS y r x) | none => ts)
  | t, _, _ => t
/-- the tree of slot i with x at the steps st -/
def putE (env : En) (i : Nat) (st : List Step) (x : T) : En := match env[i]? with
  | some (.has b t) => env.set i (.has b (setS t st x))
  | _ => env
/-! ### calls -/
inductive Rr where
  | ok (t : T) (outs : List T)
  | ex (c : Str) (fs : List (Str × T)) (outs : List T)
inductive Md where
  | v | m
  deriving DecidableEq
structure FE where
  ms : List Md
  Ψ : List T → (Rr → Prop) → Prop
  dfs : List T := []
  star : Option Nat := none
/-- the arguments as the def's parameters have them -/
def FE.arg (F : FE) (ts : List T) : List T := match F.star with
  | none => ts ++ F.dfs.drop (ts.length + F.dfs.length - F.ms.length)
  | some k => ts.take k ++ [.tup (ts.drop k)]
def okAr (nm nd : Nat) (star : Option Nat) (n : Nat) : Bool := match star with
  | none => decide (n ≤ nm) && decide (nm ≤ n + nd)
  | some k => decide (nm = k + 1) && decide (k ≤ n) && decide (n ≤ k + 5)
structure Sig where
  tb : List FE
  at_ : List (Str × Str)
  xs : List ((Str × Str) × Bool) := []
  xf : List (Str × Str) := []
  xm : List ((Str × Str) × Bool) := []
  rz : List (Str × List Str) := []
  r0 : List Str := []
abbrev XC := Str → List (Str × T) → En → Prop
/-! ### what touches nothing -/
mutual
def qt : E → Bool
  | .cn _ => true
  | .gl _ _ => true
  | .nm _ => true
  | .att a _ => qt a
  | .mv _ => false
  | .fz _ => false
  | .fre _ => false
  | .frx _ => false
  | .neg a => qt a
  | .not a => qt a
  | .bin _ a b => qt a && qt b
  | .cmp _ a b => qt a && qt b
  | .chn _ _ a b c => qt a && qt b && qt c
  | .and a b => qt a && qt b
  | .or a b => qt a && qt b
  | .ifx c a b => qtC c && qt a && qt b
  | .tup es => qts es
  | .lst es => qts es
  | .idx a i => qt a && qt i
  | .slc a lo hi => qt a && qtO lo && qtO hi
  | .bi _ es => qts es
  | .bm _ a es => qt a && qts es
  | .mm _ _ _ => false
  | .call _ _ as => qtA as
  | .comp _ it c e _ => qtI it && qtCo c && qt e
  | .fst es => qts es
  | .isi a _ => qt a
  | .xat _ _ => true
  | .xis _ _ => true
  | .mkx _ es => qts es
  | .mk0 _ => true
  | .xatt a _ => qt a
  | .isx a _ => qt a
  | .mth _ _ _ as => qtA as
  | .mk _ _ as => qtA as
  | .slf e _ _ => qt e
def qtC : Cd → Bool
  | .val e => qt e
  | .cmp _ a b => qt a && qt b
  | .chn _ _ a b c => qt a && qt b && qt c
  | .not c => qtC c
  | .and c d => qtC c && qtC d
  | .or c d => qtC c && qtC d
def qtCo : Co → Bool
  | .no => true
  | .so c => qtC c
def qts : Es → Bool
  | .nil => true
  | .cons e r => qt e && qts r
def qtP : P → Bool
  | .sl _ => true
  | .fld p _ => qtP p
  | .ix p e => qtP p && qt e
  | .slf p _ _ => qtP p
def qtO : Eo → Bool
  | .no => true
  | .so e => qt e
def qtA1 : A → Bool
  | .v e => qt e
  | .m _ => false
  | .w p => qtP p
def qtA : As → Bool
  | .nil => true
  | .cons a r => qtA1 a && qtA r
def qtI : It → Bool
  | .val e => qt e
  | .rng1 a => qt a
  | .rng2 a b => qt a && qt b
  | .enum e => qt e
end
/-! ### builtins by values -/
def intsT : List T → Option (List Int)
  | [] => some []
  | .int i :: r => (intsT r).map (i :: ·)
  | _ => none
def strsT : List T → Option (List Str)
  | [] => some []
  | .str i :: r => (strsT r).map (i :: ·)
  | _ => none
def blsT : List T → Option (List Bool)
  | [] => some []
  | .bl i :: r => (blsT r).map (i :: ·)
  | _ => none
def biT (f : Bi) (xs : List T) (Q : T → Prop) : Prop := match f with
  | .len => (match xs with
    | [.lst _ ts] => Q (.int ts.length)
    | [.tup ts] => Q (.int ts.length)
    | [.str x] => x.length ≤ LIM ∧ Q (.int x.length)
    | _ => False)
  | .int => (match xs with
    | [.int i] => Q (.int i)
    | [.bl b] => Q (.int (if b then 1 else 0))
    | [.str x] => ∃ n, PySem.intText? x = some n ∧ x.length ≤ 640 ∧ Q (.int n)
    | _ => False)
  | .abs => (match xs with
    | [.int i] => Q (.int (if i < 0 then -i else i))
    | _ => False)
  | .max2 => (match xs with
    | [.int i, .int j] => Q (.int (if j > i then j else i))
    | _ => False)
  | .min2 => (match xs with
    | [.int i, .int j] => Q (.int (if j < i then j else i))
    | _ => False)
  | .tuple => (match xs with
    | [.lst _ ts] => cpys ts = true ∧ Q (.tup ts)
    | [.tup ts] => cpys ts = true ∧ Q (.tup ts)
    | _ => False)
  | .list => (match xs with
    | [.lst _ ts] => cpys ts = true ∧ Q (.lst .own ts)
    | [.tup ts] => cpys ts = true ∧ Q (.lst .own ts)
    | _ => False)
  | .str => (match xs with
    | [.int i] => i.natAbs.log2 < 1920 ∧ Q (.str (toString i))
    | _ => False)
  | .sum => (match xs with
    | [.lst _ ts] => ∃ ns, intsT ts = some ns ∧ Q (.int ns.sum)
    | _ => False)
  | .all => (match xs with
    | [.lst _ ts] => ∃ ns, blsT ts = some ns ∧ Q (.bl (ns.all id))
    | _ => False)
  | .any => (match xs with
    | [.lst _ ts] => ∃ ns, blsT ts = some ns ∧ Q (.bl (ns.any id))
    | _ => False)
  | .sorted => False
def bmT (m : Bm) (x : T) (xs : List T) (Q : T → Prop) : Prop := match m with
  | .join => (match x, xs with
    | .str a, [.lst _ ts] => ∃ ys, strsT ts = some ys ∧ (ys.map (·.length)).sum + a.length * ys.length ≤ LIM ∧ Q (.str (Txt.join a ys))
    | _, _ => False)
  | .split => (match x, xs with
    | .str a, [.str b] => (b.length == 0) = false ∧ a.length + 2 ≤ LIM ∧ Q (.lst .own ((Txt.split a b).map T.str))
    | _, _ => False)
/-- a change in place: of x by xs, the new x and the answer -/
def mmT (m : Mm) (x : T) (xs : List T) (Q : T → T → Prop) : Prop := match m with
  | .append => (match x, xs with
    | .lst .own ts, [y] => ts.length < LIM ∧ Q (.lst .own (ts ++ [y])) .non
    | _, _ => False)
  | .extend => (match x, xs with
    | .lst .own ts, [.lst f us] => (f != .st) = true ∧ cpys us = true ∧ ts.length + us.length ≤ LIM ∧ Q (.lst .own (ts ++ us)) .non
    | _, _ => False)
  | .pop => (match x, xs with
    | .lst .own ts, [] => ∃ y, ts[ts.length - 1]? = some y ∧ Q (.lst .own ts.dropLast) y
    | _, _ => False)
  | .reverse => (match x, xs with
    | .lst .own ts, [] => Q (.lst .own ts.reverse) .non
    | _, _ => False)
def isiT (x : T) (c : Ck) (Q : Bool → Prop) : Prop := match x with
  | .gap _ => False
  | .rng _ _ => False
  | .ins _ _ _ _ => False
  | .dic _ _ _ => False
  | .xo _ _ _ => False
  | .non => Q false
  | .bl _ => Q (c == .int || c == .bool)
  | .int _ => Q (c == .int)
  | .str _ => Q (c == .str)
  | .tup _ => Q (c == .tuple)
  | .lst _ _ => Q (c == .list)
/-- an item -/
def ixT (x i : T) (Q : T → Prop) : Prop := match x, i with
  | .lst _ ts, .int j => ∃ t, atI ts j = some t ∧ Q t
  | .tup ts, .int j => ∃ t, atI ts j = some t ∧ Q t
  | .str z, .int j => ∃ c, z.length ≤ LIM ∧ atI z.cps.toList j = some c ∧ Q (.str ⟨#[c]⟩)
  | _, _ => False
def cutT (ts : List T) (lo hi : Option Int) : List T := (ts.drop (HT.sIx ts.length 0 lo)).take (HT.sIx ts.length ts.length hi - HT.sIx ts.length 0 lo)
def slT (x : T) (lo hi : Option Int) (Q : T → Prop) : Prop := match x with
  | .lst _ ts => cpys ts = true ∧ Q (.lst .own (cutT ts lo hi))
  | .tup ts => cpys ts = true ∧ Q (.tup (cutT ts lo hi))
  | _ => False
/-- the turns of a loop -/
inductive Tn where
  | items (ts : List T)      -- the items
  | enum (ts : List T)       -- pairs of a number and an item
  | rng (lo : Int) (n : Nat)
def freeS : Sl → Bool
  | .und => true
  | .has b _ => !b
  | .exn _ _ => false
def stok (env : En) (i : Nat) : Bool := match env[i]? with
  | some s => freeS s
  | none => false
def storeT (g : Tg) (x : T) (env : En) (Q : En → Prop) : Prop := match g with
  | .nm i => stok env i = true ∧ Q (env.set i (.has false x))
  | .tp is => (match x with
    | .tup ts => is.length = ts.length ∧ is.all (stok env) = true ∧ Q ((is.zip ts).foldl (fun e q => e.set q.1 (.has false q.2)) env)
    | _ => False)
def wipeE (env : En) : List Nat → En
  | [] => env
  | i :: r => (wipeE env r).set i .und
def Tn.list : Tn → List T
  | .items ts => ts
  | .enum ts => (List.range ts.length).zip ts |>.map fun q => .tup [.int q.1, q.2]
  | .rng lo n => (List.range n).map fun (k : Nat) => T.int (lo + (k : Int))
/-- one turn after another; acc: the items made -/
def turnsT (g : Tg) (env : En) (body : En → List T → (List T → Prop) → Prop) (Q : List T → Prop) : List T → List T → Prop
  | [], acc => Q acc
  | x :: r, acc => storeT g x env fun e => body e acc fun acc' => turnsT g env body Q r acc'
/-! ### what is wanted ahead -/
def isStr : T → Bool
  | .str _ => true
  | _ => false
def isOwn : T → Bool
  | .lst .own _ => true
  | _ => false
def isMut : T → Bool
  | .lst .own _ => true
  | .dic .own _ _ => true
  | .ins .own _ _ _ => true
  | _ => false
def strPart (t : T) (Q : Str → Prop) : Prop := match t with
  | .str y => y.length ≤ LIM ∧ Q y
  | .int i => i.natAbs.log2 < 1920 ∧ Q (toString i)
  | _ => False
def hasW : As → Bool
  | .nil => false
  | .cons (.w _) _ => true
  | .cons _ r => hasW r
abbrev MI := Option (Nat × List Step × Bool × T)
def putO (env : En) (o : MI) (outs : List T) : En := match o, outs with
  | some (i, st, b, rt), [x] => env.set i (.has b (setS rt st x))
  | _, _ => env
def As.len : As → Nat
  | .nil => 0
  | .cons _ r => r.len + 1
/-- an instance of c that has no field m -/
def slfT (x : T) (c m : Str) : Prop := match x with
  | .ins _ d ns ts => d = c ∧ lookT m ns ts = none
  | _ => False
def intPart (t : T) (Q : Option Int → Prop) : Prop := match t with
  | .int i => Q (some i)
  | _ => False
section
variable (Tb : Sig)
mutual
def wpE (k : Bool) : E → En → XC → (T → En → Prop) → Prop
  | .cn c, env, _, Q => Q c.t env
  | .gl _ c, env, _, Q => Q c.t env
  | .nm i, env, _, Q => (match env[i]? with
    | some (.has _ t) => (k || cpy t) = true ∧ Q t env
    | _ => False)
  | .att a f, env, X, Q => wpE true a env X fun x e => (match x with
    | .ins _ c ns ts => Tb.at_.contains (c, f) = true ∧ ∃ t, lookT f ns ts = some t ∧ (k || cpy t) = true ∧ Q t e
    | _ => False)
  | .mv i, env, _, Q => (match env[i]? with
    | some (.has false t) => Q t (env.set i .und)
    | _ => False)
  | .fz i, env, _, Q => (match env[i]? with
    | some (.has b t) => Q (turn .frz t) (env.set i (.has b (turn .frz t)))
    | _ => False)
  | .fre a, env, X, Q => wpE false a env X fun x e => Q (turn .frz x) e
  | .frx a, env, X, Q => wpE false a env X fun x e => (match x with
    | .lst .own ts => Q (.lst .own (turns .frz ts)) e
    | _ => False)
  | .neg a, env, X, Q => wpE true a env X fun x e => (match x with
    | .int i => Q (.int (-i)) e
    | _ => False)
  | .not a, env, X, Q => wpE true a env X fun x e => (match x with
    | .bl b => Q (.bl (!b)) e
    | _ => False)
  | .bin o a b, env, X, Q => wpE (qt b) a env X fun x e1 => wpE true b e1 X fun y e2 => binT o x y fun t => Q t e2
  | .cmp o a b, env, X, Q => wpE (qt b) a env X fun x e1 => wpE true b e1 X fun y e2 => cmpT o x y fun c => Q (.bl c) e2
  | .chn o u a b c, env, X, Q => wpE (qt b && qt c) a env X fun x e1 => wpE (qt c) b e1 X fun y e2 => cmpT o x y fun r =>
      (r = true → wpE true c e2 X fun z e3 => cmpT u y z fun s => Q (.bl s) e3) ∧ (r = false → Q (.bl false) e2)
  | .and a b, env, X, Q => wpE true a env X fun x e1 => (match x with
    | .bl c => (c = true → wpE k b e1 X Q) ∧ (c = false → Q (.bl false) e1)
    | _ => False)
  | .or a b, env, X, Q => wpE true a env X fun x e1 => (match x with
    | .bl c => (c = true → Q (.bl true) e1) ∧ (c = false → wpE k b e1 X Q)
    | _ => False)
  | .ifx c a b, env, X, Q => wpT c env X fun r e1 => (r = true → wpE k a e1 X Q) ∧ (r = false → wpE k b e1 X Q)
  | .tup es, env, X, Q => wpEs false es env X fun ts e => ts.length ≤ LIM ∧ Q (.tup ts) e
  | .lst es, env, X, Q => wpEs false es env X fun ts e => ts.length ≤ LIM ∧ Q (.lst .own ts) e
  | .idx a i, env, X, Q => wpE (qt i) a env X fun x e1 => wpE true i e1 X fun j e2 => ixT x j fun t => (k || cpy t) = true ∧ Q t e2
  | .slc a lo hi, env, X, Q => wpE (qtO lo && qtO hi) a env X fun x e1 => wpO lo e1 X fun l e2 => wpO hi e2 X fun h e3 => slT x l h fun t => Q t e3
  | .bi f es, env, X, Q => wpEs (qts es) es env X fun ts e => biT f ts fun t => Q t e
  | .bm m a es, env, X, Q => wpE (qts es) a env X fun x e1 => isStr x = true ∧ wpEs (qts es) es e1 X fun ts e2 => bmT m x ts fun t => Q t e2
  | .mm m p es, env, X, Q => wpP p env X fun i st x => isOwn x = true ∧ (match env[i]? with
    | some (.has b r) => (match qts es with
      | true => wpEs (m == .extend) es env X fun ts _ => mmT m x ts fun x' y => Q y (env.set i (.has b (setS r st x')))
      | false => b = false ∧ wpEs false es (env.set i .und) X fun ts e1 => mmT m x ts fun x' y => Q y (e1.set i (.has b (setS r st x'))))
    | _ => False)
  | .call n _ as, env, X, Q => wpAs as env X fun ts o e1 => (match Tb.tb[n]? with
    | some F => F.Ψ (F.arg ts) fun r => (match r with
      | .ok t outs => (hasW as = true → nvw t = true ∧ nvws outs = true) ∧ Q t (putO e1 o outs)
      | .ex c fs outs => (hasW as = true → nvws outs = true) ∧ X c fs (putO e1 o outs))
    | none => False)
  | .comp g it c e own, env, X, Q => wpI it env X fun tn e1 => turnsT g (wipeE e1 (own.map (·.2))) (fun en acc K => wpC c en fun r =>
      (r = true → wpE false e en (fun _ _ _ => False) fun t _ => acc.length < LIM ∧ K (acc ++ [t])) ∧ (r = false → K acc)) (fun acc => Q (.lst .own acc) e1) tn.list []
  | .fst es, env, X, Q => wpF es Str.empty env X fun s e => Q (.str s) e
  | .isi a c, env, X, Q => wpE true a env X fun x e => isiT x c fun b => Q (.bl b) e
  | .xat i f, env, _, Q => (match env[i]? with
    | some (.exn c fs) => Tb.xf.contains (c, f) = true ∧ ∃ t, fs.lookup f = some t ∧ Q t env
    | _ => False)
  | .xis i c, env, _, Q => (match env[i]? with
    | some (.exn x _) => ∃ b, Tb.xs.lookup (x, c) = some b ∧ Q (.bl b) env
    | _ => False)
  | .mkx c es, env, X, Q => wpEs true es env X fun ts e1 => ∃ ns, Tb.rz.lookup c = some ns ∧ ns.length = ts.length ∧ ts.all flatT = true ∧ Q (.xo c ns ts) e1
  | .mk0 c, env, _, Q => Tb.r0.contains c = true ∧ Q (.xo c [] []) env
  | .xatt a f, env, X, Q => wpE true a env X fun x e => (match x with
    | .xo c ns ts => Tb.xf.contains (c, f) = true ∧ ∃ t, lookT f ns ts = some t ∧ Q t e
    | _ => False)
  | .isx a c, env, X, Q => wpE true a env X fun x e => (match x with
    | .xo d _ _ => ∃ b, Tb.xs.lookup (d, c) = some b ∧ Q (.bl b) e
    | _ => False)
  | .mth n _ _ as, env, X, Q => wpAs as env X fun ts o e1 => (match Tb.tb[n]? with
    | some F => F.Ψ (F.arg ts) fun r => (match r with
      | .ok t outs => (hasW as = true → nvw t = true ∧ nvws outs = true) ∧ Q t (putO e1 o outs)
      | .ex c fs outs => (hasW as = true → nvws outs = true) ∧ X c fs (putO e1 o outs))
    | none => False)
  | .mk n c as, env, X, Q => wpAs as env X fun ts o e1 => o = none ∧ (match Tb.tb[n]? with
    | some F => F.Ψ (F.arg (.ins .own c [] [] :: ts)) fun r => (match r with
      | .ok t outs => t = .non ∧ (match outs with
        | [y] => (hasW as = true → nvw y = true) ∧ Q y e1
        | _ => False)
      | .ex d fs _ => X d fs e1)
    | none => False)
  | .slf e c m, env, X, Q => wpE k e env X fun x e1 => slfT x c m ∧ Q x e1
def wpT : Cd → En → XC → (Bool → En → Prop) → Prop
  | .cmp o a b, env, X, Q => wpE (qt b) a env X fun x e1 => wpE true b e1 X fun y e2 => cmpT o x y fun c => Q c e2
  | .chn o u a b c, env, X, Q => wpE (qt b && qt c) a env X fun x e1 => wpE (qt c) b e1 X fun y e2 => cmpT o x y fun r =>
      (r = true → wpE true c e2 X fun z e3 => cmpT u y z fun s => Q s e3) ∧ (r = false → Q false e2)
  | .not a, env, X, Q => wpT a env X fun b e => Q (!b) e
  | .and a b, env, X, Q => wpT a env X fun c e1 => (c = true → wpT b e1 X Q) ∧ (c = false → Q false e1)
  | .or a b, env, X, Q => wpT a env X fun c e1 => (c = true → Q true e1) ∧ (c = false → wpT b e1 X Q)
  | .val e, env, X, Q => wpE true e env X fun x e1 => (match x with
    | .bl b => Q b e1
    | _ => False)
def wpEs (k : Bool) : Es → En → XC → (List T → En → Prop) → Prop
  | .nil, env, _, Q => Q [] env
  | .cons e r, env, X, Q => wpE k e env X fun t e1 => wpEs k r e1 X fun ts e2 => Q (t :: ts) e2
def wpF : Es → Str → En → XC → (Str → En → Prop) → Prop
  | .nil, acc, env, _, Q => Q acc env
  | .cons e r, acc, env, X, Q => wpE true e env X fun t e1 => strPart t fun y => (acc ++ y).length ≤ LIM ∧ wpF r (acc ++ y) e1 X Q
def wpP : P → En → XC → (Nat → List Step → T → Prop) → Prop
  | .sl i, env, _, Q => (match env[i]? with
    | some (.has _ t) => Q i [] t
    | _ => False)
  | .fld p f, env, X, Q => wpP p env X fun i st x => (match x with
    | .ins _ c ns ts => Tb.at_.contains (c, f) = true ∧ ∃ t, lookT f ns ts = some t ∧ Q i (st ++ [.fld f]) t
    | _ => False)
  | .ix p e, env, X, Q => wpP p env X fun i st x => wpE true e env X fun j _ => (match x, j with
    | .lst _ ts, .int z => ∃ n t, ixN ts.length z = some n ∧ ts[n]? = some t ∧ Q i (st ++ [.ix n]) t
    | .tup ts, .int z => ∃ n t, ixN ts.length z = some n ∧ ts[n]? = some t ∧ Q i (st ++ [.ix n]) t
    | _, _ => False)
  | .slf p c m, env, X, Q => wpP p env X fun i st x => slfT x c m ∧ Q i st x
def wpO : Eo → En → XC → (Option Int → En → Prop) → Prop
  | .no, env, _, Q => Q none env
  | .so e, env, X, Q => wpE true e env X fun x e1 => intPart x fun i => Q i e1
def wpC : Co → En → (Bool → Prop) → Prop
  | .no, _, Q => Q true
  | .so e, env, Q => wpT e env (fun _ _ _ => False) fun b _ => Q b
def wpAs : As → En → XC → (List T → MI → En → Prop) → Prop
  | .nil, env, _, Q => Q [] none env
  | .cons (.v e) r, env, X, Q => wpE false e env X fun t e1 => wpAs r e1 X fun ts o e2 => Q (t :: ts) o e2
  | .cons (.m p) r, env, X, Q => wpP p env X fun i st t => (match env[i]? with
    | some (.has b rt) => isMut t = true ∧ wpAs r (env.set i .und) (fun _ _ _ => False) fun ts o e2 => o = none ∧ Q (t :: ts) (some (i, st, b, rt)) e2
    | _ => False)
  | .cons (.w p) r, env, X, Q => wpP p env X fun _ _ t => wpAs r env X fun ts o e2 => Q (turn .vw t :: ts) o e2
def wpI : It → En → XC → (Tn → En → Prop) → Prop
  | .val e, env, X, Q => wpE false e env X fun x e1 => (match x with
    | .lst _ ts => cpys ts = true ∧ Q (.items ts) e1
    | .tup ts => cpys ts = true ∧ Q (.items ts) e1
    | .str z => Q (.items (z.cps.toList.map fun c => .str ⟨#[c]⟩)) e1
    | _ => False)
  | .rng1 a, env, X, Q => wpE true a env X fun x e1 => (match x with
    | .int j => (-(2 ^ 62) ≤ j ∧ j < 2 ^ 62) ∧ Q (.rng 0 j.toNat) e1
    | _ => False)
  | .rng2 a b, env, X, Q => wpE (qt b) a env X fun x e1 => wpE true b e1 X fun y e2 => (match x, y with
    | .int i, .int j => (-(2 ^ 62) ≤ i ∧ i < 2 ^ 62 ∧ -(2 ^ 62) ≤ j ∧ j < 2 ^ 62) ∧ Q (.rng i (j - i).toNat) e2
    | _, _ => False)
  | .enum e, env, X, Q => wpE false e env X fun x e1 => (match x with
    | .lst _ ts => cpys ts = true ∧ Q (.enum ts) e1
    | _ => False)
end
end
end OT
end
section
set_option Elab.async false
set_option linter.all false
set_option maxRecDepth 100000
set_option maxHeartbeats 2000000
namespace OT
open PySem PySem.Spec PyProof.Rows L2
/-! ### an exception -/
/-- an exception of the class c with the fields fs -/
def ExR (E : RE) (H : Hp) (c : Str) (fs : List (Str × T)) (cls : Value) (d : Option Addr) : Prop :=
  cls = .ref (E.ca.f c) ∧ ((d = none ∧ fs = []) ∨ ∃ dd gs, d = some dd ∧ H dd = some (.xd gs) ∧ ∀ n t, fs.lookup n = some t → flatT t = true ∧ ∃ v, gs.lookup n = some v ∧ Rep E H t v [])
theorem flat_any {E E' : RE} {H H' : Hp} {t : T} {v : V} {f : List Addr} (r : Rep E H t v f) (h : flatT t = true) : Rep E' H' t v [] := by
  cases t <;> first | (cases h; done) | (cases r; constructor)
theorem ExR.keep {E E' : RE} {H H' : Hp} {c : Str} {fs : List (Str × T)} {cls : Value} {d : Option Addr} (x : ExR E H c fs cls d) (h : E'.ca.f = E.ca.f) (k : ∀ a gs, H a = some (.xd gs) → H' a = some (.xd gs)) : ExR E' H' c fs cls d := by
  refine ⟨by rw [h]; exact x.1, x.2.imp id fun ⟨dd, gs, e1, e2, q⟩ => ⟨dd, gs, e1, k _ _ e2, fun n t l => ?_⟩⟩
  obtain ⟨ft, v, lv, r⟩ := q n t l
  exact ⟨ft, v, lv, flat_any r ft⟩
theorem ExR.any {E E' : RE} {H : Hp} {c : Str} {fs : List (Str × T)} {cls : Value} {d : Option Addr} (x : ExR E H c fs cls d) (h : E'.ca.f = E.ca.f) : ExR E' H c fs cls d := x.keep h fun _ _ z => z
/-! ### the slots -/
inductive Rs (E : RE) (H : Hp) : En → L2.St → List Addr → Prop where
  | nil : Rs E H [] [] []
  | und {o env σ p} : Rs E H env σ p → Rs E H (.und :: env) (o :: σ) p
  | has {b t v f env σ p} : Rep E H t v f → Rs E H env σ p → Rs E H (.has b t :: env) (some v :: σ) (f ++ p)
  | exn {c fs a cls d env σ p} : E.ca.x = some (a, cls, d) → ExR E H c fs cls d → Rs E H env σ p → Rs E H (.exn c fs :: env) (some (.ref a) :: σ) p
section
variable {E E' : RE} {H H' : Hp} {env : En} {σ : L2.St} {p q r f : List Addr} {i : Nat} {b : Bool} {t : T} {v : V}
theorem Rs.len (h : Rs E H env σ p) : env.length = σ.length := by
  induction h with
  | nil => rfl
  | und _ ih => simp [ih]
  | has _ _ ih => simp [ih]
  | exn _ _ _ ih => simp [ih]
theorem Rs.keep (h : Rs E H env σ p) (hK : E'.K = E.K) (hc : E'.ca = E.ca) (hf : ∀ a, E.gf a → E'.gf a) (hv : ∀ a, E.gv a → E'.gv a)
    (k : ∀ a o, H a = some o → (a ∈ p ∨ E.gf a ∨ E.gv a ∨ ¬ Mt o) → H' a = some o) : Rs E' H' env σ p := by
  induction h with
  | nil => exact .nil
  | und _ ih => exact .und (ih k)
  | has hr _ ih =>
    exact .has (hr.keep hK hc hf hv fun a o e c => k a o e (c.imp (fun z => List.mem_append_left _ z) id)) (ih fun a o e c => k a o e (c.imp (fun z => List.mem_append_right _ z) id))
  | exn hx he _ ih => exact .exn (by rw [hc]; exact hx) (he.keep (by rw [hc]) fun a gs e => k a _ e (.inr (.inr (.inr fun z => z)))) (ih k)
theorem Rs.frame (h : Rs E H env σ r) (gd : Gd E H (r ++ p)) (a : Frm E E' p q H H') : Rs E' H' env σ r :=
  h.keep a.K a.ca a.gf (fun c z => by rw [a.gv]; exact z) fun c o e z => a.keep c o e fun m => by
    rcases z with z | z | z | z
    · exact gd.dj z m
    · exact (gd.av c (List.mem_append_right _ m)).1 z
    · exact (gd.av c (List.mem_append_right _ m)).2 z
    · obtain ⟨o', e', m'⟩ := gd.mt c (List.mem_append_right _ m)
      rw [e] at e'
      cases e'
      exact z m'
theorem Rs.get : ∀ {env : En} {σ : L2.St} {p : List Addr} {i : Nat}, Rs E H env σ p → env[i]? = some (.has b t) → ∃ v f, σ[i]? = some (some v) ∧ Rep E H t v f ∧ f.Sublist p
  | [], _, _, _, _, e => by simp at e
  | s :: env, _, _, i, h, e => by
    cases h with
    | und h =>
      cases i with
      | zero => simp at e
      | succ i =>
        obtain ⟨v, f, e1, r, s⟩ := Rs.get h (by simpa using e)
        exact ⟨v, f, by simpa using e1, r, s⟩
    | exn _ _ h =>
      cases i with
      | zero => simp at e
      | succ i =>
        obtain ⟨v, f, e1, r, s⟩ := Rs.get h (by simpa using e)
        exact ⟨v, f, by simpa using e1, r, s⟩
    | has hr h =>
      cases i with
      | zero =>
        cases (Option.some.inj e)
        exact ⟨_, _, rfl, hr, List.sublist_append_left _ _⟩
      | succ i =>
        obtain ⟨v, f, e1, r, s⟩ := Rs.get h (by simpa using e)
        exact ⟨v, f, by simpa using e1, r, s.trans (List.sublist_append_right _ _)⟩
/-- the slot's tree taken out -/
theorem Rs.take : ∀ {env : En} {σ : L2.St} {p : List Addr} {i : Nat}, Rs E H env σ p → env[i]? = some (.has b t) → ∃ v f r, σ[i]? = some (some v) ∧ Rep E H t v f ∧ p.Perm (f ++ r) ∧ Rs E H (env.set i .und) σ r
  | [], _, _, _, _, e => by simp at e
  | s :: env, _, _, i, h, e => by
    cases h with
    | und h =>
      cases i with
      | zero => simp at e
      | succ i =>
        obtain ⟨v, f, r, e1, hr, s, q⟩ := Rs.take h (by simpa using e)
        exact ⟨v, f, r, by simpa using e1, hr, s, .und q⟩
    | exn hx he h =>
      cases i with
      | zero => simp at e
      | succ i =>
        obtain ⟨v, f, r, e1, hr, s, q⟩ := Rs.take h (by simpa using e)
        exact ⟨v, f, r, by simpa using e1, hr, s, .exn hx he q⟩
    | @has b' t' v' f' _ σ' p' hr h =>
      cases i with
      | zero =>
        cases (Option.some.inj e)
        exact ⟨_, _, _, rfl, hr, .refl _, .und h⟩
      | succ i =>
        obtain ⟨v, f, r, e1, hr2, s, q⟩ := Rs.take h (by simpa using e)
        refine ⟨v, f, f' ++ r, by simpa using e1, hr2, ?_, .has hr q⟩
        refine (List.Perm.append_left f' s).trans ?_
        rw [← List.append_assoc, ← List.append_assoc]
        exact List.Perm.append_right _ List.perm_append_comm
/-- a tree put into an empty slot -/
theorem Rs.put (hr : Rep E H t v f) : ∀ {env : En} {σ : L2.St} {r : List Addr} {i : Nat}, Rs E H env σ r → env[i]? = some .und → ∃ p, p.Perm (f ++ r) ∧ Rs E H (env.set i (.has b t)) (σ.set i (some v)) p
  | [], _, _, _, _, e => by simp at e
  | s :: env, _, _, i, h, e => by
    cases h with
    | und h =>
      cases i with
      | zero => exact ⟨_, .refl _, .has hr h⟩
      | succ i =>
        obtain ⟨p, s, q⟩ := Rs.put hr h (show env[i]? = some .und by simpa using e)
        exact ⟨p, s, .und q⟩
    | exn hx he h =>
      cases i with
      | zero => simp at e
      | succ i =>
        obtain ⟨p, s, q⟩ := Rs.put hr h (show env[i]? = some .und by simpa using e)
        exact ⟨p, s, .exn hx he q⟩
    | @has b' t' v' f' _ σ' p' hr' h =>
      cases i with
      | zero => simp at e
      | succ i =>
        obtain ⟨p, s, q⟩ := Rs.put hr h (show env[i]? = some .und by simpa using e)
        refine ⟨f' ++ p, ?_, .has hr' q⟩
        refine (List.Perm.append_left f' s).trans ?_
        rw [← List.append_assoc, ← List.append_assoc]
        exact List.Perm.append_right _ List.perm_append_comm
/-- any slot forgotten -/
theorem Rs.forget : ∀ {env : En} {σ : L2.St} {p : List Addr} (i : Nat), Rs E H env σ p → ∃ r, r.Sublist p ∧ Rs E H (env.set i .und) σ r
  | [], _, p, _, h => ⟨p, .refl _, by cases h; exact .nil⟩
  | s :: env, _, _, i, h => by
    cases h with
    | und h =>
      cases i with
      | zero => exact ⟨_, .refl _, .und h⟩
      | succ i =>
        obtain ⟨r, s, q⟩ := Rs.forget i h
        exact ⟨r, s, .und q⟩
    | exn hx he h =>
      cases i with
      | zero => exact ⟨_, .refl _, .und h⟩
      | succ i =>
        obtain ⟨r, s, q⟩ := Rs.forget i h
        exact ⟨r, s, .exn hx he q⟩
    | has hr h =>
      cases i with
      | zero => exact ⟨_, List.sublist_append_right _ _, .und h⟩
      | succ i =>
        obtain ⟨r, s, q⟩ := Rs.forget i h
        exact ⟨_, List.Sublist.append (.refl _) s, .has hr q⟩
/-- what an empty slot holds does not matter -/
theorem Rs.any : ∀ {env : En} {σ : L2.St} {p : List Addr} {i : Nat} (o : Option V), Rs E H env σ p → env[i]? = some .und → Rs E H env (σ.set i o) p
  | [], _, _, _, _, _, e => by simp at e
  | s :: env, _, _, i, o, h, e => by
    cases h with
    | und h =>
      cases i with
      | zero => exact .und h
      | succ i => exact .und (Rs.any o h (by simpa using e))
    | exn hx he h =>
      cases i with
      | zero => simp at e
      | succ i => exact .exn hx he (Rs.any o h (by simpa using e))
    | has hr h =>
      cases i with
      | zero => simp at e
      | succ i => exact .has hr (Rs.any o h (by simpa using e))
/-- what was caught -/
theorem Rs.exg : ∀ {env : En} {σ : L2.St} {p : List Addr} {i : Nat} {c : Str} {fs : List (Str × T)}, Rs E H env σ p → env[i]? = some (.exn c fs) → ∃ a cls d, σ[i]? = some (some (.ref a)) ∧ E.ca.x = some (a, cls, d) ∧ ExR E H c fs cls d
  | [], _, _, _, _, _, _, e => by simp at e
  | s :: env, _, _, i, _, _, h, e => by
    cases h with
    | und h =>
      cases i with
      | zero => simp at e
      | succ i =>
        obtain ⟨a, cls, d, e1, r⟩ := Rs.exg h (show env[i]? = some (.exn _ _) by simpa using e)
        exact ⟨a, cls, d, by simpa using e1, r⟩
    | has hr h =>
      cases i with
      | zero => simp at e
      | succ i =>
        obtain ⟨a, cls, d, e1, r⟩ := Rs.exg h (show env[i]? = some (.exn _ _) by simpa using e)
        exact ⟨a, cls, d, by simpa using e1, r⟩
    | exn hx he h =>
      cases i with
      | zero =>
        cases (Option.some.inj e)
        exact ⟨_, _, _, rfl, hx, he⟩
      | succ i =>
        obtain ⟨a, cls, d, e1, r⟩ := Rs.exg h (show env[i]? = some (.exn _ _) by simpa using e)
        exact ⟨a, cls, d, by simpa using e1, r⟩
/-- a tree stands whatever is caught -/
theorem Rp.reca {x : T ⊕ List T} {y : V ⊕ List V} {f : List Addr} (h : Rp E H x y f) (hK : E'.K = E.K) (hc : E'.ca.f = E.ca.f) (hf : E'.gf = E.gf) (hv : E'.gv = E.gv) : Rp E' H x y f := by
  have hr : ∀ fl a, E.reg fl a → E'.reg fl a := fun fl a z => by
    cases fl with
    | own => trivial
    | frz => show E'.gf a; rw [hf]; exact z
    | vw => show E'.gv a; rw [hv]; exact z
    | st => trivial
  induction h with
  | non => exact .non
  | bl => exact .bl
  | int => exact .int
  | str => exact .str
  | gap => exact .gap
  | rng h => exact .rng h
  | tup h _ ih => exact .tup (by rw [hK]; exact h) ih
  | nil => exact .nil
  | xo hx hn hd hf hr ih => exact .xo (xo_keep hx hc fun _ _ e _ => e) hn hd hf ih
  | cons _ _ ih1 ih2 => exact .cons ih1 ih2
  | @lst f a ts vs g hl h2 hp hg ih =>
    refine .lst ?_ (hr _ _ h2) ih hg
    cases f with
    | st => show SqF E'.K H a vs; rw [hK]; exact hl
    | _ => exact hl
  | dic hl hn h2 ns hp hg ih => exact .dic hl hn (hr _ _ h2) ns ih hg
  | @ins f a c dx ns' ts vs g hl hn h2 ns hp hg ih => exact .ins (dx := dx) (by rw [hc]; exact hl) hn (hr _ _ h2) ns ih hg
def noExn (env : En) : Bool := env.all fun s => match s with
  | .exn _ _ => false
  | _ => true
theorem Rs.reca (h : Rs E H env σ p) (hn : noExn env = true) (hK : E'.K = E.K) (hc : E'.ca.f = E.ca.f) (hf : E'.gf = E.gf) (hv : E'.gv = E.gv) : Rs E' H env σ p := by
  induction h with
  | nil => exact .nil
  | und _ ih => exact .und (ih (by simpa [noExn] using hn))
  | has hr _ ih => exact .has (hr.reca hK hc hf hv) (ih (by simpa [noExn] using hn))
  | exn _ _ _ _ => simp [noExn] at hn
theorem set_self : ∀ {σ : L2.St} {i : Nat} {o : Option V}, σ[i]? = some o → σ.set i o = σ
  | [], _, _, _ => rfl
  | a :: σ, 0, o, e => by
    have e' : a = o := by simpa using e
    rw [e']
    rfl
  | a :: σ, i + 1, o, e => by
    have q := set_self (σ := σ) (i := i) (o := o) (by simpa using e)
    show a :: σ.set i o = a :: σ
    rw [q]
end
/-- the arguments that are handed back stay such -/
def Iok (env env' : En) : Prop := env'.length = env.length ∧ ∀ (i : Nat) (t : T), env[i]? = some (.has true t) → ∃ t', env'[i]? = some (.has true t')
theorem Iok.refl (env : En) : Iok env env := ⟨rfl, fun _ t h => ⟨t, h⟩⟩
theorem Iok.trans {a b c : En} (h : Iok a b) (k : Iok b c) : Iok a c := ⟨k.1.trans h.1, fun i t e => by
  obtain ⟨t', e'⟩ := h.2 i t e
  exact k.2 i t' e'⟩
theorem Iok.set {env : En} {i : Nat} {t : T} {s : Sl} (h : env[i]? = some (.has false t) ∨ env[i]? = some .und) : Iok env (env.set i s) := ⟨by simp, fun j u e => by
  by_cases hj : i = j
  · subst hj
    rcases h with h | h <;> (rw [h] at e; cases e)
  · exact ⟨u, by rw [List.getElem?_set_ne hj]; exact e⟩⟩
theorem Iok.same {env : En} {i : Nat} {b : Bool} {t t' : T} (h : env[i]? = some (.has b t)) : Iok env (env.set i (.has b t')) := ⟨by simp, fun j u e => by
  by_cases hj : i = j
  · subst hj
    rw [h] at e
    cases e
    exact ⟨t', by rw [List.getElem?_set_self (List.getElem?_eq_some_iff.mp h).1]⟩
  · exact ⟨u, by rw [List.getElem?_set_ne hj]; exact e⟩⟩
/-- the arguments that are handed back stay where they are -/
def Sik (env : En) (σ σ' : L2.St) : Prop := ∀ (i : Nat) (t : T), env[i]? = some (.has true t) → σ'[i]? = σ[i]?
theorem Sik.refl {env : En} {σ : L2.St} : Sik env σ σ := fun _ _ _ => rfl
theorem Sik.trans {env e1 : En} {σ σ1 σ2 : L2.St} (a : Sik env σ σ1) (io : Iok env e1) (b : Sik e1 σ1 σ2) : Sik env σ σ2 := fun i t e => by
  obtain ⟨t', e'⟩ := io.2 i t e
  rw [b i t' e', a i t e]
theorem Sik.set {env : En} {σ : L2.St} {i : Nat} {o : Option V} (h : ∀ t, env[i]? ≠ some (.has true t)) : Sik env σ (σ.set i o) := fun j t e => by
  have hij : i ≠ j := fun z => by subst z; exact h t e
  rw [List.getElem?_set_ne hij]
structure Pst (q : Bool) (E : RE) (H : Hp) (p : List Addr) (env : En) (E' : RE) (H' : Hp) (p' : List Addr) (env' : En) (g : List Addr) : Prop where
  fr : Frm E E' p (g ++ p') H H'
  qf : q = true → env' = env ∧ p' = p ∧ Frm E E' [] g H H'
  io : Iok env env'
section
variable {E E1 E2 : RE} {H H1 H2 : Hp} {p p1 p2 g g1 g2 : List Addr} {env e1 e2 : En} {q q1 q2 : Bool}
theorem Pst.refl : Pst q E H p env E H p env [] := ⟨Frm.refl, fun _ => ⟨rfl, rfl, Frm.refl⟩, Iok.refl _⟩
/-- the first part's own are dropped -/
theorem Pst.trans (a : Pst q1 E H p env E1 H1 p1 e1 g1) (b : Pst q2 E1 H1 p1 e1 E2 H2 p2 e2 g2) : Pst (q1 && q2) E H p env E2 H2 p2 e2 g2 where
  fr := (a.fr.sub (fun _ z => z) fun _ z => List.mem_append_right _ z).trans b.fr
  qf := fun z => by
    obtain ⟨z1, z2⟩ := Bool.and_eq_true_iff.mp z
    obtain ⟨r1, r2, r3⟩ := a.qf z1
    obtain ⟨s1, s2, s3⟩ := b.qf z2
    exact ⟨s1.trans r1, s2.trans r2, (r3.sub (fun _ z => z) fun _ z => by cases z).trans s3⟩
  io := a.io.trans b.io
/-- .. are kept -/
theorem Pst.transB (a : Pst q1 E H p env E1 H1 p1 e1 g1) (b : Pst q2 E1 H1 p1 e1 E2 H2 p2 e2 g2) : Pst (q1 && q2) E H p env E2 H2 p2 e2 (g1 ++ g2) where
  fr := a.fr.trans (by
    have z := b.fr.beside (f := g1)
    rw [← List.append_assoc] at z
    exact z)
  qf := fun z => by
    obtain ⟨z1, z2⟩ := Bool.and_eq_true_iff.mp z
    obtain ⟨r1, r2, r3⟩ := a.qf z1
    obtain ⟨s1, s2, s3⟩ := b.qf z2
    refine ⟨s1.trans r1, s2.trans r2, r3.trans ?_⟩
    have w := s3.beside (f := g1)
    simpa using w
  io := a.io.trans b.io
theorem Pst.mono (a : Pst q1 E H p env E1 H1 p1 e1 g1) (h : q2 = true → q1 = true) : Pst q2 E H p env E1 H1 p1 e1 g1 := ⟨a.fr, fun z => a.qf (h z), a.io⟩
theorem Pst.drop (a : Pst q E H p env E1 H1 p1 e1 g1) : Pst q E H p env E1 H1 p1 e1 [] :=
  ⟨a.fr.sub (fun _ z => z) fun _ z => List.mem_append_right _ z, fun z => ⟨(a.qf z).1, (a.qf z).2.1, (a.qf z).2.2.sub (fun _ z => z) fun _ z => by cases z⟩, a.io⟩
theorem Pst.less (a : Pst q E H p env E1 H1 p1 e1 g1) (h : ∀ x ∈ g, x ∈ g1) : Pst q E H p env E1 H1 p1 e1 g :=
  ⟨a.fr.sub (fun _ z => z) fun _ z => (List.mem_append.mp z).elim (fun w => List.mem_append_left _ (h _ w)) fun w => List.mem_append_right _ w, fun z => ⟨(a.qf z).1, (a.qf z).2.1, (a.qf z).2.2.sub (fun _ z => z) h⟩, a.io⟩
/-- a step that touches nothing -/
theorem Pst.of_op (a : Frm E E1 [] g H H1) : Pst q E H p env E1 H1 p env g := ⟨by
  have z := a.beside (f := p)
  rw [List.append_nil] at z
  exact z.sub (fun _ z => z) fun _ z => by
    rcases List.mem_append.mp z with w | w
    · exact List.mem_append_right _ w
    · exact List.mem_append_left _ w, fun _ => ⟨rfl, rfl, a⟩, Iok.refl _⟩
/-- what was reckoned before stays, where what follows touches nothing or it stands apart -/
theorem Pst.stay {x : T ⊕ List T} {y : V ⊕ List V} {f : List Addr} (b : Pst q E1 H1 p1 e1 E2 H2 p2 e2 g2) (r : Rp E1 H1 x y f) (h : q = true ∨ Gd E1 H1 (f ++ p1)) : Rp E2 H2 x y f := by
  rcases h with h | h
  · obtain ⟨_, _, s⟩ := b.qf h
    exact r.keep s.K s.ca s.gf (fun c z => by rw [s.gv]; exact z) fun c o e _ => s.keep c o e (by simp)
  · exact r.frame h b.fr
end
end OT
end
section
set_option Elab.async false
set_option linter.all false
set_option maxRecDepth 100000
set_option maxHeartbeats 2000000
namespace OT
open PySem PySem.Spec PyProof.Rows L2
/-! ### a part of a tree -/
structure Kp (E E' : RE) (H H' : Hp) (fr : List Addr) : Prop where
  K : E'.K = E.K
  ca : E'.ca = E.ca
  gf : ∀ a, E.gf a → E'.gf a
  gv : ∀ a, E.gv a → E'.gv a
  keep : ∀ a o, H a = some o → (a ∈ fr ∨ E.gf a ∨ E.gv a ∨ ¬ Mt o) → H' a = some o
theorem Kp.sub {E E' : RE} {H H' : Hp} {f g : List Addr} (k : Kp E E' H H' f) (h : ∀ x ∈ g, x ∈ f) : Kp E E' H H' g := ⟨k.K, k.ca, k.gf, k.gv, fun a o e z => k.keep a o e (z.imp (h a) id)⟩
theorem Rp.kp {E E' : RE} {H H' : Hp} {fr f : List Addr} {x : T ⊕ List T} {y : V ⊕ List V} (k : Kp E E' H H' fr) (r : Rp E H x y f) (h : ∀ a ∈ f, a ∈ fr) : Rp E' H' x y f :=
  r.keep k.K k.ca k.gf k.gv fun a o e z => k.keep a o e (z.imp (h a) id)
theorem lookT_at {f : Str} {x : T} : ∀ {ns : List Str} {ts : List T}, lookT f ns ts = some x → ∃ n, ts[n]? = some x ∧ (∀ y, putT f y ns ts = ts.set n y) ∧ ∀ {α : Type} (vs : List α), vs.length = ts.length → (ns.zip vs).lookup f = vs[n]?
  | [], _, h => by cases h
  | _ :: _, [], h => by cases h
  | n :: ns, t :: ts, h => by
    by_cases e : f = n
    · have h' : (if f = n then some t else lookT f ns ts) = some x := h
      rw [if_pos e] at h'
      cases h'
      refine ⟨0, rfl, fun y => ?_, fun vs hl => ?_⟩
      · show (if f = n then y :: ts else x :: putT f y ns ts) = y :: ts
        rw [if_pos e]
      · cases vs with
        | nil => simp at hl
        | cons v vs => subst e; simp [List.lookup]
    · have h' : (if f = n then some t else lookT f ns ts) = some x := h
      rw [if_neg e] at h'
      obtain ⟨m, h1, h2, h3⟩ := lookT_at h'
      refine ⟨m + 1, by simpa using h1, fun y => ?_, fun vs hl => ?_⟩
      · show (if f = n then y :: ts else t :: putT f y ns ts) = (t :: ts).set (m + 1) y
        rw [if_neg e, h2]
        rfl
      · cases vs with
        | nil => simp at hl
        | cons v vs =>
          have e2 : (f == n) = false := by simpa using e
          show (match f == n with | true => some v | false => (ns.zip vs).lookup f) = _
          rw [e2]
          rw [h3 vs (by simpa using hl)]
          simp
theorem Reps.foc {E : RE} {H : Hp} : ∀ {ts : List T} {vs : List V} {g : List Addr} {n : Nat} {y : T}, Reps E H ts vs g → ts[n]? = some y →
    ∃ v gy rest, vs[n]? = some v ∧ Rep E H y v gy ∧ g.Perm (gy ++ rest) ∧ ∀ E' H' y' gy', Kp E E' H H' rest → Rep E' H' y' v gy' → ∃ g', g'.Perm (gy' ++ rest) ∧ Reps E' H' (ts.set n y') vs g'
  | [], _, _, _, _, _, e => by simp at e
  | t :: ts, _, _, n, y, h, e => by
    cases h with
    | @cons _ v f _ vs g h1 h2 =>
      cases n with
      | zero =>
        have e' : t = y := by simpa using e
        subst e'
        exact ⟨v, f, g, rfl, h1, .refl _, fun E' H' y' gy' k r => ⟨gy' ++ g, .refl _, .cons r (h2.kp k fun _ z => z)⟩⟩
      | succ n =>
        obtain ⟨w, gy, rest, e1, hr, s, q⟩ := Reps.foc h2 (show ts[n]? = some y by simpa using e)
        refine ⟨w, gy, f ++ rest, by simpa using e1, hr, ?_, fun E' H' y' gy' k r => ?_⟩
        · refine (List.Perm.append_left f s).trans ?_
          rw [← List.append_assoc, ← List.append_assoc]
          exact List.Perm.append_right _ List.perm_append_comm
        · obtain ⟨g', s', q'⟩ := q E' H' y' gy' (k.sub fun x z => List.mem_append_right _ z) r
          refine ⟨f ++ g', ?_, .cons (h1.kp k fun _ z => List.mem_append_left _ z) q'⟩
          refine (List.Perm.append_left f s').trans ?_
          rw [← List.append_assoc, ← List.append_assoc]
          exact List.Perm.append_right _ List.perm_append_comm
/-- the part at st of what stands at v0 -/
def Foc (E : RE) (H : Hp) (r : T) (st : List Step) (v0 : V) (f0 : List Addr) (t : T) (v : V) (f fr : List Addr) : Prop :=
  f0.Perm (f ++ fr) ∧ Rep E H t v f ∧ ∀ E' H' t' f', Kp E E' H H' fr → (f = [] → f' = []) → Rep E' H' t' v f' → ∃ f0', f0'.Perm (f' ++ fr) ∧ Rep E' H' (setS r st t') v0 f0'
theorem Foc.here {E : RE} {H : Hp} {t : T} {v : V} {f : List Addr} (h : Rep E H t v f) : Foc E H t [] v f t v f [] :=
  ⟨by simp, h, fun E' H' t' f' _ _ r => ⟨f', by simp, by simpa [setS] using r⟩⟩
section
variable {E E' : RE} {H H' : Hp} {fr : List Addr} {fl : Fl} {a : Addr} {vs : List V}
theorem reg_kp (hr : E.reg fl a) (k : Kp E E' H H' fr) : E'.reg fl a := by
  cases fl with
  | own => trivial
  | frz => exact k.gf _ hr
  | vw => exact k.gv _ hr
  | st => trivial
theorem at_kp {o : HO} (h : H a = some o) (hr : E.reg fl a) (k : Kp E E' H H' fr) (ho : fl = .own → a ∈ fr) (ns : fl ≠ .st) : H' a = some o := by
  cases fl with
  | own => exact k.keep _ _ h (.inl (ho rfl))
  | frz => exact k.keep _ _ h (.inr (.inl hr))
  | vw => exact k.keep _ _ h (.inr (.inr (.inl hr)))
  | st => exact absurd rfl ns
theorem ls_kp (hl : LsAt E.K H fl a vs) (hr : E.reg fl a) (k : Kp E E' H H' fr) (ho : fl = .own → a ∈ fr) : LsAt E'.K H' fl a vs := by
  cases fl with
  | own => exact at_kp (fl := .own) hl hr k ho (by decide)
  | frz => exact at_kp (fl := .frz) hl hr k ho (by decide)
  | vw => exact at_kp (fl := .vw) hl hr k ho (by decide)
  | st =>
    show SqF E'.K H' a vs
    rw [k.K]
    exact sqf_keep hl fun o e m => k.keep _ _ e (.inr (.inr (.inr m)))
end
theorem Foc.up {E : RE} {H : Hp} {r0 y : T} {s : Step} {st : List Step} {v0 v : V} {f0 gy R : List Addr} {t : T} {w : V} {f fr : List Addr} {up : T → T} (hp : f0.Perm (gy ++ R))
    (rb : ∀ E' H' y' gy', Kp E E' H H' R → (gy = [] → gy' = []) → Rep E' H' y' v gy' → ∃ f0', f0'.Perm (gy' ++ R) ∧ Rep E' H' (up y') v0 f0') (hs : ∀ t', setS r0 (s :: st) t' = up (setS y st t'))
    (F : Foc E H y st v gy t w f fr) : Foc E H r0 (s :: st) v0 f0 t w f (fr ++ R) := by
  refine ⟨?_, F.2.1, fun E' H' t' f' k hf r => ?_⟩
  · refine hp.trans ?_
    rw [← List.append_assoc]
    exact List.Perm.append_right _ F.1
  · obtain ⟨gy', s', q⟩ := F.2.2 E' H' t' f' (k.sub fun _ z => List.mem_append_left _ z) hf r
    have he : gy = [] → gy' = [] := fun e => by
      have e1 := F.1
      rw [e] at e1
      have e2 := List.append_eq_nil_iff.mp (List.Perm.eq_nil e1.symm)
      rw [hf e2.1, e2.2] at s'
      exact List.Perm.eq_nil s'
    obtain ⟨f0', s2, q2⟩ := rb E' H' _ gy' (k.sub fun _ z => List.mem_append_right _ z) he q
    refine ⟨f0', s2.trans ?_, by rw [hs]; exact q2⟩
    rw [← List.append_assoc]
    exact List.Perm.append_right _ s'
section
variable {E : RE} {H : Hp} {fl : Fl} {ts : List T} {a : Addr} {vs : List V} {g : List Addr} {n : Nat} {y : T}
theorem perm_hd {h g gy rest : List Addr} (s : g.Perm (gy ++ rest)) : (h ++ g).Perm (gy ++ (rest ++ h)) := by
  refine (List.Perm.append_left h s).trans ?_
  rw [← List.append_assoc gy rest h]
  exact List.perm_append_comm
theorem Foc.lst (hl : LsAt E.K H fl a vs) (hr : E.reg fl a) (hg : Reps E H ts vs g) (hn : fl ≠ .own → g = []) (e : ts[n]? = some y) :
    ∃ v gy, vs[n]? = some v ∧ Rep E H y v gy ∧ (∀ x ∈ gy, x ∈ g) ∧ ∀ {st t w f fr}, Foc E H y st v gy t w f fr → ∃ fr', Foc E H (.lst fl ts) (.ix n :: st) (.ref a) (hd fl a ++ g) t w f fr' := by
  obtain ⟨v, gy, rest, e1, hy, s, q⟩ := Reps.foc hg e
  refine ⟨v, gy, e1, hy, fun x z => s.mem_iff.mpr (List.mem_append_left _ z), fun {st t w f fr} F => ⟨_, Foc.up (R := rest ++ hd fl a) (up := fun y' => .lst fl (ts.set n y')) (perm_hd s) (fun E' H' y' gy' k he r => ?_) (fun t' => by simp [setS, e]) F⟩⟩
  obtain ⟨g', s', q'⟩ := q E' H' y' gy' (k.sub fun _ z => List.mem_append_left _ z) r
  refine ⟨hd fl a ++ g', perm_hd s', .lst (ls_kp hl hr k fun e => by rw [e]; simp [hd]) (reg_kp hr k) q' fun e => ?_⟩
  have z := hn e
  rw [z] at s
  have z2 := List.append_eq_nil_iff.mp (List.Perm.eq_nil s.symm)
  rw [he z2.1, z2.2] at s'
  exact List.Perm.eq_nil s'
theorem Foc.tup (hl : SqT E.K H a vs) (hg : Reps E H ts vs g) (e : ts[n]? = some y) :
    ∃ v gy, vs[n]? = some v ∧ Rep E H y v gy ∧ (∀ x ∈ gy, x ∈ g) ∧ ∀ {st t w f fr}, Foc E H y st v gy t w f fr → ∃ fr', Foc E H (.tup ts) (.ix n :: st) (.ref a) g t w f fr' := by
  obtain ⟨v, gy, rest, e1, hy, s, q⟩ := Reps.foc hg e
  refine ⟨v, gy, e1, hy, fun x z => s.mem_iff.mpr (List.mem_append_left _ z), fun {st t w f fr} F => ⟨_, Foc.up (R := rest) (up := fun y' => .tup (ts.set n y')) s (fun E' H' y' gy' k he r => ?_) (fun t' => by simp [setS, e]) F⟩⟩
  obtain ⟨g', s', q'⟩ := q E' H' y' gy' k r
  exact ⟨g', s', .tup (by rw [k.K]; exact sqt_keep hl fun o e m => k.keep _ _ e (.inr (.inr (.inr m)))) q'⟩
theorem Foc.ins {c : Str} {dx : Addr} {ns : List Str} {f : Str} (hl : H a = some (.ins (E.ca.f c) dx (ns.zip vs))) (hz : ns.length = ts.length) (hr : E.reg fl a) (ns' : fl ≠ .st) (hg : Reps E H ts vs g) (hn : fl ≠ .own → g = []) (e : lookT f ns ts = some y) :
    ∃ v gy, (ns.zip vs).lookup f = some v ∧ Rep E H y v gy ∧ (∀ x ∈ gy, x ∈ g) ∧ ∀ {st t w h fr}, Foc E H y st v gy t w h fr → ∃ fr', Foc E H (.ins fl c ns ts) (.fld f :: st) (.ref a) (hd fl a ++ g) t w h fr' := by
  obtain ⟨n, e0, pu, lk⟩ := lookT_at e
  obtain ⟨v, gy, rest, e1, hy, s, q⟩ := Reps.foc hg e0
  refine ⟨v, gy, by rw [lk vs hg.length.symm]; exact e1, hy, fun x z => s.mem_iff.mpr (List.mem_append_left _ z), fun {st t w h fr} F => ⟨_, Foc.up (R := rest ++ hd fl a) (up := fun y' => .ins fl c ns (ts.set n y')) (perm_hd s) (fun E' H' y' gy' k he r => ?_) (fun t' => by simp [setS, e, pu]) F⟩⟩
  obtain ⟨g', s', q'⟩ := q E' H' y' gy' (k.sub fun _ z => List.mem_append_left _ z) r
  refine ⟨hd fl a ++ g', perm_hd s', .ins (dx := dx) (by rw [k.ca]; exact at_kp hl hr k (fun e => by rw [e]; simp [hd]) ns') (by simpa using hz) (reg_kp hr k) ns' q' fun e => ?_⟩
  have z := hn e
  rw [z] at s
  have z2 := List.append_eq_nil_iff.mp (List.Perm.eq_nil s.symm)
  rw [he z2.1, z2.2] at s'
  exact List.Perm.eq_nil s'
end
theorem setS_app {st2 : List Step} {t' : T} : ∀ {st : List Step} {r x : T}, getS r st = some x → setS r (st ++ st2) t' = setS r st (setS x st2 t')
  | [], r, x, h => by
    have e : r = x := by simpa [getS] using h
    subst e
    rfl
  | s :: st, r, x, h => by
    cases r with
    | lst f ts =>
      cases s with
      | fld _ => simp [getS] at h
      | ix n =>
        cases e : ts[n]? with
        | none => simp [getS, e] at h
        | some y =>
          have h' : getS y st = some x := by simpa [getS, e] using h
          show setS (.lst f ts) (.ix n :: (st ++ st2)) t' = _
          simp only [setS, e]
          rw [setS_app h']
    | tup ts =>
      cases s with
      | fld _ => simp [getS] at h
      | ix n =>
        cases e : ts[n]? with
        | none => simp [getS, e] at h
        | some y =>
          have h' : getS y st = some x := by simpa [getS, e] using h
          show setS (.tup ts) (.ix n :: (st ++ st2)) t' = _
          simp only [setS, e]
          rw [setS_app h']
    | ins f c ns ts =>
      cases s with
      | ix _ => simp [getS] at h
      | fld g =>
        cases e : lookT g ns ts with
        | none => simp [getS, e] at h
        | some y =>
          have h' : getS y st = some x := by simpa [getS, e] using h
          show setS (.ins f c ns ts) (.fld g :: (st ++ st2)) t' = _
          simp only [setS, e]
          rw [setS_app h']
    | _ => simp [getS] at h
theorem getS_app {st2 : List Step} : ∀ {st : List Step} {r x : T}, getS r st = some x → getS r (st ++ st2) = getS x st2
  | [], r, x, h => by
    have e : r = x := by simpa [getS] using h
    subst e
    rfl
  | s :: st, r, x, h => by
    cases r with
    | lst f ts =>
      cases s with
      | fld _ => simp [getS] at h
      | ix n =>
        cases e : ts[n]? with
        | none => simp [getS, e] at h
        | some y =>
          have h' : getS y st = some x := by simpa [getS, e] using h
          simp only [List.cons_append, getS, e, Option.bind_some]
          exact getS_app h'
    | tup ts =>
      cases s with
      | fld _ => simp [getS] at h
      | ix n =>
        cases e : ts[n]? with
        | none => simp [getS, e] at h
        | some y =>
          have h' : getS y st = some x := by simpa [getS, e] using h
          simp only [List.cons_append, getS, e, Option.bind_some]
          exact getS_app h'
    | ins f c ns ts =>
      cases s with
      | ix _ => simp [getS] at h
      | fld g =>
        cases e : lookT g ns ts with
        | none => simp [getS, e] at h
        | some y =>
          have h' : getS y st = some x := by simpa [getS, e] using h
          simp only [List.cons_append, getS, e, Option.bind_some]
          exact getS_app h'
    | _ => simp [getS] at h
theorem Foc.trans {E : RE} {H : Hp} {r x t : T} {st st2 : List Step} {v0 v w : V} {f0 f fr f2 fr2 : List Addr} (hs : getS r st = some x) (F : Foc E H r st v0 f0 x v f fr) (G : Foc E H x st2 v f t w f2 fr2) : Foc E H r (st ++ st2) v0 f0 t w f2 (fr2 ++ fr) := by
  refine ⟨?_, G.2.1, fun E' H' t' f' k hf r' => ?_⟩
  · refine F.1.trans ?_
    rw [← List.append_assoc]
    exact List.Perm.append_right _ G.1
  · obtain ⟨fm, s1, q1⟩ := G.2.2 E' H' t' f' (k.sub fun _ z => List.mem_append_left _ z) hf r'
    have he : f = [] → fm = [] := fun e => by
      have e1 := G.1
      rw [e] at e1
      have e2 := List.append_eq_nil_iff.mp (List.Perm.eq_nil e1.symm)
      rw [hf e2.1, e2.2] at s1
      exact List.Perm.eq_nil s1
    obtain ⟨f0', s2, q2⟩ := F.2.2 E' H' _ fm (k.sub fun _ z => List.mem_append_right _ z) he q1
    refine ⟨f0', s2.trans ?_, by rw [setS_app hs]; exact q2⟩
    rw [← List.append_assoc]
    exact List.Perm.append_right _ s1
theorem Kp.of0 {E E' : RE} {H H' : Hp} {g l : List Addr} (a : Frm E E' [] g H H') : Kp E E' H H' l := ⟨a.K, a.ca, a.gf, fun c z => by rw [a.gv]; exact z, fun c o e _ => a.keep c o e (by simp)⟩
theorem Rs.kp {E E' : RE} {H H' : Hp} {env : En} {σ : L2.St} {p : List Addr} (rs : Rs E H env σ p) (k : Kp E E' H H' p) : Rs E' H' env σ p := rs.keep k.K k.ca k.gf k.gv k.keep
end OT
end
section
set_option Elab.async false
set_option linter.all false
set_option maxRecDepth 100000
set_option maxHeartbeats 2000000
namespace OT
open PySem PySem.Spec PyProof.Rows L2
/-! ### what is written is what stands there -/
/-- how a function is reached -/
inductive Fk where
  | fn (x : Str) | mt (c m : Str) | mk (c : Str)
  deriving DecidableEq
structure SP where
  gl : List (Str × Cn)
  fr : List Str
  sg : List (Fk × List Md × Nat × Option Nat)
  xc : List Str := []
  xh : List Str := []
  rzl : List Str := []
  r0l : List Str := []
  cal : Bool := true
  sx : Bool := false
def vis (sc : Scope) (x : Str) : Bool := match sc.names.lookup x with
  | some .local => true
  | some .cell => true
  | some .free => true
  | _ => false
def glo (sc : Scope) (x : Str) : Bool := decide (sc.names.lookup x = some .globalImplicit)
def plain (x : Str) : Bool := !(x == ("__debug__" : Str)) && !(x == ("__classdict__" : Str)) && !(x == ("__name__" : Str))
def chkN (N : List Str) (sc : Scope) (i : Nat) : Expr → Bool
  | .Name x _ => decide (N[i]? = some x) && vis sc x && plain x
  | _ => false
def chkS (N : List Str) (sc : Scope) (dl : Bool) (i : Nat) : Expr → Bool
  | .Name x _ => decide (N[i]? = some x) && (decide (sc.names.lookup x = some .local) || (dl && decide (sc.names.lookup x = some .cell))) && plain x
  | _ => false
def chkSs (N : List Str) (sc : Scope) (dl : Bool) : List Nat → List Expr → Bool
  | [], [] => true
  | i :: is, e :: es => chkS N sc dl i e && chkSs N sc dl is es
  | _, _ => false
def chkG (N : List Str) (sc : Scope) (dl : Bool) : Tg → Expr → Bool
  | .nm i, e => chkS N sc dl i e
  | .tp is, .Tuple es _ _ => chkSs N sc dl is es
  | _, _ => false
def chkC : Cn → Const → Bool
  | .non, .none => true
  | .bl b, .bool c => b == c
  | .int i, .int j => decide (i = j)
  | .str x, .str y => decide (x = y)
  | _, _ => false
def Bi.nm : Bi → Str
  | .len => "len" | .int => "int" | .abs => "abs" | .max2 => "max" | .min2 => "min" | .tuple => "tuple" | .list => "list" | .str => "str" | .sum => "sum" | .sorted => "sorted" | .all => "all" | .any => "any"
def Bm.nm : Bm → Str
  | .join => "join" | .split => "split"
def Mm.nm : Mm → Str
  | .append => "append" | .extend => "extend" | .pop => "pop" | .reverse => "reverse"
def Ck.nm : Ck → Str
  | .int => "int" | .str => "str" | .bool => "bool" | .tuple => "tuple" | .list => "list"
def Es.len : Es → Nat
  | .nil => 0
  | .cons _ r => r.len + 1
def As.ms : As → List Md
  | .nil => []
  | .cons (.m _) r => .m :: r.ms
  | .cons _ r => .v :: r.ms
def As.noM : As → Bool
  | .nil => true
  | .cons (.m _) _ => false
  | .cons _ r => r.noM
def As.okm : As → Bool
  | .nil => true
  | .cons (.v e) r => (!hasW r || qt e) && r.okm
  | .cons (.m p) r => qtP p && r.noM && r.okm
  | .cons (.w p) r => qtP p && r.noM && qtA r && r.okm
/-- the arguments' modes fit the parameters' -/
def okMs : List Md → List Md → Bool
  | m :: ms, n :: ns => decide (m = n) && okMs ms ns
  | [], ns => ns.all fun n => decide (n = .v)
  | ms, [] => ms.all fun n => decide (n = .v)
def noSlice : Expr → Bool
  | .Slice .. => false
  | _ => true
def noSup : Expr → Bool
  | .Call (.Name _ _) [] [] _ => false
  | _ => true
/-- what asks for no calm -/
def Bi.cool : Bi → Bool
  | .len => true | .int => true | .abs => true | .tuple => true | .list => true | .str => true
  | _ => false
def notStar : Expr → Bool
  | .Starred .. => false
  | _ => true
def notSet : Expr → Bool
  | .Set .. => false
  | _ => true
def isNameP : Expr → Option Str
  | .Name x _ => some x
  | _ => none
section
variable (S : SP) (N : List Str)
mutual
def chkE (sc : Scope) : E → Expr → Bool
  | .cn c, .Constant k _ _ => chkC c k
  | .gl x c, .Name y _ => decide (x = y) && glo sc x && plain x && S.gl.contains (x, c)
  | .nm i, e => chkN N sc i e
  | .mv i, e => chkN N sc i e
  | .fz i, e => chkN N sc i e
  | .fre a, e => chkE sc a e
  | .frx a, e => chkE sc a e
  | .att a f, .Attribute e g _ => decide (f = g) && noSup e && chkE sc a e
  | .neg a, .UnaryOp .USub e _ => chkE sc a e
  | .not a, .UnaryOp .Not e _ => chkE sc a e
  | .bin o a b, .BinOp x u y _ => decide (o = u) && chkE sc a x && chkE sc b y
  | .cmp o a b, .Compare x [u] [y] _ => decide (o = u) && !behindInMarks u y && chkE sc a x && chkE sc b y
  | .chn o u a b c, .Compare x [o', u'] [y, z] _ => decide (o = o') && decide (u = u') && !lastMarks [o', u'] [y, z] && chkE sc a x && chkE sc b y && chkE sc c z
  | .and a b, .BoolOp .And (x :: y :: r) pos => chkE sc a x && (match r with
    | [] => chkE sc b y
    | _ :: _ => chkE sc b (.BoolOp .And (y :: r) pos))
  | .or a b, .BoolOp .Or (x :: y :: r) pos => chkE sc a x && (match r with
    | [] => chkE sc b y
    | _ :: _ => chkE sc b (.BoolOp .Or (y :: r) pos))
  | .ifx c a b, .IfExp t x y _ => chkT sc c t && chkE sc a x && chkE sc b y
  | .tup es, .Tuple xs _ _ => chkEs sc es xs
  | .lst es, .List xs _ => chkEs sc es xs
  | .idx a i, .Subscript x y _ => noSlice y && chkE sc a x && chkE sc i y
  | .slc a lo hi, .Subscript x (.Slice l h none _) _ => chkE sc a x && chkO sc lo l && chkO sc hi h
  | .bi f es, .Call (.Name x _) (e :: r) [] _ => decide (x = f.nm) && glo sc x && plain x && S.fr.contains x && (S.cal && decide (f ≠ .sorted) || f.cool) && chkEs sc es (e :: r)
  | .bm m a es, .Call (.Attribute x n ap) [e] [] cp => decide (n = m.nm) && (ap.endLine == cp.line) && noSup x && chkE sc a x && chkEs sc es [e]
  | .mm m p es, .Call (.Attribute x n ap) xs [] cp => decide (n = m.nm) && (ap.endLine == cp.line) && noSup x && qtP p && (decide (m ≠ .extend) || qts es) && chkP sc p x && chkEs sc es xs && (match es with
    | .nil => true
    | .cons _ .nil => true
    | _ => false)
  | .call n x as, .Call (.Name y _) (e :: r) [] _ => S.cal && decide (x = y) && glo sc x && plain x && as.okm && (match S.sg[n]? with
    | some (.fn z, ms, nd, st) => decide (z = x) && okMs ms as.ms && okAr ms.length nd st as.len
    | _ => false) && chkAs sc as (e :: r)
  | .mth n c m (.cons (.m (.slf p c' m')) r), .Call (.Attribute o mm ap) xs [] cp => S.cal && decide (c = c') && decide (m = m') && decide (m = mm) && (ap.endLine == cp.line) && noSup o && decide (xs.length < 29) && qtP p && r.noM && r.okm && (match S.sg[n]? with
    | some (.mt d k, ms, nd, st) => decide (d = c) && decide (k = m) && okMs ms (.m :: r.ms) && okAr ms.length nd st (r.len + 1)
    | _ => false) && chkP sc p o && chkAs sc r xs
  | .mth n c m (.cons (.w (.slf p c' m')) r), .Call (.Attribute o mm ap) xs [] cp => S.cal && decide (c = c') && decide (m = m') && decide (m = mm) && (ap.endLine == cp.line) && noSup o && decide (xs.length < 29) && qtP p && r.noM && r.okm && qtA r && (match S.sg[n]? with
    | some (.mt d k, ms, nd, st) => decide (d = c) && decide (k = m) && okMs ms (.v :: r.ms) && okAr ms.length nd st (r.len + 1)
    | _ => false) && chkP sc p o && chkAs sc r xs
  | .mth n c m (.cons (.v (.slf e c' m')) r), .Call (.Attribute o mm ap) xs [] cp => S.cal && decide (c = c') && decide (m = m') && decide (m = mm) && (ap.endLine == cp.line) && noSup o && decide (xs.length < 29) && r.okm && (match S.sg[n]? with
    | some (.mt d k, ms, nd, st) => decide (d = c) && decide (k = m) && okMs ms (.v :: r.ms) && okAr ms.length nd st (r.len + 1)
    | _ => false) && chkE sc e o && chkAs sc r xs
  | .mk n c as, .Call (.Name y _) (e :: r) [] _ => S.cal && decide (c = y) && glo sc y && plain y && as.okm && as.noM && (match S.sg[n]? with
    | some (.mk d, .m :: ms, nd, st) => decide (d = c) && okMs ms as.ms && okAr (ms.length + 1) nd st (as.len + 1)
    | _ => false) && chkAs sc as (e :: r)
  | .comp g it c e own, .ListComp elt [⟨tg, iter, ifs, 0⟩] scope _ => S.cal && !S.sx && notSet iter && blkC N sc scope own && chkI sc it iter tg && chkG N (relS scope sc) false g tg && chkCo (relS scope sc) c ifs && chkE (relS scope sc) e elt &&
      (match g with | .nm i => own.any fun q => q.2 == i | .tp is => is.all fun i => own.any fun q => q.2 == i) && qtI it && qtCo c && qt e
  | .fst es, .JoinedStr (x :: y :: r) _ => chkF sc es (x :: y :: r) && qts es
  | .isi a c, .Call (.Name x _) [y, .Name z _] [] _ => decide (x = "isinstance") && decide (z = c.nm) && glo sc x && glo sc z && plain z && S.fr.contains x && S.fr.contains z && chkE sc a y
  | .xat i f, .Attribute e g _ => S.sx && decide (f = g) && noSup e && chkN N sc i e
  | .xis i c, .Call (.Name x _) [y, .Name z _] [] _ => S.sx && decide (x = "isinstance") && decide (z = c) && glo sc x && glo sc z && plain z && S.fr.contains x && S.xc.contains z && chkN N sc i y
  | .mkx c es, .Call (.Name y _) (e :: r) [] _ => S.cal && !S.sx && decide (c = y) && glo sc y && plain y && qts es && S.rzl.contains c && chkEs sc es (e :: r)
  | .mk0 c, .Call (.Name y _) [] [] _ => S.cal && !S.sx && decide (c = y) && glo sc y && plain y && S.r0l.contains c
  | .xatt a f, .Attribute e g _ => decide (f = g) && noSup e && chkE sc a e
  | .isx a c, .Call (.Name x _) [y, .Name z _] [] _ => decide (x = "isinstance") && decide (z = c) && glo sc x && glo sc z && plain z && S.fr.contains x && S.xc.contains z && chkE sc a y
  | _, _ => false
def chkT (sc : Scope) : Cd → Expr → Bool
  | .val e, x => (match x with
    | .Name .. => true
    | .Call .. => true
    | .Constant .. => true
    | .Attribute .. => true
    | .Subscript .. => true
    | _ => false) && chkE sc e x
  | .cmp o a b, .Compare x [u] [y] _ => decide (o = u) && !behindInMarks u y && chkE sc a x && chkE sc b y
  | .chn o u a b c, .Compare x [o', u'] [y, z] _ => decide (o = o') && decide (u = u') && !lastMarks [o', u'] [y, z] && chkE sc a x && chkE sc b y && chkE sc c z
  | .not c, .UnaryOp .Not e _ => chkT sc c e
  | .and a b, .BoolOp .And (x :: y :: r) pos => chkT sc a x && (match r with
    | [] => chkT sc b y
    | _ :: _ => chkT sc b (.BoolOp .And (y :: r) pos))
  | .or a b, .BoolOp .Or (x :: y :: r) pos => chkT sc a x && (match r with
    | [] => chkT sc b y
    | _ :: _ => chkT sc b (.BoolOp .Or (y :: r) pos))
  | _, _ => false
def chkEs (sc : Scope) : Es → List Expr → Bool
  | .nil, [] => true
  | .cons e r, x :: xs => chkE sc e x && chkEs sc r xs
  | _, _ => false
/-- an f-string's parts -/
def chkF (sc : Scope) : Es → List Expr → Bool
  | .nil, [] => true
  | .cons e r, x :: xs => (match x with
    | .FormattedValue y (-1) none _ => chkE sc e y
    | .Constant (.str z) k pos => chkE sc e (.Constant (.str z) k pos)
    | _ => false) && chkF sc r xs
  | _, _ => false
def chkP (sc : Scope) : P → Expr → Bool
  | .sl i, e => chkN N sc i e
  | .fld p f, .Attribute e g _ => decide (f = g) && noSup e && chkP sc p e
  | .ix p i, .Subscript x y _ => noSlice y && chkP sc p x && chkE sc i y && qt i
  | _, _ => false
def chkO (sc : Scope) : Eo → Option Expr → Bool
  | .no, none => true
  | .so e, some x => chkE sc e x
  | _, _ => false
def chkCo (sc : Scope) : Co → List Expr → Bool
  | .no, [] => true
  | .so c, [x] => chkT sc c x
  | _, _ => false
def chkAs (sc : Scope) : As → List Expr → Bool
  | .nil, [] => true
  | .cons (.v e) r, x :: xs => chkE sc e x && chkAs sc r xs
  | .cons (.m p) r, x :: xs => qtP p && chkP sc p x && chkAs sc r xs
  | .cons (.w p) r, x :: xs => qtP p && chkP sc p x && chkAs sc r xs
  | _, _ => false
def chkI (sc : Scope) : It → Expr → Expr → Bool
  | .val e, x, _ => (match x with
    | .Name .. => true
    | .Call .. => true
    | .Attribute .. => true
    | .Subscript .. => true
    | .Tuple .. => true
    | .List .. => true
    | .BinOp .. => true
    | _ => false) && chkE sc e x
  | .rng1 a, .Call (.Name x _) [y] [] _, _ => decide (x = "range") && glo sc x && S.fr.contains x && chkE sc a y
  | .rng2 a b, .Call (.Name x _) [y, z] [] _, _ => decide (x = "range") && glo sc x && S.fr.contains x && chkE sc a y && chkE sc b z
  | .enum e, .Call (.Name x _) [y] [] _, .Tuple _ _ _ => decide (x = "enumerate") && glo sc x && S.fr.contains x && chkE sc e y
  | _, _, _ => false
end
end
end OT
end
section
set_option Elab.async false
set_option linter.all false
set_option maxRecDepth 100000
set_option maxHeartbeats 2000000
namespace OT
open PySem PySem.Spec PyProof.Rows L2
/-! ### simulation -/
structure RP where
  P : Program
  w : World
  K : PySem.W.Frag
  mg : Str → Option Value
  base : Heap
  ca : CA
  lv : Nat
def ExOk (W : WX) (E : RE) (H : Hp) (p : List Addr) (env : En) (σ : L2.St) (Xc : XC) : Prop :=
  ∀ E' H' p' env' c fs cls d, Rs E' H' env' σ p' → Gd E' H' p' → Pst false E H p env E' H' p' env' [] → ExR E' H' c fs cls d → Xc c fs env' → W cls d σ H'
theorem ExOk.next {W : WX} {E E1 : RE} {H H1 : Hp} {p p1 g : List Addr} {env e1 : En} {σ : L2.St} {Xc : XC} {q : Bool} (x : ExOk W E H p env σ Xc) (a : Pst q E H p env E1 H1 p1 e1 g) : ExOk W E1 H1 p1 e1 σ Xc :=
  fun E' H' p' env' c fs cls d rs gd b ex xc => x E' H' p' env' c fs cls d rs gd ((a.trans b).mono (by simp)) ex xc
def gk (k : Bool) (g : List Addr) : List Addr := match k with
  | true => []
  | false => g
/-- an expression -/
def SimE (R : RP) (W : WX) (te : TE) (wp : En → XC → (T → En → Prop) → Prop) (q k : Bool) : Prop :=
  ∀ (E : RE) (H : Hp) (env : En) (σ : L2.St) (p : List Addr) (Xc : XC) (Qw : T → En → Prop) (Q : VK), E.K = R.K → E.ca = R.ca → Rs E H env σ p → Gd E H p → wp env Xc Qw →
    (∀ E' H' p' env' t v g, Rs E' H' env' σ p' → Rep E' H' t v g → Gd E' H' p' → (k = false → Gd E' H' (g ++ p')) → Pst q E H p env E' H' p' env' (gk k g) → Qw t env' → Q v H') →
    ExOk W E H p env σ Xc → te σ H Q
/-- a test -/
def SimT (R : RP) (W : WX) (tt : TT) (wp : En → XC → (Bool → En → Prop) → Prop) (q : Bool) : Prop :=
  ∀ (E : RE) (H : Hp) (env : En) (σ : L2.St) (p : List Addr) (Xc : XC) (Qw : Bool → En → Prop) (Q : Bool → Hp → Prop), E.K = R.K → E.ca = R.ca → Rs E H env σ p → Gd E H p → wp env Xc Qw →
    (∀ E' H' p' env' b, Rs E' H' env' σ p' → Gd E' H' p' → Pst q E H p env E' H' p' env' [] → Qw b env' → Q b H') →
    ExOk W E H p env σ Xc → tt σ H Q
/-- several expressions -/
def SimA (R : RP) (W : WX) (ta : TA) (wp : En → XC → (List T → En → Prop) → Prop) (q k : Bool) : Prop :=
  ∀ (E : RE) (H : Hp) (env : En) (σ : L2.St) (p : List Addr) (Xc : XC) (Qw : List T → En → Prop) (Q : List V → Hp → Prop), E.K = R.K → E.ca = R.ca → Rs E H env σ p → Gd E H p → wp env Xc Qw →
    (∀ E' H' p' env' ts vs g, Rs E' H' env' σ p' → Reps E' H' ts vs g → Gd E' H' p' → (k = false → Gd E' H' (g ++ p')) → Pst q E H p env E' H' p' env' (gk k g) → Qw ts env' → Q vs H') →
    ExOk W E H p env σ Xc → ta σ H Q
theorem Pst.EK {q : Bool} {E E1 : RE} {H H1 : Hp} {p p1 g : List Addr} {env e1 : En} {K : PySem.W.Frag} (a : Pst q E H p env E1 H1 p1 e1 g) (h : E.K = K) : E1.K = K := a.fr.K.trans h
theorem Pst.Ec {q : Bool} {E E1 : RE} {H H1 : Hp} {p p1 g : List Addr} {env e1 : En} {c : CA} (a : Pst q E H p env E1 H1 p1 e1 g) (h : E.ca = c) : E1.ca = c := a.fr.ca.trans h
section
variable {R : RP} {W : WX} {ta tb tc : TE} {wa wb wc : En → XC → (T → En → Prop) → Prop} {qa qb qc ka kb kc k : Bool} {r : R2}
theorem gk_nil : gk k [] = [] := by cases k <;> rfl
theorem Pst.gk {E E' : RE} {H H' : Hp} {p p' g : List Addr} {env env' : En} {q : Bool} (a : Pst q E H p env E' H' p' env' g) : Pst q E H p env E' H' p' env' (gk k g) := by
  cases k with
  | true => exact a.drop
  | false => exact a
theorem Sim.const {c : Cn} : SimE R W (tC c.v) (fun env _ Q => Q c.t env) true k := by
  intro E H env σ p Xc Qw Q eK ec rs gd w q _
  have hr : Rep E H c.t c.v [] := by cases c <;> constructor
  exact q E H p env c.t c.v [] rs hr gd (fun _ => gd) (by rw [gk_nil]; exact Pst.refl) w
theorem Sim.name {i : Nat} : SimE R W (tVar i) (fun env _ Q => match env[i]? with
    | some (.has _ t) => (k || cpy t) = true ∧ Q t env
    | _ => False) true k := by
  intro E H env σ p Xc Qw Q eK ec rs gd w q _
  cases e : env[i]? with
  | none => simp only [e] at w
  | some s =>
    cases s with
    | und => simp only [e] at w
    | exn _ _ => simp only [e] at w
    | has b t =>
      simp only [e] at w
      obtain ⟨v, f, e1, hr, sub⟩ := rs.get e
      refine ⟨v, e1, ?_⟩
      cases hk : k with
      | true => exact q E H p env t v f rs hr gd (fun z => by rw [hk] at z; cases z) (by rw [hk]; exact Pst.refl) w.2
      | false =>
        have c : cpy t = true := by
          have z := w.1
          rw [hk] at z
          simpa using z
        have hr' := hr.of_cpy c
        exact q E H p env t v [] rs hr' gd (fun _ => gd) (by rw [gk_nil]; exact Pst.refl) w.2
/-- what an operation wants of its first part where a second one is reckoned between -/
theorem keep_of {x : T ⊕ List T} {y : V ⊕ List V} {f : List Addr} {E1 E2 : RE} {H1 H2 : Hp} {p1 p2 g : List Addr} {e1 e2 : En} (b : Pst qb E1 H1 p1 e1 E2 H2 p2 e2 g) (r : Rp E1 H1 x y f) (hk : ka = true → qb = true) (h : ka = false → Gd E1 H1 (f ++ p1)) : Rp E2 H2 x y f := by
  cases ka with
  | true => exact b.stay r (.inl (hk rfl))
  | false => exact b.stay r (.inr (h rfl))
theorem Sim.bin {b : T → T → (T → Prop) → Prop} (ha : SimE R W ta wa qa ka) (hb : SimE R W tb wb qb true) (hk : ka = true → qb = true) (ho : SimR R.K r b) :
    SimE R W (tOp r ta tb) (fun env X Q => wa env X fun x e1 => wb e1 X fun y e2 => b x y fun t => Q t e2) (qa && qb) k := by
  intro E H env σ p Xc Qw Q eK ec rs gd w q xo
  refine ha E H env σ p Xc _ _ eK ec rs gd w (fun E1 H1 p1 e1 t1 v1 g1 rs1 r1 gd1 gg1 ps1 w1 => ?_) xo
  refine hb E1 H1 e1 σ p1 Xc _ _ (ps1.EK eK) (ps1.Ec ec) rs1 gd1 w1 (fun E2 H2 p2 e2 t2 v2 g2 rs2 r2 gd2 _ ps2 w2 => ?_) (xo.next ps1)
  have r1' := keep_of ps2 r1 hk gg1
  have ps := ps1.trans ps2
  refine ho E2 H2 p2 t1 v1 g1 t2 v2 g2 _ _ (ps2.EK (ps1.EK eK)) gd2 r1' r2 w2 fun t v f H' hr fr gd' wt => ?_
  have po : Pst true E2 H2 p2 e2 E2 H' p2 e2 f := Pst.of_op fr
  refine q E2 H' p2 e2 t v f (rs2.frame (p := []) (by simpa using gd2) fr) hr gd'.right (fun _ => gd') ?_ wt
  exact ((ps.trans po).mono (by simp)).gk
theorem Sim.cmp {b : T → T → (Bool → Prop) → Prop} (ha : SimE R W ta wa qa ka) (hb : SimE R W tb wb qb true) (hk : ka = true → qb = true) (ho : SimC R.K r b) :
    SimE R W (tOp r ta tb) (fun env X Q => wa env X fun x e1 => wb e1 X fun y e2 => b x y fun c => Q (.bl c) e2) (qa && qb) k := by
  intro E H env σ p Xc Qw Q eK ec rs gd w q xo
  refine ha E H env σ p Xc _ _ eK ec rs gd w (fun E1 H1 p1 e1 t1 v1 g1 rs1 r1 gd1 gg1 ps1 w1 => ?_) xo
  refine hb E1 H1 e1 σ p1 Xc _ _ (ps1.EK eK) (ps1.Ec ec) rs1 gd1 w1 (fun E2 H2 p2 e2 t2 v2 g2 rs2 r2 gd2 _ ps2 w2 => ?_) (xo.next ps1)
  have r1' := keep_of ps2 r1 hk gg1
  refine ho E2 H2 t1 v1 g1 t2 v2 g2 _ _ (ps2.EK (ps1.EK eK)) r1' r2 w2 fun c wt => ?_
  exact q E2 H2 p2 e2 (.bl c) (.bl c) [] rs2 .bl gd2 (fun _ => gd2) (by rw [gk_nil]; exact (ps1.trans ps2).drop) wt
theorem Sim.cmpT {b : T → T → (Bool → Prop) → Prop} (ha : SimE R W ta wa qa ka) (hb : SimE R W tb wb qb true) (hk : ka = true → qb = true) (ho : SimC R.K r b) :
    SimT R W (tTest (tOp r ta tb)) (fun env X Q => wa env X fun x e1 => wb e1 X fun y e2 => b x y fun c => Q c e2) (qa && qb) := by
  intro E H env σ p Xc Qw Q eK ec rs gd w q xo
  refine ha E H env σ p Xc _ _ eK ec rs gd w (fun E1 H1 p1 e1 t1 v1 g1 rs1 r1 gd1 gg1 ps1 w1 => ?_) xo
  refine hb E1 H1 e1 σ p1 Xc _ _ (ps1.EK eK) (ps1.Ec ec) rs1 gd1 w1 (fun E2 H2 p2 e2 t2 v2 g2 rs2 r2 gd2 _ ps2 w2 => ?_) (xo.next ps1)
  have r1' := keep_of ps2 r1 hk gg1
  refine ho E2 H2 t1 v1 g1 t2 v2 g2 _ _ (ps2.EK (ps1.EK eK)) r1' r2 w2 fun c wt => ⟨c, rfl, ?_⟩
  exact q E2 H2 p2 e2 c rs2 gd2 (ps1.trans ps2).drop wt
variable {r' : R2}
theorem Sim.chn {b b' : T → T → (Bool → Prop) → Prop} (ha : SimE R W ta wa qa ka) (hb : SimE R W tb wb qb kb) (hc : SimE R W tc wc qc true) (hk : ka = true → qb = true ∧ qc = true) (hk2 : kb = true → qc = true) (ho : SimC R.K r b) (ho' : SimC R.K r' b') :
    SimE R W (tChain r r' ta tb tc) (fun env X Q => wa env X fun x e1 => wb e1 X fun y e2 => b x y fun z => (z = true → wc e2 X fun w e3 => b' y w fun s => Q (.bl s) e3) ∧ (z = false → Q (.bl false) e2)) (qa && qb && qc) k := by
  intro E H env σ p Xc Qw Q eK ec rs gd w q xo
  refine ha E H env σ p Xc _ _ eK ec rs gd w (fun E1 H1 p1 e1 t1 v1 g1 rs1 r1 gd1 gg1 ps1 w1 => ?_) xo
  refine hb E1 H1 e1 σ p1 Xc _ _ (ps1.EK eK) (ps1.Ec ec) rs1 gd1 w1 (fun E2 H2 p2 e2 t2 v2 g2 rs2 r2 gd2 gg2 ps2 w2 => ?_) (xo.next ps1)
  have r1' := keep_of ps2 r1 (fun z => (hk z).1) gg1
  have ps := ps1.trans ps2
  refine ho E2 H2 t1 v1 g1 t2 v2 g2 _ _ (ps2.EK (ps1.EK eK)) r1' r2 w2 fun c wt => ⟨c, rfl, ?_⟩
  cases c with
  | false =>
    rw [if_neg Bool.false_ne_true]
    exact q E2 H2 p2 e2 (.bl false) (.bl false) [] rs2 .bl gd2 (fun _ => gd2) (by rw [gk_nil]; exact (ps.drop).mono (fun z => (Bool.and_eq_true_iff.mp z).1)) (wt.2 rfl)
  | true =>
    rw [if_pos rfl]
    refine hc E2 H2 e2 σ p2 Xc _ _ (ps2.EK (ps1.EK eK)) (ps2.Ec (ps1.Ec ec)) rs2 gd2 (wt.1 rfl) (fun E3 H3 p3 e3 t3 v3 g3 rs3 r3 gd3 _ ps3 w3 => ?_) ((xo.next ps1).next ps2)
    have r2' := keep_of ps3 r2 hk2 gg2
    refine ho' E3 H3 t2 v2 g2 t3 v3 g3 _ _ (ps3.EK (ps2.EK (ps1.EK eK))) r2' r3 w3 fun c wt => ?_
    exact q E3 H3 p3 e3 (.bl c) (.bl c) [] rs3 .bl gd3 (fun _ => gd3) (by rw [gk_nil]; exact (ps.trans ps3).drop) wt
theorem Sim.chnT {b b' : T → T → (Bool → Prop) → Prop} (ha : SimE R W ta wa qa ka) (hb : SimE R W tb wb qb kb) (hc : SimE R W tc wc qc true) (hk : ka = true → qb = true ∧ qc = true) (hk2 : kb = true → qc = true) (ho : SimC R.K r b) (ho' : SimC R.K r' b') :
    SimT R W (tTest (tChain r r' ta tb tc)) (fun env X Q => wa env X fun x e1 => wb e1 X fun y e2 => b x y fun z => (z = true → wc e2 X fun w e3 => b' y w fun s => Q s e3) ∧ (z = false → Q false e2)) (qa && qb && qc) := by
  intro E H env σ p Xc Qw Q eK ec rs gd w q xo
  refine ha E H env σ p Xc _ _ eK ec rs gd w (fun E1 H1 p1 e1 t1 v1 g1 rs1 r1 gd1 gg1 ps1 w1 => ?_) xo
  refine hb E1 H1 e1 σ p1 Xc _ _ (ps1.EK eK) (ps1.Ec ec) rs1 gd1 w1 (fun E2 H2 p2 e2 t2 v2 g2 rs2 r2 gd2 gg2 ps2 w2 => ?_) (xo.next ps1)
  have r1' := keep_of ps2 r1 (fun z => (hk z).1) gg1
  have ps := ps1.trans ps2
  refine ho E2 H2 t1 v1 g1 t2 v2 g2 _ _ (ps2.EK (ps1.EK eK)) r1' r2 w2 fun c wt => ⟨c, rfl, ?_⟩
  cases c with
  | false =>
    rw [if_neg Bool.false_ne_true]
    exact ⟨false, rfl, q E2 H2 p2 e2 false rs2 gd2 ((ps.drop).mono (fun z => (Bool.and_eq_true_iff.mp z).1)) (wt.2 rfl)⟩
  | true =>
    rw [if_pos rfl]
    refine hc E2 H2 e2 σ p2 Xc _ _ (ps2.EK (ps1.EK eK)) (ps2.Ec (ps1.Ec ec)) rs2 gd2 (wt.1 rfl) (fun E3 H3 p3 e3 t3 v3 g3 rs3 r3 gd3 _ ps3 w3 => ?_) ((xo.next ps1).next ps2)
    have r2' := keep_of ps3 r2 hk2 gg2
    refine ho' E3 H3 t2 v2 g2 t3 v3 g3 _ _ (ps3.EK (ps2.EK (ps1.EK eK))) r2' r3 w3 fun c wt => ⟨c, rfl, ?_⟩
    exact q E3 H3 p3 e3 c rs3 gd3 (ps.trans ps3).drop wt
/-- a truth value as a test -/
theorem Sim.valT (ha : SimE R W ta wa qa true) : SimT R W (tB ta) (fun env X Q => wa env X fun x e1 => match x with
    | .bl b => Q b e1
    | _ => False) qa := by
  intro E H env σ p Xc Qw Q eK ec rs gd w q xo
  refine ha E H env σ p Xc _ _ eK ec rs gd w (fun E1 H1 p1 e1 t1 v1 g1 rs1 r1 gd1 _ ps1 w1 => ?_) xo
  cases t1 <;> first | exact False.elim w1 | skip
  cases r1
  exact ⟨_, rfl, q E1 H1 p1 e1 _ rs1 gd1 ps1 w1⟩
theorem Sim.neg (ha : SimE R W ta wa qa true) : SimE R W (tUn (rU fun i => .int (-i)) ta) (fun env X Q => wa env X fun x e => match x with
    | .int i => Q (.int (-i)) e
    | _ => False) qa k := by
  intro E H env σ p Xc Qw Q eK ec rs gd w q xo
  refine ha E H env σ p Xc _ _ eK ec rs gd w (fun E1 H1 p1 e1 t1 v1 g1 rs1 r1 gd1 _ ps1 w1 => ?_) xo
  cases t1 <;> first | exact False.elim w1 | skip
  cases r1
  exact ⟨_, rfl, q E1 H1 p1 e1 _ _ [] rs1 .int gd1 (fun _ => gd1) (by rw [gk_nil]; exact ps1.drop) w1⟩
theorem Sim.not (ha : SimE R W ta wa qa true) : SimE R W (tNotV ta) (fun env X Q => wa env X fun x e => match x with
    | .bl b => Q (.bl (!b)) e
    | _ => False) qa k := by
  intro E H env σ p Xc Qw Q eK ec rs gd w q xo
  refine ha E H env σ p Xc _ _ eK ec rs gd w (fun E1 H1 p1 e1 t1 v1 g1 rs1 r1 gd1 _ ps1 w1 => ?_) xo
  cases t1 <;> first | exact False.elim w1 | skip
  cases r1
  exact ⟨_, rfl, q E1 H1 p1 e1 _ _ [] rs1 .bl gd1 (fun _ => gd1) (by rw [gk_nil]; exact ps1.drop) w1⟩
theorem Sim.and (ha : SimE R W ta wa qa true) (hb : SimE R W tb wb qb k) : SimE R W (tAndV ta tb) (fun env X Q => wa env X fun x e1 => match x with
    | .bl c => (c = true → wb e1 X Q) ∧ (c = false → Q (.bl false) e1)
    | _ => False) (qa && qb) k := by
  intro E H env σ p Xc Qw Q eK ec rs gd w q xo
  refine ha E H env σ p Xc _ _ eK ec rs gd w (fun E1 H1 p1 e1 t1 v1 g1 rs1 r1 gd1 _ ps1 w1 => ?_) xo
  cases t1 <;> first | exact False.elim w1 | skip
  rename_i c
  cases r1
  refine ⟨c, rfl, ?_⟩
  cases c with
  | false =>
    rw [if_neg Bool.false_ne_true]
    exact q E1 H1 p1 e1 _ _ [] rs1 .bl gd1 (fun _ => gd1) (by rw [gk_nil]; exact ps1.drop.mono (fun z => (Bool.and_eq_true_iff.mp z).1)) (w1.2 rfl)
  | true =>
    rw [if_pos rfl]
    exact hb E1 H1 e1 σ p1 Xc _ _ (ps1.EK eK) (ps1.Ec ec) rs1 gd1 (w1.1 rfl) (fun E2 H2 p2 e2 t2 v2 g2 rs2 r2 gd2 gg2 ps2 w2 => q E2 H2 p2 e2 t2 v2 g2 rs2 r2 gd2 gg2 (ps1.trans ps2) w2) (xo.next ps1)
theorem Sim.or (ha : SimE R W ta wa qa true) (hb : SimE R W tb wb qb k) : SimE R W (tOrV ta tb) (fun env X Q => wa env X fun x e1 => match x with
    | .bl c => (c = true → Q (.bl true) e1) ∧ (c = false → wb e1 X Q)
    | _ => False) (qa && qb) k := by
  intro E H env σ p Xc Qw Q eK ec rs gd w q xo
  refine ha E H env σ p Xc _ _ eK ec rs gd w (fun E1 H1 p1 e1 t1 v1 g1 rs1 r1 gd1 _ ps1 w1 => ?_) xo
  cases t1 <;> first | exact False.elim w1 | skip
  rename_i c
  cases r1
  refine ⟨c, rfl, ?_⟩
  cases c with
  | true =>
    rw [if_pos rfl]
    exact q E1 H1 p1 e1 _ _ [] rs1 .bl gd1 (fun _ => gd1) (by rw [gk_nil]; exact ps1.drop.mono (fun z => (Bool.and_eq_true_iff.mp z).1)) (w1.1 rfl)
  | false =>
    rw [if_neg Bool.false_ne_true]
    exact hb E1 H1 e1 σ p1 Xc _ _ (ps1.EK eK) (ps1.Ec ec) rs1 gd1 (w1.2 rfl) (fun E2 H2 p2 e2 t2 v2 g2 rs2 r2 gd2 gg2 ps2 w2 => q E2 H2 p2 e2 t2 v2 g2 rs2 r2 gd2 gg2 (ps1.trans ps2) w2) (xo.next ps1)
variable {ua ub : TT} {va vb : En → XC → (Bool → En → Prop) → Prop}
theorem Sim.ifx (hc : SimT R W ua va qc) (ha : SimE R W ta wa qa k) (hb : SimE R W tb wb qb k) : SimE R W (tIf ua ta tb) (fun env X Q => va env X fun r e1 => (r = true → wa e1 X Q) ∧ (r = false → wb e1 X Q)) (qc && qa && qb) k := by
  intro E H env σ p Xc Qw Q eK ec rs gd w q xo
  refine hc E H env σ p Xc _ _ eK ec rs gd w (fun E1 H1 p1 e1 b rs1 gd1 ps1 w1 => ?_) xo
  cases b with
  | true =>
    rw [if_pos rfl]
    exact ha E1 H1 e1 σ p1 Xc _ _ (ps1.EK eK) (ps1.Ec ec) rs1 gd1 (w1.1 rfl) (fun E2 H2 p2 e2 t2 v2 g2 rs2 r2 gd2 gg2 ps2 w2 => q E2 H2 p2 e2 t2 v2 g2 rs2 r2 gd2 gg2 ((ps1.trans ps2).mono (fun z => (Bool.and_eq_true_iff.mp z).1)) w2) (xo.next ps1)
  | false =>
    rw [if_neg Bool.false_ne_true]
    exact hb E1 H1 e1 σ p1 Xc _ _ (ps1.EK eK) (ps1.Ec ec) rs1 gd1 (w1.2 rfl) (fun E2 H2 p2 e2 t2 v2 g2 rs2 r2 gd2 gg2 ps2 w2 => q E2 H2 p2 e2 t2 v2 g2 rs2 r2 gd2 gg2 ((ps1.trans ps2).mono (fun z => by
      obtain ⟨z1, z2⟩ := Bool.and_eq_true_iff.mp z
      rw [(Bool.and_eq_true_iff.mp z1).1, z2]; rfl)) w2) (xo.next ps1)
theorem Sim.notT (hc : SimT R W ua va qc) : SimT R W (tNot ua) (fun env X Q => va env X fun b e => Q (!b) e) qc := by
  intro E H env σ p Xc Qw Q eK ec rs gd w q xo
  exact hc E H env σ p Xc _ _ eK ec rs gd w (fun E1 H1 p1 e1 b rs1 gd1 ps1 w1 => q E1 H1 p1 e1 _ rs1 gd1 ps1 w1) xo
theorem Sim.andT (ha : SimT R W ua va qa) (hb : SimT R W ub vb qb) : SimT R W (tAnd ua ub) (fun env X Q => va env X fun c e1 => (c = true → vb e1 X Q) ∧ (c = false → Q false e1)) (qa && qb) := by
  intro E H env σ p Xc Qw Q eK ec rs gd w q xo
  refine ha E H env σ p Xc _ _ eK ec rs gd w (fun E1 H1 p1 e1 b rs1 gd1 ps1 w1 => ?_) xo
  cases b with
  | true =>
    rw [if_pos rfl]
    exact hb E1 H1 e1 σ p1 Xc _ _ (ps1.EK eK) (ps1.Ec ec) rs1 gd1 (w1.1 rfl) (fun E2 H2 p2 e2 b2 rs2 gd2 ps2 w2 => q E2 H2 p2 e2 b2 rs2 gd2 (ps1.trans ps2) w2) (xo.next ps1)
  | false =>
    rw [if_neg Bool.false_ne_true]
    exact q E1 H1 p1 e1 _ rs1 gd1 (ps1.mono (fun z => (Bool.and_eq_true_iff.mp z).1)) (w1.2 rfl)
theorem Sim.orT (ha : SimT R W ua va qa) (hb : SimT R W ub vb qb) : SimT R W (tOr ua ub) (fun env X Q => va env X fun c e1 => (c = true → Q true e1) ∧ (c = false → vb e1 X Q)) (qa && qb) := by
  intro E H env σ p Xc Qw Q eK ec rs gd w q xo
  refine ha E H env σ p Xc _ _ eK ec rs gd w (fun E1 H1 p1 e1 b rs1 gd1 ps1 w1 => ?_) xo
  cases b with
  | false =>
    rw [if_neg Bool.false_ne_true]
    exact hb E1 H1 e1 σ p1 Xc _ _ (ps1.EK eK) (ps1.Ec ec) rs1 gd1 (w1.2 rfl) (fun E2 H2 p2 e2 b2 rs2 gd2 ps2 w2 => q E2 H2 p2 e2 b2 rs2 gd2 (ps1.trans ps2) w2) (xo.next ps1)
  | true =>
    rw [if_pos rfl]
    exact q E1 H1 p1 e1 _ rs1 gd1 (ps1.mono (fun z => (Bool.and_eq_true_iff.mp z).1)) (w1.1 rfl)
end
end OT
end
section
set_option Elab.async false
set_option linter.all false
set_option maxRecDepth 100000
set_option maxHeartbeats 2000000
namespace OT
open PySem PySem.Spec PyProof.Rows L2
section
variable {R : RP} {W : WX} {te ta tb tc : TE} {wa wb wc : En → XC → (T → En → Prop) → Prop} {qa qb qc ka kb kc k : Bool} {r : R2}
/-- a step of the heap that touches nothing -/
theorem Pst.op {E E1 : RE} {H H1 H' : Hp} {p p1 g g2 : List Addr} {env e1 : En} {q : Bool} (a : Pst q E H p env E1 H1 p1 e1 g) (b : Frm E1 E1 [] g2 H1 H') : Pst q E H p env E1 H' p1 e1 (g2 ++ g) where
  fr := a.fr.trans (by
    have z := b.beside (f := g ++ p1)
    refine z.sub (fun x w => by simpa using w) fun x w => ?_
    rcases List.mem_append.mp w with w | w
    · rcases List.mem_append.mp w with w | w
      · exact List.mem_append_right _ w
      · exact List.mem_append_left _ (List.mem_append_left _ w)
    · exact List.mem_append_left _ (List.mem_append_right _ w))
  qf := fun z => by
    obtain ⟨r1, r2, r3⟩ := a.qf z
    refine ⟨r1, r2, r3.trans ?_⟩
    have z := b.beside (f := g)
    refine z.sub (fun x w => by simpa using w) fun x w => ?_
    rcases List.mem_append.mp w with w | w
    · exact List.mem_append_right _ w
    · exact List.mem_append_left _ w
  io := a.io
/-! ### several expressions -/
theorem SimA.nil : SimA R W tNil (fun env _ Q => Q [] env) true k := by
  intro E H env σ p Xc Qw Q eK ec rs gd w q _
  exact q E H p env [] [] [] rs .nil gd (fun _ => gd) (by rw [gk_nil]; exact Pst.refl) w
theorem SimA.cons {tr : TA} {wr : En → XC → (List T → En → Prop) → Prop} (ha : SimE R W ta wa qa k) (hb : SimA R W tr wr qb k) (hk : k = true → qb = true) :
    SimA R W (tCons ta tr) (fun env X Q => wa env X fun t e1 => wr e1 X fun ts e2 => Q (t :: ts) e2) (qa && qb) k := by
  intro E H env σ p Xc Qw Q eK ec rs gd w q xo
  refine ha E H env σ p Xc _ _ eK ec rs gd w (fun E1 H1 p1 e1 t1 v1 g1 rs1 r1 gd1 gg1 ps1 w1 => ?_) xo
  refine hb E1 H1 e1 σ p1 Xc _ _ (ps1.EK eK) (ps1.Ec ec) rs1 gd1 w1 (fun E2 H2 p2 e2 ts vs g2 rs2 r2 gd2 gg2 ps2 w2 => ?_) (xo.next ps1)
  have r1' := keep_of ps2 r1 hk gg1
  refine q E2 H2 p2 e2 (t1 :: ts) (v1 :: vs) (g1 ++ g2) rs2 (.cons r1' r2) gd2 (fun z => ?_) ?_ w2
  · have z1 := gg1 z
    have z2 := gg2 z
    subst z
    have f := ps2.fr
    have y := Gd.frame z1 f z2
    rw [List.append_assoc]
    exact y
  · cases k with
    | true => exact ps1.trans ps2
    | false => exact ps1.transB ps2
/-! ### displays -/
theorem Sim.tupD {t : TA} {wr : En → XC → (List T → En → Prop) → Prop} (hb : SimA R W t wr qb false) : SimE R W (tTup t) (fun env X Q => wr env X fun ts e => ts.length ≤ LIM ∧ Q (.tup ts) e) qb k := by
  intro E H env σ p Xc Qw Q eK ec rs gd w q xo
  refine hb E H env σ p Xc _ _ eK ec rs gd w (fun E2 H2 p2 e2 ts vs g2 rs2 r2 gd2 gg2 ps2 w2 => ⟨by rw [← r2.length]; exact lim w2.1, fun a ha => ?_⟩) xo
  have gg := gg2 rfl
  have fr : Frm E2 E2 [] [] H2 (upd H2 a (.tup vs)) := Frm.laid ha fun x z => by cases z
  refine q E2 _ p2 e2 (.tup ts) (.ref a) g2 (rs2.frame (p := []) (by simpa using gd2) fr) (.tup (SqT.of upd_same) (r2.laid ha)) (gd2.laid0 ha) (fun _ => gg.laid0 ha) ?_ w2.2
  exact ((show Pst _ _ _ _ _ _ _ _ _ ([] ++ g2) from Pst.op ps2 fr)).gk
theorem Sim.lstD {t : TA} {wr : En → XC → (List T → En → Prop) → Prop} (hb : SimA R W t wr qb false) : SimE R W (tLst t) (fun env X Q => wr env X fun ts e => ts.length ≤ LIM ∧ Q (.lst .own ts) e) qb k := by
  intro E H env σ p Xc Qw Q eK ec rs gd w q xo
  refine hb E H env σ p Xc _ _ eK ec rs gd w (fun E2 H2 p2 e2 ts vs g2 rs2 r2 gd2 gg2 ps2 w2 => ⟨by rw [← r2.length]; exact lim w2.1, fun a ha => ?_⟩) xo
  have gg := gg2 rfl
  have fr : Frm E2 E2 [] [a] H2 (upd H2 a (.lst vs)) := Frm.laid ha fun x z => .inl (by simpa using z)
  have gn : Gd E2 (upd H2 a (.lst vs)) (a :: (g2 ++ p2)) := gg.laid ha trivial
  refine q E2 _ p2 e2 (.lst .own ts) (.ref a) ([a] ++ g2) (rs2.frame (p := []) (by simpa using gd2) fr) ?_ (gd2.laid0 ha) (fun _ => gn) ?_ w2.2
  · exact Rp.lst (f := .own) (show upd H2 a (.lst vs) a = some (.lst vs) from upd_same) trivial (r2.laid ha) fun z => absurd rfl z
  · exact (Pst.op ps2 fr).gk
/-! ### items, slices -/
theorem ixT_sim {K : PySem.W.Frag} {E : RE} {H : Hp} {t1 t2 : T} {v1 v2 : V} {f1 f2 : List Addr} {Wt : T → Prop} {Q : VK} (eK : E.K = K) (r1 : Rep E H t1 v1 f1) (r2 : Rep E H t2 v2 f2) (b : ixT t1 t2 Wt)
    (q : ∀ t v g, Rep E H t v g → (∀ x ∈ g, x ∈ f1) → Wt t → Q v H) : rIx K v1 v2 H Q := by
  subst eK
  cases t1 <;> cases t2 <;> first | exact False.elim b | skip
  · obtain ⟨c, hz, ha, w⟩ := b
    cases r1; cases r2
    exact .inr (.inr ⟨_, _, c, rfl, rfl, lim hz, ha, q _ _ _ .str (fun _ z => by cases z) w⟩)
  · obtain ⟨t, ha, w⟩ := b
    cases r2
    cases r1 with
    | tup h1 h2 =>
      obtain ⟨j, hj, hx⟩ := Option.bind_eq_some_iff.mp ha
      obtain ⟨v, g, e1, hr, sub⟩ := Reps.get h2 hx
      exact .inr (.inl ⟨_, _, _, v, rfl, rfl, h1, by unfold atI; rw [← Reps.length h2, hj]; exact e1, q t v g hr (fun x z => sub.subset z) w⟩)
  · obtain ⟨t, ha, w⟩ := b
    cases r2
    cases r1 with
    | lst h1 _ h2 _ =>
      obtain ⟨j, hj, hx⟩ := Option.bind_eq_some_iff.mp ha
      obtain ⟨v, g, e1, hr, sub⟩ := Reps.get h2 hx
      exact .inl ⟨_, _, _, v, rfl, rfl, ls_sql h1, by unfold atI; rw [← Reps.length h2, hj]; exact e1, q t v g hr (fun x z => List.mem_append_right _ (sub.subset z)) w⟩
theorem Sim.idx (ha : SimE R W ta wa qa ka) (hb : SimE R W tb wb qb true) (hk : ka = true → qb = true) :
    SimE R W (tOp (rIx R.K) ta tb) (fun env X Q => wa env X fun x e1 => wb e1 X fun y e2 => ixT x y fun t => (k || cpy t) = true ∧ Q t e2) (qa && qb) k := by
  intro E H env σ p Xc Qw Q eK ec rs gd w q xo
  refine ha E H env σ p Xc _ _ eK ec rs gd w (fun E1 H1 p1 e1 t1 v1 g1 rs1 r1 gd1 gg1 ps1 w1 => ?_) xo
  refine hb E1 H1 e1 σ p1 Xc _ _ (ps1.EK eK) (ps1.Ec ec) rs1 gd1 w1 (fun E2 H2 p2 e2 t2 v2 g2 rs2 r2 gd2 _ ps2 w2 => ?_) (xo.next ps1)
  have r1' := keep_of ps2 r1 hk gg1
  refine ixT_sim (ps2.EK (ps1.EK eK)) r1' r2 w2 fun t v g hr sub wt => ?_
  cases hkk : k with
  | true => exact q E2 H2 p2 e2 t v g rs2 hr gd2 (fun z => by rw [hkk] at z; cases z) (by rw [hkk]; exact (ps1.trans ps2).drop) wt.2
  | false =>
    have c : cpy t = true := by
      have z := wt.1
      rw [hkk] at z
      simpa using z
    exact q E2 H2 p2 e2 t v [] rs2 (hr.of_cpy c) gd2 (fun _ => gd2) (by rw [gk_nil]; exact (ps1.trans ps2).drop) wt.2
def SimO (R : RP) (W : WX) (to : TO) (wp : En → XC → (Option Int → En → Prop) → Prop) (q : Bool) : Prop :=
  ∀ (E : RE) (H : Hp) (env : En) (σ : L2.St) (p : List Addr) (Xc : XC) (Qw : Option Int → En → Prop) (Q : Option Int → Hp → Prop), E.K = R.K → E.ca = R.ca → Rs E H env σ p → Gd E H p → wp env Xc Qw →
    (∀ E' H' p' env' o, Rs E' H' env' σ p' → Gd E' H' p' → Pst q E H p env E' H' p' env' [] → Qw o env' → Q o H') → ExOk W E H p env σ Xc → to σ H Q
theorem SimO.no : SimO R W tNoPart (fun env _ Q => Q none env) true := by
  intro E H env σ p Xc Qw Q eK ec rs gd w q _
  exact q E H p env none rs gd Pst.refl w
theorem SimO.so (ha : SimE R W ta wa qa true) : SimO R W (tPart ta) (fun env X Q => wa env X fun x e1 => intPart x fun i => Q i e1) qa := by
  intro E H env σ p Xc Qw Q eK ec rs gd w q xo
  refine ha E H env σ p Xc _ _ eK ec rs gd w (fun E1 H1 p1 e1 t1 v1 g1 rs1 r1 gd1 _ ps1 w1 => ?_) xo
  cases t1 <;> first | exact False.elim w1 | skip
  cases r1
  exact ⟨_, rfl, q E1 H1 p1 e1 _ rs1 gd1 ps1 w1⟩
theorem cutV_eq {E : RE} {H : Hp} {ts : List T} {vs : List V} (h : Reps E H ts vs []) (lo hi : Option Int) : Reps E H (cutT ts lo hi) (cutV vs lo hi) [] := by
  have l := h.length
  refine Reps.of0 ?_ fun i t v a b => ?_
  · unfold cutT cutV
    simp only [List.length_take, List.length_drop, l]
  · unfold cutT at a
    unfold cutV at b
    rw [l] at a
    rw [List.getElem?_take] at a b
    split at a
    · rename_i hlt
      rw [if_pos hlt] at b
      rw [List.getElem?_drop] at a b
      exact h.at0 a b
    · cases a
def rSlA2 (K : PySem.W.Frag) : V → Option Int → Option Int → Hp → VK → Prop := fun x lo hi H Q => rSlL K x lo hi H Q ∨ rSlA K x lo hi H Q
theorem sl_all {X : Cx} : SlR X (rSlA2 X.K) := sl_list.or sl_tupA
theorem slT_sim {K : PySem.W.Frag} {E : RE} {H : Hp} {p : List Addr} {t : T} {v : V} {f : List Addr} {lo hi : Option Int} {Wt : T → Prop} {Q : VK} (eK : E.K = K) (gd : Gd E H p) (r : Rep E H t v f) (b : slT t lo hi Wt) (o : Out E H p Wt Q) : rSlA2 K v lo hi H Q := by
  subst eK
  cases t <;> first | exact False.elim b | skip
  · obtain ⟨c, w⟩ := b
    cases r with
    | tup h1 h2 =>
      have h3 := cutV_eq (Reps.of_cpys h2 c) lo hi
      refine .inr ⟨_, _, rfl, h1, fun z => ?_, fun _ a ha => o.tup gd h3 w ha⟩
      refine o.same gd (.tup h1 ?_) w
      have l := Reps.length h2
      unfold cutT
      rw [l, z.1, z.2, List.drop_zero, Nat.sub_zero, ← l, List.take_length]
      exact Reps.of_cpys h2 c
  · obtain ⟨c, w⟩ := b
    cases r with
    | lst h1 _ h2 _ =>
      have h3 := cutV_eq (Reps.of_cpys h2 c) lo hi
      exact .inl ⟨_, _, rfl, ls_sql h1, fun a ha => o.lst gd h3 w ha⟩
theorem Sim.slc {to to' : TO} {wl wh : En → XC → (Option Int → En → Prop) → Prop} {ql qh : Bool} (ha : SimE R W ta wa qa ka) (hl : SimO R W to wl ql) (hh : SimO R W to' wh qh) (hk : ka = true → (ql && qh) = true) :
    SimE R W (tSl (rSlA2 R.K) ta to to') (fun env X Q => wa env X fun x e1 => wl e1 X fun l e2 => wh e2 X fun h e3 => slT x l h fun t => Q t e3) (qa && ql && qh) k := by
  intro E H env σ p Xc Qw Q eK ec rs gd w q xo
  refine ha E H env σ p Xc _ _ eK ec rs gd w (fun E1 H1 p1 e1 t1 v1 g1 rs1 r1 gd1 gg1 ps1 w1 => ?_) xo
  refine hl E1 H1 e1 σ p1 Xc _ _ (ps1.EK eK) (ps1.Ec ec) rs1 gd1 w1 (fun E2 H2 p2 e2 l rs2 gd2 ps2 w2 => ?_) (xo.next ps1)
  refine hh E2 H2 e2 σ p2 Xc _ _ (ps2.EK (ps1.EK eK)) (ps2.Ec (ps1.Ec ec)) rs2 gd2 w2 (fun E3 H3 p3 e3 h rs3 gd3 ps3 w3 => ?_) ((xo.next ps1).next ps2)
  have ps23 := ps2.trans ps3
  have r1' := keep_of ps23 r1 hk gg1
  have ps := (ps1.trans ps2).trans ps3
  refine slT_sim (ps3.EK (ps2.EK (ps1.EK eK))) gd3 r1' w3 fun t v f H' hr fr gd' wt => ?_
  refine q E3 H' p3 e3 t v f (rs3.frame (p := []) (by simpa using gd3) fr) hr gd'.right (fun _ => gd') ?_ wt
  have z := Pst.op ps fr
  rw [List.append_nil] at z
  exact z.gk
/-! ### builtins -/
def biV : Bi → Value
  | .len => .builtin "len" | .int => .type "int" | .abs => .builtin "abs" | .max2 => .builtin "max" | .min2 => .builtin "min" | .tuple => .type "tuple" | .list => .type "list" | .str => .type "str" | .sum => .builtin "sum" | .sorted => .builtin "sorted" | .all => .builtin "all" | .any => .builtin "any"
def isTy : Bi → Bool
  | .int => true | .tuple => true | .list => true | .str => true | _ => false
end
end OT
end
section
set_option Elab.async false
set_option linter.all false
set_option maxRecDepth 100000
set_option maxHeartbeats 2000000
namespace OT
open PySem PySem.Spec PyProof.Rows L2
/-! ### builtins -/
def rLen (K : PySem.W.Frag) : List V → Hp → VK → Prop := fun xs H Q => ∃ x n, xs = [x] ∧ LenV K x H n ∧ Q (.int n) H
def biR (K : PySem.W.Frag) : Bi → List V → Hp → VK → Prop
  | .len => rLen K
  | .int => fun xs H Q => ((∃ i, xs = [.int i] ∧ Q (.int i) H) ∨ ∃ k, xs = [.bl k] ∧ Q (.int (if k then 1 else 0)) H) ∨ ∃ a n, xs = [.str a] ∧ PySem.intText? a = some n ∧ a.length ≤ 640 ∧ Q (.int n) H
  | .abs => fun xs H Q => ∃ i, xs = [.int i] ∧ Q (.int (if i < 0 then -i else i)) H
  | .max2 => fun xs H Q => ∃ i j, xs = [.int i, .int j] ∧ Q (.int (if j > i then j else i)) H
  | .min2 => fun xs H Q => ∃ i j, xs = [.int i, .int j] ∧ Q (.int (if j < i then j else i)) H
  | .tuple => fun xs H Q => ∃ p ys, xs = [.ref p] ∧ ((SqL K H p ys ∧ ∀ l, H l = none → Q (.ref l) (upd H l (.tup ys))) ∨ (SqT K H p ys ∧ Q (.ref p) H))
  | .list => fun xs H Q => ∃ p ys, xs = [.ref p] ∧ (SqL K H p ys ∨ SqT K H p ys) ∧ ∀ l, H l = none → Q (.ref l) (upd H l (.lst ys))
  | .str => fun xs H Q => ∃ i, xs = [.int i] ∧ i.natAbs.log2 < 1920 ∧ Q (.str (toString i)) H
  | .sum => rSum K
  | .all => rAll K
  | .any => rAny K
  | .sorted => fun _ _ _ => False
theorem bi_all {X : Cx} (hc : X.calm = true) : ∀ f : Bi, CallR X (biV f) (biR X.K f)
  | .len => call_len
  | .int => call_int1.or call_int_str
  | .abs => call_abs
  | .max2 => call_max2 hc
  | .min2 => call_min2 hc
  | .tuple => call_tuple_of
  | .list => call_list_of
  | .str => call_str_int
  | .sum => cr_sum hc
  | .all => cr_all hc
  | .any => cr_any hc
  | .sorted => fun _ _ _ _ _ _ _ _ _ h => h.elim
section
variable {E : RE} {H : Hp}
theorem intsT_V : ∀ {ts : List T} {vs : List V} {g : List Addr} {ns : List Int}, Reps E H ts vs g → intsT ts = some ns → vs = ns.map V.int
  | [], _, _, _, h, e => by cases h; cases e; rfl
  | t :: r, _, _, _, h, e => by
    cases t with
    | int i =>
      obtain ⟨ms, e1, e2⟩ := Option.map_eq_some_iff.mp (show (intsT r).map (i :: ·) = some _ from e)
      subst e2
      cases h with
      | cons h1 h2 =>
        cases h1
        rw [intsT_V h2 e1]
        rfl
    | _ => cases e
theorem strsT_V : ∀ {ts : List T} {vs : List V} {g : List Addr} {ns : List Str}, Reps E H ts vs g → strsT ts = some ns → vs = ns.map V.str
  | [], _, _, _, h, e => by cases h; cases e; rfl
  | t :: r, _, _, _, h, e => by
    cases t with
    | str i =>
      obtain ⟨ms, e1, e2⟩ := Option.map_eq_some_iff.mp (show (strsT r).map (i :: ·) = some _ from e)
      subst e2
      cases h with
      | cons h1 h2 =>
        cases h1
        rw [strsT_V h2 e1]
        rfl
    | _ => cases e
theorem blsT_V : ∀ {ts : List T} {vs : List V} {g : List Addr} {ns : List Bool}, Reps E H ts vs g → blsT ts = some ns → vs = ns.map V.bl
  | [], _, _, _, h, e => by cases h; cases e; rfl
  | t :: r, _, _, _, h, e => by
    cases t with
    | bl i =>
      obtain ⟨ms, e1, e2⟩ := Option.map_eq_some_iff.mp (show (blsT r).map (i :: ·) = some _ from e)
      subst e2
      cases h with
      | cons h1 h2 =>
        cases h1
        rw [blsT_V h2 e1]
        rfl
    | _ => cases e
theorem strs_rep : ∀ ys : List Str, Reps E H (ys.map T.str) (ys.map V.str) []
  | [] => .nil
  | y :: ys => Rp.cons (f := []) (g := []) .str (strs_rep ys)
end
theorem reps1 {E : RE} {H : Hp} {t : T} {vs : List V} {g : List Addr} (h : Reps E H [t] vs g) : ∃ v, vs = [v] ∧ Rep E H t v g := by
  cases h with
  | cons h1 h2 => cases h2; exact ⟨_, rfl, by simpa using h1⟩
theorem reps2 {E : RE} {H : Hp} {t u : T} {vs : List V} {g : List Addr} (h : Reps E H [t, u] vs g) : ∃ v w f f', vs = [v, w] ∧ Rep E H t v f ∧ Rep E H u w f' := by
  cases h with
  | cons h1 h2 =>
    obtain ⟨w, e, r⟩ := reps1 h2
    subst e
    exact ⟨_, _, _, _, rfl, h1, r⟩
theorem sim_bi {K : PySem.W.Frag} {E : RE} {H : Hp} {p : List Addr} {ts : List T} {vs : List V} {g : List Addr} {Wt : T → Prop} {Q : VK} (eK : E.K = K) (gd : Gd E H p) (r : Reps E H ts vs g) :
    ∀ f : Bi, biT f ts Wt → Out E H p Wt Q → biR K f vs H Q
  | .len => fun b o => by
    subst eK
    match ts, b with
    | [.lst _ us], b =>
      obtain ⟨v, rfl, r1⟩ := reps1 r
      cases r1 with
      | lst h1 _ h2 _ => exact ⟨_, us.length, rfl, .inl ⟨_, ls_sql h1, Reps.length h2⟩, o.same gd .int b⟩
    | [.tup us], b =>
      obtain ⟨v, rfl, r1⟩ := reps1 r
      cases r1 with
      | tup h1 h2 => exact ⟨_, us.length, rfl, .inr ⟨_, h1, Reps.length h2⟩, o.same gd .int b⟩
    | [.str x], b =>
      obtain ⟨v, rfl, r1⟩ := reps1 r
      cases r1
      exact ⟨_, _, rfl, ⟨lim b.1, rfl⟩, o.same gd .int b.2⟩
  | .int => fun b o => by
    match ts, b with
    | [.int i], b =>
      obtain ⟨v, rfl, r1⟩ := reps1 r
      cases r1
      exact .inl (.inl ⟨_, rfl, o.same gd .int b⟩)
    | [.bl i], b =>
      obtain ⟨v, rfl, r1⟩ := reps1 r
      cases r1
      exact .inl (.inr ⟨_, rfl, o.same gd .int b⟩)
    | [.str x], b =>
      obtain ⟨v, rfl, r1⟩ := reps1 r
      cases r1
      obtain ⟨n, h1, h2, h3⟩ := b
      exact .inr ⟨_, n, rfl, h1, h2, o.same gd .int h3⟩
  | .abs => fun b o => by
    match ts, b with
    | [.int i], b =>
      obtain ⟨v, rfl, r1⟩ := reps1 r
      cases r1
      exact ⟨_, rfl, o.same gd .int b⟩
  | .max2 => fun b o => by
    match ts, b with
    | [.int i, .int j], b =>
      obtain ⟨v, w, f, f', rfl, r1, r2⟩ := reps2 r
      cases r1; cases r2
      exact ⟨_, _, rfl, o.same gd .int b⟩
  | .min2 => fun b o => by
    match ts, b with
    | [.int i, .int j], b =>
      obtain ⟨v, w, f, f', rfl, r1, r2⟩ := reps2 r
      cases r1; cases r2
      exact ⟨_, _, rfl, o.same gd .int b⟩
  | .tuple => fun b o => by
    subst eK
    match ts, b with
    | [.lst _ us], b =>
      obtain ⟨v, rfl, r1⟩ := reps1 r
      cases r1 with
      | lst h1 _ h2 _ => exact ⟨_, _, rfl, .inl ⟨ls_sql h1, fun a ha => o.tup gd (Reps.of_cpys h2 b.1) b.2 ha⟩⟩
    | [.tup us], b =>
      obtain ⟨v, rfl, r1⟩ := reps1 r
      cases r1 with
      | tup h1 h2 => exact ⟨_, _, rfl, .inr ⟨h1, o.same gd (.tup h1 (Reps.of_cpys h2 b.1)) b.2⟩⟩
  | .list => fun b o => by
    subst eK
    match ts, b with
    | [.lst _ us], b =>
      obtain ⟨v, rfl, r1⟩ := reps1 r
      cases r1 with
      | lst h1 _ h2 _ => exact ⟨_, _, rfl, .inl (ls_sql h1), fun a ha => o.lst gd (Reps.of_cpys h2 b.1) b.2 ha⟩
    | [.tup us], b =>
      obtain ⟨v, rfl, r1⟩ := reps1 r
      cases r1 with
      | tup h1 h2 => exact ⟨_, _, rfl, .inr h1, fun a ha => o.lst gd (Reps.of_cpys h2 b.1) b.2 ha⟩
  | .str => fun b o => by
    match ts, b with
    | [.int i], b =>
      obtain ⟨v, rfl, r1⟩ := reps1 r
      cases r1
      exact ⟨_, rfl, b.1, o.same gd .str b.2⟩
  | .sum => fun b o => by
    subst eK
    match ts, b with
    | [.lst _ us], b =>
      obtain ⟨v, rfl, r1⟩ := reps1 r
      obtain ⟨ns, h1, h2⟩ := b
      cases r1 with
      | lst h3 _ h4 _ =>
        have e := intsT_V h4 h1
        subst e
        exact ⟨_, ns, rfl, ls_sql h3, o.same gd .int h2⟩
  | .all => fun b o => by
    subst eK
    match ts, b with
    | [.lst _ us], b =>
      obtain ⟨v, rfl, r1⟩ := reps1 r
      obtain ⟨ns, h1, h2⟩ := b
      cases r1 with
      | lst h3 _ h4 _ =>
        have e := blsT_V h4 h1
        subst e
        exact ⟨_, ns, rfl, ls_sql h3, o.same gd .bl h2⟩
  | .any => fun b o => by
    subst eK
    match ts, b with
    | [.lst _ us], b =>
      obtain ⟨v, rfl, r1⟩ := reps1 r
      obtain ⟨ns, h1, h2⟩ := b
      cases r1 with
      | lst h3 _ h4 _ =>
        have e := blsT_V h4 h1
        subst e
        exact ⟨_, ns, rfl, ls_sql h3, o.same gd .bl h2⟩
  | .sorted => fun b o => b.elim
section
variable {R : RP} {W : WX} {te ta tb tc : TE} {wa wb wc : En → XC → (T → En → Prop) → Prop} {qa qb qc ka kb kc k : Bool} {r : R2}
theorem Sim.bi {t : TA} {wr : En → XC → (List T → En → Prop) → Prop} {f : Bi} (hb : SimA R W t wr qb kb) : SimE R W (tCB (biR R.K f) t) (fun env X Q => wr env X fun ts e => biT f ts fun t => Q t e) qb k := by
  intro E H env σ p Xc Qw Q eK ec rs gd w q xo
  refine hb E H env σ p Xc _ _ eK ec rs gd w (fun E2 H2 p2 e2 ts vs g2 rs2 r2 gd2 gg2 ps2 w2 => ?_) xo
  refine sim_bi (ps2.EK eK) gd2 r2 f w2 fun t v f H' hr fr gd' wt => ?_
  refine q E2 H' p2 e2 t v f (rs2.frame (p := []) (by simpa using gd2) fr) hr gd'.right (fun _ => gd') ?_ wt
  have z := Pst.op ps2.drop fr
  rw [List.append_nil] at z
  exact z.gk
/-! ### methods of texts -/
def bmR (K : PySem.W.Frag) : Bm → V → List V → Hp → VK → Prop
  | .join => fun x xs H Q => ∃ a p, ∃ ys : List Str, x = .str a ∧ xs = [.ref p] ∧ (SqL K H p (ys.map V.str) ∨ SqT K H p (ys.map V.str)) ∧ (ys.map (·.length)).sum + ys.length * a.length ≤ 16777216 ∧ Q (.str (Txt.join a ys)) H
  | .split => fun x xs H Q => ∃ a b, x = .str a ∧ xs = [.str b] ∧ (b.length == 0) = false ∧ a.length + 2 ≤ sizeLine ∧ rNewStrs (Txt.split a b) H Q
theorem sim_bm {K : PySem.W.Frag} {E : RE} {H : Hp} {p : List Addr} {x : T} {v : V} {f : List Addr} {ts : List T} {vs : List V} {g : List Addr} {Wt : T → Prop} {Q : VK} (eK : E.K = K) (gd : Gd E H p) (rx : Rep E H x v f) (r : Reps E H ts vs g) :
    ∀ m : Bm, bmT m x ts Wt → Out E H p Wt Q → bmR K m v vs H Q
  | .join => fun b o => by
    subst eK
    match x, ts, b with
    | .str a, [.lst _ us], b =>
      obtain ⟨w, rfl, r1⟩ := reps1 r
      cases rx
      obtain ⟨ys, h1, h2, h3⟩ := b
      cases r1 with
      | lst h4 _ h5 _ =>
        have e := strsT_V h5 h1
        subst e
        refine ⟨a, _, ys, rfl, rfl, .inl (ls_sql h4), ?_, o.same gd .str h3⟩
        rw [Nat.mul_comm]
        exact Nat.le_trans h2 (by decide)
  | .split => fun b o => by
    match x, ts, b with
    | .str a, [.str c], b =>
      obtain ⟨w, rfl, r1⟩ := reps1 r
      cases rx
      cases r1
      exact ⟨a, c, rfl, rfl, b.1, lim b.2.1, fun l hl => o.lst gd (strs_rep _) b.2.2 hl⟩
theorem Sim.bm {t : TA} {wr : En → XC → (List T → En → Prop) → Prop} {m : Bm} (ha : SimE R W ta wa qa ka) (hb : SimA R W t wr qb kb) (hk : ka = true → qb = true) :
    SimE R W (tBM R.K "str" (bmR R.K m) ta t) (fun env X Q => wa env X fun x e1 => isStr x = true ∧ wr e1 X fun ts e2 => bmT m x ts fun t => Q t e2) (qa && qb) k := by
  intro E H env σ p Xc Qw Q eK ec rs gd w q xo
  refine ha E H env σ p Xc _ _ eK ec rs gd w (fun E1 H1 p1 e1 t1 v1 g1 rs1 r1 gd1 gg1 ps1 w1 => ⟨?_, ?_⟩) xo
  · cases t1 <;> first | (cases r1; rfl) | exact absurd w1.1 (by simp [isStr])
  refine hb E1 H1 e1 σ p1 Xc _ _ (ps1.EK eK) (ps1.Ec ec) rs1 gd1 w1.2 (fun E2 H2 p2 e2 ts vs g2 rs2 r2 gd2 gg2 ps2 w2 => ?_) (xo.next ps1)
  have r1' := keep_of ps2 r1 hk gg1
  refine sim_bm (ps2.EK (ps1.EK eK)) gd2 r1' r2 m w2 fun t v f H' hr fr gd' wt => ?_
  refine q E2 H' p2 e2 t v f (rs2.frame (p := []) (by simpa using gd2) fr) hr gd'.right (fun _ => gd') ?_ wt
  have z := Pst.op ((ps1.trans ps2).drop) fr
  rw [List.append_nil] at z
  exact z.gk
end
end OT
end
section
set_option Elab.async false
set_option linter.all false
set_option maxRecDepth 100000
set_option maxHeartbeats 2000000
namespace OT
open PySem PySem.Spec PyProof.Rows L2
section
variable {R : RP} {W : WX} {te ta tb tc : TE} {wa wb wc : En → XC → (T → En → Prop) → Prop} {qa qb qc ka kb kc k : Bool} {r : R2}
/-- the classes' fields that are known -/
def AtOk (R : RP) (at_ : List (Str × Str)) : Prop := ∀ c f, at_.contains (c, f) = true → Cls R.K (R.ca.f c) ∧ NoAttr R.K (R.ca.f c) f
theorem att_sim {K : PySem.W.Frag} {E : RE} {H : Hp} {t : T} {v : V} {g : List Addr} {f c : Str} {fl : Fl} {ns : List Str} {ts : List T} {x : T} (r : Rep E H (.ins fl c ns ts) v g) (l : lookT f ns ts = some x) :
    ∃ a dx vs w g', v = .ref a ∧ H a = some (.ins (E.ca.f c) dx (ns.zip vs)) ∧ (ns.zip vs).lookup f = some w ∧ Rep E H x w g' ∧ ∀ y ∈ g', y ∈ g := by
  cases r with
  | ins h1 h2 _ _ h5 _ =>
    obtain ⟨n, e1, _, e3⟩ := lookT_at l
    obtain ⟨w, g', e4, hr, sub⟩ := Reps.get h5 e1
    exact ⟨_, _, _, w, g', rfl, h1, by rw [e3 _ (Reps.length h5).symm]; exact e4, hr, fun y z => List.mem_append_right _ (sub.subset z)⟩
theorem Sim.att {at_ : List (Str × Str)} {f : Str} (hat : AtOk R at_) (ha : SimE R W ta wa qa true) : SimE R W (tFld R.K ta f) (fun env X Q => wa env X fun x e => match x with
    | .ins _ c ns ts => at_.contains (c, f) = true ∧ ∃ t, lookT f ns ts = some t ∧ (k || cpy t) = true ∧ Q t e
    | _ => False) qa k := by
  intro E H env σ p Xc Qw Q eK ec rs gd w q xo
  refine ha E H env σ p Xc _ _ eK ec rs gd w (fun E1 H1 p1 e1 t1 v1 g1 rs1 r1 gd1 _ ps1 w1 => ?_) xo
  cases t1 <;> first | exact False.elim w1 | skip
  rename_i fl c ns ts
  obtain ⟨ha, t, l, hk, w1⟩ := w1
  obtain ⟨a, dx, vs, w', g', ev, hH, lk, hr, sub⟩ := att_sim (K := R.K) (t := .non) r1 l
  have hc := hat c f ha
  have eca := ps1.Ec ec
  refine ⟨a, _, dx, _, w', ev, hH, by rw [eca]; exact hc.1, by rw [eca]; exact hc.2, lk, ?_⟩
  cases hkk : k with
  | true => exact q E1 H1 p1 e1 t w' g' rs1 hr gd1 (fun z => by rw [hkk] at z; cases z) (by rw [hkk]; exact ps1) w1
  | false =>
    have c : cpy t = true := by
      rw [hkk] at hk
      simpa using hk
    exact q E1 H1 p1 e1 t w' [] rs1 (hr.of_cpy c) gd1 (fun _ => gd1) (by rw [gk_nil]; exact ps1) w1
/-- a name's tree is taken -/
theorem Sim.mv {i : Nat} : SimE R W (tVar i) (fun env _ Q => match env[i]? with
    | some (.has false t) => Q t (env.set i .und)
    | _ => False) false k := by
  intro E H env σ p Xc Qw Q eK ec rs gd w q _
  cases e : env[i]? with
  | none => simp only [e] at w
  | some s =>
    cases s with
    | und => simp only [e] at w
    | exn _ _ => simp only [e] at w
    | has b t =>
      cases b with
      | true => simp only [e] at w
      | false =>
        simp only [e] at w
        obtain ⟨v, f, r, e1, hr, pm, rs'⟩ := rs.take e
        have gd' := gd.perm pm
        refine ⟨v, e1, q E H r (env.set i .und) t v f rs' hr gd'.right (fun _ => gd') ?_ w⟩
        have ps : Pst false E H p env E H r (env.set i .und) f := ⟨Frm.refl.sub (fun _ z => z) fun x z => pm.mem_iff.mpr z, (fun z => by cases z), Iok.set (.inl e)⟩
        exact ps.gk
/-- .. is frozen -/
theorem Sim.fz {i : Nat} : SimE R W (tVar i) (fun env _ Q => match env[i]? with
    | some (.has b t) => Q (turn .frz t) (env.set i (.has b (turn .frz t)))
    | _ => False) false k := by
  intro E H env σ p Xc Qw Q eK ec rs gd w q _
  cases e : env[i]? with
  | none => simp only [e] at w
  | some s =>
    cases s with
    | und => simp only [e] at w
    | exn _ _ => simp only [e] at w
    | has b t =>
      simp only [e] at w
      obtain ⟨v, f, r, e1, hr, pm, rs'⟩ := rs.take e
      have gd' := gd.perm pm
      have hl : i < env.length := (List.getElem?_eq_some_iff.mp e).1
      let E2 : RE := { E with gf := fun a => E.gf a ∨ a ∈ f }
      have hr2 : Rep E2 H (turn .frz t) v [] := Rp.turn (fl := .frz) (E' := E2) hr (.inl rfl) rfl rfl (fun _ z => .inl z) (fun _ z => z) fun a z => Or.inr z
      have rs2 : Rs E2 H (env.set i .und) σ r := rs'.keep rfl rfl (fun _ z => .inl z) (fun _ z => z) fun _ _ h _ => h
      obtain ⟨p2, pm2, rs3⟩ := rs2.put (b := b) hr2 (i := i) (by rw [List.getElem?_set_self hl])
      rw [set_self e1, List.set_set] at rs3
      have pm3 : p2.Perm r := by simpa using pm2
      have gd2 : Gd E2 H p2 := by
        refine Gd.perm (p := r) ⟨gd'.right.nd, fun a z => ⟨fun w => ?_, (gd'.right.av a z).2⟩, fun a z => ?_, gd'.right.mt⟩ pm3.symm
        · rcases w with w | w
          · exact (gd'.right.av a z).1 w
          · exact gd'.dj w z
        · rcases z with (z | z) | z
          · exact gd.dm a (.inl z)
          · obtain ⟨o, e, _⟩ := gd'.mt a (List.mem_append_left _ z)
            rw [e]; simp
          · exact gd.dm a (.inr z)
      refine ⟨v, e1, q E2 H p2 _ (turn .frz t) v [] rs3 hr2 gd2 (fun _ => gd2) ?_ w⟩
      rw [gk_nil]
      exact ⟨⟨rfl, rfl, rfl, fun _ _ h _ => h, fun a z => .inl (pm.mem_iff.mpr (List.mem_append_right _ (pm3.mem_iff.mp (by simpa using z)))), fun _ z => .inl z, fun a z => z.imp id fun z => .inl (pm.mem_iff.mpr (List.mem_append_left _ z)), fun _ z => z⟩, (fun z => by cases z), Iok.same e⟩
/-- an expression whose value is frozen -/
theorem Sim.fre {te : TE} {wp : En → XC → (T → En → Prop) → Prop} {q0 : Bool} (ha : SimE R W te wp q0 false) : SimE R W te (fun env X Q => wp env X fun x e => Q (turn .frz x) e) false k := by
  intro E H env σ p Xc Qw Q eK ec rs gd w q xo
  refine ha E H env σ p Xc _ _ eK ec rs gd w (fun E1 H1 p1 e1 t v g rs1 hr gd1 gd2 ps w1 => ?_) xo
  have gdg := gd2 rfl
  let E2 : RE := { E1 with gf := fun a => E1.gf a ∨ a ∈ g }
  have hr2 : Rep E2 H1 (turn .frz t) v [] := Rp.turn (fl := .frz) (E' := E2) hr (.inl rfl) rfl rfl (fun _ z => .inl z) (fun _ z => z) fun a z => Or.inr z
  have rs2 : Rs E2 H1 e1 σ p1 := rs1.keep rfl rfl (fun _ z => .inl z) (fun _ z => z) fun _ _ h _ => h
  have gd3 : Gd E2 H1 p1 := by
    refine ⟨gd1.nd, fun a z => ⟨fun w => ?_, (gd1.av a z).2⟩, fun a z => ?_, gd1.mt⟩
    · rcases w with w | w
      · exact (gd1.av a z).1 w
      · exact gdg.dj w z
    · rcases z with (z | z) | z
      · exact gd1.dm a (.inl z)
      · obtain ⟨o, e, _⟩ := gdg.mt a (List.mem_append_left _ z)
        rw [e]; simp
      · exact gd1.dm a (.inr z)
  refine q E2 H1 p1 e1 (turn .frz t) v [] rs2 hr2 gd3 (fun _ => gd3) ?_ w1
  rw [gk_nil]
  have f := ps.fr
  refine ⟨⟨f.K, f.ca, f.gv, f.keep, fun a z => f.new a (List.mem_append_right _ (by simpa using z)), fun a z => .inl (f.gf a z), fun a z => ?_, f.dom⟩, (fun z => by cases z), ps.io⟩
  rcases z with z | z
  · exact f.gfn a z
  · rcases f.new a (List.mem_append_left _ z) with z | z
    · exact .inr (.inl z)
    · exact .inr (.inr z)
theorem Gd.frz {E : RE} {H : Hp} {f q : List Addr} (g : Gd E H (f ++ q)) : Gd { E with gf := fun a => E.gf a ∨ a ∈ f } H q := by
  refine ⟨g.right.nd, fun a z => ⟨fun w => ?_, (g.right.av a z).2⟩, fun a z => ?_, g.right.mt⟩
  · rcases w with w | w
    · exact (g.right.av a z).1 w
    · exact g.dj w z
  · rcases z with (z | z) | z
    · exact g.dm a (.inl z)
    · obtain ⟨o, e, _⟩ := g.mt a (List.mem_append_left _ z)
      rw [e]; simp
    · exact g.dm a (.inr z)
/-- a list's items are frozen -/
theorem Sim.frx {te : TE} {wp : En → XC → (T → En → Prop) → Prop} {q0 : Bool} (ha : SimE R W te wp q0 false) : SimE R W te (fun env X Q => wp env X fun x e => match x with
    | .lst .own ts => Q (.lst .own (turns .frz ts)) e
    | _ => False) false k := by
  intro E H env σ p Xc Qw Q eK ec rs gd w q xo
  refine ha E H env σ p Xc _ _ eK ec rs gd w (fun E1 H1 p1 e1 t v g rs1 hr gd1 gd2 ps w1 => ?_) xo
  cases t <;> first | exact False.elim w1 | skip
  rename_i fl ts
  cases fl <;> first | exact False.elim w1 | skip
  cases hr with
  | @lst _ a _ vs f hl hreg hrs _ =>
    have gdg : Gd E1 H1 (f ++ (a :: p1)) := (gd2 rfl).perm (show ([a] ++ f ++ p1).Perm (f ++ (a :: p1)) by
      exact (List.perm_middle (a := a) (l₁ := f) (l₂ := p1)).symm)
    have gd3 := gdg.frz
    let E2 : RE := { E1 with gf := fun b => E1.gf b ∨ b ∈ f }
    have hr2 : Reps E2 H1 (turns .frz ts) vs [] := Rp.turn (fl := .frz) (E' := E2) hrs (.inl rfl) rfl rfl (fun _ z => .inl z) (fun _ z => z) fun a z => Or.inr z
    have hr3 : Rep E2 H1 (.lst .own (turns .frz ts)) (.ref a) [a] := Rp.lst (f := .own) (g := []) hl trivial hr2 fun _ => rfl
    have rs2 : Rs E2 H1 e1 σ p1 := rs1.keep rfl rfl (fun _ z => .inl z) (fun _ z => z) fun _ _ h _ => h
    have fm := ps.fr
    refine q E2 H1 p1 e1 _ _ [a] rs2 hr3 (Gd.sub gd3 (List.sublist_cons_self a p1)) (fun _ => gd3) ?_ w1
    refine ⟨⟨fm.K, fm.ca, fm.gv, fm.keep, fun b z => ?_, fun b z => .inl (fm.gf b z), fun b z => ?_, fm.dom⟩, (fun z => by cases z), ps.io⟩
    · refine fm.new b ?_
      rcases List.mem_append.mp z with z | z
      · refine List.mem_append_left _ (List.mem_append_left _ ?_)
        cases k with
        | true => cases z
        | false => exact z
      · exact List.mem_append_right _ z
    · rcases z with z | z
      · exact fm.gfn b z
      · rcases fm.new b (List.mem_append_left _ (List.mem_append_right _ z)) with z | z
        · exact .inr (.inl z)
        · exact .inr (.inr z)
/-! ### places -/
structure AtP (E : RE) (H : Hp) (env : En) (σ : L2.St) (p : List Addr) (i : Nat) (st : List Step) (t : T) (v : V) (b : Bool) (rt : T) (v0 : V) (f0 rest f fr : List Addr) : Prop where
  e : env[i]? = some (.has b rt)
  g : getS rt st = some t
  s : σ[i]? = some (some v0)
  r0 : Rep E H rt v0 f0
  pm : p.Perm (f0 ++ rest)
  rs : Rs E H (env.set i .und) σ rest
  fc : Foc E H rt st v0 f0 t v f fr
def SimP (R : RP) (W : WX) (te : TE) (wp : En → XC → (Nat → List Step → T → Prop) → Prop) : Prop :=
  ∀ (E : RE) (H : Hp) (env : En) (σ : L2.St) (p : List Addr) (Xc : XC) (Qw : Nat → List Step → T → Prop) (Q : VK), E.K = R.K → E.ca = R.ca → Rs E H env σ p → Gd E H p → wp env Xc Qw →
    (∀ E' H' i st t v b rt v0 f0 rest f fr, Rs E' H' env σ p → Gd E' H' p → Pst true E H p env E' H' p env [] → AtP E' H' env σ p i st t v b rt v0 f0 rest f fr → Qw i st t → Q v H') →
    ExOk W E H p env σ Xc → te σ H Q
/-- a place stands through what touches nothing -/
theorem AtP.stay {E E1 : RE} {H H1 : Hp} {env : En} {σ : L2.St} {p : List Addr} {i : Nat} {st : List Step} {t rt : T} {v v0 : V} {b : Bool} {f0 rest f fr g : List Addr} (a : AtP E H env σ p i st t v b rt v0 f0 rest f fr) (s : Frm E E1 [] g H H1) :
    AtP E1 H1 env σ p i st t v b rt v0 f0 rest f fr := by
  have kk : ∀ {l}, Kp E E1 H H1 l := fun {l} => ⟨s.K, s.ca, s.gf, fun c z => by rw [s.gv]; exact z, fun c o e _ => s.keep c o e (by simp)⟩
  refine ⟨a.e, a.g, a.s, a.r0.kp kk fun _ z => z, a.pm, a.rs.keep s.K s.ca s.gf (fun c z => by rw [s.gv]; exact z) fun c o e _ => s.keep c o e (by simp), a.fc.1, a.fc.2.1.kp kk fun _ z => z, fun E' H' t' f' k hf r => ?_⟩
  refine a.fc.2.2 E' H' t' f' ⟨k.K.trans s.K, k.ca.trans s.ca, fun c z => k.gf c (s.gf c z), fun c z => k.gv c (by rw [s.gv]; exact z), fun c o e z => ?_⟩ hf r
  exact k.keep c o (s.keep c o e (by simp)) (z.imp id (Or.imp (s.gf c) (Or.imp (fun z => by rw [s.gv]; exact z) id)))
theorem SimP.sl {i : Nat} : SimP R W (tVar i) (fun env _ Q => match env[i]? with
    | some (.has _ t) => Q i [] t
    | _ => False) := by
  intro E H env σ p Xc Qw Q eK ec rs gd w q _
  cases e : env[i]? with
  | none => simp only [e] at w
  | some s =>
    cases s with
    | und => simp only [e] at w
    | exn _ _ => simp only [e] at w
    | has b t =>
      simp only [e] at w
      obtain ⟨v, f, r, e1, hr, pm, rs'⟩ := rs.take e
      exact ⟨v, e1, q E H i [] t v b t v f r f [] rs gd Pst.refl ⟨e, by simp [getS], e1, hr, pm, rs', Foc.here hr⟩ w⟩
theorem SimP.fld {at_ : List (Str × Str)} {f : Str} {wp : En → XC → (Nat → List Step → T → Prop) → Prop} (hat : AtOk R at_) (ha : SimP R W ta wp) : SimP R W (tFld R.K ta f) (fun env X Q => wp env X fun i st x => match x with
    | .ins _ c ns ts => at_.contains (c, f) = true ∧ ∃ t, lookT f ns ts = some t ∧ Q i (st ++ [.fld f]) t
    | _ => False) := by
  intro E H env σ p Xc Qw Q eK ec rs gd w q xo
  refine ha E H env σ p Xc _ _ eK ec rs gd w (fun E1 H1 i st x v b rt v0 f0 rest g fr rs1 gd1 ps1 a1 w1 => ?_) xo
  cases x <;> first | exact False.elim w1 | skip
  rename_i fl c ns ts
  obtain ⟨hc, t, l, w1⟩ := w1
  have hcc := hat c f hc
  have eca := ps1.Ec ec
  have r1 := a1.fc.2.1
  cases r1 with
  | @ins _ a _ dx _ _ vs g' h1 h2 h3 h4 h5 h6 =>
    obtain ⟨w', gy, lk, hy, sub, up⟩ := Foc.ins h1 h2 h3 h4 h5 h6 l
    obtain ⟨fr', F2⟩ := up (Foc.here hy)
    have F := Foc.trans a1.g a1.fc F2
    refine ⟨a, _, dx, _, w', rfl, h1, by rw [eca]; exact hcc.1, by rw [eca]; exact hcc.2, lk, ?_⟩
    refine q E1 H1 i (st ++ [.fld f]) t w' b rt v0 f0 rest gy _ rs1 gd1 ps1 ⟨a1.e, ?_, a1.s, a1.r0, a1.pm, a1.rs, F⟩ w1
    rw [getS_app a1.g]
    simp [getS, l]
theorem atI_of {α : Type} {xs : List α} {z : Int} {n : Nat} {x : α} (h : ixN xs.length z = some n) (e : xs[n]? = some x) : atI xs z = some x := by
  unfold atI
  rw [h]
  exact e
theorem SimP.ix {wp : En → XC → (Nat → List Step → T → Prop) → Prop} (ha : SimP R W ta wp) (hb : SimE R W tb wb true true) : SimP R W (tOp (rIx R.K) ta tb) (fun env X Q => wp env X fun i st x => wb env X fun j _ => match x, j with
    | .lst _ ts, .int z => ∃ n t, ixN ts.length z = some n ∧ ts[n]? = some t ∧ Q i (st ++ [.ix n]) t
    | .tup ts, .int z => ∃ n t, ixN ts.length z = some n ∧ ts[n]? = some t ∧ Q i (st ++ [.ix n]) t
    | _, _ => False) := by
  intro E H env σ p Xc Qw Q eK ec rs gd w q xo
  refine ha E H env σ p Xc _ _ eK ec rs gd w (fun E1 H1 i st x v b rt v0 f0 rest g fr rs1 gd1 ps1 a1 w1 => ?_) xo
  refine hb E1 H1 env σ p Xc _ _ (ps1.EK eK) (ps1.Ec ec) rs1 gd1 w1 (fun E2 H2 p2 e2 j u g2 rs2 r2 gd2 _ ps2 w2 => ?_) (xo.next ps1)
  obtain ⟨ee, ep, s2⟩ := ps2.qf rfl
  subst ee ep
  have a2 := a1.stay s2
  have eK2 := ps2.EK (ps1.EK eK)
  have r1 := a2.fc.2.1
  have ps := (ps1.trans ps2)
  cases x <;> cases j <;> first | exact False.elim w2 | skip
  · obtain ⟨n, t, h1, h2, w2⟩ := w2
    cases r2
    cases r1 with
    | tup h3 h4 =>
      obtain ⟨w', gy, lk, hy, sub, up⟩ := Foc.tup h3 h4 h2
      obtain ⟨fr', F2⟩ := up (Foc.here hy)
      have F := Foc.trans a2.g a2.fc F2
      refine .inr (.inl ⟨_, _, _, w', rfl, rfl, by rw [← eK2]; exact h3, atI_of (by rw [← Reps.length h4]; exact h1) lk, ?_⟩)
      refine q E2 H2 i (st ++ [.ix n]) t w' b rt v0 f0 rest gy _ rs2 gd2 ps.drop ⟨a2.e, ?_, a2.s, a2.r0, a2.pm, a2.rs, F⟩ w2
      rw [getS_app a2.g]
      simp [getS, h2]
  · obtain ⟨n, t, h1, h2, w2⟩ := w2
    cases r2
    cases r1 with
    | lst h3 h3' h4 h5 =>
      obtain ⟨w', gy, lk, hy, sub, up⟩ := Foc.lst h3 h3' h4 h5 h2
      obtain ⟨fr', F2⟩ := up (Foc.here hy)
      have F := Foc.trans a2.g a2.fc F2
      refine .inl ⟨_, _, _, w', rfl, rfl, by rw [← eK2]; exact ls_sql h3, atI_of (by rw [← Reps.length h4]; exact h1) lk, ?_⟩
      refine q E2 H2 i (st ++ [.ix n]) t w' b rt v0 f0 rest gy _ rs2 gd2 ps.drop ⟨a2.e, ?_, a2.s, a2.r0, a2.pm, a2.rs, F⟩ w2
      rw [getS_app a2.g]
      simp [getS, h2]
end
end OT
end
section
set_option Elab.async false
set_option linter.all false
set_option maxRecDepth 100000
set_option maxHeartbeats 2000000
namespace OT
open PySem PySem.Spec PyProof.Rows L2
/-! ### changes in place -/
def mmR : Mm → V → List V → Hp → VK → Prop
  | .append => rAppend
  | .extend => rExtend
  | .pop => rPop
  | .reverse => rReverse
section
variable {E : RE} {H : Hp}
theorem Reps.split : ∀ {ts us : List T} {vs : List V} {g : List Addr}, Reps E H (ts ++ us) vs g → ∃ v1 v2 g1 g2, vs = v1 ++ v2 ∧ g = g1 ++ g2 ∧ Reps E H ts v1 g1 ∧ Reps E H us v2 g2
  | [], us, vs, g, h => ⟨[], vs, [], g, rfl, rfl, .nil, h⟩
  | t :: ts, us, vs, g, h => by
    cases h with
    | @cons _ v f _ vs g h1 h2 =>
      obtain ⟨v1, v2, g1, g2, e1, e2, r1, r2⟩ := Reps.split h2
      subst e1 e2
      exact ⟨v :: v1, v2, f ++ g1, g2, rfl, by simp, .cons h1 r1, r2⟩
theorem Reps.rev : ∀ {ts : List T} {vs : List V} {g : List Addr}, Reps E H ts vs g → ∃ g', g'.Perm g ∧ Reps E H ts.reverse vs.reverse g'
  | [], _, _, h => by cases h; exact ⟨[], .refl _, .nil⟩
  | t :: ts, _, _, h => by
    cases h with
    | @cons _ v f _ vs g h1 h2 =>
      obtain ⟨g', pm, r⟩ := Reps.rev h2
      refine ⟨g' ++ f, (List.Perm.append_right f pm).trans List.perm_append_comm, ?_⟩
      rw [List.reverse_cons, List.reverse_cons]
      exact Reps.app r (Reps.one h1)
theorem last_split {α : Type} {l : List α} {x : α} (h : l[l.length - 1]? = some x) : l = l.dropLast ++ [x] := by
  have hne : l ≠ [] := by rintro rfl; simp at h
  have e : l.getLast hne = x := by
    rw [List.getLast_eq_getElem]
    exact (List.getElem?_eq_some_iff.mp h).2
  rw [← e]
  exact (List.dropLast_concat_getLast hne).symm
end
def MmOut (E : RE) (H : Hp) (v : V) (p f g : List Addr) (Wt : T → T → Prop) (Q : VK) : Prop :=
  ∀ H' x' y w f' gy, Rep E H' x' v f' → Rep E H' y w gy → Gd E H' ((f' ++ gy) ++ p) → Frm E E (f ++ g) (f' ++ gy) H H' → f ≠ [] → Wt x' y → Q w H'
/-- the list at a, its own, becomes us -/
theorem wrote_lst {E : RE} {H : Hp} {a : Addr} {ts us : List T} {vs ws : List V} {f0 g f1 p : List Addr} (gd : Gd E H ((a :: f0) ++ g ++ p)) (hp : f1.Perm (f0 ++ g)) :
    Gd E (upd H a (.lst ws)) ((a :: f1) ++ p) ∧ Frm E E ((a :: f0) ++ g) (a :: f1) H (upd H a (.lst ws)) := by
  have pm : ((a :: f0) ++ g ++ p).Perm ((a :: f1) ++ p) := by
    refine List.Perm.append_right p ?_
    show (a :: (f0 ++ g)).Perm (a :: f1)
    exact List.Perm.cons a hp.symm
  refine ⟨(gd.perm pm).wrote trivial, Frm.wrote (by simp) fun x z => ?_⟩
  rcases List.mem_cons.mp z with e | z
  · rw [e]; simp
  · exact List.mem_cons_of_mem _ (hp.mem_iff.mp z)
theorem Rp.wrote {E : RE} {H : Hp} {x : T ⊕ List T} {y : V ⊕ List V} {f : List Addr} {a : Addr} {o u : HO} (r : Rp E H x y f) (ha : H a = some o) (m : Mt o) (hf : a ∉ f) (h1 : ¬ E.gf a) (h2 : ¬ E.gv a) : Rp E (upd H a u) x y f :=
  r.keep rfl rfl (fun _ z => z) (fun _ z => z) fun b o' e z => by
    rw [upd_ne fun w => ?_]
    · exact e
    · subst w
      rcases z with z | z | z | z
      · exact hf z
      · exact h1 z
      · exact h2 z
      · rw [ha] at e; cases e; exact z m
def gM (m : Mm) (g : List Addr) : List Addr := match m with
  | .extend => []
  | _ => g
theorem mm_sim {E : RE} {H : Hp} {p : List Addr} {x : T} {v : V} {f : List Addr} {ts : List T} {vs : List V} {g : List Addr} {Wt : T → T → Prop} {Q : VK} (rx : Rep E H x v f) (r : Reps E H ts vs g) (gd : Gd E H (f ++ p)) :
    ∀ m : Mm, (m ≠ .extend → Gd E H (f ++ g ++ p)) → mmT m x ts Wt → MmOut E H v p f (gM m g) Wt Q → mmR m v vs H Q
  | .append => fun gg b o => by
    match x, ts, b with
    | .lst .own us, [y], b =>
      obtain ⟨w, rfl, ry⟩ := reps1 r
      cases rx with
      | @lst _ a _ ws f0 h1 _ h2 _ =>
        have gd2 : Gd E H ((a :: f0) ++ g ++ p) := gg (by decide)
        have av := gd.av a (by simp [hd])
        have n0 : a ∉ f0 := fun z => by
          have q := (List.nodup_cons.mp gd2.left.left.nd).1
          exact q z
        have n1 : a ∉ g := fun z => Gd.dj gd2.left (a := a) (by simp) z
        obtain ⟨k1, k2⟩ := wrote_lst (ts := us) (us := us) (vs := ws) (ws := ws ++ [w]) (f1 := f0 ++ g) gd2 (.refl _)
        refine ⟨a, ws, w, rfl, rfl, h1, by rw [← Reps.length h2]; exact lim_lt b.1, ?_⟩
        refine o _ (.lst .own (us ++ [y])) .non .non (a :: (f0 ++ g)) [] ?_ .non (by simpa using k1) (by simpa [hd, gM] using k2) (by simp [hd]) b.2
        exact Rp.lst (f := .own) (g := f0 ++ g) (show upd H a _ a = some (.lst (ws ++ [w])) from upd_same) trivial (Reps.app (h2.wrote h1 trivial n0 av.1 av.2) (Reps.one (ry.wrote h1 trivial n1 av.1 av.2))) fun z => absurd rfl z
  | .extend => fun gg b o => by
    match x, ts, b with
    | .lst .own us, [.lst fl zs], b =>
      obtain ⟨w, rfl, ry⟩ := reps1 r
      cases rx with
      | @lst _ a _ ws f0 h1 _ h2 _ =>
        cases ry with
        | @lst _ c _ xs g0 h3 _ h4 _ =>
          obtain ⟨b1, b2, b3, b4⟩ := b
          have h4' := Reps.of_cpys h4 b2
          have gd2 : Gd E H ((a :: f0) ++ [] ++ p) := by simpa [hd] using gd
          have av := gd.av a (by simp [hd])
          have n0 : a ∉ f0 := fun z => by
            have q := (List.nodup_cons.mp gd2.left.left.nd).1
            exact q z
          obtain ⟨k1, k2⟩ := wrote_lst (ts := us) (us := us) (vs := ws) (ws := ws ++ xs) (f1 := f0) gd2 (by simp)
          refine ⟨a, c, ws, xs, rfl, rfl, h1, ls_at h3 b1, by rw [← Reps.length h2, ← Reps.length h4]; exact lim b3, ?_⟩
          refine o _ (.lst .own (us ++ zs)) .non .non (a :: f0) [] ?_ .non (by simpa using k1) (by simpa [hd, gM] using k2) (by simp [hd]) b4
          have z := Reps.app (h2.wrote (u := .lst (ws ++ xs)) h1 trivial n0 av.1 av.2) (h4'.wrote (u := .lst (ws ++ xs)) h1 trivial (by simp) av.1 av.2)
          rw [List.append_nil] at z
          exact Rp.lst (f := .own) (g := f0) (show upd H a _ a = some (.lst (ws ++ xs)) from upd_same) trivial z fun z => absurd rfl z
  | .pop => fun gg b o => by
    match x, ts, b with
    | .lst .own us, [], b =>
      cases r
      obtain ⟨y, e, b⟩ := b
      cases rx with
      | @lst _ a _ ws f0 h1 _ h2 _ =>
        have gd2 : Gd E H ((a :: f0) ++ [] ++ p) := by simpa [hd] using gd
        have av := gd.av a (by simp [hd])
        have e2 := last_split e
        rw [e2] at h2
        obtain ⟨v1, v2, g1, g2, ev, eg, r1, r2⟩ := Reps.split h2
        obtain ⟨w, rfl, ry⟩ := reps1 r2
        subst ev eg
        have n0 : a ∉ g1 ++ g2 := fun z => by
          have q := (List.nodup_cons.mp gd2.left.left.nd).1
          exact q z
        obtain ⟨k1, k2⟩ := wrote_lst (ts := us) (us := us) (vs := v1) (ws := v1) (f1 := g1 ++ g2) gd2 (by simp)
        refine ⟨a, v1 ++ [w], w, rfl, rfl, h1, by simp, ?_⟩
        rw [List.dropLast_concat]
        refine o _ (.lst .own us.dropLast) y w (a :: g1) g2 ?_ (ry.wrote h1 trivial (fun z => n0 (List.mem_append_right _ z)) av.1 av.2) (by simpa using k1) (by simpa [hd, gM] using k2) (by simp [hd]) b
        exact Rp.lst (f := .own) (g := g1) (show upd H a _ a = some (.lst v1) from upd_same) trivial (r1.wrote h1 trivial (fun z => n0 (List.mem_append_left _ z)) av.1 av.2) fun z => absurd rfl z
  | .reverse => fun gg b o => by
    match x, ts, b with
    | .lst .own us, [], b =>
      cases r
      cases rx with
      | @lst _ a _ ws f0 h1 _ h2 _ =>
        have gd2 : Gd E H ((a :: f0) ++ [] ++ p) := by simpa [hd] using gd
        have av := gd.av a (by simp [hd])
        have n0 : a ∉ f0 := fun z => by
          have q := (List.nodup_cons.mp gd2.left.left.nd).1
          exact q z
        obtain ⟨f1, pm, r1⟩ := Reps.rev (h2.wrote (u := .lst ws.reverse) h1 trivial n0 av.1 av.2)
        obtain ⟨k1, k2⟩ := wrote_lst (ts := us) (us := us) (vs := ws) (ws := ws.reverse) (f1 := f1) gd2 (by simpa using pm)
        refine ⟨a, ws, rfl, rfl, h1, ?_⟩
        refine o _ (.lst .own us.reverse) .non .non (a :: f1) [] ?_ .non (by simpa using k1) (by simpa [hd, gM] using k2) (by simp [hd]) b
        exact Rp.lst (f := .own) (g := f1) (show upd H a _ a = some (.lst ws.reverse) from upd_same) trivial r1 fun z => absurd rfl z
/-- the place's tree is another one -/
theorem AtP.put {E : RE} {H H' : Hp} {env : En} {σ : L2.St} {i : Nat} {st : List Step} {t rt x' : T} {v v0 : V} {b : Bool} {f0 rest f fr f' g gy : List Addr} (hl : i < env.length) (hs : σ[i]? = some (some v0)) (rs : Rs E H (env.set i .und) σ rest) (fc : Foc E H rt st v0 f0 t v f fr)
    (gd : Gd E H ((f ++ g) ++ (fr ++ rest))) (fm : Frm E E (f ++ g) (f' ++ gy) H H') (gd' : Gd E H' ((f' ++ gy) ++ (fr ++ rest))) (hr : Rep E H' x' v f') (hne : f ≠ []) :
    ∃ p', Rs E H' (env.set i (.has b (setS rt st x'))) σ p' ∧ Gd E H' (gy ++ p') ∧ (f' ++ gy ++ (fr ++ rest)).Perm (gy ++ p') := by
  have kk : ∀ {l : List Addr}, (∀ a ∈ l, a ∈ fr ++ rest) → Kp E E H H' l := fun {l} h => ⟨rfl, rfl, fun _ z => z, fun _ z => z, fun a o e z => fm.keep a o e fun w => by
    rcases z with z | z | z | z
    · exact Gd.dj gd w (h a z)
    · exact (gd.av a (List.mem_append_left _ w)).1 z
    · exact (gd.av a (List.mem_append_left _ w)).2 z
    · obtain ⟨o', e', m'⟩ := gd.mt a (List.mem_append_left _ w)
      rw [e] at e'
      cases e'
      exact z m'⟩
  obtain ⟨f0', pm0, r0⟩ := fc.2.2 E H' x' f' (kk fun a z => List.mem_append_left _ z) (fun z => absurd z hne) hr
  have rs2 : Rs E H' (env.set i .und) σ rest := rs.keep rfl rfl (fun _ z => z) (fun _ z => z) (kk (l := rest) fun a z => List.mem_append_right _ z).keep
  obtain ⟨p', pm, rs3⟩ := rs2.put (b := b) r0 (i := i) (by rw [List.getElem?_set_self hl])
  rw [set_self hs, List.set_set] at rs3
  have pmm : (f' ++ gy ++ (fr ++ rest)).Perm (gy ++ p') := by
    have s1 : p'.Perm (f' ++ (fr ++ rest)) := by
      refine pm.trans ?_
      rw [← List.append_assoc]
      exact List.Perm.append_right _ pm0
    refine List.Perm.trans ?_ (List.Perm.append_left gy s1.symm)
    rw [List.append_assoc f' gy]
    refine (List.perm_append_comm).trans ?_
    rw [List.append_assoc]
    exact List.Perm.append_left gy List.perm_append_comm
  exact ⟨p', rs3, gd'.perm pmm, pmm⟩
end OT
end
section
set_option Elab.async false
set_option linter.all false
set_option maxRecDepth 100000
set_option maxHeartbeats 2000000
namespace OT
open PySem PySem.Spec PyProof.Rows L2
theorem Kp.trans {E E1 E2 : RE} {H H1 H2 : Hp} {f g : List Addr} (a : Kp E E1 H H1 f) (b : Kp E1 E2 H1 H2 g) (h : ∀ x ∈ g, x ∈ f) : Kp E E2 H H2 g :=
  ⟨b.K.trans a.K, b.ca.trans a.ca, fun c z => b.gf c (a.gf c z), fun c z => b.gv c (a.gv c z), fun c o e z => b.keep c o (a.keep c o e (z.imp (h c) id)) (z.imp id (Or.imp (a.gf c) (Or.imp (a.gv c) id)))⟩
theorem Foc.kp {E E1 : RE} {H H1 : Hp} {r t : T} {st : List Step} {v0 v : V} {f0 f fr : List Addr} (F : Foc E H r st v0 f0 t v f fr) (k : Kp E E1 H H1 f0) : Foc E1 H1 r st v0 f0 t v f fr := by
  have hs : ∀ x ∈ f ++ fr, x ∈ f0 := fun x z => F.1.mem_iff.mpr z
  refine ⟨F.1, F.2.1.kp (k.sub fun x z => hs x (List.mem_append_left _ z)) fun _ z => z, fun E' H' t' f' k' hf r => ?_⟩
  exact F.2.2 E' H' t' f' (k.trans k' fun x z => hs x (List.mem_append_right _ z)) hf r
theorem Kp.of_frm {E E1 : RE} {H H1 : Hp} {f p q : List Addr} (gd : Gd E H (f ++ p)) (a : Frm E E1 p q H H1) : Kp E E1 H H1 f :=
  ⟨a.K, a.ca, a.gf, fun c z => by rw [a.gv]; exact z, fun c o e z => a.keep c o e fun m => by
    rcases z with z | z | z | z
    · exact gd.dj z m
    · exact (gd.av c (List.mem_append_right _ m)).1 z
    · exact (gd.av c (List.mem_append_right _ m)).2 z
    · obtain ⟨o', e', m'⟩ := gd.mt c (List.mem_append_right _ m)
      rw [e] at e'
      cases e'
      exact z m'⟩
theorem own_ne {E : RE} {H : Hp} {x : T} {v : V} {f : List Addr} (r : Rep E H x v f) (h : isOwn x = true) : f ≠ [] ∧ ∀ K : PySem.W.Frag, tyV K "list" v H := by
  cases x <;> first | cases h | skip
  rename_i fl ts
  cases fl <;> first | cases h | skip
  cases r with
  | @lst _ a _ vs g h1 _ _ _ => exact ⟨by simp [hd], fun K => .inl ⟨rfl, _, SqL.of h1⟩⟩
section
variable {R : RP} {W : WX} {tp : TE} {ta : TA} {wp : En → XC → (Nat → List Step → T → Prop) → Prop} {wr : En → XC → (List T → En → Prop) → Prop} {qa k : Bool} {m : Mm}
theorem Sim.mmq (hp : SimP R W tp wp) (ha : SimA R W ta wr true (m == .extend)) :
    SimE R W (tBM R.K "list" (mmR m) tp ta) (fun env X Q => wp env X fun i st x => isOwn x = true ∧ (match env[i]? with
      | some (.has b r) => wr env X fun ts _ => mmT m x ts fun x' y => Q y (env.set i (.has b (setS r st x')))
      | _ => False)) false k := by
  intro E H env σ p Xc Qw Q eK ec rs gd w q xo
  refine hp E H env σ p Xc _ _ eK ec rs gd w (fun E1 H1 i st x v b rt v0 f0 rest f fr rs1 gd1 ps1 a1 w1 => ?_) xo
  obtain ⟨ho, w1⟩ := w1
  rw [a1.e] at w1
  obtain ⟨hne, hty⟩ := own_ne a1.fc.2.1 ho
  refine ⟨hty _, ?_⟩
  refine ha E1 H1 env σ p Xc _ _ (ps1.EK eK) (ps1.Ec ec) rs1 gd1 w1 (fun E2 H2 p2 e2 ts vs g rs2 r2 gd2 gg2 ps2 w2 => ?_) (xo.next ps1)
  obtain ⟨ee, ep, s2⟩ := ps2.qf rfl
  subst ee ep
  have a2 := a1.stay s2
  have hl : i < e2.length := (List.getElem?_eq_some_iff.mp a1.e).1
  have pm : p2.Perm (f ++ (fr ++ rest)) := by
    refine a2.pm.trans ?_
    rw [← List.append_assoc]
    exact List.Perm.append_right _ a2.fc.1
  have gdf : Gd E2 H2 (f ++ (fr ++ rest)) := gd2.perm pm
  have pmg : (g ++ p2).Perm (f ++ g ++ (fr ++ rest)) := by
    refine (List.Perm.append_left g pm).trans ?_
    rw [← List.append_assoc]
    exact List.Perm.append_right _ List.perm_append_comm
  have gg : m ≠ .extend → Gd E2 H2 (f ++ g ++ (fr ++ rest)) := fun z => (gg2 (by cases m <;> first | rfl | exact absurd rfl z)).perm pmg
  refine mm_sim a2.fc.2.1 r2 gdf m gg w2 fun H' x' y w f' gy hx hy gd' fm _ wt => ?_
  generalize hG : gM m g = G at fm
  have hGG : Gd E2 H2 (f ++ G ++ (fr ++ rest)) := by
    subst hG
    cases m <;> first | exact gg (by decide) | simpa [gM] using gdf
  have hGs : ∀ x ∈ G, x ∈ gk (m == .extend) g := fun x z => by
    subst hG
    cases m <;> first | exact z | cases z
  obtain ⟨p', rs3, gd3, pm3⟩ := AtP.put hl a2.s a2.rs a2.fc hGG fm gd' hx hne
  refine q E2 H' p' _ y w gy rs3 hy gd3.right (fun _ => gd3) ?_ wt
  have fr2 : Frm E1 E2 p2 (gk (m == .extend) g ++ p2) H1 H2 := ps2.fr
  have fr1 : Frm E E1 p2 p2 H H1 := ps1.fr.sub (fun _ z => z) fun _ z => List.mem_append_right _ z
  have fr3 : Frm E2 E2 ((fr ++ rest) ++ (f ++ G)) ((fr ++ rest) ++ (f' ++ gy)) H2 H' := fm.beside
  have fr4 : Frm E2 E2 (gk (m == .extend) g ++ p2) (gy ++ p') H2 H' := fr3.sub (fun x z => by
    rcases List.mem_append.mp z with z | z
    · exact List.mem_append_right _ (pm.mem_iff.mpr (List.mem_append_right _ z))
    · rcases List.mem_append.mp z with z | z
      · exact List.mem_append_right _ (pm.mem_iff.mpr (List.mem_append_left _ z))
      · exact List.mem_append_left _ (hGs x z)) fun x z => by
      rcases List.mem_append.mp (pm3.mem_iff.mpr z) with z | z
      · exact List.mem_append_right _ z
      · exact List.mem_append_left _ z
  have ps : Pst false E H p2 e2 E2 H' p' (e2.set i (.has b (setS rt st x'))) gy := ⟨(fr1.trans fr2).trans fr4, (fun z => by cases z), Iok.same a1.e⟩
  exact ps.gk
theorem Sim.mmn (hp : SimP R W tp wp) (ha : SimA R W ta wr qa false) (hm : m ≠ .extend) :
    SimE R W (tBM R.K "list" (mmR m) tp ta) (fun env X Q => wp env X fun i st x => isOwn x = true ∧ (match env[i]? with
      | some (.has b r) => b = false ∧ wr (env.set i .und) X fun ts e1 => mmT m x ts fun x' y => Q y (e1.set i (.has b (setS r st x')))
      | _ => False)) false k := by
  intro E H env σ p Xc Qw Q eK ec rs gd w q xo
  refine hp E H env σ p Xc _ _ eK ec rs gd w (fun E1 H1 i st x v b rt v0 f0 rest f fr rs1 gd1 ps1 a1 w1 => ?_) xo
  obtain ⟨ho, w1⟩ := w1
  rw [a1.e] at w1
  obtain ⟨hb, w1⟩ := w1
  subst hb
  obtain ⟨hne, hty⟩ := own_ne a1.fc.2.1 ho
  refine ⟨hty _, ?_⟩
  have gdp : Gd E1 H1 (f0 ++ rest) := gd1.perm a1.pm
  have hl : i < env.length := (List.getElem?_eq_some_iff.mp a1.e).1
  have fr1 : Frm E E1 p p H H1 := ps1.fr.sub (fun _ z => z) fun _ z => List.mem_append_right _ z
  have hrp : ∀ x ∈ rest, x ∈ p := fun x z => a1.pm.mem_iff.mpr (List.mem_append_right _ z)
  have hfp : ∀ x ∈ f0, x ∈ p := fun x z => a1.pm.mem_iff.mpr (List.mem_append_left _ z)
  have io1 : Iok env (env.set i .und) := Iok.set (.inl a1.e)
  have xo1 : ExOk W E1 H1 rest (env.set i .und) σ Xc := fun E' H' p' env' c fs cls d rs gd b ex xc =>
    xo E' H' p' env' c fs cls d rs gd ⟨(fr1.trans (b.fr.sub hrp fun _ z => z)), (fun z => by cases z), io1.trans b.io⟩ ex xc
  refine ha E1 H1 (env.set i .und) σ rest Xc _ _ (ps1.EK eK) (ps1.Ec ec) a1.rs gdp.right w1 (fun E2 H2 p2 e2 ts vs g rs2 r2 gd2 gg2 ps2 w2 => ?_) xo1
  have gg := gg2 rfl
  have kp : Kp E1 E2 H1 H2 f0 := Kp.of_frm gdp ps2.fr
  have fc2 := a1.fc.kp kp
  have gdt : Gd E2 H2 (f0 ++ (g ++ p2)) := gdp.frame ps2.fr gg
  have pm : (f0 ++ (g ++ p2)).Perm (f ++ g ++ (fr ++ p2)) := by
    refine (List.Perm.append_right _ fc2.1).trans ?_
    rw [List.append_assoc, List.append_assoc]
    refine List.Perm.append_left f ?_
    rw [← List.append_assoc, ← List.append_assoc]
    exact List.Perm.append_right _ List.perm_append_comm
  have gdg : Gd E2 H2 (f ++ g ++ (fr ++ p2)) := gdt.perm pm
  have gdf : Gd E2 H2 (f ++ (fr ++ p2)) := gdg.sub (List.Sublist.append (List.sublist_append_left _ _) (.refl _))
  refine mm_sim fc2.2.1 r2 gdf m (fun _ => gdg) w2 fun H' x' y w f' gy hx hy gd' fm _ wt => ?_
  have hG : gM m g = g := by cases m <;> first | rfl | exact absurd rfl hm
  rw [hG] at fm
  obtain ⟨p3, sub3, rs3⟩ := rs2.forget i
  have gdg3 : Gd E2 H2 (f ++ g ++ (fr ++ p3)) := gdg.sub (List.Sublist.append (.refl _) (List.Sublist.append (.refl _) sub3))
  have gd3' : Gd E2 H' ((f' ++ gy) ++ (fr ++ p3)) := gd'.sub (List.Sublist.append (.refl _) (List.Sublist.append (.refl _) sub3))
  have hl2 : i < e2.length := by rw [ps2.io.1]; simpa using hl
  obtain ⟨p', rs4, gd4, pm4⟩ := AtP.put (b := false) hl2 a1.s rs3 fc2 gdg3 fm gd3' hx hne
  refine q E2 H' p' _ y w gy rs4 hy gd4.right (fun _ => gd4) ?_ wt
  have fr2 : Frm E1 E2 (f0 ++ rest) (f0 ++ (g ++ p2)) H1 H2 := ps2.fr.beside
  have fr3 : Frm E2 E2 ((fr ++ p2) ++ (f ++ g)) ((fr ++ p2) ++ (f' ++ gy)) H2 H' := fm.beside
  have fr4 : Frm E2 E2 (f0 ++ (g ++ p2)) (gy ++ p') H2 H' := fr3.sub (fun x z => by
    refine pm.mem_iff.mpr ?_
    rcases List.mem_append.mp z with z | z
    · exact List.mem_append_right _ z
    · exact List.mem_append_left _ z) fun x z => by
      rcases List.mem_append.mp (pm4.mem_iff.mpr z) with z | z
      · exact List.mem_append_right _ z
      · rcases List.mem_append.mp z with z | z
        · exact List.mem_append_left _ (List.mem_append_left _ z)
        · exact List.mem_append_left _ (List.mem_append_right _ (sub3.subset z))
  have fr5 : Frm E E1 p (f0 ++ rest) H H1 := fr1.sub (fun _ z => z) fun x z => a1.pm.mem_iff.mpr z
  have io : Iok env (e2.set i (.has false (setS rt st x'))) := by
    refine ⟨by simp [ps2.io.1], fun j u e => ?_⟩
    have hij : i ≠ j := fun z => by
      subst z
      rw [a1.e] at e
      cases e
    obtain ⟨t', e'⟩ := ps2.io.2 j u (by rw [List.getElem?_set_ne hij]; exact e)
    exact ⟨t', by rw [List.getElem?_set_ne hij]; exact e'⟩
  have ps : Pst false E H p env E2 H' p' (e2.set i (.has false (setS rt st x'))) gy := ⟨(fr5.trans fr2).trans fr4, (fun z => by cases z), io⟩
  exact ps.gk
end
/-! ### isinstance -/
def tyT : T → Option String
  | .non => some "NoneType"
  | .bl _ => some "bool"
  | .int _ => some "int"
  | .str _ => some "str"
  | .tup _ => some "tuple"
  | .lst _ _ => some "list"
  | _ => none
def ckS : Ck → String
  | .int => "int" | .str => "str" | .bool => "bool" | .tuple => "tuple" | .list => "list"
theorem isi_kit {K : PySem.W.Frag} {x : T} {c : Ck} {Wt : Bool → Prop} (h : isiT x c Wt) : ∃ n b, tyT x = some n ∧ PySem.W.kitOne K (.type n) (.type (ckS c)) = some b ∧ Wt b := by
  cases x <;> first | exact False.elim h | skip
  all_goals refine ⟨_, _, rfl, kit_ty (?_ : kitB _ _ = some _), h⟩
  all_goals (cases c <;> decide +kernel)
theorem tyT_X {E : RE} {H : Hp} {x : T} {v : V} {f : List Addr} {n : String} (r : Rep E H x v f) (h : tyT x = some n) : TyX E.K H v (.type n) := by
  cases x <;> first | cases h | skip
  · cases r; exact .base .non
  · cases r; exact .base (.bl _)
  · cases r; exact .base (.int _)
  · cases r; exact .base (.str _)
  · cases r with
    | tup h1 _ =>
      rcases h1 with (h1 | ⟨o, h1⟩) | ⟨o, its, n, h1, h2, _⟩
      · exact .base (.tup h1)
      · exact .fTuple h1
      · exact .kTuple h1 h2
  · cases r with
    | lst h1 _ _ _ =>
      rcases ls_sql h1 with (h1 | ⟨o, h1⟩) | ⟨o, its, n, h1, h2, _⟩
      · exact .base (.lst h1)
      · exact .base (.frz h1)
      · exact .kList h1 h2
section
variable {R : RP} {W : WX} {ta tb : TE} {wa wb : En → XC → (T → En → Prop) → Prop} {qa qb k : Bool}
theorem Sim.isi {c : Ck} (ha : SimE R W ta wa qa true) : SimE R W (tCB (rIsi R.K) (tCons ta (tCons (tC (.ty (ckS c))) tNil))) (fun env X Q => wa env X fun x e => isiT x c fun b => Q (.bl b) e) qa k := by
  intro E H env σ p Xc Qw Q eK ec rs gd w q xo
  refine ha E H env σ p Xc _ _ eK ec rs gd w (fun E1 H1 p1 e1 t1 v1 g1 rs1 r1 gd1 _ ps1 w1 => ?_) xo
  obtain ⟨n, b, h1, h2, h3⟩ := isi_kit (K := R.K) w1
  have h4 := tyT_X r1 h1
  rw [ps1.EK eK] at h4
  exact ⟨v1, .ty (ckS c), .type n, .type (ckS c), b, rfl, .ty _, h4, h2, q E1 H1 p1 e1 _ _ [] rs1 .bl gd1 (fun _ => gd1) (by rw [gk_nil]; exact ps1) h3⟩
/-! ### f-strings -/
def SimJ (R : RP) (W : WX) (ts : List TE) (wp : Str → En → XC → (Str → En → Prop) → Prop) : Prop :=
  ∀ (E : RE) (H : Hp) (env : En) (σ : L2.St) (p : List Addr) (Xc : XC) (acc : Str) (Qw : Str → En → Prop) (Q : Str → Hp → Prop), E.K = R.K → E.ca = R.ca → Rs E H env σ p → Gd E H p → wp acc env Xc Qw →
    (∀ E' H' s, Rs E' H' env σ p → Gd E' H' p → Pst true E H p env E' H' p env [] → Qw s env → Q s H') → ExOk W E H p env σ Xc → tJs ts acc σ H Q
theorem SimJ.nil : SimJ R W [] (fun acc env _ Q => Q acc env) := by
  intro E H env σ p Xc acc Qw Q eK ec rs gd w q _
  exact q E H acc rs gd Pst.refl w
/-- a part is a text: written, or laid by format -/
theorem SimJ.fmt {ts : List TE} {wr : Str → En → XC → (Str → En → Prop) → Prop} (ha : SimE R W ta wa true true) (hb : SimJ R W ts wr) :
    SimJ R W (tFmt ta :: ts) (fun acc env X Q => wa env X fun t e1 => strPart t fun y => (acc ++ y).length ≤ LIM ∧ wr (acc ++ y) e1 X Q) := by
  intro E H env σ p Xc acc Qw Q eK ec rs gd w q xo
  refine ha E H env σ p Xc _ _ eK ec rs gd w (fun E1 H1 p1 e1 t1 v1 g1 rs1 r1 gd1 _ ps1 w1 => ?_) xo
  obtain ⟨ee, ep, s1⟩ := ps1.qf rfl
  subst ee ep
  have ps1' : Pst true E H p1 e1 E1 H1 p1 e1 [] := ps1
  cases t1 <;> first | exact False.elim w1 | skip
  · obtain ⟨h1, h2, w1⟩ := w1
    cases r1
    refine .inr ⟨_, rfl, h1, _, rfl, lim h2, ?_⟩
    exact hb E1 H1 e1 σ p1 Xc _ _ _ (ps1.EK eK) (ps1.Ec ec) rs1 gd1 w1 (fun E2 H2 s rs2 gd2 ps2 w2 => q E2 H2 s rs2 gd2 (ps1'.trans ps2) w2) (xo.next ps1)
  · obtain ⟨h1, h2, w1⟩ := w1
    cases r1
    refine .inl ⟨_, rfl, lim h1, _, rfl, lim h2, ?_⟩
    exact hb E1 H1 e1 σ p1 Xc _ _ _ (ps1.EK eK) (ps1.Ec ec) rs1 gd1 w1 (fun E2 H2 s rs2 gd2 ps2 w2 => q E2 H2 s rs2 gd2 (ps1'.trans ps2) w2) (xo.next ps1)
theorem SimJ.cst {ts : List TE} {wr : Str → En → XC → (Str → En → Prop) → Prop} {z : Str} (hb : SimJ R W ts wr) :
    SimJ R W (tC (.str z) :: ts) (fun acc env X Q => strPart (.str z) fun y => (acc ++ y).length ≤ LIM ∧ wr (acc ++ y) env X Q) := by
  intro E H env σ p Xc acc Qw Q eK ec rs gd w q xo
  obtain ⟨h1, h2, w1⟩ := w
  exact ⟨_, rfl, lim h2, hb E H env σ p Xc _ _ _ eK ec rs gd w1 q xo⟩
theorem Sim.fst {ts : List TE} {wr : Str → En → XC → (Str → En → Prop) → Prop} (hb : SimJ R W ts wr) : SimE R W (fun σ H Q => tJs ts Str.empty σ H fun out H1 => Q (.str out) H1) (fun env X Q => wr Str.empty env X fun s e => Q (.str s) e) true k := by
  intro E H env σ p Xc Qw Q eK ec rs gd w q xo
  exact hb E H env σ p Xc _ _ _ eK ec rs gd w (fun E1 H1 s rs1 gd1 ps1 w1 => q E1 H1 p env _ _ [] rs1 .str gd1 (fun _ => gd1) (by rw [gk_nil]; exact ps1) w1) xo
end
end OT
end
section
set_option Elab.async false
set_option linter.all false
set_option maxRecDepth 100000
set_option maxHeartbeats 2000000
namespace OT
open PySem PySem.Spec PyProof.Rows L2
/-! ### a def's promise -/
def mOf : List Md → List V → List V
  | .m :: ms, v :: vs => v :: mOf ms vs
  | .v :: ms, _ :: vs => mOf ms vs
  | _, _ => []
def spI (K : PySem.W.Frag) (ca : Str → Addr) (F : FE) : Sp := fun vs H Q Ex => ∃ (E : RE) (ts : List T) (f : List Addr) (Rq : Rr → Prop), E.K = K ∧ E.ca.f = ca ∧ vs.length = F.ms.length ∧ Reps E H ts vs f ∧ Gd E H f ∧ F.Ψ ts Rq ∧
  (∀ t outs v E' H' ft fo, Rep E' H' t v ft → Reps E' H' outs (mOf F.ms vs) fo → Gd E' H' (ft ++ fo) → Frm E E' f (ft ++ fo) H H' → Rq (.ok t outs) → Q v H') ∧
  (∀ c fs outs cls d E' H' fo, Reps E' H' outs (mOf F.ms vs) fo → Gd E' H' fo → Frm E E' f fo H H' → ExR E' H' c fs cls d → Rq (.ex c fs outs) → Ex cls d H')
/-- .. with the arguments as a call hands them -/
def spA (K : PySem.W.Frag) (ca : Str → Addr) (F : FE) : Sp := fun vs H Q Ex => ∃ (E : RE) (ts : List T) (f : List Addr) (Rq : Rr → Prop), E.K = K ∧ E.ca.f = ca ∧ okAr F.ms.length F.dfs.length F.star vs.length = true ∧ Reps E H ts vs f ∧ Gd E H f ∧ F.Ψ (F.arg ts) Rq ∧
  (∀ t outs v E' H' ft fo, Rep E' H' t v ft → Reps E' H' outs (mOf F.ms vs) fo → Gd E' H' (ft ++ fo) → Frm E E' f (ft ++ fo) H H' → Rq (.ok t outs) → Q v H') ∧
  (∀ c fs outs cls d E' H' fo, Reps E' H' outs (mOf F.ms vs) fo → Gd E' H' fo → Frm E E' f fo H H' → ExR E' H' c fs cls d → Rq (.ex c fs outs) → Ex cls d H')
/-- the function at f keeps it -/
def FnA (R : RP) (f : Addr) (F : FE) : Prop := ∃ k, k + 1 ≤ R.lv ∧ PySem.W.keepIn R.K (.ref f) = true ∧ FnR R.P R.w R.K R.mg R.base (L2.CX R.P R.w) k f (spA R.K R.ca.f F)
/-- what is owned counts as viewed -/
def Ev (hw : Bool) (E : RE) (p : List Addr) : RE := match hw with
  | true => { E with gv := fun a => E.gv a ∨ a ∈ p }
  | false => E
section
variable {E E' : RE} {H H' : Hp} {p p' : List Addr} {hw : Bool}
theorem Ev.K : (Ev hw E p).K = E.K := by cases hw <;> rfl
theorem Ev.ca : (Ev hw E p).ca = E.ca := by cases hw <;> rfl
theorem Ev.gf : (Ev hw E p).gf = E.gf := by cases hw <;> rfl
theorem Ev.gv {a : Addr} (h : E.gv a) : (Ev hw E p).gv a := by cases hw <;> first | exact h | exact .inl h
theorem Rp.ev {x : T ⊕ List T} {y : V ⊕ List V} {f : List Addr} (r : Rp E H x y f) : Rp (Ev hw E p) H x y f :=
  r.keep Ev.K Ev.ca (fun a z => by rw [Ev.gf]; exact z) (fun a z => Ev.gv z) fun _ _ e _ => e
theorem Gd.ev {g : List Addr} (gd : Gd E H (g ++ p)) : Gd (Ev hw E p) H g := by
  cases hw with
  | false => exact gd.left
  | true =>
    refine ⟨gd.left.nd, fun a z => ⟨(gd.av a (List.mem_append_left _ z)).1, fun w => ?_⟩, fun a z => ?_, gd.left.mt⟩
    · rcases w with w | w
      · exact (gd.av a (List.mem_append_left _ z)).2 w
      · exact gd.dj z w
    · rcases z with z | z | z
      · exact gd.dm a (.inl z)
      · exact gd.dm a (.inr z)
      · obtain ⟨o, e, _⟩ := gd.mt a (List.mem_append_right _ z)
        rw [e]; simp
end
/-- what is known of an argument that is handed back -/
def MIn (E : RE) (H : Hp) (σ : L2.St) (vs : List V) (fr : List Addr) : MI → Prop
  | none => fr = [] ∧ vs = []
  | some (i, st, _, rt) => ∃ v0 f0 t v f, σ[i]? = some (some v0) ∧ Foc E H rt st v0 f0 t v f fr ∧ vs = [v] ∧ f ≠ []
def setM (env : En) (o : MI) (x : T) : En := match o with
  | none => env
  | some (i, _, b, _) => env.set i (.has b x)
def SimAs (R : RP) (W : WX) (ta : TA) (as : As) (wp : En → XC → (List T → MI → En → Prop) → Prop) (q : Bool) : Prop :=
  ∀ (E : RE) (H : Hp) (env : En) (σ : L2.St) (p : List Addr) (Xc : XC) (Qw : List T → MI → En → Prop) (Q : List V → Hp → Prop), E.K = R.K → E.ca = R.ca → Rs E H env σ p → Gd E H p → wp env Xc Qw →
    (∀ E' H' p' env' ts vs g fr o, Rs E' H' env' σ p' → Reps (Ev (hasW as) E' p') H' ts vs g → Gd E' H' (g ++ (fr ++ p')) → Frm E E' p (g ++ (fr ++ p')) H H' → (q = true → env' = env ∧ p' = p ∧ Frm E E' [] g H H') → MIn E' H' σ (mOf as.ms vs) fr o →
      (∀ x, Iok env (setM env' o x)) → env'.length = env.length → vs.length = as.len → (as.noM = true → o = none) → Qw ts o env' → Q vs H') →
    ExOk W E H p env σ Xc → ta σ H Q
theorem mut_ne {E : RE} {H : Hp} {x : T} {v : V} {f : List Addr} (r : Rep E H x v f) (h : isMut x = true) : f ≠ [] := by
  cases x with
  | lst fl ts => cases fl <;> first | (cases r; simp [hd]; done) | cases h
  | dic fl ks ts => cases fl <;> first | (cases r; simp [hd]; done) | cases h
  | ins fl c ns ts => cases fl <;> first | (cases r; simp [hd]; done) | cases h
  | _ => cases h
section
variable {R : RP} {W : WX} {ta tp : TE} {tr : TA} {wa : En → XC → (T → En → Prop) → Prop} {wp : En → XC → (Nat → List Step → T → Prop) → Prop} {wr : En → XC → (List T → MI → En → Prop) → Prop} {qa qr : Bool} {as : As} {e : E} {pl : P}
theorem SimAs.nil : SimAs R W tNil .nil (fun env _ Q => Q [] none env) true := by
  intro E H env σ p Xc Qw Q eK ec rs gd w q _
  exact q E H p env [] [] [] [] none rs .nil gd Frm.refl (fun _ => ⟨rfl, rfl, Frm.refl⟩) ⟨rfl, rfl⟩ (fun _ => Iok.refl _) rfl rfl (fun _ => rfl) w
theorem SimAs.v (ha : SimE R W ta wa qa false) (hr : SimAs R W tr as wr qr) :
    SimAs R W (tCons ta tr) (.cons (.v e) as) (fun env X Q => wa env X fun t e1 => wr e1 X fun ts o e2 => Q (t :: ts) o e2) (qa && qr) := by
  intro E H env σ p Xc Qw Q eK ec rs gd w q xo
  refine ha E H env σ p Xc _ _ eK ec rs gd w (fun E1 H1 p1 e1 t1 v1 g1 rs1 r1 gd1 gg1 ps1 w1 => ?_) xo
  have gg := gg1 rfl
  refine hr E1 H1 e1 σ p1 Xc _ _ (ps1.EK eK) (ps1.Ec ec) rs1 gd1 w1 (fun E2 H2 p2 e2 ts vs g fr o rs2 r2 gd2 f2 qf mi io ln lv nm w2 => ?_) (xo.next ps1)
  have gdt : Gd E2 H2 (g1 ++ (g ++ (fr ++ p2))) := gg.frame f2 gd2
  have r1' : Rep E2 H2 t1 v1 g1 := r1.frame gg f2
  have ehw : hasW (.cons (.v e) as) = hasW as := rfl
  refine q E2 H2 p2 e2 (t1 :: ts) (v1 :: vs) (g1 ++ g) fr o rs2 (.cons (by rw [ehw]; exact r1'.ev) r2) (by rw [List.append_assoc]; exact gdt) ?_ (fun z => ?_) mi (fun x => ps1.io.trans (io x)) (ln.trans ps1.io.1) (by show vs.length + 1 = as.len + 1; rw [lv]) nm w2
  · have z := ps1.fr.trans f2.beside
    rw [List.append_assoc]
    exact z
  · obtain ⟨z1, z2⟩ := Bool.and_eq_true_iff.mp z
    obtain ⟨s1, s2, s3⟩ := ps1.qf z1
    obtain ⟨t1, t2, t3⟩ := qf z2
    refine ⟨t1.trans s1, t2.trans s2, s3.trans ?_⟩
    have y := t3.beside (f := g1)
    rw [List.append_nil] at y
    exact y
theorem SimAs.w (ha : SimP R W tp wp) (hr : SimAs R W tr as wr true) (hn : as.noM = true) :
    SimAs R W (tCons tp tr) (.cons (.w pl) as) (fun env X Q => wp env X fun _ _ t => wr env X fun ts o e2 => Q (turn .vw t :: ts) o e2) true := by
  intro E H env σ p Xc Qw Q eK ec rs gd w q xo
  refine ha E H env σ p Xc _ _ eK ec rs gd w (fun E1 H1 i st x v b rt v0 f0 rest f fr0 rs1 gd1 ps1 a1 w1 => ?_) xo
  refine hr E1 H1 env σ p Xc _ _ (ps1.EK eK) (ps1.Ec ec) rs1 gd1 w1 (fun E2 H2 p2 e2 ts vs g fr o rs2 r2 gd2 f2 qf mi io ln lv nm w2 => ?_) (xo.next ps1)
  obtain ⟨ee, ep, s2⟩ := qf rfl
  subst ee ep
  have a2 := a1.stay s2
  have eo := nm hn
  subst eo
  have hf : ∀ a ∈ f, a ∈ p2 := fun a z => a2.pm.mem_iff.mpr (List.mem_append_left _ (a2.fc.1.mem_iff.mpr (List.mem_append_left _ z)))
  have rt : Rep (Ev true E2 p2) H2 (turn .vw x) v [] := Rp.turn (fl := .vw) (E' := Ev true E2 p2) a2.fc.2.1 (.inr rfl) rfl rfl (fun _ z => z) (fun _ z => .inl z) fun a z => Or.inr (hf a z)
  have r2' : Reps (Ev true E2 p2) H2 ts vs g := by
    cases hh : hasW as with
    | true => rw [hh] at r2; exact r2
    | false => rw [hh] at r2; exact Rp.ev (hw := true) (p := p2) r2
  refine q E2 H2 p2 e2 (turn .vw x :: ts) (v :: vs) ([] ++ g) fr none rs2 (.cons rt r2') gd2 ?_ (fun _ => ⟨rfl, rfl, ?_⟩) mi io ln (by show vs.length + 1 = as.len + 1; rw [lv]) (fun _ => rfl) w2
  · have z := (ps1.fr.sub (fun _ z => z) fun _ z => List.mem_append_right _ z : Frm E E1 p2 p2 H H1)
    exact z.trans f2
  · have z : Frm E E1 [] [] H H1 := (ps1.qf rfl).2.2
    exact z.trans s2
theorem SimAs.m (ha : SimP R W tp wp) (hr : SimAs R W tr as wr qr) (hn : as.noM = true) :
    SimAs R W (tCons tp tr) (.cons (.m pl) as) (fun env X Q => wp env X fun i st t => match env[i]? with
      | some (.has b rt) => isMut t = true ∧ wr (env.set i .und) (fun _ _ _ => False) fun ts o e2 => o = none ∧ Q (t :: ts) (some (i, st, b, rt)) e2
      | _ => False) false := by
  intro E H env σ p Xc Qw Q eK ec rs gd w q xo
  refine ha E H env σ p Xc _ _ eK ec rs gd w (fun E1 H1 i st x v b rt v0 f0 rest f fr0 rs1 gd1 ps1 a1 w1 => ?_) xo
  rw [a1.e] at w1
  obtain ⟨hm, w1⟩ := w1
  have gdp : Gd E1 H1 (f0 ++ rest) := gd1.perm a1.pm
  refine hr E1 H1 (env.set i .und) σ rest _ _ _ (ps1.EK eK) (ps1.Ec ec) a1.rs gdp.right w1 (fun E2 H2 p2 e2 ts vs g fr o rs2 r2 gd2 f2 qf mi io ln lv nm w2 => ?_) (fun _ _ _ _ _ _ _ _ _ _ _ _ z => z.elim)
  obtain ⟨eo, w2⟩ := w2
  subst eo
  obtain ⟨efr, emo⟩ := mi
  subst efr
  have kp : Kp E1 E2 H1 H2 f0 := Kp.of_frm gdp f2
  have fc2 := a1.fc.kp kp
  have gdt : Gd E2 H2 (f0 ++ (g ++ ([] ++ p2))) := gdp.frame f2 gd2
  have pm : (f0 ++ (g ++ ([] ++ p2))).Perm ((f ++ g) ++ (fr0 ++ p2)) := by
    refine (List.Perm.append_right _ fc2.1).trans ?_
    rw [List.append_assoc, List.append_assoc]
    refine List.Perm.append_left f ?_
    rw [List.nil_append, ← List.append_assoc, ← List.append_assoc]
    exact List.Perm.append_right _ List.perm_append_comm
  have fr1 : Frm E E1 p (f0 ++ rest) H H1 := ps1.fr.sub (fun _ z => z) fun _ z => List.mem_append_right _ (a1.pm.mem_iff.mpr z)
  have hl : i < env.length := (List.getElem?_eq_some_iff.mp a1.e).1
  refine q E2 H2 p2 e2 (x :: ts) (v :: vs) (f ++ g) fr0 (some (i, st, b, rt)) rs2 (.cons fc2.2.1.ev r2) (gdt.perm pm) ?_ (fun z => by cases z) ⟨v0, f0, x, v, f, a1.s, fc2, ?_, mut_ne fc2.2.1 hm⟩ (fun y => ?_) (by rw [ln]; simp) (by show vs.length + 1 = as.len + 1; rw [lv]) (fun z => by cases z) w2
  · exact (fr1.trans f2.beside).sub (fun _ z => z) fun z w => pm.mem_iff.mpr w
  · show v :: mOf as.ms vs = [v]
    rw [emo]
  · have z := io x
    refine ⟨by show (e2.set i _).length = _; rw [List.length_set, ln, List.length_set], fun j u e => ?_⟩
    by_cases hij : i = j
    · subst hij
      rw [a1.e] at e
      cases e
      exact ⟨y, by show (e2.set i _)[i]? = _; rw [List.getElem?_set_self (by rw [ln]; simpa using hl)]⟩
    · obtain ⟨t', e'⟩ := z.2 j u (by rw [List.getElem?_set_ne hij]; exact e)
      exact ⟨t', by show (e2.set i _)[j]? = _; rw [List.getElem?_set_ne hij]; exact e'⟩
/-- behind a call -/
theorem back_of {E E' : RE} {H H' : Hp} {env : En} {σ : L2.St} {p g fr ft fo : List Addr} {hw : Bool} {o : MI} {outs : List T} {ws : List V} (rs : Rs E H env σ p) (gd : Gd E H (g ++ (fr ++ p))) (mi : MIn E H σ ws fr o) (hr : Reps E' H' outs ws fo) (gd' : Gd E' H' (ft ++ fo)) (fm : Frm (Ev hw E p) E' g (ft ++ fo) H H')
    (nv : hw = true → nvws outs = true) (hl : ∀ i st b rt, o = some (i, st, b, rt) → i < env.length) :
    ∃ E2 p2, E2.K = E'.K ∧ E2.ca = E'.ca ∧ (hw = false → E2 = E') ∧ (∀ a, E'.gf a → E2.gf a) ∧ (o = none → p2 = p ∧ Frm E E2 g ft H H') ∧ Rs E2 H' (putO env o outs) σ p2 ∧ Gd E2 H' (ft ++ p2) ∧ Frm E E2 (g ++ (fr ++ p)) (ft ++ p2) H H' ∧ ∃ x, putO env o outs = setM env o x := by
  let E2 : RE := { E' with gv := E.gv }
  have eE : hw = false → E2 = E' := fun z => by
    subst z
    have := fm.gv
    show ({ E' with gv := E.gv } : RE) = E'
    rw [show E.gv = (Ev false E p).gv from rfl, ← this]
  have fm2 : Frm E E2 g (ft ++ fo) H H' := ⟨fm.K.trans Ev.K, fm.ca.trans Ev.ca, rfl, fm.keep, fm.new, fun a z => fm.gf a (by rw [Ev.gf]; exact z), fun a z => by
    have q := fm.gfn a z
    rw [Ev.gf] at q
    exact q, fm.dom⟩
  have gd2 : Gd E2 H' (ft ++ fo) := ⟨gd'.nd, fun a z => ⟨(gd'.av a z).1, fun w => (gd'.av a z).2 (by rw [fm.gv]; exact Ev.gv w)⟩, fun a z => gd'.dm a (z.imp id fun w => by rw [fm.gv]; exact Ev.gv w), gd'.mt⟩
  have gds : Gd E H ((fr ++ p) ++ g) := gd.swap
  have gdt : Gd E2 H' ((fr ++ p) ++ (ft ++ fo)) := gds.frame fm2 gd2
  have hr2 : Reps E2 H' outs ws fo := by
    cases hh : hw with
    | false => rw [eE hh]; exact hr
    | true => exact Rp.nov hr rfl rfl (fun _ z => z) (nv hh)
  have kk : Kp E E2 H H' (fr ++ p) := Kp.of_frm gds fm2
  have rs2 : Rs E2 H' env σ p := rs.keep kk.K kk.ca kk.gf kk.gv fun a o e z => kk.keep a o e (z.imp (fun w => List.mem_append_right _ w) id)
  have fall : Frm E E2 (g ++ (fr ++ p)) ((ft ++ fo) ++ (fr ++ p)) H H' := by
    have z := fm2.beside (f := fr ++ p)
    exact z.sub (fun x w => (List.mem_append.mp w).elim (fun w => List.mem_append_right _ w) fun w => List.mem_append_left _ w) fun x w => (List.mem_append.mp w).elim (fun w => List.mem_append_right _ w) fun w => List.mem_append_left _ w
  cases o with
  | none =>
    obtain ⟨e1, e2⟩ := mi
    subst e1 e2
    cases hr2
    refine ⟨E2, p, rfl, rfl, eE, fun _ z => z, fun _ => ⟨rfl, by simpa using fm2⟩, rs2, ?_, ?_, .non, rfl⟩
    · have z := gdt
      simp only [List.nil_append, List.append_nil] at z
      exact z.swap
    · simpa using fall
  | some m =>
    obtain ⟨i, st, b, rt⟩ := m
    obtain ⟨v0, f0, t, v, f, m1, m2, m3, m4⟩ := mi
    subst m3
    have hl' := hl i st b rt rfl
    cases hr2 with
    | @cons x _ fx us _ gx h1 h2 =>
      cases h2
      obtain ⟨f0', pm0, r0⟩ := m2.2.2 E2 H' x fx (kk.sub fun a z => List.mem_append_left _ z) (fun z => absurd z m4) h1
      obtain ⟨r, sub, rs3⟩ := rs2.forget i
      obtain ⟨p2, pm2, rs4⟩ := rs3.put (b := b) r0 (i := i) (by rw [List.getElem?_set_self hl'])
      rw [set_self m1, List.set_set] at rs4
      have s1 : p2.Perm (fx ++ (fr ++ r)) := by
        refine pm2.trans ?_
        rw [← List.append_assoc]
        exact List.Perm.append_right _ pm0
      have pm : ((fr ++ r) ++ (ft ++ fx)).Perm (ft ++ p2) := by
        refine List.Perm.trans ?_ (List.Perm.append_left ft s1.symm)
        refine List.perm_append_comm.trans ?_
        rw [List.append_assoc]
      have gdt' : Gd E2 H' ((fr ++ r) ++ (ft ++ fx)) := by
        have z : Gd E2 H' ((fr ++ p) ++ (ft ++ fx)) := by simpa using gdt
        exact z.sub (List.Sublist.append (List.Sublist.append (.refl _) sub) (.refl _))
      refine ⟨E2, p2, rfl, rfl, eE, fun _ z => z, (fun z => by cases z), rs4, gdt'.perm pm, ?_, _, rfl⟩
      refine fall.sub (fun _ z => z) fun a z => ?_
      rcases List.mem_append.mp (pm.mem_iff.mpr z) with z | z
      · refine List.mem_append_right _ ?_
        rcases List.mem_append.mp z with z | z
        · exact List.mem_append_left _ z
        · exact List.mem_append_right _ (sub.subset z)
      · exact List.mem_append_left _ (by simpa using z)
section
variable {R : RP} {W : WX} {ta : TA} {as : As} {wr : En → XC → (List T → MI → En → Prop) → Prop} {q k : Bool}
theorem mOf_v : ∀ {ms : List Md} {vs : List V}, (∀ m ∈ ms, m = .v) → mOf ms vs = []
  | [], vs, _ => by cases vs <;> rfl
  | m :: ms, [], h => by cases m <;> rfl
  | m :: ms, v :: vs, h => by
    have e := h m (by simp)
    subst e
    show mOf ms vs = []
    exact mOf_v (ms := ms) (vs := vs) fun m z => h m (by simp [z])
theorem mOf_eq : ∀ {ms ns : List Md} {vs : List V}, okMs ms ns = true → vs.length = ns.length → mOf ms vs = mOf ns vs
  | [], ns, vs, h, _ => by
    have h : (ns.all fun n => decide (n = .v)) = true := by cases ns <;> exact h
    have e1 : mOf [] vs = [] := by cases vs <;> rfl
    rw [e1, mOf_v fun m z => of_decide_eq_true (List.all_eq_true.mp h m z)]
  | m :: ms, [], vs, h, hl => by
    have e : vs = [] := by simpa using hl
    subst e
    cases m <;> rfl
  | m :: ms, n :: ns, [], _, hl => by simp at hl
  | m :: ms, n :: ns, v :: vs, h, hl => by
    obtain ⟨h1, h2⟩ := Bool.and_eq_true_iff.mp (show (decide (m = n) && okMs ms ns) = true from h)
    have e := of_decide_eq_true h1
    subst e
    have ih := mOf_eq (vs := vs) h2 (by simpa using hl)
    cases m with
    | v => exact ih
    | m =>
      show v :: mOf ms vs = v :: mOf ns vs
      rw [ih]
theorem As.ms_len : ∀ as : As, as.ms.length = as.len
  | .nil => rfl
  | .cons (.v _) r => by show r.ms.length + 1 = r.len + 1; rw [As.ms_len r]
  | .cons (.m _) r => by show r.ms.length + 1 = r.len + 1; rw [As.ms_len r]
  | .cons (.w _) r => by show r.ms.length + 1 = r.len + 1; rw [As.ms_len r]
theorem Sim.call {F : FE} (ha : SimAs R W ta as wr q) (hm : okMs F.ms as.ms = true) (har : okAr F.ms.length F.dfs.length F.star as.len = true) (hq : q = true → as.noM = true) :
    SimE R W (tCallS (spA R.K R.ca.f F) (WE W) ta) (fun env X Q => wr env X fun ts o e1 => F.Ψ (F.arg ts) fun r => match r with
      | .ok t outs => (hasW as = true → nvw t = true ∧ nvws outs = true) ∧ Q t (putO e1 o outs)
      | .ex c fs outs => (hasW as = true → nvws outs = true) ∧ X c fs (putO e1 o outs)) q k := by
  intro E H env σ p Xc Qw Q eK ec rs gd w qq xo
  refine ha E H env σ p Xc _ _ eK ec rs gd w (fun E1 H1 p1 e1 ts vs g fr o rs1 r1 gd1 f1 qf mi io ln lv nm w1 => ?_) xo
  have eK1 : E1.K = R.K := f1.K.trans eK
  have ec1 : E1.ca = R.ca := f1.ca.trans ec
  have hmo : mOf F.ms vs = mOf as.ms vs := mOf_eq hm (by rw [lv, As.ms_len])
  have hlo : ∀ i st b rt, o = some (i, st, b, rt) → i < e1.length := fun i st b rt z => by
    subst z
    obtain ⟨v0, f0, t, v, f, m1, _⟩ := mi
    have := (List.getElem?_eq_some_iff.mp m1).1
    rw [rs1.len]
    exact this
  refine ⟨Ev (hasW as) E1 p1, ts, g, _, Ev.K.trans eK1, congrArg CA.f (Ev.ca.trans ec1), by rw [lv]; exact har, r1, Gd.ev (gd1.sub (List.Sublist.append (.refl _) (List.sublist_append_right _ _))), w1, ?_, ?_⟩
  · intro t outs v E' H' ft fo hr hro gd' fm rq
    rw [hmo] at hro
    obtain ⟨E2, p2, k1, k2, k3, k4, k5, rs2, gd2, fall, x, ex⟩ := back_of rs1 gd1 mi hro gd' fm (fun z => (rq.1 z).2) hlo
    have hr2 : Rep E2 H' t v ft := by
      cases hh : hasW as with
      | false => rw [k3 hh]; exact hr
      | true => exact Rp.nov hr k1 k2 k4 (rq.1 hh).1
    refine qq E2 H' p2 _ t v ft rs2 hr2 gd2.right (fun _ => gd2) (Pst.gk ⟨f1.trans fall, fun z => ?_, ?_⟩) rq.2
    · obtain ⟨s1, s2, s3⟩ := qf z
      have eo := nm (hq z)
      obtain ⟨t1, t2⟩ := k5 eo
      refine ⟨?_, t1.trans s2, s3.trans t2⟩
      subst eo
      exact s1
    · rw [ex]
      exact io x
  · intro c fs outs cls d E' H' fo hro gd' fm hx rq
    rw [hmo] at hro
    obtain ⟨E2, p2, k1, k2, k3, k4, k5, rs2, gd2, fall, x, ex⟩ := back_of (ft := []) rs1 gd1 mi hro gd' fm (fun z => rq.1 z) hlo
    refine xo E2 H' p2 _ c fs cls d rs2 gd2 ⟨f1.trans fall, (fun z => by cases z), ?_⟩ (hx.any (congrArg CA.f k2)) rq.2
    rw [ex]
    exact io x
/-- C(..): a new instance, __init__ -/
def tMakeS (C : Addr) (sp : Sp) (E : L2.St → XK) (t : TA) : TE := fun σ H Q => t σ H fun vs H1 => ∀ x dx, H1 x = none → H1 dx = none → dx ≠ x → sp (.ref x :: vs) (upd (upd H1 dx (.own x)) x (.ins C dx [])) (fun v H2 => v = .non ∧ Q (.ref x) H2) (E σ)
theorem Sim.mk {F : FE} {c : Str} {ms : List Md} (ha : SimAs R W ta as wr q) (hF : F.ms = .m :: ms) (hm : okMs ms as.ms = true) (har : okAr F.ms.length F.dfs.length F.star (as.len + 1) = true) (hq : as.noM = true) :
    SimE R W (tMakeS (R.ca.f c) (spA R.K R.ca.f F) (WE W) ta) (fun env X Q => wr env X fun ts o e1 => o = none ∧ F.Ψ (F.arg (.ins .own c [] [] :: ts)) fun r => match r with
      | .ok t outs => t = .non ∧ (match outs with
        | [y] => (hasW as = true → nvw y = true) ∧ Q y e1
        | _ => False)
      | .ex d fs _ => X d fs e1) q k := by
  intro E H env σ p Xc Qw Q eK ec rs gd w qq xo
  refine ha E H env σ p Xc _ _ eK ec rs gd w (fun E1 H1 p1 e1 ts vs g fr o rs1 r1 gd1 f1 qf mi io ln lv nm w1 => ?_) xo
  intro x dx hx hdx hne
  obtain ⟨eo, w1⟩ := w1
  subst eo
  obtain ⟨efr, emo⟩ := mi
  subst efr
  have eK1 : E1.K = R.K := f1.K.trans eK
  have ec1 : E1.ca = R.ca := f1.ca.trans ec
  have io' : Iok env e1 := io .non
  have hx1 : upd H1 dx (.own x) x = none := by rw [upd_ne (Ne.symm hne)]; exact hx
  have fa : Frm E1 E1 [] [] H1 (upd H1 dx (.own x)) := Frm.laid hdx fun _ z => nomatch z
  have fb : Frm E1 E1 [] [x] (upd H1 dx (.own x)) (upd (upd H1 dx (.own x)) x (.ins (R.ca.f c) dx [])) := Frm.laid hx1 fun y z => .inl (by simpa using z)
  have fab := fa.trans fb
  have gdA : Gd E1 (upd (upd H1 dx (.own x)) x (.ins (R.ca.f c) dx [])) (x :: (g ++ p1)) := by
    have z : Gd E1 H1 (g ++ p1) := by simpa using gd1
    exact (z.laid0 hdx).laid hx1 trivial
  have rs2 := rs1.kp (Kp.of0 fab (l := p1))
  have gd2 : Gd E1 (upd (upd H1 dx (.own x)) x (.ins (R.ca.f c) dx [])) ((x :: g) ++ ([] ++ p1)) := by simpa using gdA
  have r2 : Reps (Ev (hasW as) E1 p1) (upd (upd H1 dx (.own x)) x (.ins (R.ca.f c) dx [])) ts vs g := Rp.kp (fr := g) ⟨rfl, rfl, fun _ z => z, fun _ z => z, fun a o e _ => fab.keep a o e (by simp)⟩ r1 fun _ z => z
  have r3 : Reps (Ev (hasW as) E1 p1) (upd (upd H1 dx (.own x)) x (.ins (R.ca.f c) dx [])) (.ins .own c [] [] :: ts) (.ref x :: vs) (([x] ++ []) ++ g) :=
    .cons (.ins (f := .own) (dx := dx) (by rw [upd_same, show (Ev (hasW as) E1 p1).ca.f c = R.ca.f c by rw [Ev.ca, ec1]]; rfl) rfl trivial (by decide) .nil fun z => absurd rfl z) r2
  have hmo : mOf F.ms (.ref x :: vs) = [.ref x] := by
    rw [hF]
    show V.ref x :: mOf ms vs = _
    rw [mOf_eq hm (by rw [lv, As.ms_len]), emo]
  have fAll : Frm E E1 p ((x :: g) ++ p1) H (upd (upd H1 dx (.own x)) x (.ins (R.ca.f c) dx [])) := by
    have z := fab.beside (f := g ++ p1)
    have z1 : Frm E E1 p (g ++ p1) H H1 := by simpa using f1
    refine (z1.trans (by simpa using z)).sub (fun _ z => z) fun y hy => ?_
    simp only [List.cons_append, List.mem_cons, List.mem_append, List.mem_singleton, List.not_mem_nil, or_false] at hy ⊢
    rcases hy with hy | hy | hy
    · exact .inr (.inr hy)
    · exact .inl hy
    · exact .inr (.inl hy)
  refine ⟨Ev (hasW as) E1 p1, .ins .own c [] [] :: ts, x :: g, _, Ev.K.trans eK1, congrArg CA.f (Ev.ca.trans ec1), by show okAr F.ms.length F.dfs.length F.star (vs.length + 1) = true; rw [lv]; exact har, r3, Gd.ev (gd2.sub (List.Sublist.append (.refl _) (List.sublist_append_right _ _))), w1, ?_, ?_⟩
  · intro t outs v E' H' ft fo hr hro gd' fm rq
    rw [hmo] at hro
    obtain ⟨et, rq⟩ := rq
    subst et
    cases hr
    rcases outs with _ | ⟨y, _ | ⟨y2, outs⟩⟩ <;> first | exact rq.elim | skip
    obtain ⟨w, ew, ry⟩ := reps1 hro
    cases ew
    have gd3 : Gd E' H' (fo ++ []) := by simpa using gd'
    have fm3 : Frm (Ev (hasW as) E1 p1) E' (x :: g) (fo ++ []) (upd (upd H1 dx (.own x)) x (.ins (R.ca.f c) dx [])) H' := by simpa using fm
    obtain ⟨E2, p2, k1, k2, k3, k4, k5, rs3, gd4, fall, y', ex⟩ := back_of (o := none) (fr := []) (outs := []) (ws := []) (ft := fo) (fo := []) rs2 gd2 ⟨rfl, rfl⟩ .nil gd3 fm3 (fun _ => rfl) (fun _ _ _ _ z => nomatch z)
    have hr2 : Rep E2 H' y (.ref x) fo := by
      cases hh : hasW as with
      | false => rw [k3 hh]; exact ry
      | true => exact Rp.nov ry k1 k2 k4 (rq.1 hh)
    refine ⟨rfl, qq E2 H' p2 e1 y (.ref x) fo rs3 hr2 gd4.right (fun _ => gd4) (Pst.gk ⟨?_, fun z => ?_, io'⟩) rq.2⟩
    · exact fAll.trans (by simpa using fall)
    · obtain ⟨s1, s2, s3⟩ := qf z
      obtain ⟨t1, t2⟩ := k5 rfl
      refine ⟨s1, t1.trans s2, ?_⟩
      have z1 : Frm E E1 [] (x :: g) H (upd (upd H1 dx (.own x)) x (.ins (R.ca.f c) dx [])) := by
        have z := fab.beside (f := g)
        rw [List.append_nil] at z
        exact (s3.trans z).sub (fun _ z => z) fun y hy => by
          simp only [List.mem_cons, List.mem_append, List.mem_singleton, List.not_mem_nil, or_false] at hy ⊢
          exact hy.symm
      exact z1.trans t2
  · intro d fs outs cls dd E' H' fo hro gd' fm hx rq
    rw [hmo] at hro
    have gd3 : Gd E' H' ([] ++ []) := ⟨List.nodup_nil, (fun _ z => nomatch z), gd'.dm, (fun _ z => nomatch z)⟩
    have fm3 : Frm (Ev (hasW as) E1 p1) E' (x :: g) ([] ++ []) (upd (upd H1 dx (.own x)) x (.ins (R.ca.f c) dx [])) H' := fm.sub (fun _ z => z) fun _ z => nomatch z
    obtain ⟨E2, p2, k1, k2, k3, k4, k5, rs3, gd4, fall, y', ex⟩ := back_of (o := none) (fr := []) (outs := []) (ws := []) (ft := []) (fo := []) rs2 gd2 ⟨rfl, rfl⟩ .nil gd3 fm3 (fun _ => rfl) (fun _ _ _ _ z => nomatch z)
    exact xo E2 H' p2 e1 d fs cls dd rs3 gd4 ⟨fAll.trans (by simpa using fall), (fun z => by cases z), io'⟩ (hx.any (congrArg CA.f k2)) rq
/-- an instance whose class has the method -/
def tSelf (C : Addr) (m : Str) (ta : TE) : TE := fun σ H Q => ta σ H fun x H1 => (∃ a dx fs, x = .ref a ∧ H1 a = some (.ins C dx fs) ∧ fs.lookup m = none) ∧ Q x H1
theorem zip_none {m : Str} : ∀ {ns : List Str} {ts : List T} {vs : List V}, vs.length = ts.length → lookT m ns ts = none → (ns.zip vs).lookup m = none
  | [], _, _, _, _ => rfl
  | n :: ns, [], vs, hl, _ => by
    have e : vs = [] := by simpa using hl
    subst e
    rfl
  | n :: ns, t :: ts, [], hl, _ => by simp at hl
  | n :: ns, t :: ts, v :: vs, hl, h => by
    have h' : (if m = n then some t else lookT m ns ts) = none := h
    by_cases e : m = n
    · rw [if_pos e] at h'; cases h'
    · rw [if_neg e] at h'
      have e2 : (m == n) = false := by simpa using e
      show (match m == n with | true => some v | false => (ns.zip vs).lookup m) = none
      rw [e2]
      exact zip_none (by simpa using hl) h'
theorem slf_at {E : RE} {H : Hp} {x : T} {v : V} {f : List Addr} {c m : Str} (r : Rep E H x v f) (h : slfT x c m) : ∃ a dx fs, v = .ref a ∧ H a = some (.ins (E.ca.f c) dx fs) ∧ fs.lookup m = none := by
  cases x <;> first | exact h.elim | skip
  obtain ⟨h1, h2⟩ := h
  subst h1
  cases r with
  | ins k1 k2 _ _ k5 _ => exact ⟨_, _, _, rfl, k1, zip_none (Reps.length k5).symm h2⟩
theorem SimP.slf {tp : TE} {wp : En → XC → (Nat → List Step → T → Prop) → Prop} {c m : Str} (ha : SimP R W tp wp) : SimP R W (tSelf (R.ca.f c) m tp) (fun env X Q => wp env X fun i st x => slfT x c m ∧ Q i st x) := by
  intro E H env σ p Xc Qw Q eK ec rs gd w qq xo
  refine ha E H env σ p Xc _ _ eK ec rs gd w (fun E1 H1 i st x v b rt v0 f0 rest f fr0 rs1 gd1 ps1 a1 w1 => ?_) xo
  have z := slf_at a1.fc.2.1 w1.1
  rw [ps1.Ec ec] at z
  exact ⟨z, qq E1 H1 i st x v b rt v0 f0 rest f fr0 rs1 gd1 ps1 a1 w1.2⟩
theorem Sim.slf {te : TE} {we : En → XC → (T → En → Prop) → Prop} {c m : Str} (ha : SimE R W te we q k) : SimE R W (tSelf (R.ca.f c) m te) (fun env X Q => we env X fun x e1 => slfT x c m ∧ Q x e1) q k := by
  intro E H env σ p Xc Qw Q eK ec rs gd w qq xo
  refine ha E H env σ p Xc _ _ eK ec rs gd w (fun E1 H1 p1 e1 t v g rs1 r1 gd1 gg ps1 w1 => ?_) xo
  have z := slf_at r1 w1.1
  rw [ps1.Ec ec] at z
  exact ⟨z, qq E1 H1 p1 e1 t v g rs1 r1 gd1 gg ps1 w1.2⟩
end
end
end OT
end
section
set_option Elab.async false
set_option linter.all false
set_option maxRecDepth 100000
set_option maxHeartbeats 2000000
namespace OT
open PySem PySem.Spec PyProof.Rows L2
/-! ### what a loop walks -/
/-- from (E, H) on the walk J yields l -/
structure Wk (J : L2.It) (E : RE) (H : Hp) (l : List T) : Prop where
  go : ∀ E' H' i t, l[i]? = some t → Kp E E' H H' [] → J.go i H'
  yld : ∀ E' H' i t x H'', l[i]? = some t → Kp E E' H H' [] → J.yld i H' x H'' → Frm E' E' [] [] H' H'' ∧ Rep E' H'' t x []
  stop : ∀ E' H', Kp E E' H H' [] → J.stop l.length H'
theorem Wk.kp {J : L2.It} {E E1 : RE} {H H1 : Hp} {l : List T} (w : Wk J E H l) (k : Kp E E1 H H1 []) : Wk J E1 H1 l :=
  ⟨fun E' H' i t e k' => w.go E' H' i t e (k.trans k' fun _ z => z), fun E' H' i t x H'' e k' y => w.yld E' H' i t x H'' e (k.trans k' fun _ z => z) y, fun E' H' k' => w.stop E' H' (k.trans k' fun _ z => z)⟩
section
variable {E : RE} {H : Hp} {a : Addr} {ts : List T} {vs : List V}
theorem Wk.lst {fl : Fl} (hl : LsAt E.K H fl a vs) (hr : E.reg fl a) (no : fl ≠ .own) (h : Reps E H ts vs []) : Wk (Itl E.K a) E H ts := by
  have sq : ∀ E' H', Kp E E' H H' [] → SqL E.K H' a vs := fun E' H' k => by
    have z := ls_sql (ls_kp hl hr k fun e => absurd e no)
    rw [k.K] at z
    exact z
  refine ⟨fun E' H' i t e k => ?_, fun E' H' i t x H'' e k y => ?_, fun E' H' k => ⟨vs, sq E' H' k, by rw [Reps.length h]; exact Nat.le_refl _⟩⟩
  · obtain ⟨v, g, ev, _, _⟩ := Reps.get h e
    exact ⟨vs, v, sq E' H' k, ev⟩
  · obtain ⟨e1, y⟩ := y
    subst e1
    exact ⟨Frm.refl, (h.at0 e (y vs (sq E' _ k))).kp k fun _ z => z⟩
theorem Wk.tup (hl : SqT E.K H a vs) (h : Reps E H ts vs []) : Wk (Itt E.K a) E H ts := by
  have sq : ∀ E' H', Kp E E' H H' [] → SqT E.K H' a vs := fun E' H' k => sqt_keep hl fun o e m => k.keep _ _ e (.inr (.inr (.inr m)))
  refine ⟨fun E' H' i t e k => ?_, fun E' H' i t x H'' e k y => ?_, fun E' H' k => ⟨vs, sq E' H' k, by rw [Reps.length h]; exact Nat.le_refl _⟩⟩
  · obtain ⟨v, g, ev, _, _⟩ := Reps.get h e
    exact ⟨vs, v, sq E' H' k, ev⟩
  · obtain ⟨e1, y⟩ := y
    subst e1
    exact ⟨Frm.refl, (h.at0 e (y vs (sq E' _ k))).kp k fun _ z => z⟩
theorem Wk.str {z : Str} : Wk (Its z) E H (z.cps.toList.map fun c => .str ⟨#[c]⟩) := by
  refine ⟨fun E' H' i t e k => ?_, fun E' H' i t x H'' e k y => ?_, fun E' H' k => by show z.cps.size ≤ _; simp⟩
  · show i < z.cps.size
    have := (List.getElem?_eq_some_iff.mp e).1
    simpa using this
  · obtain ⟨e1, c, e2, e3⟩ := y
    subst e1 e3
    refine ⟨Frm.refl, ?_⟩
    rw [List.getElem?_map] at e
    have e4 : z.cps.toList[i]? = some c := by simpa using e2
    rw [e4] at e
    cases e
    exact .str
theorem Wk.rng {lo : Int} {n : Nat} : Wk (Itr lo n) E H ((List.range n).map fun (k : Nat) => T.int (lo + (k : Int))) := by
  refine ⟨fun E' H' i t e k => ?_, fun E' H' i t x H'' e k y => ?_, fun E' H' k => by show n ≤ _; simp⟩
  · show i < n
    have := (List.getElem?_eq_some_iff.mp e).1
    simpa using this
  · obtain ⟨e1, e3⟩ := y
    subst e1 e3
    refine ⟨Frm.refl, ?_⟩
    rw [List.getElem?_map] at e
    have hl : i < n := by
      cases q : (List.range n)[i]? with
      | none => rw [q] at e; cases e
      | some m => simpa using (List.getElem?_eq_some_iff.mp q).1
    rw [List.getElem?_range hl] at e
    cases e
    exact .int
theorem Wk.enum {fl : Fl} (hl : LsAt E.K H fl a vs) (hr : E.reg fl a) (no : fl ≠ .own) (h : Reps E H ts vs []) : Wk (Ite E.K a) E H (((List.range ts.length).zip ts).map fun q => T.tup [T.int q.1, q.2]) := by
  have sq : ∀ E' H', Kp E E' H H' [] → SqL E.K H' a vs := fun E' H' k => by
    have z := ls_sql (ls_kp hl hr k fun e => absurd e no)
    rw [k.K] at z
    exact z
  have at_ : ∀ i t, (((List.range ts.length).zip ts).map fun q => T.tup [T.int q.1, q.2])[i]? = some t → ∃ x, ts[i]? = some x ∧ t = T.tup [T.int (i : Nat), x] := fun i t e => by
    rw [List.getElem?_map] at e
    cases q : ((List.range ts.length).zip ts)[i]? with
    | none => rw [q] at e; cases e
    | some m =>
      rw [q] at e
      cases e
      obtain ⟨h1, h2⟩ := List.getElem?_zip_eq_some.mp q
      have hi : i < ts.length := (List.getElem?_eq_some_iff.mp h2).1
      rw [List.getElem?_range hi] at h1
      cases h1
      exact ⟨_, h2, rfl⟩
  refine ⟨fun E' H' i t e k => ?_, fun E' H' i t x H'' e k y => ?_, fun E' H' k => ⟨vs, sq E' H' k, by rw [← Reps.length h]; simp⟩⟩
  · obtain ⟨x, e1, e2⟩ := at_ i t e
    obtain ⟨v, g, ev, _, _⟩ := Reps.get h e1
    exact ⟨vs, v, sq E' H' k, ev⟩
  · obtain ⟨x', e1, e2⟩ := at_ i t e
    subst e2
    obtain ⟨Tt, y', e3, hn, e4, y⟩ := y
    subst e3 e4
    refine ⟨Frm.laid hn (fun _ z => by cases z), ?_⟩
    have r := (h.at0 e1 (y vs (sq E' _ k))).kp k fun _ z => z
    have rs : Reps E' (upd H' Tt (.tup [.int (i : Nat), y'])) [.int (i : Nat), x'] [.int (i : Nat), y'] [] := Rp.cons (f := []) (g := []) .int (Rp.cons (f := []) (g := []) (r.laid hn) .nil)
    exact .tup (SqT.of upd_same) rs
end
mutual
theorem turn_cpy (g : Fl) : ∀ {t : T}, cpy t = true → turn g t = t
  | .non, _ => rfl
  | .bl _, _ => rfl
  | .int _, _ => rfl
  | .str _, _ => rfl
  | .rng _ _, _ => rfl
  | .gap _, h => by cases h
  | .xo _ _ _, _ => rfl
  | .tup ts, h => by show T.tup (turns g ts) = _; rw [turns_cpy g h]
  | .lst f ts, h => by
    obtain ⟨c1, c2⟩ := Bool.and_eq_true_iff.mp (show (f != .own && cpys ts) = true from h)
    show T.lst (toF g f) (turns g ts) = _
    rw [turns_cpy g c2]
    cases f <;> first | rfl | cases c1
  | .dic f ks ts, h => by
    obtain ⟨c1, c2⟩ := Bool.and_eq_true_iff.mp (show (f != .own && cpys ts) = true from h)
    show T.dic (toF g f) ks (turns g ts) = _
    rw [turns_cpy g c2]
    cases f <;> first | rfl | cases c1
  | .ins f c ns ts, h => by
    obtain ⟨c1, c2⟩ := Bool.and_eq_true_iff.mp (show (f != .own && cpys ts) = true from h)
    show T.ins (toF g f) c ns (turns g ts) = _
    rw [turns_cpy g c2]
    cases f <;> first | rfl | cases c1
theorem turns_cpy (g : Fl) : ∀ {ts : List T}, cpys ts = true → turns g ts = ts
  | [], _ => rfl
  | t :: r, h => by
    obtain ⟨c1, c2⟩ := Bool.and_eq_true_iff.mp (show (cpy t && cpys r) = true from h)
    show turn g t :: turns g r = _
    rw [turn_cpy g c1, turns_cpy g c2]
end
/-- a temporary is frozen -/
theorem frz_tmp {E : RE} {H : Hp} {t : T} {v : V} {g p : List Addr} {env : En} {σ : L2.St} (r : Rep E H t v g) (gd : Gd E H (g ++ p)) (rs : Rs E H env σ p) :
    ∃ E2 : RE, E2.K = E.K ∧ E2.ca = E.ca ∧ Rep E2 H (turn .frz t) v [] ∧ Rs E2 H env σ p ∧ Gd E2 H p ∧ Frm E E2 g [] H H := by
  let E2 : RE := { E with gf := fun a => E.gf a ∨ a ∈ g }
  refine ⟨E2, rfl, rfl, Rp.turn (fl := .frz) (E' := E2) r (.inl rfl) rfl rfl (fun _ z => .inl z) (fun _ z => z) (fun a z => Or.inr z), rs.keep rfl rfl (fun _ z => .inl z) (fun _ z => z) (fun _ _ h _ => h), ?_, ?_⟩
  · refine ⟨gd.right.nd, fun a z => ⟨fun w => ?_, (gd.right.av a z).2⟩, fun a z => ?_, gd.right.mt⟩
    · rcases w with w | w
      · exact (gd.right.av a z).1 w
      · exact gd.dj w z
    · rcases z with (z | z) | z
      · exact gd.dm a (.inl z)
      · obtain ⟨o, e, _⟩ := gd.mt a (List.mem_append_left _ z)
        rw [e]; simp
      · exact gd.dm a (.inr z)
  · exact ⟨rfl, rfl, rfl, fun _ _ h _ => h, (fun _ z => by cases z), fun _ z => .inl z, fun a z => z.imp id .inl, fun _ z => z⟩
/-! ### anything that is walked -/
def iAny (K : PySem.W.Frag) (tl : TE) : TI := fun σ H R => tl σ H fun x H1 => (∃ a, x = .ref a ∧ (∃ xs, SqL K H1 a xs) ∧ R (Itl K a) H1) ∨ (∃ a, x = .ref a ∧ (∃ xs, SqT K H1 a xs) ∧ R (Itt K a) H1) ∨ ∃ z, x = .str z ∧ R (Its z) H1
theorem pi_any {X : Cx} {tg l : Expr} {tl : TE} (hl : PE X l tl) : PI X tg l (iAny X.K tl) := by
  refine ⟨fun pins s σ H R I h => ?_⟩
  refine thn (hl.run pins s σ H _ I h) fun v s1 ⟨x, H1, I1, r1, q1⟩ => ?_
  rcases q1 with ⟨a, e, ⟨xs, hq⟩, q⟩ | ⟨a, e, ⟨xs, hq⟩, q⟩ | ⟨z, e, q⟩
  · subst e
    cases r1
    obtain ⟨its, rv, p, hz⟩ := I1.list hq
    refine wpAny_pyIter_list p.isList ?_
    refine ⟨s1.heap.objs.size, [s1.heap.objs.size], _, _, H1, rfl, I1.kept (t' := s1.toks) fun b o e => Heap.get?_push_of_some _ e, turn_list a _, ⟨_, Heap.get?_push_size _ rfl, rfl, rfl⟩, fun b hb => ?_, q⟩
    have e : b = s1.heap.objs.size := by simpa using hb
    subst e
    exact I1.fpOk (Nat.le_refl _) (I1.hok.fresh (Nat.le_refl _))
  · subst e
    cases r1
    obtain ⟨its, rv, p, hz⟩ := I1.tuple hq
    refine wpAny_pyIter_tuple (show s1.heap.IsTuple a its.toArray from p) ?_
    refine ⟨s1.heap.objs.size, [s1.heap.objs.size], _, _, H1, rfl, I1.kept (t' := s1.toks) fun b o e => Heap.get?_push_of_some _ e, turn_tuple a _, ⟨_, Heap.get?_push_size _ rfl, rfl, rfl⟩, fun b hb => ?_, q⟩
    have e : b = s1.heap.objs.size := by simpa using hb
    subst e
    exact I1.fpOk (Nat.le_refl _) (I1.hok.fresh (Nat.le_refl _))
  · subst e
    obtain ⟨t, rfl⟩ := r1
    cases ha : z.cps.all (· < 128)
    · exact wpAny_pyIter_wide ha (pi_one (tk := s1.toks) I1 _ (turn_str _ z t "str_iterator" (.inr rfl)) ⟨_, Heap.get?_push_size _ rfl, rfl, rfl⟩ q)
    · exact wpAny_pyIter_ascii ha (pi_one (tk := s1.toks) I1 _ (turn_str _ z t "str_ascii_iterator" (.inl rfl)) ⟨_, Heap.get?_push_size _ rfl, rfl, rfl⟩ q)
def SimI (R : RP) (W : WX) (wi : TI) (wp : En → XC → (Tn → En → Prop) → Prop) (q : Bool) : Prop :=
  ∀ (E : RE) (H : Hp) (env : En) (σ : L2.St) (p : List Addr) (Xc : XC) (Qw : Tn → En → Prop) (Rr : L2.It → Hp → Prop), E.K = R.K → E.ca = R.ca → Rs E H env σ p → Gd E H p → wp env Xc Qw →
    (∀ E' H' p' env' tn J, Rs E' H' env' σ p' → Gd E' H' p' → Pst q E H p env E' H' p' env' [] → Wk J E' H' tn.list → Qw tn env' → Rr J H') → ExOk W E H p env σ Xc → wi σ H Rr
section
variable {R : RP} {W : WX} {ta tb : TE} {wa wb : En → XC → (T → En → Prop) → Prop} {qa qb ka : Bool}
theorem SimI.val (ha : SimE R W ta wa qa false) : SimI R W (iAny R.K ta) (fun env X Q => wa env X fun x e1 => match x with
    | .lst _ ts => cpys ts = true ∧ Q (.items ts) e1
    | .tup ts => cpys ts = true ∧ Q (.items ts) e1
    | .str z => Q (.items (z.cps.toList.map fun c => .str ⟨#[c]⟩)) e1
    | _ => False) qa := by
  intro E H env σ p Xc Qw Rr eK ec rs gd w q xo
  refine ha E H env σ p Xc _ _ eK ec rs gd w (fun E1 H1 p1 e1 t1 v1 g1 rs1 r1 gd1 gg1 ps1 w1 => ?_) xo
  have gg := gg1 rfl
  have eK1 := ps1.EK eK
  have ps1' : Pst qa E H p env E1 H1 p1 e1 g1 := ps1
  cases t1 <;> first | exact False.elim w1 | skip
  · rename_i z
    cases r1
    exact .inr (.inr ⟨z, rfl, q E1 H1 p1 e1 _ (Its z) rs1 gd1 ps1'.drop Wk.str w1⟩)
  · rename_i ts
    obtain ⟨c, w1⟩ := w1
    cases r1 with
    | @tup a _ vs _ h1 h2 => exact .inr (.inl ⟨a, rfl, ⟨vs, by rw [← eK1]; exact h1⟩, q E1 H1 p1 e1 (.items ts) (Itt R.K a) rs1 gd1 ps1'.drop (by rw [← eK1]; exact Wk.tup h1 (Reps.of_cpys h2 c)) w1⟩)
  · rename_i fl ts
    obtain ⟨c, w1⟩ := w1
    obtain ⟨E2, k1, k2, r2, rs2, gd2, fr⟩ := frz_tmp r1 gg rs1
    have ps2 : Pst qa E H p env E2 H1 p1 e1 [] := by
      refine ⟨ps1'.fr.trans ?_, fun z => ?_, ps1'.io⟩
      · have z := fr.beside (f := p1)
        exact z.sub (fun x w => (List.mem_append.mp w).elim (fun w => List.mem_append_right _ w) fun w => List.mem_append_left _ w) fun x w => by simpa using w
      · obtain ⟨s1, s2, s3⟩ := ps1'.qf z
        exact ⟨s1, s2, s3.trans fr⟩
    have r2' : Rep E2 H1 (.lst (toF .frz fl) (turns .frz ts)) v1 [] := r2
    rw [turns_cpy .frz c] at r2'
    generalize hfl : toF .frz fl = fl2 at r2'
    have no : fl2 ≠ .own := by subst hfl; cases fl <;> decide
    generalize hg : ([] : List Addr) = gg0 at r2'
    cases r2' with
    | @lst _ a _ vs g2 h1 h2 h3 h4 =>
      have e2 : g2 = [] := h4 no
      subst e2
      exact .inl ⟨a, rfl, ⟨vs, by rw [← eK1, ← k1]; exact ls_sql h1⟩, q E2 H1 p1 e1 (.items ts) (Itl R.K a) rs2 gd2 ps2 (by rw [← eK1, ← k1]; exact Wk.lst h1 h2 no h3) w1⟩
theorem SimI.rng1 (ha : SimE R W ta wa qa true) : SimI R W (iRng1 (tCons ta tNil)) (fun env X Q => wa env X fun x e1 => match x with
    | .int j => (-(2 ^ 62) ≤ j ∧ j < 2 ^ 62) ∧ Q (.rng 0 j.toNat) e1
    | _ => False) qa := by
  intro E H env σ p Xc Qw Rr eK ec rs gd w q xo
  refine ha E H env σ p Xc _ _ eK ec rs gd w (fun E1 H1 p1 e1 t1 v1 g1 rs1 r1 gd1 gg1 ps1 w1 => ?_) xo
  cases t1 <;> first | exact False.elim w1 | skip
  rename_i j
  cases r1
  exact ⟨j, rfl, w1.1.1, w1.1.2, q E1 H1 p1 e1 (.rng 0 j.toNat) (Itr 0 j.toNat) rs1 gd1 ps1 Wk.rng w1.2⟩
theorem SimI.rng2 (ha : SimE R W ta wa qa ka) (hb : SimE R W tb wb qb true) (hk : ka = true → qb = true) : SimI R W (iRng2 (tCons ta (tCons tb tNil))) (fun env X Q => wa env X fun x e1 => wb e1 X fun y e2 => match x, y with
    | .int i, .int j => (-(2 ^ 62) ≤ i ∧ i < 2 ^ 62 ∧ -(2 ^ 62) ≤ j ∧ j < 2 ^ 62) ∧ Q (.rng i (j - i).toNat) e2
    | _, _ => False) (qa && qb) := by
  intro E H env σ p Xc Qw Rr eK ec rs gd w q xo
  refine ha E H env σ p Xc _ _ eK ec rs gd w (fun E1 H1 p1 e1 t1 v1 g1 rs1 r1 gd1 gg1 ps1 w1 => ?_) xo
  refine hb E1 H1 e1 σ p1 Xc _ _ (ps1.EK eK) (ps1.Ec ec) rs1 gd1 w1 (fun E2 H2 p2 e2 t2 v2 g2 rs2 r2 gd2 _ ps2 w2 => ?_) (xo.next ps1)
  cases t1 <;> cases t2 <;> first | exact False.elim w2 | skip
  rename_i i j
  cases r1; cases r2
  exact ⟨i, j, rfl, w2.1, q E2 H2 p2 e2 (.rng i (j - i).toNat) (Itr i (j - i).toNat) rs2 gd2 (ps1.trans ps2) Wk.rng w2.2⟩
theorem SimI.enum (ha : SimE R W ta wa qa false) : SimI R W (iEnum R.K (tCons ta tNil)) (fun env X Q => wa env X fun x e1 => match x with
    | .lst _ ts => cpys ts = true ∧ Q (.enum ts) e1
    | _ => False) qa := by
  intro E H env σ p Xc Qw Rr eK ec rs gd w q xo
  refine ha E H env σ p Xc _ _ eK ec rs gd w (fun E1 H1 p1 e1 t1 v1 g1 rs1 r1 gd1 gg1 ps1 w1 => ?_) xo
  have gg := gg1 rfl
  have eK1 := ps1.EK eK
  have ps1' : Pst qa E H p env E1 H1 p1 e1 g1 := ps1
  cases t1 <;> first | exact False.elim w1 | skip
  rename_i fl ts
  obtain ⟨c, w1⟩ := w1
  obtain ⟨E2, k1, k2, r2, rs2, gd2, fr⟩ := frz_tmp r1 gg rs1
  have ps2 : Pst qa E H p env E2 H1 p1 e1 [] := by
    refine ⟨ps1'.fr.trans ?_, fun z => ?_, ps1'.io⟩
    · have z := fr.beside (f := p1)
      exact z.sub (fun x w => (List.mem_append.mp w).elim (fun w => List.mem_append_right _ w) fun w => List.mem_append_left _ w) fun x w => by simpa using w
    · obtain ⟨s1, s2, s3⟩ := ps1'.qf z
      exact ⟨s1, s2, s3.trans fr⟩
  have r2' : Rep E2 H1 (.lst (toF .frz fl) (turns .frz ts)) v1 [] := r2
  rw [turns_cpy .frz c] at r2'
  generalize hfl : toF .frz fl = fl2 at r2'
  have no : fl2 ≠ .own := by subst hfl; cases fl <;> decide
  generalize hg : ([] : List Addr) = gg0 at r2'
  cases r2' with
  | @lst _ a _ vs g2 h1 h2 h3 h4 =>
    have e2 : g2 = [] := h4 no
    subst e2
    exact ⟨a, vs, rfl, by rw [← eK1, ← k1]; exact ls_sql h1, q E2 H1 p1 e1 (.enum ts) (Ite R.K a) rs2 gd2 ps2 (by rw [← eK1, ← k1]; exact Wk.enum h1 h2 no h3) w1⟩
end
end OT
end
section
set_option Elab.async false
set_option linter.all false
set_option maxRecDepth 100000
set_option maxHeartbeats 2000000
namespace OT
open PySem PySem.Spec PyProof.Rows L2
/-! ### storing -/
def gNs : List Nat → TGs
  | [] => gNil
  | i :: r => gCons (gName i) (gNs r)
def gT (K : PySem.W.Frag) : Tg → TG
  | .nm i => gName i
  | .tp is => gTup K is.length (gNs is)
def Tg.ixs : Tg → List Nat
  | .nm i => [i]
  | .tp is => is
theorem wipeE_len (env : En) : ∀ vs, (wipeE env vs).length = env.length
  | [] => rfl
  | v :: vs => by show ((wipeE env vs).set v .und).length = _; rw [List.length_set, wipeE_len env vs]
theorem wipe_set {σ : L2.St} {i : Nat} {o : Option V} : ∀ {vs : List Nat}, i ∈ vs → wipe (σ.set i o) vs = wipe σ vs
  | [], h => by cases h
  | v :: vs, h => by
    by_cases hv : v = i
    · subst hv
      show (wipe (σ.set v o) vs).set v none = (wipe σ vs).set v none
      apply List.ext_getElem?
      intro j
      by_cases hj : v = j
      · subst hj
        by_cases hl : v < σ.length
        · rw [List.getElem?_set_self (by rw [wipe_length, List.length_set]; exact hl), List.getElem?_set_self (by rw [wipe_length]; exact hl)]
        · rw [List.getElem?_eq_none (by rw [List.length_set, wipe_length, List.length_set]; omega), List.getElem?_eq_none (by rw [List.length_set, wipe_length]; omega)]
      · rw [List.getElem?_set_ne hj, List.getElem?_set_ne hj]
        by_cases hm : j ∈ vs
        · have key : ∀ {τ : L2.St} {ws : List Nat}, j ∈ ws → (wipe τ ws)[j]? = (if j < τ.length then some none else none) := by
            intro τ ws
            induction ws with
            | nil => intro h; cases h
            | cons w ws ih =>
              intro h
              show ((wipe τ ws).set w none)[j]? = _
              by_cases hw : w = j
              · subst hw
                by_cases hl : w < τ.length
                · rw [List.getElem?_set_self (by rw [wipe_length]; exact hl), if_pos hl]
                · rw [List.getElem?_eq_none (by rw [List.length_set, wipe_length]; omega), if_neg hl]
              · rw [List.getElem?_set_ne hw]
                exact ih ((List.mem_cons.mp h).resolve_left fun e => hw e.symm)
          rw [key hm, key hm, List.length_set]
        · rw [wipe_out hm, wipe_out hm, List.getElem?_set_ne hj]
    · show (wipe (σ.set i o) vs).set v none = (wipe σ vs).set v none
      rw [wipe_set ((List.mem_cons.mp h).resolve_left fun e => hv e.symm)]
theorem Rs.wipe {E : RE} {H : Hp} {env : En} {σ : L2.St} {p : List Addr} (rs : Rs E H env σ p) : ∀ vs : List Nat, ∃ r, r.Sublist p ∧ Rs E H (wipeE env vs) (L2.wipe σ vs) r
  | [] => ⟨p, .refl _, rs⟩
  | v :: vs => by
    obtain ⟨r, s, q⟩ := Rs.wipe rs vs
    obtain ⟨r2, s2, q2⟩ := q.forget v
    by_cases hl : v < (wipeE env vs).length
    · exact ⟨r2, s2.trans s, q2.any none (by rw [List.getElem?_set_self hl])⟩
    · refine ⟨r2, s2.trans s, ?_⟩
      have e : (L2.wipe σ vs).set v none = L2.wipe σ vs := List.set_eq_of_length_le (by have := q.len; omega)
      show Rs E H ((wipeE env vs).set v .und) ((L2.wipe σ vs).set v none) r2
      rw [e]
      exact q2
def SimG (R : RP) (gt : TG) (g : Tg) : Prop :=
  ∀ (E : RE) (H : Hp) (env : En) (σ : L2.St) (p f : List Addr) (v : V) (t : T) (Qw : En → Prop) (Q : L2.St → Hp → Prop), E.K = R.K → Rs E H env σ p → Rep E H t v f → Gd E H (f ++ p) → storeT g t env Qw →
    (∀ env' σ' p', Rs E H env' σ' p' → Gd E H p' → (∀ x ∈ p', x ∈ f ++ p) → Iok env env' → Sik env σ σ' → (∀ vs, (∀ i ∈ g.ixs, i ∈ vs) → wipe σ' vs = wipe σ vs) → Qw env' → Q σ' H) → gt v σ H Q
theorem stok_iok {env : En} {i : Nat} {s : Sl} (h : stok env i = true) : Iok env (env.set i s) := by
  unfold stok at h
  split at h
  · rename_i u e
    cases u with
    | und => exact Iok.set (t := .non) (.inr e)
    | has b t =>
      cases b with
      | false => exact Iok.set (t := t) (.inl e)
      | true => cases h
    | exn _ _ => cases h
  · cases h
theorem stok_not {env : En} {i : Nat} (h : stok env i = true) : ∀ t, env[i]? ≠ some (.has true t) := fun t e => by
  unfold stok at h
  rw [e] at h
  cases h
theorem stok_lt {env : En} {i : Nat} (h : stok env i = true) : i < env.length := by
  unfold stok at h
  split at h
  · rename_i u e
    exact (List.getElem?_eq_some_iff.mp e).1
  · cases h
theorem stok_set {env : En} {i j : Nat} {t : T} (h : stok env j = true) (hi : i < env.length) : stok (env.set i (.has false t)) j = true := by
  unfold stok at h ⊢
  by_cases e : i = j
  · subst e
    rw [List.getElem?_set_self hi]
    rfl
  · rw [List.getElem?_set_ne e]
    exact h
theorem store_one {E : RE} {H : Hp} {env : En} {σ : L2.St} {p f : List Addr} {v : V} {t : T} {i : Nat} (rs : Rs E H env σ p) (r : Rep E H t v f) (gd : Gd E H (f ++ p)) (h : stok env i = true) :
    ∃ p', Rs E H (env.set i (.has false t)) (σ.set i (some v)) p' ∧ Gd E H p' ∧ (∀ x ∈ p', x ∈ f ++ p) := by
  obtain ⟨q, sub, rs2⟩ := rs.forget i
  obtain ⟨p2, pm, rs3⟩ := rs2.put (b := false) r (i := i) (by rw [List.getElem?_set_self (stok_lt h)])
  rw [List.set_set] at rs3
  have gd2 : Gd E H (f ++ q) := gd.sub (List.Sublist.append (.refl _) sub)
  exact ⟨p2, rs3, gd2.perm pm.symm, fun x z => (List.mem_append.mp (pm.mem_iff.mp z)).elim (fun z => List.mem_append_left _ z) fun z => List.mem_append_right _ (sub.subset z)⟩
theorem SimG.nm {R : RP} {i : Nat} : SimG R (gName i) (.nm i) := by
  intro E H env σ p f v t Qw Q eK rs r gd w q
  obtain ⟨p', rs', gd', sub⟩ := store_one rs r gd w.1
  exact q _ _ p' rs' gd' sub (stok_iok w.1) (Sik.set (stok_not w.1)) (fun vs hv => wipe_set (hv i (List.mem_singleton.mpr rfl))) w.2
theorem stores {E : RE} {H : Hp} : ∀ {is : List Nat} {ts : List T} {vs : List V} {env : En} {σ : L2.St} {p f : List Addr} {Q : L2.St → Hp → Prop}, is.length = ts.length → is.all (stok env) = true → Rs E H env σ p → Reps E H ts vs f → Gd E H (f ++ p) →
    (∀ env' σ' p', env' = (is.zip ts).foldl (fun e q => e.set q.1 (.has false q.2)) env → Rs E H env' σ' p' → Gd E H p' → (∀ x ∈ p', x ∈ f ++ p) → Iok env env' → Sik env σ σ' → (∀ ws, (∀ i ∈ is, i ∈ ws) → wipe σ' ws = wipe σ ws) → Q σ' H) → gNs is vs σ H Q
  | [], [], vs, env, σ, p, f, Q, _, _, rs, r, gd, q => by
    cases r
    exact ⟨rfl, q env σ p rfl rs (by simpa using gd) (fun x z => List.mem_append_right _ z) (Iok.refl _) Sik.refl fun _ _ => rfl⟩
  | i :: is, t :: ts, vs, env, σ, p, f, Q, hl, ha, rs, r, gd, q => by
    obtain ⟨h1, h2⟩ := Bool.and_eq_true_iff.mp (show (stok env i && is.all (stok env)) = true from ha)
    cases r with
    | @cons _ v f1 _ vs g r1 r2 =>
      have pm : ((f1 ++ g) ++ p).Perm (g ++ (f1 ++ p)) := by
        rw [List.append_assoc]
        rw [← List.append_assoc f1 g p, ← List.append_assoc g f1 p]
        exact List.Perm.append_right _ List.perm_append_comm
      have gd1 := gd.perm pm
      obtain ⟨p', rs', gd', sub⟩ := store_one rs r1 gd1.right h1
      have h2' : is.all (stok (env.set i (.has false t))) = true := by
        rw [List.all_eq_true] at h2 ⊢
        exact fun j z => stok_set (h2 j z) (stok_lt h1)
      have gd2 : Gd E H (g ++ p') := by
        refine ⟨List.nodup_append.mpr ⟨gd1.left.nd, gd'.nd, fun a ha b hb e => ?_⟩, fun a z => ?_, gd.dm, fun a z => ?_⟩
        · subst e
          exact gd1.dj ha (sub a hb)
        · rcases List.mem_append.mp z with z | z
          · exact gd1.av a (List.mem_append_left _ z)
          · exact gd'.av a z
        · rcases List.mem_append.mp z with z | z
          · exact gd1.mt a (List.mem_append_left _ z)
          · exact gd'.mt a z
      refine ⟨v, vs, rfl, ?_⟩
      refine stores (by simpa using hl) h2' rs' r2 gd2 fun env' σ' p'' e rs'' gd'' sub'' io sk hw => ?_
      refine q env' σ' p'' e rs'' gd'' (fun x z => pm.mem_iff.mpr ?_) ((stok_iok h1).trans io) ((Sik.set (stok_not h1)).trans (stok_iok h1) sk) fun ws hws => ?_
      · rcases List.mem_append.mp (sub'' x z) with z | z
        · exact List.mem_append_left _ z
        · exact List.mem_append_right _ (sub x z)
      · rw [hw ws fun j z => hws j (List.mem_cons_of_mem _ z)]
        exact wipe_set (hws i List.mem_cons_self)
  | [], _ :: _, _, _, _, _, _, _, hl, _, _, _, _, _ => by simp at hl
  | _ :: _, [], _, _, _, _, _, _, hl, _, _, _, _, _ => by simp at hl
theorem SimG.tp {R : RP} {is : List Nat} : SimG R (gTup R.K is.length (gNs is)) (.tp is) := by
  intro E H env σ p f v t Qw Q eK rs r gd w q
  cases t <;> first | exact False.elim w | skip
  rename_i ts
  obtain ⟨w1, w2, w3⟩ := w
  cases r with
  | tup h1 h2 =>
    refine ⟨_, _, rfl, by rw [← eK]; exact h1, by rw [← Reps.length h2]; exact w1.symm, ?_⟩
    refine stores w1 w2 rs h2 gd fun env' σ' p' e rs' gd' sub io sk hw => ?_
    subst e
    exact q _ σ' p' rs' gd' sub io sk hw w3
theorem SimG.all {R : RP} : ∀ {g : Tg}, SimG R (gT R.K g) g
  | .nm i => SimG.nm
  | .tp is => SimG.tp
/-! ### comprehensions -/
def W0 : WX := fun _ _ _ _ => False
def SimCo (R : RP) (tt : TT) (wp : En → (Bool → Prop) → Prop) : Prop :=
  ∀ (E : RE) (H : Hp) (env : En) (σ : L2.St) (p : List Addr) (Qw : Bool → Prop) (Q : Bool → Hp → Prop), E.K = R.K → E.ca = R.ca → Rs E H env σ p → Gd E H p → wp env Qw →
    (∀ E' H' b, Rs E' H' env σ p → Gd E' H' p → Frm E E' [] [] H H' → Qw b → Q b H') → tt σ H Q
theorem SimCo.no {R : RP} : SimCo R tYes (fun _ Q => Q true) := by
  intro E H env σ p Qw Q eK ec rs gd w q
  exact q E H true rs gd Frm.refl w
theorem exOk0 {E : RE} {H : Hp} {p : List Addr} {env : En} {σ : L2.St} {W : WX} : ExOk W E H p env σ (fun _ _ _ => False) := fun _ _ _ _ _ _ _ _ _ _ _ _ z => z.elim
theorem SimCo.so {R : RP} {tt : TT} {wp : En → XC → (Bool → En → Prop) → Prop} (h : SimT R W0 tt wp true) : SimCo R tt (fun env Q => wp env (fun _ _ _ => False) fun b _ => Q b) := by
  intro E H env σ p Qw Q eK ec rs gd w q
  refine h E H env σ p _ _ _ eK ec rs gd w (fun E' H' p' env' b rs' gd' ps wb => ?_) exOk0
  obtain ⟨e1, e2, fr⟩ := ps.qf rfl
  subst e1 e2
  exact q E' H' b rs' gd' fr wb
theorem Gd.nil_of {E : RE} {H H' : Hp} {p g : List Addr} (gd : Gd E H p) (a : Frm E E [] g H H') : Gd E H' [] :=
  ⟨List.nodup_nil, (fun _ z => by cases z), fun c z => a.dom c (gd.dm c z), (fun _ z => by cases z)⟩
section
variable {R : RP} {W : WX} {wi : TI} {tt : TT} {te : TE} {wpi : En → XC → (Tn → En → Prop) → Prop} {wc : En → (Bool → Prop) → Prop} {we : En → XC → (T → En → Prop) → Prop} {qi k : Bool} {g : Tg} {vs : List Nat}
theorem Sim.comp (hi : SimI R W wi wpi qi) (hc : SimCo R tt wc) (he : SimE R W0 te we true false) (hg : ∀ i ∈ g.ixs, i ∈ vs) :
    SimE R W (tLc wi (gT R.K g) tt te vs) (fun env X Q => wpi env X fun tn e1 => turnsT g (wipeE e1 vs) (fun en acc K => wc en fun r =>
      (r = true → we en (fun _ _ _ => False) fun t _ => acc.length < LIM ∧ K (acc ++ [t])) ∧ (r = false → K acc)) (fun acc => Q (.lst .own acc) e1) tn.list []) qi k := by
  intro E H env σ p Xc Qw Q eK ec rs gd w q xo
  refine hi E H env σ p Xc _ _ eK ec rs gd w (fun E1 H1 p1 e1 tn J rs1 gd1 ps1 wk w1 => ?_) xo
  intro D hD
  generalize tn.list = l at wk w1
  have eK1 := ps1.EK eK
  have ec1 := ps1.Ec ec
  refine ⟨fun i m H' => m = l.length - i ∧ i ≤ l.length ∧ ∃ E' acc ws g', H' D = some (.lst ws) ∧ Reps E' H' acc ws g' ∧ Gd E' H' ((D :: g') ++ p1) ∧ Frm E1 E' [] (D :: g') H1 H' ∧
    turnsT g (wipeE e1 vs) (fun en acc K => wc en fun r => (r = true → we en (fun _ _ _ => False) fun t _ => acc.length < LIM ∧ K (acc ++ [t])) ∧ (r = false → K acc)) (fun acc => Qw (.lst .own acc) e1) (l.drop i) acc,
    ⟨l.length, by simp, Nat.zero_le _, E1, [], [], [], upd_same, .nil, gd1.laid hD trivial, Frm.laid hD fun x z => .inl (by simpa using z), by simpa using w1⟩, ?_⟩
  rintro i m H2 ⟨rfl, hil, E2, acc, ws, g2, hd2, r2, gd2, f2, w2⟩
  have k2 : ∀ {l}, Kp E1 E2 H1 H2 l := Kp.of0 f2
  by_cases hlt : i < l.length
  · refine .inr ⟨wk.go E2 H2 i l[i] (List.getElem?_eq_getElem hlt) k2, _, fun H' z => ⟨l.length - (i + 1), by omega, z⟩, fun x H3 y => ?_⟩
    obtain ⟨f3, r3⟩ := wk.yld E2 H2 i l[i] x H3 (List.getElem?_eq_getElem hlt) k2 y
    rw [List.drop_eq_getElem_cons hlt] at w2
    obtain ⟨p', sub, rsw⟩ := rs1.wipe vs
    have rs3 := (rsw.kp k2).kp (Kp.of0 f3)
    have gd3 : Gd E2 H3 (((D :: g2) ++ p1) ++ []) := Gd.frame (by simpa using gd2) f3 (gd2.nil_of f3)
    rw [List.append_nil] at gd3
    have gd3' : Gd E2 H3 ([] ++ p') := gd3.right.sub sub
    have eK2 : E2.K = R.K := f2.K.trans eK1
    have ec2 : E2.ca = R.ca := f2.ca.trans ec1
    refine SimG.all E2 H3 _ _ p' [] x _ _ _ eK2 rs3 r3 gd3' w2 fun env' σ' p'' rs4 gd4 sub4 io sk hw w4 => ?_
    refine ⟨(hw vs hg).trans ?_, ?_⟩
    · have key : ∀ {τ : L2.St} {us : List Nat}, (∀ i ∈ us, i ∈ vs) → wipe (wipe τ us) vs = wipe τ vs := by
        intro τ us
        induction us with
        | nil => intro _; rfl
        | cons u us ih =>
          intro h
          show wipe ((wipe τ us).set u none) vs = _
          rw [wipe_set (h u List.mem_cons_self)]
          exact ih fun i z => h i (List.mem_cons_of_mem _ z)
      exact key fun _ z => z
    refine hc E2 H3 env' σ' p'' _ _ eK2 ec2 rs4 gd4 w4 fun E5 H5 b rs5 gd5 f5 w5 => ?_
    have f15 : Frm E1 E5 [] (D :: g2) H1 H5 := by
      have z := (f3.trans f5).beside (f := D :: g2)
      rw [List.append_nil] at z
      exact f2.trans z
    have hd5 : H5 D = some (.lst ws) := f5.keep _ _ (f3.keep _ _ hd2 (by simp)) (by simp)
    have gdA : Gd E5 H5 ((D :: g2) ++ p1) := by
      have z : Gd E5 H5 (((D :: g2) ++ p1) ++ []) := Gd.frame (by simpa using gd3) f5 ⟨List.nodup_nil, (fun _ z => by cases z), gd5.dm, (fun _ z => by cases z)⟩
      simpa using z
    have r5 : Reps E5 H5 acc ws g2 := (Rp.kp (Kp.of0 f3) r2 fun _ z => z).kp (Kp.of0 f5) fun _ z => z
    cases b with
    | false =>
      rw [if_neg Bool.false_ne_true]
      exact ⟨rfl, hlt, E5, acc, ws, g2, hd5, r5, gdA, f15, w5.2 rfl⟩
    | true =>
      rw [if_pos rfl]
      refine he E5 H5 env' σ' p'' _ _ _ (f5.K.trans eK2) (f5.ca.trans ec2) rs5 gd5 (w5.1 rfl) (fun E6 H6 p6 e6 t v g6 rs6 r6 gd6 gg6 ps6 w6 => ?_) exOk0
      obtain ⟨s1, s2, f6⟩ := ps6.qf rfl
      have f6 : Frm E5 E6 [] g6 H5 H6 := f6
      have r6' : Reps E6 H6 acc ws g2 := r5.kp (Kp.of0 f6) fun _ z => z
      have hd6 : H6 D = some (.lst ws) := f6.keep _ _ hd5 (by simp)
      have gdB : Gd E6 H6 (((D :: g2) ++ p1) ++ g6) := Gd.frame (by simpa using gdA) f6 (gg6 rfl).left
      have gdC : Gd E6 H6 ((D :: (g2 ++ g6)) ++ p1) := by
        refine gdB.perm ?_
        show (D :: ((g2 ++ p1) ++ g6)).Perm (D :: ((g2 ++ g6) ++ p1))
        refine List.Perm.cons _ ?_
        rw [List.append_assoc, List.append_assoc]
        exact List.Perm.append_left _ List.perm_append_comm
      have nn := List.nodup_cons.mp gdC.left.nd
      have av := gdC.av D (by simp)
      refine ⟨ws, hd6, by rw [← Reps.length r6']; exact lim_lt w6.1, rfl, hlt, E6, acc ++ [t], ws ++ [v], g2 ++ g6, upd_same, ?_, gdC.wrote trivial, ?_, w6.2⟩
      · exact Reps.app (r6'.wrote hd6 trivial (fun z => nn.1 (List.mem_append_left _ z)) av.1 av.2) (Reps.one (r6.wrote hd6 trivial (fun z => nn.1 (List.mem_append_right _ z)) av.1 av.2))
      · have z := f6.beside (f := D :: g2)
        rw [List.append_nil] at z
        have z2 : Frm E1 E6 [] (D :: (g2 ++ g6)) H1 H6 := f15.trans z
        have fw : Frm E6 E6 (D :: (g2 ++ g6)) (D :: (g2 ++ g6)) H6 (upd H6 D (.lst (ws ++ [v]))) := Frm.wrote List.mem_cons_self fun _ z => z
        exact z2.trans fw
  · have e : i = l.length := by omega
    subst e
    rw [List.drop_length] at w2
    refine .inl ⟨wk.stop E2 H2 k2, ?_⟩
    have rs2 := rs1.kp (k2 (l := p1))
    have ps2 : Pst qi E H p env E2 H2 p1 e1 (D :: g2) := by
      refine ⟨?_, fun z => ?_, ps1.io⟩
      · have z := f2.beside (f := p1)
        rw [List.append_nil] at z
        exact (ps1.fr.trans z).sub (fun _ z => z) fun x w => (List.mem_append.mp w).elim (fun w => List.mem_append_right _ w) fun w => List.mem_append_left _ w
      · obtain ⟨s1, s2, s3⟩ := ps1.qf z
        exact ⟨s1, s2, s3.trans f2⟩
    refine q E2 H2 p1 e1 (.lst .own acc) (.ref D) ([D] ++ g2) rs2 (.lst (f := .own) hd2 trivial r2 fun z => absurd rfl z) gd2.right (fun _ => gd2) ps2.gk w2
end
/-! ### what was caught -/
section
variable {R : RP} {W : WX} {k : Bool}
/-- e.f, e the slot i -/
theorem Sim.xat {a : Addr} {C : Addr} {d : Option Addr} {i : Nat} {f : Str} {xf : List (Str × Str)} (hx : R.ca.x = some (a, .ref C, d)) : SimE R W (tXf a (.ref C) d C f (tVar i)) (fun env _ Q => match env[i]? with
    | some (.exn c fs) => xf.contains (c, f) = true ∧ ∃ t, fs.lookup f = some t ∧ Q t env
    | _ => False) true k := by
  intro E H env σ p Xc Qw Q eK ec rs gd w q _
  cases e : env[i]? with
  | none => simp only [e] at w
  | some s =>
    cases s with
    | und => simp only [e] at w
    | has b t => simp only [e] at w
    | exn c fs =>
      simp only [e] at w
      obtain ⟨_, t, lk, w⟩ := w
      obtain ⟨a', cls', d', e1, e2, e3⟩ := rs.exg e
      rw [ec, hx] at e2
      cases e2
      refine ⟨.ref a, e1, rfl, rfl, ?_⟩
      rcases e3.2 with z | ⟨dd, gs, h1, h2, h3⟩
      · rw [z.2] at lk; cases lk
      · obtain ⟨ft, v, lv, r⟩ := h3 f t lk
        exact ⟨dd, gs, v, h1, h2, lv, q E H p env t v [] rs r gd (fun _ => gd) (by rw [gk_nil]; exact Pst.refl) w⟩
/-- the field is read nowhere -/
theorem Sim.xat0 {a : Addr} {C : Addr} {d : Option Addr} {i : Nat} {f : Str} {xf : List (Str × Str)} (hx : R.ca.x = some (a, .ref C, d)) (hn : ∀ c, xf.contains (c, f) = true → R.ca.f c ≠ C) : SimE R W (fun _ _ _ => False) (fun env _ Q => match env[i]? with
    | some (.exn c fs) => xf.contains (c, f) = true ∧ ∃ t, fs.lookup f = some t ∧ Q t env
    | _ => False) true k := by
  intro E H env σ p Xc Qw Q eK ec rs gd w q _
  cases e : env[i]? with
  | none => simp only [e] at w
  | some s =>
    cases s with
    | und => simp only [e] at w
    | has b t => simp only [e] at w
    | exn c fs =>
      simp only [e] at w
      obtain ⟨hc, _⟩ := w
      obtain ⟨a', cls', d', e1, e2, e3⟩ := rs.exg e
      rw [ec, hx] at e2
      cases e2
      have z := e3.1
      rw [ec] at z
      exact hn c hc (Value.ref.inj z).symm
/-- isinstance(e, C), e the caught exception, its dict at d -/
def rIsX (K : PySem.W.Frag) (D a : Addr) (d : Option Addr) : List V → Hp → VK → Prop := fun xs H Q => ∃ (c : V) (cv : Value) (b : Bool), xs = [.ref a, c] ∧ (∀ u, RelV c u → u = cv) ∧ ExcC K D ∧ PySem.W.kitOne K (.ref D) cv = some b ∧ (d = none ∨ ∃ dd gs, d = some dd ∧ H dd = some (.xd gs)) ∧ Q (.bl b) H
theorem call_isX {X : Cx} {a D : Addr} {oe : Obj} {d : Option Addr} {pn : List (Addr × Obj)} (hz : Zc (.ref D) d oe) (hf : ∃ vs, oe.data = .fields vs) : CallR (X.suite a ((a, oe) :: pn)) (.builtin "isinstance") (rIsX X.K D a d) := by
  intro pins s σ H xs us Q I r h
  obtain ⟨c, cv, b, rfl, hcv, C, e, hd, q⟩ := h
  cases r with
  | cons rx rr =>
    cases rr with
    | cons rt rr =>
      cases rr
      cases rx
      have ec := hcv _ rt
      subst ec
      obtain ⟨hget, _⟩ := I.pin (a, oe) (List.mem_append.mpr (.inl List.mem_cons_self))
      obtain ⟨vs, hv⟩ := hf
      have hcl : (PySem.W.clsIn X.K D).isSome = true := by
        obtain ⟨cd, hc, _⟩ := PySem.W.any_some C.hd
        rw [hc]; rfl
      have J : ∃ od, PySem.W.InstAt s.heap a oe D od := by
        rcases hd with hd | ⟨dd, gs, hd, hx⟩
        · exact ⟨none, hget, hz.1, by unfold PySem.W.notCls; rw [hv], by rw [hz.2, hd]; trivial⟩
        · have x : ObjOk X.prog X.w H s.heap dd (.xd gs) := I.hok dd _ hx
          obtain ⟨mA, hns, hr⟩ := x
          obtain ⟨od, ho, _⟩ := lookIn_ns hns
          exact ⟨some od, hget, hz.1, by unfold PySem.W.notCls; rw [hv], by rw [hz.2, hd]; exact ho⟩
      obtain ⟨od, J⟩ := J
      exact PySem.W.kia_one (PySem.W.kitx_exc hcl C.hg C.hk C.hs C.ha C.hn C.ht C.hm) I.kIn J e (fun z => nomatch z) fun tk => ⟨.bl b, H, I.kept (t' := tk) fun _ _ z => z, rfl, q⟩
def XsOk (R : RP) (xs : List ((Str × Str) × Bool)) (c : Str) (cv : Value) : Prop := ∀ x b, xs.lookup (x, c) = some b → PySem.W.kitOne R.K (.ref (R.ca.f x)) cv = some b ∧ ExcC R.K (R.ca.f x)
theorem Sim.xis {a D : Addr} {d : Option Addr} {i : Nat} {c : Str} {xs : List ((Str × Str) × Bool)} {cv : Value} {cw : V} (hxs : XsOk R xs c cv) (hx : R.ca.x = some (a, .ref D, d)) (hcw : ∀ u, RelV cw u → u = cv) : SimE R W (tCB (rIsX R.K D a d) (tCons (tVar i) (tCons (tC cw) tNil))) (fun env _ Q => match env[i]? with
    | some (.exn x _) => ∃ b, xs.lookup (x, c) = some b ∧ Q (.bl b) env
    | _ => False) true k := by
  intro E H env σ p Xc Qw Q eK ec rs gd w q _
  cases e : env[i]? with
  | none => simp only [e] at w
  | some s =>
    cases s with
    | und => simp only [e] at w
    | has b t => simp only [e] at w
    | exn c fs =>
      simp only [e] at w
      obtain ⟨b, lk, w⟩ := w
      obtain ⟨a', cls', d', e1, e2, e3⟩ := rs.exg e
      rw [ec, hx] at e2
      cases e2
      obtain ⟨hk, hc⟩ := hxs _ _ lk
      have eD : D = R.ca.f c := by
        have z := e3.1
        rw [ec] at z
        exact Value.ref.inj z
      rw [← eD] at hk hc
      refine ⟨.ref a, e1, cw, _, b, rfl, hcw, hc, hk, ?_, q E H p env _ _ [] rs .bl gd (fun _ => gd) (by rw [gk_nil]; exact Pst.refl) w⟩
      exact e3.2.imp (fun z => z.1) fun ⟨dd, gs, h1, h2, _⟩ => ⟨dd, gs, h1, h2⟩
end
end OT
end
section
set_option Elab.async false
set_option linter.all false
set_option maxRecDepth 100000
set_option maxHeartbeats 2000000
namespace OT
open PySem PySem.Spec PyProof.Rows L2
/-! ### try with any row of except clauses, with names or without -/
structure Cl where
  c : Value
  i : Option Nat
  ts : Addr → Value → Option Addr → TS
def endsOut (D : Ends) (i : Nat) : Ends := { D with nx := fun σ H => D.nx (σ.set i none) H, bk := fun σ H => D.bk (σ.set i none) H, ct := fun σ H => D.ct (σ.set i none) H }
/-- a clause's suite runs -/
def Cl.go (q : Cl) (D : Ends) (a : Addr) (cls : Value) (d : Option Addr) (σ : L2.St) (H : Hp) : Prop := match q.i with
  | none => q.ts a cls d D σ H
  | some i => q.ts a cls d (endsOut D i) (σ.set i (some (.ref a))) H
def wCls (K : PySem.W.Frag) (Wo : WX) (D : Ends) : List Cl → WX
  | [] => Wo
  | q :: r => fun cls d σ H => ∃ b, PySem.W.exmOne K cls q.c = some b ∧ (b = true → ∀ a, H a = none → q.go D a cls d σ H) ∧ (b = false → wCls K Wo D r cls d σ H)
def SuOk (X : Cx) (su : List Stmt) (ts : Addr → Value → Option Addr → TS) : Prop :=
  ∀ (a : Addr) (oe : Obj) (cls : Value) (d : Option Addr) (pn : List (Addr × Obj)), Zc cls d oe → (∃ vs, oe.data = .fields vs) → PSs (X.suite a ((a, oe) :: pn)) su (ts a cls d)
inductive ClOk (X : Cx) : List ExceptHandler → List Cl → Prop
  | nil : ClOk X [] []
  | only {x : Str} {c : Value} {ts : Addr → Value → Option Addr → TS} {b : Stmt} {su : List Stmt} {np q : Pos} {r : List ExceptHandler} {l : List Cl} (hc : Names X x c) (hs : SuOk X (b :: su) ts) (hr : ClOk X r l) :
      ClOk X (.ExceptHandler (some (.Name x np)) none (b :: su) q :: r) (⟨c, none, ts⟩ :: l)
  | as {x n : Str} {i : Nat} {c : Value} {ts : Addr → Value → Option Addr → TS} {b : Stmt} {su : List Stmt} {np q : Pos} {r : List ExceptHandler} {l : List Cl} (hc : Names X x c) (hi : X.N[i]? = some n) (hl : X.env.kindOf n = some .local)
      (hs : SuOk X (b :: su) ts) (hr : ClOk X r l) : ClOk X (.ExceptHandler (some (.Name x np)) (some n) (b :: su) q :: r) (⟨c, some i, ts⟩ :: l)
/-- an exception on the ground -/
structure Grd (X : Cx) (pins : List (Addr × Obj)) (σ : L2.St) (H : Hp) (B : Heap) (sI s : Shared) (a : Addr) (cls : Value) (d : Option Addr) : Prop where
  J : Inv X pins σ H sI
  nb : ∀ b o, sI.heap.get? b = some o → b ∉ frs X.stack → B.get? b = some o
  up : sI.heap.UpToSlots s.heap
  fl : HandSPX.FlyingZ B (X.env :: X.outer) a (Zc cls d) s.heap
  na : H a = none
  os : s.os = sI.os
  ag : AllBare s.gens
section
variable {X : Cx} {pins : List (Addr × Obj)} {σ : L2.St} {H : Hp} {B : Heap} {sI s : Shared} {a : Addr} {cls c : Value} {d : Option Addr} {D : Ends} {Wo : WX}
theorem Grd.inv (g : Grd X pins σ H B sI s a cls d) : Inv X pins σ H s := g.J.landed g.nb g.fl.1 g.up g.os g.ag
theorem Grd.off (hs : X.stack = X.env :: X.outer) (hf : X.env.frame = some X.env.locals) (g : Grd X pins σ H B sI s a cls d) : a ≠ X.env.locals ∧ a ∉ X.fs := by
  obtain ⟨oe, vs, he, hz, hd⟩ := g.fl.there
  have no : a ∉ frs (X.env :: X.outer) := by
    intro hm
    obtain ⟨_, o', e', hnf⟩ := g.fl.2.2.1.mem hm
    rw [he] at e'
    cases e'
    exact hnf _ hd
  constructor
  · rintro rfl
    exact no (List.mem_filterMap.mpr ⟨X.env, List.mem_cons_self, hf⟩)
  · intro hm
    obtain ⟨e, m, q⟩ := List.mem_filterMap.mp hm
    exact no (List.mem_filterMap.mpr ⟨e, List.mem_cons_of_mem _ m, q⟩)
/-- the clause's class is looked up -/
theorem Grd.name (hs : X.stack = X.env :: X.outer) (hf : X.env.frame = some X.env.locals) (g : Grd X pins σ H B sI s a cls d) {x : Str} {np : Pos} (hc : Names X x c) {Q E : Value → Shared → Prop} (q : Q c s) :
    wpAny (model X.prog X.w) (X.A.mark (some (.ref a))) (eval (.Name x np) X.env) Q E s := by
  obtain ⟨oe, vs, he, hz, hd⟩ := g.fl.there
  obtain ⟨n1, n2⟩ := g.off hs hf
  have S := g.inv.suite he hd g.na n1 n2
  obtain ⟨m1, m2, m3 | ⟨m3, m4, m5⟩⟩ := hc
  · exact ld_glob (X := X.suite a ((a, oe) :: (X.pn ++ pins))) S m1 m3 q m2
  · exact ld_blt (X := X.suite a ((a, oe) :: (X.pn ++ pins))) S m1 m3 m4 q m5 m2
/-- no clause is left: it flies on -/
theorem Grd.on (hs : X.stack = X.env :: X.outer) (hf : X.env.frame = some X.env.locals) (tk : Takes X Wo) (g : Grd X pins σ H B sI s a cls d) (w : Wo cls d σ H) :
    wpAny (model X.prog X.w) X.A (handleBy (.ref a) X.env []) (L2.SP X pins D) X.xe s := by
  refine wpAny_handleBy_nil ?_
  obtain ⟨_, _, _, oe, vs, T, oT, ts, he, _, hd, h1, _⟩ := id g.fl
  have up : wpAny (model X.prog X.w) X.A (setFlight (.ref a) X.env.frame) (fun _ s4 => wpAny (model X.prog X.w) X.A (throw (.ref a) : Sem Flow) (L2.SP X pins D) X.xe s4) X.xe s := by
    rw [hf]
    refine HandSPX.setFlight_upZ g.fl fun h4 hh4 up4 => wpAny_throw (tk _ _ ?_)
    refine ⟨a, B, sI, pins, σ, H, cls, d, rfl, g.J, g.nb, g.up.trans up4, ?_, g.na, g.os, g.ag, w⟩
    rw [hs]
    exact .inr (.inr hh4)
  unfold PySem.passOn
  refine wpAny_bind (wpAny_field he hd h1 ?_)
  rw [if_neg (show ¬ ((Value.ref T == Value.none) = true) from by simp)]
  first | exact wpAny_bind (wpAny_pure (wpAny_bind up)) | exact wpAny_bind up
/-- in a suite -/
theorem Grd.again (g : Grd X pins σ H B sI s a cls d) {h4 : Heap} (fl : HandSPX.FlyingZ B (X.env :: X.outer) a (Zc cls d) h4) (up : s.heap.UpToSlots h4) : Grd X pins σ H B sI { s with heap := h4 } a cls d :=
  ⟨g.J, g.nb, g.up.trans up, fl, g.na, g.os, g.ag⟩
theorem ClOk.run (hs : X.stack = X.env :: X.outer) (hf : X.env.frame = some X.env.locals) (hN : X.N.Nodup) (tk : Takes X Wo) : ∀ {r : List ExceptHandler} {l : List Cl}, ClOk X r l → ∀ {s : Shared}, Grd X pins σ H B sI s a cls d → wCls X.K Wo D l cls d σ H →
    wpAny (model X.prog X.w) X.A (handleBy (.ref a) X.env r) (L2.SP X pins D) X.xe s := by
  intro r l k
  induction k with
  | nil => exact fun g w => g.on hs hf tk w
  | @only x c ts b su np q r l hc hsu _ ih =>
    intro s g w
    obtain ⟨e, h1, yes, no⟩ := w
    obtain ⟨oe, vs, he, hz, hd⟩ := g.fl.there
    have ok := g.J.ok
    refine wpAny_handleBy_cons (codeAny_handlers_test (g.name hs hf hc ?_)) (fun q => by cases q)
    have LT : PySem.W.Looks (model X.prog X.w) s.heap (typeOf (.ref a)) cls := fun A Q E z k q => wpAny_typeOf_ref (k _ _ he) (by rw [hz.1]; exact q)
    refine (PySem.W.exm_one (M := model X.prog X.w) g.inv.kIn LT h1).here ?_
    cases e with
    | false => exact ih g (no rfl)
    | true =>
      refine codeAny_handlers_suite (HandSPX.lands_againZ g.fl fun h4 fl4 up4 => ?_)
      have g4 := g.again fl4 up4
      obtain ⟨oe4, vs4, he4, hz4, hd4⟩ := g4.fl.there
      obtain ⟨n1, n2⟩ := g4.off hs hf
      have z := (hsu a oe4 cls d (X.pn ++ pins) hz4 ⟨_, hd4⟩).run [] _ _ H D (g4.inv.suite he4 hd4 g.na n1 n2) (yes rfl a g.na)
      refine wpAny_mono z (fun f s6 y => ?_) fun _ _ z => z.elim
      cases f <;> first | (obtain ⟨v, σ6, H6, S6, r6, q6⟩ := y; exact ⟨v, σ6, H6, S6.unsuite ok, r6, q6⟩) | (obtain ⟨σ6, H6, S6, q6⟩ := y; exact ⟨σ6, H6, S6.unsuite ok, q6⟩)
  | @as x n i c ts b su np q r l hc hi hl hsu _ ih =>
    intro s g w
    obtain ⟨e, h1, yes, no⟩ := w
    obtain ⟨oe, vs, he, hz, hd⟩ := g.fl.there
    have ok := g.J.ok
    refine wpAny_handleBy_cons (codeAny_handlers_test (g.name hs hf hc ?_)) (fun q => by cases q)
    have LT : PySem.W.Looks (model X.prog X.w) s.heap (typeOf (.ref a)) cls := fun A Q E z k q => wpAny_typeOf_ref (k _ _ he) (by rw [hz.1]; exact q)
    refine (PySem.W.exm_one (M := model X.prog X.w) g.inv.kIn LT h1).here ?_
    cases e with
    | false => exact ih g (no rfl)
    | true =>
      refine codeAny_handlers_suite_as (HandSPX.lands_againZ g.fl fun h4 fl4 up4 => ?_)
      have g4 := g.again fl4 up4
      obtain ⟨oe4, vs4, he4, hz4, hd4⟩ := g4.fl.there
      obtain ⟨n1, n2⟩ := g4.off hs hf
      have S4 := g4.inv.suite he4 hd4 g.na n1 n2
      have hloc : Loc X.env.scope n := .inl hl
      refine store_ok (X := X.suite a ((a, oe4) :: (X.pn ++ pins))) (v := .ref a) S4 hN hi hloc rfl (fun s5 S5 => ?_) (.inr hl)
      have z := (hsu a oe4 cls d (X.pn ++ pins) hz4 ⟨_, hd4⟩).run [] s5 _ H _ S5 (yes rfl a g.na)
      refine wpAny_mono z (fun f s6 y => ?_) fun _ _ z => z.elim
      have last : ∀ {σ6 : L2.St} {H6 : Hp} {Q : Shared → Prop}, Inv (X.suite a ((a, oe4) :: (X.pn ++ pins))) [] σ6 H6 s6 → (∀ s7, Inv X pins (σ6.set i none) H6 s7 → Q s7) →
          wpAny (model X.prog X.w) X.A (do bindName X.env n .none; unbindBehindTheSuite X.env n q) (fun _ s7 => Q s7) X.xe s6 := fun S6 hq => gone_ok (S6.unsuite ok) hN hi hl hq
      cases f <;> first | (obtain ⟨v, σ6, H6, S6, r6, q6⟩ := y; exact last S6 fun s7 J7 => ⟨v, _, _, J7, r6, q6⟩) | (obtain ⟨σ6, H6, S6, q6⟩ := y; exact last S6 fun s7 J7 => ⟨_, _, J7, q6⟩)
theorem ps_tries {body : List Stmt} {h0 : ExceptHandler} {r : List ExceptHandler} {l : List Cl} {pos : Pos} {tb : WX → TS} (hs : X.stack = X.env :: X.outer) (hf : X.env.frame = some X.env.locals) (hN : X.N.Nodup) (tk : Takes X Wo)
    (hb : ∀ (W : WX) (pn : List (Addr × Obj)) (xe : Value → Shared → Prop), Takes (X.tr pn xe) W → PassesOwn (model X.prog X.w) X.A X.env xe → PSs (X.tr pn xe) body (tb W)) (hh : ClOk X (h0 :: r) l) :
    PS X (.Try body (h0 :: r) [] [] pos) (fun D σ H => tb (wCls X.K Wo D l) D σ H) := by
  refine ⟨fun pins s σ H D I w => wpAny_Try_except ?_⟩
  have ok := I.ok
  have hfr : X.A.frames = some (X.env :: X.outer) := ok.frames.trans (congrArg some hs)
  have run := (hb (wCls X.K Wo D l) (X.pn ++ pins) (fun e s₁ => wpAny (model X.prog X.w) X.A (noteFrame e X.env) (fun _ s₂ => wpAny (model X.prog X.w) X.A (setFlight e none) (fun _ s₃ =>
    wpAny (model X.prog X.w) X.A (handleBy e X.env (h0 :: r)) (L2.SP X pins D) X.xe s₃) X.xe s₂) X.xe s₁) (fun u s' xx => ?ground) PassesOwn.looking).run [] s σ H D (I.toTry _) w
  case ground =>
    obtain ⟨a, B, sI, pins', σ', H', cls, d, rfl, J', nb, up, sky, na, os, ag, w⟩ := xx
    rw [show (X.tr (X.pn ++ pins) _).stack = X.env :: X.outer from hs] at sky
    show wpAny (model X.prog X.w) X.A (noteFrame (.ref a) X.env) _ _ _
    exact Sky.land Zc.steady hfr hf sky fun h3 fl3 up3 => ClOk.run (s := { s' with heap := h3 }) hs hf hN tk hh ⟨J'.ofTry ok, nb, up.trans up3, fl3, na, os, ag⟩ w
  refine wpAny_mono run (fun f s1 y => ?_) (fun e s1 he => he)
  cases f with
  | next =>
    obtain ⟨σ', H', J', q⟩ := y
    exact wpAny_execs_nil ⟨σ', H', J'.ofTry ok, q⟩
  | ret u =>
    obtain ⟨v, σ', H', J', r, q⟩ := y
    exact ⟨v, σ', H', J'.ofTry ok, r, q⟩
  | brk =>
    obtain ⟨σ', H', J', q⟩ := y
    exact ⟨σ', H', J'.ofTry ok, q⟩
  | cont =>
    obtain ⟨σ', H', J', q⟩ := y
    exact ⟨σ', H', J'.ofTry ok, q⟩
end
end OT
end
section
set_option Elab.async false
set_option linter.all false
set_option maxRecDepth 100000
set_option maxHeartbeats 2000000
namespace OT
open PySem PySem.Spec PyProof.Rows L2
/-! ### exceptions as values -/
def RzOk (R : RP) (c : Str) (ns : List Str) : Prop := ∃ (fI : Addr) (k : Nat) (fd : FuncData) (ps : List Str) (sp : Sp), R.mg c = some (.ref (R.ca.f c)) ∧ OexC R.K (R.ca.f c) ∧
  PySem.W.findIn R.K (.ref (R.ca.f c)) "__init__" = some (some (.ref fI)) ∧ PySem.W.typeIn R.K (.ref fI) = some (.type "function") ∧ FnOk R.P R.w R.K R.mg R.base (L2.CX R.P R.w) k fI fd ps sp ∧ k + 1 ≤ R.lv ∧ Binds R.K fd ps [] ∧
  ns.Nodup ∧ ns.length ≤ 100 ∧ ∀ (a : Addr) (vs : List V) (H : Hp) (Q : VK), vs.length = ns.length → H a = some (exo a (R.ca.f c) none) →
    (∀ d, H d = none → d ≠ a → Q .non (upd (upd H d (exd d (ns.zip vs).reverse)) a (exo a (R.ca.f c) (some d)))) → sp (.ref a :: vs) H Q (fun _ _ _ => False)
theorem lookup_mem {n : Str} {v : V} : ∀ {l : List (Str × V)}, (l.map (·.1)).Nodup → (n, v) ∈ l → l.lookup n = some v
  | [], _, h => by cases h
  | (m, w) :: l, hn, h => by
    obtain ⟨h1, h2⟩ := List.nodup_cons.mp (show (m :: l.map (·.1)).Nodup from hn)
    rcases List.mem_cons.mp h with e | h
    · cases e
      simp [List.lookup]
    · have ne : n ≠ m := fun e => h1 (by rw [← e]; exact List.mem_map.mpr ⟨(n, v), h, rfl⟩)
      have e2 : (n == m) = false := by simpa using ne
      simp only [List.lookup, e2]
      exact lookup_mem h2 h
theorem zip_lookup {n : Str} {t : T} : ∀ {ns : List Str} {ts : List T}, (ns.zip ts).lookup n = some t → ∃ i : Nat, ns[i]? = some n ∧ ts[i]? = some t
  | [], _, h => by simp at h
  | _ :: _, [], h => by simp at h
  | m :: ns, u :: ts, h => by
    by_cases e : n = m
    · subst e
      have e2 : u = t := by simpa [List.lookup] using h
      exact ⟨0, rfl, by rw [e2]; rfl⟩
    · have e2 : (n == m) = false := by simpa using e
      have h' : (ns.zip ts).lookup n = some t := by simpa [List.lookup, e2] using h
      obtain ⟨i, h1, h2⟩ := zip_lookup h'
      exact ⟨i + 1, by simpa using h1, by simpa using h2⟩
theorem zip_fst {α β : Type} : ∀ {l : List α} {r : List β}, r.length = l.length → (l.zip r).map (·.1) = l
  | [], [], _ => rfl
  | [], _ :: _, h => by simp at h
  | _ :: _, [], h => by simp at h
  | a :: l, b :: r, h => by
    show a :: (l.zip r).map (·.1) = a :: l
    rw [zip_fst (by simpa using h)]
theorem upd_upd {H : Hp} {a : Addr} {o u : HO} : upd (upd H a o) a u = upd H a u := by
  funext b
  by_cases h : b = a
  · rw [h, upd_same, upd_same]
  · rw [upd_ne h, upd_ne h, upd_ne h]
theorem upd_comm {H : Hp} {a d : Addr} {o u : HO} (h : d ≠ a) : upd (upd H a o) d u = upd (upd H d u) a o := by
  funext b
  by_cases h1 : b = d
  · subst h1
    rw [upd_same, upd_ne h, upd_same]
  · rw [upd_ne h1]
    by_cases h2 : b = a
    · rw [h2, upd_same, upd_same]
    · rw [upd_ne h2, upd_ne h2, upd_ne h1]
abbrev bmVE : List Value := [Value.type "ValueError", Value.type "Exception", Value.type "BaseException", Value.type "object"]
/-- an error class without own __init__ -/
def R0Ok (R : RP) (c : Str) : Prop := R.mg c = some (.ref (R.ca.f c)) ∧ PySem.W.excIn R.K (R.ca.f c) bmVE "ValueError.__new__" = true ∧ PySem.W.keepIn R.K (.ref (R.ca.f c)) = true
/-- C(e, ..), its own __init__ keeping sp, as a value -/
def tMkx (C : Addr) (sp : Sp) (ta : TA) : TE := fun σ H Q => ta σ H fun vs H1 => vs.length ≤ 1000 ∧ ∀ a, H1 a = none → sp (.ref a :: vs) (upd H1 a (exo a C none)) (fun v H2 => v = .non ∧ Q (.ref a) H2) (fun _ _ _ => False)
/-- C(), no own __init__ -/
def tMk0 (C : Addr) : TE := fun σ H Q => ∀ a, H a = none → Q (.ref a) (upd H a (exo a C none))
def tXa (K : PySem.W.Frag) (f : Str) (ta : TE) : TE := fun σ H Q => ta σ H fun x H1 => ∃ (a C d : Addr) (fs : List (Str × V)) (v : V), x = .ref a ∧ XfC K C ∧ PySem.W.findIn K (.ref C) f = some none ∧ H1 a = some (exo a C (some d)) ∧ H1 d = some (exd d fs) ∧ fs.lookup f = some v ∧ Q v H1
def rIsO (K : PySem.W.Frag) : List V → Hp → VK → Prop := fun xs H Q => ∃ (a D : Addr) (c : V) (cv : Value) (b : Bool), xs = [.ref a, c] ∧ (∀ u, RelV c u → u = cv) ∧ ExcC K D ∧ PySem.W.kitOne K (.ref D) cv = some b ∧ (H a = some (exo a D none) ∨ ∃ d fs, H a = some (exo a D (some d)) ∧ H d = some (exd d fs)) ∧ Q (.bl b) H
section
variable {X : Cx} {e : Expr} {es : List Expr} {ta : TA} {p pos : Pos}
theorem pe_mkx {CX : CXT} {x : Str} {C fI : Addr} {k : Nat} {fd : FuncData} {ps : List Str} {sp : Sp} (T : OexC X.K C) (iC : PySem.W.findIn X.K (.ref C) "__init__" = some (some (.ref fI))) (tI : PySem.W.typeIn X.K (.ref fI) = some (.type "function"))
    (F1 : FnOk X.prog X.w X.K X.mg X.base CX k fI fd ps sp) (hr : Room (k + 1) X.A) (hb : Binds X.K fd ps []) (hx : Passes CX X (fun _ _ _ => False)) (hg : Gl X x) (hm : X.mg x = some (.ref C)) (ha : PA X (e :: es) ta)
    (hdb : (x == ("__debug__" : Str)) = false) (he : starEach (e :: es) X.env = (false, eval e X.env) :: starEach es X.env) (hpl : (backTo pos (starEach es X.env)).any (·.1) = false) :
    PE X (.Call (.Name x p) (e :: es) [] pos) (tMkx C sp ta) := by
  refine ⟨fun pins s σ H Q I h => ?_⟩
  obtain ⟨nm, q, N, bs, bm, sn, sub, ab, col, dd, k0, k1, k2, k3, k5, hC, hbm⟩ := T.cls
  refine wpAny_Call_Name_kw (ld_glob I hg hm ?_ hdb)
  refine PySem.W.callWith_K (h₀ := X.base) I.ok.mod.kin T.kC (thn (ha.run pos pins s σ H _ I h) fun us s1 ⟨vs, H1, I1, r1, hz, q1⟩ => ⟨I1.kIn, ?_⟩) he hpl
  show wpAny _ _ (call (.ref C) us) _ _ _
  obtain ⟨hp, g, dr, tk, os⟩ := s1
  have hsz : hp.objs.size ≤ hp.objs.size + 1 := Nat.le_succ _
  have hn : H1 (hp.objs.size + 1) = none := I1.hok.fresh hsz
  have hq := q1 (hp.objs.size + 1) hn
  have kk : ∀ b o, hp.get? b = some o → ((hp.push (PySem.W.kdv_tup us)).push (PySem.HandSPX.excO C hp.objs.size)).get? b = some o := fun b o e => Heap.get?_push_of_some _ (Heap.get?_push_of_some _ e)
  have hget : ((hp.push (PySem.W.kdv_tup us)).push (PySem.HandSPX.excO C hp.objs.size)).get? (hp.objs.size + 1) = some (PySem.HandSPX.excO C hp.objs.size) := by heap_get
  have I2 : Inv X pins σ (upd H1 (hp.objs.size + 1) (exo (hp.objs.size + 1) C none)) ⟨(hp.push (PySem.W.kdv_tup us)).push (PySem.HandSPX.excO C hp.objs.size), g, dr, tk, os⟩ :=
    I1.laid (t' := tk) (a := hp.objs.size + 1) (o := exo (hp.objs.size + 1) C none) (h' := (hp.push (PySem.W.kdv_tup us)).push (PySem.HandSPX.excO C hp.objs.size)) kk hsz (exo_ok hget)
  have r2 : Vals (V.ref (hp.objs.size + 1) :: vs) (Value.ref (hp.objs.size + 1) :: us) := .cons rfl r1
  have hl : (Value.ref (hp.objs.size + 1) :: us ++ []).length = ps.length := by
    have e := r2.length
    rw [F1.len _ _ _ _ hq] at e
    rw [List.append_nil]
    exact e.symm
  have hus : us.length ≤ sizeLine := by
    rw [← Paired.length r1, sizeLine_eq]
    omega
  have hbb := hb _ (Value.ref (hp.objs.size + 1) :: us) I2.kIn hl
  rw [List.append_nil] at hbb
  refine wpAny_call (PySem.HandSPX.call_own F.excBase_ValueError (fun Y => PySem.HandSPX.refsVE_contains Y bm hbm) (I1.kIn _ _ hC) (PySem.W.looks_findIn I1.kIn iC) (fun self => PySem.W.bind_fn I1.kIn self tI) hus
    (codeAny_mono (F1.run _ X.stack _ _ ⟨Value.ref (hp.objs.size + 1) :: us, []⟩ (Value.ref (hp.objs.size + 1) :: us) _ _ (fun _ _ _ => False) (hr.make C us []) (I2.env0.make C us []) hbb r2 hq) fun r s' hq' => ?_))
  cases r with
  | error er => exact hx pins σ _ _ er s' I2 hq'
  | ok fl =>
    cases fl with
    | ret u =>
      obtain ⟨v, H', I3, rv, ev, q3⟩ := I2.after hq'
      subst ev
      exact ⟨rv, ⟨V.ref (hp.objs.size + 1), H', I3, rfl, q3⟩⟩
    | next => exact False.elim hq'
    | brk => exact False.elim hq'
    | cont => exact False.elim hq'
theorem pe_mk0 {C : Addr} {x : Str} (q : PySem.W.excIn X.K C bmVE "ValueError.__new__" = true) (gC : X.mg x = some (.ref C)) (kC : PySem.W.keepIn X.K (.ref C) = true) (hg : Gl X x) (hdb : (x == ("__debug__" : Str)) = false) :
    PE X (.Call (.Name x p) [] [] pos) (tMk0 C) := by
  refine ⟨fun pins s σ H Q I h => ?_⟩
  refine wpAny_Call_Name_kw (ld_glob I hg gC ?_ hdb)
  refine PySem.W.callWith_K0 I.kIn kC ?_
  show wpAny _ _ (call (.ref C) []) _ _ _
  obtain ⟨bm, N, nm, qn, bs, hdct, sn, sub, ab, col, dd, k0, k1, k2, k3, k5, mN, hC, hN, hni, T⟩ := exc_obj I.kIn q
  refine wpAny_call_exc_subT F.excBase_ValueError T hC hN hni (fun h' a hm => ?_) (by show 0 ≤ sizeLine; omega)
  have hn : H a = none := I.hok.gone hm.new
  obtain ⟨t, ht, _, _⟩ := hm.there
  exact ⟨.ref a, upd H a (exo a C none), I.laidN hm.keeps hm.new hn (exo_ok ht), rfl, h a hn⟩
theorem pe_xatt {te : TE} {n : Str} (he : PE X e te) (hb : attributeBase e n X.env (eval e X.env) = eval e X.env) : PE X (.Attribute e n pos) (tXa X.K n te) := by
  refine ⟨fun pins s σ H Q I h => ?_⟩
  refine attr_of hb (thn (he.run pins s σ H _ I h) fun u s1 hh => ?_)
  obtain ⟨x, H1, I1, rx, a, C, d, fs, v, ex, T, hno, ea, ed, l, q⟩ := hh
  subst ex
  obtain rfl : u = Value.ref a := rx
  obtain ⟨t0, ha⟩ := exo_at I1.hok ea
  obtain ⟨mA, hns, hr⟩ := exd_at I1.hok ed
  obtain ⟨od, ho, hl⟩ := lookIn_ns hns
  obtain ⟨u, hu, ru⟩ := RelO.some_of (v := v) (o := mA n) (by rw [← l]; exact hr n)
  have J : PySem.W.InstAt s1.heap a _ C (some od) := ⟨ha, rfl, by unfold PySem.W.notCls; rfl, ho⟩
  exact HandSPX.exc_get I1.kIn J T.ga T.gg T.exC (PySem.W.findObj_own T.hdC hno rfl (by rw [hl, hu])) (handed_of ru) ⟨v, H1, I1.tok _, ru, q⟩
theorem call_isO : CallR X (.builtin "isinstance") (rIsO X.K) := by
  intro pins s σ H xs us Q I r h
  obtain ⟨a, D, c, cv, b, rfl, hcv, C, e, hd, q⟩ := h
  cases r with
  | cons rx rr =>
    cases rr with
    | cons rt rr =>
      cases rr
      cases rx
      have ec := hcv _ rt
      subst ec
      have hcl : (PySem.W.clsIn X.K D).isSome = true := by
        obtain ⟨cd, hc, _⟩ := PySem.W.any_some C.hd
        rw [hc]; rfl
      have J : ∃ oe od, PySem.W.InstAt s.heap a oe D od := by
        rcases hd with hd | ⟨d, fs, hd, hx⟩
        · obtain ⟨t0, ha⟩ := exo_at I.hok hd
          exact ⟨_, none, ha, rfl, by unfold PySem.W.notCls; rfl, trivial⟩
        · obtain ⟨t0, ha⟩ := exo_at I.hok hd
          obtain ⟨mA, hns, hr⟩ := exd_at I.hok hx
          obtain ⟨od, ho, _⟩ := lookIn_ns hns
          exact ⟨_, some od, ha, rfl, by unfold PySem.W.notCls; rfl, ho⟩
      obtain ⟨oe, od, J⟩ := J
      exact PySem.W.kia_one (PySem.W.kitx_exc hcl C.hg C.hk C.hs C.ha C.hn C.ht C.hm) I.kIn J e (fun z => nomatch z) fun tk => ⟨.bl b, H, I.kept (t' := tk) fun _ _ z => z, rfl, q⟩
end
theorem mem_of_lookupV {n : Str} {v : V} : ∀ {l : List (Str × V)}, l.lookup n = some v → (n, v) ∈ l
  | [], h => by cases h
  | (c, d) :: l, h => by
    by_cases e : n = c
    · subst e
      have z : d = v := by simpa [List.lookup] using h
      subst z
      exact List.mem_cons_self
    · have e2 : (n == c) = false := by simpa using e
      simp only [List.lookup, e2] at h
      exact List.mem_cons_of_mem _ (mem_of_lookupV h)
section
variable {R : RP} {W : WX} {ta : TA} {te : TE} {wr : En → XC → (List T → En → Prop) → Prop} {wa : En → XC → (T → En → Prop) → Prop} {qa k : Bool}
theorem Sim.mkx {c : Str} {ns : List Str} {sp : Sp} (ha : SimA R W ta wr qa true) (hnd : ns.Nodup) (hnl : ns.length ≤ 100)
    (hsp : ∀ (a : Addr) (vs : List V) (H : Hp) (Q : VK), vs.length = ns.length → H a = some (exo a (R.ca.f c) none) →
      (∀ d, H d = none → d ≠ a → Q .non (upd (upd H d (exd d (ns.zip vs).reverse)) a (exo a (R.ca.f c) (some d)))) → sp (.ref a :: vs) H Q (fun _ _ _ => False)) :
    SimE R W (tMkx (R.ca.f c) sp ta) (fun env X Q => wr env X fun ts e1 => ns.length = ts.length ∧ ts.all flatT = true ∧ Q (.xo c ns ts) e1) qa k := by
  intro E H env σ p Xc Qw Q eK ec rs gd w q xo
  refine ha E H env σ p Xc _ _ eK ec rs gd w (fun E1 H1 p1 e1 ts vs g1 rs1 r1 gd1 _ ps1 w1 => ?_) xo
  obtain ⟨w1, w2, w3⟩ := w1
  have lv : vs.length = ns.length := by rw [w1, Reps.length r1]
  refine ⟨by omega, fun a ha => ?_⟩
  refine hsp a vs _ _ lv upd_same fun d hd hda => ⟨rfl, ?_⟩
  have hd1 : H1 d = none := by rw [upd_ne hda] at hd; exact hd
  have eH : upd (upd (upd H1 a (exo a (R.ca.f c) none)) d (exd d (ns.zip vs).reverse)) a (exo a (R.ca.f c) (some d)) = upd (upd H1 d (exd d (ns.zip vs).reverse)) a (exo a (R.ca.f c) (some d)) := by
    rw [upd_comm hda, upd_upd]
  rw [eH]
  have ha2 : (upd H1 d (exd d (ns.zip vs).reverse)) a = none := by rw [upd_ne (Ne.symm hda)]; exact ha
  have fr1 : Frm E1 E1 [] [] H1 (upd H1 d (exd d (ns.zip vs).reverse)) := Frm.laid hd1 fun _ z => nomatch z
  have fr2 : Frm E1 E1 [] [] (upd H1 d (exd d (ns.zip vs).reverse)) (upd (upd H1 d (exd d (ns.zip vs).reverse)) a (exo a (R.ca.f c) (some d))) := Frm.laid ha2 fun _ z => nomatch z
  have fr := fr1.trans fr2
  have gd2 := (gd1.laid0 (o := exd d (ns.zip vs).reverse) hd1).laid0 (o := exo a (R.ca.f c) (some d)) ha2
  have eca := ps1.Ec ec
  have rr : Reps E1 (upd (upd H1 d (exd d (ns.zip vs).reverse)) a (exo a (R.ca.f c) (some d))) ts vs [] := flat_rp r1 w2
  refine q E1 _ p1 e1 (.xo c ns ts) (.ref a) [] (rs1.kp (Kp.of0 fr)) ?_ gd2 (fun _ => gd2) ?_ w3
  · refine Rp.xo (.inl ⟨d, ?_, ?_⟩) w1 hnd w2 rr
    · rw [eca]; exact upd_same
    · rw [upd_ne hda, upd_same]
  · rw [gk_nil]
    exact Pst.op ps1.drop fr
theorem Sim.mk0 {c : Str} {r0 : List Str} : SimE R W (tMk0 (R.ca.f c)) (fun env _ Q => r0.contains c = true ∧ Q (.xo c [] []) env) true k := by
  intro E H env σ p Xc Qw Q eK ec rs gd w q xo a ha
  have fr : Frm E E [] [] H (upd H a (exo a (R.ca.f c) none)) := Frm.laid ha fun _ z => nomatch z
  have gd2 := gd.laid0 (o := exo a (R.ca.f c) none) ha
  refine q E _ p env (.xo c [] []) (.ref a) [] (rs.kp (Kp.of0 fr)) ?_ gd2 (fun _ => gd2) ?_ w.2
  · refine Rp.xo (vs := []) (.inr ⟨rfl, ?_⟩) rfl List.nodup_nil rfl .nil
    rw [ec]
    exact upd_same
  · rw [gk_nil]
    exact Pst.op Pst.refl fr
theorem Sim.xatt {xf : List (Str × Str)} {f : Str} (hxf : ∀ c, xf.contains (c, f) = true → XfC R.K (R.ca.f c) ∧ PySem.W.findIn R.K (.ref (R.ca.f c)) f = some none) (ha : SimE R W te wa qa true) :
    SimE R W (tXa R.K f te) (fun env X Q => wa env X fun x e => match x with
    | .xo c ns ts => xf.contains (c, f) = true ∧ ∃ t, lookT f ns ts = some t ∧ Q t e
    | _ => False) qa k := by
  intro E H env σ p Xc Qw Q eK ec rs gd w q xo
  refine ha E H env σ p Xc _ _ eK ec rs gd w (fun E1 H1 p1 e1 t1 v1 g1 rs1 r1 gd1 _ ps1 w1 => ?_) xo
  cases t1 <;> first | exact False.elim w1 | skip
  rename_i c ns ts
  obtain ⟨hc, t, l, w1⟩ := w1
  obtain ⟨h1, h2⟩ := hxf c hc
  have eca := ps1.Ec ec
  cases r1 with
  | @xo a _ _ _ vs hx hn hd hf hr =>
    obtain ⟨n, e1', _, e3⟩ := lookT_at l
    have lv := Reps.length hr
    have lk := e3 vs lv.symm
    obtain ⟨v, g, e4, hr2, _⟩ := Reps.get hr e1'
    rw [e4] at lk
    have ft : flatT t = true := List.all_eq_true.mp hf t (List.mem_of_getElem? e1')
    have lk2 : (ns.zip vs).reverse.lookup f = some v := by
      refine lookup_mem ?_ (List.mem_reverse.mpr (mem_of_lookupV lk))
      rw [List.map_reverse, zip_fst (by omega)]
      exact (List.reverse_perm ns).nodup_iff.mpr hd
    rcases hx with ⟨d, x1, x2⟩ | ⟨x1, _⟩
    · rw [eca] at x1
      have hr3 : Rep E1 H1 t v [] := flat_any hr2 ft
      exact ⟨a, _, d, _, v, rfl, h1, h2, x1, x2, lk2, q E1 H1 p1 e1 t v [] rs1 hr3 gd1 (fun _ => gd1) (by rw [gk_nil]; exact ps1.drop) w1⟩
    · rw [x1] at lk2
      cases lk2
theorem Sim.isx {c : Str} {xs : List ((Str × Str) × Bool)} {cv : Value} {cw : V} (hxs : XsOk R xs c cv) (hcw : ∀ u, RelV cw u → u = cv) (ha : SimE R W te wa qa true) :
    SimE R W (tCB (rIsO R.K) (tCons te (tCons (tC cw) tNil))) (fun env X Q => wa env X fun x e => match x with
    | .xo d _ _ => ∃ b, xs.lookup (d, c) = some b ∧ Q (.bl b) e
    | _ => False) qa k := by
  intro E H env σ p Xc Qw Q eK ec rs gd w q xo
  refine ha E H env σ p Xc _ _ eK ec rs gd w (fun E1 H1 p1 e1 t1 v1 g1 rs1 r1 gd1 _ ps1 w1 => ?_) xo
  cases t1 <;> first | exact False.elim w1 | skip
  rename_i d ns ts
  obtain ⟨b, lk, w1⟩ := w1
  obtain ⟨hk, hc⟩ := hxs _ _ lk
  have eca := ps1.Ec ec
  cases r1 with
  | @xo a _ _ _ vs hx hn hd hf hr =>
    refine ⟨a, _, cw, cv, b, rfl, hcw, hc, hk, ?_, q E1 H1 p1 e1 _ _ [] rs1 .bl gd1 (fun _ => gd1) (by rw [gk_nil]; exact ps1.drop) w1⟩
    rcases hx with ⟨d', x1, x2⟩ | ⟨_, x1⟩
    · rw [eca] at x1
      exact .inr ⟨d', _, x1, x2⟩
    · rw [eca] at x1
      exact .inl x1
end
end OT
end
section
set_option Elab.async false
set_option linter.all false
set_option maxRecDepth 100000
set_option maxHeartbeats 2000000
namespace OT
open PySem PySem.Spec PyProof.Rows L2
/-! ### facts of the written forms -/
theorem st_of {x : Expr} {xs : List Expr} {env : Env} (h : notStar x = true) : starEach (x :: xs) env = (false, eval x env) :: starEach xs env := by
  cases x <;> first | rfl | cases h
theorem back_plain {pos : Pos} {env : Env} : ∀ {xs : List Expr}, xs.all notStar = true → (backTo pos (starEach xs env)).any (·.1) = false
  | [], _ => rfl
  | x :: xs, h => by
    obtain ⟨h1, h2⟩ := Bool.and_eq_true_iff.mp (show (notStar x && xs.all notStar) = true from h)
    rw [st_of h1]
    show (false || (backTo pos (starEach xs env)).any (·.1)) = false
    rw [back_plain h2]
    rfl
theorem base_of {o : Expr} {f : Str} {env : Env} {whole : Sem Value} (h : noSup o = true) : attributeBase o f env whole = whole := by
  cases o with
  | Call g as ks pos =>
    cases g with
    | Name x p =>
      cases as with
      | nil =>
        cases ks with
        | nil => cases h
        | cons => rfl
      | cons => rfl
    | _ => rfl
  | _ => rfl
theorem plain_of {x : Str} (h : plain x = true) : (x == ("__debug__" : Str)) = false ∧ (x == ("__classdict__" : Str)) = false ∧ x ≠ "__name__" := by
  unfold plain at h
  simp only [Bool.and_eq_true, Bool.not_eq_true'] at h
  exact ⟨h.1.1, h.1.2, fun e => by rw [e] at h; exact absurd h.2 (by decide)⟩
theorem vis_of {sc : Scope} {x : Str} (h : vis sc x = true) : Vis sc x := by
  unfold vis at h
  split at h <;> first | exact .inl (by assumption) | exact .inr (.inl (by assumption)) | exact .inr (.inr (by assumption)) | cases h
/-- a name that is a slot -/
theorem chkN_inv {N : List Str} {sc : Scope} {i : Nat} {e : Expr} (h : chkN N sc i e = true) : ∃ x pos, e = .Name x pos ∧ N[i]? = some x ∧ Vis sc x ∧ (x == ("__debug__" : Str)) = false ∧ (x == ("__classdict__" : Str)) = false := by
  cases e <;> first | cases h; done | skip
  rename_i x pos
  simp only [chkN, Bool.and_eq_true, decide_eq_true_eq] at h
  obtain ⟨⟨h1, h2⟩, h3⟩ := h
  obtain ⟨p1, p2, _⟩ := plain_of h3
  exact ⟨x, pos, rfl, h1, vis_of h2, p1, p2⟩
theorem plainIx_of {b : Expr} (h : noSlice b = true) : PlainIx b := by
  cases b <;> first | (intro o i; rfl) | cases h
/-! ### the context -/
structure XOk (R : RP) (S : SP) (N : List Str) (sc : Scope) (W : WX) (X : Cx) : Prop where
  P : X.prog = R.P
  w : X.w = R.w
  K : X.K = R.K
  mg : X.mg = R.mg
  base : X.base = R.base
  N : X.N = N
  sc : X.env.scope = sc
  un : X.A.units + 65 < cLine
  tk : Takes X W
  calm : S.cal = true → X.calm = true
  room : S.cal = true → Room R.lv X.A
  ex : S.sx = true → ∃ (a D : Addr) (d : Option Addr) (X0 : Cx) (oe : Obj) (pn : List (Addr × Obj)), R.ca.x = some (a, .ref D, d) ∧ X = L2.Cx.suite X0 a ((a, oe) :: pn) ∧ Zc (.ref D) d oe ∧ ∃ vs, oe.data = .fields vs
/-- how the function at f is reached -/
def SgAt (R : RP) : Fk → Addr → Prop
  | .fn x, f => R.mg x = some (.ref f)
  | .mt c m, f => Cls R.K (R.ca.f c) ∧ Meth R.K (R.ca.f c) m f
  | .mk c, f => Mk R.K (R.ca.f c) f ∧ R.mg c = some (.ref (R.ca.f c))
/-! ### calls -/
section
variable {X : Cx} {CX : CXT} {k : Nat} {f C : Addr} {sp : Sp} {E : L2.St → XK} {x m : Str} {p pos apos : Pos} {e o : Expr} {es : List Expr} {ta : TE} {t : TA}
theorem run_fnRS {pins : List (Addr × Obj)} {σ : L2.St} {H : Hp} {s : Shared} {Q : VK} {us : List Value} {vs : List V} {Ex : XK} (F : FnR X.prog X.w X.K X.mg X.base CX k f sp) (hr : Room k X.A) (hx : PassesAt CX X σ Ex)
    (I : Inv X pins σ H s) (r : Vals vs us) (h : sp vs H Q Ex) : wpAny (model X.prog X.w) X.A (call (.ref f) us) (EP X pins σ Q) X.xe s := by
  refine wpAny_call (codeAny_mono (F X.A X.stack s H us vs Q Ex hr I.env0 r h) fun r s' hq => ?_)
  cases r with
  | error e => exact hx pins H s e s' I hq
  | ok fl =>
    cases fl with
    | ret u => exact I.after hq
    | next => exact False.elim hq
    | brk => exact False.elim hq
    | cont => exact False.elim hq
theorem pe_callRS (F : FnR X.prog X.w X.K X.mg X.base CX k f sp) (hr : Room k X.A) (hg : Gl X x) (hm : X.mg x = some (.ref f)) (hk : PySem.W.keepIn X.K (.ref f) = true) (hx : ∀ σ, PassesAt CX X σ (E σ))
    (ha : PA X (e :: es) t) (hdb : (x == ("__debug__" : Str)) = false) (he : starEach (e :: es) X.env = (false, eval e X.env) :: starEach es X.env) (hpl : (backTo pos (starEach es X.env)).any (·.1) = false) :
    PE X (.Call (.Name x p) (e :: es) [] pos) (tCallS sp E t) := by
  refine ⟨fun pins s σ H Q I h => ?_⟩
  refine wpAny_Call_Name_kw (ld_glob I hg hm ?_ hdb)
  refine PySem.W.callWith_K (h₀ := X.base) I.ok.mod.kin hk (thn (ha.run pos pins s σ H _ I h) fun us s1 ⟨vs, H1, I1, r, q⟩ => ⟨I1.kIn, ?_⟩) he hpl
  exact run_fnRS F hr (hx σ) I1 r q
theorem all_plain {env : Env} {pos : Pos} : ∀ {xs : List Expr}, xs.all notStar = true → (backTo pos (starEach xs env)).all (fun x => !x.1) = true
  | [], _ => rfl
  | x :: xs, h => by
    obtain ⟨h1, h2⟩ := Bool.and_eq_true_iff.mp (show (notStar x && xs.all notStar) = true from h)
    rw [st_of h1]
    show (true && (backTo pos (starEach xs env)).all (fun x => !x.1)) = true
    rw [all_plain h2]
    rfl
theorem mcall_eq {env : Env} (hs : noSup o = true) (hn : es.all notStar = true) (hl : (apos.endLine == pos.line) = true) (hz : es.length < 29) : eval (.Call (.Attribute o m apos) es [] pos) env = (do
    let ov ← eval o env
    standAt apos.atName
    let (f, first) ← holding [ov] (getMethod ov m (do return (← importBound o env).getD true))
    callWith pos f first (backTo pos (starEach es env)) (backToKw pos (keywordEach [] env))) := by
  refine mcall_of (base_of hs) fun ov => ?_
  have hf : methodCallForm (es.length + ([] : List Keyword).length) (backTo pos (starEach es env)) (backToKw pos (keywordEach [] env)) = true := by
    unfold methodCallForm
    rw [all_plain hn]
    show (true && true && decide (es.length + 0 + 0 < 30)) = true
    simp
    omega
  unfold methodCall
  rw [hf]
  unfold calleeOf methodCallPos
  rw [if_pos rfl, hl]
  rfl
theorem pe_mthS0 (he : PE X o ta) (c : Cls X.K C) (hm : Meth X.K C m f) (F : FnR X.prog X.w X.K X.mg X.base CX k f sp) (hr : Room k X.A) (hx : ∀ σ, PassesAt CX X σ (E σ)) (hs : noSup o = true) (hl : (apos.endLine == pos.line) = true) :
    PE X (.Call (.Attribute o m apos) [] [] pos) (tCallS sp E (tCons (tSelf C m ta) tNil)) := by
  refine ⟨fun pins s σ H Q I h => ?_⟩
  refine PySem.W.methodCall_KW (thn (he.run pins s σ H _ I h) fun u s1 ⟨x, H1, I1, rx, ⟨a, dx, fs, ex, ea, l⟩, q⟩ => ?_) (mcall_eq hs rfl hl (by decide))
  subst ex
  obtain rfl : u = Value.ref a := rx
  refine getmeth_ok I1 ea c hm l ?_
  exact PySem.W.callWith_K0 (first := [.ref a]) I1.kIn hm.kp (run_fnRS (us := [.ref a]) (vs := [.ref a]) F hr (hx σ) I1 (.cons rfl .nil) q)
theorem pe_mthS (he : PE X o ta) (c : Cls X.K C) (hm : Meth X.K C m f) (F : FnR X.prog X.w X.K X.mg X.base CX k f sp) (hr : Room k X.A) (hx : ∀ σ, PassesAt CX X σ (E σ)) (ha : PA X (e :: es) t) (hs : noSup o = true) (hn : (e :: es).all notStar = true) (hl : (apos.endLine == pos.line) = true) (hz : (e :: es).length < 29) :
    PE X (.Call (.Attribute o m apos) (e :: es) [] pos) (tCallS sp E (tCons (tSelf C m ta) t)) := by
  refine ⟨fun pins s σ H Q I h => ?_⟩
  refine PySem.W.methodCall_KW (thn (he.run pins s σ H _ I h) fun u s1 ⟨x, H1, I1, rx, ⟨a, dx, fs, ex, ea, l⟩, q⟩ => ?_) (mcall_eq hs hn hl hz)
  subst ex
  obtain rfl : u = Value.ref a := rx
  refine getmeth_ok I1 ea c hm l ?_
  obtain ⟨n1, n2⟩ := Bool.and_eq_true_iff.mp (show (notStar e && es.all notStar) = true from hn)
  refine PySem.W.callWith_K (first := [.ref a]) (h₀ := X.base) I.ok.mod.kin hm.kp (thn (ha.run pos pins s1 σ H1 _ I1 q) fun us s2 ⟨vs, H2, I2, r, q2⟩ => ⟨I2.kIn, ?_⟩) (st_of n1) (back_plain n2)
  exact run_fnRS (us := .ref a :: us) (vs := .ref a :: vs) F hr (hx σ) I2 (.cons rfl r) q2
theorem pe_mkS (M : Mk X.K C f) (F : FnR X.prog X.w X.K X.mg X.base CX k f sp) (hr : Room (k + 1) X.A) (hg : Gl X x) (hm : X.mg x = some (.ref C)) (hx : ∀ σ, PassesAt CX X σ (E σ))
    (ha : PA X (e :: es) t) (hdb : (x == ("__debug__" : Str)) = false) (he : starEach (e :: es) X.env = (false, eval e X.env) :: starEach es X.env) (hpl : (backTo pos (starEach es X.env)).any (·.1) = false) :
    PE X (.Call (.Name x p) (e :: es) [] pos) (tMakeS C sp E t) := by
  refine ⟨fun pins s0 σ H0 Q I0 h => ?_⟩
  refine wpAny_Call_Name_kw (ld_glob I0 hg hm ?_ hdb)
  refine PySem.W.callWith_K (h₀ := X.base) I0.ok.mod.kin M.kp (thn (ha.run pos pins s0 σ H0 _ I0 h) fun us s ⟨vs, H, I, r, h⟩ => ⟨I.kIn, ?_⟩) he hpl
  show wpAny _ _ (call (.ref C) us) _ _ _
  have hq := h (s.heap.objs.size + 1) s.heap.objs.size (I.hok.fresh (Nat.le_succ _)) (I.hok.fresh (Nat.le_refl _)) (Nat.ne_of_lt (Nat.lt_succ_self _))
  have I2 := Inv.made (C := C) I
  have r2 : Vals (V.ref (s.heap.objs.size + 1) :: vs) (Value.ref (s.heap.objs.size + 1) :: us) := .cons rfl r
  refine wpAny_call (make_map (f := f) I.kIn M.makes M.init (beq_iff_eq.mp M.fn) (codeAny_mono (F _ X.stack _ _ (Value.ref (s.heap.objs.size + 1) :: us) (V.ref (s.heap.objs.size + 1) :: vs) _ (E σ) (hr.make C us []) (I2.env0.make C us []) r2 hq) fun r s' hq' => ?_))
  cases r with
  | error e => exact hx σ pins _ _ e s' I2 hq'
  | ok fl =>
    cases fl with
    | ret u =>
      obtain ⟨v, H', I3, rv, ev, q3⟩ := I2.after hq'
      subst ev
      exact ⟨rv, ⟨V.ref (s.heap.objs.size + 1), H', I3, rfl, q3⟩⟩
    | next => exact False.elim hq'
    | brk => exact False.elim hq'
    | cont => exact False.elim hq'
end
structure EOk (R : RP) (S : SP) (N : List Str) (Tb : Sig) : Prop where
  nd : N.Nodup
  gl : ∀ x c, S.gl.contains (x, c) = true → ∃ u, R.mg x = some u ∧ RelV c.v u
  fr : ∀ x, S.fr.contains x = true → R.mg x = none
  sg : ∀ (n : Nat) x ms nd st, S.sg[n]? = some (x, ms, nd, st) → ∃ F f, Tb.tb[n]? = some F ∧ F.ms = ms ∧ F.dfs.length = nd ∧ F.star = st ∧ FnA R f F ∧ SgAt R x f
  at_ : AtOk R Tb.at_
  xf : ∀ c f, Tb.xf.contains (c, f) = true → XfC R.K (R.ca.f c) ∧ PySem.W.findIn R.K (.ref (R.ca.f c)) f = some none
  xc : ∀ c, S.xc.contains c = true → ∃ (cw : V) (cv : Value), RelV cw cv ∧ (∀ u, RelV cw u → u = cv) ∧ (R.mg c = some cv ∨ (R.mg c = none ∧ bootBuiltins c = some cv)) ∧ XsOk R Tb.xs c cv
  rz : ∀ c, S.rzl.contains c = true → ∃ ns, Tb.rz.lookup c = some ns ∧ RzOk R c ns
  r0 : ∀ c, S.r0l.contains c = true → R0Ok R c
theorem glo_of {X : Cx} {sc : Scope} {x : Str} (e : X.env.scope = sc) (h : glo sc x = true) : Gl X x := by
  unfold glo at h
  show X.env.scope.names.lookup x = _
  rw [e]
  exact of_decide_eq_true h
section
variable {R : RP} {S : SP} {N : List Str} {sc : Scope} {W : WX} {X : Cx} {Tb : Sig}
theorem XOk.var (ok : XOk R S N sc W X) {i : Nat} {e : Expr} (h : chkN N sc i e = true) : PE X e (tVar i) := by
  obtain ⟨x, pos, rfl, h1, h2, h3, h4⟩ := chkN_inv h
  exact pe_var (by rw [ok.N]; exact h1) (by rw [ok.sc]; exact h2) h3 h4
theorem notStar_N {i : Nat} {e : Expr} (h : chkN N sc i e = true) : notStar e = true := by
  obtain ⟨x, pos, rfl, _⟩ := chkN_inv h
  rfl
theorem noStarred (c : Expr) (p : Pos) : ∀ e : E, chkE S N sc e (.Starred c p) = false
  | .fre a => noStarred c p a
  | .frx a => noStarred c p a
  | .mth n c' m' as => by
    rcases as with _ | ⟨a, r⟩ <;> first | rfl | skip
    cases a <;> (rename_i y; cases y <;> rfl)
  | .cn _ => rfl
  | .gl _ _ => rfl
  | .nm _ => rfl
  | .att _ _ => rfl
  | .mv _ => rfl
  | .fz _ => rfl
  | .neg _ => rfl
  | .not _ => rfl
  | .bin _ _ _ => rfl
  | .cmp _ _ _ => rfl
  | .chn _ _ _ _ _ => rfl
  | .and _ _ => rfl
  | .or _ _ => rfl
  | .ifx _ _ _ => rfl
  | .tup _ => rfl
  | .lst _ => rfl
  | .idx _ _ => rfl
  | .slc _ _ _ => rfl
  | .bi _ _ => rfl
  | .bm _ _ _ => rfl
  | .mm _ _ _ => rfl
  | .call _ _ _ => rfl
  | .comp _ _ _ _ _ => rfl
  | .fst _ => rfl
  | .isi _ _ => rfl
  | .xat _ _ => rfl
  | .xis _ _ => rfl
  | .mkx _ _ => rfl
  | .mk0 _ => rfl
  | .xatt _ _ => rfl
  | .isx _ _ => rfl
  | .mk _ _ _ => rfl
  | .slf _ _ _ => rfl
theorem notStar_E {e : E} {x : Expr} (h : chkE S N sc e x = true) : notStar x = true := by
  cases x <;> first | rfl | skip
  rw [noStarred] at h
  cases h
theorem notStar_Es : ∀ {es : Es} {xs : List Expr}, chkEs S N sc es xs = true → xs.all notStar = true
  | .nil, [], _ => rfl
  | .cons e r, x :: xs, h => by
    obtain ⟨h1, h2⟩ := Bool.and_eq_true_iff.mp (show (chkE S N sc e x && chkEs S N sc r xs) = true from h)
    show (notStar x && xs.all notStar) = true
    rw [notStar_E h1, notStar_Es h2]
    rfl
  | .nil, _ :: _, h => by cases h
  | .cons _ _, [], h => by cases h
theorem notStar_P {p : P} {x : Expr} (h : chkP S N sc p x = true) : notStar x = true := by
  cases x <;> first | rfl | skip
  cases p <;> exact Bool.noConfusion (show false = true from h)
theorem notStar_As : ∀ {as : As} {xs : List Expr}, chkAs S N sc as xs = true → xs.all notStar = true
  | .nil, [], _ => rfl
  | .cons (.v e) r, x :: xs, h => by
    obtain ⟨h1, h2⟩ := Bool.and_eq_true_iff.mp (show (chkE S N sc e x && chkAs S N sc r xs) = true from h)
    show (notStar x && xs.all notStar) = true
    rw [notStar_E h1, notStar_As h2]
    rfl
  | .cons (.m p) r, x :: xs, h => by
    obtain ⟨h1, h2⟩ := Bool.and_eq_true_iff.mp (show (qtP p && chkP S N sc p x && chkAs S N sc r xs) = true from h)
    show (notStar x && xs.all notStar) = true
    rw [notStar_P (Bool.and_eq_true_iff.mp h1).2, notStar_As h2]
    rfl
  | .cons (.w p) r, x :: xs, h => by
    obtain ⟨h1, h2⟩ := Bool.and_eq_true_iff.mp (show (qtP p && chkP S N sc p x && chkAs S N sc r xs) = true from h)
    show (notStar x && xs.all notStar) = true
    rw [notStar_P (Bool.and_eq_true_iff.mp h1).2, notStar_As h2]
    rfl
  | .nil, _ :: _, h => by cases h
  | .cons (.v _) _, [], h => by cases h
  | .cons (.m _) _, [], h => by cases h
  | .cons (.w _) _, [], h => by cases h
theorem boot_bi (f : Bi) (h : f ≠ .sorted) : bootBuiltins f.nm = some (biV f) := by
  cases f <;> first | exact absurd rfl h | decide +kernel
theorem boot_ck (c : Ck) : bootBuiltins c.nm = some (.type (ckS c)) := by
  cases c <;> decide +kernel
/-! ### the block's context -/
theorem XOk.blk (ok : XOk R S N sc W X) (hc : S.cal = true) (hs : S.sx = false) (s : Shared) (H : Hp) (scope : Scope) (C : Addr) (cl : List (Str × Addr)) (fp : List Addr) : XOk R S N (relS scope sc) W0 (L2.Cx.blk X s H scope (compEnvC scope cl C X.env) fp) := by
  refine ⟨ok.P, ok.w, ok.K, ok.mg, ok.base, ok.N, ?_, ok.un, takes_none5, fun _ => ok.calm hc, fun _ => ok.room hc, fun z => by rw [hs] at z; cases z⟩
  rw [← ok.sc]
  rfl
theorem mth_inv {n : Nat} {c m : Str} {as : As} {x : Expr} (h : chkE S N sc (.mth n c m as) x = true) : ∃ o mm ap xs cp, x = .Call (.Attribute o mm ap) xs [] cp := by
  rcases as with _ | ⟨a, r⟩ <;> first | (cases x <;> exact Bool.noConfusion (show false = true from h)) | skip
  cases a <;> (rename_i y; cases y <;> first | (cases x <;> exact Bool.noConfusion (show false = true from h)) | skip)
  all_goals (cases x <;> first | exact Bool.noConfusion (show false = true from h) | skip)
  all_goals (rename_i g xs ks cp; cases g <;> cases ks <;> first | exact Bool.noConfusion (show false = true from h) | exact ⟨_, _, _, _, _, rfl⟩)
end
end OT
end
section
set_option Elab.async false
set_option linter.all false
set_option maxRecDepth 100000
set_option maxHeartbeats 4000000
namespace OT
open PySem PySem.Spec PyProof.Rows L2
theorem nope {p : Prop} (h : false = true) : p := Bool.noConfusion h
section
variable {R : RP} {S : SP} {N : List Str} {Tb : Sig}
theorem chkC_pe {c : Cn} {k : Const} (h : chkC c k = true) {X : Cx} {j : Nat} {pos : Pos} : PE X (.Constant k j pos) (tC c.v) := by
  cases c <;> cases k <;> first | exact nope h | skip
  · exact pe_non
  · rw [show _ = _ from eq_of_beq h]; exact pe_bl
  · rw [show _ = _ from of_decide_eq_true h]; exact pe_int
  · rw [show _ = _ from of_decide_eq_true h]; exact pe_str
theorem SimE.congr {R : RP} {W : WX} {te : TE} {w w' : En → XC → (T → En → Prop) → Prop} {q k : Bool} (e : ∀ env X Q, w env X Q = w' env X Q) (h : SimE R W te w' q k) : SimE R W te w q k := by
  have z : w = w' := by funext env X Q; exact e env X Q
  rw [z]; exact h
theorem PExR (X : Cx) {x : Expr} {te te' : TE} (h : PE X x te) (e : te = te') : PE X x te' := e ▸ h
theorem pa1 {X : Cx} {x : Expr} {te : TE} (h : PE X x te) (n : notStar x = true) : PA X [x] (tCons te tNil) := pa_cons h pa_nil (st_of n)
theorem few1 {e : Expr} {env : Env} {cpos : Pos} (n : notStar e = true) : ((backTo cpos (starEach [e] env)).all (fun x => !x.1) && (backToKw cpos (keywordEach [] env)).all (fun x => x.1.isSome)
      && decide (([e] : List Expr).length + ([] : List Keyword).length + (if ([] : List Keyword).isEmpty then 0 else 1) < 30)) = true := by
  rw [st_of n]; rfl
theorem qtA_noM : ∀ {as : As}, qtA as = true → as.noM = true
  | .nil, _ => rfl
  | .cons (.v e) r, h => qtA_noM (as := r) (Bool.and_eq_true_iff.mp (show (qt e && qtA r) = true from h)).2
  | .cons (.m p) r, h => by cases (Bool.and_eq_true_iff.mp (show (false && qtA r) = true from h)).1
  | .cons (.w p) r, h => qtA_noM (as := r) (Bool.and_eq_true_iff.mp (show (qtP p && qtA r) = true from h)).2
/-- targets -/
theorem sound_S {sc : Scope} {dl : Bool} {X : Cx} (hN : X.N = N) (nd : N.Nodup) (hs : X.env.scope = sc) (fn : dl = true → ∀ x, sc.names.lookup x = some .cell → X.fn x = true) {i : Nat} {e : Expr} (h : chkS N sc dl i e = true) : PG X e (gName i) := by
  cases e <;> first | exact nope h | skip
  rename_i x pos
  simp only [chkS, Bool.and_eq_true, decide_eq_true_eq, Bool.or_eq_true] at h
  obtain ⟨⟨h1, h2⟩, h3⟩ := h
  have hl : sc.names.lookup x = some .local ∨ (dl = true ∧ sc.names.lookup x = some .cell) := h2
  refine pg_name (by rw [hN]; exact nd) (by rw [hN]; exact h1) ?_ ?_
  · rw [hs]; exact hl.imp id fun z => z.2
  · rw [hs]
    rcases hl with z | z
    · exact .inr z
    · exact .inl (fn z.1 x z.2)
theorem each_S {sc : Scope} {dl : Bool} {X : Cx} : ∀ {is : List Nat} {es : List Expr}, chkSs N sc dl is es = true → (assignEach es X.env).length = is.length ∧ (assignEach es X.env).findIdx? (·.1) = none ∧ (∀ e r, es = e :: r → (assignEach (e :: r) X.env).map (·.2) = assign e X.env :: (assignEach r X.env).map (·.2))
  | [], [], _ => ⟨rfl, rfl, fun _ _ e => by cases e⟩
  | i :: is, e :: es, h => by
    obtain ⟨h1, h2⟩ := Bool.and_eq_true_iff.mp (show (chkS N sc dl i e && chkSs N sc dl is es) = true from h)
    obtain ⟨k1, k2, _⟩ := each_S (X := X) h2
    cases e <;> first | exact nope h1 | skip
    rename_i x pos
    have ee : assignEach (.Name x pos :: es) X.env = (false, assign (.Name x pos) X.env) :: assignEach es X.env := by first | rfl | simp [assignEach]
    refine ⟨by rw [ee]; simp [k1], ?_, fun e r z => ?_⟩
    · rw [ee, List.findIdx?_cons]
      simp [k2]
    · cases z
      rw [ee]
      rfl
  | [], _ :: _, h => nope h
  | _ :: _, [], h => nope h
theorem sound_Ss {sc : Scope} {dl : Bool} {X : Cx} (hN : X.N = N) (nd : N.Nodup) (hs : X.env.scope = sc) (fn : dl = true → ∀ x, sc.names.lookup x = some .cell → X.fn x = true) : ∀ {is : List Nat} {es : List Expr}, chkSs N sc dl is es = true → PGs X es (gNs is)
  | [], [], _ => pgs_nil
  | i :: is, e :: es, h => by
    obtain ⟨h1, h2⟩ := Bool.and_eq_true_iff.mp (show (chkS N sc dl i e && chkSs N sc dl is es) = true from h)
    exact pgs_cons (sound_S hN nd hs fn h1) (sound_Ss hN nd hs fn h2) ((each_S (X := X) h).2.2 _ _ rfl)
  | [], _ :: _, h => nope h
  | _ :: _, [], h => nope h
theorem sound_G {sc : Scope} {dl : Bool} {X : Cx} (hN : X.N = N) (nd : N.Nodup) (hs : X.env.scope = sc) (hc : X.calm = true) (fn : dl = true → ∀ x, sc.names.lookup x = some .cell → X.fn x = true) : ∀ {g : Tg} {e : Expr}, chkG N sc dl g e = true → PG X e (gT X.K g)
  | .nm i, e, h => sound_S hN nd hs fn h
  | .tp is, e, h => by
    cases e <;> first | exact nope h | skip
    rename_i es c pos
    have h : chkSs N sc dl is es = true := h
    obtain ⟨k1, k2, _⟩ := each_S (X := X) h
    exact pg_tup hc (sound_Ss hN nd hs fn h) k1 k2
variable (eo : EOk R S N Tb)
include eo
mutual
theorem soundE : ∀ (e : E) {sc : Scope} {W : WX} {x : Expr}, chkE S N sc e x = true → ∃ te, (∀ X, XOk R S N sc W X → PE X x te) ∧ ∀ k, SimE R W te (wpE Tb k e) (qt e) k
  | .cn c, sc, W, x, h => by
    cases x <;> first | exact nope h | skip
    exact ⟨tC c.v, fun X ok => chkC_pe h, fun k => Sim.const⟩
  | .gl y c, sc, W, x, h => by
    cases x <;> first | exact nope h | skip
    rename_i z pos
    simp only [chkE, Bool.and_eq_true, decide_eq_true_eq] at h
    obtain ⟨⟨⟨h1, h2⟩, h3⟩, h4⟩ := h
    subst h1
    obtain ⟨u, hm, r⟩ := eo.gl y c h4
    exact ⟨tC c.v, fun X ok => pe_glob (glo_of ok.sc h2) (by rw [ok.mg]; exact hm) r (plain_of h3).1, fun k => Sim.const⟩
  | .nm i, sc, W, x, h => ⟨tVar i, fun X ok => ok.var (show chkN N sc i x = true by cases x <;> exact h), fun k => Sim.name⟩
  | .mv i, sc, W, x, h => ⟨tVar i, fun X ok => ok.var (show chkN N sc i x = true by cases x <;> exact h), fun k => Sim.mv⟩
  | .fz i, sc, W, x, h => ⟨tVar i, fun X ok => ok.var (show chkN N sc i x = true by cases x <;> exact h), fun k => Sim.fz⟩
  | .fre a, sc, W, x, h => by
    obtain ⟨te, p, q⟩ := soundE a (W := W) (x := x) (show chkE S N sc a x = true by cases x <;> exact h)
    exact ⟨te, p, fun k => Sim.fre (q false)⟩
  | .frx a, sc, W, x, h => by
    obtain ⟨te, p, q⟩ := soundE a (W := W) (x := x) (show chkE S N sc a x = true by cases x <;> exact h)
    exact ⟨te, p, fun k => Sim.frx (q false)⟩
  | .att a f, sc, W, x, h => by
    cases x <;> first | exact nope h | skip
    rename_i o g pos
    simp only [chkE, Bool.and_eq_true, decide_eq_true_eq] at h
    obtain ⟨⟨h1, h2⟩, h3⟩ := h
    subst h1
    obtain ⟨te, p, q⟩ := soundE a (W := W) h3
    exact ⟨tFld R.K te f, fun X ok => by rw [← ok.K]; exact pe_fld (p X ok) (base_of h2), fun k => Sim.att eo.at_ (q true)⟩
  | .neg a, sc, W, x, h => by
    cases x <;> first | exact nope h | skip
    rename_i op o pos
    cases op <;> first | exact nope h | skip
    obtain ⟨te, p, q⟩ := soundE a (W := W) (x := o) h
    exact ⟨_, fun X ok => pe_un un_neg (p X ok), fun k => Sim.neg (q true)⟩
  | .not a, sc, W, x, h => by
    cases x <;> first | exact nope h | skip
    rename_i op o pos
    cases op <;> first | exact nope h | skip
    obtain ⟨te, p, q⟩ := soundE a (W := W) (x := o) h
    exact ⟨_, fun X ok => pe_not (p X ok), fun k => Sim.not (q true)⟩
  | .bin o a b, sc, W, x, h => by
    cases x <;> first | exact nope h | skip
    rename_i y u z pos
    simp only [chkE, Bool.and_eq_true, decide_eq_true_eq] at h
    obtain ⟨⟨h1, h2⟩, h3⟩ := h
    subst h1
    obtain ⟨ta, pa, qa⟩ := soundE a (W := W) h2
    obtain ⟨tb, pb, qb⟩ := soundE b (W := W) h3
    exact ⟨tOp (opR R.K o) ta tb, fun X ok => by rw [← ok.K]; exact pe_op (op_all o) (pa X ok) (pb X ok), fun k => Sim.bin (qa _) (qb true) (fun z => z) (sim_op o)⟩
  | .cmp o a b, sc, W, x, h => by
    cases x <;> first | exact nope h | skip
    rename_i y us zs pos
    rcases us with _ | ⟨u, _ | ⟨u2, us⟩⟩ <;> rcases zs with _ | ⟨z, _ | ⟨z2, zs⟩⟩ <;> first | exact nope h | skip
    simp only [chkE, Bool.and_eq_true, decide_eq_true_eq, Bool.not_eq_true'] at h
    obtain ⟨⟨⟨h1, h2⟩, h3⟩, h4⟩ := h
    subst h1
    obtain ⟨ta, pa, qa⟩ := soundE a (W := W) h3
    obtain ⟨tb, pb, qb⟩ := soundE b (W := W) h4
    exact ⟨tOp (cmpR R.K o) ta tb, fun X ok => by rw [← ok.K]; exact pe_cmpR (cmp_all ok.un o) (pa X ok) (pb X ok) h2, fun k => Sim.cmp (qa _) (qb true) (fun z => z) (sim_cmp o)⟩
  | .chn o u a b c, sc, W, x, h => by
    cases x <;> first | exact nope h | skip
    rename_i y us zs pos
    rcases us with _ | ⟨u1, _ | ⟨u2, _ | ⟨u3, us⟩⟩⟩ <;> rcases zs with _ | ⟨z1, _ | ⟨z2, _ | ⟨z3, zs⟩⟩⟩ <;> first | exact nope h | skip
    simp only [chkE, Bool.and_eq_true, decide_eq_true_eq, Bool.not_eq_true'] at h
    obtain ⟨⟨⟨⟨⟨h1, h2⟩, h3⟩, h4⟩, h5⟩, h6⟩ := h
    subst h1 h2
    obtain ⟨ta, pa, qa⟩ := soundE a (W := W) h4
    obtain ⟨tb, pb, qb⟩ := soundE b (W := W) h5
    obtain ⟨tc, pc, qc⟩ := soundE c (W := W) h6
    exact ⟨tChain (cmpR R.K o) (cmpR R.K u) ta tb tc, fun X ok => by rw [← ok.K]; exact pe_chain (cmp_all ok.un o) (cmp_all ok.un u) (pa X ok) (pb X ok) (pc X ok) h3,
      fun k => Sim.chn (qa _) (qb _) (qc true) (fun z => Bool.and_eq_true_iff.mp z) (fun z => z) (sim_cmp o) (sim_cmp u)⟩
  | .and a b, sc, W, x, h => by
    cases x <;> first | exact nope h | skip
    rename_i op xs pos
    cases op <;> rcases xs with _ | ⟨y, _ | ⟨z, r⟩⟩ <;> first | exact nope h | skip
    obtain ⟨h1, h2⟩ := Bool.and_eq_true_iff.mp (show (chkE S N sc a y && (match (generalizing := false) r with | [] => chkE S N sc b z | _ :: _ => chkE S N sc b (.BoolOp .And (z :: r) pos))) = true from h)
    obtain ⟨ta, pa, qa⟩ := soundE a (W := W) h1
    cases r with
    | nil =>
      obtain ⟨tb, pb, qb⟩ := soundE b (W := W) h2
      exact ⟨tAndV ta tb, fun X ok => pe_and (pa X ok) (pe_one (pb X ok)), fun k => Sim.and (qa true) (qb k)⟩
    | cons w r =>
      obtain ⟨tb, pb, qb⟩ := soundE b (W := W) h2
      exact ⟨tAndV ta tb, fun X ok => pe_and (pa X ok) (pb X ok), fun k => Sim.and (qa true) (qb k)⟩
  | .or a b, sc, W, x, h => by
    cases x <;> first | exact nope h | skip
    rename_i op xs pos
    cases op <;> rcases xs with _ | ⟨y, _ | ⟨z, r⟩⟩ <;> first | exact nope h | skip
    obtain ⟨h1, h2⟩ := Bool.and_eq_true_iff.mp (show (chkE S N sc a y && (match (generalizing := false) r with | [] => chkE S N sc b z | _ :: _ => chkE S N sc b (.BoolOp .Or (z :: r) pos))) = true from h)
    obtain ⟨ta, pa, qa⟩ := soundE a (W := W) h1
    cases r with
    | nil =>
      obtain ⟨tb, pb, qb⟩ := soundE b (W := W) h2
      exact ⟨tOrV ta tb, fun X ok => pe_or (pa X ok) (pe_one (pb X ok)), fun k => Sim.or (qa true) (qb k)⟩
    | cons w r =>
      obtain ⟨tb, pb, qb⟩ := soundE b (W := W) h2
      exact ⟨tOrV ta tb, fun X ok => pe_or (pa X ok) (pb X ok), fun k => Sim.or (qa true) (qb k)⟩
  | .ifx c a b, sc, W, x, h => by
    cases x <;> first | exact nope h | skip
    rename_i t y z pos
    simp only [chkE, Bool.and_eq_true] at h
    obtain ⟨⟨h1, h2⟩, h3⟩ := h
    obtain ⟨tc, pc, qc⟩ := soundT c (W := W) h1
    obtain ⟨ta, pa, qa⟩ := soundE a (W := W) h2
    obtain ⟨tb, pb, qb⟩ := soundE b (W := W) h3
    exact ⟨tIf tc ta tb, fun X ok => pe_ifExp (pc X ok).1 (pa X ok) (pb X ok), fun k => Sim.ifx qc (qa k) (qb k)⟩
  | .tup es, sc, W, x, h => by
    cases x <;> first | exact nope h | skip
    obtain ⟨ta, pa, qa⟩ := soundEs es (W := W) h
    exact ⟨tTup ta, fun X ok => pe_tup (pa X ok), fun k => Sim.tupD (qa false fun z => nomatch z)⟩
  | .lst es, sc, W, x, h => by
    cases x <;> first | exact nope h | skip
    obtain ⟨ta, pa, qa⟩ := soundEs es (W := W) h
    exact ⟨tLst ta, fun X ok => pe_lst (pa X ok), fun k => Sim.lstD (qa false fun z => nomatch z)⟩
  | .idx a i, sc, W, x, h => by
    cases x <;> first | exact nope h | skip
    simp only [chkE, Bool.and_eq_true] at h
    obtain ⟨⟨h1, h2⟩, h3⟩ := h
    obtain ⟨ta, pa, qa⟩ := soundE a (W := W) h2
    obtain ⟨tb, pb, qb⟩ := soundE i (W := W) h3
    exact ⟨tOp (rIx R.K) ta tb, fun X ok => by rw [← ok.K]; exact pe_ix ix_seq (pa X ok) (pb X ok) (plainIx_of h1), fun k => Sim.idx (qa _) (qb true) fun z => z⟩
  | .slc a lo hi, sc, W, x, h => by
    cases x <;> first | exact nope h | skip
    rename_i y z pos
    cases z <;> first | exact nope h | skip
    rename_i l u st p2
    cases st <;> first | exact nope h | skip
    simp only [chkE, Bool.and_eq_true] at h
    obtain ⟨⟨h1, h2⟩, h3⟩ := h
    obtain ⟨ta, pa, qa⟩ := soundE a (W := W) h1
    obtain ⟨tl, pl, ql⟩ := soundO lo (W := W) h2
    obtain ⟨th, ph, qh⟩ := soundO hi (W := W) h3
    exact ⟨tSl (rSlA2 R.K) ta tl th, fun X ok => by rw [← ok.K]; exact pe_slice sl_all (pa X ok) (pl X ok) (ph X ok), fun k => Sim.slc (qa _) ql qh fun z => z⟩
  | .bi f es, sc, W, x, h => by
    cases x <;> first | exact nope h | skip
    rename_i g xs ks pos
    cases g <;> rcases xs with _ | ⟨e, r⟩ <;> rcases ks with _ | ⟨kw, ks⟩ <;> first | exact nope h | skip
    rename_i y p
    simp only [chkE, Bool.and_eq_true, decide_eq_true_eq] at h
    obtain ⟨⟨⟨⟨⟨h1, h2⟩, h3⟩, h4⟩, h5⟩, h6⟩ := h
    obtain ⟨p1, p2, p3⟩ := plain_of h3
    obtain ⟨ta, pa, qa⟩ := soundEs es (W := W) h6
    have ns := notStar_Es h6
    obtain ⟨n1, n2⟩ := Bool.and_eq_true_iff.mp (show (notStar e && r.all notStar) = true from ns)
    refine ⟨tCB (biR R.K f) ta, fun X ok => ?_, fun k => Sim.bi (qa (qts es) fun z => z)⟩
    have hf : f ≠ .sorted := by
      simp only [Bool.or_eq_true, Bool.and_eq_true, decide_eq_true_eq] at h5
      rcases h5 with z | z
      · exact z.2
      · intro e; rw [e] at z; cases z
    have hb := boot_bi f hf
    rw [← h1] at hb
    have hcr : CallR X (biV f) (biR X.K f) := by
      by_cases hc : S.cal = true
      · exact bi_all (ok.calm hc) f
      · have hcool : f.cool = true := by
          simp only [Bool.or_eq_true, Bool.and_eq_true, decide_eq_true_eq] at h5
          exact h5.resolve_left fun z => hc z.1
        cases f <;> first | (exact nope hcool) | exact call_len | exact call_int1.or call_int_str | exact call_abs | exact call_tuple_of | exact call_list_of | exact call_str_int
    rw [← ok.K]
    cases f <;> first | exact absurd rfl hf | exact pe_callB hcr (glo_of ok.sc h2) (by rw [ok.mg]; exact eo.fr y h4) hb (pa X ok) p3 p1 (st_of n1) (back_plain n2) | exact pe_callTy hcr (glo_of ok.sc h2) (by rw [ok.mg]; exact eo.fr y h4) hb (pa X ok) p3 p1 (st_of n1) (back_plain n2)
  | .bm m a es, sc, W, x, h => by
    cases x <;> first | exact nope h | skip
    rename_i g xs ks pos
    cases g <;> rcases xs with _ | ⟨e, _ | ⟨e2, r⟩⟩ <;> rcases ks with _ | ⟨kw, ks⟩ <;> first | exact nope h | skip
    rename_i y n ap
    simp only [chkE, Bool.and_eq_true, decide_eq_true_eq] at h
    obtain ⟨⟨⟨⟨h1, h2⟩, h3⟩, h4⟩, h5⟩ := h
    obtain ⟨ta, pa, qa⟩ := soundE a (W := W) h4
    obtain ⟨tb, pb, qb⟩ := soundEs es (W := W) h5
    have ns := notStar_Es h5
    have n1 : notStar e = true := (Bool.and_eq_true_iff.mp (show (notStar e && ([] : List Expr).all notStar) = true from ns)).1
    refine ⟨tBM R.K "str" (bmR R.K m) ta tb, fun X ok => ?_, fun k => Sim.bm (qa _) (qb (qts es) fun z => z) fun z => z⟩
    subst h1
    rw [← ok.K]
    cases m with
    | join => exact pe_bm F.plainAttrs_str F.slot_str_join F.type_str_join mt_join (pa X ok) (pb X ok) (base_of h3) (few1 n1) h2 (st_of n1) rfl
    | split => exact pe_bm F.plainAttrs_str F.slot_str_split F.type_str_split mt_split (pa X ok) (pb X ok) (base_of h3) (few1 n1) h2 (st_of n1) rfl
  | .mm m p es, sc, W, x, h => by
    cases x <;> first | exact nope h | skip
    rename_i g xs ks pos
    cases g <;> rcases ks with _ | ⟨kw, ks⟩ <;> first | exact nope h | skip
    rename_i y n ap
    simp only [chkE, Bool.and_eq_true, decide_eq_true_eq, Bool.or_eq_true] at h
    obtain ⟨⟨⟨⟨⟨⟨⟨h1, h2⟩, h3⟩, h4⟩, h5⟩, h6⟩, h7⟩, h8⟩ := h
    obtain ⟨ta, pa, qa⟩ := soundP p (W := W) h6
    have go : ∀ tb, (∀ k, (k = true → qts es = true) → SimA R W tb (wpEs Tb k es) (qts es) k) → ∀ k, SimE R W (tBM R.K "list" (mmR m) ta tb) (wpE Tb k (.mm m p es)) (qt (.mm m p es)) k := fun tb qb k => by
      have eK : ∀ env X Q, wpE Tb k (.mm m p es) env X Q = wpP Tb p env X fun i st x => isOwn x = true ∧ (match env[i]? with
          | some (.has b r) => (match qts es with
            | true => wpEs Tb (m == .extend) es env X fun ts _ => mmT m x ts fun x' y => Q y (env.set i (.has b (setS r st x')))
            | false => b = false ∧ wpEs Tb false es (env.set i .und) X fun ts e1 => mmT m x ts fun x' y => Q y (e1.set i (.has b (setS r st x'))))
          | _ => False) := fun env X Q => rfl
      cases hq : qts es with
      | true =>
        have z := Sim.mmq (k := k) (m := m) qa (by have z := qb (m == .extend) (fun _ => hq); rw [hq] at z; exact z)
        exact SimE.congr (fun env X Q => by rw [eK, hq]; try rfl) z
      | false =>
        have hm : m ≠ .extend := by
          rcases h5 with z | z
          · exact z
          · rw [hq] at z; cases z
        have z := Sim.mmn (k := k) (m := m) qa (by have z := qb false (fun z => nomatch z); exact z) hm
        exact SimE.congr (fun env X Q => by rw [eK, hq]; try rfl) z
    obtain ⟨tb, pb, qb⟩ := soundEs es (W := W) h7
    have ns := notStar_Es h7
    have hxs : (es = .nil ∧ xs = []) ∨ ∃ e, xs = [e] ∧ notStar e = true := by
      rcases es with _ | ⟨e0, _ | ⟨e1, es⟩⟩ <;> rcases xs with _ | ⟨e, _ | ⟨e2, xs⟩⟩ <;> first | exact .inl ⟨rfl, rfl⟩ | exact nope h7 | exact nope h8 | skip
      · exact .inr ⟨e, rfl, (Bool.and_eq_true_iff.mp (show (notStar e && ([] : List Expr).all notStar) = true from ns)).1⟩
      · exact nope (Bool.and_eq_true_iff.mp (show (chkE S N sc e0 e && false) = true from h7)).2
    subst h1
    rcases hxs with ⟨z1, z2⟩ | ⟨e, z, n1⟩
    · subst z1 z2
      refine ⟨tBM R.K "list" (mmR m) ta tNil, fun X ok => ?_, go tNil fun k _ => SimA.nil⟩
      rw [← ok.K]
      show PE X _ (tBM0 X.K "list" (mmR m) ta)
      cases m with
      | append => exact pe_bm0 F.plainAttrs_list F.slot_list_append F.type_list_append mt_append (pa X ok) (base_of h3) h2
      | extend => exact pe_bm0 F.plainAttrs_list F.slot_list_extend F.type_list_extend mt_extend (pa X ok) (base_of h3) h2
      | pop => exact pe_bm0 F.plainAttrs_list F.slot_list_pop F.type_list_pop mt_pop (pa X ok) (base_of h3) h2
      | reverse => exact pe_bm0 F.plainAttrs_list F.slot_list_reverse F.type_list_reverse mt_reverse (pa X ok) (base_of h3) h2
    · subst z
      refine ⟨tBM R.K "list" (mmR m) ta tb, fun X ok => ?_, go tb qb⟩
      rw [← ok.K]
      cases m with
      | append => exact pe_bm F.plainAttrs_list F.slot_list_append F.type_list_append mt_append (pa X ok) (pb X ok) (base_of h3) (few1 n1) h2 (st_of n1) rfl
      | extend => exact pe_bm F.plainAttrs_list F.slot_list_extend F.type_list_extend mt_extend (pa X ok) (pb X ok) (base_of h3) (few1 n1) h2 (st_of n1) rfl
      | pop => exact pe_bm F.plainAttrs_list F.slot_list_pop F.type_list_pop mt_pop (pa X ok) (pb X ok) (base_of h3) (few1 n1) h2 (st_of n1) rfl
      | reverse => exact pe_bm F.plainAttrs_list F.slot_list_reverse F.type_list_reverse mt_reverse (pa X ok) (pb X ok) (base_of h3) (few1 n1) h2 (st_of n1) rfl
  | .call n y as, sc, W, x, h => by
    cases x <;> first | exact nope h | skip
    rename_i g xs ks pos
    cases g <;> rcases xs with _ | ⟨e, r⟩ <;> rcases ks with _ | ⟨kw, ks⟩ <;> first | exact nope h | skip
    rename_i z p
    simp only [chkE, Bool.and_eq_true, decide_eq_true_eq] at h
    obtain ⟨⟨⟨⟨⟨⟨h0, h1⟩, h2⟩, h3⟩, h4⟩, h5⟩, h6⟩ := h
    subst h1
    obtain ⟨p1, p2, p3⟩ := plain_of h3
    cases hs : S.sg[n]? with
    | none => rw [hs] at h5; cases h5
    | some s =>
      obtain ⟨fk, ms, nd, st⟩ := s
      rw [hs] at h5
      cases fk <;> first | exact nope h5 | skip
      rename_i x'
      simp only [Bool.and_eq_true, decide_eq_true_eq] at h5
      obtain ⟨⟨k1, k2⟩, k3⟩ := h5
      subst k1
      obtain ⟨F, f, e1, e2, e3, e4, ⟨kk, g1, g2, g3⟩, g4⟩ := eo.sg n _ _ _ _ hs
      subst e2 e3 e4
      obtain ⟨ta, pa, qa⟩ := soundAs as (W := W) h6 h4
      have ns := notStar_As h6
      obtain ⟨n1, n2⟩ := Bool.and_eq_true_iff.mp (show (notStar e && r.all notStar) = true from ns)
      refine ⟨tCallS (spA R.K R.ca.f F) (WE W) ta, fun X ok => ?_, fun k => ?_⟩
      · exact pe_callRS (f := f) (k := kk) (CX := L2.CX R.P R.w) (by rw [ok.P, ok.w, ok.K, ok.mg, ok.base]; exact g3) ((ok.room h0).mono (by omega)) (glo_of ok.sc h2) (by rw [ok.mg]; exact g4) (by rw [ok.K]; exact g2) (fun σ => by rw [← ok.P, ← ok.w]; exact passAt ok.tk σ) (pa X ok) p1 (st_of n1) (back_plain n2)
      · refine SimE.congr (fun env X Q => ?_) (Sim.call (k := k) (F := F) qa k2 k3 qtA_noM)
        show wpAs Tb as env X (fun ts o e1 => (match Tb.tb[n]? with
            | some F => F.Ψ (F.arg ts) fun r => (match r with
              | .ok t outs => (hasW as = true → nvw t = true ∧ nvws outs = true) ∧ Q t (putO e1 o outs)
              | .ex c fs outs => (hasW as = true → nvws outs = true) ∧ X c fs (putO e1 o outs))
            | none => False)) = _
        rw [e1]
        try rfl
  | .mk n c as, sc, W, x, h => by
    cases x <;> first | exact nope h | skip
    rename_i g xs ks pos
    cases g <;> rcases xs with _ | ⟨e, r⟩ <;> rcases ks with _ | ⟨kw, ks⟩ <;> first | exact nope h | skip
    rename_i z p
    simp only [chkE, Bool.and_eq_true, decide_eq_true_eq] at h
    obtain ⟨⟨⟨⟨⟨⟨⟨h0, h1⟩, h2⟩, h3⟩, h4⟩, h7⟩, h5⟩, h6⟩ := h
    subst h1
    obtain ⟨p1, p2, p3⟩ := plain_of h3
    cases hs : S.sg[n]? with
    | none => rw [hs] at h5; cases h5
    | some s =>
      obtain ⟨fk, ms, nd, st⟩ := s
      rw [hs] at h5
      cases fk <;> rcases ms with _ | ⟨m0, ms⟩ <;> first | exact nope h5 | skip
      cases m0 <;> first | exact nope h5 | skip
      rename_i x'
      simp only [Bool.and_eq_true, decide_eq_true_eq] at h5
      obtain ⟨⟨k1, k2⟩, k3⟩ := h5
      have k1 := k1.symm
      subst k1
      obtain ⟨F, f, e1, e2, e3, e4, ⟨kk, g1, g2, g3⟩, g4, g5⟩ := eo.sg n _ _ _ _ hs
      subst e3 e4
      obtain ⟨ta, pa, qa⟩ := soundAs as (W := W) h6 h4
      have ns := notStar_As h6
      obtain ⟨n1, n2⟩ := Bool.and_eq_true_iff.mp (show (notStar e && r.all notStar) = true from ns)
      refine ⟨tMakeS (R.ca.f c) (spA R.K R.ca.f F) (WE W) ta, fun X ok => ?_, fun k => ?_⟩
      · exact pe_mkS (f := f) (k := kk) (CX := L2.CX R.P R.w) (by rw [ok.K]; exact g4) (by rw [ok.P, ok.w, ok.K, ok.mg, ok.base]; exact g3) ((ok.room h0).mono (by omega)) (glo_of ok.sc h2) (by rw [ok.mg]; exact g5) (fun σ => by rw [← ok.P, ← ok.w]; exact passAt ok.tk σ) (pa X ok) p1 (st_of n1) (back_plain n2)
      · refine SimE.congr (fun env X Q => ?_) (Sim.mk (k := k) (F := F) (c := c) qa e2 k2 (by rw [e2]; exact k3) h7)
        show wpAs Tb as env X (fun ts o e1 => o = none ∧ (match Tb.tb[n]? with
            | some F => F.Ψ (F.arg (.ins .own c [] [] :: ts)) fun r => (match r with
              | .ok t outs => t = .non ∧ (match outs with
                | [y] => (hasW as = true → nvw y = true) ∧ Q y e1
                | _ => False)
              | .ex d fs _ => X d fs e1)
            | none => False)) = _
        rw [e1]
        try rfl
  | .slf e c m, sc, W, x, h => by
    cases x <;> exact nope h
  | .mth n c m (.cons (.m (.slf y c' m')) as), sc, W, x, h => by
    obtain ⟨o, mm, ap, xs, cp, ex⟩ := mth_inv h
    subst ex
    have h : (S.cal && decide (c = c') && decide (m = m') && decide (m = mm) && (ap.endLine == cp.line) && noSup o && decide (xs.length < 29) && qtP y && as.noM && as.okm && (match S.sg[n]? with
      | some (.mt d k, ms, nd, st) => decide (d = c) && decide (k = m) && okMs ms (.m :: as.ms) && okAr ms.length nd st (as.len + 1)
      | _ => false) && chkP S N sc y o && chkAs S N sc as xs) = true := h
    simp only [Bool.and_eq_true, decide_eq_true_eq] at h
    obtain  ⟨⟨⟨⟨⟨⟨⟨⟨⟨⟨⟨⟨h0, h1⟩, h2⟩, h3⟩, h4⟩, h5⟩, h6⟩, h7⟩, h8⟩, hk⟩, hg⟩, hy⟩, hx⟩ := h
    subst h1 h2 h3
    cases hs : S.sg[n]? with
    | none => rw [hs] at hg; cases hg
    | some s =>
      obtain ⟨fk, ms, nd, st⟩ := s
      rw [hs] at hg
      cases fk <;> first | exact nope hg | skip
      simp only [Bool.and_eq_true, decide_eq_true_eq] at hg
      obtain ⟨⟨⟨k0, k1⟩, k2⟩, k3⟩ := hg
      have k0 := k0.symm
      have k1 := k1.symm
      subst k0 k1
      obtain ⟨F, f, e1, e2, e3, e4, ⟨kk, g1, g2, g3⟩, g4, g5⟩ := eo.sg n _ _ _ _ hs
      subst e2 e3 e4
      obtain ⟨tp, pp, qp⟩ := soundP y (W := W) hy
      obtain ⟨ta, pa, qa⟩ := soundAs as (W := W) hx hk
      have ns := notStar_As hx
      have eW : ∀ k env X Q, wpE Tb k (.mth n c m (.cons (.m (.slf y c m)) as)) env X Q = wpAs Tb (.cons (.m (.slf y c m)) as) env X (fun ts o e1 => F.Ψ (F.arg ts) fun r => (match r with
              | .ok t outs => (hasW (.cons (.m (.slf y c m)) as) = true → nvw t = true ∧ nvws outs = true) ∧ Q t (putO e1 o outs)
              | .ex d fs outs => (hasW (.cons (.m (.slf y c m)) as) = true → nvws outs = true) ∧ X d fs (putO e1 o outs))) := fun k env X Q => by
        show wpAs Tb (.cons (.m (.slf y c m)) as) env X (fun ts o e1 => (match Tb.tb[n]? with
            | some F => F.Ψ (F.arg ts) fun r => (match r with
              | .ok t outs => (hasW (.cons (.m (.slf y c m)) as) = true → nvw t = true ∧ nvws outs = true) ∧ Q t (putO e1 o outs)
              | .ex d fs outs => (hasW (.cons (.m (.slf y c m)) as) = true → nvws outs = true) ∧ X d fs (putO e1 o outs))
            | none => False)) = _
        rw [e1]
      cases xs with
      | nil =>
        rcases as with _ | ⟨a2, as⟩
        rotate_left
        · cases a2 <;> exact nope hx
        refine ⟨tCallS (spA R.K R.ca.f F) (WE W) (tCons (tSelf (R.ca.f c) m tp) tNil), fun X ok => ?_, fun k => ?_⟩
        · exact pe_mthS0 (f := f) (k := kk) (CX := L2.CX R.P R.w) (pp X ok) (by rw [ok.K]; exact g4) (by rw [ok.K]; exact g5) (by rw [ok.P, ok.w, ok.K, ok.mg, ok.base]; exact g3) ((ok.room h0).mono (by omega)) (fun σ => by rw [← ok.P, ← ok.w]; exact passAt ok.tk σ) h5 h4
        · refine SimE.congr (eW k) (Sim.call (k := k) (F := F) (as := .cons (.m (.slf y c m)) .nil) (SimAs.m (SimP.slf qp) SimAs.nil rfl) k2 k3 qtA_noM)
      | cons e xs =>
        refine ⟨tCallS (spA R.K R.ca.f F) (WE W) (tCons (tSelf (R.ca.f c) m tp) ta), fun X ok => ?_, fun k => ?_⟩
        · exact pe_mthS (f := f) (k := kk) (CX := L2.CX R.P R.w) (pp X ok) (by rw [ok.K]; exact g4) (by rw [ok.K]; exact g5) (by rw [ok.P, ok.w, ok.K, ok.mg, ok.base]; exact g3) ((ok.room h0).mono (by omega)) (fun σ => by rw [← ok.P, ← ok.w]; exact passAt ok.tk σ) (pa X ok) h5 ns h4 h6
        · refine SimE.congr (eW k) (Sim.call (k := k) (F := F) (as := .cons (.m (.slf y c m)) as) (SimAs.m (SimP.slf qp) qa h8) k2 k3 qtA_noM)
  | .mth n c m (.cons (.w (.slf y c' m')) as), sc, W, x, h => by
    obtain ⟨o, mm, ap, xs, cp, ex⟩ := mth_inv h
    subst ex
    have h : (S.cal && decide (c = c') && decide (m = m') && decide (m = mm) && (ap.endLine == cp.line) && noSup o && decide (xs.length < 29) && qtP y && as.noM && as.okm && qtA as && (match S.sg[n]? with
      | some (.mt d k, ms, nd, st) => decide (d = c) && decide (k = m) && okMs ms (.v :: as.ms) && okAr ms.length nd st (as.len + 1)
      | _ => false) && chkP S N sc y o && chkAs S N sc as xs) = true := h
    simp only [Bool.and_eq_true, decide_eq_true_eq] at h
    obtain  ⟨⟨⟨⟨⟨⟨⟨⟨⟨⟨⟨⟨⟨h0, h1⟩, h2⟩, h3⟩, h4⟩, h5⟩, h6⟩, h7⟩, h8⟩, hk⟩, h9⟩, hg⟩, hy⟩, hx⟩ := h
    subst h1 h2 h3
    cases hs : S.sg[n]? with
    | none => rw [hs] at hg; cases hg
    | some s =>
      obtain ⟨fk, ms, nd, st⟩ := s
      rw [hs] at hg
      cases fk <;> first | exact nope hg | skip
      simp only [Bool.and_eq_true, decide_eq_true_eq] at hg
      obtain ⟨⟨⟨k0, k1⟩, k2⟩, k3⟩ := hg
      have k0 := k0.symm
      have k1 := k1.symm
      subst k0 k1
      obtain ⟨F, f, e1, e2, e3, e4, ⟨kk, g1, g2, g3⟩, g4, g5⟩ := eo.sg n _ _ _ _ hs
      subst e2 e3 e4
      obtain ⟨tp, pp, qp⟩ := soundP y (W := W) hy
      obtain ⟨ta, pa, qa⟩ := soundAs as (W := W) hx hk
      have ns := notStar_As hx
      have eW : ∀ k env X Q, wpE Tb k (.mth n c m (.cons (.w (.slf y c m)) as)) env X Q = wpAs Tb (.cons (.w (.slf y c m)) as) env X (fun ts o e1 => F.Ψ (F.arg ts) fun r => (match r with
              | .ok t outs => (hasW (.cons (.w (.slf y c m)) as) = true → nvw t = true ∧ nvws outs = true) ∧ Q t (putO e1 o outs)
              | .ex d fs outs => (hasW (.cons (.w (.slf y c m)) as) = true → nvws outs = true) ∧ X d fs (putO e1 o outs))) := fun k env X Q => by
        show wpAs Tb (.cons (.w (.slf y c m)) as) env X (fun ts o e1 => (match Tb.tb[n]? with
            | some F => F.Ψ (F.arg ts) fun r => (match r with
              | .ok t outs => (hasW (.cons (.w (.slf y c m)) as) = true → nvw t = true ∧ nvws outs = true) ∧ Q t (putO e1 o outs)
              | .ex d fs outs => (hasW (.cons (.w (.slf y c m)) as) = true → nvws outs = true) ∧ X d fs (putO e1 o outs))
            | none => False)) = _
        rw [e1]
      cases xs with
      | nil =>
        rcases as with _ | ⟨a2, as⟩
        rotate_left
        · cases a2 <;> exact nope hx
        refine ⟨tCallS (spA R.K R.ca.f F) (WE W) (tCons (tSelf (R.ca.f c) m tp) tNil), fun X ok => ?_, fun k => ?_⟩
        · exact pe_mthS0 (f := f) (k := kk) (CX := L2.CX R.P R.w) (pp X ok) (by rw [ok.K]; exact g4) (by rw [ok.K]; exact g5) (by rw [ok.P, ok.w, ok.K, ok.mg, ok.base]; exact g3) ((ok.room h0).mono (by omega)) (fun σ => by rw [← ok.P, ← ok.w]; exact passAt ok.tk σ) h5 h4
        · rw [show qt (.mth n c m (.cons (.w (.slf y c m)) .nil)) = true from by show (qtP y && qtA .nil) = true; rw [h7]; rfl]
          refine SimE.congr (eW k) (Sim.call (k := k) (F := F) (as := .cons (.w (.slf y c m)) .nil) (SimAs.w (pl := .slf y c m) (SimP.slf qp) SimAs.nil rfl) k2 k3 (fun _ => rfl))
      | cons e xs =>
        refine ⟨tCallS (spA R.K R.ca.f F) (WE W) (tCons (tSelf (R.ca.f c) m tp) ta), fun X ok => ?_, fun k => ?_⟩
        · exact pe_mthS (f := f) (k := kk) (CX := L2.CX R.P R.w) (pp X ok) (by rw [ok.K]; exact g4) (by rw [ok.K]; exact g5) (by rw [ok.P, ok.w, ok.K, ok.mg, ok.base]; exact g3) ((ok.room h0).mono (by omega)) (fun σ => by rw [← ok.P, ← ok.w]; exact passAt ok.tk σ) (pa X ok) h5 ns h4 h6
        · rw [show qt (.mth n c m (.cons (.w (.slf y c m)) as)) = true from by show (qtP y && qtA as) = true; rw [h7, h9]; rfl]
          rw [h9] at qa
          refine SimE.congr (eW k) (Sim.call (k := k) (F := F) (as := .cons (.w (.slf y c m)) as) (SimAs.w (pl := .slf y c m) (SimP.slf qp) qa h8) k2 k3 (fun _ => h8))
  | .mth n c m (.cons (.v (.slf y c' m')) as), sc, W, x, h => by
    obtain ⟨o, mm, ap, xs, cp, ex⟩ := mth_inv h
    subst ex
    have h : (S.cal && decide (c = c') && decide (m = m') && decide (m = mm) && (ap.endLine == cp.line) && noSup o && decide (xs.length < 29) && as.okm && (match S.sg[n]? with
      | some (.mt d k, ms, nd, st) => decide (d = c) && decide (k = m) && okMs ms (.v :: as.ms) && okAr ms.length nd st (as.len + 1)
      | _ => false) && chkE S N sc y o && chkAs S N sc as xs) = true := h
    simp only [Bool.and_eq_true, decide_eq_true_eq] at h
    obtain  ⟨⟨⟨⟨⟨⟨⟨⟨⟨⟨h0, h1⟩, h2⟩, h3⟩, h4⟩, h5⟩, h6⟩, hk⟩, hg⟩, hy⟩, hx⟩ := h
    subst h1 h2 h3
    cases hs : S.sg[n]? with
    | none => rw [hs] at hg; cases hg
    | some s =>
      obtain ⟨fk, ms, nd, st⟩ := s
      rw [hs] at hg
      cases fk <;> first | exact nope hg | skip
      simp only [Bool.and_eq_true, decide_eq_true_eq] at hg
      obtain ⟨⟨⟨k0, k1⟩, k2⟩, k3⟩ := hg
      have k0 := k0.symm
      have k1 := k1.symm
      subst k0 k1
      obtain ⟨F, f, e1, e2, e3, e4, ⟨kk, g1, g2, g3⟩, g4, g5⟩ := eo.sg n _ _ _ _ hs
      subst e2 e3 e4
      obtain ⟨tp, pp, qp⟩ := soundE y (W := W) hy
      obtain ⟨ta, pa, qa⟩ := soundAs as (W := W) hx hk
      have ns := notStar_As hx
      have eW : ∀ k env X Q, wpE Tb k (.mth n c m (.cons (.v (.slf y c m)) as)) env X Q = wpAs Tb (.cons (.v (.slf y c m)) as) env X (fun ts o e1 => F.Ψ (F.arg ts) fun r => (match r with
              | .ok t outs => (hasW (.cons (.v (.slf y c m)) as) = true → nvw t = true ∧ nvws outs = true) ∧ Q t (putO e1 o outs)
              | .ex d fs outs => (hasW (.cons (.v (.slf y c m)) as) = true → nvws outs = true) ∧ X d fs (putO e1 o outs))) := fun k env X Q => by
        show wpAs Tb (.cons (.v (.slf y c m)) as) env X (fun ts o e1 => (match Tb.tb[n]? with
            | some F => F.Ψ (F.arg ts) fun r => (match r with
              | .ok t outs => (hasW (.cons (.v (.slf y c m)) as) = true → nvw t = true ∧ nvws outs = true) ∧ Q t (putO e1 o outs)
              | .ex d fs outs => (hasW (.cons (.v (.slf y c m)) as) = true → nvws outs = true) ∧ X d fs (putO e1 o outs))
            | none => False)) = _
        rw [e1]
      cases xs with
      | nil =>
        rcases as with _ | ⟨a2, as⟩
        rotate_left
        · cases a2 <;> exact nope hx
        refine ⟨tCallS (spA R.K R.ca.f F) (WE W) (tCons (tSelf (R.ca.f c) m tp) tNil), fun X ok => ?_, fun k => ?_⟩
        · exact pe_mthS0 (f := f) (k := kk) (CX := L2.CX R.P R.w) (pp X ok) (by rw [ok.K]; exact g4) (by rw [ok.K]; exact g5) (by rw [ok.P, ok.w, ok.K, ok.mg, ok.base]; exact g3) ((ok.room h0).mono (by omega)) (fun σ => by rw [← ok.P, ← ok.w]; exact passAt ok.tk σ) h5 h4
        · refine SimE.congr (eW k) (Sim.call (k := k) (F := F) (as := .cons (.v (.slf y c m)) .nil) (SimAs.v (Sim.slf (qp false)) SimAs.nil) k2 k3 qtA_noM)
      | cons e xs =>
        refine ⟨tCallS (spA R.K R.ca.f F) (WE W) (tCons (tSelf (R.ca.f c) m tp) ta), fun X ok => ?_, fun k => ?_⟩
        · exact pe_mthS (f := f) (k := kk) (CX := L2.CX R.P R.w) (pp X ok) (by rw [ok.K]; exact g4) (by rw [ok.K]; exact g5) (by rw [ok.P, ok.w, ok.K, ok.mg, ok.base]; exact g3) ((ok.room h0).mono (by omega)) (fun σ => by rw [← ok.P, ← ok.w]; exact passAt ok.tk σ) (pa X ok) h5 ns h4 h6
        · refine SimE.congr (eW k) (Sim.call (k := k) (F := F) (as := .cons (.v (.slf y c m)) as) (SimAs.v (Sim.slf (qp false)) qa) k2 k3 qtA_noM)
  | .mth n c m .nil, sc, W, x, h => by
    cases x <;> exact nope h
  | .mth n c m (.cons (.v (.cn _)) as), sc, W, x, h => by
    cases x <;> exact nope h
  | .mth n c m (.cons (.v (.gl _ _)) as), sc, W, x, h => by
    cases x <;> exact nope h
  | .mth n c m (.cons (.v (.nm _)) as), sc, W, x, h => by
    cases x <;> exact nope h
  | .mth n c m (.cons (.v (.att _ _)) as), sc, W, x, h => by
    cases x <;> exact nope h
  | .mth n c m (.cons (.v (.mv _)) as), sc, W, x, h => by
    cases x <;> exact nope h
  | .mth n c m (.cons (.v (.fz _)) as), sc, W, x, h => by
    cases x <;> exact nope h
  | .mth n c m (.cons (.v (.fre _)) as), sc, W, x, h => by
    cases x <;> exact nope h
  | .mth n c m (.cons (.v (.frx _)) as), sc, W, x, h => by
    cases x <;> exact nope h
  | .mth n c m (.cons (.v (.neg _)) as), sc, W, x, h => by
    cases x <;> exact nope h
  | .mth n c m (.cons (.v (.bin _ _ _)) as), sc, W, x, h => by
    cases x <;> exact nope h
  | .mth n c m (.cons (.v (.cmp _ _ _)) as), sc, W, x, h => by
    cases x <;> exact nope h
  | .mth n c m (.cons (.v (.chn _ _ _ _ _)) as), sc, W, x, h => by
    cases x <;> exact nope h
  | .mth n c m (.cons (.v (.ifx _ _ _)) as), sc, W, x, h => by
    cases x <;> exact nope h
  | .mth n c m (.cons (.v (.tup _)) as), sc, W, x, h => by
    cases x <;> exact nope h
  | .mth n c m (.cons (.v (.lst _)) as), sc, W, x, h => by
    cases x <;> exact nope h
  | .mth n c m (.cons (.v (.idx _ _)) as), sc, W, x, h => by
    cases x <;> exact nope h
  | .mth n c m (.cons (.v (.slc _ _ _)) as), sc, W, x, h => by
    cases x <;> exact nope h
  | .mth n c m (.cons (.v (.bi _ _)) as), sc, W, x, h => by
    cases x <;> exact nope h
  | .mth n c m (.cons (.v (.bm _ _ _)) as), sc, W, x, h => by
    cases x <;> exact nope h
  | .mth n c m (.cons (.v (.mm _ _ _)) as), sc, W, x, h => by
    cases x <;> exact nope h
  | .mth n c m (.cons (.v (.call _ _ _)) as), sc, W, x, h => by
    cases x <;> exact nope h
  | .mth n c m (.cons (.v (.comp _ _ _ _ _)) as), sc, W, x, h => by
    cases x <;> exact nope h
  | .mth n c m (.cons (.v (.fst _)) as), sc, W, x, h => by
    cases x <;> exact nope h
  | .mth n c m (.cons (.v (.isi _ _)) as), sc, W, x, h => by
    cases x <;> exact nope h
  | .mth n c m (.cons (.v (.xat _ _)) as), sc, W, x, h => by
    cases x <;> exact nope h
  | .mth n c m (.cons (.v (.xis _ _)) as), sc, W, x, h => by
    cases x <;> exact nope h
  | .mth n c m (.cons (.v (.mth _ _ _ _)) as), sc, W, x, h => by
    cases x <;> exact nope h
  | .mth n c m (.cons (.v (.mk _ _ _)) as), sc, W, x, h => by
    cases x <;> exact nope h
  | .mth n c m (.cons (.v (.not _)) as), sc, W, x, h => by
    cases x <;> exact nope h
  | .mth n c m (.cons (.v (.and _ _)) as), sc, W, x, h => by
    cases x <;> exact nope h
  | .mth n c m (.cons (.v (.or _ _)) as), sc, W, x, h => by
    cases x <;> exact nope h
  | .mth n c m (.cons (.m (.sl _)) as), sc, W, x, h => by
    cases x <;> exact nope h
  | .mth n c m (.cons (.m (.fld _ _)) as), sc, W, x, h => by
    cases x <;> exact nope h
  | .mth n c m (.cons (.m (.ix _ _)) as), sc, W, x, h => by
    cases x <;> exact nope h
  | .mth n c m (.cons (.w (.sl _)) as), sc, W, x, h => by
    cases x <;> exact nope h
  | .mth n c m (.cons (.w (.fld _ _)) as), sc, W, x, h => by
    cases x <;> exact nope h
  | .mth n c m (.cons (.w (.ix _ _)) as), sc, W, x, h => by
    cases x <;> exact nope h
  | .comp g it c e own, sc, W, x, h => by
    cases x <;> first | exact nope h | skip
    rename_i elt gens scope pos
    rcases gens with _ | ⟨⟨tg, iter, ifs, as⟩, _ | ⟨g2, gens⟩⟩ <;> first | exact nope h | skip
    all_goals (rcases as with (_ | an) | an <;> first | exact nope h | skip)
    have h : (S.cal && !S.sx && notSet iter && blkC N sc scope own && chkI S N sc it iter tg && chkG N (relS scope sc) false g tg && chkCo S N (relS scope sc) c ifs && chkE S N (relS scope sc) e elt &&
      (match (generalizing := false) g with | .nm i => own.any fun q => q.2 == i | .tp is => is.all fun i => own.any fun q => q.2 == i) && qtI it && qtCo c && qt e) = true := h
    simp only [Bool.and_eq_true, Bool.not_eq_true'] at h
    obtain ⟨⟨⟨⟨⟨⟨⟨⟨⟨⟨⟨h0, h1⟩, h2⟩, h3⟩, h4⟩, h5⟩, h6⟩, h7⟩, h8⟩, h9⟩, h10⟩, h11⟩ := h
    obtain ⟨wi, pi, qi⟩ := soundI it (W := W) h4
    obtain ⟨tt, pt, qt'⟩ := soundCo c h6 h10
    obtain ⟨te, pe, qe⟩ := soundE e (W := W0) h7
    have qe' := qe false
    rw [h11] at qe'
    refine ⟨tLc wi (gT R.K g) tt te (own.map (·.2)), fun X ok => ?_, fun k => ?_⟩
    · rw [← ok.K]
      refine pe_lc (ok.calm h0) (by rw [ok.N]; exact eo.nd) (pi X ok) (by rw [ok.N, ok.sc]; exact blkOk_by h3) (fun s H C cl fp => ?_) (fun s H C cl fp => pt _ (ok.blk h0 h1 s H scope C cl fp)) (fun s H C cl fp => pe _ (ok.blk h0 h1 s H scope C cl fp)) (fun x => ?_)
      · have okb := ok.blk h0 h1 s H scope C cl fp
        exact sound_G (dl := false) (X := L2.Cx.blk X s H scope (compEnvC scope cl C X.env) fp) okb.N eo.nd okb.sc (ok.calm h0) (fun z => nomatch z) h5
      · cases iter <;> first | rfl | exact nope h2
    · have hz : qt (.comp g it c e own) = qtI it := by
        show (qtI it && qtCo c && qt e) = qtI it
        rw [h10, h11]
        simp
      rw [hz]
      refine Sim.comp qi qt' qe' fun i hi => ?_
      cases g with
      | nm j =>
        have e : i = j := by simpa [Tg.ixs] using hi
        subst e
        obtain ⟨q, hq, e⟩ := List.any_eq_true.mp h8
        exact List.mem_map.mpr ⟨q, hq, eq_of_beq e⟩
      | tp is =>
        have z := List.all_eq_true.mp h8 i hi
        obtain ⟨q, hq, e⟩ := List.any_eq_true.mp z
        exact List.mem_map.mpr ⟨q, hq, eq_of_beq e⟩
  | .fst es, sc, W, x, h => by
    cases x <;> first | exact nope h | skip
    rename_i xs pos
    rcases xs with _ | ⟨x, _ | ⟨y, r⟩⟩ <;> first | exact nope h | skip
    simp only [chkE, Bool.and_eq_true] at h
    obtain ⟨h1, h2⟩ := h
    obtain ⟨ts, p, q⟩ := soundF es (W := W) h1 h2
    have e : qt (.fst es) = true := h2
    rw [e]
    exact ⟨_, fun X ok => pe_joined (p X ok), fun k => Sim.fst q⟩
  | .isi a c, sc, W, x, h => by
    cases x <;> first | exact nope h | skip
    rename_i g xs ks pos
    cases g <;> rcases xs with _ | ⟨y, _ | ⟨z, _ | ⟨z2, r⟩⟩⟩ <;> rcases ks with _ | ⟨kw, ks⟩ <;> first | exact nope h | skip
    all_goals (cases z <;> first | exact nope h | skip)
    simp only [chkE, Bool.and_eq_true, decide_eq_true_eq] at h
    obtain ⟨⟨⟨⟨⟨⟨⟨h1, h2⟩, h3⟩, h4⟩, h5⟩, h6⟩, h7⟩, h8⟩ := h
    subst h1
    obtain ⟨p1, p2, p3⟩ := plain_of h5
    obtain ⟨ta, pa, qa⟩ := soundE a (W := W) h8
    refine ⟨_, fun X ok => ?_, fun k => Sim.isi (c := c) (qa true)⟩
    rw [← ok.K]
    have hb := boot_ck c
    rw [← h2] at hb
    exact pe_callB call_isi (glo_of ok.sc h3) (by rw [ok.mg]; exact eo.fr _ h6) boot_isinstance (pa_cons (pa X ok) (pa1 (pe_bltn (v := .ty (ckS c)) (glo_of ok.sc h4) (by rw [ok.mg]; exact eo.fr _ h7) hb rfl p3 p1) rfl) (st_of (notStar_E h8))) (by decide) (by decide) (st_of (notStar_E h8)) rfl
  | .mkx c es, sc, W, x, h => by
    cases x <;> first | exact nope h | skip
    rename_i g xs ks pos
    cases g <;> rcases xs with _ | ⟨e, r⟩ <;> rcases ks with _ | ⟨kw, ks⟩ <;> first | exact nope h | skip
    rename_i y p
    simp only [chkE, Bool.and_eq_true, decide_eq_true_eq, Bool.not_eq_true'] at h
    obtain ⟨⟨⟨⟨⟨⟨⟨h0, hs⟩, h1⟩, h2⟩, h3⟩, h4⟩, h6⟩, h5⟩ := h
    subst h1
    obtain ⟨p1, p2, p3⟩ := plain_of h3
    obtain ⟨ta, pa, qa⟩ := soundEs es (W := W) h5
    have ns := notStar_Es h5
    obtain ⟨n1, n2⟩ := Bool.and_eq_true_iff.mp (show (notStar e && r.all notStar) = true from ns)
    have qa' := qa true fun _ => h4
    obtain ⟨ns, hr, fI, k, fd, ps, sp, m1, m2, m3, m4, m5, m6, m7, m8, m9, m10⟩ := eo.rz c h6
    refine ⟨tMkx (R.ca.f c) sp ta, fun X ok => ?_, fun k => ?_⟩
    · exact pe_mkx (fI := fI) (fd := fd) (ps := ps) (sp := sp) (CX := L2.CX X.prog X.w) (by rw [ok.K]; exact m2) (by rw [ok.K]; exact m3) (by rw [ok.K]; exact m4) (by rw [ok.P, ok.w, ok.K, ok.mg, ok.base]; exact m5) ((ok.room h0).mono m6) (by rw [ok.K]; exact m7) passL (glo_of ok.sc h2) (by rw [ok.mg]; exact m1) (pa X ok) p1 (st_of n1) (back_plain n2)
    · refine SimE.congr (fun env X Q => ?_) (Sim.mkx (k := k) (c := c) qa' m8 m9 m10)
      have e : (fun (ts : List T) (e1 : En) => ∃ ns, Tb.rz.lookup c = some ns ∧ ns.length = ts.length ∧ ts.all flatT = true ∧ Q (.xo c ns ts) e1) = fun ts e1 => ns.length = ts.length ∧ ts.all flatT = true ∧ Q (.xo c ns ts) e1 := by
        funext ts e1
        apply propext
        rw [hr]
        exact ⟨fun ⟨ns', h, q⟩ => by cases h; exact q, fun q => ⟨ns, rfl, q⟩⟩
      show wpEs Tb true es env X (fun (ts : List T) (e1 : En) => ∃ ns, Tb.rz.lookup c = some ns ∧ ns.length = ts.length ∧ ts.all flatT = true ∧ Q (.xo c ns ts) e1) = _
      rw [e]
  | .mk0 c, sc, W, x, h => by
    cases x <;> first | exact nope h | skip
    rename_i g xs ks pos
    cases g <;> rcases xs with _ | ⟨e, r⟩ <;> rcases ks with _ | ⟨kw, ks⟩ <;> first | exact nope h | skip
    rename_i y p
    simp only [chkE, Bool.and_eq_true, decide_eq_true_eq, Bool.not_eq_true'] at h
    obtain ⟨⟨⟨⟨⟨h0, hs⟩, h1⟩, h2⟩, h3⟩, h6⟩ := h
    subst h1
    obtain ⟨p1, p2, p3⟩ := plain_of h3
    obtain ⟨m1, m2, m3⟩ := eo.r0 c h6
    exact ⟨tMk0 (R.ca.f c), fun X ok => pe_mk0 (by rw [ok.K]; exact m2) (by rw [ok.mg]; exact m1) (by rw [ok.K]; exact m3) (glo_of ok.sc h2) p1, fun k => Sim.mk0⟩
  | .xatt a f, sc, W, x, h => by
    cases x <;> first | exact nope h | skip
    rename_i o g pos
    simp only [chkE, Bool.and_eq_true, decide_eq_true_eq] at h
    obtain ⟨⟨h1, h2⟩, h3⟩ := h
    subst h1
    obtain ⟨ta, pa, qa⟩ := soundE a (W := W) h3
    refine ⟨tXa R.K f ta, fun X ok => ?_, fun k => Sim.xatt (fun c hc => eo.xf c f hc) (qa true)⟩
    rw [← ok.K]
    exact pe_xatt (pa X ok) (base_of h2)
  | .isx a c, sc, W, x, h => by
    cases x <;> first | exact nope h | skip
    rename_i g xs ks pos
    cases g <;> rcases xs with _ | ⟨y, _ | ⟨z, _ | ⟨z2, r⟩⟩⟩ <;> rcases ks with _ | ⟨kw, ks⟩ <;> first | exact nope h | skip
    all_goals (cases z <;> first | exact nope h | skip)
    rename_i y' p' z pz
    simp only [chkE, Bool.and_eq_true, decide_eq_true_eq] at h
    obtain ⟨⟨⟨⟨⟨⟨⟨h1, h2⟩, h3⟩, h4⟩, h5⟩, h6⟩, h7⟩, h8⟩ := h
    subst h1 h2
    obtain ⟨p1, p2, p3⟩ := plain_of h5
    obtain ⟨cw, cv, r1, r2, r3, r4⟩ := eo.xc z h7
    obtain ⟨ta, pa, qa⟩ := soundE a (W := W) h8
    refine ⟨_, fun X ok => ?_, fun k => Sim.isx (c := z) r4 r2 (qa true)⟩
    have pz : PE X (.Name z pz) (tC cw) := by
      rcases r3 with r3 | ⟨r3, r5⟩
      · exact pe_glob (glo_of ok.sc h4) (by rw [ok.mg]; exact r3) r1 p1
      · exact pe_bltn (glo_of ok.sc h4) (by rw [ok.mg]; exact r3) r5 r1 p3 p1
    rw [← ok.K]
    exact pe_callB call_isO (glo_of ok.sc h3) (by rw [ok.mg]; exact eo.fr _ h6) boot_isinstance (pa_cons (pa X ok) (pa1 pz rfl) (st_of (notStar_E h8))) (by decide) (by decide) (st_of (notStar_E h8)) rfl
  | .xat i f, sc, W, x, h => by
    cases x <;> first | exact nope h | skip
    rename_i o g pos
    simp only [chkE, Bool.and_eq_true, decide_eq_true_eq] at h
    obtain ⟨⟨⟨h0, h1⟩, h2⟩, h3⟩ := h
    subst h1
    by_cases hx : ∃ (a D : Addr) (d : Option Addr), R.ca.x = some (a, .ref D, d)
    · obtain ⟨a, D, d, hx⟩ := hx
      by_cases hD : XfC R.K D ∧ PySem.W.findIn R.K (.ref D) f = some none
      · refine ⟨tXf a (.ref D) d D f (tVar i), fun X ok => ?_, fun k => Sim.xat hx⟩
        obtain ⟨a', D', d', X0, oe, pn, e1, e2, e3, e4⟩ := ok.ex h0
        rw [hx] at e1
        cases e1
        have hv := ok.var h3
        have hK := ok.K
        subst e2
        exact pe_xf (X := X0) (by rw [show X0.K = R.K from hK]; exact hD.1) (by rw [show X0.K = R.K from hK]; exact hD.2) e3 e4 hv (base_of h2)
      · refine ⟨fun _ _ _ => False, fun X ok => ⟨fun _ _ _ _ _ _ z => z.elim⟩, fun k => Sim.xat0 hx fun c hc e => ?_⟩
        exact hD (e ▸ eo.xf c f hc)
    · refine ⟨fun _ _ _ => False, fun X ok => ⟨fun _ _ _ _ _ _ z => z.elim⟩, fun k => ?_⟩
      intro E H env σ p Xc Qw Q eK ec rs gd w q _
      have w : (match env[i]? with
        | some (.exn c fs) => Tb.xf.contains (c, f) = true ∧ ∃ t, fs.lookup f = some t ∧ Qw t env
        | _ => False) := w
      split at w
      · rename_i c fs e
        obtain ⟨a, cls, d, _, e2, e3⟩ := rs.exg e
        exact hx ⟨a, _, d, by rw [← ec, e2, e3.1]⟩
      · exact w
  | .xis i c, sc, W, x, h => by
    cases x <;> first | exact nope h | skip
    rename_i g xs ks pos
    cases g <;> rcases xs with _ | ⟨y, _ | ⟨z, _ | ⟨z2, r⟩⟩⟩ <;> rcases ks with _ | ⟨kw, ks⟩ <;> first | exact nope h | skip
    all_goals (cases z <;> first | exact nope h | skip)
    rename_i y' p' z pz
    simp only [chkE, Bool.and_eq_true, decide_eq_true_eq] at h
    obtain ⟨⟨⟨⟨⟨⟨⟨⟨h0, h1⟩, h2⟩, h3⟩, h4⟩, h5⟩, h6⟩, h7⟩, h8⟩ := h
    subst h1 h2
    obtain ⟨p1, p2, p3⟩ := plain_of h5
    obtain ⟨cw, cv, r1, r2, r3, r4⟩ := eo.xc z h7
    by_cases hx : ∃ (a D : Addr) (d : Option Addr), R.ca.x = some (a, .ref D, d)
    · obtain ⟨a, D, d, hx⟩ := hx
      refine ⟨_, fun X ok => ?_, fun k => Sim.xis (c := z) (i := i) r4 hx r2⟩
      obtain ⟨a', D', d', X0, oe, pn, e1, e2, e3, e4⟩ := ok.ex h0
      rw [hx] at e1
      cases e1
      have hv := ok.var h8
      have pz : PE X (.Name z pz) (tC cw) := by
        rcases r3 with r3 | ⟨r3, r5⟩
        · exact pe_glob (glo_of ok.sc h4) (by rw [ok.mg]; exact r3) r1 p1
        · exact pe_bltn (glo_of ok.sc h4) (by rw [ok.mg]; exact r3) r5 r1 p3 p1
      rw [← ok.K]
      have g3 := glo_of ok.sc h3
      have m3 : X.mg "isinstance" = none := by rw [ok.mg]; exact eo.fr _ h6
      subst e2
      exact pe_callB (call_isX (X := X0) e3 e4) g3 m3 boot_isinstance (pa_cons hv (pa1 pz rfl) (st_of (notStar_N h8))) (by decide) (by decide) (st_of (notStar_N h8)) rfl
    · refine ⟨fun _ _ _ => False, fun X ok => ?_, fun k => ?_⟩
      · obtain ⟨a', D', d', X0, oe, pn, e1, _⟩ := ok.ex h0
        exact absurd ⟨a', D', d', e1⟩ hx
      intro E H env σ p Xc Qw Q eK ec rs gd w q _
      have w : (match env[i]? with
        | some (.exn x _) => ∃ b, Tb.xs.lookup (x, z) = some b ∧ Qw (.bl b) env
        | _ => False) := w
      split at w
      · rename_i c fs e
        obtain ⟨a, cls, d, _, e2, e3⟩ := rs.exg e
        exact hx ⟨a, _, d, by rw [← ec, e2, e3.1]⟩
      · exact w
theorem soundT : ∀ (e : Cd) {sc : Scope} {W : WX} {x : Expr}, chkT S N sc e x = true → ∃ tt, (∀ X, XOk R S N sc W X → PT X x tt ∧ ((∃ o xs pos, x = .BoolOp o xs pos) → PW X x tt)) ∧ SimT R W tt (wpT Tb e) (qtC e)
  | .val e, sc, W, x, h => by
    obtain ⟨h1, h2⟩ := Bool.and_eq_true_iff.mp (show ((match (generalizing := false) x with
    | .Name .. => true
    | .Call .. => true
    | .Constant .. => true
    | .Attribute .. => true
    | .Subscript .. => true
    | _ => false) && chkE S N sc e x) = true by cases x <;> exact h)
    obtain ⟨ta, pa, qa⟩ := soundE e (W := W) h2
    refine ⟨tB ta, fun X ok => ⟨pt_val (pa X ok) ?_, fun ⟨o, xs, pos, z⟩ => by subst z; cases h1⟩, Sim.valT (qa true)⟩
    cases x <;> first | exact nope h1 | (intro _; rfl)
  | .cmp o a b, sc, W, x, h => by
    cases x <;> first | exact nope h | skip
    rename_i y us zs pos
    rcases us with _ | ⟨u, _ | ⟨u2, us⟩⟩ <;> rcases zs with _ | ⟨z, _ | ⟨z2, zs⟩⟩ <;> first | exact nope h | skip
    simp only [chkT, Bool.and_eq_true, decide_eq_true_eq, Bool.not_eq_true'] at h
    obtain ⟨⟨⟨h1, h2⟩, h3⟩, h4⟩ := h
    subst h1
    obtain ⟨ta, pa, qa⟩ := soundE a (W := W) h3
    obtain ⟨tb, pb, qb⟩ := soundE b (W := W) h4
    exact ⟨tTest (tOp (cmpR R.K o) ta tb), fun X ok => ⟨by rw [← ok.K]; exact pt_cmpR (cmp_all ok.un o) (pa X ok) (pb X ok) h2, fun ⟨_, _, _, z⟩ => nomatch z⟩, Sim.cmpT (qa _) (qb true) (fun z => z) (sim_cmp o)⟩
  | .chn o u a b c, sc, W, x, h => by
    cases x <;> first | exact nope h | skip
    rename_i y us zs pos
    rcases us with _ | ⟨u1, _ | ⟨u2, _ | ⟨u3, us⟩⟩⟩ <;> rcases zs with _ | ⟨z1, _ | ⟨z2, _ | ⟨z3, zs⟩⟩⟩ <;> first | exact nope h | skip
    simp only [chkT, Bool.and_eq_true, decide_eq_true_eq, Bool.not_eq_true'] at h
    obtain ⟨⟨⟨⟨⟨h1, h2⟩, h3⟩, h4⟩, h5⟩, h6⟩ := h
    subst h1 h2
    obtain ⟨ta, pa, qa⟩ := soundE a (W := W) h4
    obtain ⟨tb, pb, qb⟩ := soundE b (W := W) h5
    obtain ⟨tc, pc, qc⟩ := soundE c (W := W) h6
    exact ⟨tTest (tChain (cmpR R.K o) (cmpR R.K u) ta tb tc), fun X ok => ⟨by rw [← ok.K]; exact pt_chain (cmp_all ok.un o) (cmp_all ok.un u) (pa X ok) (pb X ok) (pc X ok) h3, fun ⟨_, _, _, z⟩ => nomatch z⟩,
      Sim.chnT (qa _) (qb _) (qc true) (fun z => Bool.and_eq_true_iff.mp z) (fun z => z) (sim_cmp o) (sim_cmp u)⟩
  | .not a, sc, W, x, h => by
    cases x <;> first | exact nope h | skip
    rename_i op o pos
    cases op <;> first | exact nope h | skip
    obtain ⟨tc, pc, qc⟩ := soundT a (W := W) (x := o) h
    exact ⟨tNot tc, fun X ok => ⟨pt_not (pc X ok).1, fun ⟨_, _, _, z⟩ => nomatch z⟩, Sim.notT qc⟩
  | .and a b, sc, W, x, h => by
    cases x <;> first | exact nope h | skip
    rename_i op xs pos
    cases op <;> rcases xs with _ | ⟨y, _ | ⟨z, r⟩⟩ <;> first | exact nope h | skip
    obtain ⟨h1, h2⟩ := Bool.and_eq_true_iff.mp (show (chkT S N sc a y && (match (generalizing := false) r with | [] => chkT S N sc b z | _ :: _ => chkT S N sc b (.BoolOp .And (z :: r) pos))) = true from h)
    obtain ⟨ta, pa, qa⟩ := soundT a (W := W) h1
    cases r with
    | nil =>
      obtain ⟨tb, pb, qb⟩ := soundT b (W := W) h2
      exact ⟨tAnd ta tb, fun X ok => have z := pw_and (pa X ok).1 (pw_and1 (pb X ok).1); ⟨z.pt, fun _ => z⟩, Sim.andT qa qb⟩
    | cons w r =>
      obtain ⟨tb, pb, qb⟩ := soundT b (W := W) h2
      exact ⟨tAnd ta tb, fun X ok => have z := pw_and (pa X ok).1 ((pb X ok).2 ⟨_, _, _, rfl⟩); ⟨z.pt, fun _ => z⟩, Sim.andT qa qb⟩
  | .or a b, sc, W, x, h => by
    cases x <;> first | exact nope h | skip
    rename_i op xs pos
    cases op <;> rcases xs with _ | ⟨y, _ | ⟨z, r⟩⟩ <;> first | exact nope h | skip
    obtain ⟨h1, h2⟩ := Bool.and_eq_true_iff.mp (show (chkT S N sc a y && (match (generalizing := false) r with | [] => chkT S N sc b z | _ :: _ => chkT S N sc b (.BoolOp .Or (z :: r) pos))) = true from h)
    obtain ⟨ta, pa, qa⟩ := soundT a (W := W) h1
    cases r with
    | nil =>
      obtain ⟨tb, pb, qb⟩ := soundT b (W := W) h2
      exact ⟨tOr ta tb, fun X ok => have z := pw_or (pa X ok).1 (pw_or1 (pb X ok).1); ⟨z.pt, fun _ => z⟩, Sim.orT qa qb⟩
    | cons w r =>
      obtain ⟨tb, pb, qb⟩ := soundT b (W := W) h2
      exact ⟨tOr ta tb, fun X ok => have z := pw_or (pa X ok).1 ((pb X ok).2 ⟨_, _, _, rfl⟩); ⟨z.pt, fun _ => z⟩, Sim.orT qa qb⟩
theorem soundEs : ∀ (es : Es) {sc : Scope} {W : WX} {xs : List Expr}, chkEs S N sc es xs = true → ∃ ta, (∀ X, XOk R S N sc W X → PA X xs ta) ∧ ∀ k, (k = true → qts es = true) → SimA R W ta (wpEs Tb k es) (qts es) k
  | .nil, sc, W, xs, h => by
    cases xs <;> first | exact nope h | skip
    exact ⟨tNil, fun X ok => pa_nil, fun k _ => SimA.nil⟩
  | .cons e r, sc, W, xs, h => by
    cases xs <;> first | exact nope h | skip
    rename_i x xs
    obtain ⟨h1, h2⟩ := Bool.and_eq_true_iff.mp (show (chkE S N sc e x && chkEs S N sc r xs) = true from h)
    obtain ⟨ta, pa, qa⟩ := soundE e (W := W) h1
    obtain ⟨tb, pb, qb⟩ := soundEs r (W := W) h2
    exact ⟨tCons ta tb, fun X ok => pa_cons (pa X ok) (pb X ok) (st_of (notStar_E h1)), fun k hk => SimA.cons (qa k) (qb k fun z => (Bool.and_eq_true_iff.mp (show (qt e && qts r) = true from hk z)).2) fun z => (Bool.and_eq_true_iff.mp (show (qt e && qts r) = true from hk z)).2⟩
theorem soundF : ∀ (es : Es) {sc : Scope} {W : WX} {xs : List Expr}, chkF S N sc es xs = true → qts es = true → ∃ ts, (∀ X, XOk R S N sc W X → PJ X xs ts) ∧ SimJ R W ts (wpF Tb es)
  | .nil, sc, W, xs, h, hq => by
    cases xs <;> first | exact nope h | skip
    exact ⟨[], fun X ok => .nil, SimJ.nil⟩
  | .cons e r, sc, W, xs, h, hq => by
    cases xs <;> first | exact nope h | skip
    rename_i x xs
    obtain ⟨h1, h2⟩ := Bool.and_eq_true_iff.mp (show ((match (generalizing := false) x with
      | .FormattedValue y (-1) none _ => chkE S N sc e y
      | .Constant (.str z) k pos => chkE S N sc e (.Constant (.str z) k pos)
      | _ => false) && chkF S N sc r xs) = true from h)
    obtain ⟨hq1, hq2⟩ := Bool.and_eq_true_iff.mp (show (qt e && qts r) = true from hq)
    obtain ⟨tb, pb, qb⟩ := soundF r (W := W) h2 hq2
    split at h1
    · obtain ⟨ta, pa, qa⟩ := soundE e (W := W) h1
      have qa' := qa true
      rw [hq1] at qa'
      exact ⟨tFmt ta :: tb, fun X ok => .cons (pe_fmt (pa X ok)) (pb X ok), SimJ.fmt qa' qb⟩
    · rename_i z k pos
      have ez : e = .cn (.str z) := by
        cases e <;> first | exact nope h1 | (obtain ⟨_, _, _, _, _, e⟩ := mth_inv h1; cases e; done) | skip
        · rename_i c
          cases c <;> first | exact nope h1 | skip
          rw [show _ = _ from of_decide_eq_true h1]
        · cases hq1
        · cases hq1
      subst ez
      exact ⟨tC (.str z) :: tb, fun X ok => .cons pe_str (pb X ok), SimJ.cst qb⟩
    · cases h1
theorem soundP : ∀ (p : P) {sc : Scope} {W : WX} {x : Expr}, chkP S N sc p x = true → ∃ te, (∀ X, XOk R S N sc W X → PE X x te) ∧ SimP R W te (wpP Tb p)
  | .sl i, sc, W, x, h => ⟨tVar i, fun X ok => ok.var (show chkN N sc i x = true by cases x <;> exact h), SimP.sl⟩
  | .fld p f, sc, W, x, h => by
    cases x <;> first | exact nope h | skip
    rename_i o g pos
    simp only [chkP, Bool.and_eq_true, decide_eq_true_eq] at h
    obtain ⟨⟨h1, h2⟩, h3⟩ := h
    subst h1
    obtain ⟨te, pp, q⟩ := soundP p (W := W) h3
    exact ⟨tFld R.K te f, fun X ok => by rw [← ok.K]; exact pe_fld (pp X ok) (base_of h2), SimP.fld eo.at_ q⟩
  | .ix p i, sc, W, x, h => by
    cases x <;> first | exact nope h | skip
    simp only [chkP, Bool.and_eq_true] at h
    obtain ⟨⟨⟨h1, h2⟩, h3⟩, h4⟩ := h
    obtain ⟨ta, pa, qa⟩ := soundP p (W := W) h2
    obtain ⟨tb, pb, qb⟩ := soundE i (W := W) h3
    have qb' := qb true
    rw [h4] at qb'
    exact ⟨tOp (rIx R.K) ta tb, fun X ok => by rw [← ok.K]; exact pe_ix ix_seq (pa X ok) (pb X ok) (plainIx_of h1), SimP.ix qa qb'⟩
  | .slf p c m, sc, W, x, h => by
    cases x <;> exact nope h
theorem soundO : ∀ (o : Eo) {sc : Scope} {W : WX} {x : Option Expr}, chkO S N sc o x = true → ∃ to, (∀ X, XOk R S N sc W X → PO X x to) ∧ SimO R W to (wpO Tb o) (qtO o)
  | .no, sc, W, x, h => by
    cases x <;> first | exact nope h | skip
    exact ⟨tNoPart, fun X ok => po_none, SimO.no⟩
  | .so e, sc, W, x, h => by
    cases x <;> first | exact nope h | skip
    rename_i x
    obtain ⟨te, p, q⟩ := soundE e (W := W) (x := x) h
    exact ⟨tPart te, fun X ok => po_some (p X ok), SimO.so (q true)⟩
theorem soundCo : ∀ (o : Co) {sc : Scope} {xs : List Expr}, chkCo S N sc o xs = true → qtCo o = true → ∃ tt, (∀ X, XOk R S N sc W0 X → PTs X xs tt) ∧ SimCo R tt (wpC Tb o)
  | .no, sc, xs, h, _ => by
    cases xs <;> first | exact nope h | skip
    exact ⟨tYes, fun X ok => pts_nil, SimCo.no⟩
  | .so c, sc, xs, h, hq => by
    rcases xs with _ | ⟨x, _ | ⟨y, xs⟩⟩ <;> first | exact nope h | skip
    obtain ⟨tt, p, q⟩ := soundT c (W := W0) (x := x) h
    rw [show qtC c = true from hq] at q
    exact ⟨tt, fun X ok => pts_one (p X ok).1, SimCo.so q⟩
theorem soundAs : ∀ (as : As) {sc : Scope} {W : WX} {xs : List Expr}, chkAs S N sc as xs = true → as.okm = true → ∃ ta, (∀ X, XOk R S N sc W X → PA X xs ta) ∧ SimAs R W ta as (wpAs Tb as) (qtA as)
  | .nil, sc, W, xs, h, _ => by
    cases xs <;> first | exact nope h | skip
    exact ⟨tNil, fun X ok => pa_nil, SimAs.nil⟩
  | .cons (.v e) r, sc, W, xs, h, hk => by
    cases xs <;> first | exact nope h | skip
    rename_i x xs
    obtain ⟨h1, h2⟩ := Bool.and_eq_true_iff.mp (show (chkE S N sc e x && chkAs S N sc r xs) = true from h)
    obtain ⟨k1, k2⟩ := Bool.and_eq_true_iff.mp (show ((!hasW r || qt e) && r.okm) = true from hk)
    obtain ⟨ta, pa, qa⟩ := soundE e (W := W) h1
    obtain ⟨tb, pb, qb⟩ := soundAs r (W := W) h2 k2
    exact ⟨tCons ta tb, fun X ok => pa_cons (pa X ok) (pb X ok) (st_of (notStar_E h1)), SimAs.v (qa false) qb⟩
  | .cons (.m p) r, sc, W, xs, h, hk => by
    cases xs <;> first | exact nope h | skip
    rename_i x xs
    obtain ⟨h1, h2⟩ := Bool.and_eq_true_iff.mp (show (qtP p && chkP S N sc p x && chkAs S N sc r xs) = true from h)
    obtain ⟨h0, h1⟩ := Bool.and_eq_true_iff.mp h1
    obtain ⟨k1, k2⟩ := Bool.and_eq_true_iff.mp (show (qtP p && r.noM && r.okm) = true from hk)
    obtain ⟨ta, pa, qa⟩ := soundP p (W := W) h1
    obtain ⟨tb, pb, qb⟩ := soundAs r (W := W) h2 k2
    exact ⟨tCons ta tb, fun X ok => pa_cons (pa X ok) (pb X ok) (st_of (notStar_P h1)), SimAs.m qa qb (Bool.and_eq_true_iff.mp k1).2⟩
  | .cons (.w p) r, sc, W, xs, h, hk => by
    cases xs <;> first | exact nope h | skip
    rename_i x xs
    obtain ⟨h1, h2⟩ := Bool.and_eq_true_iff.mp (show (qtP p && chkP S N sc p x && chkAs S N sc r xs) = true from h)
    obtain ⟨h0, h1⟩ := Bool.and_eq_true_iff.mp h1
    obtain ⟨k1, k2⟩ := Bool.and_eq_true_iff.mp (show (qtP p && r.noM && qtA r && r.okm) = true from hk)
    obtain ⟨k1, k3⟩ := Bool.and_eq_true_iff.mp k1
    obtain ⟨ta, pa, qa⟩ := soundP p (W := W) h1
    obtain ⟨tb, pb, qb⟩ := soundAs r (W := W) h2 k2
    rw [k3] at qb
    have e : qtA (.cons (.w p) r) = true := by
      show (qtP p && qtA r) = true
      rw [h0, k3]; rfl
    rw [e]
    exact ⟨tCons ta tb, fun X ok => pa_cons (pa X ok) (pb X ok) (st_of (notStar_P h1)), SimAs.w qa qb (Bool.and_eq_true_iff.mp k1).2⟩
theorem soundI : ∀ (it : It) {sc : Scope} {W : WX} {x tg : Expr}, chkI S N sc it x tg = true → ∃ wi, (∀ X, XOk R S N sc W X → PI X tg x wi) ∧ SimI R W wi (wpI Tb it) (qtI it)
  | .val e, sc, W, x, tg, h => by
    have h2 : chkE S N sc e x = true := by cases x <;> first | exact nope h | exact h
    obtain ⟨ta, pa, qa⟩ := soundE e (W := W) h2
    exact ⟨iAny R.K ta, fun X ok => by rw [← ok.K]; exact pi_any (pa X ok), SimI.val (qa false)⟩
  | .rng1 a, sc, W, x, tg, h => by
    cases x <;> first | exact nope h | skip
    rename_i g xs ks pos
    cases g <;> rcases xs with _ | ⟨y, _ | ⟨z, r⟩⟩ <;> rcases ks with _ | ⟨kw, ks⟩ <;> first | exact nope h | skip
    simp only [chkI, Bool.and_eq_true, decide_eq_true_eq] at h
    obtain ⟨⟨⟨h1, h2⟩, h3⟩, h4⟩ := h
    subst h1
    obtain ⟨ta, pa, qa⟩ := soundE a (W := W) h4
    exact ⟨_, fun X ok => pi_range1 (glo_of ok.sc h2) (by rw [ok.mg]; exact eo.fr _ h3) (pa1 (pa X ok) (notStar_E h4)) (st_of (notStar_E h4)), SimI.rng1 (qa true)⟩
  | .rng2 a b, sc, W, x, tg, h => by
    cases x <;> first | exact nope h | skip
    rename_i g xs ks pos
    cases g <;> rcases xs with _ | ⟨y, _ | ⟨z, _ | ⟨z2, r⟩⟩⟩ <;> rcases ks with _ | ⟨kw, ks⟩ <;> first | exact nope h | skip
    simp only [chkI, Bool.and_eq_true, decide_eq_true_eq] at h
    obtain ⟨⟨⟨⟨h1, h2⟩, h3⟩, h4⟩, h5⟩ := h
    subst h1
    obtain ⟨ta, pa, qa⟩ := soundE a (W := W) h4
    obtain ⟨tb, pb, qb⟩ := soundE b (W := W) h5
    exact ⟨_, fun X ok => pi_range2 (glo_of ok.sc h2) (by rw [ok.mg]; exact eo.fr _ h3) (pa_cons (pa X ok) (pa1 (pb X ok) (notStar_E h5)) (st_of (notStar_E h4))) (by rw [st_of (notStar_E h4), st_of (notStar_E h5)]; rfl) (st_of (notStar_E h5)), SimI.rng2 (qa _) (qb true) fun z => z⟩
  | .enum e, sc, W, x, tg, h => by
    cases x <;> first | exact nope h | skip
    rename_i g xs ks pos
    cases g <;> rcases xs with _ | ⟨y, _ | ⟨z, r⟩⟩ <;> rcases ks with _ | ⟨kw, ks⟩ <;> cases tg <;> first | exact nope h | skip
    simp only [chkI, Bool.and_eq_true, decide_eq_true_eq] at h
    obtain ⟨⟨⟨h1, h2⟩, h3⟩, h4⟩ := h
    subst h1
    obtain ⟨ta, pa, qa⟩ := soundE e (W := W) h4
    exact ⟨_, fun X ok => by rw [← ok.K]; exact pi_enum (glo_of ok.sc h2) (by rw [ok.mg]; exact eo.fr _ h3) (pa1 (pa X ok) (notStar_E h4)) (st_of (notStar_E h4)), SimI.enum (qa false)⟩
end
end
end OT
end
section
set_option Elab.async false
set_option linter.all false
set_option maxRecDepth 100000
set_option maxHeartbeats 2000000
namespace OT
open PySem PySem.Spec PyProof.Rows L2
/-! ### statements -/
mutual
inductive S1 where
  | asg (g : Tg) (e : E)
  | lc (i : Nat) (e : E)
  | par (i j : Nat) (a b : E)
  | put (p : P) (f : Str) (e : E)
  | sub (p : P) (i e : E)
  | aug (i : Nat) (o : Operator) (e : E)
  | augP (p : P) (f : Str) (o : Operator) (e : E)
  | ex (e : E)
  | ite (c : Cd) (a b : Ss)
  | whl (c : Cd) (b : Ss)
  | for_ (g : Tg) (it : It) (b : Ss)
  | ret (e : E)
  | retN
  | rz (c : Str) (es : Es)
  | tr (b : Ss) (x : Str) (i : Nat) (h : Ss)
  | tr0 (b : Ss) (x : Str) (h : Ss)
  | trs (b : Ss) (hs : Hs)
  | pas | brk | cont
inductive Ss where
  | nil | cons (s : S1) (r : Ss) | als (i : Nat) (p : P) (m : Mm) (es : Es) (r : Ss)
inductive Hs where
  | nil | cons (x : Str) (n : Option Nat) (h : Ss) (r : Hs)
end
structure CT where
  nx : En → Prop
  rt : T → En → Prop
  bk : En → Prop
  ct : En → Prop
  ex : XC
def CT.wN (C : CT) (K : En → Prop) : CT := { C with nx := K }
/-- a loop's body -/
def CT.wL (C : CT) (N : En → Prop) : CT := { C with nx := N, ct := N, bk := C.nx }
def CT.wX (C : CT) (X : XC) : CT := { C with ex := X }
/-- an except suite's: the caught one's slot i is let go -/
def CT.su (C : CT) (i : Nat) : CT where
  nx := fun e' => noExn (e'.set i .und) = true ∧ C.nx (e'.set i .und)
  rt := fun t e' => noExn (e'.set i .und) = true ∧ C.rt t (e'.set i .und)
  bk := fun e' => noExn (e'.set i .und) = true ∧ C.bk (e'.set i .und)
  ct := fun e' => noExn (e'.set i .und) = true ∧ C.ct (e'.set i .und)
  ex := fun _ _ _ => False
/-- the field f of an own instance is x -/
def insPut (t : T) (f : Str) (x : T) : T := match t with
  | .ins fl c ns ts => (match lookT f ns ts with
    | some _ => .ins fl c ns (putT f x ns ts)
    | none => .ins fl c (ns ++ [f]) (ts ++ [x]))
  | t => t
def isIns : T → Bool
  | .ins .own _ _ _ => true
  | _ => false
/-- an augmented operator -/
def ipT (o : Operator) (x y : T) (Q : T → Prop) : Prop := match o, x, y with
  | .Add, .int i, .int j => Q (.int (i + j))
  | .Sub, .int i, .int j => Q (.int (i - j))
  | .Add, .str i, .str j => i.length + j.length ≤ LIM ∧ Q (.str (i ++ j))
  | _, _, _ => False
/-- the turns of a loop -/
def forT (g : Tg) (body : En → CT → Prop) (C : CT) : List T → En → Prop
  | [], e => C.nx e
  | x :: r, e => storeT g x e fun e' => body e' (C.wL (forT g body C r))
section
variable (Tb : Sig)
mutual
def wpS : S1 → En → CT → Prop
  | .asg g e, env, C => wpE Tb false e env C.ex fun t e1 => storeT g t e1 fun e2 => C.nx e2
  | .lc i e, env, C => wpE Tb false e env C.ex fun t e1 => storeT (.nm i) t e1 fun e2 => C.nx e2
  | .par i j a b, env, C => wpE Tb false a env C.ex fun t e1 => wpE Tb false b e1 C.ex fun u e2 => (stok e2 i && stok e2 j && i != j) = true ∧ C.nx ((e2.set i (.has false t)).set j (.has false u))
  | .put p f e, env, C => wpE Tb false e env C.ex fun t e1 => wpP Tb p e1 C.ex fun i st x => isIns x = true ∧ (match x with
    | .ins _ c ns ts => Tb.at_.contains (c, f) = true ∧ ns.length < 900
    | _ => False) ∧ (match e1[i]? with
    | some (.has b rt) => C.nx (e1.set i (.has b (setS rt st (insPut x f t))))
    | _ => False)
  | .sub p i e, env, C => wpE Tb false e env C.ex fun t e1 => wpP Tb p e1 C.ex fun j st x => isOwn x = true ∧ wpE Tb true i e1 C.ex fun z _ => (match x, z with
    | .lst _ ts, .int k => ∃ n, ixN ts.length k = some n ∧ n < ts.length ∧ (match e1[j]? with
      | some (.has b rt) => C.nx (e1.set j (.has b (setS rt st (.lst .own (ts.set n t)))))
      | _ => False)
    | _, _ => False)
  | .aug i o e, env, C => (match env[i]? with
    | some (.has false t) => wpE Tb true e env C.ex fun u _ => ipT o t u fun r => C.nx (env.set i (.has false r))
    | _ => False)
  | .augP p f o e, env, C => wpP Tb p env C.ex fun i st x => isIns x = true ∧ (match x with
    | .ins _ c ns ts => Tb.at_.contains (c, f) = true ∧ ns.length < 900 ∧ ∃ t, lookT f ns ts = some t ∧ wpE Tb true e env C.ex fun u _ => ipT o t u fun r => (match env[i]? with
      | some (.has b rt) => C.nx (env.set i (.has b (setS rt st (insPut x f r))))
      | _ => False)
    | _ => False)
  | .ex e, env, C => wpE Tb true e env C.ex fun _ e1 => C.nx e1
  | .ite c a b, env, C => wpT Tb c env C.ex fun r e1 => (r = true → wpSs a e1 C) ∧ (r = false → wpSs b e1 C)
  | .whl c b, env, C => ∃ I : Nat → En → Prop, (∃ m, I m env) ∧ ∀ m e, I m e → wpT Tb c e C.ex fun r e1 => (r = true → wpSs b e1 (C.wL fun e' => ∃ m', m' < m ∧ I m' e')) ∧ (r = false → C.nx e1)
  | .for_ g it b, env, C => wpI Tb it env C.ex fun tn e1 => forT g (fun e C' => wpSs b e C') C tn.list e1
  | .ret e, env, C => wpE Tb false e env C.ex fun t e1 => C.rt t e1
  | .retN, env, C => C.rt .non env
  | .rz c es, env, C => wpEs Tb true es env C.ex fun ts e1 => ∃ ns, Tb.rz.lookup c = some ns ∧ ns.length = ts.length ∧ ts.all flatT = true ∧ C.ex c (ns.zip ts) e1
  | .tr b x i h, env, C => wpSs b env (C.wX fun c fs e => ∃ r, Tb.xm.lookup (c, x) = some r ∧ (r = true → noExn e = true ∧ stok e i = true ∧ wpSs h (e.set i (.exn c fs)) (C.su i)) ∧ (r = false → C.ex c fs e))
  | .tr0 b x h, env, C => wpSs b env (C.wX fun c fs e => ∃ r, Tb.xm.lookup (c, x) = some r ∧ (r = true → wpSs h e (C.wX fun _ _ _ => False)) ∧ (r = false → C.ex c fs e))
  | .trs b hs, env, C => wpSs b env (C.wX fun c fs e => wpHs hs c fs e C)
  | .pas, env, C => C.nx env
  | .brk, env, C => C.bk env
  | .cont, env, C => C.ct env
def wpSs : Ss → En → CT → Prop
  | .nil, env, C => C.nx env
  | .cons s r, env, C => wpS s env (C.wN fun e => wpSs r e C)
  | .als i p m es r, env, C => stok env i = true ∧ wpP Tb p env C.ex fun j st x => i ≠ j ∧ isOwn x = true ∧ (match env[j]? with
      | some (.has b rt) => wpEs Tb (m == .extend) es (env.set i .und) C.ex fun ts _ => mmT m x ts fun x' _ => wpSs r ((env.set i .und).set j (.has b (setS rt st x'))) C
      | _ => False)
def wpHs : Hs → Str → List (Str × T) → En → CT → Prop
  | .nil, c, fs, e, C => C.ex c fs e
  | .cons x n h r, c, fs, e, C => ∃ b, Tb.xm.lookup (c, x) = some b ∧ (b = true → (match n with
    | some i => noExn e = true ∧ stok e i = true ∧ wpSs h (e.set i (.exn c fs)) (C.su i)
    | none => wpSs h e (C.wX fun _ _ _ => False))) ∧ (b = false → wpHs r c fs e C)
end
end
end OT
end
section
set_option Elab.async false
set_option linter.all false
set_option maxRecDepth 100000
set_option maxHeartbeats 2000000
namespace OT
open PySem PySem.Spec PyProof.Rows L2
def ExOkS (W : WX) (E : RE) (H : Hp) (p : List Addr) (env : En) (σ : L2.St) (Xc : XC) : Prop :=
  ∀ E' H' p' env' σ' c fs cls d, Rs E' H' env' σ' p' → Gd E' H' p' → Pst false E H p env E' H' p' env' [] → Sik env σ σ' → ExR E' H' c fs cls d → Xc c fs env' → W cls d σ' H'
structure EndsOk (E : RE) (H : Hp) (p : List Addr) (env : En) (σ : L2.St) (C : CT) (D : Ends) : Prop where
  nx : ∀ E' H' p' env' σ', Rs E' H' env' σ' p' → Gd E' H' p' → Pst false E H p env E' H' p' env' [] → Sik env σ σ' → C.nx env' → D.nx σ' H'
  rt : ∀ E' H' p' env' σ' t v g, Rs E' H' env' σ' p' → Rep E' H' t v g → Gd E' H' (g ++ p') → Pst false E H p env E' H' p' env' g → Sik env σ σ' → C.rt t env' → D.rt v H'
  bk : ∀ E' H' p' env' σ', Rs E' H' env' σ' p' → Gd E' H' p' → Pst false E H p env E' H' p' env' [] → Sik env σ σ' → C.bk env' → D.bk σ' H'
  ct : ∀ E' H' p' env' σ', Rs E' H' env' σ' p' → Gd E' H' p' → Pst false E H p env E' H' p' env' [] → Sik env σ σ' → C.ct env' → D.ct σ' H'
def SimS (R : RP) (W : WX) (ts : TS) (wp : En → CT → Prop) : Prop :=
  ∀ (E : RE) (H : Hp) (env : En) (σ : L2.St) (p : List Addr) (C : CT) (D : Ends), E.K = R.K → E.ca = R.ca → Rs E H env σ p → Gd E H p → wp env C → EndsOk E H p env σ C D → ExOkS W E H p env σ C.ex → ts D σ H
section
variable {E E1 : RE} {H H1 : Hp} {p p1 g : List Addr} {env e1 : En} {C : CT} {D : Ends} {W : WX} {q : Bool} {Xc : XC} {σ σ1 : L2.St}
theorem ExOkS.nextS (x : ExOkS W E H p env σ Xc) (a : Pst q E H p env E1 H1 p1 e1 g) (s : Sik env σ σ1) : ExOkS W E1 H1 p1 e1 σ1 Xc :=
  fun E' H' p' env' σ' c fs cls d rs gd b sk ex xc => x E' H' p' env' σ' c fs cls d rs gd ((a.trans b).mono (by simp)) (s.trans a.io sk) ex xc
theorem ExOkS.next (x : ExOkS W E H p env σ Xc) (a : Pst q E H p env E1 H1 p1 e1 g) : ExOkS W E1 H1 p1 e1 σ Xc := x.nextS a Sik.refl
theorem ExOkS.at_ (x : ExOkS W E H p env σ Xc) : ExOk W E H p env σ Xc :=
  fun E' H' p' env' c fs cls d rs gd b ex xc => x E' H' p' env' σ c fs cls d rs gd b Sik.refl ex xc
theorem EndsOk.nextS (x : EndsOk E H p env σ C D) (a : Pst q E H p env E1 H1 p1 e1 g) (s : Sik env σ σ1) : EndsOk E1 H1 p1 e1 σ1 C D :=
  ⟨fun E' H' p' env' σ' rs gd b sk w => x.nx E' H' p' env' σ' rs gd ((a.trans b).mono (by simp)) (s.trans a.io sk) w, fun E' H' p' env' σ' t v g rs r gd b sk w => x.rt E' H' p' env' σ' t v g rs r gd ((a.trans b).mono (by simp)) (s.trans a.io sk) w,
    fun E' H' p' env' σ' rs gd b sk w => x.bk E' H' p' env' σ' rs gd ((a.trans b).mono (by simp)) (s.trans a.io sk) w, fun E' H' p' env' σ' rs gd b sk w => x.ct E' H' p' env' σ' rs gd ((a.trans b).mono (by simp)) (s.trans a.io sk) w⟩
theorem EndsOk.next (x : EndsOk E H p env σ C D) (a : Pst q E H p env E1 H1 p1 e1 g) : EndsOk E1 H1 p1 e1 σ C D := x.nextS a Sik.refl
theorem Pst.weak (a : Pst q E H p env E1 H1 p1 e1 g) : Pst false E H p env E1 H1 p1 e1 g := a.mono fun z => nomatch z
end
section
variable {R : RP} {W : WX} {te ta tb : TE} {tt : TT} {wa wb : En → XC → (T → En → Prop) → Prop} {wt : En → XC → (Bool → En → Prop) → Prop} {qa qb qt' : Bool} {t u : TS} {ws wr : En → CT → Prop} {g : Tg} {gt : TG}
theorem SimS.asg (ha : SimE R W te wa qa false) (hg : SimG R gt g) : SimS R W (tAsg te gt) (fun env C => wa env C.ex fun t e1 => storeT g t e1 fun e2 => C.nx e2) := by
  intro E H env σ p C D eK ec rs gd w en xo
  refine ha E H env σ p _ _ _ eK ec rs gd w (fun E1 H1 p1 e1 t v g1 rs1 r1 gd1 gg1 ps1 w1 => ?_) xo.at_
  refine hg E1 H1 e1 σ p1 g1 v t _ _ (ps1.EK eK) rs1 r1 (gg1 rfl) w1 fun env' σ' p' rs' gd' sub io sk _ w2 => ?_
  exact en.nx E1 H1 p' env' σ' rs' gd' ⟨ps1.fr.sub (fun _ z => z) (fun x z => sub x z), (fun z => nomatch z), ps1.io.trans io⟩ (Sik.refl.trans ps1.io sk) w2
theorem SimS.par {i j : Nat} (ha : SimE R W ta wa qa false) (hb : SimE R W tb wb qb false) : SimS R W (tPar i j (tCons ta (tCons tb tNil))) (fun env C => wa env C.ex fun t e1 => wb e1 C.ex fun u e2 => (stok e2 i && stok e2 j && i != j) = true ∧ C.nx ((e2.set i (.has false t)).set j (.has false u))) := by
  intro E H env σ p C D eK ec rs gd w en xo
  refine ha E H env σ p _ _ _ eK ec rs gd w (fun E1 H1 p1 e1 t v g1 rs1 r1 gd1 gg1 ps1 w1 => ?_) xo.at_
  refine hb E1 H1 e1 σ p1 _ _ _ (ps1.EK eK) (ps1.Ec ec) rs1 gd1 w1 (fun E2 H2 p2 e2 u w2 g2 rs2 r2 gd2 gg2 ps2 w3 => ?_) (xo.at_.next ps1)
  obtain ⟨hc, w3⟩ := w3
  obtain ⟨hc, hij⟩ := Bool.and_eq_true_iff.mp hc
  have r1' := r1.frame (gg1 rfl) ps2.fr
  have gg : Gd E2 H2 ((g1 ++ g2) ++ p2) := by
    have z := Gd.frame (gg1 rfl) ps2.fr (gg2 rfl)
    rw [List.append_assoc]
    exact z
  have z := stores (is := [i, j]) (ts := [t, u]) (vs := [v, w2]) (Q := D.nx) rfl (by simpa using hc) rs2 (by simpa using Rp.cons r1' (Reps.one r2)) gg fun env' σ' p' e rs' gd' sub io sk _ => by
    subst e
    refine en.nx E2 H2 p' _ σ' rs' gd' ⟨?_, (fun z => nomatch z), (ps1.io.trans ps2.io).trans io⟩ (Sik.refl.trans (ps1.io.trans ps2.io) sk) w3
    have f : Frm E E2 p (g1 ++ (g2 ++ p2)) H H2 := ps1.fr.trans ps2.fr.beside
    exact f.sub (fun _ z => z) fun x z => by
      have := sub x z
      rw [List.append_assoc] at this
      exact this
  obtain ⟨v', r', ez, z⟩ := z
  cases ez
  obtain ⟨v'', r'', ez, z⟩ := z
  cases ez
  exact ⟨v, w2, rfl, z.2⟩
theorem SimS.ex (ha : SimE R W te wa qa true) : SimS R W (tDrop te) (fun env C => wa env C.ex fun _ e1 => C.nx e1) := by
  intro E H env σ p C D eK ec rs gd w en xo
  exact ha E H env σ p _ _ _ eK ec rs gd w (fun E1 H1 p1 e1 t v g1 rs1 r1 gd1 gg1 ps1 w1 => en.nx E1 H1 p1 e1 σ rs1 gd1 ps1.weak Sik.refl w1) xo.at_
theorem SimS.ite (hc : SimT R W tt wt qt') (ha : SimS R W t ws) (hb : SimS R W u wr) : SimS R W (tIfS tt t u) (fun env C => wt env C.ex fun r e1 => (r = true → ws e1 C) ∧ (r = false → wr e1 C)) := by
  intro E H env σ p C D eK ec rs gd w en xo
  refine hc E H env σ p _ _ _ eK ec rs gd w (fun E1 H1 p1 e1 b rs1 gd1 ps1 w1 => ?_) xo.at_
  cases b with
  | true =>
    rw [if_pos rfl]
    exact ha E1 H1 e1 σ p1 C D (ps1.EK eK) (ps1.Ec ec) rs1 gd1 (w1.1 rfl) (en.next ps1) (xo.next ps1)
  | false =>
    rw [if_neg Bool.false_ne_true]
    exact hb E1 H1 e1 σ p1 C D (ps1.EK eK) (ps1.Ec ec) rs1 gd1 (w1.2 rfl) (en.next ps1) (xo.next ps1)
theorem SimS.whl (hc : SimT R W tt wt qt') (hb : SimS R W t ws) : SimS R W (tWhile tt t) (fun env C => ∃ I : Nat → En → Prop, (∃ m, I m env) ∧ ∀ m e, I m e → wt e C.ex fun r e1 => (r = true → ws e1 { C with nx := fun e' => ∃ m', m' < m ∧ I m' e', ct := fun e' => ∃ m', m' < m ∧ I m' e', bk := C.nx }) ∧ (r = false → C.nx e1)) := by
  intro E H env σ p C D eK ec rs gd w en xo
  obtain ⟨I, ⟨m0, i0⟩, turn⟩ := w
  refine ⟨fun m σ' H' => ∃ E' p' env', Rs E' H' env' σ' p' ∧ Gd E' H' p' ∧ Pst false E H p env E' H' p' env' [] ∧ Sik env σ σ' ∧ I m env', ⟨m0, E, p, env, rs, gd, Pst.refl, Sik.refl, i0⟩, ?_⟩
  rintro m σ1 H1 ⟨E1, p1, e1, rs1, gd1, ps1, sk1, im⟩
  refine hc E1 H1 e1 σ1 p1 _ _ _ (ps1.EK eK) (ps1.Ec ec) rs1 gd1 (turn m e1 im) (fun E2 H2 p2 e2 b rs2 gd2 ps2 w2 => ?_) (xo.nextS ps1 sk1).at_
  have ps := ps1.trans ps2
  cases b with
  | false =>
    rw [if_neg Bool.false_ne_true]
    exact en.nx E2 H2 p2 e2 σ1 rs2 gd2 ps.weak sk1 (w2.2 rfl)
  | true =>
    rw [if_pos rfl]
    refine ⟨fun σ' H' => ∃ m', m' < m ∧ ∃ E' p' env', Rs E' H' env' σ' p' ∧ Gd E' H' p' ∧ Pst false E H p env E' H' p' env' [] ∧ Sik env σ σ' ∧ I m' env', fun σ' H' z => z, ?_⟩
    have back : ∀ E' H' p' env' σ', Rs E' H' env' σ' p' → Gd E' H' p' → Pst false E2 H2 p2 e2 E' H' p' env' [] → Sik e2 σ1 σ' → (∃ m', m' < m ∧ I m' env') → ∃ m', m' < m ∧ ∃ E' p' env', Rs E' H' env' σ' p' ∧ Gd E' H' p' ∧ Pst false E H p env E' H' p' env' [] ∧ Sik env σ σ' ∧ I m' env' :=
      fun E' H' p' env' σ' rs' gd' ps' sk' ⟨m', hm, i'⟩ => ⟨m', hm, E', p', env', rs', gd', (ps.trans ps').weak, sk1.trans ps.io sk', i'⟩
    have en2 := en.nextS ps sk1
    exact hb E2 H2 e2 σ1 p2 _ _ (ps2.EK (ps1.EK eK)) (ps2.Ec (ps1.Ec ec)) rs2 gd2 (w2.1 rfl) ⟨back, en2.rt, en2.nx, back⟩ (xo.nextS ps sk1)
theorem SimS.for_ {wi : TI} {wpi : En → XC → (Tn → En → Prop) → Prop} {qi : Bool} (hi : SimI R W wi wpi qi) (hg : SimG R gt g) (hb : SimS R W t ws) : SimS R W (tFor wi gt t) (fun env C => wpi env C.ex fun tn e1 => forT g ws C tn.list e1) := by
  intro E H env σ p C D eK ec rs gd w en xo
  refine hi E H env σ p _ _ _ eK ec rs gd w (fun E1 H1 p1 e1 tn J rs1 gd1 ps1 wk w1 => ?_) xo.at_
  generalize tn.list = l at wk w1
  refine ⟨fun i m σ' H' => m = l.length - i ∧ i ≤ l.length ∧ ∃ E' p' env', Rs E' H' env' σ' p' ∧ Gd E' H' p' ∧ Pst false E1 H1 p1 e1 E' H' p' env' [] ∧ Sik e1 σ σ' ∧ forT g ws C (l.drop i) env', ⟨l.length, by simp, Nat.zero_le _, E1, p1, e1, rs1, gd1, Pst.refl, Sik.refl, by simpa using w1⟩, ?_⟩
  rintro i m σ2 H2 ⟨rfl, hil, E2, p2, e2, rs2, gd2, ps2, sk2, w2⟩
  have k2 : Kp E1 E2 H1 H2 [] := Kp.of_frm (f := []) (by simpa using gd1) ps2.fr
  have eK1 := ps1.EK eK
  have ec1 := ps1.Ec ec
  by_cases hlt : i < l.length
  · refine .inr ⟨wk.go E2 H2 i l[i] (List.getElem?_eq_getElem hlt) k2, fun σ' H' => l.length - (i + 1) < l.length - i ∧ i + 1 ≤ l.length ∧ ∃ E' p' env', Rs E' H' env' σ' p' ∧ Gd E' H' p' ∧ Pst false E1 H1 p1 e1 E' H' p' env' [] ∧ Sik e1 σ σ' ∧ forT g ws C (l.drop (i + 1)) env', fun σ' H' z => ⟨l.length - (i + 1), z.1, rfl, z.2⟩, fun x H3 y => ?_⟩
    obtain ⟨f3, r3⟩ := wk.yld E2 H2 i l[i] x H3 (List.getElem?_eq_getElem hlt) k2 y
    rw [List.drop_eq_getElem_cons hlt] at w2
    have gd3 : Gd E2 H3 (p2 ++ []) := Gd.frame (by simpa using gd2) f3 (gd2.nil_of f3)
    rw [List.append_nil] at gd3
    have rs3 := rs2.kp (Kp.of0 f3)
    have ps3 : Pst false E1 H1 p1 e1 E2 H3 p2 e2 [] := by
      have z := Pst.op ps2 f3
      simpa using z
    refine hg E2 H3 e2 σ2 p2 [] x l[i] _ _ (ps2.EK eK1) rs3 r3 (by simpa using gd3) w2 fun env' σ' p' rs4 gd4 sub io sk _ w4 => ?_
    have ps4 : Pst false E1 H1 p1 e1 E2 H3 p' env' [] := ⟨ps3.fr.sub (fun _ z => z) (fun x z => by have := sub x z; simpa using this), (fun z => nomatch z), ps3.io.trans io⟩
    have sk4 : Sik e1 σ σ' := sk2.trans ps3.io sk
    have en4 := (en.next ps1).nextS ps4 sk4
    have back : ∀ E' H' p'' env'' σ'', Rs E' H' env'' σ'' p'' → Gd E' H' p'' → Pst false E2 H3 p' env' E' H' p'' env'' [] → Sik env' σ' σ'' → forT g ws C (l.drop (i + 1)) env'' → l.length - (i + 1) < l.length - i ∧ i + 1 ≤ l.length ∧ ∃ E' p' env', Rs E' H' env' σ'' p' ∧ Gd E' H' p' ∧ Pst false E1 H1 p1 e1 E' H' p' env' [] ∧ Sik e1 σ σ'' ∧ forT g ws C (l.drop (i + 1)) env' :=
      fun E' H' p'' env'' σ'' rs' gd' ps' sk' z => ⟨by omega, hlt, E', p'', env'', rs', gd', (ps4.trans ps').weak, sk4.trans ps4.io sk', z⟩
    exact hb E2 H3 env' σ' p' _ _ (ps2.EK eK1) (ps2.Ec ec1) rs4 gd4 w4 ⟨back, en4.rt, en4.nx, back⟩ ((xo.next ps1).nextS ps4 sk4)
  · have e : i = l.length := by omega
    subst e
    rw [List.drop_length] at w2
    exact .inl ⟨wk.stop E2 H2 k2, (en.next ps1).nx E2 H2 p2 e2 σ2 rs2 gd2 ps2 sk2 w2⟩
theorem SimS.ret (ha : SimE R W te wa qa false) : SimS R W (tRet te) (fun env C => wa env C.ex fun t e1 => C.rt t e1) := by
  intro E H env σ p C D eK ec rs gd w en xo
  exact ha E H env σ p _ _ _ eK ec rs gd w (fun E1 H1 p1 e1 t v g1 rs1 r1 gd1 gg1 ps1 w1 => en.rt E1 H1 p1 e1 σ t v g1 rs1 r1 (gg1 rfl) ps1.weak Sik.refl w1) xo.at_
theorem SimS.retN : SimS R W tRetN (fun env C => C.rt .non env) := by
  intro E H env σ p C D eK ec rs gd w en xo
  exact en.rt E H p env σ .non .non [] rs .non gd Pst.refl Sik.refl w
theorem SimS.pas : SimS R W tNext (fun env C => C.nx env) := by
  intro E H env σ p C D eK ec rs gd w en xo
  exact en.nx E H p env σ rs gd Pst.refl Sik.refl w
theorem SimS.brk : SimS R W tBreak (fun env C => C.bk env) := by
  intro E H env σ p C D eK ec rs gd w en xo
  exact en.bk E H p env σ rs gd Pst.refl Sik.refl w
theorem SimS.cont : SimS R W tCont (fun env C => C.ct env) := by
  intro E H env σ p C D eK ec rs gd w en xo
  exact en.ct E H p env σ rs gd Pst.refl Sik.refl w
theorem SimS.cons (ha : SimS R W t ws) (hb : SimS R W u wr) : SimS R W (tSeq t u) (fun env C => ws env { C with nx := fun e => wr e C }) := by
  intro E H env σ p C D eK ec rs gd w en xo
  refine ha E H env σ p _ _ eK ec rs gd w ⟨fun E' H' p' env' σ' rs' gd' ps sk w' => ?_, en.rt, en.bk, en.ct⟩ xo
  exact hb E' H' env' σ' p' C D (ps.EK eK) (ps.Ec ec) rs' gd' w' (en.nextS ps sk) (xo.nextS ps sk)
end
end OT
end
section
set_option Elab.async false
set_option linter.all false
set_option maxRecDepth 100000
set_option maxHeartbeats 2000000
namespace OT
open PySem PySem.Spec PyProof.Rows L2
/-! ### fields -/
theorem Reps.setv {E : RE} {H : Hp} : ∀ {ts : List T} {vs : List V} {g : List Addr} {n : Nat} {y : T}, Reps E H ts vs g → ts[n]? = some y →
    ∃ gy rest, g.Perm (gy ++ rest) ∧ ∀ E' H' t' v' g', Kp E E' H H' rest → Rep E' H' t' v' g' → ∃ g2, g2.Perm (g' ++ rest) ∧ Reps E' H' (ts.set n t') (vs.set n v') g2
  | [], _, _, _, _, _, e => by simp at e
  | t :: ts, _, _, n, y, h, e => by
    cases h with
    | @cons _ v f _ vs g h1 h2 =>
      cases n with
      | zero => exact ⟨f, g, .refl _, fun E' H' t' v' g' k r => ⟨g' ++ g, .refl _, .cons r (h2.kp k fun _ z => z)⟩⟩
      | succ n =>
        obtain ⟨gy, rest, s, q⟩ := Reps.setv h2 (show ts[n]? = some y by simpa using e)
        refine ⟨gy, f ++ rest, ?_, fun E' H' t' v' g' k r => ?_⟩
        · refine (List.Perm.append_left f s).trans ?_
          rw [← List.append_assoc, ← List.append_assoc]
          exact List.Perm.append_right _ List.perm_append_comm
        · obtain ⟨g2, s', q'⟩ := q E' H' t' v' g' (k.sub fun x z => List.mem_append_right _ z) r
          refine ⟨f ++ g2, ?_, .cons (h1.kp k fun _ z => List.mem_append_left _ z) q'⟩
          refine (List.Perm.append_left f s').trans ?_
          rw [← List.append_assoc, ← List.append_assoc]
          exact List.Perm.append_right _ List.perm_append_comm
theorem putF_at {f : Str} {x : T} {y : V} : ∀ {ns : List Str} {ts : List T} {vs : List V}, vs.length = ts.length → lookT f ns ts = some x → ∃ n, ts[n]? = some x ∧ (∀ t, putT f t ns ts = ts.set n t) ∧ putF f y (ns.zip vs) = ns.zip (vs.set n y)
  | [], _, _, _, h => by cases h
  | _ :: _, [], _, _, h => by cases h
  | _ :: _, _ :: _, [], hl, _ => by simp at hl
  | n :: ns, t :: ts, v :: vs, hl, h => by
    by_cases e : f = n
    · have h' : (if f = n then some t else lookT f ns ts) = some x := h
      rw [if_pos e] at h'
      cases h'
      refine ⟨0, rfl, fun u => ?_, ?_⟩
      · show (if f = n then u :: ts else x :: putT f u ns ts) = u :: ts
        rw [if_pos e]
      · show (if n = f then (n, y) :: ns.zip vs else (n, v) :: putF f y (ns.zip vs)) = _
        rw [if_pos e.symm]
        rfl
    · have h' : (if f = n then some t else lookT f ns ts) = some x := h
      rw [if_neg e] at h'
      obtain ⟨m, h1, h2, h3⟩ := putF_at (vs := vs) (y := y) (by simpa using hl) h'
      refine ⟨m + 1, by simpa using h1, fun u => ?_, ?_⟩
      · show (if f = n then u :: ts else t :: putT f u ns ts) = (t :: ts).set (m + 1) u
        rw [if_neg e, h2]
        rfl
      · show (if n = f then (n, y) :: ns.zip vs else (n, v) :: putF f y (ns.zip vs)) = _
        rw [if_neg fun z => e z.symm, h3]
        rfl
theorem putF_new {f : Str} {y : V} : ∀ {ns : List Str} {ts : List T} {vs : List V}, ns.length = ts.length → vs.length = ts.length → lookT f ns ts = none → putF f y (ns.zip vs) = (ns ++ [f]).zip (vs ++ [y])
  | [], [], [], _, _, _ => rfl
  | [], _ :: _, _, h, _, _ => by simp at h
  | _ :: _, [], _, h, _, _ => by simp at h
  | [], [], _ :: _, _, h, _ => by simp at h
  | _ :: _, _ :: _, [], _, h, _ => by simp at h
  | n :: ns, t :: ts, v :: vs, h1, h2, h => by
    have h' : (if f = n then some t else lookT f ns ts) = none := h
    by_cases e : f = n
    · rw [if_pos e] at h'; cases h'
    · rw [if_neg e] at h'
      show (if n = f then (n, y) :: ns.zip vs else (n, v) :: putF f y (ns.zip vs)) = _
      rw [if_neg fun z => e z.symm, putF_new (by simpa using h1) (by simpa using h2) h']
      rfl
theorem wrote_ins {E : RE} {H : Hp} {c f : Str} {ns : List Str} {ts : List T} {v y : V} {t : T} {f0 g p : List Addr} (r : Rep E H (.ins .own c ns ts) v f0) (ry : Rep E H t y g) (gd : Gd E H (f0 ++ g ++ p)) :
    ∃ a dx vs f', v = .ref a ∧ H a = some (.ins (E.ca.f c) dx (ns.zip vs)) ∧ ns.length = ts.length ∧ vs.length = ts.length ∧ f0 ≠ [] ∧ Rep E (upd H a (.ins (E.ca.f c) dx (putF f y (ns.zip vs)))) (insPut (.ins .own c ns ts) f t) v f' ∧
      Gd E (upd H a (.ins (E.ca.f c) dx (putF f y (ns.zip vs)))) (f' ++ p) ∧ Frm E E (f0 ++ g) f' H (upd H a (.ins (E.ca.f c) dx (putF f y (ns.zip vs)))) := by
  cases r with
  | @ins _ a _ dx _ _ vs g0 h1 h2 h3 h4 h5 h6 =>
    have lv := Reps.length h5
    have av := gd.av a (by simp [hd])
    have gdl : Gd E H (a :: (g0 ++ g)) := by simpa [hd] using gd.left
    have nd := List.nodup_cons.mp gdl.nd
    have n0 : a ∉ g0 := fun z => nd.1 (List.mem_append_left _ z)
    have n1 : a ∉ g := fun z => nd.1 (List.mem_append_right _ z)
    cases hl : lookT f ns ts with
    | some x =>
      obtain ⟨n, e1, e2, e3⟩ := putF_at (y := y) lv.symm hl
      obtain ⟨gy, rest, s, q⟩ := Reps.setv h5 e1
      have kp : Kp E E H (upd H a (.ins (E.ca.f c) dx (putF f y (ns.zip vs)))) rest := ⟨rfl, rfl, fun _ z => z, fun _ z => z, fun b o e z => by
        rw [upd_ne fun w => ?_]
        · exact e
        · subst w
          rcases z with z | z | z | z
          · exact n0 (s.mem_iff.mpr (List.mem_append_right _ z))
          · exact av.1 z
          · exact av.2 z
          · rw [h1] at e; cases e; exact z trivial⟩
      obtain ⟨g2, s2, q2⟩ := q E _ t y g kp (ry.wrote (u := .ins (E.ca.f c) dx (putF f y (ns.zip vs))) h1 trivial n1 av.1 av.2)
      refine ⟨a, dx, vs, a :: g2, rfl, h1, h2, lv.symm, by simp [hd], ?_, ?_, ?_⟩
      · have e : insPut (.ins .own c ns ts) f t = .ins .own c ns (ts.set n t) := by
          show (match lookT f ns ts with | some _ => _ | none => _) = _
          rw [hl, e2]
        rw [e]
        exact Rp.ins (f := .own) (dx := dx) (by rw [upd_same, e3]) (by simpa using h2) trivial (by decide) q2 fun z => absurd rfl z
      · have sub : (a :: (gy ++ (g ++ rest)) ++ p).Perm (([a] ++ g0) ++ g ++ p) := by
          refine List.Perm.append_right p ?_
          show (a :: (gy ++ (g ++ rest))).Perm (a :: (g0 ++ g))
          refine List.Perm.cons a ?_
          refine List.Perm.trans ?_ (List.Perm.append_right g s.symm)
          rw [List.append_assoc]
          exact List.Perm.append_left gy List.perm_append_comm
        have gd1 : Gd E H (a :: (gy ++ (g ++ rest)) ++ p) := gd.perm sub.symm
        have gd2 : Gd E H (a :: (g ++ rest) ++ p) := gd1.sub (List.Sublist.append (List.Sublist.cons_cons a (List.sublist_append_right _ _)) (.refl _))
        have gd3 : Gd E H ((a :: g2) ++ p) := gd2.perm (List.Perm.append_right p (List.Perm.cons a s2.symm))
        exact gd3.wrote trivial
      · refine Frm.wrote (by simp [hd]) fun x z => ?_
        rcases List.mem_cons.mp z with z | z
        · rw [z]; simp [hd]
        · rcases List.mem_append.mp (s2.mem_iff.mp z) with z | z
          · exact List.mem_append_right _ z
          · exact List.mem_append_left _ (List.mem_append_right _ (s.mem_iff.mpr (List.mem_append_right _ z)))
    | none =>
      have e3 := putF_new (y := y) h2 lv.symm hl
      refine ⟨a, dx, vs, a :: (g0 ++ g), rfl, h1, h2, lv.symm, by simp [hd], ?_, ?_, ?_⟩
      · have e : insPut (.ins .own c ns ts) f t = .ins .own c (ns ++ [f]) (ts ++ [t]) := by
          show (match lookT f ns ts with | some _ => _ | none => _) = _
          rw [hl]
        rw [e]
        exact Rp.ins (f := .own) (dx := dx) (by rw [upd_same, e3]) (by simp [h2]) trivial (by decide) (Reps.app (h5.wrote h1 trivial n0 av.1 av.2) (Reps.one (ry.wrote h1 trivial n1 av.1 av.2))) fun z => absurd rfl z
      · have z : Gd E H ((a :: (g0 ++ g)) ++ p) := by simpa [hd] using gd
        exact z.wrote trivial
      · refine Frm.wrote (by simp [hd]) fun x z => ?_
        simpa [hd] using z
def ipR : Operator → TIp
  | .Add => fun x y H Q => rI0 (fun i j => .int (i + j)) x y H Q ∨ ∃ i j, x = .str i ∧ y = .str j ∧ i.length + j.length ≤ sizeLine ∧ Q (.str (i ++ j)) H
  | .Sub => rI0 fun i j => .int (i - j)
  | _ => fun _ _ _ _ => False
theorem ip_all {X : Cx} : ∀ o : Operator, PIp X o (ipR o)
  | .Add => iop_add.or iop_add_str
  | .Sub => iop_sub
  | .Mult => fun _ _ _ _ _ _ _ _ _ _ _ _ h => h.elim
  | .MatMult => fun _ _ _ _ _ _ _ _ _ _ _ _ h => h.elim
  | .Div => fun _ _ _ _ _ _ _ _ _ _ _ _ h => h.elim
  | .Mod => fun _ _ _ _ _ _ _ _ _ _ _ _ h => h.elim
  | .Pow => fun _ _ _ _ _ _ _ _ _ _ _ _ h => h.elim
  | .LShift => fun _ _ _ _ _ _ _ _ _ _ _ _ h => h.elim
  | .RShift => fun _ _ _ _ _ _ _ _ _ _ _ _ h => h.elim
  | .BitOr => fun _ _ _ _ _ _ _ _ _ _ _ _ h => h.elim
  | .BitXor => fun _ _ _ _ _ _ _ _ _ _ _ _ h => h.elim
  | .BitAnd => fun _ _ _ _ _ _ _ _ _ _ _ _ h => h.elim
  | .FloorDiv => fun _ _ _ _ _ _ _ _ _ _ _ _ h => h.elim
theorem ip_sim {E : RE} {H : Hp} {o : Operator} {x y : T} {v w : V} {f g : List Addr} {Wt : T → Prop} {Q : VK} (r1 : Rep E H x v f) (r2 : Rep E H y w g) (h : ipT o x y Wt) (q : ∀ t u, Rep E H t u [] → Wt t → Q u H) : ipR o v w H Q := by
  cases o <;> cases x <;> cases y <;> first | exact False.elim h | skip
  · cases r1; cases r2
    exact .inl ⟨_, _, rfl, rfl, q _ _ .int h⟩
  · cases r1; cases r2
    exact .inr ⟨_, _, rfl, rfl, lim h.1, q _ _ .str h.2⟩
  · cases r1; cases r2
    exact ⟨_, _, rfl, rfl, q _ _ .int h⟩
section
variable {R : RP} {W : WX} {te ta tp : TE} {wa : En → XC → (T → En → Prop) → Prop} {wp : En → XC → (Nat → List Step → T → Prop) → Prop} {qa : Bool} {at_ : List (Str × Str)}
theorem SimS.aug {i : Nat} {o : Operator} (ha : SimE R W te wa true true) : SimS R W (tAug i te (ipR o)) (fun env C => match env[i]? with
    | some (.has false t) => wa env C.ex fun u _ => ipT o t u fun r => C.nx (env.set i (.has false r))
    | _ => False) := by
  intro E H env σ p C D eK ec rs gd w en xo
  have w : (match env[i]? with
    | some (.has false t) => wa env C.ex fun u _ => ipT o t u fun r => C.nx (env.set i (.has false r))
    | _ => False) := w
  split at w
  · rename_i t e
    obtain ⟨v, f, e1, hr, sub⟩ := rs.get e
    refine ⟨v, e1, ?_⟩
    refine ha E H env σ p _ _ _ eK ec rs gd w (fun E1 H1 p1 e2 u w1 g1 rs1 r1 gd1 gg1 ps1 w2 => ?_) xo.at_
    obtain ⟨ee, ep, s1⟩ := ps1.qf rfl
    subst ee ep
    obtain ⟨v', f', e1', hr', sub'⟩ := rs1.get e
    rw [e1] at e1'
    cases e1'
    refine ip_sim hr' r1 w2 fun t' u' r' w3 => ?_
    have hst : stok e2 i = true := by unfold stok; rw [e]; rfl
    obtain ⟨p', rs2, gd2, sub2⟩ := store_one rs1 r' (by simpa using gd1) hst
    exact en.nx E1 H1 p' _ _ rs2 gd2 ⟨ps1.fr.sub (fun _ z => z) (fun x z => List.mem_append_right _ (by have := sub2 x z; simpa using this)), (fun z => nomatch z), stok_iok hst⟩ (Sik.set (stok_not hst)) w3
  · exact w.elim
theorem quiet_gd {E E1 : RE} {H H1 : Hp} {l p g : List Addr} (gd : Gd E H l) (fr : Frm E E1 [] g H H1) (gd1 : Gd E1 H1 p) : Gd E1 H1 l := by
  have z := Gd.frame (f := l) (p := []) (by simpa using gd) fr (p' := g)
  have z2 : Gd E1 H1 [] := ⟨List.nodup_nil, (fun _ z => nomatch z), gd1.dm, (fun _ z => nomatch z)⟩
  have z3 := Gd.frame (f := l) (p := []) (p' := []) (by simpa using gd) (fr.sub (fun _ z => z) fun _ z => nomatch z) z2
  simpa using z3
theorem SimS.put {f : Str} (hat : AtOk R at_) (ha : SimE R W te wa qa false) (hp : SimP R W tp wp) : SimS R W (sFld R.K tp te f) (fun env C => wa env C.ex fun t e1 => wp e1 C.ex fun i st x => isIns x = true ∧ (match x with
    | .ins _ c ns ts => at_.contains (c, f) = true ∧ ns.length < 900
    | _ => False) ∧ (match e1[i]? with
    | some (.has b rt) => C.nx (e1.set i (.has b (setS rt st (insPut x f t))))
    | _ => False)) := by
  intro E H env σ p C D eK ec rs gd w en xo
  refine ha E H env σ p _ _ _ eK ec rs gd w (fun E1 H1 p1 e1 t v g1 rs1 r1 gd1 gg1 ps1 w1 => ?_) xo.at_
  refine hp E1 H1 e1 σ p1 _ _ _ (ps1.EK eK) (ps1.Ec ec) rs1 gd1 w1 (fun E2 H2 i st x v' b rt v0 f0 rest fx fr rs2 gd2 ps2 a2 w2 => ?_) (xo.at_.next ps1)
  obtain ⟨hi, hc, w2⟩ := w2
  rw [a2.e] at w2
  have s2 := (ps2.qf rfl).2.2
  cases x <;> first | cases hi; done | skip
  rename_i fl c ns ts
  cases fl <;> first | cases hi; done | skip
  have r1' : Rep E2 H2 t v g1 := r1.kp (Kp.of0 s2) fun _ z => z
  have pm : p1.Perm (fx ++ (fr ++ rest)) := by
    refine a2.pm.trans ?_
    rw [← List.append_assoc]
    exact List.Perm.append_right _ a2.fc.1
  have gg : Gd E2 H2 (g1 ++ p1) := quiet_gd (gg1 rfl) s2 gd2
  have gd3 : Gd E2 H2 ((fx ++ g1) ++ (fr ++ rest)) := by
    refine gg.perm ?_
    refine (List.Perm.append_left g1 pm).trans ?_
    rw [← List.append_assoc]
    exact List.Perm.append_right _ List.perm_append_comm
  obtain ⟨a, dx, vs, f', k1, k2, k3, k4, k5, k6, k7, k8⟩ := wrote_ins (f := f) (p := fr ++ rest) a2.fc.2.1 r1' gd3
  have hl : i < e1.length := (List.getElem?_eq_some_iff.mp a2.e).1
  obtain ⟨p', rs3, gd4, pm4⟩ := AtP.put (gy := []) hl a2.s a2.rs a2.fc gd3 (by simpa using k8) (by simpa using k7) k6 k5
  obtain ⟨hcc, hnl⟩ := hc
  have hca := hat c f hcc
  have eca : E2.ca = R.ca := (ps2.Ec (ps1.Ec ec))
  refine ⟨a, _, dx, _, k1, k2, by rw [eca]; exact hca.1, by rw [eca]; exact hca.2, ?_, ?_⟩
  · rw [List.length_zip]; omega
  · refine en.nx E2 _ p' _ σ rs3 (by simpa using gd4) ⟨?_, (fun z => nomatch z), ps1.io.trans (Iok.same a2.e)⟩ Sik.refl w2
    have f1 : Frm E E1 p (g1 ++ p1) H H1 := ps1.fr
    have f2 : Frm E1 E2 (g1 ++ p1) (g1 ++ p1) H1 H2 := by
      have z := s2.beside (f := g1 ++ p1)
      simpa using z
    have f3 : Frm E2 E2 ((fr ++ rest) ++ (fx ++ g1)) ((fr ++ rest) ++ f') H2 _ := k8.beside
    refine ((f1.trans f2).trans (f3.sub (fun x z => ?_) fun x z => ?_))
    · have hx : ∀ x, x ∈ fx ++ (fr ++ rest) → x ∈ g1 ++ p1 := fun x z => List.mem_append_right _ (pm.mem_iff.mpr z)
      rcases List.mem_append.mp z with z | z
      · exact hx x (List.mem_append_right _ z)
      · rcases List.mem_append.mp z with z | z
        · exact hx x (List.mem_append_left _ z)
        · exact List.mem_append_left _ z
    · have z := pm4.mem_iff.mpr z
      simp only [List.append_nil] at z
      rcases List.mem_append.mp z with z | z
      · exact List.mem_append_right _ z
      · exact List.mem_append_left _ z
theorem SimS.augP {f : Str} {o : Operator} (hat : AtOk R at_) (hp : SimP R W tp wp) (ha : SimE R W te wa true true) : SimS R W (sFldAug R.K tp te (ipR o) f) (fun env C => wp env C.ex fun i st x => isIns x = true ∧ (match x with
    | .ins _ c ns ts => at_.contains (c, f) = true ∧ ns.length < 900 ∧ ∃ t, lookT f ns ts = some t ∧ wa env C.ex fun u _ => ipT o t u fun r => (match env[i]? with
      | some (.has b rt) => C.nx (env.set i (.has b (setS rt st (insPut x f r))))
      | _ => False)
    | _ => False)) := by
  intro E H env σ p C D eK ec rs gd w en xo
  refine hp E H env σ p _ _ _ eK ec rs gd w (fun E1 H1 i st x v b rt v0 f0 rest fx fr rs1 gd1 ps1 a1 w1 => ?_) xo.at_
  obtain ⟨hi, w1⟩ := w1
  cases x <;> first | cases hi; done | skip
  rename_i fl c ns ts
  cases fl <;> first | cases hi; done | skip
  obtain ⟨hcc, hnl, t, lk, w1⟩ := w1
  have hca := hat c f hcc
  have eca : E1.ca = R.ca := ps1.Ec ec
  obtain ⟨a, dx, vs, w', g', e1, e2, e3, e4, e5⟩ := att_sim (K := R.K) (t := .non) a1.fc.2.1 lk
  refine ⟨a, _, dx, _, w', e1, e2, by rw [eca]; exact hca.1, by rw [eca]; exact hca.2, e3, ?_⟩
  refine ha E1 H1 env σ p _ _ _ (ps1.EK eK) (ps1.Ec ec) rs1 gd1 w1 (fun E2 H2 p2 env2 u w2 g2 rs2 r2 gd2 gg2 ps2 w3 => ?_) (xo.at_.next ps1)
  obtain ⟨ee, ep, s2⟩ := ps2.qf rfl
  subst ee ep
  have a2 := a1.stay s2
  obtain ⟨a', dx', vs', w'', g'', k1, k2, k3, k4, k5⟩ := att_sim (K := R.K) (t := .non) a2.fc.2.1 lk
  rw [e1] at k1
  cases k1
  have ew : w'' = w' := by
    have z := s2.keep _ _ e2 (by simp)
    rw [k2] at z
    injection (Option.some.inj z) with z1 z2 z3
    rw [← z3, k3] at e3
    exact Option.some.inj e3
  subst ew
  refine ip_sim k4 r2 w3 fun t' u' r' w4 => ?_
  rw [a2.e] at w4
  have pm : p2.Perm (fx ++ (fr ++ rest)) := by
    refine a2.pm.trans ?_
    rw [← List.append_assoc]
    exact List.Perm.append_right _ a2.fc.1
  have gd3 : Gd E2 H2 ((fx ++ []) ++ (fr ++ rest)) := by
    rw [List.append_nil]
    exact gd2.perm pm
  obtain ⟨b1, bx, bs, f', j1, j2, j3, j4, j5, j6, j7, j8⟩ := wrote_ins (f := f) (p := fr ++ rest) a2.fc.2.1 r' gd3
  rw [e1] at j1
  cases j1
  have hl : i < env2.length := (List.getElem?_eq_some_iff.mp a2.e).1
  obtain ⟨p', rs3, gd4, pm4⟩ := AtP.put (gy := []) hl a2.s a2.rs a2.fc gd3 (by simpa using j8) (by simpa using j7) j6 j5
  have eca2 : E2.ca.f c = E1.ca.f c := by rw [ps2.fr.ca]
  rw [eca2] at j2 j6 j7 j8 rs3 gd4
  refine ⟨bx, _, j2, ?_, ?_⟩
  · rw [List.length_zip]; omega
  · refine en.nx E2 _ p' _ σ rs3 (by simpa using gd4) ⟨?_, (fun z => nomatch z), (Iok.same a2.e)⟩ Sik.refl w4
    have f1 : Frm E E1 p2 p2 H H1 := ps1.fr.sub (fun _ z => z) fun _ z => List.mem_append_right _ z
    have f2 : Frm E1 E2 p2 p2 H1 H2 := by
      have z := s2.beside (f := p2)
      rw [List.append_nil] at z
      exact z.sub (fun _ z => z) fun _ z => List.mem_append_left _ z
    have f3 : Frm E2 E2 ((fr ++ rest) ++ (fx ++ [])) ((fr ++ rest) ++ f') H2 _ := j8.beside
    refine ((f1.trans f2).trans (f3.sub (fun x z => ?_) fun x z => ?_))
    · refine pm.mem_iff.mpr ?_
      rw [List.append_nil] at z
      rcases List.mem_append.mp z with z | z
      · exact List.mem_append_right _ z
      · exact List.mem_append_left _ z
    · have z := pm4.mem_iff.mpr z
      simp only [List.append_nil] at z
      rcases List.mem_append.mp z with z | z
      · exact List.mem_append_right _ z
      · exact List.mem_append_left _ z
end
end OT
end
section
set_option Elab.async false
set_option linter.all false
set_option maxRecDepth 100000
set_option maxHeartbeats 2000000
namespace OT
open PySem PySem.Spec PyProof.Rows L2
/-! ### raise -/
section
variable {R : RP} {W : WX} {ta : TA} {wr : En → XC → (List T → En → Prop) → Prop} {qa : Bool}
theorem SimS.rz {c : Str} {ns : List Str} {fI : Addr} {sp : Sp} (ha : SimA R W ta wr qa true) (hnd : ns.Nodup) (hnl : ns.length ≤ 100)
    (hsp : ∀ (a : Addr) (vs : List V) (H : Hp) (Q : VK), vs.length = ns.length → H a = some (exo a (R.ca.f c) none) →
      (∀ d, H d = none → d ≠ a → Q .non (upd (upd H d (exd d (ns.zip vs).reverse)) a (exo a (R.ca.f c) (some d)))) → sp (.ref a :: vs) H Q (fun _ _ _ => False)) :
    SimS R W (fun _ σ H => tMkO (R.ca.f c) sp [] ta σ H fun cls d H' => W cls d σ H') (fun env C => wr env C.ex fun ts e1 => ns.length = ts.length ∧ ts.all flatT = true ∧ C.ex c (ns.zip ts) e1) := by
  intro E H env σ p C D eK ec rs gd w en xo
  refine ha E H env σ p _ _ _ eK ec rs gd w (fun E1 H1 p1 e1 ts vs g1 rs1 r1 gd1 gg1 ps1 w1 => ?_) xo.at_
  obtain ⟨w1, w2, w3⟩ := w1
  have lv : vs.length = ns.length := by rw [w1, Reps.length r1]
  refine ⟨by omega, fun a ha => ?_⟩
  rw [List.append_nil]
  refine hsp a vs _ _ lv upd_same fun d hd hda => ⟨rfl, d, (ns.zip vs).reverse, upd_same, ?_, ?_, ?_⟩
  · rw [upd_ne hda, upd_same]
  · rw [upd_ne hda] at hd
    exact hd
  · have hd1 : H1 d = none := by rw [upd_ne hda] at hd; exact hd
    have eH : upd (del (upd (upd (upd H1 a (exo a (R.ca.f c) none)) d (exd d (ns.zip vs).reverse)) a (exo a (R.ca.f c) (some d))) a) d (.xd (ns.zip vs).reverse) = upd H1 d (.xd (ns.zip vs).reverse) := by
      funext b
      by_cases hb : b = d
      · subst hb
        rw [upd_same, upd_same]
      · rw [upd_ne hb, upd_ne hb]
        by_cases hba : b = a
        · rw [hba, del_same, ha]
        · rw [del_ne hba, upd_ne hba, upd_ne hb, upd_ne hba]
    rw [eH]
    have fr : Frm E1 E1 [] [] H1 (upd H1 d (.xd (ns.zip vs).reverse)) := Frm.laid hd1 fun _ z => nomatch z
    refine xo E1 _ p1 e1 σ c (ns.zip ts) (.ref (R.ca.f c)) (some d) (rs1.kp (Kp.of0 fr)) (gd1.laid0 hd1) ?_ Sik.refl ⟨by rw [ps1.Ec ec], .inr ⟨d, (ns.zip vs).reverse, rfl, upd_same, fun n t l => ?_⟩⟩ w3
    · have z := Pst.op ps1.drop fr
      exact z.weak
    · obtain ⟨i, h1, h2⟩ := zip_lookup l
      obtain ⟨v, g, e2, hr, _⟩ := Reps.get r1 h2
      have ft : flatT t = true := List.all_eq_true.mp w2 t (List.mem_of_getElem? h2)
      refine ⟨ft, v, lookup_mem ?_ ?_, flat_any hr ft⟩
      · rw [List.map_reverse, zip_fst lv]
        exact (List.reverse_perm ns).nodup_iff.mpr hnd
      · rw [List.mem_reverse]
        exact List.mem_of_getElem? (i := i) (List.getElem?_zip_eq_some.mpr ⟨h1, e2⟩)
end
/-! ### try -/
theorem Rs.putx {E : RE} {H : Hp} {c : Str} {fs : List (Str × T)} {a : Addr} {cls : Value} {d : Option Addr} (hx : E.ca.x = some (a, cls, d)) (he : ExR E H c fs cls d) : ∀ {env : En} {σ : L2.St} {p : List Addr} {i : Nat}, Rs E H env σ p → env[i]? = some .und → Rs E H (env.set i (.exn c fs)) (σ.set i (some (.ref a))) p
  | [], _, _, _, _, e => by simp at e
  | s :: env, _, _, i, h, e => by
    cases h with
    | und h =>
      cases i with
      | zero => exact .exn hx he h
      | succ i => exact .und (Rs.putx hx he h (show env[i]? = some .und by simpa using e))
    | has hr h =>
      cases i with
      | zero => simp at e
      | succ i => exact .has hr (Rs.putx hx he h (show env[i]? = some .und by simpa using e))
    | exn hx' he' h =>
      cases i with
      | zero => simp at e
      | succ i => exact .exn hx' he' (Rs.putx hx he h (show env[i]? = some .und by simpa using e))
def RP.at_ (R : RP) (a : Addr) (cls : Value) (d : Option Addr) : RP := { R with ca := { R.ca with x := some (a, cls, d) } }
section
variable {R : RP} {W : WX} {tb : WX → TS} {ts : Addr → Value → Option Addr → TS} {wb wh : En → CT → Prop} {cv : Value} {i : Nat} {x : Str} {xm : List ((Str × Str) × Bool)}
theorem SimS.tr (hb : ∀ W', SimS R W' (tb W') wb) (hh : ∀ a D d, SimS (R.at_ a (.ref D) d) W0 (ts a (.ref D) d) wh) (hxm : ∀ c b, xm.lookup (c, x) = some b → PySem.W.exmOne R.K (.ref (R.ca.f c)) cv = some b) :
    SimS R W (fun D σ H => tb (wAs R.K cv i ts W D) D σ H) (fun env C => wb env { C with ex := fun c fs e => ∃ r, xm.lookup (c, x) = some r ∧ (r = true → noExn e = true ∧ stok e i = true ∧ wh (e.set i (.exn c fs))
      { nx := fun e' => noExn (e'.set i .und) = true ∧ C.nx (e'.set i .und), rt := fun t e' => noExn (e'.set i .und) = true ∧ C.rt t (e'.set i .und), bk := fun e' => noExn (e'.set i .und) = true ∧ C.bk (e'.set i .und), ct := fun e' => noExn (e'.set i .und) = true ∧ C.ct (e'.set i .und), ex := fun _ _ _ => False }) ∧ (r = false → C.ex c fs e) }) := by
  intro E H env σ p C D eK ec rs gd w en xo
  refine hb _ E H env σ p _ D eK ec rs gd w ⟨en.nx, en.rt, en.bk, en.ct⟩ ?_
  intro E' H' p' env' σ' c fs cls d rs' gd' ps sk ex ⟨r, lk, w1, w2⟩
  refine ⟨r, ?_, fun hr a ha => ?_, fun hr => xo E' H' p' env' σ' c fs cls d rs' gd' ps sk ex (w2 hr)⟩
  · rw [ex.1, ps.Ec ec]
    exact hxm c r lk
  obtain ⟨hn, hst, w⟩ := w1 hr
  have hl := stok_lt hst
  have ecl := ex.1
  generalize E'.ca.f c = DD at ecl
  subst ecl
  let E2 : RE := { E' with ca := { E'.ca with x := some (a, .ref DD, d) } }
  have rs2 : Rs E2 H' env' σ' p' := rs'.reca hn rfl rfl rfl rfl
  obtain ⟨q, sub, rs3⟩ := rs2.forget i
  have rs4 : Rs E2 H' (env'.set i (.exn c fs)) (σ'.set i (some (.ref a))) q := by
    have z := Rs.putx (E := E2) (i := i) (c := c) (fs := fs) (a := a) (cls := .ref DD) (d := d) rfl (ex.any rfl) rs3 (by rw [List.getElem?_set_self hl])
    rw [List.set_set] at z
    exact z
  have gd2 : Gd E2 H' p' := ⟨gd'.nd, gd'.av, gd'.dm, gd'.mt⟩
  have back : ∀ E4 H4 p4 env4 σ4, Rs E4 H4 env4 σ4 p4 → ∀ g, Gd E4 H4 (g ++ p4) → Pst false E2 H' q (env'.set i (.exn c fs)) E4 H4 p4 env4 g → Sik (env'.set i (.exn c fs)) (σ'.set i (some (.ref a))) σ4 → noExn (env4.set i .und) = true →
      ∃ E5 p5, E5.K = E4.K ∧ E5.ca.f = E4.ca.f ∧ E5.gf = E4.gf ∧ E5.gv = E4.gv ∧ Rs E5 H4 (env4.set i .und) (σ4.set i none) p5 ∧ Gd E5 H4 (g ++ p5) ∧ Pst false E H p env E5 H4 p5 (env4.set i .und) g ∧ Sik env σ (σ4.set i none) := by
    intro E4 H4 p4 env4 σ4 rs4 g gd4 ps4 sk4 hn4
    let E5 : RE := { E4 with ca := E'.ca }
    have ef : E5.ca.f = E4.ca.f := by rw [ps4.fr.ca]
    obtain ⟨p5, sub5, rs5⟩ := rs4.forget i
    have l4 : i < env4.length := by rw [ps4.io.1]; simpa using hl
    have rs6 := rs5.any none (i := i) (by rw [List.getElem?_set_self l4])
    have gd5 : Gd E4 H4 (g ++ p5) := gd4.sub (List.Sublist.append (.refl _) sub5)
    refine ⟨E5, p5, rfl, ef, rfl, rfl, rs6.reca hn4 rfl ef rfl rfl, ⟨gd5.nd, gd5.av, gd5.dm, gd5.mt⟩, ⟨?_, (fun z => nomatch z), ?_⟩, fun j u e => ?_⟩
    · have f4 : Frm E' E5 q (g ++ p4) H' H4 := ⟨ps4.fr.K, rfl, ps4.fr.gv, ps4.fr.keep, ps4.fr.new, ps4.fr.gf, ps4.fr.gfn, ps4.fr.dom⟩
      have f1 : Frm E E' p p' H H' := ps.fr.sub (fun _ z => z) fun _ z => List.mem_append_right _ z
      exact f1.trans (f4.sub (fun x z => sub.subset z) fun x z => (List.mem_append.mp z).elim (fun z => List.mem_append_left _ z) fun z => List.mem_append_right _ (sub5.subset z))
    · refine ⟨by rw [List.length_set, ps4.io.1, List.length_set, ps.io.1], fun j u e => ?_⟩
      obtain ⟨u1, e1⟩ := ps.io.2 j u e
      have hij : i ≠ j := fun z => by
        subst z
        unfold stok at hst
        rw [e1] at hst
        cases hst
      obtain ⟨u2, e2⟩ := ps4.io.2 j u1 (by rw [List.getElem?_set_ne hij]; exact e1)
      exact ⟨u2, by rw [List.getElem?_set_ne hij]; exact e2⟩
    · obtain ⟨u1, e1⟩ := ps.io.2 j u e
      have hij : i ≠ j := fun z => by
        subst z
        unfold stok at hst
        rw [e1] at hst
        cases hst
      have z := sk4 j u1 (by rw [List.getElem?_set_ne hij]; exact e1)
      rw [List.getElem?_set_ne hij] at z
      rw [List.getElem?_set_ne hij, z]
      exact sk j u e
  refine hh a DD d E2 H' (env'.set i (.exn c fs)) (σ'.set i (some (.ref a))) q _ _ (ps.EK eK) (by show ({ E'.ca with x := some (a, .ref DD, d) } : CA) = _; rw [ps.Ec ec]; rfl) rs4 (gd2.sub sub) w ⟨?_, ?_, ?_, ?_⟩ (fun _ _ _ _ _ _ _ _ _ _ _ _ _ _ z => z.elim)
  · intro E4 H4 p4 env4 σ4 rs4 gd4 ps4 sk4 w4
    obtain ⟨E5, p5, _, _, _, _, k1, k2, k3, k4⟩ := back E4 H4 p4 env4 σ4 rs4 [] gd4 ps4 sk4 w4.1
    exact en.nx E5 H4 p5 _ _ k1 k2 k3 k4 w4.2
  · intro E4 H4 p4 env4 σ4 t v g rs4 hr4 gd4 ps4 sk4 w4
    obtain ⟨E5, p5, j1, j2, j3, j4, k1, k2, k3, k4⟩ := back E4 H4 p4 env4 σ4 rs4 g gd4 ps4 sk4 w4.1
    exact en.rt E5 H4 p5 _ _ t v g k1 (hr4.reca j1 j2 j3 j4) k2 k3 k4 w4.2
  · intro E4 H4 p4 env4 σ4 rs4 gd4 ps4 sk4 w4
    obtain ⟨E5, p5, _, _, _, _, k1, k2, k3, k4⟩ := back E4 H4 p4 env4 σ4 rs4 [] gd4 ps4 sk4 w4.1
    exact en.bk E5 H4 p5 _ _ k1 k2 k3 k4 w4.2
  · intro E4 H4 p4 env4 σ4 rs4 gd4 ps4 sk4 w4
    obtain ⟨E5, p5, _, _, _, _, k1, k2, k3, k4⟩ := back E4 H4 p4 env4 σ4 rs4 [] gd4 ps4 sk4 w4.1
    exact en.ct E5 H4 p5 _ _ k1 k2 k3 k4 w4.2
theorem SimS.tr0 {th : TS} (hb : ∀ W', SimS R W' (tb W') wb) (hh : SimS R W0 th wh) (hxm : ∀ c b, xm.lookup (c, x) = some b → PySem.W.exmOne R.K (.ref (R.ca.f c)) cv = some b) :
    SimS R W (fun D σ H => tb (wOnly R.K cv (fun _ _ _ => th) W D) D σ H) (fun env C => wb env { C with ex := fun c fs e => ∃ r, xm.lookup (c, x) = some r ∧ (r = true → wh e { C with ex := fun _ _ _ => False }) ∧ (r = false → C.ex c fs e) }) := by
  intro E H env σ p C D eK ec rs gd w en xo
  refine hb _ E H env σ p _ D eK ec rs gd w ⟨en.nx, en.rt, en.bk, en.ct⟩ ?_
  intro E' H' p' env' σ' c fs cls d rs' gd' ps sk ex ⟨r, lk, w1, w2⟩
  refine ⟨r, ?_, fun hr a ha => ?_, fun hr => xo E' H' p' env' σ' c fs cls d rs' gd' ps sk ex (w2 hr)⟩
  · rw [ex.1, ps.Ec ec]
    exact hxm c r lk
  have z := en.nextS ps sk
  exact hh E' H' env' σ' p' _ D (ps.EK eK) (ps.Ec ec) rs' gd' (w1 hr) ⟨z.nx, z.rt, z.bk, z.ct⟩ (fun _ _ _ _ _ _ _ _ _ _ _ _ _ _ z => z.elim)
/-- the clauses, at what was raised -/
def SimH (R : RP) (W : WX) (wx : Ends → WX) (wh : Str → List (Str × T) → En → CT → Prop) : Prop :=
  ∀ (E : RE) (H : Hp) (env : En) (σ : L2.St) (p : List Addr) (C : CT) (D : Ends) (c : Str) (fs : List (Str × T)) (cls : Value) (d : Option Addr), E.K = R.K → E.ca = R.ca → Rs E H env σ p → Gd E H p → ExR E H c fs cls d → wh c fs env C →
    EndsOk E H p env σ C D → ExOkS W E H p env σ C.ex → wx D cls d σ H
theorem SimH.nil : SimH R W (fun _ => W) (fun c fs e C => C.ex c fs e) := fun E H env σ p C D c fs cls d eK ec rs gd ex w en xo => xo E H p env σ c fs cls d rs gd Pst.refl Sik.refl ex w
theorem SimH.as {wx : Ends → WX} {wr : Str → List (Str × T) → En → CT → Prop} (hh : ∀ a D d, SimS (R.at_ a (.ref D) d) W0 (ts a (.ref D) d) wh) (hxm : ∀ c b, xm.lookup (c, x) = some b → PySem.W.exmOne R.K (.ref (R.ca.f c)) cv = some b) (hr : SimH R W wx wr) :
    SimH R W (fun D cls d σ H => ∃ b, PySem.W.exmOne R.K cls cv = some b ∧ (b = true → ∀ a, H a = none → Cl.go ⟨cv, some i, ts⟩ D a cls d σ H) ∧ (b = false → wx D cls d σ H))
      (fun c fs e C => ∃ r, xm.lookup (c, x) = some r ∧ (r = true → noExn e = true ∧ stok e i = true ∧ wh (e.set i (.exn c fs)) (C.su i)) ∧ (r = false → wr c fs e C)) := by
  intro E' H' env' σ' p' C D c fs cls d eK ec rs' gd' ex ⟨r, lk, w1, w2⟩ en xo
  refine ⟨r, ?_, fun hr a ha => ?_, fun z => hr E' H' env' σ' p' C D c fs cls d eK ec rs' gd' ex (w2 z) en xo⟩
  · rw [ex.1, ec]
    exact hxm c r lk
  obtain ⟨hn, hst, w⟩ := w1 hr
  have ps : Pst false E' H' p' env' E' H' p' env' [] := Pst.refl
  have sk : Sik env' σ' σ' := Sik.refl
  have hl := stok_lt hst
  have ecl := ex.1
  generalize E'.ca.f c = DD at ecl
  subst ecl
  let E2 : RE := { E' with ca := { E'.ca with x := some (a, .ref DD, d) } }
  have rs2 : Rs E2 H' env' σ' p' := rs'.reca hn rfl rfl rfl rfl
  obtain ⟨q, sub, rs3⟩ := rs2.forget i
  have rs4 : Rs E2 H' (env'.set i (.exn c fs)) (σ'.set i (some (.ref a))) q := by
    have z := Rs.putx (E := E2) (i := i) (c := c) (fs := fs) (a := a) (cls := .ref DD) (d := d) rfl (ex.any rfl) rs3 (by rw [List.getElem?_set_self hl])
    rw [List.set_set] at z
    exact z
  have gd2 : Gd E2 H' p' := ⟨gd'.nd, gd'.av, gd'.dm, gd'.mt⟩
  have back : ∀ E4 H4 p4 env4 σ4, Rs E4 H4 env4 σ4 p4 → ∀ g, Gd E4 H4 (g ++ p4) → Pst false E2 H' q (env'.set i (.exn c fs)) E4 H4 p4 env4 g → Sik (env'.set i (.exn c fs)) (σ'.set i (some (.ref a))) σ4 → noExn (env4.set i .und) = true →
      ∃ E5 p5, E5.K = E4.K ∧ E5.ca.f = E4.ca.f ∧ E5.gf = E4.gf ∧ E5.gv = E4.gv ∧ Rs E5 H4 (env4.set i .und) (σ4.set i none) p5 ∧ Gd E5 H4 (g ++ p5) ∧ Pst false E' H' p' env' E5 H4 p5 (env4.set i .und) g ∧ Sik env' σ' (σ4.set i none) := by
    intro E4 H4 p4 env4 σ4 rs4 g gd4 ps4 sk4 hn4
    let E5 : RE := { E4 with ca := E'.ca }
    have ef : E5.ca.f = E4.ca.f := by rw [ps4.fr.ca]
    obtain ⟨p5, sub5, rs5⟩ := rs4.forget i
    have l4 : i < env4.length := by rw [ps4.io.1]; simpa using hl
    have rs6 := rs5.any none (i := i) (by rw [List.getElem?_set_self l4])
    have gd5 : Gd E4 H4 (g ++ p5) := gd4.sub (List.Sublist.append (.refl _) sub5)
    refine ⟨E5, p5, rfl, ef, rfl, rfl, rs6.reca hn4 rfl ef rfl rfl, ⟨gd5.nd, gd5.av, gd5.dm, gd5.mt⟩, ⟨?_, (fun z => nomatch z), ?_⟩, fun j u e => ?_⟩
    · have f4 : Frm E' E5 q (g ++ p4) H' H4 := ⟨ps4.fr.K, rfl, ps4.fr.gv, ps4.fr.keep, ps4.fr.new, ps4.fr.gf, ps4.fr.gfn, ps4.fr.dom⟩
      have f1 : Frm E' E' p' p' H' H' := ps.fr.sub (fun _ z => z) fun _ z => List.mem_append_right _ z
      exact f1.trans (f4.sub (fun x z => sub.subset z) fun x z => (List.mem_append.mp z).elim (fun z => List.mem_append_left _ z) fun z => List.mem_append_right _ (sub5.subset z))
    · refine ⟨by rw [List.length_set, ps4.io.1, List.length_set, ps.io.1], fun j u e => ?_⟩
      obtain ⟨u1, e1⟩ := ps.io.2 j u e
      have hij : i ≠ j := fun z => by
        subst z
        unfold stok at hst
        rw [e1] at hst
        cases hst
      obtain ⟨u2, e2⟩ := ps4.io.2 j u1 (by rw [List.getElem?_set_ne hij]; exact e1)
      exact ⟨u2, by rw [List.getElem?_set_ne hij]; exact e2⟩
    · obtain ⟨u1, e1⟩ := ps.io.2 j u e
      have hij : i ≠ j := fun z => by
        subst z
        unfold stok at hst
        rw [e1] at hst
        cases hst
      have z := sk4 j u1 (by rw [List.getElem?_set_ne hij]; exact e1)
      rw [List.getElem?_set_ne hij] at z
      rw [List.getElem?_set_ne hij, z]
  refine hh a DD d E2 H' (env'.set i (.exn c fs)) (σ'.set i (some (.ref a))) q _ _ (ps.EK eK) (by show ({ E'.ca with x := some (a, .ref DD, d) } : CA) = _; rw [ps.Ec ec]; rfl) rs4 (gd2.sub sub) w ⟨?_, ?_, ?_, ?_⟩ (fun _ _ _ _ _ _ _ _ _ _ _ _ _ _ z => z.elim)
  · intro E4 H4 p4 env4 σ4 rs4 gd4 ps4 sk4 w4
    obtain ⟨E5, p5, _, _, _, _, k1, k2, k3, k4⟩ := back E4 H4 p4 env4 σ4 rs4 [] gd4 ps4 sk4 w4.1
    exact en.nx E5 H4 p5 _ _ k1 k2 k3 k4 w4.2
  · intro E4 H4 p4 env4 σ4 t v g rs4 hr4 gd4 ps4 sk4 w4
    obtain ⟨E5, p5, j1, j2, j3, j4, k1, k2, k3, k4⟩ := back E4 H4 p4 env4 σ4 rs4 g gd4 ps4 sk4 w4.1
    exact en.rt E5 H4 p5 _ _ t v g k1 (hr4.reca j1 j2 j3 j4) k2 k3 k4 w4.2
  · intro E4 H4 p4 env4 σ4 rs4 gd4 ps4 sk4 w4
    obtain ⟨E5, p5, _, _, _, _, k1, k2, k3, k4⟩ := back E4 H4 p4 env4 σ4 rs4 [] gd4 ps4 sk4 w4.1
    exact en.bk E5 H4 p5 _ _ k1 k2 k3 k4 w4.2
  · intro E4 H4 p4 env4 σ4 rs4 gd4 ps4 sk4 w4
    obtain ⟨E5, p5, _, _, _, _, k1, k2, k3, k4⟩ := back E4 H4 p4 env4 σ4 rs4 [] gd4 ps4 sk4 w4.1
    exact en.ct E5 H4 p5 _ _ k1 k2 k3 k4 w4.2
theorem SimH.only {th : TS} {wx : Ends → WX} {wr : Str → List (Str × T) → En → CT → Prop} (hh : SimS R W0 th wh) (hxm : ∀ c b, xm.lookup (c, x) = some b → PySem.W.exmOne R.K (.ref (R.ca.f c)) cv = some b) (hr : SimH R W wx wr) :
    SimH R W (fun D cls d σ H => ∃ b, PySem.W.exmOne R.K cls cv = some b ∧ (b = true → ∀ a, H a = none → Cl.go ⟨cv, none, fun _ _ _ => th⟩ D a cls d σ H) ∧ (b = false → wx D cls d σ H))
      (fun c fs e C => ∃ r, xm.lookup (c, x) = some r ∧ (r = true → wh e (C.wX fun _ _ _ => False)) ∧ (r = false → wr c fs e C)) := by
  intro E H env σ p C D c fs cls d eK ec rs gd ex ⟨r, lk, w1, w2⟩ en xo
  refine ⟨r, ?_, fun z a ha => ?_, fun z => hr E H env σ p C D c fs cls d eK ec rs gd ex (w2 z) en xo⟩
  · rw [ex.1, ec]
    exact hxm c r lk
  · exact hh E H env σ p _ D eK ec rs gd (w1 z) ⟨en.nx, en.rt, en.bk, en.ct⟩ (fun _ _ _ _ _ _ _ _ _ _ _ _ _ _ z => z.elim)
theorem SimS.trs {wx : Ends → WX} {wc : Str → List (Str × T) → En → CT → Prop} (hb : ∀ W', SimS R W' (tb W') wb) (hh : SimH R W wx wc) : SimS R W (fun D σ H => tb (wx D) D σ H) (fun env C => wb env (C.wX fun c fs e => wc c fs e C)) := by
  intro E H env σ p C D eK ec rs gd w en xo
  exact hb _ E H env σ p _ D eK ec rs gd w ⟨en.nx, en.rt, en.bk, en.ct⟩ fun E' H' p' env' σ' c fs cls d rs' gd' ps sk ex wc => hh E' H' env' σ' p' C D c fs cls d (ps.EK eK) (ps.Ec ec) rs' gd' ex wc (en.nextS ps sk) (xo.nextS ps sk)
end
end OT
end
section
set_option Elab.async false
set_option linter.all false
set_option maxRecDepth 100000
set_option maxHeartbeats 2000000
namespace OT
open PySem PySem.Spec PyProof.Rows L2
/-! ### a name for a place, changed at once: x = p; x.m(e) -/
section
variable {R : RP} {W : WX} {ta : TA} {wr : En → XC → (List T → En → Prop) → Prop} {m : Mm}
theorem mmq_core {E1 : RE} {H1 : Hp} {env : En} {σ : L2.St} {p : List Addr} {i : Nat} {st : List Step} {x rt : T} {v v0 : V} {b : Bool} {f0 rest f fr : List Addr} {X : XC} {Qw : En → Prop} {Q : VK} (ha : SimA R W ta wr true (m == .extend)) (a1 : AtP E1 H1 env σ p i st x v b rt v0 f0 rest f fr)
    (rs1 : Rs E1 H1 env σ p) (gd1 : Gd E1 H1 p) (eK : E1.K = R.K) (ec : E1.ca = R.ca) (ho : isOwn x = true) (w1 : wr env X fun ts _ => mmT m x ts fun x' _ => Qw (env.set i (.has b (setS rt st x')))) (xo : ExOk W E1 H1 p env σ X)
    (q : ∀ E' H' p' env' y, Rs E' H' env' σ p' → Gd E' H' p' → Pst false E1 H1 p env E' H' p' env' [] → Qw env' → Q y H') : tyV R.K "list" v H1 ∧ ta σ H1 fun xs H2 => mmR m v xs H2 Q := by
  obtain ⟨hne, hty⟩ := own_ne a1.fc.2.1 ho
  refine ⟨hty _, ?_⟩
  refine ha E1 H1 env σ p X _ _ eK ec rs1 gd1 w1 (fun E2 H2 p2 e2 ts vs g rs2 r2 gd2 gg2 ps2 w2 => ?_) xo
  obtain ⟨ee, ep, s2⟩ := ps2.qf rfl
  subst ee ep
  have a2 := a1.stay s2
  have hl : i < e2.length := (List.getElem?_eq_some_iff.mp a1.e).1
  have pm : p2.Perm (f ++ (fr ++ rest)) := by
    refine a2.pm.trans ?_
    rw [← List.append_assoc]
    exact List.Perm.append_right _ a2.fc.1
  have gdf : Gd E2 H2 (f ++ (fr ++ rest)) := gd2.perm pm
  have pmg : (g ++ p2).Perm (f ++ g ++ (fr ++ rest)) := by
    refine (List.Perm.append_left g pm).trans ?_
    rw [← List.append_assoc]
    exact List.Perm.append_right _ List.perm_append_comm
  have gg : m ≠ .extend → Gd E2 H2 (f ++ g ++ (fr ++ rest)) := fun z => (gg2 (by cases m <;> first | rfl | exact absurd rfl z)).perm pmg
  refine mm_sim a2.fc.2.1 r2 gdf m gg w2 fun H' x' y w f' gy hx hy gd' fm _ wt => ?_
  generalize hG : gM m g = G at fm
  have hGG : Gd E2 H2 (f ++ G ++ (fr ++ rest)) := by
    subst hG
    cases m <;> first | exact gg (by decide) | simpa [gM] using gdf
  have hGs : ∀ x ∈ G, x ∈ gk (m == .extend) g := fun x z => by
    subst hG
    cases m <;> first | exact z | cases z
  obtain ⟨p', rs3, gd3, pm3⟩ := AtP.put hl a2.s a2.rs a2.fc hGG fm gd' hx hne
  refine q E2 H' p' _ w rs3 gd3.right ?_ wt
  have fr2 : Frm E1 E2 p2 (gk (m == .extend) g ++ p2) H1 H2 := ps2.fr
  have fr3 : Frm E2 E2 ((fr ++ rest) ++ (f ++ G)) ((fr ++ rest) ++ (f' ++ gy)) H2 H' := fm.beside
  have fr4 : Frm E2 E2 (gk (m == .extend) g ++ p2) (gy ++ p') H2 H' := fr3.sub (fun x z => by
    rcases List.mem_append.mp z with z | z
    · exact List.mem_append_right _ (pm.mem_iff.mpr (List.mem_append_right _ z))
    · rcases List.mem_append.mp z with z | z
      · exact List.mem_append_right _ (pm.mem_iff.mpr (List.mem_append_left _ z))
      · exact List.mem_append_left _ (hGs x z)) fun x z => by
      rcases List.mem_append.mp (pm3.mem_iff.mpr z) with z | z
      · exact List.mem_append_right _ z
      · exact List.mem_append_left _ z
  exact ⟨(fr2.trans fr4).sub (fun _ z => z) fun x z => List.mem_append_right _ z, (fun z => by cases z), Iok.same a1.e⟩
theorem SimS.als {tp : TE} {wp : En → XC → (Nat → List Step → T → Prop) → Prop} {i : Nat} (hp : SimP R W tp wp) (ha : SimA R W ta wr true (m == .extend)) :
    SimS R W (tSeq (tAsg tp (gName i)) (tDrop (tBM R.K "list" (mmR m) (tVar i) ta))) (fun env C => stok env i = true ∧ wp env C.ex fun j st x => i ≠ j ∧ isOwn x = true ∧ (match env[j]? with
      | some (.has b r) => wr (env.set i .und) C.ex fun ts _ => mmT m x ts fun x' _ => C.nx ((env.set i .und).set j (.has b (setS r st x')))
      | _ => False)) := by
  intro E H env σ p C D eK ec rs gd w en xo
  obtain ⟨hst, w⟩ := w
  refine hp E H env σ p _ _ _ eK ec rs gd w (fun E1 H1 j st x v b rt v0 f0 rest f fr rs1 gd1 ps1 a1 w1 => ?_) xo.at_
  obtain ⟨hij, ho, w1⟩ := w1
  rw [a1.e] at w1
  have hl : i < env.length := stok_lt hst
  show tDrop (tBM R.K "list" (mmR m) (tVar i) ta) D (σ.set i (some v)) H1
  have hls : i < σ.length := by rw [← rs1.len]; exact hl
  refine ⟨v, by rw [List.getElem?_set_self hls], ?_⟩
  have hund : (env.set i .und)[i]? = some .und := by rw [List.getElem?_set_self hl]
  obtain ⟨r', sub, rsf⟩ := a1.rs.forget i
  have ec2 : (env.set j .und).set i .und = (env.set i .und).set j .und := List.set_comm _ _ (Ne.symm hij)
  rw [ec2] at rsf
  have rsg := rsf.any (some v) (i := i) (by rw [List.getElem?_set_ne (Ne.symm hij)]; exact hund)
  have hj : j < (env.set i .und).length := by rw [List.length_set]; exact (List.getElem?_eq_some_iff.mp a1.e).1
  obtain ⟨q0, pm0, rs0⟩ := rsg.put (b := b) a1.r0 (i := j) (by rw [List.getElem?_set_self hj])
  have hsj : (σ.set i (some v))[j]? = some (some v0) := by rw [List.getElem?_set_ne hij]; exact a1.s
  rw [set_self hsj, List.set_set] at rs0
  have hej : (env.set i .und)[j]? = some (.has b rt) := by rw [List.getElem?_set_ne hij]; exact a1.e
  have hes : (env.set i .und).set j (.has b rt) = env.set i .und := by
    apply List.ext_getElem?
    intro n
    by_cases hn : j = n
    · subst hn
      rw [List.getElem?_set_self hj, hej]
    · rw [List.getElem?_set_ne hn]
  rw [hes] at rs0
  have gd0 : Gd E1 H1 q0 := by
    have z : Gd E1 H1 (f0 ++ r') := (gd1.perm a1.pm).sub (List.Sublist.append (.refl _) sub)
    exact z.perm pm0.symm
  have a2 : AtP E1 H1 (env.set i .und) (σ.set i (some v)) q0 j st x v b rt v0 f0 r' f fr := ⟨hej, a1.g, hsj, a1.r0, pm0, rsg, a1.fc⟩
  have psA : Pst false E H p env E1 H1 q0 (env.set i .und) [] := ⟨ps1.fr.sub (fun _ z => z) fun x z => List.mem_append_right _ (a1.pm.mem_iff.mpr ((List.mem_append.mp (pm0.mem_iff.mp (by simpa using z))).elim (fun z => List.mem_append_left _ z) fun z => List.mem_append_right _ (sub.subset z))), (fun z => nomatch z), stok_iok hst⟩
  have skA : Sik env σ (σ.set i (some v)) := Sik.set (stok_not hst)
  exact mmq_core ha a2 rs0 gd0 (ps1.EK eK) (ps1.Ec ec) ho w1 (xo.nextS psA skA).at_ fun E' H' p' env' y rs' gd' ps' w' => (en.nextS psA skA).nx E' H' p' env' _ rs' gd' ps' Sik.refl w'
end
end OT
end
section
set_option Elab.async false
set_option linter.all false
set_option maxRecDepth 100000
set_option maxHeartbeats 2000000
namespace OT
open PySem PySem.Spec PyProof.Rows L2
/-! ### x[i] = e -/
theorem wrote_at {E : RE} {H : Hp} {ts : List T} {v y : V} {t : T} {f0 g p : List Addr} {n : Nat} (r : Rep E H (.lst .own ts) v f0) (ry : Rep E H t y g) (gd : Gd E H (f0 ++ g ++ p)) (hn : n < ts.length) :
    ∃ a vs f', v = .ref a ∧ H a = some (.lst vs) ∧ vs.length = ts.length ∧ f0 ≠ [] ∧ Rep E (upd H a (.lst (vs.set n y))) (.lst .own (ts.set n t)) v f' ∧ Gd E (upd H a (.lst (vs.set n y))) (f' ++ p) ∧ Frm E E (f0 ++ g) f' H (upd H a (.lst (vs.set n y))) := by
  cases r with
  | @lst _ a _ vs g0 h1 h3 h5 h6 =>
    have h1 : H a = some (.lst vs) := h1
    have lv := Reps.length h5
    have av := gd.av a (by simp [hd])
    have gdl : Gd E H (a :: (g0 ++ g)) := by simpa [hd] using gd.left
    have nd := List.nodup_cons.mp gdl.nd
    have n0 : a ∉ g0 := fun z => nd.1 (List.mem_append_left _ z)
    have n1 : a ∉ g := fun z => nd.1 (List.mem_append_right _ z)
    obtain ⟨gy, rest, s, q⟩ := Reps.setv h5 (List.getElem?_eq_getElem hn)
    have kp : Kp E E H (upd H a (.lst (vs.set n y))) rest := ⟨rfl, rfl, fun _ z => z, fun _ z => z, fun b o e z => by
      rw [upd_ne fun w => ?_]
      · exact e
      · subst w
        rcases z with z | z | z | z
        · exact n0 (s.mem_iff.mpr (List.mem_append_right _ z))
        · exact av.1 z
        · exact av.2 z
        · rw [h1] at e; cases e; exact z trivial⟩
    obtain ⟨g2, s2, q2⟩ := q E _ t y g kp (ry.wrote (u := .lst (vs.set n y)) h1 trivial n1 av.1 av.2)
    refine ⟨a, vs, a :: g2, rfl, h1, lv.symm, by simp [hd], Rp.lst (f := .own) (show upd H a _ a = some (.lst (vs.set n y)) from upd_same) trivial q2 fun z => absurd rfl z, ?_, ?_⟩
    · have sub : (a :: (gy ++ (g ++ rest)) ++ p).Perm (([a] ++ g0) ++ g ++ p) := by
        refine List.Perm.append_right p ?_
        show (a :: (gy ++ (g ++ rest))).Perm (a :: (g0 ++ g))
        refine List.Perm.cons a ?_
        refine List.Perm.trans ?_ (List.Perm.append_right g s.symm)
        rw [List.append_assoc]
        exact List.Perm.append_left gy List.perm_append_comm
      have gd1 : Gd E H (a :: (gy ++ (g ++ rest)) ++ p) := gd.perm sub.symm
      have gd2 : Gd E H (a :: (g ++ rest) ++ p) := gd1.sub (List.Sublist.append (List.Sublist.cons_cons a (List.sublist_append_right _ _)) (.refl _))
      have gd3 : Gd E H ((a :: g2) ++ p) := gd2.perm (List.Perm.append_right p (List.Perm.cons a s2.symm))
      exact gd3.wrote trivial
    · refine Frm.wrote (by simp [hd]) fun x z => ?_
      rcases List.mem_cons.mp z with z | z
      · rw [z]; simp [hd]
      · rcases List.mem_append.mp (s2.mem_iff.mp z) with z | z
        · exact List.mem_append_right _ z
        · exact List.mem_append_left _ (List.mem_append_right _ (s.mem_iff.mpr (List.mem_append_right _ z)))
section
variable {R : RP} {W : WX} {te ti tp : TE} {wa wi : En → XC → (T → En → Prop) → Prop} {wp : En → XC → (Nat → List Step → T → Prop) → Prop} {qa : Bool}
theorem SimS.sub (ha : SimE R W te wa qa false) (hp : SimP R W tp wp) (hi : SimE R W ti wi true true) : SimS R W (tAsg te (gSub tp ti rSetL)) (fun env C => wa env C.ex fun t e1 => wp e1 C.ex fun j st x => isOwn x = true ∧ wi e1 C.ex fun z _ => (match x, z with
    | .lst _ ts, .int k => ∃ n, ixN ts.length k = some n ∧ n < ts.length ∧ (match e1[j]? with
      | some (.has b rt) => C.nx (e1.set j (.has b (setS rt st (.lst .own (ts.set n t)))))
      | _ => False)
    | _, _ => False)) := by
  intro E H env σ p C D eK ec rs gd w en xo
  refine ha E H env σ p _ _ _ eK ec rs gd w (fun E1 H1 p1 e1 t v g1 rs1 r1 gd1 gg1 ps1 w1 => ?_) xo.at_
  refine hp E1 H1 e1 σ p1 _ _ _ (ps1.EK eK) (ps1.Ec ec) rs1 gd1 w1 (fun E2 H2 j st x v' b rt v0 f0 rest fx fr rs2 gd2 ps2 a2 w2 => ?_) (xo.at_.next ps1)
  obtain ⟨ho, w2⟩ := w2
  refine hi E2 H2 e1 σ p1 _ _ _ (ps2.EK (ps1.EK eK)) (ps2.Ec (ps1.Ec ec)) rs2 gd2 w2 (fun E3 H3 p3 e3 z vz gz rs3 rz gd3 _ ps3 w3 => ?_) ((xo.at_.next ps1).next ps2)
  obtain ⟨ee, ep, s3⟩ := ps3.qf rfl
  subst ee ep
  have a3 := a2.stay s3
  have s2 := (ps2.qf rfl).2.2
  cases x <;> first | (cases ho; done) | skip
  rename_i fl ts
  cases fl <;> first | (cases ho; done) | skip
  cases z <;> first | exact w3.elim | skip
  obtain ⟨n, hn, hlt, w3⟩ := w3
  rw [a3.e] at w3
  cases rz
  have r1' : Rep E3 H3 t v g1 := (Rp.kp (Kp.of0 s2) r1 fun _ z => z).kp (Kp.of0 s3) fun _ z => z
  have pm : p3.Perm (fx ++ (fr ++ rest)) := by
    refine a3.pm.trans ?_
    rw [← List.append_assoc]
    exact List.Perm.append_right _ a3.fc.1
  have gg : Gd E3 H3 (g1 ++ p3) := quiet_gd (quiet_gd (gg1 rfl) s2 gd2) s3 gd3
  have gd4 : Gd E3 H3 ((fx ++ g1) ++ (fr ++ rest)) := by
    refine gg.perm ?_
    refine (List.Perm.append_left g1 pm).trans ?_
    rw [← List.append_assoc]
    exact List.Perm.append_right _ List.perm_append_comm
  obtain ⟨a, vs, f', k1, k2, k4, k5, k6, k7, k8⟩ := wrote_at (p := fr ++ rest) (n := n) a3.fc.2.1 r1' gd4 hlt
  have hl : j < e3.length := (List.getElem?_eq_some_iff.mp a3.e).1
  obtain ⟨p', rs4, gd5, pm4⟩ := AtP.put (gy := []) hl a3.s a3.rs a3.fc gd4 (by simpa using k8) (by simpa using k7) k6 k5
  refine ⟨a, vs, _, n, k1, rfl, k2, by rw [k4]; exact hn, ?_⟩
  refine en.nx E3 _ p' _ σ rs4 (by simpa using gd5) ⟨?_, (fun z => nomatch z), ps1.io.trans (Iok.same a3.e)⟩ Sik.refl w3
  have f1 : Frm E E1 p (g1 ++ p3) H H1 := ps1.fr
  have f2 : Frm E1 E3 (g1 ++ p3) (g1 ++ p3) H1 H3 := by
    have z2 := s2.beside (f := g1 ++ p3)
    have z3 := s3.beside (f := g1 ++ p3)
    have z2 : Frm E1 E2 (g1 ++ p3) (g1 ++ p3) H1 H2 := by simpa using z2
    rw [List.append_nil] at z3
    exact z2.trans (z3.sub (fun _ z => z) fun _ z => List.mem_append_left _ z)
  have f3 : Frm E3 E3 ((fr ++ rest) ++ (fx ++ g1)) ((fr ++ rest) ++ f') H3 _ := k8.beside
  refine ((f1.trans f2).trans (f3.sub (fun x z => ?_) fun x z => ?_))
  · have hx : ∀ x, x ∈ fx ++ (fr ++ rest) → x ∈ g1 ++ p3 := fun x z => List.mem_append_right _ (pm.mem_iff.mpr z)
    rcases List.mem_append.mp z with z | z
    · exact hx x (List.mem_append_right _ z)
    · rcases List.mem_append.mp z with z | z
      · exact hx x (List.mem_append_left _ z)
      · exact List.mem_append_left _ z
  · have z := pm4.mem_iff.mpr z
    simp only [List.append_nil] at z
    rcases List.mem_append.mp z with z | z
    · exact List.mem_append_right _ z
    · exact List.mem_append_left _ z
end
end OT
end
section
set_option Elab.async false
set_option linter.all false
set_option maxRecDepth 100000
set_option maxHeartbeats 4000000
namespace OT
open PySem PySem.Spec PyProof.Rows L2
def notComp : Expr → Bool
  | .ListComp .. => false
  | .SetComp .. => false
  | .DictComp .. => false
  | _ => true
def notTup : Expr → Bool
  | .Tuple .. => false
  | _ => true
def notTag : Tg → Bool
  | .nm _ => true
  | _ => false
/-- in an except suite -/
def SP.su (S : SP) : SP := { S with cal := false, sx := true }
def SP.su0 (S : SP) : SP := { S with cal := false }
mutual
def chkSt (S : SP) (N : List Str) (sc : Scope) : S1 → Stmt → Bool
  | .asg g e, .Assign [tg] x _ => notComp x && (notTag g || (notTup x && S.cal)) && chkG N sc true g tg && chkE S N sc e x
  | .lc i (.comp g it c e own), .Assign [.Name y py] (.ListComp elt [⟨tg, iter, ifs, 0⟩] scope pos) _ => chkE S N sc (.comp g it c e own) (.ListComp elt [⟨tg, iter, ifs, 0⟩] scope pos) && decide (N[i]? = some y) && decide (sc.names.lookup y = some .local) &&
      (py.line == pos.line) && !(scope.names.any fun (n, k) => n == y && (k == .local || k == .cell)) && (match sc.kind with | .function => true | _ => false)
  | .put p f e, .Assign [.Attribute o g _] x _ => decide (f = g) && noSup o && qtP p && chkP S N sc p o && chkE S N sc e x
  | .sub p i e, .Assign [.Subscript o y _] x _ => noSlice y && qtP p && qt i && notComp x && chkP S N sc p o && chkE S N sc i y && chkE S N sc e x
  | .aug i o e, .AugAssign (.Name y py) op x _ => decide (o = op) && qt e && chkS N sc true i (.Name y py) && chkE S N sc e x
  | .augP p f o e, .AugAssign (.Attribute t g _) op x _ => decide (f = g) && decide (o = op) && noSup t && qtP p && qt e && chkP S N sc p t && chkE S N sc e x
  | .ex e, .Expr x _ => notComp x && chkE S N sc e x
  | .ite c a b, .If x p q _ => chkT S N sc c x && chkSl S N sc a p && chkSl S N sc b q
  | .whl c b, .While x p [] _ => chkT S N sc c x && chkSl S N sc b p
  | .for_ g it b, .For tg iter p [] _ => S.cal && notSet iter && chkG N sc true g tg && chkI S N sc it iter tg && chkSl S N sc b p
  | .ret e, .Return (some x) _ => chkE S N sc e x
  | .retN, .Return none _ => true
  | .rz c es, .Raise (some (.Call (.Name y _) (e :: r) [] _)) none _ => S.cal && decide (c = y) && glo sc y && plain y && qts es && S.rzl.contains c && chkEs S N sc es (e :: r)
  | .tr b x i h, .Try p [.ExceptHandler (some (.Name y _)) (some n) (h0 :: hs) _] [] [] _ => S.cal && !S.sx && decide (x = y) && glo sc y && plain y && S.xh.contains y && decide (N[i]? = some n) && decide (sc.names.lookup n = some .local) && chkSl S N sc b p && chkSl S.su N sc h (h0 :: hs)
  | .tr0 b x h, .Try p [.ExceptHandler (some (.Name y _)) none (h0 :: hs) _] [] [] _ => S.cal && !S.sx && decide (x = y) && glo sc y && plain y && S.xh.contains y && chkSl S N sc b p && chkSl S.su0 N sc h (h0 :: hs)
  | .trs b hs, .Try p (h0 :: r) [] [] _ => S.cal && !S.sx && chkSl S N sc b p && chkHs S N sc hs (h0 :: r)
  | .pas, .Pass _ => true
  | .pas, .Expr (.Constant (.str _) _ _) _ => true
  | .brk, .Break _ => true
  | .cont, .Continue _ => true
  | _, _ => false
def chkSl (S : SP) (N : List Str) (sc : Scope) : Ss → List Stmt → Bool
  | .nil, [] => true
  | .cons s r, x :: xs => chkSt S N sc s x && chkSl S N sc r xs
  | .als i p m es r, x1 :: x2 :: xs => (match x1, x2 with
    | .Assign [.Name y py] px _, .Expr (.Call (.Attribute o n ap) as [] cp) _ => notComp px && chkS N sc true i (.Name y py) && qtP p && chkP S N sc p px && noSup o && chkN N sc i o && decide (n = m.nm) && (ap.endLine == cp.line) && qts es && chkEs S N sc es as && (match es with
      | .nil => true
      | .cons _ .nil => true
      | _ => false)
    | _, _ => false) && chkSl S N sc r xs
  | _, _ => false
def chkHs (S : SP) (N : List Str) (sc : Scope) : Hs → List ExceptHandler → Bool
  | .nil, [] => true
  | .cons x (some i) h r, .ExceptHandler (some (.Name y _)) (some n) (b :: su) _ :: q => decide (x = y) && glo sc y && plain y && S.xh.contains y && decide (N[i]? = some n) && decide (sc.names.lookup n = some .local) && chkSl S.su N sc h (b :: su) && chkHs S N sc r q
  | .cons x none h r, .ExceptHandler (some (.Name y _)) none (b :: su) _ :: q => decide (x = y) && glo sc y && plain y && S.xh.contains y && chkSl S.su0 N sc h (b :: su) && chkHs S N sc r q
  | _, _ => false
end
structure EOkS (R : RP) (S : SP) (N : List Str) (Tb : Sig) : Prop extends EOk R S N Tb where
  xm : ∀ x, S.xh.contains x = true → ∃ cv, (R.mg x = some cv ∨ (R.mg x = none ∧ bootBuiltins x = some cv)) ∧ ∀ c b, Tb.xm.lookup (c, x) = some b → PySem.W.exmOne R.K (.ref (R.ca.f c)) cv = some b
structure SOk (R : RP) (S : SP) (N : List Str) (sc : Scope) (W : WX) (X : Cx) : Prop extends XOk R S N sc W X where
  pass : PassesOwn (model X.prog X.w) X.A X.env X.xe
  stk : X.stack = X.env :: X.outer
  frm : X.env.frame = some X.env.locals
  fn : ∀ x, X.fn x = true
section
variable {N : List Str} {Tb : Sig}
theorem EOkS.su {R : RP} {S : SP} (eo : EOkS R S N Tb) (a : Addr) (cls : Value) (d : Option Addr) : EOkS (R.at_ a cls d) S.su N Tb :=
  { nd := eo.nd, gl := eo.gl, fr := eo.fr, sg := eo.sg, at_ := eo.at_, xf := eo.xf, xc := eo.xc, xm := eo.xm, rz := eo.rz, r0 := eo.r0 }
theorem EOkS.su0 {R : RP} {S : SP} (eo : EOkS R S N Tb) : EOkS R S.su0 N Tb :=
  { nd := eo.nd, gl := eo.gl, fr := eo.fr, sg := eo.sg, at_ := eo.at_, xf := eo.xf, xc := eo.xc, xm := eo.xm, rz := eo.rz, r0 := eo.r0 }
theorem SOk.tr {R : RP} {S : SP} {sc : Scope} {W W' : WX} {X : Cx} (ok : SOk R S N sc W X) (hs : S.sx = false) {pn : List (Addr × Obj)} {xe : Value → Shared → Prop} (tk : Takes (X.tr pn xe) W') (hp : PassesOwn (model X.prog X.w) X.A X.env xe) : SOk R S N sc W' (X.tr pn xe) :=
  { P := ok.P, w := ok.w, K := ok.K, mg := ok.mg, base := ok.base, N := ok.N, sc := ok.sc, un := ok.un, tk := tk, calm := ok.calm, room := ok.room, ex := (fun z => by rw [hs] at z; cases z), pass := hp, stk := ok.stk, frm := ok.frm, fn := ok.fn }
theorem mark_units {A : Around} {v : Option Value} : (A.mark v).units = A.units := rfl
theorem SOk.su {R : RP} {S : SP} {sc : Scope} {W : WX} {X : Cx} (ok : SOk R S N sc W X) {a D : Addr} {d : Option Addr} {oe : Obj} {pn : List (Addr × Obj)} (hz : Zc (.ref D) d oe) (hf : ∃ vs, oe.data = .fields vs) : SOk (R.at_ a (.ref D) d) S.su N sc W0 (L2.Cx.suite X a ((a, oe) :: pn)) :=
  { P := ok.P, w := ok.w, K := ok.K, mg := ok.mg, base := ok.base, N := ok.N, sc := ok.sc, un := ok.un, tk := takes_none5, calm := (fun z => nomatch z), room := (fun z => nomatch z), ex := (fun _ => ⟨a, D, d, X, oe, pn, rfl, rfl, hz, hf⟩), pass := PassesOwn.never, stk := ok.stk, frm := ok.frm, fn := ok.fn }
theorem SOk.su0 {R : RP} {S : SP} {sc : Scope} {W : WX} {X : Cx} (ok : SOk R S N sc W X) (hs : S.sx = false) {a : Addr} {pn : List (Addr × Obj)} : SOk R S.su0 N sc W0 (L2.Cx.suite X a pn) :=
  { P := ok.P, w := ok.w, K := ok.K, mg := ok.mg, base := ok.base, N := ok.N, sc := ok.sc, un := ok.un, tk := takes_none5, calm := (fun z => nomatch z), room := (fun z => nomatch z), ex := (fun z => by rw [show S.su0.sx = S.sx from rfl, hs] at z; cases z), pass := PassesOwn.never, stk := ok.stk, frm := ok.frm, fn := ok.fn }
theorem sw_false {e : Expr} {t : Option Expr} {l : Nat} {env : Env} (h : notComp e = true) : swapsWith e t l env = pure false := by
  cases e <;> first | rfl | cases h
theorem sw_attr {e o : Expr} {f : Str} {p : Pos} {l : Nat} {env : Env} : swapsWith e (some (.Attribute o f p)) l env = pure false := by
  cases e <;> rfl
theorem sw_none {tg e : Expr} {env : Env} (h : notTup e = true) : swappedStores [tg] e env = pure none := by
  cases e <;> first | cases h; done | (cases tg <;> rfl)
theorem sw_name {x : Str} {p : Pos} {e : Expr} {env : Env} : swappedStores [.Name x p] e env = pure none := by
  cases e <;> rfl
theorem Names_of {R : RP} {S : SP} {sc : Scope} {W : WX} {X : Cx} (ok : SOk R S N sc W X) {x : Str} {cv : Value} (h1 : glo sc x = true) (h2 : plain x = true) (h3 : R.mg x = some cv ∨ (R.mg x = none ∧ bootBuiltins x = some cv)) : L2.Names X x cv := by
  obtain ⟨p1, p2, p3⟩ := plain_of h2
  refine ⟨glo_of ok.sc h1, p1, ?_⟩
  rw [ok.mg]
  exact h3.imp id fun z => ⟨z.1, z.2, p3⟩
theorem G_each {tg : Expr} {g : Tg} {sc : Scope} {env : Env} (h : chkG N sc true g tg = true) : (assignEach [tg] env).map (·.2) = [assign tg env] := by
  cases g with
  | nm i => cases tg <;> first | exact nope h | (first | rfl | simp [assignEach])
  | tp is => cases tg <;> first | exact nope h | (first | rfl | simp [assignEach])
mutual
theorem soundSt : ∀ (s : S1) {R : RP} {S : SP} (eo : EOkS R S N Tb) {sc : Scope} {W : WX} {x : Stmt}, chkSt S N sc s x = true → ∃ ts, (∀ X, SOk R S N sc W X → PS X x ts) ∧ SimS R W ts (wpS Tb s)
  | .asg g e, R, S, eo, sc, W, x, h => by
    cases x <;> first | exact nope h | skip
    rename_i tgs v pos
    rcases tgs with _ | ⟨tg, _ | ⟨tg2, tgs⟩⟩ <;> first | exact nope h | skip
    simp only [chkSt, Bool.and_eq_true, Bool.or_eq_true] at h
    obtain ⟨⟨⟨h1, h2⟩, h3⟩, h4⟩ := h
    obtain ⟨te, p, q⟩ := soundE eo.toEOk e (W := W) h4
    refine ⟨tAsg te (gT R.K g), fun X ok => ?_, SimS.asg (q false) SimG.all⟩
    rw [← ok.K]
    have pg : PG X tg (gT X.K g) := by
      rcases h2 with z | z
      · cases g with
        | nm i => exact sound_S (dl := true) ok.N eo.nd ok.sc (fun _ x _ => ok.fn x) h3
        | tp is => cases z
      · exact sound_G (dl := true) ok.N eo.nd ok.sc (ok.calm z.2) (fun _ x _ => ok.fn x) h3
    refine ps_asg (p X ok.toXOk) pg (sw_false h1) ?_ (G_each h3)
    rcases h2 with z | z
    · cases g with
      | nm i => cases tg <;> first | exact nope h3 | exact sw_name
      | tp is => cases z
    · exact sw_none z.1
  | .lc i e0, R, S, eo, sc, W, x, h => by
    cases e0 <;> first | (cases x <;> exact nope h) | skip
    rename_i g it c e own
    cases x <;> first | exact nope h | skip
    rename_i tgs v spos
    rcases tgs with _ | ⟨tg, _ | ⟨tg2, tgs⟩⟩ <;> first | exact nope h | skip
    all_goals (cases tg <;> cases v <;> first | exact nope h | skip)
    rename_i y py elt gens scope pos
    rcases gens with _ | ⟨⟨tg, iter, ifs, as⟩, _ | ⟨g2, gens⟩⟩ <;> first | exact nope h | skip
    all_goals (rcases as with (_ | an) | an <;> first | exact nope h | skip)
    have h : (chkE S N sc (.comp g it c e own) (.ListComp elt [⟨tg, iter, ifs, 0⟩] scope pos) && decide (N[i]? = some y) && decide (sc.names.lookup y = some .local) &&
      (py.line == pos.line) && !(scope.names.any fun (n, k) => n == y && (k == .local || k == .cell)) && (match sc.kind with | .function => true | _ => false)) = true := h
    simp only [Bool.and_eq_true, decide_eq_true_eq, Bool.not_eq_true'] at h
    obtain ⟨⟨⟨⟨⟨h, j1⟩, j2⟩, j3⟩, j4⟩, j5⟩ := h
    have h : (S.cal && !S.sx && notSet iter && blkC N sc scope own && chkI S N sc it iter tg && chkG N (relS scope sc) false g tg && chkCo S N (relS scope sc) c ifs && chkE S N (relS scope sc) e elt &&
      (match (generalizing := false) g with | .nm i => own.any fun q => q.2 == i | .tp is => is.all fun i => own.any fun q => q.2 == i) && qtI it && qtCo c && qt e) = true := h
    simp only [Bool.and_eq_true, Bool.not_eq_true'] at h
    obtain ⟨⟨⟨⟨⟨⟨⟨⟨⟨⟨⟨h0, h1⟩, h2⟩, h3⟩, h4⟩, h5⟩, h6⟩, h7⟩, h8⟩, h9⟩, h10⟩, h11⟩ := h
    obtain ⟨wi, pi, qi⟩ := soundI eo.toEOk it (W := W) h4
    obtain ⟨tt, pt, qt'⟩ := soundCo eo.toEOk c h6 h10
    obtain ⟨te, pe, qe⟩ := soundE eo.toEOk e (W := W0) h7
    have qe' := qe false
    rw [h11] at qe'
    refine ⟨tAsg (tLc wi (gT R.K g) tt te (own.map (·.2))) (gName i), fun X ok => ?_, SimS.asg (Sim.comp qi qt' qe' fun i hi => ?_) SimG.nm⟩
    · rw [← ok.K]
      have ok' := ok.toXOk
      have hk : X.env.scope.kind = .function := by
        rw [ok.sc]
        cases z : sc.kind <;> rw [z] at j5 <;> first | rfl | cases j5
      refine ps_setLc (ok.calm h0) (by rw [ok.N]; exact eo.nd) (by rw [ok.N]; exact j1) (by rw [ok.sc]; exact j2) (sw_true hk (by rw [ok.sc]; exact j2) j3 j4) (pi X ok') (by rw [ok.N, ok.sc]; exact blkOk_by h3) (fun s H C cl fp => ?_)
        (fun s H C cl fp => pt _ (ok'.blk h0 h1 s H scope C cl fp)) (fun s H C cl fp => pe _ (ok'.blk h0 h1 s H scope C cl fp)) (fun x => ?_)
      · have okb := ok'.blk h0 h1 s H scope C cl fp
        exact sound_G (dl := false) (X := L2.Cx.blk X s H scope (compEnvC scope cl C X.env) fp) okb.N eo.nd okb.sc (ok.calm h0) (fun z => nomatch z) h5
      · cases iter <;> first | rfl | exact nope h2
    · cases g with
      | nm j =>
        have e : i = j := by simpa [Tg.ixs] using hi
        subst e
        obtain ⟨q, hq, e⟩ := List.any_eq_true.mp h8
        exact List.mem_map.mpr ⟨q, hq, eq_of_beq e⟩
      | tp is =>
        have z := List.all_eq_true.mp h8 i hi
        obtain ⟨q, hq, e⟩ := List.any_eq_true.mp z
        exact List.mem_map.mpr ⟨q, hq, eq_of_beq e⟩
  | .par i j a b, R, S, eo, sc, W, x, h => by
    cases x <;> exact nope h
  | .put p f e, R, S, eo, sc, W, x, h => by
    cases x <;> first | exact nope h | skip
    rename_i tgs v pos
    rcases tgs with _ | ⟨tg, _ | ⟨tg2, tgs⟩⟩ <;> first | exact nope h | skip
    all_goals (cases tg <;> first | exact nope h | skip)
    simp only [chkSt, Bool.and_eq_true, decide_eq_true_eq] at h
    obtain ⟨⟨⟨⟨h1, h2⟩, h3⟩, h4⟩, h5⟩ := h
    subst h1
    obtain ⟨tp, pp, qp⟩ := soundP eo.toEOk p (W := W) h4
    obtain ⟨te, pe, qe⟩ := soundE eo.toEOk e (W := W) h5
    exact ⟨_, fun X ok => by rw [← ok.K]; exact ps_fld (pp X ok.toXOk) (pe X ok.toXOk) sw_attr, SimS.put eo.at_ (qe false) qp⟩
  | .sub p i e, R, S, eo, sc, W, x, h => by
    cases x <;> first | exact nope h | skip
    rename_i tgs v pos
    rcases tgs with _ | ⟨tg, _ | ⟨tg2, tgs⟩⟩ <;> first | exact nope h | skip
    all_goals (cases tg <;> first | exact nope h | skip)
    rename_i o y tpos
    simp only [chkSt, Bool.and_eq_true] at h
    obtain ⟨⟨⟨⟨⟨⟨h1, h2⟩, h3⟩, h4⟩, h5⟩, h6⟩, h7⟩ := h
    obtain ⟨tp, pp, qp⟩ := soundP eo.toEOk p (W := W) h5
    obtain ⟨ti, pi, qi⟩ := soundE eo.toEOk i (W := W) h6
    obtain ⟨te, pe, qe⟩ := soundE eo.toEOk e (W := W) h7
    have qi' := qi true
    rw [h3] at qi'
    refine ⟨tAsg te (gSub tp ti rSetL), fun X ok => ?_, SimS.sub (qe false) qp qi'⟩
    refine ps_asg (pe X ok.toXOk) (pg_sub (pp X ok.toXOk) (pi X ok.toXOk) set_list ?_) (show swapsWith v (some (.Subscript o y tpos)) pos.line X.env = pure false from sw_false h4) ?_ ?_
    · intro v
      cases y <;> first | exact nope h1 | rfl
    · cases v <;> rfl
    · first | rfl | simp [assignEach]
  | .aug i o e, R, S, eo, sc, W, x, h => by
    cases x <;> first | exact nope h | skip
    rename_i tg op v pos
    cases tg <;> first | exact nope h | skip
    rename_i y py
    obtain ⟨h, h4⟩ := Bool.and_eq_true_iff.mp (show (decide (o = op) && qt e && chkS N sc true i (.Name y py) && chkE S N sc e v) = true from h)
    obtain ⟨h, h3⟩ := Bool.and_eq_true_iff.mp h
    obtain ⟨h1, h2⟩ := Bool.and_eq_true_iff.mp h
    have h1 := of_decide_eq_true h1
    subst h1
    obtain ⟨te, pe, qe⟩ := soundE eo.toEOk e (W := W) h4
    have qe' := qe true
    rw [h2] at qe'
    refine ⟨tAug i te (ipR o), fun X ok => ?_, SimS.aug qe'⟩
    simp only [chkS, Bool.and_eq_true, decide_eq_true_eq, Bool.or_eq_true, Bool.true_and] at h3
    obtain ⟨⟨k1, k2⟩, k3⟩ := h3
    exact ps_aug (by rw [ok.N]; exact eo.nd) (by rw [ok.N]; exact k1) (by rw [ok.sc]; exact k2) (pe X ok.toXOk) (ip_all o) (.inl (ok.fn _))
  | .augP p f o e, R, S, eo, sc, W, x, h => by
    cases x <;> first | exact nope h | skip
    rename_i tg op v pos
    cases tg <;> first | exact nope h | skip
    simp only [chkSt, Bool.and_eq_true, decide_eq_true_eq] at h
    obtain ⟨⟨⟨⟨⟨⟨h1, h2⟩, h3⟩, h4⟩, h5⟩, h6⟩, h7⟩ := h
    subst h1 h2
    obtain ⟨tp, pp, qp⟩ := soundP eo.toEOk p (W := W) h6
    obtain ⟨te, pe, qe⟩ := soundE eo.toEOk e (W := W) h7
    have qe' := qe true
    rw [h5] at qe'
    exact ⟨_, fun X ok => by rw [← ok.K]; exact ps_fldaug (pp X ok.toXOk) (pe X ok.toXOk) (ip_all o), SimS.augP eo.at_ qp qe'⟩
  | .ex e, R, S, eo, sc, W, x, h => by
    cases x <;> first | exact nope h | skip
    simp only [chkSt, Bool.and_eq_true] at h
    obtain ⟨h1, h2⟩ := h
    obtain ⟨te, pe, qe⟩ := soundE eo.toEOk e (W := W) h2
    exact ⟨tDrop te, fun X ok => ps_expr (pe X ok.toXOk) (sw_false h1), SimS.ex (qe true)⟩
  | .ite c a b, R, S, eo, sc, W, x, h => by
    cases x <;> first | exact nope h | skip
    simp only [chkSt, Bool.and_eq_true] at h
    obtain ⟨⟨h1, h2⟩, h3⟩ := h
    obtain ⟨tc, pc, qc⟩ := soundT eo.toEOk c (W := W) h1
    obtain ⟨ta, pa, qa⟩ := soundSl a eo (W := W) h2
    obtain ⟨tb, pb, qb⟩ := soundSl b eo (W := W) h3
    exact ⟨tIfS tc ta tb, fun X ok => ps_if (pc X ok.toXOk).1 (pa X ok) (pb X ok), SimS.ite qc qa qb⟩
  | .whl c b, R, S, eo, sc, W, x, h => by
    cases x <;> first | exact nope h | skip
    rename_i t p orelse pos
    cases orelse <;> first | exact nope h | skip
    simp only [chkSt, Bool.and_eq_true] at h
    obtain ⟨h1, h2⟩ := h
    obtain ⟨tc, pc, qc⟩ := soundT eo.toEOk c (W := W) h1
    obtain ⟨tb, pb, qb⟩ := soundSl b eo (W := W) h2
    exact ⟨tWhile tc tb, fun X ok => ps_while ok.pass (pc X ok.toXOk).1 (pb X ok), SimS.whl qc qb⟩
  | .for_ g it b, R, S, eo, sc, W, x, h => by
    cases x <;> first | exact nope h | skip
    rename_i tg iter p orelse pos
    cases orelse <;> first | exact nope h | skip
    simp only [chkSt, Bool.and_eq_true] at h
    obtain ⟨⟨⟨⟨h0, h1⟩, h2⟩, h3⟩, h4⟩ := h
    obtain ⟨wi, pi, qi⟩ := soundI eo.toEOk it (W := W) h3
    obtain ⟨tb, pb, qb⟩ := soundSl b eo (W := W) h4
    refine ⟨tFor wi (gT R.K g) tb, fun X ok => ?_, SimS.for_ qi SimG.all qb⟩
    rw [← ok.K]
    refine ps_for ok.pass (ok.calm h0) (pi X ok.toXOk) (sound_G (dl := true) ok.N eo.nd ok.sc (ok.calm h0) (fun _ x _ => ok.fn x) h2) (pb X ok) fun x => ?_
    cases iter <;> first | rfl | exact nope h1
  | .ret e, R, S, eo, sc, W, x, h => by
    cases x <;> first | exact nope h | skip
    rename_i o pos
    cases o <;> first | exact nope h | skip
    rename_i v
    obtain ⟨te, pe, qe⟩ := soundE eo.toEOk e (W := W) (x := v) h
    exact ⟨tRet te, fun X ok => ps_ret (pe X ok.toXOk), SimS.ret (qe false)⟩
  | .retN, R, S, eo, sc, W, x, h => by
    cases x <;> first | exact nope h | skip
    rename_i o pos
    cases o <;> first | exact nope h | skip
    exact ⟨tRetN, fun X ok => ps_retN, SimS.retN⟩
  | .rz c es, R, S, eo, sc, W, x, h => by
    cases x <;> first | exact nope h | skip
    rename_i ex ca pos
    rcases ex with _ | v <;> first | exact nope h | skip
    cases v <;> first | exact nope h | skip
    rename_i g xs ks cpos
    cases g <;> rcases xs with _ | ⟨e, r⟩ <;> rcases ks with _ | ⟨kw, ks⟩ <;> rcases ca with _ | cw <;> first | exact nope h | skip
    rename_i y p
    simp only [chkSt, Bool.and_eq_true, decide_eq_true_eq] at h
    obtain ⟨⟨⟨⟨⟨⟨h0, h1⟩, h2⟩, h3⟩, h4⟩, h6⟩, h5⟩ := h
    subst h1
    obtain ⟨p1, p2, p3⟩ := plain_of h3
    obtain ⟨ta, pa, qa⟩ := soundEs eo.toEOk es (W := W) h5
    have ns := notStar_Es h5
    obtain ⟨n1, n2⟩ := Bool.and_eq_true_iff.mp (show (notStar e && r.all notStar) = true from ns)
    have qa' := qa true fun _ => h4
    rw [h4] at qa'
    obtain ⟨ns, hr, fI, k, fd, ps, sp, m1, m2, m3, m4, m5, m6, m7, m8, m9, m10⟩ := eo.rz c h6
    refine ⟨(fun _ σ H => tMkO (R.ca.f c) sp [] ta σ H fun cls d H' => W cls d σ H'), fun X ok => ?_, ?_⟩
    · refine ps_raise (ok.calm h0) ok.tk ?_
      refine pmk_oex (fI := fI) (k := k) (fd := fd) (ps := ps) (sp := sp) (ds := []) (dvs := []) (CX := L2.CX X.prog X.w) (by rw [ok.K]; exact m2) (by rw [ok.K]; exact m3) (by rw [ok.K]; exact m4) (by rw [ok.P, ok.w, ok.K, ok.mg, ok.base]; exact m5) ((ok.room h0).mono m6) (by rw [ok.K]; exact m7) .nil passL (glo_of ok.sc h2) (by rw [ok.mg]; exact m1) (pa X ok.toXOk) p1 (st_of n1) (back_plain n2)
    · intro E H env σ p C D eK ec rs gd w en xo
      have w : wpEs Tb true es env C.ex fun ts e1 => ∃ ns, Tb.rz.lookup c = some ns ∧ ns.length = ts.length ∧ ts.all flatT = true ∧ C.ex c (ns.zip ts) e1 := w
      have e : (fun (ts : List T) (e1 : En) => ∃ ns, Tb.rz.lookup c = some ns ∧ ns.length = ts.length ∧ ts.all flatT = true ∧ C.ex c (ns.zip ts) e1) = fun ts e1 => ns.length = ts.length ∧ ts.all flatT = true ∧ C.ex c (ns.zip ts) e1 := by
        funext ts e1
        apply propext
        rw [hr]
        exact ⟨fun ⟨ns', h, q⟩ => by cases h; exact q, fun q => ⟨ns, rfl, q⟩⟩
      rw [e] at w
      exact SimS.rz (fI := fI) qa' m8 m9 m10 E H env σ p C D eK ec rs gd w en xo
  | .tr b y i hd, R, S, eo, sc, W, x, h => by
    cases x <;> first | exact nope h | skip
    rename_i p hs oe fb pos
    rcases hs with _ | ⟨⟨_ | cn, _ | n, _ | ⟨b0, sb⟩, hp⟩, _ | ⟨h2, hs⟩⟩ <;> rcases oe with _ | ⟨o1, oe⟩ <;> rcases fb with _ | ⟨f1, fb⟩ <;> first | exact nope h | skip
    all_goals (cases cn <;> first | exact nope h | skip)
    rename_i z zp
    simp only [chkSt, Bool.and_eq_true, decide_eq_true_eq, Bool.not_eq_true'] at h
    obtain ⟨⟨⟨⟨⟨⟨⟨⟨⟨h0, h1⟩, h2⟩, h3⟩, h4⟩, h5⟩, h6⟩, h7⟩, h8⟩, h9⟩ := h
    subst h2
    obtain ⟨cv, c1, c2⟩ := eo.xm _ h5
    have hb := fun W' => soundSl b eo (W := W') h8
    let tb := fun W' => (hb W').choose
    have pb := fun W' => (hb W').choose_spec.1
    have qb : ∀ W', SimS R W' (tb W') (wpSs Tb b) := fun W' => (hb W').choose_spec.2
    have hh := fun a D d => soundSl hd (eo.su a (.ref D) d) (W := W0) h9
    let th := fun a D d => (hh a D d).choose
    have ph := fun a D d => (hh a D d).choose_spec.1
    have qh : ∀ a D d, SimS (R.at_ a (.ref D) d) W0 (th a D d) (wpSs Tb hd) := fun a D d => (hh a D d).choose_spec.2
    let ts : Addr → Value → Option Addr → TS := fun a cls d => match cls with
      | .ref D => th a D d
      | _ => tNever
    refine ⟨fun D σ H => tb (wAs R.K cv i ts W D) D σ H, fun X ok => ?_, SimS.tr (ts := ts) qb (fun a D d => qh a D d) c2⟩
    rw [← ok.K]
    refine ps_try_as ok.stk ok.frm (by rw [ok.N]; exact eo.nd) (by rw [ok.N]; exact h6) (by show X.env.scope.names.lookup n = _; rw [ok.sc]; exact h7) (Names_of ok h3 h4 c1) ok.tk (fun W' pn xe tk hp => pb W' _ (ok.tr h1 tk hp)) fun a oe cls d pn hz hf => ?_
    cases cls <;> first | exact pss_never | exact ph a _ d _ (ok.su hz hf)
  | .tr0 b y hd, R, S, eo, sc, W, x, h => by
    cases x <;> first | exact nope h | skip
    rename_i p hs oe fb pos
    rcases hs with _ | ⟨⟨_ | cn, _ | n, _ | ⟨b0, sb⟩, hp⟩, _ | ⟨h2, hs⟩⟩ <;> rcases oe with _ | ⟨o1, oe⟩ <;> rcases fb with _ | ⟨f1, fb⟩ <;> first | exact nope h | skip
    all_goals (cases cn <;> first | exact nope h | skip)
    rename_i z zp
    simp only [chkSt, Bool.and_eq_true, decide_eq_true_eq, Bool.not_eq_true'] at h
    obtain ⟨⟨⟨⟨⟨⟨⟨h0, h1⟩, h2⟩, h3⟩, h4⟩, h5⟩, h8⟩, h9⟩ := h
    subst h2
    obtain ⟨cv, c1, c2⟩ := eo.xm _ h5
    have hb := fun W' => soundSl b eo (W := W') h8
    let tb := fun W' => (hb W').choose
    have pb := fun W' => (hb W').choose_spec.1
    have qb : ∀ W', SimS R W' (tb W') (wpSs Tb b) := fun W' => (hb W').choose_spec.2
    obtain ⟨th, ph, qh⟩ := soundSl hd eo.su0 (W := W0) h9
    refine ⟨fun D σ H => tb (wOnly R.K cv (fun _ _ _ => th) W D) D σ H, fun X ok => ?_, SimS.tr0 qb qh c2⟩
    rw [← ok.K]
    exact ps_try_only ok.stk ok.frm (Names_of ok h3 h4 c1) ok.tk (fun W' pn xe tk hp => pb W' _ (ok.tr h1 tk hp)) fun a oe cls d pn hz hf => ph _ (ok.su0 h1)
  | .trs b hs, R, S, eo, sc, W, x, h => by
    cases x <;> first | exact nope h | skip
    rename_i p hl oe fb pos
    rcases hl with _ | ⟨h0, r⟩ <;> rcases oe with _ | ⟨o1, oe⟩ <;> rcases fb with _ | ⟨f1, fb⟩ <;> first | exact nope h | skip
    simp only [chkSt, Bool.and_eq_true, Bool.not_eq_true'] at h
    obtain ⟨⟨⟨k0, k1⟩, k2⟩, k3⟩ := h
    have hb := fun W' => soundSl b eo (W := W') k2
    let tb := fun W' => (hb W').choose
    have pb := fun W' => (hb W').choose_spec.1
    have qb : ∀ W', SimS R W' (tb W') (wpSs Tb b) := fun W' => (hb W').choose_spec.2
    obtain ⟨l, ph, qh⟩ := soundHs hs eo (W := W) k3
    refine ⟨fun D σ H => tb (wCls R.K W D l) D σ H, fun X ok => ?_, SimS.trs (wb := wpSs Tb b) (wc := wpHs Tb hs) qb qh⟩
    rw [← ok.K]
    exact ps_tries ok.stk ok.frm (by rw [ok.N]; exact eo.nd) ok.tk (fun W' pn xe tk hp => pb W' _ (ok.tr k1 tk hp)) (ph X ok k1)
  | .pas, R, S, eo, sc, W, x, h => by
    cases x <;> first | exact nope h | exact ⟨tNext, fun X ok => ps_pass, SimS.pas⟩ | skip
    rename_i e pos
    cases e <;> first | exact nope h | skip
    rename_i k j p
    cases k <;> first | exact nope h | skip
    exact ⟨tNext, fun X ok => ps_doc, SimS.pas⟩
  | .brk, R, S, eo, sc, W, x, h => by
    cases x <;> first | exact nope h | exact ⟨tBreak, fun X ok => ps_break, SimS.brk⟩
  | .cont, R, S, eo, sc, W, x, h => by
    cases x <;> first | exact nope h | exact ⟨tCont, fun X ok => ps_continue, SimS.cont⟩
theorem soundSl : ∀ (s : Ss) {R : RP} {S : SP} (eo : EOkS R S N Tb) {sc : Scope} {W : WX} {xs : List Stmt}, chkSl S N sc s xs = true → ∃ ts, (∀ X, SOk R S N sc W X → PSs X xs ts) ∧ SimS R W ts (wpSs Tb s)
  | .nil, R, S, eo, sc, W, xs, h => by
    cases xs <;> first | exact nope h | skip
    exact ⟨tNext, fun X ok => pss_nil, SimS.pas⟩
  | .cons s r, R, S, eo, sc, W, xs, h => by
    cases xs <;> first | exact nope h | skip
    rename_i x xs
    obtain ⟨h1, h2⟩ := Bool.and_eq_true_iff.mp (show (chkSt S N sc s x && chkSl S N sc r xs) = true from h)
    obtain ⟨ta, pa, qa⟩ := soundSt s eo (W := W) h1
    obtain ⟨tb, pb, qb⟩ := soundSl r eo (W := W) h2
    exact ⟨tSeq ta tb, fun X ok => pss_cons (pa X ok) (pb X ok), SimS.cons (ws := wpS Tb s) (wr := wpSs Tb r) qa qb⟩
  | .als i p m es r, R, S, eo, sc, W, xs, h => by
    rcases xs with _ | ⟨x1, _ | ⟨x2, xs⟩⟩ <;> first | exact nope h | skip
    obtain ⟨h, hr⟩ := Bool.and_eq_true_iff.mp (show ((match (generalizing := false) x1, x2 with
    | .Assign [.Name y py] px _, .Expr (.Call (.Attribute o n ap) as [] cp) _ => notComp px && chkS N sc true i (.Name y py) && qtP p && chkP S N sc p px && noSup o && chkN N sc i o && decide (n = m.nm) && (ap.endLine == cp.line) && qts es && chkEs S N sc es as && (match (generalizing := false) es with
      | .nil => true
      | .cons _ .nil => true
      | _ => false)
    | _, _ => false) && chkSl S N sc r xs) = true from h)
    obtain ⟨tr, pr, qr⟩ := soundSl r eo (W := W) hr
    split at h
    · rename_i y py px sp o n ap as cp ep xx
      simp only [Bool.and_eq_true, decide_eq_true_eq] at h
      obtain ⟨⟨⟨⟨⟨⟨⟨⟨⟨⟨h1, h2⟩, h3⟩, h4⟩, h5⟩, h6⟩, h7⟩, h8⟩, h9⟩, h10⟩, h11⟩ := h
      obtain ⟨tp, pp, qp⟩ := soundP eo.toEOk p (W := W) h4
      obtain ⟨tb, pb, qb⟩ := soundEs eo.toEOk es (W := W) h10
      have ns := notStar_Es h10
      have go : ∀ tb, SimA R W tb (wpEs Tb (m == .extend) es) true (m == .extend) → (∀ X, SOk R S N sc W X → PE X (.Call (.Attribute o n ap) as [] cp) (tBM R.K "list" (mmR m) (tVar i) tb)) →
          ∃ ts, (∀ X, SOk R S N sc W X → PSs X (.Assign [.Name y py] px sp :: .Expr (.Call (.Attribute o n ap) as [] cp) ep :: xs) ts) ∧ SimS R W ts (wpSs Tb (.als i p m es r)) := fun tb qb pb => by
        refine ⟨tSeq (tAsg tp (gName i)) (tSeq (tDrop (tBM R.K "list" (mmR m) (tVar i) tb)) tr), fun X ok => ?_, ?_⟩
        · exact pss_cons (ps_asg (pp X ok.toXOk) (sound_S (dl := true) ok.N eo.nd ok.sc (fun _ x _ => ok.fn x) h2) (show swapsWith px (some (.Name y py)) sp.line X.env = pure false from sw_false h1) sw_name (G_each (g := .nm i) h2)) (pss_cons (ps_expr (pb X ok) rfl) (pr X ok))
        · have z := SimS.cons (wr := wpSs Tb r) (SimS.als (i := i) qp qb) qr
          exact z
      have hqb := qb (m == .extend) fun _ => h9
      rw [h9] at hqb
      have hxs : (es = .nil ∧ as = []) ∨ ∃ e, as = [e] ∧ notStar e = true := by
        rcases es with _ | ⟨e0, _ | ⟨e1, es⟩⟩ <;> rcases as with _ | ⟨e, _ | ⟨e2, as⟩⟩ <;> first | exact .inl ⟨rfl, rfl⟩ | exact nope h10 | exact nope h11 | skip
        · exact .inr ⟨e, rfl, (Bool.and_eq_true_iff.mp (show (notStar e && ([] : List Expr).all notStar) = true from ns)).1⟩
        · exact nope (Bool.and_eq_true_iff.mp (show (chkE S N sc e0 e && false) = true from h10)).2
      subst h7
      rcases hxs with ⟨z1, z2⟩ | ⟨e, z, n1⟩
      · subst z1 z2
        refine go tNil SimA.nil fun X ok => ?_
        rw [← ok.K]
        show PE X _ (tBM0 X.K "list" (mmR m) (tVar i))
        cases m with
        | append => exact pe_bm0 F.plainAttrs_list F.slot_list_append F.type_list_append mt_append (ok.var h6) (base_of h5) h8
        | extend => exact pe_bm0 F.plainAttrs_list F.slot_list_extend F.type_list_extend mt_extend (ok.var h6) (base_of h5) h8
        | pop => exact pe_bm0 F.plainAttrs_list F.slot_list_pop F.type_list_pop mt_pop (ok.var h6) (base_of h5) h8
        | reverse => exact pe_bm0 F.plainAttrs_list F.slot_list_reverse F.type_list_reverse mt_reverse (ok.var h6) (base_of h5) h8
      · subst z
        refine go tb hqb fun X ok => ?_
        have pa' := pb X ok.toXOk
        rw [← ok.K]
        cases m with
        | append => exact pe_bm F.plainAttrs_list F.slot_list_append F.type_list_append mt_append (ok.var h6) pa' (base_of h5) (few1 n1) h8 (st_of n1) rfl
        | extend => exact pe_bm F.plainAttrs_list F.slot_list_extend F.type_list_extend mt_extend (ok.var h6) pa' (base_of h5) (few1 n1) h8 (st_of n1) rfl
        | pop => exact pe_bm F.plainAttrs_list F.slot_list_pop F.type_list_pop mt_pop (ok.var h6) pa' (base_of h5) (few1 n1) h8 (st_of n1) rfl
        | reverse => exact pe_bm F.plainAttrs_list F.slot_list_reverse F.type_list_reverse mt_reverse (ok.var h6) pa' (base_of h5) (few1 n1) h8 (st_of n1) rfl
    · cases h
theorem soundHs : ∀ (l : Hs) {R : RP} {S : SP} (eo : EOkS R S N Tb) {sc : Scope} {W : WX} {xs : List ExceptHandler}, chkHs S N sc l xs = true → ∃ cl, (∀ X, SOk R S N sc W X → S.sx = false → ClOk X xs cl) ∧ SimH R W (fun D => wCls R.K W D cl) (wpHs Tb l)
  | .nil, R, S, eo, sc, W, xs, h => by
    cases xs <;> first | exact nope h | skip
    exact ⟨[], fun X ok hs => .nil, SimH.nil⟩
  | .cons y (some i) hd r, R, S, eo, sc, W, xs, h => by
    rcases xs with _ | ⟨⟨_ | cn, _ | n, _ | ⟨b0, sb⟩, hp⟩, q⟩ <;> first | exact nope h | skip
    all_goals (cases cn <;> first | exact nope h | skip)
    rename_i z zp
    simp only [chkHs, Bool.and_eq_true, decide_eq_true_eq] at h
    obtain ⟨⟨⟨⟨⟨⟨⟨h2, h3⟩, h4⟩, h5⟩, h6⟩, h7⟩, h9⟩, hr⟩ := h
    subst h2
    obtain ⟨cv, c1, c2⟩ := eo.xm _ h5
    obtain ⟨cl, pr, qr⟩ := soundHs r eo (W := W) hr
    have hh := fun a D d => soundSl hd (eo.su a (.ref D) d) (W := W0) h9
    let th := fun a D d => (hh a D d).choose
    have ph := fun a D d => (hh a D d).choose_spec.1
    have qh : ∀ a D d, SimS (R.at_ a (.ref D) d) W0 (th a D d) (wpSs Tb hd) := fun a D d => (hh a D d).choose_spec.2
    let ts : Addr → Value → Option Addr → TS := fun a cls d => match cls with
      | .ref D => th a D d
      | _ => tNever
    refine ⟨⟨cv, some i, ts⟩ :: cl, fun X ok hs => .as (Names_of ok h3 h4 c1) (by rw [ok.N]; exact h6) (by show X.env.scope.names.lookup n = _; rw [ok.sc]; exact h7) (fun a oe cls d pn hz hf => ?_) (pr X ok hs), SimH.as (ts := ts) (fun a D d => qh a D d) c2 qr⟩
    cases cls <;> first | exact pss_never | exact ph a _ d _ (ok.su hz hf)
  | .cons y none hd r, R, S, eo, sc, W, xs, h => by
    rcases xs with _ | ⟨⟨_ | cn, _ | n, _ | ⟨b0, sb⟩, hp⟩, q⟩ <;> first | exact nope h | skip
    all_goals (cases cn <;> first | exact nope h | skip)
    rename_i z zp
    simp only [chkHs, Bool.and_eq_true, decide_eq_true_eq] at h
    obtain ⟨⟨⟨⟨⟨h2, h3⟩, h4⟩, h5⟩, h9⟩, hr⟩ := h
    subst h2
    obtain ⟨cv, c1, c2⟩ := eo.xm _ h5
    obtain ⟨cl, pr, qr⟩ := soundHs r eo (W := W) hr
    obtain ⟨th, ph, qh⟩ := soundSl hd eo.su0 (W := W0) h9
    exact ⟨⟨cv, none, fun _ _ _ => th⟩ :: cl, fun X ok hs => .only (Names_of ok h3 h4 c1) (fun a oe cls d pn hz hf => ph _ (ok.su0 hs)) (pr X ok hs), SimH.only qh c2 qr⟩
end
end
end OT
end
section
set_option Elab.async false
set_option linter.all false
set_option maxRecDepth 100000
set_option maxHeartbeats 2000000
namespace OT
open PySem PySem.Spec PyProof.Rows L2
/-! ### a def -/
def ent : List Md → List T → En
  | m :: ms, t :: ts => .has (m == .m) t :: ent ms ts
  | _, _ => []
def entry (ms : List Md) (ts : List T) (n : Nat) : En := ent ms ts ++ List.replicate n .und
def outs : List Md → En → List T
  | .m :: ms, .has _ t :: e => t :: outs ms e
  | _ :: ms, _ :: e => outs ms e
  | _, _ => []
def CT.fn (ms : List Md) (Rq : Rr → Prop) : CT where
  nx := fun e => Rq (.ok .non (outs ms e))
  rt := fun t e => Rq (.ok t (outs ms e))
  bk := fun _ => False
  ct := fun _ => False
  ex := fun c fs e => Rq (.ex c fs (outs ms e))
theorem Rs.nil_app {E : RE} {H : Hp} : ∀ n : Nat, Rs E H (List.replicate n .und) (List.replicate n none) []
  | 0 => .nil
  | n + 1 => .und (Rs.nil_app n)
theorem Rs.ent {E : RE} {H : Hp} {n : Nat} : ∀ {ms : List Md} {ts : List T} {vs : List V} {f : List Addr}, ts.length = ms.length → Reps E H ts vs f → Rs E H (ent ms ts ++ List.replicate n .und) (vs.map some ++ List.replicate n none) f
  | [], [], _, _, _, h => by cases h; exact Rs.nil_app n
  | m :: ms, t :: ts, _, _, hl, h => by
    cases h with
    | cons h1 h2 => exact .has h1 (Rs.ent (by simpa using hl) h2)
  | [], _ :: _, _, _, hl, _ => by simp at hl
  | _ :: _, [], _, _, hl, _ => by simp at hl
theorem ent_get : ∀ {ms : List Md} {ts : List T} {e : En} {i : Nat}, ts.length = ms.length → ms[i]? = some .m → ∃ t, (ent ms ts ++ e)[i]? = some (.has true t)
  | [], _, _, _, _, h => by simp at h
  | m :: ms, [], _, _, hl, _ => by simp at hl
  | m :: ms, t :: ts, e, i, hl, h => by
    cases i with
    | zero =>
      have z : m = .m := by simpa using h
      subst z
      exact ⟨t, rfl⟩
    | succ i =>
      obtain ⟨u, hu⟩ := ent_get (e := e) (ts := ts) (ms := ms) (i := i) (by simpa using hl) (by simpa using h)
      exact ⟨u, by simpa [ent] using hu⟩
theorem outs_rep {E : RE} {H : Hp} : ∀ {ms : List Md} {vs : List V} {env : En} {σ : L2.St} {p : List Addr}, Rs E H env σ p → vs.length = ms.length → ms.length ≤ env.length → (∀ i : Nat, ms[i]? = some .m → ∃ t, env[i]? = some (.has true t)) →
    (∀ (i : Nat) v, ms[i]? = some .m → vs[i]? = some v → σ[i]? = some (some v)) → ∃ fo, fo.Sublist p ∧ Reps E H (outs ms env) (mOf ms vs) fo
  | [], [], env, _, _, _, _, _, _, _ => ⟨[], by simp, by cases env <;> exact .nil⟩
  | [], _ :: _, _, _, _, _, hl, _, _, _ => by simp at hl
  | _ :: _, [], _, _, _, _, hl, _, _, _ => by simp at hl
  | m :: ms, v :: vs, [], _, _, _, _, hle, _, _ => by simp at hle
  | m :: ms, v :: vs, s :: env, σ, p, rs, hl, hle, h1, h2 => by
    have r1 : ∀ i : Nat, ms[i]? = some .m → ∃ t, env[i]? = some (.has true t) := fun i e => by
      obtain ⟨t, ht⟩ := h1 (i + 1) (by simpa using e)
      exact ⟨t, by simpa using ht⟩
    have key : ∀ {σ' : L2.St} {o : Option V} {p' : List Addr}, σ = o :: σ' → Rs E H env σ' p' → ∃ fo, fo.Sublist p' ∧ Reps E H (outs ms env) (mOf ms vs) fo := fun {σ' o p'} e rs' => by
      subst e
      exact outs_rep rs' (by simpa using hl) (by simpa using hle) r1 fun i w e1 e2 => by
        have z := h2 (i + 1) w (by simpa using e1) (by simpa using e2)
        simpa using z
    cases m with
    | v =>
      cases rs with
      | und r =>
        obtain ⟨fo, s, q⟩ := key rfl r
        exact ⟨fo, s, q⟩
      | has hr r =>
        obtain ⟨fo, s, q⟩ := key rfl r
        exact ⟨fo, s.trans (List.sublist_append_right _ _), q⟩
      | exn _ _ r =>
        obtain ⟨fo, s, q⟩ := key rfl r
        exact ⟨fo, s, q⟩
    | m =>
      obtain ⟨t, ht⟩ := h1 0 rfl
      have hv := h2 0 v rfl rfl
      cases rs with
      | und r => simp at ht
      | exn _ _ r => simp at ht
      | @has b u w f _ σ' p' hr r =>
        obtain ⟨fo, s, q⟩ := key rfl r
        have e : w = v := by simpa using hv
        subst e
        exact ⟨f ++ fo, List.Sublist.append (.refl _) s, .cons hr q⟩
theorem spI_len {K : PySem.W.Frag} {ca : Str → Addr} {F : FE} {vs : List V} {H : Hp} {Q : VK} {Ex : XK} (h : spI K ca F vs H Q Ex) : vs.length = F.ms.length := by
  obtain ⟨E, ts, f, Rq, _, _, h, _⟩ := h
  exact h
theorem Fn.body {R : RP} {S : SP} {N ps : List Str} {Tb : Sig} {F : FE} {qual : Str} {body : List Stmt} {scope : Scope} {bd : Ss} {f : Addr}
    (hS : FnScope N ps scope) (eo : EOkS R S N Tb) (hl : F.ms.length = ps.length) (hx : S.sx = false) (hc : chkSl S N scope bd body = true)
    (hgoal : ∀ ts Rq, F.Ψ ts Rq → ts.length = F.ms.length → wpSs Tb bd (entry F.ms ts (N.length - ps.length)) (CT.fn F.ms Rq))
    {cdv : Value} {A : Around} {outer : List Env} {s : Shared} {H : Hp} {vs : List V} {Q : VK} {Ex : XK} (hr : Room R.lv (A.deeper (envOfC qual scope s.heap.objs.size f cdv))) (hsp : spI R.K R.ca.f F vs H Q Ex) :
    ∃ t, PSs (cxOf (L2.CX R.P R.w) R.P R.w R.K R.mg R.base N qual scope f cdv A outer s H Ex) body t ∧ t { nx := fun _ H' => Q .non H', rt := Q } (L2.start N vs) H := by
  obtain ⟨E0, ts, fp, Rq, eK, ec, lv, r0, gd0, hψ, hok, hex⟩ := hsp
  obtain ⟨K0, ca0, gf0, gv0⟩ := E0
  obtain ⟨caf, cax⟩ := ca0
  have eK : K0 = R.K := eK
  have ec : caf = R.ca.f := ec
  subst eK ec
  let R' : RP := { R with ca := { R.ca with x := cax } }
  have eo' : EOkS R' S N Tb := { nd := eo.nd, gl := eo.gl, fr := eo.fr, sg := eo.sg, at_ := eo.at_, xf := eo.xf, xc := eo.xc, xm := eo.xm, rz := eo.rz, r0 := eo.r0 }
  obtain ⟨t, pt, qt'⟩ := soundSl bd eo' (W := fun cls d _ H => Ex cls d H) hc
  have hlt : ts.length = F.ms.length := by rw [Reps.length r0, lv]
  refine ⟨t, pt _ ?_, ?_⟩
  · exact { P := rfl, w := rfl, K := rfl, mg := rfl, base := rfl, N := rfl, sc := rfl, un := (by have := hr.un; show (A.deeper _).units + 65 < _; omega), tk := takes_of rfl rfl rfl rfl, calm := (fun _ => rfl), room := (fun _ => hr), ex := (fun z => by rw [hx] at z; cases z), pass := passes_of rfl, stk := rfl, frm := rfl, fn := (fun _ => rfl) }
  · have hn : N.length - vs.length = N.length - ps.length := by rw [lv, hl]
    have rs0 : Rs ⟨R.K, ⟨R.ca.f, cax⟩, gf0, gv0⟩ H (entry F.ms ts (N.length - ps.length)) (L2.start N vs) fp := by
      unfold L2.start entry
      rw [hn]
      exact Rs.ent hlt r0
    have hσ : ∀ (i : Nat) v, vs[i]? = some v → (L2.start N vs)[i]? = some (some v) := fun i v e => by
      unfold L2.start
      rw [List.getElem?_append_left (by rw [List.length_map]; exact (List.getElem?_eq_some_iff.mp e).1), List.getElem?_map, e]
      rfl
    have back : ∀ (E' : RE) (H' : Hp) (p' : List Addr) (env' : En) (σ' : L2.St) (g : List Addr), Rs E' H' env' σ' p' → Pst false ⟨R.K, ⟨R.ca.f, cax⟩, gf0, gv0⟩ H fp (entry F.ms ts (N.length - ps.length)) E' H' p' env' g → Sik (entry F.ms ts (N.length - ps.length)) (L2.start N vs) σ' →
        ∃ fo, fo.Sublist p' ∧ Reps E' H' (outs F.ms env') (mOf F.ms vs) fo := fun E' H' p' env' σ' g rs ps' sk => by
      refine outs_rep rs lv ?_ (fun i e => ?_) fun i v e1 e2 => ?_
      · rw [ps'.io.1]
        unfold entry
        have : (ent F.ms ts).length = F.ms.length := by
          have key : ∀ {ms : List Md} {ts : List T}, ts.length = ms.length → (ent ms ts).length = ms.length := by
            intro ms
            induction ms with
            | nil => intro ts _; rfl
            | cons m ms ih =>
              intro ts h
              cases ts with
              | nil => simp at h
              | cons t ts => show (ent ms ts).length + 1 = _; rw [ih (by simpa using h)]; rfl
          exact key hlt
        rw [List.length_append, this]
        omega
      · obtain ⟨t, ht⟩ := ent_get (e := List.replicate (N.length - ps.length) .und) hlt e
        exact ps'.io.2 i t ht
      · obtain ⟨t, ht⟩ := ent_get (e := List.replicate (N.length - ps.length) .und) hlt e1
        rw [sk i t ht]
        exact hσ i v e2
    refine qt' _ H _ _ fp _ _ rfl rfl rs0 gd0 (hgoal ts Rq hψ hlt) ⟨?_, ?_, (fun _ _ _ _ _ _ _ _ _ z => z.elim), (fun _ _ _ _ _ _ _ _ _ z => z.elim)⟩ ?_
    · intro E' H' p' env' σ' rs gd ps' sk w
      obtain ⟨fo, sub, ro⟩ := back E' H' p' env' σ' [] rs ps' sk
      exact hok .non _ .non E' H' [] fo .non ro (gd.sub (by simpa using sub)) (ps'.fr.sub (fun _ z => z) fun x z => by simpa using sub.subset (by simpa using z)) w
    · intro E' H' p' env' σ' t v g rs hr' gd ps' sk w
      obtain ⟨fo, sub, ro⟩ := back E' H' p' env' σ' g rs ps' sk
      exact hok t _ v E' H' g fo hr' ro (gd.sub (List.Sublist.append (.refl _) sub)) (ps'.fr.sub (fun _ z => z) fun x z => (List.mem_append.mp z).elim (fun z => List.mem_append_left _ z) fun z => List.mem_append_right _ (sub.subset z)) w
    · intro E' H' p' env' σ' c fs cls d rs gd ps' sk ex w
      obtain ⟨fo, sub, ro⟩ := back E' H' p' env' σ' [] rs ps' sk
      exact hex c fs _ cls d E' H' fo ro (gd.sub sub) (ps'.fr.sub (fun _ z => z) fun x z => List.mem_append_right _ (sub.subset z)) ex w
theorem Fn.ok {R : RP} {S : SP} {N ps : List Str} {Tb : Sig} {F : FE} {x qual : Str} {params : Arguments} {body : List Stmt} {scope : Scope} {dvs : List V} {kws : List (Str × V)} {f : Addr} {fd : FuncData} {bd : Ss}
    (hD : FunD R.K x qual params body scope dvs kws f fd) (hS : FnScope N ps scope) (eo : EOkS R S N Tb) (hl : F.ms.length = ps.length) (hx : S.sx = false) (hc : chkSl S N scope bd body = true)
    (hgoal : ∀ ts Rq, F.Ψ ts Rq → ts.length = F.ms.length → wpSs Tb bd (entry F.ms ts (N.length - ps.length)) (CT.fn F.ms Rq)) :
    FnOk R.P R.w R.K R.mg R.base (L2.CX R.P R.w) (R.lv + 1) f fd ps (spI R.K R.ca.f F) :=
  hD.ok hS (fun vs H Q E h => (spI_len h).trans hl) fun cdv A outer s H vs Q Ex hr hsp => Fn.body hS eo hl hx hc hgoal hr hsp
end OT
end
section
set_option Elab.async false
set_option linter.all false
set_option maxRecDepth 100000
set_option maxHeartbeats 2000000
namespace OT
open PySem PySem.Spec PyProof.Rows L2
/-! ### from a def's promise to a call's -/
theorem mOf_app : ∀ {ms : List Md} {vs ws : List V}, (∀ m ∈ ms.drop vs.length, m = .v) → mOf ms (vs ++ ws) = mOf ms vs
  | [], vs, ws, _ => by cases vs <;> cases ws <;> rfl
  | m :: ms, [], ws, h => by
    have e1 : mOf (m :: ms) ([] ++ ws) = [] := mOf_v (ms := m :: ms) (vs := [] ++ ws) h
    have e2 : mOf (m :: ms) [] = [] := by cases m <;> rfl
    rw [e1, e2]
  | m :: ms, v :: vs, ws, h => by
    have ih := mOf_app (ms := ms) (vs := vs) (ws := ws) (by simpa using h)
    cases m with
    | v => exact ih
    | m =>
      show v :: mOf ms (vs ++ ws) = v :: mOf ms vs
      rw [ih]
def dfOk (F : FE) : Bool := (F.ms.drop (F.ms.length - F.dfs.length)).all fun m => decide (m = .v)
theorem FnR.of_ok {R : RP} {F : FE} {k : Nat} {f : Addr} {fd : FuncData} {ps : List Str} {ds : List Value} {dvs : List V} (hF : FnOk R.P R.w R.K R.mg R.base (L2.CX R.P R.w) k f fd ps (spI R.K R.ca.f F)) (hs : F.star = none) (hb : ∀ j, L2.Binds R.K fd ps (ds.drop j)) (hd : Vals dvs ds)
    (hl : F.dfs.length = dvs.length) (hm : dfOk F = true) (hr : ∀ (E : RE) (H : Hp), E.K = R.K → E.ca.f = R.ca.f → Reps E H F.dfs dvs []) : FnR R.P R.w R.K R.mg R.base (L2.CX R.P R.w) k f (spA R.K R.ca.f F) := by
  intro A outer s H us vs Q Ex hro e0 r hsp
  obtain ⟨E0, ts, fp, Rq, eK, ec, har, r0, gd0, hψ, hok, hex⟩ := hsp
  have lv : ts.length = vs.length := Reps.length r0
  rw [hs] at har
  obtain ⟨a1, a2⟩ := Bool.and_eq_true_iff.mp (show (decide (vs.length ≤ F.ms.length) && decide (F.ms.length ≤ vs.length + F.dfs.length)) = true from har)
  have a1 := of_decide_eq_true a1
  have a2 := of_decide_eq_true a2
  have hms : ∀ m ∈ F.ms.drop vs.length, m = .v := fun m hmm => by
    have hsub : F.ms.drop vs.length = (F.ms.drop (F.ms.length - F.dfs.length)).drop (vs.length - (F.ms.length - F.dfs.length)) := by
      rw [List.drop_drop]
      congr 1
      omega
    rw [hsub] at hmm
    exact of_decide_eq_true (List.all_eq_true.mp hm m (List.mem_of_mem_drop hmm))
  generalize hj : vs.length + F.dfs.length - F.ms.length = j
  have rd : Reps E0 H (F.dfs.drop j) (dvs.drop j) [] := by
    have h0 := hr E0 H eK ec
    have e := List.take_append_drop j F.dfs
    rw [← e] at h0
    obtain ⟨v1, v2, g1, g2, ev, eg, b1, b2⟩ := Reps.split h0
    have l1 := Reps.length b1
    have eg := List.append_eq_nil_iff.mp eg.symm
    have l2 : v1.length = j := by rw [← l1, List.length_take]; omega
    have l3 : dvs.drop j = v2 := by rw [ev, ← l2, List.drop_left]
    rw [l3]
    rw [eg.2] at b2
    exact b2
  have hmo : mOf F.ms (vs ++ dvs.drop j) = mOf F.ms vs := mOf_app hms
  refine (hF.raw (hb j) (hd.drop j)) A outer s H us vs Q Ex hro e0 r ⟨E0, ts ++ F.dfs.drop j, fp ++ [], Rq, eK, ec, ?_, Reps.app r0 rd, by simpa using gd0, ?_, ?_, ?_⟩
  · rw [List.length_append, List.length_drop, ← hl]
    omega
  · have e : F.arg ts = ts ++ F.dfs.drop j := by
      unfold FE.arg
      rw [hs, lv, hj]
    rw [← e]
    exact hψ
  · rw [hmo, List.append_nil]
    exact hok
  · rw [hmo, List.append_nil]
    exact hex
/-- a def without defaults -/
theorem FnR.of_ok0 {R : RP} {F : FE} {k : Nat} {f : Addr} {fd : FuncData} {ps : List Str} (hF : FnOk R.P R.w R.K R.mg R.base (L2.CX R.P R.w) k f fd ps (spI R.K R.ca.f F)) (hs : F.star = none) (hb : L2.Binds R.K fd ps []) (hl : F.dfs = []) : FnR R.P R.w R.K R.mg R.base (L2.CX R.P R.w) k f (spA R.K R.ca.f F) :=
  FnR.of_ok (ds := []) (dvs := []) hF hs (fun j => by simpa using hb) .nil (by rw [hl]; rfl) (by unfold dfOk; rw [hl]; simp) (fun E H _ _ => by rw [hl]; exact .nil)
theorem cxNew {P : Program} {w : World} : CXNew (L2.CX P w) := fun outer s H h2 p rest E e s' kp hp hn z =>
  StX.cxUp outer s H { s with heap := h2 } (upd H p (.tup rest)) E e s' (Un.laid kp hp hn) kp rfl z
/-- a def f(a, *r) -/
theorem FnR.of_star {R : RP} {S : SP} {N : List Str} {Tb : Sig} {F : FE} {m0 : Md} {x qual pa pv : Str} {params : Arguments} {body : List Stmt} {scope : Scope} {kws : List (Str × V)} {f : Addr} {fd : FuncData} {bd : Ss}
    (hD : FunD R.K x qual params body scope [] kws f fd) (hS : FnScope N [pa, pv] scope) (eo : EOkS R S N Tb) (hms : F.ms = [m0, .v]) (hst : F.star = some 1) (hx : S.sx = false) (hc : chkSl S N scope bd body = true)
    (hb : ∀ (kV doc pm : Value) (an : Option Addr) (cdv ct : Value) (u : Value) (rest : List Value), rest.length ≤ 5 → bindArgs (PySem.W.fnOf x qual params body scope .none kV doc pm an cdv ct) ⟨u :: rest, []⟩ = (newTuple rest >>= fun t => pure [(pa, u), (pv, t)]))
    (hgoal : ∀ ts Rq, F.Ψ ts Rq → ts.length = F.ms.length → wpSs Tb bd (entry F.ms ts (N.length - 2)) (CT.fn F.ms Rq)) :
    FnR R.P R.w R.K R.mg R.base (L2.CX R.P R.w) (R.lv + 1) f (spA R.K R.ca.f F) := by
  obtain ⟨oc, od, dV, kV, doc, pm, an, cdv, ct, osl, rfl, lk, hcd, hDf, _⟩ := hD.ex
  obtain rfl : dV = .none := by
    rcases hDf with ⟨_, e⟩ | ⟨e, _⟩
    · exact e
    · exact absurd rfl e
  have z := fn_ofV (nmax := 5) (sp := spI R.K R.ca.f F) (CX := L2.CX R.P R.w) (k := R.lv) lk hcd hS (by rw [sizeLine_eq]; omega) (hb kV doc pm an cdv ct) cxNew fun A outer s H vs Q Ex hr hsp => Fn.body hS eo (by rw [hms]; rfl) hx hc hgoal hr hsp
  refine z.imp fun vs H Q Ex hsp => ?_
  obtain ⟨E0, ts, fp, Rq, eK, ec, har, r0, gd0, hψ, hok, hex⟩ := hsp
  rw [hst] at har
  simp only [okAr, Bool.and_eq_true, decide_eq_true_eq] at har
  obtain ⟨⟨a1, a2⟩, a3⟩ := har
  cases r0 with
  | nil => simp at a2
  | @cons t v f1 tr rest g r1 r2 =>
    refine ⟨v, rest, rfl, by simp at a3; omega, fun p hp => ?_⟩
    have fr : Frm E0 E0 [] [] H (upd H p (.tup rest)) := Frm.laid hp fun _ z => nomatch z
    have frb : Frm E0 E0 (f1 ++ g) (f1 ++ g) H (upd H p (.tup rest)) := by
      have z := fr.beside (f := f1 ++ g)
      simpa using z
    have hmo : mOf F.ms [v, .ref p] = mOf F.ms (v :: rest) := by
      rw [hms]
      cases m0 <;> cases rest <;> rfl
    refine ⟨E0, [t, .tup tr], f1 ++ (g ++ []), Rq, eK, ec, by rw [hms]; rfl, .cons (r1.laid hp) (.cons (.tup (SqT.of upd_same) (r2.laid hp)) .nil), by simpa using gd0.laid0 hp, ?_, ?_, ?_⟩
    · have e : F.arg (t :: tr) = [t, .tup tr] := by
        unfold FE.arg
        rw [hst]
        rfl
      rw [← e]
      exact hψ
    · rw [hmo, List.append_nil]
      exact fun t outs v E' H' ft fo a b c d e => hok t outs v E' H' ft fo a b c (frb.trans d) e
    · rw [hmo, List.append_nil]
      exact fun c fs outs cls d E' H' fo a b e x y => hex c fs outs cls d E' H' fo a b (frb.trans e) x y
end OT
end
section
set_option Elab.async false
set_option linter.all false
set_option maxRecDepth 100000
set_option maxHeartbeats 2000000
namespace OT
open PySem PySem.Spec PyProof.Rows L2
/-! ### an error class: def __init__(self, f, ..): self.f = f .. -/
def chkIn (N : List Str) (sc : Scope) : List Str → Nat → List Stmt → Bool
  | [], _, [] => true
  | f :: fs, i, .Assign [.Attribute s g _] x _ :: r => decide (f = g) && chkN N sc 0 s && chkN N sc i x && chkIn N sc fs (i + 1) r
  | _, _, _ => false
def tIn (K : PySem.W.Frag) : List Str → Nat → TS
  | [], _ => tNext
  | f :: fs, i => tSeq (tOst K f (tVar 0) (tVar i)) (tIn K fs (i + 1))
section
variable {X : Cx} {N : List Str} {sc : Scope}
theorem var_of (hN : X.N = N) (hs : X.env.scope = sc) {i : Nat} {e : Expr} (h : chkN N sc i e = true) : PE X e (tVar i) := by
  obtain ⟨x, pos, rfl, h1, h2, h3, h4⟩ := chkN_inv h
  exact pe_var (by rw [hN]; exact h1) (by rw [hs]; exact h2) h3 h4
theorem pss_in (hN : X.N = N) (hs : X.env.scope = sc) : ∀ {fs : List Str} {i : Nat} {b : List Stmt}, chkIn N sc fs i b = true → PSs X b (tIn X.K fs i)
  | [], i, b, h => by
    cases b with
    | nil => exact pss_nil
    | cons s r => exact nope h
  | f :: fs, i, b, h => by
    rcases b with _ | ⟨s, r⟩ <;> first | exact nope h | skip
    cases s <;> first | exact nope h | skip
    rename_i tgs v pos
    rcases tgs with _ | ⟨tg, _ | ⟨tg2, tgs⟩⟩ <;> first | exact nope h | skip
    all_goals (cases tg <;> first | exact nope h | skip)
    simp only [chkIn, Bool.and_eq_true, decide_eq_true_eq] at h
    obtain ⟨⟨⟨h1, h2⟩, h3⟩, h4⟩ := h
    subst h1
    exact pss_cons (ps_ost (var_of hN hs h2) (var_of hN hs h3) sw_attr) (pss_in hN hs h4)
end
theorem in_old {K : PySem.W.Frag} {C a d : Addr} {H : Hp} {σ : L2.St} {D : Ends} (T : OexC K C) (hda : d ≠ a) (hself : σ[0]? = some (some (.ref a))) : ∀ {fs : List Str} {ws : List V} {i : Nat} {fs0 : List (Str × V)}, ws.length = fs.length → (∀ f ∈ fs, PySem.W.findIn K (.ref C) f = some none) →
    (∀ (j : Nat) w, ws[j]? = some w → σ[i + j]? = some (some w)) → fs0.length + fs.length ≤ 900 → D.nx σ (upd (upd H d (exd d ((fs.zip ws).reverse ++ fs0))) a (exo a C (some d))) → tIn K fs i D σ (upd (upd H d (exd d fs0)) a (exo a C (some d)))
  | [], [], i, fs0, _, _, _, _, q => by
    show D.nx σ _
    simpa using q
  | [], _ :: _, _, _, hl, _, _, _, _ => by simp at hl
  | _ :: _, [], _, _, hl, _, _, _, _ => by simp at hl
  | f :: fs, w :: ws, i, fs0, hl, hf, hσ, hz, q => by
    refine ⟨w, by simpa using hσ 0 w rfl, .ref a, hself, a, C, rfl, T, hf f (by simp), .inr ⟨d, fs0, upd_same, by rw [upd_ne hda, upd_same], by simp at hz; omega, ?_⟩⟩
    have e : upd (upd (upd H d (exd d fs0)) a (exo a C (some d))) d (exd d ((f, w) :: fs0)) = upd (upd H d (exd d ((f, w) :: fs0))) a (exo a C (some d)) := by
      rw [upd_comm hda, upd_upd]
    rw [e]
    refine in_old T hda hself (by simpa using hl) (fun g z => hf g (by simp [z])) (fun j w' e => ?_) (by simp at hz ⊢; omega) ?_
    · have z := hσ (j + 1) w' (by simpa using e)
      rw [← z]
      congr 1
      omega
    · simpa using q
theorem in_new {K : PySem.W.Frag} {C a : Addr} {H : Hp} {σ : L2.St} {D : Ends} (T : OexC K C) (hself : σ[0]? = some (some (.ref a))) (ha : H a = some (exo a C none)) {fs : List Str} {ws : List V} {i : Nat} (hne : fs ≠ []) (hl : ws.length = fs.length) (hf : ∀ f ∈ fs, PySem.W.findIn K (.ref C) f = some none)
    (hσ : ∀ (j : Nat) w, ws[j]? = some w → σ[i + j]? = some (some w)) (hz : fs.length ≤ 900) (q : ∀ d, H d = none → d ≠ a → D.nx σ (upd (upd H d (exd d (fs.zip ws).reverse)) a (exo a C (some d)))) : tIn K fs i D σ H := by
  rcases fs with _ | ⟨f, fs⟩
  · exact absurd rfl hne
  rcases ws with _ | ⟨w, ws⟩
  · simp at hl
  refine ⟨w, by simpa using hσ 0 w rfl, .ref a, hself, a, C, rfl, T, hf f (by simp), .inl ⟨ha, fun d hd hda => ?_⟩⟩
  refine in_old T hda hself (fs0 := [(f, w)]) (by simpa using hl) (fun g z => hf g (by simp [z])) (fun j w' e => ?_) (by simp at hz ⊢; omega) ?_
  · have z := hσ (j + 1) w' (by simpa using e)
    rw [← z]
    congr 1
    omega
  · have z := q d hd hda
    simpa using z
def spIn (C : Addr) (ns : List Str) : Sp := fun vs H Q _ => ∃ (a : Addr) (ws : List V), vs = .ref a :: ws ∧ ws.length = ns.length ∧ H a = some (exo a C none) ∧ ∀ d, H d = none → d ≠ a → Q .non (upd (upd H d (exd d (ns.zip ws).reverse)) a (exo a C (some d)))
theorem RzOk.of {R : RP} {c x qual : Str} {ns ps : List Str} {params : Arguments} {body : List Stmt} {scope : Scope} {kws : List (Str × V)} {fI : Addr} {fd : FuncData} (hD : FunD R.K x qual params body scope [] kws fI fd) (hS : FnScope ps ps scope) (hc : chkIn ps scope ns 1 body = true)
    (hpl : ps.length = ns.length + 1) (hne : ns ≠ []) (hnd : ns.Nodup) (hz : ns.length ≤ 100) (hb : L2.Binds R.K fd ps []) (hm : R.mg c = some (.ref (R.ca.f c))) (T : OexC R.K (R.ca.f c)) (hi : PySem.W.findIn R.K (.ref (R.ca.f c)) "__init__" = some (some (.ref fI))) (ht : PySem.W.typeIn R.K (.ref fI) = some (.type "function"))
    (hf : ∀ f ∈ ns, PySem.W.findIn R.K (.ref (R.ca.f c)) f = some none) (hlv : 2 ≤ R.lv) : RzOk R c ns := by
  refine ⟨fI, 1, fd, ps, spIn (R.ca.f c) ns, hm, T, hi, ht, ?_, hlv, hb, hnd, hz, fun a vs H Q hl ha q => ⟨a, vs, rfl, hl, ha, q⟩⟩
  refine hD.ok (k := 0) hS (fun vs H Q E h => ?_) fun cdv A outer s H vs Q Ex hr h => ?_
  · obtain ⟨a, ws, rfl, hl, _⟩ := h
    show ws.length + 1 = _
    omega
  · obtain ⟨a, ws, rfl, hl, ha, q⟩ := h
    refine ⟨tIn R.K ns 1, pss_in rfl rfl hc, ?_⟩
    have hs : L2.start ps (.ref a :: ws) = some (.ref a) :: ws.map some := by
      unfold L2.start
      have e : ps.length - (V.ref a :: ws).length = 0 := by simp; omega
      rw [e]
      simp
    rw [hs]
    refine in_new T rfl ha hne hl hf (fun j w e => ?_) (by omega) fun d hd hda => q d hd hda
    rw [Nat.add_comm, List.getElem?_cons_succ, List.getElem?_map, e]
    rfl
end OT
end
section
set_option Elab.async false
set_option linter.all false
set_option maxRecDepth 100000
set_option maxHeartbeats 2000000
namespace OT
open PySem PySem.Spec PyProof.Rows L2 He
/-! ### the head's hook with one more Bool -/
def obsE (fa : List Fa) (fn : List DefD) (ex : PySem.W.Frag → Bool) (K : PySem.W.Frag) : AlD := (((fa.all fun f => f.ok K) && fn.all fun d => d.ok K) && ex K, fn.map fun d => fnW K d.at_)
def SaysE (fa : List Fa) (fn : List DefD) (ex : PySem.W.Frag → Bool) (K : PySem.W.Frag) : Prop := obsE fa fn ex K = valD fn
def obsEG (n : Nat) (fa : List Fa) (fn : List DefD) (ex : PySem.W.Frag → Bool) (g : Addr → Option Obj) : AlD := obsE fa fn ex (frG g (asD g n))
def hookE (n : Nat) (fa : List Fa) (fn : List DefD) (ex : PySem.W.Frag → Bool) : PySem.W.Hook where
  α := AlD
  obs := fun s => obsEG n fa fn ex s.heap.get?
  val := fun _ => valD fn
  says := fun _ h => ∃ K : PySem.W.Frag, K.In h ∧ SaysE fa fn ex K
  of := fun _ _ e => ⟨_, frG_in, e⟩
  keeps := fun _ _ _ ⟨K, hK, c⟩ k => ⟨K, PySem.W.Frag.In.keeps hK k, c⟩
theorem obsEG_eq {n : Nat} {fa : List Fa} {fn : List DefD} {ex : PySem.W.Frag → Bool} {g : Addr → Option Obj} {s : Shared} (h : ∀ a, g a = s.heap.get? a) : obsEG n fa fn ex g = (hookE n fa fn ex).obs s := by
  have e : g = s.heap.get? := funext h
  rw [e] <;> rfl
theorem SaysE.split {fa : List Fa} {fn : List DefD} {ex : PySem.W.Frag → Bool} {K : PySem.W.Frag} (c : SaysE fa fn ex K) : SaysD fa fn K ∧ ex K = true := by
  have c1 := Bool.and_eq_true_iff.mp (show (((fa.all fun f => f.ok K) && fn.all fun d => d.ok K) && ex K) = true from congrArg (fun z : AlD => z.1) c)
  have c2 : fn.map (fun d => fnW K d.at_) = fn.map DefD.val := congrArg (fun z : AlD => z.2) c
  refine ⟨?_, c1.2⟩
  unfold SaysD obsD valD
  rw [c1.1, c2]
end OT
end
section
set_option Elab.async false
set_option linter.all false
set_option maxRecDepth 100000
set_option maxHeartbeats 2000000
namespace OT
open PySem PySem.Spec PyProof.Rows L2 He
/-! ### what the head must show of the tables -/
def relC : Cn → Value → Bool
  | .non, .none => true
  | .bl b, .bool c => b == c
  | .int i, .int j _ => decide (i = j)
  | .str x, .str y _ => decide (x = y)
  | _, _ => false
theorem relC_ok {c : Cn} {u : Value} (h : relC c u = true) : RelV c.v u := by
  cases c <;> cases u <;> first | (cases h; done) | skip
  · rfl
  · rw [show _ = _ from eq_of_beq h]; rfl
  · exact ⟨_, by rw [show _ = _ from of_decide_eq_true h]⟩
  · exact ⟨_, by rw [show _ = _ from of_decide_eq_true h]⟩
def glB (K : PySem.W.Frag) (q : Str × Cn) : Bool := match PySem.W.nsIn K mainGlobals q.1 with
  | some (some u) => relC q.2 u
  | _ => false
def frB (K : PySem.W.Frag) (x : Str) : Bool := eqO (PySem.W.nsIn K mainGlobals x) (some none)
theorem gl_ok {K : PySem.W.Frag} {h : Heap} {mg : Str → Option Value} (X : K.In h) (G : h.Ns mainGlobals mg) {q : Str × Cn} (c : glB K q = true) : ∃ u, mg q.1 = some u ∧ RelV q.2.v u := by
  unfold glB at c
  split at c
  · rename_i u e
    exact ⟨u, PySem.W.mg_of X G e, relC_ok c⟩
  · cases c
/-- what ExcInit asks of an error class -/
def oexB (K : PySem.W.Frag) (C : Addr) : Bool := (match K.lookup C with
  | some ⟨.type t, dd, .cls cd, sl⟩ => decide (t = "type") && (match cd.mro, sl.toList with
    | .ref C' :: bm, [k0, k1, k2, k3, some (.builtin n), k5] => C' == C && decide (n = "ValueError.__new__") && !cd.hasDel && cd.hasDict && PySem.HandSPX.refsVE bm
    | _, _ => false)
  | _ => false) && (eqO (PySem.W.findIn K (.ref C) "__setattr__") (some (some (.builtin "object.__setattr__"))) && (decide (PySem.W.subIn K (.ref C) (.type "BaseException") = some true) && (decide (PySem.W.typeIn K (.ref C) = some (.type "type")) && PySem.W.keepIn K (.ref C))))
theorem oexB_ok {K : PySem.W.Frag} {C : Addr} (h : oexB K C = true) : OexC K C := by
  obtain ⟨h1, h⟩ := Bool.and_eq_true_iff.mp h
  obtain ⟨h2, h⟩ := Bool.and_eq_true_iff.mp h
  obtain ⟨h3, h⟩ := Bool.and_eq_true_iff.mp h
  obtain ⟨h4, h5⟩ := Bool.and_eq_true_iff.mp h
  refine ⟨?_, eqO_ok h2, of_decide_eq_true h3, of_decide_eq_true h4, h5⟩
  split at h1
  · rename_i t dd cd sl e
    obtain ⟨h6, h7⟩ := Bool.and_eq_true_iff.mp h1
    have h6 := of_decide_eq_true h6
    subst h6
    split at h7
    · rename_i C' bm k0 k1 k2 k3 n k5 hm hs
      simp only [Bool.and_eq_true, beq_iff_eq, Bool.not_eq_true', decide_eq_true_eq] at h7
      obtain ⟨⟨⟨⟨rfl, rfl⟩, hdel⟩, hhd⟩, hok⟩ := h7
      obtain ⟨nm, bs, mro, ns, qn, hd, sn, sub, ab, col, del⟩ := cd
      dsimp only at hm hdel hhd
      subst hm hdel hhd
      have hsl : sl = #[k0, k1, k2, k3, some (.builtin "ValueError.__new__"), k5] := by
        obtain ⟨l⟩ := sl
        simp only at hs
        rw [hs]
      subst hsl
      exact ⟨nm, qn, ns, bs, bm, sn, sub, ab, col, dd, k0, k1, k2, k3, k5, e, hok⟩
    · cases h7
  · cases h1
def excCB (K : PySem.W.Frag) (D : Addr) : Bool := eqO (PySem.W.findIn K (.ref D) "__getattribute__") (some (some (.builtin "BaseException.__getattribute__"))) && (eqO (PySem.W.findIn K (.ref D) "__getattr__") (some none) && (decide (PySem.W.subIn K (.ref D) (.type "BaseException") = some true) && (PySem.W.hasDictIn K D &&
  (eqO (PySem.W.findIn K (.ref D) "__class__") (some (some (.builtin "object.__class__"))) && (eqO (PySem.W.specialIn K (.builtin "object.__class__") "__get__") (some (some (.builtin "getset_descriptor.__get__"))) && (decide (PySem.W.takesIn K (.builtin "object.__class__") = some true) && decide (PySem.W.mroIn K D (.type "object") = some true)))))))
theorem excCB_ok {K : PySem.W.Frag} {D : Addr} (h : excCB K D = true) : ExcC K D := by
  obtain ⟨h1, h⟩ := Bool.and_eq_true_iff.mp h
  obtain ⟨h2, h⟩ := Bool.and_eq_true_iff.mp h
  obtain ⟨h3, h⟩ := Bool.and_eq_true_iff.mp h
  obtain ⟨h4, h⟩ := Bool.and_eq_true_iff.mp h
  obtain ⟨h5, h⟩ := Bool.and_eq_true_iff.mp h
  obtain ⟨h6, h⟩ := Bool.and_eq_true_iff.mp h
  obtain ⟨h7, h8⟩ := Bool.and_eq_true_iff.mp h
  exact ⟨eqO_ok h1, eqO_ok h2, of_decide_eq_true h3, h4, eqO_ok h5, eqO_ok h6, of_decide_eq_true h7, of_decide_eq_true h8⟩
end OT
end
section
set_option Elab.async false
set_option linter.all false
set_option maxRecDepth 100000
set_option maxHeartbeats 2000000
namespace OT
open PySem PySem.Spec PyProof.Rows L2 He
/-! ### the head's Bool and what it gives -/
/-- a class by its name: a global's or a built-in one -/
def clV (K : PySem.W.Frag) (c : Str) : Value := match PySem.W.nsIn K mainGlobals c with
  | some (some v) => v
  | _ => (bootBuiltins c).getD .none
def clB (K : PySem.W.Frag) (c : Str) : Bool := match PySem.W.nsIn K mainGlobals c with
  | some (some (.ref _)) => true
  | some none => (match bootBuiltins c with
    | some (.type _) => true
    | _ => false)
  | _ => false
theorem clB_ok {K : PySem.W.Frag} {h : Heap} {mg : Str → Option Value} (X : K.In h) (G : h.Ns mainGlobals mg) {c : Str} (q : clB K c = true) :
    ∃ cw : V, RelV cw (clV K c) ∧ (∀ u, RelV cw u → u = clV K c) ∧ (mg c = some (clV K c) ∨ (mg c = none ∧ bootBuiltins c = some (clV K c))) := by
  unfold clB at q
  unfold clV
  split at q
  · rename_i a e
    rw [e]
    exact ⟨.ref a, rfl, fun u z => z, .inl (PySem.W.mg_of X G e)⟩
  · rename_i e
    rw [e]
    split at q
    · rename_i n e2
      simp only [e2, Option.getD_some]
      exact ⟨.ty n, rfl, fun u z => z, .inr ⟨PySem.W.mg_none_of X G e, trivial⟩⟩
    · cases q
  · cases q
def r0B (K : PySem.W.Frag) (c : Str) : Bool := (He.Fa.glo c).ok K && (PySem.W.excIn K (ga K c) bmVE "ValueError.__new__" && PySem.W.keepIn K (.ref (ga K c)))
def exB (S : SP) (G : Sig) (K : PySem.W.Frag) : Bool :=
  S.r0l.all (r0B K) && (S.gl.all (glB K) && (S.fr.all (frB K) && (G.at_.all (fun q => (He.Fa.cls q.1).ok K && (He.Fa.noat q.1 q.2).ok K) && (G.xf.all (fun q => xfB K (ga K q.1) && eqO (PySem.W.findIn K (.ref (ga K q.1)) q.2) (some none)) && (S.xc.all (clB K) &&
    (G.xs.all (fun q => excCB K (ga K q.1.1) && decide (PySem.W.kitOne K (.ref (ga K q.1.1)) (clV K q.1.2) = some q.2)) && (S.xh.all (clB K) && G.xm.all (fun q => decide (PySem.W.exmOne K (.ref (ga K q.1.1)) (clV K q.1.2) = some q.2)))))))))
theorem mem_of_lookup {α β : Type} [BEq α] [LawfulBEq α] {a : α} {b : β} : ∀ {l : List (α × β)}, l.lookup a = some b → (a, b) ∈ l
  | [], h => by cases h
  | (c, d) :: l, h => by
    by_cases e : a = c
    · subst e
      have z : d = b := by simpa [List.lookup] using h
      subst z
      exact List.mem_cons_self
    · have e2 : (a == c) = false := by simpa using e
      simp only [List.lookup, e2] at h
      exact List.mem_cons_of_mem _ (mem_of_lookup h)
theorem EOkS.of_ex {R : RP} {S : SP} {N : List Str} {G : Sig} {K : PySem.W.Frag} {h : Heap} (X : K.In h) (Gs : h.Ns mainGlobals R.mg) (hK : R.K = K) (hca : R.ca.f = ga K) (nd : N.Nodup) (c : exB S G K = true)
    (sg : ∀ (n : Nat) x ms nd st, S.sg[n]? = some (x, ms, nd, st) → ∃ F f, G.tb[n]? = some F ∧ F.ms = ms ∧ F.dfs.length = nd ∧ F.star = st ∧ FnA R f F ∧ SgAt R x f) (rz : ∀ c, S.rzl.contains c = true → ∃ ns, G.rz.lookup c = some ns ∧ RzOk R c ns) : EOkS R S N G := by
  subst hK
  unfold exB at c
  obtain ⟨c0, c⟩ := Bool.and_eq_true_iff.mp c
  obtain ⟨c1, c⟩ := Bool.and_eq_true_iff.mp c
  obtain ⟨c2, c⟩ := Bool.and_eq_true_iff.mp c
  obtain ⟨c3, c⟩ := Bool.and_eq_true_iff.mp c
  obtain ⟨c4, c⟩ := Bool.and_eq_true_iff.mp c
  obtain ⟨c5, c⟩ := Bool.and_eq_true_iff.mp c
  obtain ⟨c6, c⟩ := Bool.and_eq_true_iff.mp c
  obtain ⟨c7, c8⟩ := Bool.and_eq_true_iff.mp c
  refine { nd := nd, gl := ?_, fr := ?_, sg := sg, at_ := ?_, xf := ?_, xc := ?_, xm := ?_, rz := rz, r0 := fun c m => ?_ }
  · intro x k m
    obtain ⟨u, e, r⟩ := gl_ok X Gs (List.all_eq_true.mp c1 (x, k) (List.contains_iff_mem.mp m))
    exact ⟨u, e, r⟩
  · intro x m
    exact PySem.W.mg_none_of X Gs (eqO_ok (List.all_eq_true.mp c2 x (List.contains_iff_mem.mp m)))
  · intro x f m
    obtain ⟨h1, h2⟩ := Bool.and_eq_true_iff.mp (List.all_eq_true.mp c3 (x, f) (List.contains_iff_mem.mp m))
    rw [hca]
    exact ⟨cls_ok h1, noat_ok h2⟩
  · intro x f m
    obtain ⟨h1, h2⟩ := Bool.and_eq_true_iff.mp (List.all_eq_true.mp c4 (x, f) (List.contains_iff_mem.mp m))
    rw [hca]
    exact ⟨xfB_ok h1, eqO_ok h2⟩
  · intro x m
    obtain ⟨cw, h1, h2, h3⟩ := clB_ok X Gs (List.all_eq_true.mp c5 x (List.contains_iff_mem.mp m))
    refine ⟨cw, _, h1, h2, h3, fun y b l => ?_⟩
    obtain ⟨h4, h5⟩ := Bool.and_eq_true_iff.mp (List.all_eq_true.mp c6 _ (mem_of_lookup l))
    rw [hca]
    exact ⟨of_decide_eq_true h5, excCB_ok h4⟩
  · obtain ⟨h1, h2⟩ := Bool.and_eq_true_iff.mp (List.all_eq_true.mp c0 c (List.contains_iff_mem.mp m))
    obtain ⟨h3, h4⟩ := Bool.and_eq_true_iff.mp h2
    unfold R0Ok
    rw [hca]
    exact ⟨glo_ok X Gs h1, h3, h4⟩
  · intro x m
    obtain ⟨cw, h1, h2, h3⟩ := clB_ok X Gs (List.all_eq_true.mp c7 x (List.contains_iff_mem.mp m))
    refine ⟨_, h3, fun y b l => ?_⟩
    rw [hca]
    exact of_decide_eq_true (List.all_eq_true.mp c8 _ (mem_of_lookup l))
/-! ### where a def stands -/
def fkAt : Fk → Str × Option Str
  | .fn x => (x, none)
  | .mt c m => (c, some m)
  | .mk c => (c, some "__init__")
def sgB (K : PySem.W.Frag) : Fk → Bool
  | .fn x => (Fa.glo x).ok K
  | .mt c m => (Fa.cls c).ok K && (Fa.meth c m).ok K
  | .mk c => (Fa.mkr c).ok K && (Fa.glo c).ok K
theorem sgB_ok {R : RP} {K : PySem.W.Frag} {h : Heap} (X : K.In h) (Gs : h.Ns mainGlobals R.mg) (hK : R.K = K) (hca : R.ca.f = ga K) {fk : Fk} (c : sgB K fk = true) : SgAt R fk (fAd K (fkAt fk)) := by
  subst hK
  cases fk with
  | fn x => exact glo_ok X Gs c
  | mt d m =>
    obtain ⟨c1, c2⟩ := Bool.and_eq_true_iff.mp c
    show Cls R.K (R.ca.f d) ∧ Meth R.K (R.ca.f d) m _
    rw [hca]
    exact ⟨cls_ok c1, meth_ok c2⟩
  | mk d =>
    obtain ⟨c1, c2⟩ := Bool.and_eq_true_iff.mp c
    show Mk R.K (R.ca.f d) _ ∧ R.mg d = some (.ref (R.ca.f d))
    rw [hca]
    exact ⟨mkr_ok c1, glo_ok X Gs c2⟩
/-! ### rows: defs, error classes -/
structure DR where
  fk : Fk
  F : FE
  dep : List T → Nat
  d : DefD
  N : List Str
  ps : List Str
  bd : Ss
def DR.FEn (r : DR) (n : Nat) : FE := { r.F with Ψ := fun ts Rq => r.dep ts < n ∧ r.F.Ψ ts Rq }
structure RZ where
  c : Str
  ns : List Str
  d : DefD
  ps : List Str
/-- the defaults are constants -/
def cnD : T → Option Dv
  | .non => some .non
  | .bl b => some (.bl b)
  | .int i => some (.int i)
  | .str x => some (.str x)
  | _ => none
def dvB : List T → List Dv → Bool
  | [], [] => true
  | t :: ts, d :: ds => (match t, d with
    | .non, .non => true
    | .bl b, .bl c => b == c
    | .int i, .int j => decide (i = j)
    | .str x, .str y => decide (x = y)
    | _, _ => false) && dvB ts ds
  | _, _ => false
theorem dvB_ok {E : RE} {H : Hp} {K : PySem.W.Frag} : ∀ {ts : List T} {ds : List Dv}, dvB ts ds = true → Reps E H ts (ds.map (Dv.v K)) []
  | [], [], _ => .nil
  | [], _ :: _, h => by cases h
  | _ :: _, [], h => by cases h
  | t :: ts, d :: ds, h => by
    obtain ⟨h1, h2⟩ := Bool.and_eq_true_iff.mp h
    have r := dvB_ok (E := E) (H := H) (K := K) h2
    refine Rp.cons (f := []) (g := []) ?_ r
    cases t <;> cases d <;> first | (cases h1; done) | skip
    · exact .non
    · rw [show _ = _ from eq_of_beq h1]; exact .bl
    · rw [show _ = _ from of_decide_eq_true h1]; exact .int
    · rw [show _ = _ from of_decide_eq_true h1]; exact .str
theorem dvB_len : ∀ {ts : List T} {ds : List Dv}, dvB ts ds = true → ts.length = ds.length
  | [], [], _ => rfl
  | [], _ :: _, h => by cases h
  | _ :: _, [], h => by cases h
  | t :: ts, d :: ds, h => by
    obtain ⟨h1, h2⟩ := Bool.and_eq_true_iff.mp h
    simp [dvB_len h2]
/-- how arguments come to parameters -/
inductive Bi0 (r : DR) : Prop where
  | no (hs : r.F.star = none) (hd : r.F.dfs = []) (hdd : r.d.dfl = []) (h : ∀ (kV doc pm : Value) (an : Option Addr) (cdv ct : Value) (us : List Value), us.length = r.ps.length → bindArgs (PySem.W.fnOf r.d.name r.d.qual r.d.params r.d.body r.d.scope .none kV doc pm an cdv ct) ⟨us, []⟩ = pure (r.ps.zip us))
  | df (hs : r.F.star = none) (hd : dvB r.F.dfs r.d.dfl = true) (hne : r.d.dfl ≠ []) (hm : dfOk r.F = true) (h : ∀ (j : Nat) (T : Addr) (kV doc pm : Value) (an : Option Addr) (cdv ct : Value) (us its : List Value), its.length = r.d.dfl.length → (us ++ its.drop j).length = r.ps.length →
      ∃ k, bindArgs (PySem.W.fnOf r.d.name r.d.qual r.d.params r.d.body r.d.scope (.ref T) kV doc pm an cdv ct) ⟨us, []⟩ = seqItems? (.ref T) >>= k ∧ k (some its.toArray) = pure (r.ps.zip (us ++ its.drop j)))
  | st (m0 : Md) (pa pv : Str) (hms : r.F.ms = [m0, .v]) (hst : r.F.star = some 1) (hd : r.F.dfs = []) (hdd : r.d.dfl = []) (hps : r.ps = [pa, pv]) (h : ∀ (kV doc pm : Value) (an : Option Addr) (cdv ct : Value) (u : Value) (rest : List Value), rest.length ≤ 5 → bindArgs (PySem.W.fnOf r.d.name r.d.qual r.d.params r.d.body r.d.scope .none kV doc pm an cdv ct) ⟨u :: rest, []⟩ = (newTuple rest >>= fun t => pure [(pa, u), (pv, t)]))
structure DROk (S : SP) (r : DR) : Prop where
  at_ : r.d.at_ = fkAt r.fk
  sc : FnScope r.N r.ps r.d.scope
  len : r.F.ms.length = r.ps.length
  ck : chkSl S r.N r.d.scope r.bd r.d.body = true
  bi : Bi0 r
structure RZOk (r : RZ) : Prop where
  at_ : r.d.at_ = (r.c, some ("__init__" : Str))
  dfl : r.d.dfl = []
  sc : FnScope r.ps r.ps r.d.scope
  ck : chkIn r.ps r.d.scope r.ns 1 r.d.body = true
  pl : r.ps.length = r.ns.length + 1
  ne : r.ns ≠ []
  nd : r.ns.Nodup
  le : r.ns.length ≤ 100
  bi : ∀ (kV doc pm : Value) (an : Option Addr) (cdv ct : Value) (us : List Value), us.length = r.ps.length → bindArgs (PySem.W.fnOf r.d.name r.d.qual r.d.params r.d.body r.d.scope .none kV doc pm an cdv ct) ⟨us, []⟩ = pure (r.ps.zip us)
def rzB (K : PySem.W.Frag) (r : RZ) : Bool := (Fa.glo r.c).ok K && (oexB K (ga K r.c) && (eqO (PySem.W.findIn K (.ref (ga K r.c)) "__init__") (some (some (.ref (ma K (ga K r.c) "__init__")))) && (decide (PySem.W.typeIn K (.ref (ma K (ga K r.c) "__init__")) = some (.type "function")) &&
  r.ns.all fun f => eqO (PySem.W.findIn K (.ref (ga K r.c)) f) (some none))))
theorem RZOk.to {R : RP} {K : PySem.W.Frag} {h : Heap} {r : RZ} {fd : FuncData} (X : K.In h) (Gs : h.Ns mainGlobals R.mg) (hK : R.K = K) (hca : R.ca.f = ga K) (hlv : 2 ≤ R.lv) (o : RZOk r) (c : rzB K r = true) (hD : FunD K r.d.name r.d.qual r.d.params r.d.body r.d.scope (r.d.dvs K) (r.d.kws K) (fAd K r.d.at_) fd) : RzOk R r.c r.ns := by
  subst hK
  obtain ⟨c1, c⟩ := Bool.and_eq_true_iff.mp c
  obtain ⟨c2, c⟩ := Bool.and_eq_true_iff.mp c
  obtain ⟨c3, c⟩ := Bool.and_eq_true_iff.mp c
  obtain ⟨c4, c5⟩ := Bool.and_eq_true_iff.mp c
  have hd0 : r.d.dvs R.K = [] := by unfold DefD.dvs; rw [o.dfl]; rfl
  rw [hd0, o.at_] at hD
  refine RzOk.of (fd := fd) hD o.sc o.ck o.pl o.ne o.nd o.le (hD.bindsN o.bi) ?_ ?_ ?_ ?_ ?_ hlv
  · rw [hca]; exact glo_ok X Gs c1
  · rw [hca]; exact oexB_ok c2
  · rw [hca]; exact eqO_ok c3
  · exact of_decide_eq_true c4
  · intro f m
    rw [hca]
    exact eqO_ok (List.all_eq_true.mp c5 f m)
/-! ### all defs keep their promises -/
def tbN (G : Sig) (rows : List DR) (n : Nat) : Sig := { G with tb := rows.map fun r => r.FEn n }
/-- everything that the head must show, besides the defs -/
def xB (S : SP) (G : Sig) (rzs : List RZ) (K : PySem.W.Frag) : Bool := exB S G K && (S.sg.all (fun q => sgB K q.1) && rzs.all (rzB K))
structure Pg (S : SP) (G : Sig) (rows : List DR) (rzs : List RZ) : Prop where
  sg : S.sg = rows.map fun r => (r.fk, r.F.ms, r.F.dfs.length, r.F.star)
  sx : S.sx = false
  rowsOk : ∀ r ∈ rows, DROk S r
  rzsOk : ∀ r ∈ rzs, RZOk r
  rzl : ∀ c, S.rzl.contains c = true → ∃ r ∈ rzs, r.c = c
  rz : ∀ r ∈ rzs, G.rz.lookup r.c = some r.ns
  goal : ∀ (n i : Nat) r, rows[i]? = some r → ∀ ts Rq, r.dep ts ≤ n → r.F.Ψ ts Rq → ts.length = r.F.ms.length → wpSs (tbN G rows n) r.bd (entry r.F.ms ts (r.N.length - r.ps.length)) (CT.fn r.F.ms Rq)
def RPn (P : Program) (w : World) (K : PySem.W.Frag) (mg : Str → Option Value) (base : Heap) (n : Nat) : RP := ⟨P, w, K, mg, base, ⟨ga K, none⟩, 2 * n + 2⟩
section
variable {S : SP} {G : Sig} {rows : List DR} {rzs : List RZ} {P : Program} {w : World} {K : PySem.W.Frag} {h : Heap} {mg : Str → Option Value} {base : Heap}
theorem Pg.eo (g : Pg S G rows rzs) (X : K.In h) (Gs : h.Ns mainGlobals mg) (c : SaysD [] (rows.map (·.d) ++ rzs.map (·.d)) K) (x : xB S G rzs K = true) {n : Nat}
    (A : ∀ (i : Nat) r, rows[i]? = some r → FnA (RPn P w K mg base n) (fAd K (fkAt r.fk)) (r.FEn n)) {N : List Str} (nd : N.Nodup) : EOkS (RPn P w K mg base n) S N (tbN G rows n) := by
  obtain ⟨x1, x⟩ := Bool.and_eq_true_iff.mp x
  obtain ⟨x2, x3⟩ := Bool.and_eq_true_iff.mp x
  refine EOkS.of_ex (R := RPn P w K mg base n) (G := tbN G rows n) X Gs rfl rfl nd x1 ?_ ?_
  · intro i fk ms nd st e
    rw [g.sg, List.getElem?_map] at e
    cases hr : rows[i]? with
    | none => rw [hr] at e; cases e
    | some r =>
      rw [hr] at e
      cases e
      refine ⟨r.FEn n, fAd K (fkAt r.fk), ?_, rfl, rfl, rfl, A i r hr, sgB_ok (R := RPn P w K mg base n) X Gs rfl rfl (List.all_eq_true.mp x2 (r.fk, r.F.ms, r.F.dfs.length, r.F.star) (by rw [g.sg]; exact List.mem_map.mpr ⟨r, List.mem_of_getElem? hr, rfl⟩))⟩
      show (rows.map fun r => r.FEn n)[i]? = _
      rw [List.getElem?_map, hr]
      rfl
  · intro c hc
    obtain ⟨r, hm, rfl⟩ := g.rzl c hc
    obtain ⟨j, hj⟩ := List.mem_iff_getElem?.mp hm
    obtain ⟨fd, hD⟩ := c.def_ (rows.length + j) (d := r.d) (by rw [List.getElem?_append_right (by simp)]; simp [hj])
    exact ⟨r.ns, g.rz r hm, RZOk.to (R := RPn P w K mg base n) X Gs rfl rfl (show 2 ≤ 2 * n + 2 by omega) (g.rzsOk r hm) (List.all_eq_true.mp x3 r hm) hD⟩
theorem Pg.step (g : Pg S G rows rzs) (X : K.In h) (Gs : h.Ns mainGlobals mg) (c : SaysD [] (rows.map (·.d) ++ rzs.map (·.d)) K) (x : xB S G rzs K = true) {n : Nat}
    (A : ∀ (i : Nat) r, rows[i]? = some r → FnA (RPn P w K mg base n) (fAd K (fkAt r.fk)) (r.FEn n)) (i : Nat) (r : DR) (hr : rows[i]? = some r) : FnA (RPn P w K mg base (n + 1)) (fAd K (fkAt r.fk)) (r.FEn (n + 1)) := by
  have hm := List.mem_of_getElem? hr
  have o := g.rowsOk r hm
  obtain ⟨fd, hD⟩ := c.def_ i (d := r.d) (by rw [List.getElem?_append_left (by rw [List.length_map]; exact (List.getElem?_eq_some_iff.mp hr).1), List.getElem?_map, hr]; rfl)
  rw [o.at_] at hD
  have eo := g.eo (w := w) (P := P) (base := base) X Gs c x A o.sc.nd
  have hgoal : ∀ ts Rq, (r.FEn (n + 1)).Ψ ts Rq → ts.length = (r.FEn (n + 1)).ms.length → wpSs (tbN G rows n) r.bd (entry (r.FEn (n + 1)).ms ts (r.N.length - r.ps.length)) (CT.fn (r.FEn (n + 1)).ms Rq) := fun ts Rq hψ hl => g.goal n i r hr ts Rq (Nat.le_of_lt_succ hψ.1) hψ.2 hl
  refine ⟨2 * n + 3, by show 2 * n + 3 + 1 ≤ 2 * (n + 1) + 2; omega, hD.kp, ?_⟩
  cases o.bi with
  | no hs hd hdd hb =>
    have F0 := Fn.ok (R := RPn P w K mg base n) (F := r.FEn (n + 1)) hD o.sc eo o.len g.sx o.ck hgoal
    have hd0 : r.d.dvs K = [] := by unfold DefD.dvs; rw [hdd]; rfl
    rw [hd0] at hD
    exact FnR.of_ok0 (R := RPn P w K mg base (n + 1)) (F := r.FEn (n + 1)) F0 hs (hD.bindsN hb) hd
  | df hs hd hne hm hb =>
    have F0 := Fn.ok (R := RPn P w K mg base n) (F := r.FEn (n + 1)) hD o.sc eo o.len g.sx o.ck hgoal
    obtain ⟨oc, od, dV, kV, doc, pm, an, cdv, ct, osl, e, lk, hcd, hDf, hKw⟩ := hD.ex
    rcases hDf with ⟨e1, _⟩ | ⟨_, T, ob, its, m, e1, lT, oT, rT⟩
    · exact absurd (List.map_eq_nil_iff.mp e1) hne
    · subst e1
      have l1 : its.length = r.d.dfl.length := by rw [← rT.length]; simp [DefD.dvs]
      refine FnR.of_ok (R := RPn P w K mg base (n + 1)) (F := r.FEn (n + 1)) (ds := its) F0 hs (fun j => ?_) rT ?_ hm fun E H _ _ => dvB_ok hd
      · intro s us XK hlen
        obtain ⟨k, e2, e3⟩ := hb j T kV doc pm an cdv ct us its l1 hlen
        refine BindsTo.of_looks fun M => ?_
        rw [e, e2]
        exact looks_items XK lT oT (.of_pure e3)
      · show r.F.dfs.length = _
        rw [dvB_len hd]
        simp [DefD.dvs]
  | st m0 pa pv hms hst hd hdd hps hb =>
    have hd0 : r.d.dvs K = [] := by unfold DefD.dvs; rw [hdd]; rfl
    rw [hd0] at hD
    have sc := o.sc
    rw [hps] at sc
    refine FnR.of_star (R := RPn P w K mg base n) (F := r.FEn (n + 1)) hD sc eo hms hst g.sx o.ck hb fun ts Rq hψ hl => ?_
    have z := hgoal ts Rq hψ hl
    rw [hps] at z
    exact z
theorem Pg.all (g : Pg S G rows rzs) (X : K.In h) (Gs : h.Ns mainGlobals mg) (c : SaysD [] (rows.map (·.d) ++ rzs.map (·.d)) K) (x : xB S G rzs K = true) : ∀ (n i : Nat) r, rows[i]? = some r → FnA (RPn P w K mg base n) (fAd K (fkAt r.fk)) (r.FEn n)
  | 0, i, r, hr => by
    have hm := List.mem_of_getElem? hr
    have o := g.rowsOk r hm
    obtain ⟨fd, hD⟩ := c.def_ i (d := r.d) (by rw [List.getElem?_append_left (by rw [List.length_map]; exact (List.getElem?_eq_some_iff.mp hr).1), List.getElem?_map, hr]; rfl)
    rw [o.at_] at hD
    refine ⟨0, by show 0 + 1 ≤ 2 * 0 + 2; omega, hD.kp, ?_⟩
    intro A outer s H us vs Q Ex hro e0 rv hsp
    obtain ⟨E0, ts, fp, Rq, _, _, _, _, _, hψ, _⟩ := hsp
    exact absurd hψ.1 (Nat.not_lt_zero _)
  | n + 1, i, r, hr => g.step X Gs c x (Pg.all g X Gs c x n) i r hr
theorem reps_ints {E : RE} {H : Hp} : ∀ ns : List Int, Reps E H (ns.map T.int) (ns.map V.int) []
  | [] => .nil
  | n :: ns => Rp.cons (f := []) (g := []) .int (reps_ints ns)
/-- the law's own promise -/
theorem Pg.law (g : Pg S G rows rzs) (X : K.In h) (Gs : h.Ns mainGlobals mg) (c : SaysD [] (rows.map (·.d) ++ rzs.map (·.d)) K) (x : xB S G rzs K = true) {n i : Nat} {r : DR} (hr : rows[i]? = some r) {p : Str} (hps : r.ps = [p]) (hms : r.F.ms = [.v])
    (hψ : ∀ (ns : List Int) Rq, ns.length ≤ 63 → Rq (.ok (.bl true) []) → r.dep [.lst .st (ns.map T.int)] ≤ n ∧ r.F.Ψ [.lst .st (ns.map T.int)] Rq) :
    ∃ (fd : FuncData) (sp : Sp), FunD K r.d.name r.d.qual r.d.params r.d.body r.d.scope (r.d.dvs K) (r.d.kws K) (fAd K (fkAt r.fk)) fd ∧ (∀ (H : Hp) (a : Addr) (ns : List Int), ns.length ≤ 63 → Only H → SqL K H a (ns.map V.int) → sp [.ref a] H (fun v _ => v = .bl true) fun _ _ _ => False) ∧
      ∀ base : Heap, K.In base → base.Ns mainGlobals mg → FnOk P w K mg base (L2.CX P w) (2 * n + 3) (fAd K (fkAt r.fk)) fd [p] sp := by
  have hm := List.mem_of_getElem? hr
  have o := g.rowsOk r hm
  obtain ⟨fd, hD⟩ := c.def_ i (d := r.d) (by rw [List.getElem?_append_left (by rw [List.length_map]; exact (List.getElem?_eq_some_iff.mp hr).1), List.getElem?_map, hr]; rfl)
  rw [o.at_] at hD
  refine ⟨fd, spI K (ga K) (r.FEn (n + 1)), hD, ?_, ?_⟩
  · intro H a ns hl hO hS
    obtain ⟨hd, hp⟩ := hψ ns (fun z => z = .ok (.bl true) []) hl rfl
    refine ⟨⟨K, ⟨ga K, none⟩, fun _ => False, fun _ => False⟩, [.lst .st (ns.map T.int)], [], fun z => z = .ok (.bl true) [], rfl, rfl, by show 1 = r.F.ms.length; rw [hms]; rfl, ?_, ?_, ⟨Nat.lt_succ_of_le hd, hp⟩, ?_, ?_⟩
    · refine Rp.cons (f := []) (g := []) ?_ .nil
      refine Rp.lst (f := .st) (g := []) (vs := ns.map V.int) ?_ trivial (reps_ints ns) fun _ => rfl
      rcases hS with (z | z) | z
      · rcases hO a with y | ⟨o, xs, y⟩
        · rw [z] at y; cases y
        · rw [z] at y; cases y
      · exact .inl z
      · exact .inr z
    · exact ⟨List.nodup_nil, (fun _ z => nomatch z), (fun _ z => z.elim False.elim False.elim), (fun _ z => nomatch z)⟩
    · intro t outs v E' H' ft fo hr _ _ _ e
      cases e
      cases hr
      rfl
    · intro c fs outs cls d E' H' fo _ _ _ _ e
      cases e
  · intro base kb nb
    have F0 := Fn.ok (R := RPn P w K mg base n) (F := r.FEn (n + 1)) hD o.sc (g.eo (w := w) (P := P) (base := base) X Gs c x (g.all X Gs c x n) o.sc.nd) o.len g.sx o.ck fun ts Rq hψ hl => g.goal n i r hr ts Rq (Nat.le_of_lt_succ hψ.1) hψ.2 hl
    rw [hps] at F0
    exact F0
end
end OT
end
section
set_option Elab.async false
set_option linter.all false
set_option maxRecDepth 100000
set_option maxHeartbeats 2000000
namespace OT
open PySem PySem.Spec PyProof.Rows L2 He
/-! ### a law's end -/
def CXw (P : Program) : CXT := fun o H s E u s' => ∃ w, L2.CX P w o H s E u s'
theorem cxw_no {P : Program} (H : Hp) (s : Shared) (e : Value) (s' : Shared) (h : CXw P [] H s (fun _ _ _ => False) e s') : False := by
  obtain ⟨w, a, B, H', cls, d, _, _, _, _, _, _, _, z⟩ := h
  exact z
theorem FnOk.cxw {P : Program} {w : World} {K : PySem.W.Frag} {mg : Str → Option Value} {base : Heap} {k : Nat} {f : Addr} {fd : FuncData} {ps : List Str} {sp : Sp} (F : FnOk P w K mg base (L2.CX P w) k f fd ps sp) : FnOk P w K mg base (CXw P) k f fd ps sp :=
  ⟨F.len, fun A outer s H args us vs Q E hr e0 hb r hs => codeAny_mono (F.run A outer s H args us vs Q E hr e0 hb r hs) fun r s' z => by
    cases r with
    | error e => exact ⟨w, z⟩
    | ok fl => cases fl <;> exact z⟩
theorem Pg.fin {S : SP} {G : Sig} {rows : List DR} {rzs : List RZ} {ds : List DefD} {P : Program} {w : World} {h : Heap} {mg : Str → Option Value} {fa : Addr} {x p : Str} {n i : Nat} {r : DR} (g : Pg S G rows rzs) (hds : ds = rows.map (·.d) ++ rzs.map (·.d))
    (Y : ∃ K : PySem.W.Frag, K.In h ∧ SaysE [] ds (xB S G rzs) K) (Gs : h.Ns mainGlobals mg) (hmg : mg x = some (.ref fa)) (hr : rows[i]? = some r) (hfk : r.fk = .fn x) (hps : r.ps = [p]) (hms : r.F.ms = [.v]) (hst : r.F.star = none) (hdf : r.d.dfl = [])
    (hψ : ∀ (ns : List Int) Rq, ns.length ≤ 63 → Rq (.ok (.bl true) []) → r.dep [.lst .st (ns.map T.int)] ≤ n ∧ r.F.Ψ [.lst .st (ns.map T.int)] Rq) :
    ∃ (K : PySem.W.Frag) (fd : FuncData) (sp : Sp), K.In h ∧ (∀ (s : Shared) (u : Value), BindsTo s fd ⟨[u], []⟩ [(p, u)]) ∧
        (∀ (H : Hp) (a : Addr) (ns : List Int), ns.length ≤ 63 → Only H → SqL K H a (ns.map V.int) → sp [.ref a] H (fun v _ => v = .bl true) fun _ _ _ => False) ∧
        ∀ base : Heap, K.In base → base.Ns mainGlobals mg → FnOk P w K mg base (CXw P) (2 * n + 3) fa fd [p] sp := by
  obtain ⟨K, X, c⟩ := Y
  obtain ⟨c, ex⟩ := c.split
  subst hds
  obtain ⟨fd, sp, hD, h1, h2⟩ := g.law (P := P) (w := w) X Gs c ex hr hps hms hψ
  have hm := List.mem_of_getElem? hr
  have o := g.rowsOk r hm
  obtain ⟨x1, x2⟩ := Bool.and_eq_true_iff.mp ex
  obtain ⟨x2, x3⟩ := Bool.and_eq_true_iff.mp x2
  have hs := List.all_eq_true.mp x2 (r.fk, r.F.ms, r.F.dfs.length, r.F.star) (by rw [g.sg]; exact List.mem_map.mpr ⟨r, hm, rfl⟩)
  rw [hfk] at hs
  have e := hmg.symm.trans (glo_ok X Gs hs)
  have ea : fAd K (fkAt r.fk) = fa := by
    rw [hfk]
    exact (Value.ref.inj (Option.some.inj e)).symm
  rw [ea] at hD h2
  have hd0 : r.d.dvs K = [] := by unfold DefD.dvs; rw [hdf]; rfl
  rw [hd0] at hD
  refine ⟨K, fd, sp, X, fun s u => ?_, h1, fun base kb nb => FnOk.cxw (h2 base kb nb)⟩
  cases o.bi with
  | no _ _ _ hb =>
    have z := hD.bindsA hb s [u] (by rw [hps]; rfl)
    rw [hps] at z
    exact z
  | df _ _ hne => exact absurd hdf hne
  | st _ _ _ _ hst' => rw [hst] at hst'; cases hst'
end OT
end
section
set_option Elab.async false
set_option linter.all false
set_option maxRecDepth 100000
set_option maxHeartbeats 2000000
namespace OT
open PySem PySem.Spec PyProof.Rows L2
/-! ### plain goals: loops, joins -/
theorem forT_ind {g : Tg} {body : En → CT → Prop} {C : CT} (I : List T → En → Prop) (h0 : ∀ e, I [] e → C.nx e)
    (h1 : ∀ x r e (K : En → Prop), I (x :: r) e → (∀ e', I r e' → K e') → storeT g x e fun e' => body e' (C.wL K)) : ∀ {xs : List T} {e : En}, I xs e → forT g body C xs e
  | [], e, h => h0 e h
  | x :: r, e, h => h1 x r e _ h fun e' h' => forT_ind I h0 h1 h'
theorem turns_ind {g : Tg} {env : En} {body : En → List T → (List T → Prop) → Prop} {Q : List T → Prop} (I : List T → List T → Prop) (h0 : ∀ acc, I [] acc → Q acc)
    (h1 : ∀ x r acc (K : List T → Prop), I (x :: r) acc → (∀ acc', I r acc' → K acc') → storeT g x env fun e => body e acc K) : ∀ {xs acc : List T}, I xs acc → turnsT g env body Q xs acc
  | [], acc, h => h0 acc h
  | x :: r, acc, h => h1 x r acc _ h fun acc' h' => turns_ind I h0 h1 h'
/-- a comprehension that maps f over the items -/
theorem turns_map {α : Type} {g : Tg} {env : En} {body : En → List T → (List T → Prop) → Prop} {Q : List T → Prop} {ts : List T} {xs : List α} {tx : α → T} (he : ts = xs.map tx) (f : α → T) (hl : xs.length ≤ LIM) (h0 : Q (xs.map f))
    (h1 : ∀ x, x ∈ xs → ∀ acc (K : List T → Prop), acc.length < LIM → K (acc ++ [f x]) → storeT g (tx x) env fun e => body e acc K) : turnsT g env body Q ts [] := by
  subst he
  have key : ∀ (ys zs : List α), zs ++ ys = xs → turnsT g env body Q (ys.map tx) (zs.map f) := by
    intro ys
    induction ys with
    | nil =>
      intro zs e
      rw [List.append_nil] at e
      rw [e]
      exact h0
    | cons y ys ih =>
      intro zs e
      have hy : y ∈ xs := by rw [← e]; simp
      have hz : (zs.map f).length < LIM := by
        have z := congrArg List.length e
        simp at z
        simp
        unfold LIM at hl
        unfold LIM
        omega
      refine h1 y hy _ _ hz ?_
      have z := ih (zs ++ [y]) (by rw [← e]; simp)
      rw [List.map_append] at z
      exact z
  exact key xs [] rfl
theorem cut {Tb : Sig} {s : S1} {r : Ss} {env : En} {C : CT} (J : En → Prop) (h1 : ∀ K : En → Prop, (∀ e, J e → K e) → wpS Tb s env (C.wN K)) (h2 : ∀ e, J e → wpSs Tb r e C) : wpSs Tb (.cons s r) env C := h1 _ h2
theorem rng_list {lo : Int} {n : Nat} : (Tn.rng lo n).list = (List.range n).map fun (k : Nat) => T.int (lo + (k : Int)) := rfl
/-! ### sizes -/
theorem log_lt {n a : Nat} (h : n < 2 ^ a) (ha : 0 < a) : n.log2 < a := by
  by_cases e : n = 0
  · subst e; simpa using ha
  · exact (Nat.log2_lt e).mpr h
theorem cmul {i j : Int} {a b : Nat} (hi : i.natAbs < 2 ^ a) (hj : j.natAbs < 2 ^ b) (ha : 0 < a) (hb : 0 < b) (h : a + b ≤ 1000000) : L2.CMulW i j := by
  have h1 := log_lt hi ha
  have h2 := log_lt hj hb
  unfold L2.CMulW
  omega
/-- both below 2 ^ 120 -/
theorem cmulS {i j : Int} (h1 : -1329227995784915872903807060280344576 < i) (h2 : i < 1329227995784915872903807060280344576) (h3 : -1329227995784915872903807060280344576 < j) (h4 : j < 1329227995784915872903807060280344576) : L2.CMulW i j :=
  cmul (a := 120) (b := 120) (by have : (2 : Nat) ^ 120 = 1329227995784915872903807060280344576 := by decide
                                 omega) (by have : (2 : Nat) ^ 120 = 1329227995784915872903807060280344576 := by decide
                                            omega) (by omega) (by omega) (by omega)
/-! ### trees of ints -/
theorem cpys_map {α : Type} {f : α → T} : ∀ {xs : List α}, (∀ x ∈ xs, cpy (f x) = true) → cpys (xs.map f) = true
  | [], _ => rfl
  | x :: xs, h => by
    show (cpy (f x) && cpys (xs.map f)) = true
    rw [h x (by simp), cpys_map fun y hy => h y (by simp [hy])]
    rfl
theorem cpys_int {l : List Int} : cpys (l.map T.int) = true := cpys_map fun _ _ => rfl
theorem cpys_str {l : List Str} : cpys (l.map T.str) = true := cpys_map fun _ _ => rfl
theorem cpys_app : ∀ {xs ys : List T}, cpys xs = true → cpys ys = true → cpys (xs ++ ys) = true
  | [], _, _, h => h
  | x :: xs, ys, h1, h2 => by
    obtain ⟨a, b⟩ := Bool.and_eq_true_iff.mp (show (cpy x && cpys xs) = true from h1)
    show (cpy x && cpys (xs ++ ys)) = true
    rw [a, cpys_app b h2]; rfl
theorem turns_map_id {α : Type} {f : α → T} {g : Fl} (h : ∀ x, turn g (f x) = f x) : ∀ {xs : List α}, turns g (xs.map f) = xs.map f
  | [] => rfl
  | x :: xs => by
    show turn g (f x) :: turns g (xs.map f) = _
    rw [h x, turns_map_id h]
    rfl
theorem turns_int {g : Fl} {l : List Int} : turns g (l.map T.int) = l.map T.int := turns_map_id fun _ => rfl
theorem turns_str {g : Fl} {l : List Str} : turns g (l.map T.str) = l.map T.str := turns_map_id fun _ => rfl
theorem nvws_map {α : Type} {f : α → T} : ∀ {xs : List α}, (∀ x ∈ xs, nvw (f x) = true) → nvws (xs.map f) = true
  | [], _ => rfl
  | x :: xs, h => by
    show (nvw (f x) && nvws (xs.map f)) = true
    rw [h x (by simp), nvws_map fun y hy => h y (by simp [hy])]
    rfl
/-! ### items -/
theorem atI_in {α : Type} {xs : List α} {i : Int} (h0 : 0 ≤ i) (h1 : i < xs.length) : ∃ x, atI xs i = some x ∧ xs[i.toNat]? = some x ∧ x ∈ xs := by
  have hl : i.toNat < xs.length := by omega
  refine ⟨xs[i.toNat], ?_, List.getElem?_eq_getElem hl, List.getElem_mem hl⟩
  unfold atI ixN
  rw [if_pos h0, if_pos h1]
  exact List.getElem?_eq_getElem hl
theorem atI_map {α β : Type} {f : α → β} {xs : List α} {i : Int} {x : α} (h : atI xs i = some x) : atI (xs.map f) i = some (f x) := by
  unfold atI at h ⊢
  rw [List.length_map]
  cases e : ixN xs.length i with
  | none => rw [e] at h; cases h
  | some j =>
    rw [e] at h
    show (xs.map f)[j]? = _
    rw [List.getElem?_map, show xs[j]? = some x from h]
    rfl
theorem atI_nat {α : Type} {xs : List α} {k : Nat} {x : α} (h : xs[k]? = some x) : atI xs (k : Int) = some x := by
  have hl := (List.getElem?_eq_some_iff.mp h).1
  unfold atI ixN
  rw [if_pos (by omega), if_pos (by omega)]
  exact h
/-- an item of a list of ints -/
theorem ix_ints {fl : Fl} {xs : List Int} {i : Int} {Q : T → Prop} (h0 : 0 ≤ i) (h1 : i < xs.length) (h : ∀ v, v ∈ xs → Q (.int v)) : ixT (.lst fl (xs.map T.int)) (.int i) Q := by
  obtain ⟨x, e, _, m⟩ := atI_in h0 h1
  exact ⟨_, atI_map e, h x m⟩
/-! ### equality -/
theorem dats_int : ∀ {l : List Int}, dats (l.map T.int) = some (l.map PyData.int)
  | [] => rfl
  | i :: l => by
    show (match dat (.int i), dats (l.map T.int) with
      | some d, some ds => some (d :: ds)
      | _, _ => none) = _
    rw [dats_int]
    rfl
end OT
namespace OT
open PySem PySem.Spec PyProof.Rows L2
/-! ### heights; flags left aside -/
mutual
def ht : T → Nat
  | .tup ts => hts ts + 1
  | .lst _ ts => hts ts + 1
  | .dic _ _ ts => hts ts + 1
  | .ins _ _ _ ts => hts ts + 1
  | _ => 0
def hts : List T → Nat
  | [] => 0
  | t :: r => max (ht t) (hts r)
end
theorem ht_mem : ∀ {ts : List T} {t : T}, t ∈ ts → ht t ≤ hts ts
  | t :: r, u, hu => by
    rcases List.mem_cons.mp hu with e | e
    · rw [e]; exact Nat.le_max_left _ _
    · exact Nat.le_trans (ht_mem e) (Nat.le_max_right _ _)
theorem hts_le {n : Nat} : ∀ {ts : List T}, (∀ t ∈ ts, ht t ≤ n) → hts ts ≤ n
  | [], _ => Nat.zero_le _
  | t :: r, h => Nat.max_le.mpr ⟨h t (by simp), hts_le fun u hu => h u (by simp [hu])⟩
mutual
/-- the eqS whatever the flags, and of plain data alone -/
def eqS : T → T → Bool
  | .non, .non => true
  | .bl a, .bl b => a == b
  | .int i, .int j => decide (i = j)
  | .str x, .str y => decide (x = y)
  | .tup xs, .tup ys => eqSs xs ys
  | .lst _ xs, .lst _ ys => eqSs xs ys
  | _, _ => false
def eqSs : List T → List T → Bool
  | [], [] => true
  | x :: xs, y :: ys => eqS x y && eqSs xs ys
  | _, _ => false
end
theorem eqSs_len : ∀ {xs ys : List T}, eqSs xs ys = true → xs.length = ys.length
  | [], [], _ => rfl
  | x :: xs, y :: ys, h => by
    have z := (Bool.and_eq_true_iff.mp (show (eqS x y && eqSs xs ys) = true from h)).2
    simp [eqSs_len z]
  | [], _ :: _, h => by cases h
  | _ :: _, [], h => by cases h
theorem eqSs_get : ∀ {xs ys : List T} {i : Nat} {x y : T}, eqSs xs ys = true → xs[i]? = some x → ys[i]? = some y → eqS x y = true
  | x :: xs, y :: ys, i, u, v, h, e1, e2 => by
    obtain ⟨h1, h2⟩ := Bool.and_eq_true_iff.mp (show (eqS x y && eqSs xs ys) = true from h)
    cases i with
    | zero =>
      have e1 : x = u := by simpa using e1
      have e2 : y = v := by simpa using e2
      subst e1 e2
      exact h1
    | succ i => exact eqSs_get h2 (by simpa using e1) (by simpa using e2)
  | [], [], _, _, _, _, e1, _ => by simp at e1
  | [], _ :: _, _, _, _, h, _, _ => by cases h
  | _ :: _, [], _, _, _, h, _, _ => by cases h
theorem eqSs_map {α : Type} {f g : α → T} : ∀ {l : List α}, (∀ x ∈ l, eqS (f x) (g x) = true) → eqSs (l.map f) (l.map g) = true
  | [], _ => rfl
  | x :: l, h => by
    show (eqS (f x) (g x) && eqSs (l.map f) (l.map g)) = true
    rw [h x (by simp), eqSs_map fun y hy => h y (by simp [hy])]; rfl
end OT
namespace OT
open PySem PySem.Spec PyProof.Rows L2
/-! ### a block cut in two -/
def takeS : Nat → Ss → Ss
  | 0, _ => .nil
  | _ + 1, .nil => .nil
  | k + 1, .cons s r => .cons s (takeS k r)
  | k + 1, .als i p m es r => .als i p m es (takeS k r)
def dropS : Nat → Ss → Ss
  | 0, b => b
  | _ + 1, .nil => .nil
  | k + 1, .cons _ r => dropS k r
  | k + 1, .als _ _ _ _ r => dropS k r
theorem wpSs_split {Tb : Sig} {C : CT} : ∀ (k : Nat) (b : Ss) (env : En), wpSs Tb (takeS k b) env (C.wN fun e => wpSs Tb (dropS k b) e C) = wpSs Tb b env C
  | 0, b, env => rfl
  | k + 1, .nil, env => rfl
  | k + 1, .cons s r, env => by
    have ih : (fun e => wpSs Tb (takeS k r) e (C.wN fun e => wpSs Tb (dropS k r) e C)) = fun e => wpSs Tb r e C := funext fun e => wpSs_split k r e
    show wpS Tb s env (C.wN fun e => wpSs Tb (takeS k r) e (C.wN fun e => wpSs Tb (dropS k r) e C)) = wpS Tb s env (C.wN fun e => wpSs Tb r e C)
    rw [ih]
  | k + 1, .als i p m es r, env => by
    have ih : ∀ e, wpSs Tb (takeS k r) e (C.wN fun e => wpSs Tb (dropS k r) e C) = wpSs Tb r e C := fun e => wpSs_split k r e
    show wpSs Tb (.als i p m es (takeS k r)) env (C.wN fun e => wpSs Tb (dropS k r) e C) = wpSs Tb (.als i p m es r) env C
    unfold wpSs
    simp only [ih]
    rfl
theorem cutAt {Tb : Sig} {b : Ss} {env : En} {C : CT} (k : Nat) (J : En → Prop) (h1 : ∀ K : En → Prop, (∀ e, J e → K e) → wpSs Tb (takeS k b) env (C.wN K)) (h2 : ∀ e, J e → wpSs Tb (dropS k b) e C) : wpSs Tb b env C := by
  rw [← wpSs_split k]
  exact h1 _ h2
end OT
namespace OT
open PySem PySem.Spec PyProof.Rows L2
theorem wpE_cn_i {Tb : Sig} {k : Bool} {c : Cn} {env : En} {X : XC} {Q : T → En → Prop} (h : Q c.t env) : wpE Tb k (.cn c) env X Q := h
theorem wpE_gl_i {Tb : Sig} {k : Bool} {x : Str} {c : Cn} {env : En} {X : XC} {Q : T → En → Prop} (h : Q c.t env) : wpE Tb k (.gl x c) env X Q := h
end OT
namespace OT
open PySem PySem.Spec PyProof.Rows L2
/-! ### cuts; lists of ints compared -/
theorem cut_map {α : Type} {f : α → T} {xs : List α} {lo hi : Option Int} : cutT (xs.map f) lo hi = ((xs.drop (HT.sIx xs.length 0 lo)).take (HT.sIx xs.length xs.length hi - HT.sIx xs.length 0 lo)).map f := by
  unfold cutT
  rw [List.length_map, List.map_take, List.map_drop]
theorem plain_ints : ∀ l : List Int, PyData.plainAll (l.map PyData.int) = true
  | [] => rfl
  | i :: l => by show (true && PyData.plainAll (l.map PyData.int)) = true; rw [plain_ints l]; rfl
theorem depth_ints : ∀ l : List Int, PyData.depthAll (l.map PyData.int) = 0
  | [] => rfl
  | i :: l => by show max 0 (PyData.depthAll (l.map PyData.int)) = 0; rw [depth_ints l]; rfl
theorem shaped_ints (l : List Int) : shp (.list (l.map PyData.int)) = true := by
  show (PyData.plainAll (l.map PyData.int) && decide (PyData.depthAll (l.map PyData.int) + 1 ≤ 64)) = true
  rw [plain_ints, depth_ints]
  rfl
theorem eqv_ints_nil (l : List Int) : PyData.eqv (.list (l.map PyData.int)) (.list []) = l.isEmpty := by
  cases l <;> rfl
theorem eq_ints_nil {f g : Fl} {l : List Int} {Q : Bool → Prop} (h : Q l.isEmpty) : cmpT .Eq (.lst f (l.map T.int)) (.lst g []) Q := by
  refine ⟨.list (l.map PyData.int), .list [], ?_, rfl, shaped_ints l, rfl, by rw [eqv_ints_nil]; exact h⟩
  show (dats (l.map T.int)).map PyData.list = _
  rw [dats_int]
  rfl
end OT
namespace OT
open PySem PySem.Spec PyProof.Rows L2
mutual
/-- no row in it is very long -/
def lnB : T → Bool
  | .tup ts => decide (ts.length ≤ 1000000) && lnBs ts
  | .lst _ ts => decide (ts.length ≤ 1000000) && lnBs ts
  | _ => true
def lnBs : List T → Bool
  | [] => true
  | t :: r => lnB t && lnBs r
end
theorem lnBs_map {α : Type} {f : α → T} : ∀ {xs : List α}, (∀ x ∈ xs, lnB (f x) = true) → lnBs (xs.map f) = true
  | [], _ => rfl
  | x :: xs, h => by
    show (lnB (f x) && lnBs (xs.map f)) = true
    rw [h x (by simp), lnBs_map fun y hy => h y (by simp [hy])]
    rfl
theorem lnBs_mem : ∀ {ts : List T}, lnBs ts = true → ∀ t ∈ ts, lnB t = true
  | [], _, _, h => by cases h
  | t :: r, h, u, hu => by
    obtain ⟨a, b⟩ := Bool.and_eq_true_iff.mp (show (lnB t && lnBs r) = true from h)
    rcases List.mem_cons.mp hu with e | e
    · rw [e]; exact a
    · exact lnBs_mem b u e
theorem cpys_mem : ∀ {ts : List T}, cpys ts = true → ∀ t ∈ ts, cpy t = true
  | [], _, _, h => by cases h
  | t :: r, h, u, hu => by
    obtain ⟨a, b⟩ := Bool.and_eq_true_iff.mp (show (cpy t && cpys r) = true from h)
    rcases List.mem_cons.mp hu with e | e
    · rw [e]; exact a
    · exact cpys_mem b u e
end OT
end
section
set_option Elab.async false
set_option linter.all false
set_option maxRecDepth 100000
set_option maxHeartbeats 2000000
namespace HW
open PySem PySem.Spec PyProof.Rows L2 OT TL
/-! ### programs of hosts: the data -/
inductive Stm where
  | send (fl : List (Int × Int)) (w : Option Int)
  | again (n : Int) (b : List Stm)
def flT (q : Int × Int) : T := .tup [.int q.1, .int q.2]
def opT : Option Int → T
  | none => .non
  | some i => .int i
mutual
def sT : Stm → T
  | .send fl w => .tup [.str "send", .tup (fl.map flT), opT w]
  | .again n b => .tup [.str "again", .int n, .tup (ssT b)]
def ssT : List Stm → List T
  | [] => []
  | s :: r => sT s :: ssT r
end
theorem ssT_map : ∀ l : List Stm, ssT l = l.map sT
  | [] => rfl
  | s :: r => by show sT s :: ssT r = _; rw [ssT_map r]; rfl
def hT (l : List Stm) : T := .tup (ssT l)
def pT (p : List (List Stm)) : T := .tup (p.map hT)
def GR : Int := 1000000000000000000000000000000
def wfN (n : Int) : Prop := 1 ≤ n ∧ n ≤ GR
def wfF (q : Int × Int) : Prop := wfN q.1 ∧ 0 ≤ q.2 ∧ q.2 ≤ 5
def wfSend (fl : List (Int × Int)) (w : Option Int) : Prop := ((∃ a, fl = [a] ∧ wfF a) ∨ ∃ a b, fl = [a, b] ∧ wfF a ∧ wfF b ∧ a.2 ≠ b.2) ∧ ∀ x, w = some x → wfN x
mutual
def wf : Stm → Prop
  | .send fl w => wfSend fl w
  | .again n b => wfN n ∧ b ≠ [] ∧ wfs b
def wfs : List Stm → Prop
  | [] => True
  | s :: r => wf s ∧ wfs r
end
mutual
def dep : Stm → Nat
  | .send _ _ => 0
  | .again _ b => deps b + 1
def deps : List Stm → Nat
  | [] => 0
  | s :: r => max (dep s) (deps r)
end
mutual
def cnt : Stm → Nat
  | .send _ _ => 1
  | .again _ b => cnts b
def cnts : List Stm → Nat
  | [] => 0
  | s :: r => cnt s + cnts r
end
mutual
def nod : Stm → Nat
  | .send _ _ => 1
  | .again _ b => nods b + 1
def nods : List Stm → Nat
  | [] => 0
  | s :: r => nod s + nods r
end
mutual
def sendsOf : Stm → List Stm
  | .send fl w => [.send fl w]
  | .again _ b => sendsOfs b
def sendsOfs : List Stm → List Stm
  | [] => []
  | s :: r => sendsOf s ++ sendsOfs r
end
theorem wfs_mem : ∀ {l : List Stm}, wfs l → ∀ s ∈ l, wf s
  | [], _, _, h => by cases h
  | s :: r, ⟨h1, h2⟩, t, ht => by
    rcases List.mem_cons.mp ht with e | e
    · rw [e]; exact h1
    · exact wfs_mem h2 t e
theorem wfs_app : ∀ {l m : List Stm}, wfs l → wfs m → wfs (l ++ m)
  | [], _, _, h => h
  | s :: r, m, ⟨h1, h2⟩, h3 => ⟨h1, wfs_app h2 h3⟩
theorem deps_mem : ∀ {l : List Stm} {s : Stm}, s ∈ l → dep s ≤ deps l
  | s :: r, t, ht => by
    rcases List.mem_cons.mp ht with e | e
    · rw [e]; exact Nat.le_max_left _ _
    · exact Nat.le_trans (deps_mem e) (Nat.le_max_right _ _)
theorem deps_app : ∀ {l m : List Stm}, deps (l ++ m) = max (deps l) (deps m)
  | [], m => by show deps m = max 0 (deps m); omega
  | s :: r, m => by show max (dep s) (deps (r ++ m)) = max (max (dep s) (deps r)) (deps m); rw [deps_app]; omega
theorem cnts_app : ∀ {l m : List Stm}, cnts (l ++ m) = cnts l + cnts m
  | [], m => by show cnts m = 0 + cnts m; omega
  | s :: r, m => by show cnt s + cnts (r ++ m) = cnt s + cnts r + cnts m; rw [cnts_app]; omega
theorem nods_app : ∀ {l m : List Stm}, nods (l ++ m) = nods l + nods m
  | [], m => by show nods m = 0 + nods m; omega
  | s :: r, m => by show nod s + nods (r ++ m) = nod s + nods r + nods m; rw [nods_app]; omega
theorem nods_mem : ∀ {l : List Stm} {s : Stm}, s ∈ l → nod s ≤ nods l
  | s :: r, t, ht => by
    rcases List.mem_cons.mp ht with e | e
    · rw [e]; exact Nat.le_add_right _ _
    · exact Nat.le_trans (nods_mem e) (Nat.le_add_left _ _)
theorem nods_len : ∀ l : List Stm, l.length ≤ nods l
  | [] => Nat.le_refl _
  | s :: r => by
    have h := nods_len r
    have h1 : 1 ≤ nod s := by cases s <;> simp [nod]
    show r.length + 1 ≤ nod s + nods r
    omega
mutual
/-- an again is never empty -/
theorem nod_le : ∀ {s : Stm}, wf s → nod s ≤ (dep s + 1) * cnt s ∧ 1 ≤ cnt s
  | .send _ _, _ => by simp [nod, dep, cnt]
  | .again n b, ⟨_, hb, h⟩ => by
    have q := nods_le h
    have c : 1 ≤ cnts b := by
      cases b with
      | nil => exact absurd rfl hb
      | cons s r =>
        have := (nod_le h.1).2
        show 1 ≤ cnt s + cnts r
        omega
    refine ⟨?_, c⟩
    show nods b + 1 ≤ (deps b + 1 + 1) * cnts b
    rw [Nat.add_mul (deps b + 1) 1]
    omega
theorem nods_le : ∀ {l : List Stm}, wfs l → nods l ≤ (deps l + 1) * cnts l
  | [], _ => Nat.zero_le _
  | s :: r, ⟨h1, h2⟩ => by
    have q := nod_le h1
    have p := nods_le h2
    show nod s + nods r ≤ (max (dep s) (deps r) + 1) * (cnt s + cnts r)
    have a : (dep s + 1) * cnt s ≤ (max (dep s) (deps r) + 1) * cnt s := Nat.mul_le_mul_right _ (by omega)
    have b : (deps r + 1) * cnts r ≤ (max (dep s) (deps r) + 1) * cnts r := Nat.mul_le_mul_right _ (by omega)
    rw [Nat.mul_add]
    omega
end
mutual
theorem cpy_sT : ∀ s : Stm, cpy (sT s) = true
  | .send fl w => by
    have h1 : cpys (fl.map flT) = true := cpys_map fun _ _ => rfl
    have h2 : cpy (opT w) = true := by cases w <;> rfl
    show (cpy (.str "send") && (cpys (fl.map flT) && (cpy (opT w) && true))) = true
    rw [h1, h2]; rfl
  | .again n b => by
    show (cpy (.str "again") && (cpy (.int n) && (cpys (ssT b) && true))) = true
    rw [cpys_ssT b]; rfl
theorem cpys_ssT : ∀ l : List Stm, cpys (ssT l) = true
  | [] => rfl
  | s :: r => by
    show (cpy (sT s) && cpys (ssT r)) = true
    rw [cpy_sT s, cpys_ssT r]; rfl
end
theorem cpy_hT (l : List Stm) : cpy (hT l) = true := cpys_ssT l
theorem cpy_pT (p : List (List Stm)) : cpy (pT p) = true := cpys_map fun l _ => cpy_hT l
mutual
theorem turn_sT (g : Fl) : ∀ s : Stm, turn g (sT s) = sT s
  | .send fl w => by
    have h1 : turns g (fl.map flT) = fl.map flT := turns_map_id fun _ => rfl
    have h2 : turn g (opT w) = opT w := by cases w <;> rfl
    show T.tup [.str "send", .tup (turns g (fl.map flT)), turn g (opT w)] = _
    rw [h1, h2]; rfl
  | .again n b => by
    show T.tup [.str "again", .int n, .tup (turns g (ssT b))] = _
    rw [turn_ssT g b]; rfl
theorem turn_ssT (g : Fl) : ∀ l : List Stm, turns g (ssT l) = ssT l
  | [] => rfl
  | s :: r => by
    show turn g (sT s) :: turns g (ssT r) = _
    rw [turn_sT g s, turn_ssT g r]; rfl
end
/-! ### texts -/
def nm (n : Int) : Str := Str.ofString (toString n)
def flW (q : Int × Int) : Str := Str.empty ++ nm q.1 ++ " of " ++ nm q.2
def sendW (fl : List (Int × Int)) : Option Int → Str
  | none => Str.empty ++ "send " ++ Txt.join " and " (fl.map flW)
  | some x => Str.empty ++ "send " ++ Txt.join " and " (fl.map flW) ++ " window " ++ nm x
mutual
def stW : Stm → Str
  | .send fl w => sendW fl w
  | .again n b => Str.empty ++ "again " ++ nm n ++ " ( " ++ Txt.join " ; " (stWs b) ++ " )"
def stWs : List Stm → List Str
  | [] => []
  | s :: r => stW s :: stWs r
end
theorem stWs_map : ∀ l : List Stm, stWs l = l.map stW
  | [] => rfl
  | s :: r => by show stW s :: stWs r = _; rw [stWs_map r]; rfl
theorem stW_again (n : Int) (b : List Stm) : stW (.again n b) = Str.empty ++ "again " ++ nm n ++ " ( " ++ Txt.join " ; " (stWs b) ++ " )" := rfl
def rowW (l : List Stm) : Str := Txt.join " ; " (stWs l)
def hostW (l : List Stm) : Str := Str.empty ++ "host " ++ rowW l
def progW (p : List (List Stm)) : Str := Txt.join "\n" (p.map hostW)
/-! ### reading -/
def numOf : Option Str → Option Int
  | none => none
  | some x => if x.length = 0 ∨ 31 < x.length then none else if (tl x).all (fun c => decide (48 ≤ c ∧ c ≤ 57)) = false then none else if (tl x).head? = some 48 ∧ 1 < x.length then none else some (NumText.digitsVal (tl x))
abbrev RSt := Nat × List Str
def take (al : List Str) (s : RSt) : Except Nat (Str × RSt) := match s.2 with
  | w :: r => if w ∈ al then .ok (w, s.1 + 1, r) else .error s.1
  | [] => .error s.1
def takeN (lo hi : Int) (s : RSt) : Except Nat (Int × RSt) := match numOf s.2.head? with
  | some v => if lo ≤ v ∧ v ≤ hi then .ok (v, s.1 + 1, s.2.tail) else .error s.1
  | none => .error s.1
def takeF (bar : Option Int) (s : RSt) : Except Nat ((Int × Int) × RSt) := match takeN 1 GR s with
  | .error e => .error e
  | .ok (c, s) => match take ["of"] s with
    | .error e => .error e
    | .ok (_, s) => match takeN 0 5 s with
      | .error e => .error e
      | .ok (k, s) => if some k = bar then .error (s.1 - 1) else .ok ((c, k), s)
def takeF2 (f : Int × Int) (s : RSt) : Except Nat (List (Int × Int) × RSt) := if s.2.head? = some ("and" : Str) then (match takeF (some f.2) (s.1 + 1, s.2.tail) with
    | .error e => .error e
    | .ok (g, s) => .ok ([f, g], s)) else .ok ([f], s)
def takeW (s : RSt) : Except Nat (Option Int × RSt) := if s.2.head? = some ("window" : Str) then (match takeN 1 GR (s.1 + 1, s.2.tail) with
    | .error e => .error e
    | .ok (v, s) => .ok (some v, s)) else .ok (none, s)
def takeS (s : RSt) : Except Nat (Stm × RSt) := match takeF none s with
  | .error e => .error e
  | .ok (f, s) => match takeF2 f s with
    | .error e => .error e
    | .ok (fl, s) => match takeW s with
      | .error e => .error e
      | .ok (w, s) => .ok (.send fl w, s)
def close : RSt → List Stm → List (Int × List Stm) → RSt × List Stm × List (Int × List Stm)
  | s, cur, [] => (s, cur, [])
  | s, cur, (n, out) :: stk => if s.2.head? = some (")" : Str) then close (s.1 + 1, s.2.tail) (out ++ [.again n cur]) stk else (s, cur, (n, out) :: stk)
def loop : Nat → RSt → List Stm → List (Int × List Stm) → Nat → Nat → Except Nat (List Stm × Nat × Nat)
  | 0, s, _, _, _, _ => .error s.1
  | f + 1, s, cur, stk, d, m => match take ["send", "again"] s with
    | .error e => .error e
    | .ok (w, s) => if w = "again" then (match takeN 1 GR s with
        | .error e => .error e
        | .ok (n, s) => match take ["("] s with
          | .error e => .error e
          | .ok (_, s) => loop f s [] ((n, cur) :: stk) (max d (stk.length + 1)) m)
      else match takeS s with
        | .error e => .error e
        | .ok (x, s) => if (close s (cur ++ [x]) stk).2.2 ≠ [] ∨ (close s (cur ++ [x]) stk).1.2 ≠ [] then (match take [";"] (close s (cur ++ [x]) stk).1 with
            | .error e => .error e
            | .ok (_, s') => loop f s' (close s (cur ++ [x]) stk).2.1 (close s (cur ++ [x]) stk).2.2 d (m + 1))
          else .ok ((close s (cur ++ [x]) stk).2.1, d, m + 1)
def readHost (ws : List Str) : Except Nat (List Stm × Nat × Nat) := match take ["host"] (0, ws) with
  | .error e => .error e
  | .ok (_, s) => loop (ws.length + 1) s [] [] 0 0
def readLines : Nat → List Str → List (List Stm) → Nat → Nat → Except (Nat × Nat) (List (List Stm) × Nat × Nat)
  | _, [], hs, d, m => .ok (hs, d, m)
  | k, l :: ls, hs, d, m => match readHost (Txt.split l " ") with
    | .error e => .error (k + 1, e)
    | .ok (h, dd, mm) => readLines (k + 1) ls (hs ++ [h]) (max d dd) (m + mm)
inductive PR where
  | ok (p : List (List Stm)) | bad (line word : Nat) | great (what : Str)
def readProg (x : Str) : PR := match readLines 0 (Txt.split x "\n") [] 0 0 with
  | .error (l, w) => .bad l w
  | .ok (hs, d, m) => if hs.length > 3 then .great "hosts" else if d > 3 then .great "depth" else if m > 6 then .great "sends" else .ok hs
end HW
namespace HW
open PySem PySem.Spec PyProof.Rows L2 OT TL
mutual
theorem eqS_sT : ∀ s : Stm, eqS (sT s) (sT s) = true
  | .send fl w => by
    have h1 : eqSs (fl.map flT) (fl.map flT) = true := eqSs_map fun q _ => by simp [flT, eqS, eqSs]
    have h2 : eqS (opT w) (opT w) = true := by cases w <;> simp [opT, eqS]
    show (eqS (.str "send") (.str "send") && (eqSs (fl.map flT) (fl.map flT) && (eqS (opT w) (opT w) && true))) = true
    rw [h1, h2]; simp [eqS]
  | .again n b => by
    show (eqS (.str "again") (.str "again") && (eqS (.int n) (.int n) && (eqSs (ssT b) (ssT b) && true))) = true
    rw [eqSs_ssT b]; simp [eqS]
theorem eqSs_ssT : ∀ l : List Stm, eqSs (ssT l) (ssT l) = true
  | [] => rfl
  | s :: r => by
    show (eqS (sT s) (sT s) && eqSs (ssT r) (ssT r)) = true
    rw [eqS_sT s, eqSs_ssT r]; rfl
end
theorem eqS_pT (p : List (List Stm)) : eqS (pT p) (pT p) = true := eqSs_map fun l _ => eqSs_ssT l
mutual
theorem ht_sT : ∀ s : Stm, ht (sT s) ≤ 3 + 2 * dep s
  | .send fl w => by
    have h1 : hts (fl.map flT) ≤ 1 := hts_le fun t ht' => by
      obtain ⟨q, _, rfl⟩ := List.mem_map.mp ht'
      exact Nat.le_refl _
    have h2 : ht (opT w) = 0 := by cases w <;> rfl
    show max 0 (max (hts (fl.map flT) + 1) (max (ht (opT w)) 0)) + 1 ≤ _
    omega
  | .again n b => by
    have h := hts_ssT b
    show max 0 (max 0 (max (hts (ssT b) + 1) 0)) + 1 ≤ 3 + 2 * (deps b + 1)
    omega
theorem hts_ssT : ∀ l : List Stm, hts (ssT l) ≤ 3 + 2 * deps l
  | [] => Nat.zero_le _
  | s :: r => by
    have h1 := ht_sT s
    have h2 := hts_ssT r
    show max (ht (sT s)) (hts (ssT r)) ≤ 3 + 2 * max (dep s) (deps r)
    omega
end
end HW
namespace HW
open PySem PySem.Spec PyProof.Rows L2 OT TL
theorem take_nil {al : List Str} {s : RSt} (h : s.2 = []) : take al s = .error s.1 := by
  obtain ⟨p, r⟩ := s
  cases h
  rfl
theorem take_yes {al : List Str} {s : RSt} {w : Str} {r : List Str} (h : s.2 = w :: r) (m : w ∈ al) : take al s = .ok (w, s.1 + 1, r) := by
  obtain ⟨p, r⟩ := s
  cases h
  exact if_pos m
theorem take_no {al : List Str} {s : RSt} {w : Str} {r : List Str} (h : s.2 = w :: r) (m : w ∉ al) : take al s = .error s.1 := by
  obtain ⟨p, r⟩ := s
  cases h
  exact if_neg m
theorem takeN_no {lo hi : Int} {s : RSt} (h : numOf s.2.head? = none) : takeN lo hi s = .error s.1 := by
  unfold takeN
  rw [h]
theorem takeN_yes {lo hi v : Int} {s : RSt} (h : numOf s.2.head? = some v) (b : lo ≤ v ∧ v ≤ hi) : takeN lo hi s = .ok (v, s.1 + 1, s.2.tail) := by
  unfold takeN
  rw [h]
  exact if_pos b
theorem takeN_out {lo hi v : Int} {s : RSt} (h : numOf s.2.head? = some v) (b : ¬ (lo ≤ v ∧ v ≤ hi)) : takeN lo hi s = .error s.1 := by
  unfold takeN
  rw [h]
  exact if_neg b
end HW
namespace HW
open PySem PySem.Spec PyProof.Rows L2 OT TL
/-! ### parts of a text -/
theorem joinL_len {S : List Nat} : ∀ {parts : List (List Nat)}, parts ≠ [] → (joinL S parts).length + S.length = (parts.map fun p => p.length + S.length).sum
  | [], h => absurd rfl h
  | [p], _ => by simp [joinL]
  | p :: q :: r, _ => by
    have ih := joinL_len (S := S) (parts := q :: r) (by simp)
    show (p ++ (S ++ joinL S (q :: r))).length + S.length = p.length + S.length + ((q :: r).map fun p => p.length + S.length).sum
    rw [← ih]
    simp only [List.length_append]
    omega
theorem sum_mem : ∀ {l : List Nat} {a : Nat}, a ∈ l → a ≤ l.sum
  | x :: l, a, h => by
    rcases List.mem_cons.mp h with e | e
    · rw [e]; simp
    · have := sum_mem e
      simp
      omega
theorem sum_len {α : Type} {f : α → Nat} {c : Nat} : ∀ {l : List α}, (∀ x ∈ l, c ≤ f x) → l.length * c ≤ (l.map f).sum
  | [], _ => by simp
  | x :: l, h => by
    have h1 := h x (by simp)
    have h2 := sum_len (l := l) (f := f) (c := c) fun y hy => h y (by simp [hy])
    simp [Nat.add_mul]
    omega
theorem slen (x : Str) : x.length = (tl x).length := by show x.cps.size = x.cps.toList.length; simp
theorem split_lim {x y : Str} (hy : 1 ≤ y.length) : (Txt.split x y).length ≤ x.length + 1 ∧ ∀ p ∈ Txt.split x y, p.length ≤ x.length := by
  have e := congrArg tl (StrLaws.join_split x y)
  rw [tl_join] at e
  cases hp : Txt.split x y with
  | nil => exact ⟨by simp, fun p h => nomatch h⟩
  | cons a r =>
    rw [hp] at e
    have z := joinL_len (S := tl y) (parts := (a :: r).map tl) (by simp)
    rw [e, ← slen, ← slen] at z
    have l1 : (a :: r).length * 1 ≤ (((a :: r).map tl).map fun p => p.length + y.length).sum := by
      have := sum_len (l := (a :: r).map tl) (f := fun p => p.length + y.length) (c := y.length) (fun q _ => by omega)
      rw [List.length_map] at this
      have h2 : (a :: r).length * 1 ≤ (a :: r).length * y.length := Nat.mul_le_mul_left _ hy
      omega
    have l3 : (a :: r).length * y.length ≤ x.length + y.length := by
      rw [z]
      have := sum_len (l := (a :: r).map tl) (f := fun p => p.length + y.length) (c := y.length) (fun q _ => by omega)
      rw [List.length_map] at this
      exact this
    refine ⟨?_, fun p h => ?_⟩
    · have h4 : ((a :: r).length - 1) * y.length + y.length = (a :: r).length * y.length := by
        have : (a :: r).length = ((a :: r).length - 1) + 1 := by simp
        rw [this, Nat.add_mul]
        simp
      have h5 : ((a :: r).length - 1) * 1 ≤ ((a :: r).length - 1) * y.length := Nat.mul_le_mul_left _ hy
      have h6 : (a :: r).length ≥ 1 := by simp
      omega
    · have h7 : (tl p).length + y.length ∈ ((a :: r).map tl).map fun p => p.length + y.length := List.mem_map.mpr ⟨tl p, List.mem_map.mpr ⟨p, h, rfl⟩, rfl⟩
      have h8 := sum_mem h7
      rw [← z] at h8
      rw [slen p]
      omega
end HW
namespace HW
open PySem PySem.Spec PyProof.Rows L2 OT TL
/-! ### lengths of texts -/
theorem app_len (x y : Str) : (x ++ y).length = x.length + y.length := Str.length_append x y
theorem nm_len {n : Int} (h : 0 ≤ n ∧ n ≤ GR) : (nm n).length ≤ 31 := by
  obtain ⟨h0, h1⟩ := h
  obtain ⟨m, rfl⟩ := Int.eq_ofNat_of_zero_le h0
  have hm : m < 10 ^ 31 := by
    have e : (10 : Nat) ^ 31 = 10000000000000000000000000000000 := by decide
    unfold GR at h1
    rw [e]
    omega
  have z := numL_len (n := m) (k := 31) (by decide) hm
  rw [slen]
  show (tl (Str.ofString (toString ((m : Nat) : Int)))).length ≤ 31
  rw [tl_num]
  exact z
theorem log_ok {n : Int} (h : 0 ≤ n ∧ n ≤ GR) : n.natAbs.log2 < 1920 := by
  have hm : n.natAbs < 2 ^ 120 := by
    have e : (2 : Nat) ^ 120 = 1329227995784915872903807060280344576 := by decide
    unfold GR at h
    rw [e]
    omega
  exact Nat.lt_trans (log_lt hm (by decide)) (by decide)
theorem join_len (y : Str) (xs : List Str) : (Txt.join y xs).length ≤ (xs.map (·.length)).sum + xs.length * y.length := by
  rw [join_eq]
  exact StrLaws.join_length_le y xs
theorem wfN.b {n : Int} (h : wfN n) : 0 ≤ n ∧ n ≤ GR := ⟨by have := h.1; omega, h.2⟩
theorem kind_b {q : Int × Int} (h : wfF q) : 0 ≤ q.2 ∧ q.2 ≤ GR := ⟨h.2.1, by have := h.2.2; unfold GR; omega⟩
theorem flW_len {q : Int × Int} (h : wfF q) : (flW q).length ≤ 66 := by
  have h1 := nm_len h.1.b
  have h2 := nm_len (kind_b h)
  have e : (" of " : Str).length = 4 := by decide +kernel
  have e0 : (Str.empty : Str).length = 0 := rfl
  unfold flW
  rw [app_len, app_len, app_len, e, e0]
  omega
theorem wfSend.fl {fl : List (Int × Int)} {w : Option Int} (h : wfSend fl w) : (∀ q ∈ fl, wfF q) ∧ fl.length ≤ 2 ∧ fl ≠ [] := by
  rcases h.1 with ⟨a, rfl, ha⟩ | ⟨a, b, rfl, ha, hb, _⟩
  · exact ⟨by simpa using ha, by simp, by simp⟩
  · exact ⟨by simpa using ⟨ha, hb⟩, by simp, by simp⟩
theorem sum_le {α : Type} {f : α → Nat} {c : Nat} : ∀ {l : List α}, (∀ x ∈ l, f x ≤ c) → (l.map f).sum ≤ l.length * c
  | [], _ => by simp
  | x :: l, h => by
    have h1 := h x (by simp)
    have h2 := sum_le (l := l) (f := f) (c := c) fun y hy => h y (by simp [hy])
    simp [Nat.add_mul]
    omega
theorem flows_len {fl : List (Int × Int)} {w : Option Int} (h : wfSend fl w) : ((fl.map flW).map (·.length)).sum + (" and " : Str).length * (fl.map flW).length ≤ 142 ∧ (Txt.join " and " (fl.map flW)).length ≤ 142 := by
  obtain ⟨h1, h2, _⟩ := h.fl
  have e : (" and " : Str).length = 5 := by decide +kernel
  have z : ((fl.map flW).map (·.length)).sum ≤ (fl.map flW).length * 66 := sum_le fun x hx => by
    obtain ⟨q, hq, rfl⟩ := List.mem_map.mp hx
    exact flW_len (h1 q hq)
  have j := join_len " and " (fl.map flW)
  rw [e] at j ⊢
  rw [List.length_map] at z j ⊢
  omega
theorem sendW_len {fl : List (Int × Int)} {w : Option Int} (h : wfSend fl w) : (sendW fl w).length ≤ 186 := by
  have j := (flows_len h).2
  have e : ("send " : Str).length = 5 := by decide +kernel
  have e2 : (" window " : Str).length = 8 := by decide +kernel
  have e0 : (Str.empty : Str).length = 0 := rfl
  cases w with
  | none =>
    unfold sendW
    rw [app_len, app_len, e, e0]
    omega
  | some x =>
    have hx := nm_len (h.2 x rfl).b
    unfold sendW
    rw [app_len, app_len, app_len, app_len, e, e0, e2]
    omega
mutual
theorem stW_len : ∀ {s : Stm}, wf s → (stW s).length + 10 ≤ 200 * nod s
  | .send fl w, h => by
    have := sendW_len (show wfSend fl w from h)
    show (sendW fl w).length + 10 ≤ 200 * 1
    omega
  | .again n b, ⟨hn, hb, h⟩ => by
    have z := stWs_len h
    have h1 := nm_len hn.b
    have e1 : ("again " : Str).length = 6 := by decide +kernel
    have e2 : (" ( " : Str).length = 3 := by decide +kernel
    have e3 : (" )" : Str).length = 2 := by decide +kernel
    have e4 : (" ; " : Str).length = 3 := by decide +kernel
    have e0 : (Str.empty : Str).length = 0 := rfl
    have j := join_len " ; " (stWs b)
    show (Str.empty ++ "again " ++ nm n ++ " ( " ++ Txt.join " ; " (stWs b) ++ " )").length + 10 ≤ 200 * (nods b + 1)
    rw [app_len, app_len, app_len, app_len, app_len, e0, e1, e2, e3]
    rw [e4] at j
    omega
theorem stWs_len : ∀ {l : List Stm}, wfs l → ((stWs l).map (·.length)).sum + (stWs l).length * 10 ≤ 200 * nods l
  | [], _ => Nat.zero_le _
  | s :: r, ⟨h1, h2⟩ => by
    have a := stW_len h1
    have b := stWs_len h2
    show (stW s).length + ((stWs r).map (·.length)).sum + ((stWs r).length + 1) * 10 ≤ 200 * (nod s + nods r)
    rw [Nat.add_mul]
    omega
end
theorem rowW_len {l : List Stm} (h : wfs l) : ((stWs l).map (·.length)).sum + (" ; " : Str).length * (stWs l).length ≤ 200 * nods l ∧ (rowW l).length ≤ 200 * nods l := by
  have z := stWs_len h
  have e4 : (" ; " : Str).length = 3 := by decide +kernel
  have j := join_len " ; " (stWs l)
  rw [e4] at j ⊢
  unfold rowW
  omega
theorem strsT_map {α : Type} {f : α → Str} : ∀ {l : List α}, strsT (l.map fun x => T.str (f x)) = some (l.map f)
  | [] => rfl
  | x :: l => by
    show (strsT (l.map fun x => T.str (f x))).map (f x :: ·) = _
    rw [strsT_map]
    rfl
theorem ht_again (n : Int) (b : List Stm) : ht (sT (.again n b)) = ht (hT b) + 1 := by
  show max 0 (max 0 (max (hts (ssT b) + 1) 0)) + 1 = hts (ssT b) + 1 + 1
  omega
theorem ht_pos (s : Stm) : 1 ≤ ht (sT s) := by cases s <;> exact Nat.succ_le_succ (Nat.zero_le _)
theorem hts_one (t : T) : hts [t] = ht t := by show max (ht t) 0 = _; omega
theorem ht_hT {l : List Stm} {s : Stm} (h : s ∈ l) : ht (sT s) < ht (hT l) := by
  show ht (sT s) < hts (ssT l) + 1
  rw [ssT_map]
  exact Nat.lt_succ_of_le (ht_mem (List.mem_map.mpr ⟨s, h, rfl⟩))
theorem ht_pT {p : List (List Stm)} {l : List Stm} (h : l ∈ p) : ht (hT l) < ht (pT p) :=
  Nat.lt_succ_of_le (ht_mem (List.mem_map.mpr ⟨l, h, rfl⟩))
end HW
namespace HW
open PySem PySem.Spec PyProof.Rows L2 OT TL
mutual
theorem sendsOf_len : ∀ s : Stm, (sendsOf s).length ≤ nod s
  | .send _ _ => Nat.le_refl _
  | .again _ b => Nat.le_succ_of_le (sendsOfs_len b)
theorem sendsOfs_len : ∀ l : List Stm, (sendsOfs l).length ≤ nods l
  | [] => Nat.le_refl _
  | s :: r => by
    have h1 := sendsOf_len s
    have h2 := sendsOfs_len r
    show (sendsOf s ++ sendsOfs r).length ≤ nod s + nods r
    rw [List.length_append]
    omega
end
theorem sendsOfs_app : ∀ l m : List Stm, sendsOfs (l ++ m) = sendsOfs l ++ sendsOfs m
  | [], m => rfl
  | s :: l, m => by
    show sendsOf s ++ sendsOfs (l ++ m) = (sendsOf s ++ sendsOfs l) ++ sendsOfs m
    rw [sendsOfs_app l m, List.append_assoc]
theorem sendsOfs_one (s : Stm) : sendsOfs [s] = sendsOf s := List.append_nil _
mutual
theorem sendsOf_wf : ∀ {s : Stm}, wf s → wfs (sendsOf s)
  | .send _ _, h => ⟨h, trivial⟩
  | .again _ _, ⟨_, _, h⟩ => sendsOfs_wf h
theorem sendsOfs_wf : ∀ {l : List Stm}, wfs l → wfs (sendsOfs l)
  | [], _ => trivial
  | _ :: _, ⟨h1, h2⟩ => wfs_app (sendsOf_wf h1) (sendsOfs_wf h2)
end
mutual
theorem sendsOf_dep : ∀ s : Stm, deps (sendsOf s) = 0
  | .send _ _ => rfl
  | .again _ b => sendsOfs_dep b
theorem sendsOfs_dep : ∀ l : List Stm, deps (sendsOfs l) = 0
  | [] => rfl
  | s :: r => by
    show deps (sendsOf s ++ sendsOfs r) = 0
    rw [deps_app, sendsOf_dep s, sendsOfs_dep r]
    rfl
end
mutual
theorem sendsOf_ne : ∀ {s : Stm}, wf s → sendsOf s ≠ []
  | .send _ _, _ => by simp [sendsOf]
  | .again _ b, ⟨_, hb, h⟩ => sendsOfs_ne h hb
theorem sendsOfs_ne : ∀ {l : List Stm}, wfs l → l ≠ [] → sendsOfs l ≠ []
  | [], _, h => absurd rfl h
  | s :: r, ⟨h1, _⟩, _ => by
    have := sendsOf_ne h1
    show sendsOf s ++ sendsOfs r ≠ []
    simp [this]
end
end HW
namespace HW
open PySem PySem.Spec PyProof.Rows L2 OT TL
/-! ### a program that is made -/
def okS : List Stm → List (Int × List Stm) → Prop
  | cur, [] => wfs cur ∧ deps cur ≤ 3
  | cur, (n, out) :: r => wfs cur ∧ deps cur + (r.length + 1) ≤ 3 ∧ wfN n ∧ okS out r
def tot : List Stm → List (Int × List Stm) → Nat
  | cur, [] => cnts cur
  | cur, (_, out) :: r => cnts cur + tot out r
theorem okS.wf {cur : List Stm} {stk : List (Int × List Stm)} (h : okS cur stk) : wfs cur ∧ deps cur + stk.length ≤ 3 := by
  cases stk with
  | nil => exact ⟨h.1, h.2⟩
  | cons q r => exact ⟨h.1, h.2.1⟩
theorem okS.push {cur : List Stm} {stk : List (Int × List Stm)} {n : Int} (h : okS cur stk) (hn : wfN n) (hl : stk.length + 1 ≤ 3) : okS [] ((n, cur) :: stk) := ⟨trivial, by show 0 + (stk.length + 1) ≤ 3; omega, hn, h⟩
theorem tot_push {cur : List Stm} {stk : List (Int × List Stm)} {n : Int} : tot [] ((n, cur) :: stk) = tot cur stk := Nat.zero_add _
theorem okS.add {cur : List Stm} {stk : List (Int × List Stm)} {s : Stm} (h : okS cur stk) (hs : HW.wf s) (hd : dep s + stk.length ≤ 3) : okS (cur ++ [s]) stk := by
  have w : wfs (cur ++ [s]) := wfs_app h.wf.1 ⟨hs, trivial⟩
  have d : deps (cur ++ [s]) + stk.length ≤ 3 := by
    rw [deps_app]
    have := h.wf.2
    show max (deps cur) (max (dep s) 0) + stk.length ≤ 3
    omega
  cases stk with
  | nil => exact ⟨w, d⟩
  | cons q r => exact ⟨w, d, h.2.2.1, h.2.2.2⟩
theorem tot_add {cur : List Stm} {stk : List (Int × List Stm)} {s : Stm} : tot (cur ++ [s]) stk = tot cur stk + cnt s := by
  cases stk with
  | nil =>
    show cnts (cur ++ [s]) = cnts cur + cnt s
    rw [cnts_app]
    rfl
  | cons q r =>
    show cnts (cur ++ [s]) + tot q.2 r = cnts cur + tot q.2 r + cnt s
    rw [cnts_app]
    show cnts cur + (cnt s + 0) + _ = _
    omega
theorem okS.close {cur out : List Stm} {r : List (Int × List Stm)} {n : Int} (h : okS cur ((n, out) :: r)) (hne : cur ≠ []) : okS (out ++ [.again n cur]) r :=
  okS.add h.2.2.2 ⟨h.2.2.1, hne, h.1⟩ (by
    have := h.2.1
    show deps cur + 1 + r.length ≤ 3
    omega)
theorem tot_close {cur out : List Stm} {r : List (Int × List Stm)} {n : Int} : tot (out ++ [.again n cur]) r = tot cur ((n, out) :: r) := by
  rw [tot_add]
  show tot out r + cnts cur = cnts cur + tot out r
  omega
theorem cnts_len : ∀ {l : List Stm}, wfs l → l.length ≤ cnts l
  | [], _ => Nat.le_refl _
  | s :: r, ⟨h1, h2⟩ => by
    have a := (nod_le h1).2
    have b := cnts_len h2
    show r.length + 1 ≤ cnt s + cnts r
    omega
theorem tot_len {cur : List Stm} {stk : List (Int × List Stm)} (h : okS cur stk) : cur.length ≤ tot cur stk := by
  have a := cnts_len h.wf.1
  cases stk with
  | nil => exact a
  | cons q r => exact Nat.le_trans a (Nat.le_add_right _ _)
end HW
namespace HW
open PySem PySem.Spec PyProof.Rows L2 OT TL
mutual
theorem ln_sT : ∀ {s : Stm}, wf s → nod s ≤ 300000 → lnB (sT s) = true
  | .send fl w, h, _ => by
    have h1 : lnBs (fl.map flT) = true := lnBs_map fun _ _ => rfl
    have h2 : lnB (opT w) = true := by cases w <;> rfl
    have h3 : decide ((fl.map flT).length ≤ 1000000) = true := by
      rw [List.length_map]
      have := (show wfSend fl w from h).fl.2.1
      exact decide_eq_true (by omega)
    show (decide (3 ≤ 1000000) && (lnB (.str "send") && ((decide ((fl.map flT).length ≤ 1000000) && lnBs (fl.map flT)) && (lnB (opT w) && true)))) = true
    rw [h1, h2, h3]; rfl
  | .again n b, ⟨_, _, h⟩, hn => by
    have hn : nods b + 1 ≤ 300000 := hn
    have h1 := ln_ssT h (by omega)
    show (decide (3 ≤ 1000000) && (lnB (.str "again") && (lnB (.int n) && (lnB (.tup (ssT b)) && true)))) = true
    rw [h1]; rfl
theorem ln_ssT : ∀ {l : List Stm}, wfs l → nods l ≤ 300000 → lnB (.tup (ssT l)) = true
  | l, h, hn => by
    have h1 := nods_len l
    have h2 := lns_ssT h hn
    have h3 : decide ((ssT l).length ≤ 1000000) = true := by
      rw [ssT_map, List.length_map]
      exact decide_eq_true (by omega)
    show (decide ((ssT l).length ≤ 1000000) && lnBs (ssT l)) = true
    rw [h2, h3]; rfl
theorem lns_ssT : ∀ {l : List Stm}, wfs l → nods l ≤ 300000 → lnBs (ssT l) = true
  | [], _, _ => rfl
  | s :: r, ⟨h1, h2⟩, hn => by
    have hn : nod s + nods r ≤ 300000 := hn
    show (lnB (sT s) && lnBs (ssT r)) = true
    rw [ln_sT h1 (by omega), lns_ssT h2 (by omega)]; rfl
end
theorem ln_hT {l : List Stm} (h : wfs l) (hn : nods l ≤ 300000) : lnB (hT l) = true := ln_ssT h hn
theorem ln_pT {p : List (List Stm)} (h : ∀ l ∈ p, wfs l ∧ nods l ≤ 300000) (hp : p.length ≤ 1000000) : lnB (pT p) = true := by
  have h1 : lnBs (p.map hT) = true := lnBs_map fun l hl => ln_hT (h l hl).1 (h l hl).2
  show (decide ((p.map hT).length ≤ 1000000) && lnBs (p.map hT)) = true
  rw [h1, List.length_map, decide_eq_true hp]; rfl
end HW
namespace HW
open PySem PySem.Spec PyProof.Rows L2 OT TL
theorem e_app (x : Str) : Str.empty ++ x = x := by
  apply ext_tl
  rw [tl_append]
  rfl
theorem a_app (x y z : Str) : x ++ y ++ z = x ++ (y ++ z) := by
  apply ext_tl
  rw [tl_append, tl_append, tl_append, tl_append, List.append_assoc]
def flV (q : Int × Int) : Str := nm q.1 ++ " of " ++ nm q.2
theorem flV_eq (q : Int × Int) : flV q = flW q := by unfold flV flW; rw [e_app]
theorem flV_map (fl : List (Int × Int)) : fl.map flV = fl.map flW := List.map_congr_left fun q _ => flV_eq q
theorem sendV_none (fl : List (Int × Int)) : ("send " : Str) ++ Txt.join " and " (fl.map flV) = stW (.send fl none) := by
  show _ = Str.empty ++ "send " ++ Txt.join " and " (fl.map flW)
  rw [e_app, flV_map]
theorem sendV_some (fl : List (Int × Int)) (x : Int) : ("send " : Str) ++ (Txt.join " and " (fl.map flV) ++ " window " ++ nm x) = stW (.send fl (some x)) := by
  show _ = Str.empty ++ "send " ++ Txt.join " and " (fl.map flW) ++ " window " ++ nm x
  rw [e_app, flV_map, a_app, a_app, a_app]
theorem againV (n : Int) (b : List Stm) : ("again " : Str) ++ nm n ++ " ( " ++ rowW b ++ " )" = stW (.again n b) := by
  show _ = Str.empty ++ "again " ++ nm n ++ " ( " ++ Txt.join " ; " (stWs b) ++ " )"
  rw [e_app]
  rfl
theorem flV_len {q : Int × Int} (h : wfF q) : (flV q).length ≤ 66 := by rw [flV_eq]; exact flW_len h
end HW
end
section
set_option Elab.async false
set_option linter.all false
set_option maxRecDepth 100000
set_option maxHeartbeats 2000000
namespace HW
open PySem PySem.Spec PyProof.Rows L2 OT TL
/-! ### the words of a program's text -/
def flWd (q : Int × Int) : List Str := [nm q.1, "of", nm q.2]
def flsWd : List (Int × Int) → List Str
  | [] => []
  | [a] => flWd a
  | a :: r => flWd a ++ ("and" : Str) :: flsWd r
def winWd : Option Int → List Str
  | none => []
  | some x => ["window", nm x]
mutual
def stWd : Stm → List Str
  | .send fl w => ("send" : Str) :: (flsWd fl ++ winWd w)
  | .again n b => ("again" : Str) :: nm n :: ("(" : Str) :: (rowWd b ++ [(")" : Str)])
def rowWd : List Stm → List Str
  | [] => []
  | s :: r => stWd s ++ tailWd r
def tailWd : List Stm → List Str
  | [] => []
  | s :: r => (";" : Str) :: (stWd s ++ tailWd r)
end
theorem tailWd_cons (s : Stm) (r : List Stm) : tailWd (s :: r) = (";" : Str) :: rowWd (s :: r) := rfl
/-- words of the language: neither a blank nor a line's end in them -/
def okW (w : Str) : Prop := (32 : Nat) ∉ tl w ∧ (10 : Nat) ∉ tl w
theorem nm_nat {n : Int} (h : 0 ≤ n) : tl (nm n) = numL n.toNat := by
  obtain ⟨m, rfl⟩ := Int.eq_ofNat_of_zero_le h
  exact tl_num m
theorem okW_nm {n : Int} (h : 0 ≤ n) : okW (nm n) := by
  unfold okW
  rw [nm_nat h]
  exact ⟨numL_free (.inl (by decide)), numL_free (.inl (by decide))⟩
theorem okW_of {w : Str} (h : ((tl w).all fun c => decide (c ≠ 32) && decide (c ≠ 10)) = true) : okW w := by
  constructor <;> (intro hm; have := List.all_eq_true.mp h _ hm; simp at this)
theorem okW_fl {q : Int × Int} (h : wfF q) : ∀ w ∈ flWd q, okW w := by
  intro w hw
  simp only [flWd, List.mem_cons, List.not_mem_nil, or_false] at hw
  rcases hw with rfl | rfl | rfl
  · exact okW_nm h.1.b.1
  · exact okW_of (by decide +kernel)
  · exact okW_nm (kind_b h).1
theorem okW_fls : ∀ {fl : List (Int × Int)}, (∀ q ∈ fl, wfF q) → ∀ w ∈ flsWd fl, okW w
  | [], _, _, h => by cases h
  | [a], h, w, hw => okW_fl (h a (by simp)) w hw
  | a :: b :: r, h, w, hw => by
    rcases List.mem_append.mp (show w ∈ flWd a ++ ("and" : Str) :: flsWd (b :: r) from hw) with hw | hw
    · exact okW_fl (h a (by simp)) w hw
    · rcases List.mem_cons.mp hw with rfl | hw
      · exact okW_of (by decide +kernel)
      · exact okW_fls (fun q hq => h q (by simp [hq])) w hw
mutual
theorem okW_st : ∀ {s : Stm}, wf s → ∀ w ∈ stWd s, okW w
  | .send fl wd, h, w, hw => by
    have h := (show wfSend fl wd from h)
    rcases List.mem_cons.mp (show w ∈ ("send" : Str) :: (flsWd fl ++ winWd wd) from hw) with rfl | hw
    · exact okW_of (by decide +kernel)
    · rcases List.mem_append.mp hw with hw | hw
      · exact okW_fls h.fl.1 w hw
      · cases wd with
        | none => cases hw
        | some x =>
          simp only [winWd, List.mem_cons, List.not_mem_nil, or_false] at hw
          rcases hw with rfl | rfl
          · exact okW_of (by decide +kernel)
          · exact okW_nm (h.2 x rfl).b.1
  | .again n b, ⟨hn, _, h⟩, w, hw => by
    rcases List.mem_cons.mp (show w ∈ ("again" : Str) :: nm n :: ("(" : Str) :: (rowWd b ++ [(")" : Str)]) from hw) with rfl | hw
    · exact okW_of (by decide +kernel)
    rcases List.mem_cons.mp hw with rfl | hw
    · exact okW_nm hn.b.1
    rcases List.mem_cons.mp hw with rfl | hw
    · exact okW_of (by decide +kernel)
    rcases List.mem_append.mp hw with hw | hw
    · exact okW_row h w hw
    · rw [List.mem_singleton.mp hw]
      exact okW_of (by decide +kernel)
theorem okW_row : ∀ {l : List Stm}, wfs l → ∀ w ∈ rowWd l, okW w
  | [], _, _, hw => by cases hw
  | s :: r, ⟨h1, h2⟩, w, hw => by
    rcases List.mem_append.mp (show w ∈ stWd s ++ tailWd r from hw) with hw | hw
    · exact okW_st h1 w hw
    · exact okW_tail h2 w hw
theorem okW_tail : ∀ {l : List Stm}, wfs l → ∀ w ∈ tailWd l, okW w
  | [], _, _, hw => by cases hw
  | s :: r, ⟨h1, h2⟩, w, hw => by
    rcases List.mem_cons.mp (show w ∈ (";" : Str) :: (stWd s ++ tailWd r) from hw) with rfl | hw
    · exact okW_of (by decide +kernel)
    rcases List.mem_append.mp hw with hw | hw
    · exact okW_st h1 w hw
    · exact okW_tail h2 w hw
end
/-! ### a text is its words, joined -/
abbrev B : List Nat := [32]
theorem joinL_cons {S p : List Nat} {r : List (List Nat)} (h : r ≠ []) : joinL S (p :: r) = p ++ (S ++ joinL S r) := by
  cases r with
  | nil => exact absurd rfl h
  | cons q r => rfl
theorem joinL_app {S : List Nat} : ∀ {xs ys : List (List Nat)}, xs ≠ [] → ys ≠ [] → joinL S (xs ++ ys) = joinL S xs ++ (S ++ joinL S ys)
  | [], _, h, _ => absurd rfl h
  | [p], ys, _, hy => joinL_cons hy
  | p :: q :: r, ys, _, hy => by
    rw [List.cons_append, joinL_cons (by simp), joinL_app (by simp) hy, joinL_cons (r := q :: r) (by simp)]
    simp only [List.append_assoc]
def jw (ws : List Str) : List Nat := joinL B (ws.map tl)
theorem jw_app {xs ys : List Str} (hx : xs ≠ []) (hy : ys ≠ []) : jw (xs ++ ys) = jw xs ++ (B ++ jw ys) := by
  unfold jw
  rw [List.map_append]
  exact joinL_app (by simpa using hx) (by simpa using hy)
theorem jw_one (w : Str) : jw [w] = tl w := rfl
theorem jw_cons {w : Str} {r : List Str} (h : r ≠ []) : jw (w :: r) = tl w ++ (B ++ jw r) := joinL_cons (by simpa using h)
theorem tl_fl (q : Int × Int) : tl (flW q) = jw (flWd q) := by
  have e1 : tl (" of " : Str) = 32 :: (tl ("of" : Str) ++ [32]) := by decide +kernel
  have e0 : tl Str.empty = [] := rfl
  unfold flW flWd
  rw [jw_cons (by simp), jw_cons (by simp), jw_one, tl_append, tl_append, tl_append, e0, e1]
  simp
theorem tl_fls : ∀ {fl : List (Int × Int)}, fl ≠ [] → joinL (tl (" and " : Str)) ((fl.map flW).map tl) = jw (flsWd fl) ∧ flsWd fl ≠ []
  | [], h => absurd rfl h
  | [a], _ => ⟨tl_fl a, by simp [flsWd, flWd]⟩
  | a :: b :: r, _ => by
    obtain ⟨ih, ihn⟩ := tl_fls (fl := b :: r) (by simp)
    have e1 : tl (" and " : Str) = 32 :: (tl ("and" : Str) ++ [32]) := by decide +kernel
    refine ⟨?_, by simp [flsWd, flWd]⟩
    show joinL (tl (" and " : Str)) (tl (flW a) :: ((b :: r).map flW).map tl) = jw (flWd a ++ ("and" : Str) :: flsWd (b :: r))
    rw [joinL_cons (by simp), ih, jw_app (by simp [flWd]) (by simp), jw_cons ihn, tl_fl, e1]
    simp
mutual
theorem tl_st : ∀ {s : Stm}, wf s → tl (stW s) = jw (stWd s) ∧ stWd s ≠ []
  | .send fl w, h => by
    have h := (show wfSend fl w from h)
    obtain ⟨f1, f2⟩ := tl_fls h.fl.2.2
    have e1 : tl ("send " : Str) = tl ("send" : Str) ++ [32] := by decide +kernel
    have e2 : tl (" window " : Str) = 32 :: (tl ("window" : Str) ++ [32]) := by decide +kernel
    have e0 : tl Str.empty = [] := rfl
    have ej : tl (Txt.join " and " (fl.map flW)) = jw (flsWd fl) := by rw [join_eq, tl_join]; exact f1
    refine ⟨?_, by simp [stWd]⟩
    cases w with
    | none =>
      show tl (Str.empty ++ "send " ++ Txt.join " and " (fl.map flW)) = jw (("send" : Str) :: (flsWd fl ++ []))
      rw [List.append_nil, jw_cons f2, tl_append, tl_append, e0, e1, ej]
      simp
    | some x =>
      show tl (Str.empty ++ "send " ++ Txt.join " and " (fl.map flW) ++ " window " ++ nm x) = jw (("send" : Str) :: (flsWd fl ++ [("window" : Str), nm x]))
      rw [jw_cons (by simp [f2]), jw_app f2 (by simp), jw_cons (by simp), jw_one, tl_append, tl_append, tl_append, tl_append, e0, e1, e2, ej]
      simp
  | .again n b, ⟨_, hb, h⟩ => by
    have e1 : tl ("again " : Str) = tl ("again" : Str) ++ [32] := by decide +kernel
    have e2 : tl (" ( " : Str) = 32 :: (tl ("(" : Str) ++ [32]) := by decide +kernel
    have e3 : tl (" )" : Str) = 32 :: tl (")" : Str) := by decide +kernel
    have e0 : tl Str.empty = [] := rfl
    obtain ⟨r1, r2⟩ := tl_row h hb
    refine ⟨?_, by simp [stWd]⟩
    show tl (Str.empty ++ "again " ++ nm n ++ " ( " ++ rowW b ++ " )") = jw (("again" : Str) :: nm n :: ("(" : Str) :: (rowWd b ++ [(")" : Str)]))
    rw [jw_cons (by simp), jw_cons (by simp), jw_cons (by simp), jw_app r2 (by simp), jw_one, tl_append, tl_append, tl_append, tl_append, tl_append, e0, e1, e2, e3, r1]
    simp
theorem tl_row : ∀ {l : List Stm}, wfs l → l ≠ [] → tl (rowW l) = jw (rowWd l) ∧ rowWd l ≠ []
  | [], _, h => absurd rfl h
  | [s], ⟨h1, _⟩, _ => by
    obtain ⟨a, b⟩ := tl_st h1
    have e : rowWd [s] = stWd s := List.append_nil _
    rw [e]
    refine ⟨?_, b⟩
    rw [← a]
    rfl
  | s :: t :: r, ⟨h1, h2⟩, _ => by
    obtain ⟨a, b⟩ := tl_st h1
    obtain ⟨c, d⟩ := tl_row h2 (by simp)
    have e1 : tl (" ; " : Str) = 32 :: (tl (";" : Str) ++ [32]) := by decide +kernel
    refine ⟨?_, by show stWd s ++ _ ≠ []; simp [b]⟩
    show tl (Txt.join " ; " (stW s :: stWs (t :: r))) = jw (stWd s ++ (";" : Str) :: rowWd (t :: r))
    have c : joinL (tl (" ; " : Str)) ((stWs (t :: r)).map tl) = jw (rowWd (t :: r)) := by
      rw [← c]
      unfold rowW
      rw [join_eq, tl_join]
    rw [jw_app b (by simp), jw_cons d, join_eq, tl_join, List.map_cons, joinL_cons (by simp [stWs]), c, a, e1]
    simp
end
theorem host_words {l : List Stm} (h : wfs l) (hl : l ≠ []) : Txt.split (hostW l) " " = ("host" : Str) :: rowWd l := by
  obtain ⟨r1, r2⟩ := tl_row h hl
  have e1 : tl ("host " : Str) = tl ("host" : Str) ++ [32] := by decide +kernel
  have e0 : tl Str.empty = [] := rfl
  have e : hostW l = Txt.join " " (("host" : Str) :: rowWd l) := by
    apply ext_tl
    have eb : tl (" " : Str) = [32] := by decide +kernel
    rw [join_eq, tl_join, eb]
    show _ = jw (("host" : Str) :: rowWd l)
    unfold hostW
    rw [jw_cons r2, tl_append, tl_append, e0, e1, r1]
    simp
  rw [e]
  refine split_join (s := 32) (S := []) (by decide +kernel) (by decide +kernel) (by simp) fun w hw => ?_
  rcases List.mem_cons.mp hw with rfl | hw
  · exact (okW_of (w := "host") (by decide +kernel)).1
  · exact (okW_row h w hw).1
theorem mem_joinL {S : List Nat} {c : Nat} : ∀ {ps : List (List Nat)}, c ∈ joinL S ps → c ∈ S ∨ ∃ p ∈ ps, c ∈ p
  | [], h => by cases h
  | [p], h => .inr ⟨p, by simp, h⟩
  | p :: q :: r, h => by
    rcases List.mem_append.mp (show c ∈ p ++ (S ++ joinL S (q :: r)) from h) with h | h
    · exact .inr ⟨p, by simp, h⟩
    · rcases List.mem_append.mp h with h | h
      · exact .inl h
      · exact (mem_joinL h).imp id fun ⟨x, hx, hc⟩ => ⟨x, by simp [hx], hc⟩
theorem prog_lines {p : List (List Stm)} (hp : p ≠ []) (h : ∀ l ∈ p, wfs l ∧ l ≠ []) : Txt.split (progW p) "\n" = p.map hostW := by
  unfold progW
  refine split_join (s := 10) (S := []) (by decide +kernel) (by decide +kernel) (by simpa using hp) fun w hw => ?_
  obtain ⟨l, hl, rfl⟩ := List.mem_map.mp hw
  obtain ⟨h1, h2⟩ := h l hl
  obtain ⟨r1, r2⟩ := tl_row h1 h2
  have e1 : (10 : Nat) ∉ tl ("host " : Str) := by decide +kernel
  have e0 : tl Str.empty = [] := rfl
  unfold hostW
  rw [tl_append, tl_append, e0, r1]
  intro hm
  rcases List.mem_append.mp hm with hm | hm
  · exact e1 (by simpa using hm)
  · rcases mem_joinL hm with hm | ⟨q, hq, hc⟩
    · simp at hm
    · obtain ⟨w, hw, rfl⟩ := List.mem_map.mp hq
      exact (okW_row h1 w hw).2 hc
end HW
namespace HW
open PySem PySem.Spec PyProof.Rows L2 OT TL
/-! ### the words, read -/
theorem numL_head {n : Nat} (h : 1 ≤ n) : (numL n).head? ≠ some 48 := by
  induction n using Nat.strongRecOn with
  | _ n ih =>
    by_cases h10 : n < 10
    · rw [numL_lt h10]
      simp
      omega
    · rw [numL_step (by omega)]
      have z := ih (n / 10) (by omega) (by omega)
      have ne := numL_ne (n / 10)
      cases e : numL (n / 10) with
      | nil => exact absurd e ne
      | cons c r =>
        rw [e] at z
        simpa using z
theorem num_nm {n : Int} (h : 0 ≤ n ∧ n ≤ GR) : numOf (some (nm n)) = some n := by
  have l := nm_len h
  obtain ⟨m, rfl⟩ := Int.eq_ofNat_of_zero_le h.1
  have e : tl (nm (m : Int)) = numL m := tl_num m
  have ln : (nm (m : Int)).length = (numL m).length := by rw [slen, e]
  have hl0 : (nm (m : Int)).length ≠ 0 := by
    rw [ln]
    exact fun z => numL_ne m (List.length_eq_zero_iff.mp z)
  have y1 : ¬ ((nm (m : Int)).length = 0 ∨ 31 < (nm (m : Int)).length) := by omega
  have y2 : ¬ (tl (nm (m : Int))).all (fun c => decide (48 ≤ c ∧ c ≤ 57)) = false := by
    rw [e, List.all_eq_true.mpr fun c hc => decide_eq_true (by have := numL_digits m c hc; omega)]
    exact fun z => Bool.noConfusion z
  have y3 : ¬ ((tl (nm (m : Int))).head? = some 48 ∧ 1 < (nm (m : Int)).length) := by
    rintro ⟨a, b⟩
    rw [e] at a
    by_cases hm : 1 ≤ m
    · exact numL_head hm a
    · have : m = 0 := by omega
      subst this
      rw [ln, numL_lt (by decide)] at b
      simp at b
  refine (if_neg y1).trans ((if_neg y2).trans ((if_neg y3).trans ?_))
  rw [e, numL_val]
theorem takeN_nm {lo hi n : Int} {p : Nat} {rest : List Str} (h : 0 ≤ n ∧ n ≤ GR) (b : lo ≤ n ∧ n ≤ hi) : takeN lo hi (p, nm n :: rest) = .ok (n, p + 1, rest) :=
  takeN_yes (s := (p, nm n :: rest)) (num_nm h) b
theorem take_w {al : List Str} {w : Str} {p : Nat} {rest : List Str} (m : w ∈ al) : take al (p, w :: rest) = .ok (w, p + 1, rest) := take_yes (s := (p, w :: rest)) rfl m
theorem takeF_ok {q : Int × Int} {bar : Option Int} {p : Nat} {rest : List Str} (h : wfF q) (hb : some q.2 ≠ bar) : takeF bar (p, flWd q ++ rest) = .ok (q, p + 3, rest) := by
  unfold takeF
  show (match takeN 1 GR (p, nm q.1 :: ("of" : Str) :: nm q.2 :: rest) with
    | .error e => _
    | .ok (c, s) => _) = _
  rw [takeN_nm h.1.b ⟨h.1.1, h.1.2⟩]
  dsimp only
  rw [take_w (by simp)]
  dsimp only
  rw [takeN_nm (kind_b h) ⟨h.2.1, h.2.2⟩]
  dsimp only
  rw [if_neg hb]
def okRest (rest : List Str) : Prop := rest.head? ≠ some ("and" : Str) ∧ rest.head? ≠ some ("window" : Str)
theorem takeS_ok {fl : List (Int × Int)} {w : Option Int} {p : Nat} {rest : List Str} (h : wfSend fl w) (hr : okRest rest) : ∃ p', HW.takeS (p, (flsWd fl ++ winWd w) ++ rest) = .ok (.send fl w, p', rest) := by
  have hwin : ∀ p, ∃ p', takeW (p, winWd w ++ rest) = .ok (w, p', rest) := fun p => by
    cases w with
    | none =>
      refine ⟨p, ?_⟩
      unfold takeW
      exact if_neg hr.2
    | some x =>
      refine ⟨p + 1 + 1, ?_⟩
      refine (if_pos (show (winWd (some x) ++ rest).head? = some ("window" : Str) from rfl)).trans ?_
      show (match takeN 1 GR (p + 1, nm x :: rest) with | .error e => _ | .ok (v, s) => _) = _
      rw [takeN_nm (h.2 x rfl).b ⟨(h.2 x rfl).1, (h.2 x rfl).2⟩]
  have hand : (winWd w ++ rest).head? ≠ some ("and" : Str) := by
    cases w with
    | none => exact hr.1
    | some x => show some ("window" : Str) ≠ _; decide +kernel
  rcases h.1 with ⟨a, rfl, ha⟩ | ⟨a, b, rfl, ha, hb, hab⟩
  · obtain ⟨p', e⟩ := hwin (p + 3)
    refine ⟨p', ?_⟩
    unfold HW.takeS
    rw [List.append_assoc]
    show (match takeF none (p, flWd a ++ (winWd w ++ rest)) with | .error e => _ | .ok (f, s) => _) = _
    rw [takeF_ok ha (by simp)]
    dsimp only
    unfold takeF2
    rw [if_neg hand]
    dsimp only
    rw [e]
  · obtain ⟨p', e⟩ := hwin (p + 3 + 1 + 3)
    refine ⟨p', ?_⟩
    unfold HW.takeS
    have e1 : (flsWd [a, b] ++ winWd w) ++ rest = flWd a ++ (("and" : Str) :: (flWd b ++ (winWd w ++ rest))) := by
      show ((flWd a ++ ("and" : Str) :: flWd b) ++ winWd w) ++ rest = _
      simp
    rw [e1, takeF_ok ha (by simp)]
    dsimp only
    have e2 : takeF2 a (p + 3, ("and" : Str) :: (flWd b ++ (winWd w ++ rest))) = .ok ([a, b], p + 3 + 1 + 3, winWd w ++ rest) := by
      refine (if_pos (show (("and" : Str) :: (flWd b ++ (winWd w ++ rest))).head? = some ("and" : Str) from rfl)).trans ?_
      show (match takeF (some a.2) (p + 3 + 1, flWd b ++ (winWd w ++ rest)) with | .error e => _ | .ok (g, s) => _) = _
      rw [takeF_ok hb (fun z => hab (Option.some.inj z).symm)]
    rw [e2]
    dsimp only
    rw [e]
/-- what follows a statement -/
def after (f : Nat) (s : RSt) (cur : List Stm) (stk : List (Int × List Stm)) (d m : Nat) : Except Nat (List Stm × Nat × Nat) :=
  if (close s cur stk).2.2 ≠ [] ∨ (close s cur stk).1.2 ≠ [] then (match take [";"] (close s cur stk).1 with
    | .error e => .error e
    | .ok (_, s') => loop f s' (close s cur stk).2.1 (close s cur stk).2.2 d m)
  else .ok ((close s cur stk).2.1, d, m)
theorem after_semi {f p : Nat} {rest : List Str} {cur : List Stm} {stk : List (Int × List Stm)} {d m : Nat} : after f (p, (";" : Str) :: rest) cur stk d m = loop f (p + 1, rest) cur stk d m := by
  have e : close (p, (";" : Str) :: rest) cur stk = ((p, (";" : Str) :: rest), cur, stk) := by
    cases stk with
    | nil => rfl
    | cons q stk =>
      show (if some (";" : Str) = some (")" : Str) then _ else _) = _
      rw [if_neg (by decide +kernel)]
  unfold after
  rw [e, if_pos (.inr (by simp)), take_w (by simp)]
theorem after_close {f p : Nat} {rest : List Str} {cur out : List Stm} {n : Int} {stk : List (Int × List Stm)} {d m : Nat} : after f (p, (")" : Str) :: rest) cur ((n, out) :: stk) d m = after f (p + 1, rest) (out ++ [.again n cur]) stk d m := by
  have e : close (p, (")" : Str) :: rest) cur ((n, out) :: stk) = close (p + 1, rest) (out ++ [.again n cur]) stk := if_pos rfl
  unfold after
  rw [e]
theorem okRest_semi {r : List Str} : okRest ((";" : Str) :: r) := by constructor <;> (show some (";" : Str) ≠ _; decide +kernel)
theorem okRest_close {r : List Str} : okRest ((")" : Str) :: r) := by constructor <;> (show some (")" : Str) ≠ _; decide +kernel)
theorem okRest_nil : okRest [] := by constructor <;> (intro z; cases z)
mutual
theorem read_st : ∀ {s : Stm}, wf s → ∀ (f p : Nat) (rest : List Str) (cur : List Stm) (stk : List (Int × List Stm)) (d m : Nat), okRest rest → stk.length ≤ d →
    ∃ p', loop (f + nod s) (p, stWd s ++ rest) cur stk d m = after f (p', rest) (cur ++ [s]) stk (max d (stk.length + dep s)) (m + cnt s)
  | .send fl w, h, f, p, rest, cur, stk, d, m, hr, hd => by
    obtain ⟨p', e⟩ := takeS_ok (p := p + 1) (show wfSend fl w from h) hr
    refine ⟨p', ?_⟩
    have ed : max d (stk.length + dep (.send fl w)) = d := by show max d (stk.length + 0) = d; omega
    rw [ed]
    show loop (f + 1) (p, ("send" : Str) :: ((flsWd fl ++ winWd w) ++ rest)) cur stk d m = _
    unfold loop
    rw [take_w (by simp)]
    dsimp only
    rw [if_neg (by decide +kernel), e]
    rfl
  | .again n b, ⟨hn, hb, h⟩, f, p, rest, cur, stk, d, m, hr, hd => by
    obtain ⟨p', e⟩ := read_row h hb f (p + 1 + 1 + 1) ((")" : Str) :: rest) [] ((n, cur) :: stk) (max d (stk.length + 1)) m okRest_close (by show stk.length + 1 ≤ _; omega)
    refine ⟨p' + 1, ?_⟩
    have e1 : stWd (.again n b) ++ rest = ("again" : Str) :: nm n :: ("(" : Str) :: (rowWd b ++ ((")" : Str) :: rest)) := by
      show ("again" : Str) :: nm n :: ("(" : Str) :: ((rowWd b ++ [(")" : Str)]) ++ rest) = _
      simp
    have e2 : f + nod (.again n b) = (f + nods b) + 1 := rfl
    rw [e1, e2]
    unfold loop
    rw [take_w (by simp)]
    dsimp only
    rw [if_pos rfl, takeN_nm hn.b ⟨hn.1, hn.2⟩]
    dsimp only
    rw [take_w (by simp)]
    dsimp only
    rw [e, List.nil_append, after_close]
    congr 1
    show max (max d (stk.length + 1)) (stk.length + 1 + deps b) = max d (stk.length + (deps b + 1))
    omega
theorem read_row : ∀ {l : List Stm}, wfs l → l ≠ [] → ∀ (f p : Nat) (rest : List Str) (cur : List Stm) (stk : List (Int × List Stm)) (d m : Nat), okRest rest → stk.length ≤ d →
    ∃ p', loop (f + nods l) (p, rowWd l ++ rest) cur stk d m = after f (p', rest) (cur ++ l) stk (max d (stk.length + deps l)) (m + cnts l)
  | [], _, h, _, _, _, _, _, _, _, _, _ => absurd rfl h
  | [s], ⟨h1, _⟩, _, f, p, rest, cur, stk, d, m, hr, hd => by
    obtain ⟨p', e⟩ := read_st h1 f p rest cur stk d m hr hd
    refine ⟨p', ?_⟩
    have e1 : rowWd [s] = stWd s := List.append_nil _
    have e2 : f + nods [s] = f + nod s := rfl
    have e3 : deps [s] = dep s := Nat.max_zero _
    have e4 : cnts [s] = cnt s := rfl
    rw [e1, e2, e3, e4]
    exact e
  | s :: t :: r, ⟨h1, h2⟩, _, f, p, rest, cur, stk, d, m, hr, hd => by
    obtain ⟨p1, e1⟩ := read_st h1 (f + nods (t :: r)) p ((";" : Str) :: (rowWd (t :: r) ++ rest)) cur stk d m okRest_semi hd
    obtain ⟨p2, e2⟩ := read_row h2 (by simp) f (p1 + 1) rest (cur ++ [s]) stk (max d (stk.length + dep s)) (m + cnt s) hr (by omega)
    refine ⟨p2, ?_⟩
    have e3 : rowWd (s :: t :: r) ++ rest = stWd s ++ ((";" : Str) :: (rowWd (t :: r) ++ rest)) := by
      show (stWd s ++ (";" : Str) :: rowWd (t :: r)) ++ rest = _
      simp
    have e4 : f + nods (s :: t :: r) = f + nods (t :: r) + nod s := by show f + (nod s + nods (t :: r)) = _; omega
    rw [e3, e4, e1, after_semi, e2]
    congr 1
    · simp
    · show max (max d (stk.length + dep s)) (stk.length + deps (t :: r)) = max d (stk.length + max (dep s) (deps (t :: r)))
      omega
    · show m + cnt s + cnts (t :: r) = m + (cnt s + cnts (t :: r))
      omega
end
mutual
theorem stWd_len : ∀ s : Stm, nod s ≤ (stWd s).length
  | .send fl w => by show 1 ≤ (flsWd fl ++ winWd w).length + 1; omega
  | .again n b => by
    have := rowWd_len b
    show nods b + 1 ≤ (rowWd b ++ [(")" : Str)]).length + 1 + 1 + 1
    rw [List.length_append]
    omega
theorem rowWd_len : ∀ l : List Stm, nods l ≤ (rowWd l).length
  | [] => Nat.le_refl _
  | s :: r => by
    have h1 := stWd_len s
    have h2 := tailWd_len r
    show nod s + nods r ≤ (stWd s ++ tailWd r).length
    rw [List.length_append]
    omega
theorem tailWd_len : ∀ l : List Stm, nods l ≤ (tailWd l).length
  | [] => Nat.le_refl _
  | s :: r => by
    have h1 := stWd_len s
    have h2 := tailWd_len r
    show nod s + nods r ≤ (stWd s ++ tailWd r).length + 1
    rw [List.length_append]
    omega
end
theorem readHost_ok {l : List Stm} (h : wfs l) (hl : l ≠ []) : readHost (("host" : Str) :: rowWd l) = .ok (l, deps l, cnts l) := by
  unfold readHost
  rw [take_w (by simp)]
  dsimp only
  have hln := rowWd_len l
  obtain ⟨p', e⟩ := read_row h hl ((("host" : Str) :: rowWd l).length + 1 - nods l) (0 + 1) [] [] [] 0 0 okRest_nil (Nat.le_refl _)
  have e1 : (("host" : Str) :: rowWd l).length + 1 - nods l + nods l = (("host" : Str) :: rowWd l).length + 1 := by
    simp only [List.length_cons]
    omega
  rw [e1, List.append_nil] at e
  rw [e]
  show (if (([] : List (Int × List Stm)) ≠ [] ∨ ([] : List Str) ≠ []) then _ else _) = _
  rw [if_neg (by simp)]
  show Except.ok ([] ++ l, max 0 (0 + deps l), 0 + cnts l) = _
  rw [List.nil_append]
  congr 3 <;> omega
theorem readLines_ok : ∀ {p : List (List Stm)} {k : Nat} {hs : List (List Stm)} {d m : Nat}, (∀ l ∈ p, wfs l ∧ l ≠ []) →
    readLines k (p.map hostW) hs d m = .ok (hs ++ p, p.foldl (fun d l => max d (deps l)) d, m + (p.map cnts).sum)
  | [], k, hs, d, m, _ => by simp [readLines]
  | l :: p, k, hs, d, m, h => by
    obtain ⟨h1, h2⟩ := h l (by simp)
    show (match readHost (Txt.split (hostW l) " ") with
      | .error e => _
      | .ok (h, dd, mm) => _) = _
    rw [host_words h1 h2, readHost_ok h1 h2]
    dsimp only
    rw [readLines_ok fun l' hl' => h l' (by simp [hl'])]
    simp [Nat.add_assoc]
theorem foldl_max {p : List (List Stm)} {d : Nat} (h : ∀ l ∈ p, deps l ≤ 3) (hd : d ≤ 3) : p.foldl (fun d l => max d (deps l)) d ≤ 3 := by
  induction p generalizing d with
  | nil => exact hd
  | cons l p ih =>
    exact ih (fun l' hl' => h l' (by simp [hl'])) (by have := h l (by simp); show max d (deps l) ≤ 3; omega)
def okP (l : List Int) : Prop := ∀ x ∈ l, 0 ≤ x ∧ x < 1000
def wfP (p : List (List Stm)) : Prop := 1 ≤ p.length ∧ p.length ≤ 3 ∧ (∀ l ∈ p, wfs l ∧ l ≠ [] ∧ deps l ≤ 3) ∧ (p.map cnts).sum ≤ 6
theorem readProg_ok {p : List (List Stm)} (h : wfP p) : readProg (progW p) = .ok p := by
  obtain ⟨h1, h2, h3, h4⟩ := h
  have hne : p ≠ [] := by rintro rfl; simp at h1
  unfold readProg
  rw [prog_lines hne fun l hl => ⟨(h3 l hl).1, (h3 l hl).2.1⟩, readLines_ok fun l hl => ⟨(h3 l hl).1, (h3 l hl).2.1⟩]
  have hm := foldl_max (d := 0) (fun l hl => (h3 l hl).2.2) (by omega)
  dsimp only
  rw [if_neg (by simp; omega), if_neg (by omega), if_neg (by omega), List.nil_append]
end HW
namespace HW
open PySem PySem.Spec PyProof.Rows L2 OT TL
mutual
theorem sendsOf_nod : ∀ {s : Stm}, ∀ t ∈ sendsOf s, nod t = 1
  | .send _ _, t, h => by rw [List.mem_singleton.mp h]; rfl
  | .again _ b, t, h => sendsOfs_nod t h
theorem sendsOfs_nod : ∀ {l : List Stm}, ∀ t ∈ sendsOfs l, nod t = 1
  | [], _, h => by cases h
  | s :: r, t, h => by
    rcases List.mem_append.mp (show t ∈ sendsOf s ++ sendsOfs r from h) with h | h
    · exact sendsOf_nod t h
    · exact sendsOfs_nod t h
end
end HW
end
section
set_option Elab.async false
set_option linter.all false
set_option maxRecDepth 100000
set_option maxHeartbeats 2000000
namespace HW
open PySem PySem.Spec PyProof.Rows L2 OT TL
/-! ### reading takes the words of what it gives -/
theorem chr_back : ∀ c : Nat, c ≤ 57 → (Char.ofNat c).toNat = c := by decide
theorem numOf_some (x : Str) : numOf (some x) = (if x.length = 0 ∨ 31 < x.length then none else if (tl x).all (fun c => decide (48 ≤ c ∧ c ≤ 57)) = false then none else if (tl x).head? = some 48 ∧ 1 < x.length then none else some ((NumText.digitsVal (tl x) : Nat) : Int)) := rfl
theorem num_inv {w : Str} {n : Int} (h : numOf (some w) = some n) : w = nm n ∧ 0 ≤ n := by
  rw [numOf_some] at h
  by_cases h1 : w.length = 0 ∨ 31 < w.length
  · rw [if_pos h1] at h; cases h
  rw [if_neg h1] at h
  by_cases h2 : (tl w).all (fun c => decide (48 ≤ c ∧ c ≤ 57)) = false
  · rw [if_pos h2] at h; cases h
  rw [if_neg h2] at h
  by_cases h3 : (tl w).head? = some 48 ∧ 1 < w.length
  · rw [if_pos h3] at h; cases h
  rw [if_neg h3] at h
  have e := Option.some.inj h
  subst e
  refine ⟨?_, by omega⟩
  have hl : w.length = (tl w).length := slen w
  have all : NumText.AllDigits (tl w) := fun c hc => by
    have z : (tl w).all (fun c => decide (48 ≤ c ∧ c ≤ 57)) = true := by simpa using h2
    exact of_decide_eq_true (List.all_eq_true.mp z c hc)
  apply ext_tl
  have e1 : tl (nm ((NumText.digitsVal (tl w) : Nat) : Int)) = numL (NumText.digitsVal (tl w)) := tl_num _
  rw [e1]
  unfold numL
  cases ew : tl w with
  | nil => rw [ew] at hl; exact absurd (.inl hl) h1
  | cons c r =>
    rw [ew] at all h3 hl
    rw [NumText.toDigits_digitsVal r.length (c :: r) rfl all ?_, List.map_map]
    · have key : ∀ l : List Nat, NumText.AllDigits l → l = l.map (Char.toNat ∘ Char.ofNat) := by
        intro l
        induction l with
        | nil => intro _; rfl
        | cons a l ih =>
          intro hl
          rw [List.map_cons, ← ih hl.tail]
          show _ = (Char.ofNat a).toNat :: l
          rw [chr_back a hl.head.2]
      exact key _ all
    · by_cases hr : r.length = 0
      · exact .inl hr
      · refine .inr ⟨c, r, rfl, ?_⟩
        have := all.head
        rcases Nat.lt_or_ge c 49 with z | z
        · exact absurd ⟨by rw [show c = 48 by omega]; rfl, by rw [hl]; simp; omega⟩ h3
        · exact z
theorem take_inv {al : List Str} {s s' : RSt} {w : Str} (h : take al s = .ok (w, s')) : s.2 = w :: s'.2 ∧ w ∈ al ∧ s'.1 = s.1 + 1 := by
  obtain ⟨p, r⟩ := s
  cases r with
  | nil => rw [take_nil rfl] at h; cases h
  | cons u r =>
    by_cases m : u ∈ al
    · rw [take_yes rfl m] at h
      cases h
      exact ⟨rfl, m, rfl⟩
    · rw [take_no rfl m] at h
      cases h
theorem takeN_inv {lo hi n : Int} {s s' : RSt} (h : takeN lo hi s = .ok (n, s')) : s.2 = nm n :: s'.2 ∧ 0 ≤ n ∧ (lo ≤ n ∧ n ≤ hi) ∧ s'.1 = s.1 + 1 := by
  obtain ⟨p, r⟩ := s
  cases r with
  | nil => rw [takeN_no (s := (p, [])) rfl] at h; cases h
  | cons u r =>
    cases e : numOf (some u) with
    | none => rw [takeN_no (s := (p, u :: r)) e] at h; cases h
    | some v =>
      by_cases b : lo ≤ v ∧ v ≤ hi
      · rw [takeN_yes (s := (p, u :: r)) e b] at h
        cases h
        obtain ⟨z1, z2⟩ := num_inv e
        exact ⟨by rw [← z1]; rfl, z2, b, rfl⟩
      · rw [takeN_out (s := (p, u :: r)) e b] at h
        cases h
theorem takeF_inv {bar : Option Int} {s s' : RSt} {q : Int × Int} (h : takeF bar s = .ok (q, s')) : wfF q ∧ some q.2 ≠ bar ∧ s.2 = flWd q ++ s'.2 := by
  unfold takeF at h
  cases e1 : takeN 1 GR s with
  | error e => rw [e1] at h; cases h
  | ok x =>
    obtain ⟨c, s1⟩ := x
    rw [e1] at h
    dsimp only at h
    cases e2 : take ["of"] s1 with
    | error e => rw [e2] at h; cases h
    | ok x =>
      obtain ⟨w, s2⟩ := x
      rw [e2] at h
      dsimp only at h
      cases e3 : takeN 0 5 s2 with
      | error e => rw [e3] at h; cases h
      | ok x =>
        obtain ⟨k, s3⟩ := x
        rw [e3] at h
        dsimp only at h
        by_cases hb : some k = bar
        · rw [if_pos hb] at h; cases h
        · rw [if_neg hb] at h
          cases h
          obtain ⟨a1, a2, a3, _⟩ := takeN_inv e1
          obtain ⟨b1, b2, _⟩ := take_inv e2
          obtain ⟨c1, c2, c3, _⟩ := takeN_inv e3
          refine ⟨⟨a3, c3⟩, hb, ?_⟩
          rw [a1, b1, c1, List.mem_singleton.mp b2]
          rfl
theorem takeF2_inv {f : Int × Int} {s s' : RSt} {fl : List (Int × Int)} (hf : wfF f) (h : takeF2 f s = .ok (fl, s')) : ∃ r, fl = f :: r ∧ flsWd fl ++ s'.2 = flWd f ++ s.2 ∧ ((∃ a, fl = [a] ∧ wfF a) ∨ ∃ a b, fl = [a, b] ∧ wfF a ∧ wfF b ∧ a.2 ≠ b.2) := by
  unfold takeF2 at h
  by_cases hd : s.2.head? = some ("and" : Str)
  · rw [if_pos hd] at h
    cases e1 : takeF (some f.2) (s.1 + 1, s.2.tail) with
    | error e => rw [e1] at h; cases h
    | ok x =>
      obtain ⟨g, s1⟩ := x
      rw [e1] at h
      cases h
      obtain ⟨a1, a2, a3⟩ := takeF_inv e1
      refine ⟨[g], rfl, ?_, .inr ⟨f, g, rfl, hf, a1, fun z => a2 (by rw [z])⟩⟩
      have e2 : s.2 = ("and" : Str) :: s.2.tail := by
        cases e : s.2 with
        | nil => rw [e] at hd; cases hd
        | cons u r => rw [e] at hd; cases hd; rfl
      rw [e2, show s.2.tail = _ from a3]
      show (flWd f ++ ("and" : Str) :: flWd g) ++ _ = _
      simp
  · rw [if_neg hd] at h
    cases h
    exact ⟨[], rfl, rfl, .inl ⟨f, rfl, hf⟩⟩
theorem takeW_inv {s s' : RSt} {w : Option Int} (h : takeW s = .ok (w, s')) : (∀ x, w = some x → wfN x) ∧ s.2 = winWd w ++ s'.2 := by
  unfold takeW at h
  by_cases hd : s.2.head? = some ("window" : Str)
  · rw [if_pos hd] at h
    cases e1 : takeN 1 GR (s.1 + 1, s.2.tail) with
    | error e => rw [e1] at h; cases h
    | ok x =>
      obtain ⟨g, s1⟩ := x
      rw [e1] at h
      cases h
      obtain ⟨a1, a2, a3, _⟩ := takeN_inv e1
      refine ⟨fun x hx => by cases hx; exact a3, ?_⟩
      have e2 : s.2 = ("window" : Str) :: s.2.tail := by
        cases e : s.2 with
        | nil => rw [e] at hd; cases hd
        | cons u r => rw [e] at hd; cases hd; rfl
      rw [e2, show s.2.tail = _ from a1]
      rfl
  · rw [if_neg hd] at h
    cases h
    exact And.intro (fun x hx => absurd hx (by simp)) rfl
theorem takeS_inv {s s' : RSt} {x : Stm} (h : HW.takeS s = .ok (x, s')) : wf x ∧ ("send" : Str) :: s.2 = stWd x ++ s'.2 := by
  unfold HW.takeS at h
  cases e1 : takeF none s with
  | error e => rw [e1] at h; cases h
  | ok y =>
    obtain ⟨f, s1⟩ := y
    rw [e1] at h
    dsimp only at h
    cases e2 : takeF2 f s1 with
    | error e => rw [e2] at h; cases h
    | ok y =>
      obtain ⟨fl, s2⟩ := y
      rw [e2] at h
      dsimp only at h
      cases e3 : takeW s2 with
      | error e => rw [e3] at h; cases h
      | ok y =>
        obtain ⟨w, s3⟩ := y
        rw [e3] at h
        cases h
        obtain ⟨a1, a2, a3⟩ := takeF_inv e1
        obtain ⟨r, b1, b2, b3⟩ := takeF2_inv a1 e2
        obtain ⟨c1, c2⟩ := takeW_inv e3
        refine ⟨(⟨b3, c1⟩ : wfSend fl w), ?_⟩
        rw [a3, ← b2, c2]
        show _ = ("send" : Str) :: (flsWd fl ++ winWd w) ++ _
        simp
def semi : List Stm → List Str
  | [] => []
  | s :: r => stWd s ++ (";" : Str) :: semi r
def preW : List Stm → List (Int × List Stm) → List Str
  | cur, [] => semi cur
  | cur, (n, out) :: r => preW out r ++ (("again" : Str) :: nm n :: ("(" : Str) :: semi cur)
def posW : List Stm → List (Int × List Stm) → List Str
  | cur, [] => rowWd cur
  | cur, (n, out) :: r => preW out r ++ (("again" : Str) :: nm n :: ("(" : Str) :: rowWd cur)
def okK : List Stm → List (Int × List Stm) → Prop
  | cur, [] => wfs cur
  | cur, (n, out) :: r => wfs cur ∧ wfN n ∧ okK out r
theorem okK.wf : ∀ {cur : List Stm} {stk : List (Int × List Stm)}, okK cur stk → wfs cur
  | _, [], h => h
  | _, _ :: _, h => h.1
theorem okK.add {cur : List Stm} {x : Stm} (hx : HW.wf x) : ∀ {stk : List (Int × List Stm)}, okK cur stk → okK (cur ++ [x]) stk
  | [], h => wfs_app h ⟨hx, trivial⟩
  | _ :: _, h => ⟨wfs_app h.1 ⟨hx, trivial⟩, h.2⟩
theorem tail_row {l : List Stm} (h : l ≠ []) : tailWd l = (";" : Str) :: rowWd l := by
  cases l with
  | nil => exact absurd rfl h
  | cons s r => rfl
theorem semi_row (x : Stm) : ∀ cur : List Stm, semi cur ++ stWd x = rowWd (cur ++ [x])
  | [] => (List.append_nil (stWd x)).symm
  | s :: r => by
    show (stWd s ++ (";" : Str) :: semi r) ++ stWd x = stWd s ++ tailWd (r ++ [x])
    rw [tail_row (by simp), ← semi_row x r]
    simp
theorem row_semi : ∀ {cur : List Stm}, cur ≠ [] → rowWd cur ++ [(";" : Str)] = semi cur
  | [], h => absurd rfl h
  | [s], _ => by
    show (stWd s ++ []) ++ _ = stWd s ++ (";" : Str) :: []
    simp
  | s :: t :: r, _ => by
    show (stWd s ++ (";" : Str) :: rowWd (t :: r)) ++ _ = stWd s ++ (";" : Str) :: semi (t :: r)
    rw [← row_semi (by simp)]
    simp
theorem pos_add (cur : List Stm) (x : Stm) : ∀ stk : List (Int × List Stm), preW cur stk ++ stWd x = posW (cur ++ [x]) stk
  | [] => semi_row x cur
  | (n, out) :: r => by
    show (preW out r ++ (("again" : Str) :: nm n :: ("(" : Str) :: semi cur)) ++ stWd x = preW out r ++ (("again" : Str) :: nm n :: ("(" : Str) :: rowWd (cur ++ [x]))
    rw [← semi_row]
    simp
theorem pos_semi {cur : List Stm} (h : cur ≠ []) : ∀ stk : List (Int × List Stm), posW cur stk ++ [(";" : Str)] = preW cur stk
  | [] => row_semi h
  | (n, out) :: r => by
    show (preW out r ++ (("again" : Str) :: nm n :: ("(" : Str) :: rowWd cur)) ++ _ = preW out r ++ (("again" : Str) :: nm n :: ("(" : Str) :: semi cur)
    rw [← row_semi h]
    simp
theorem pos_close (cur out : List Stm) (n : Int) (r : List (Int × List Stm)) : posW cur ((n, out) :: r) ++ [(")" : Str)] = posW (out ++ [.again n cur]) r := by
  rw [← pos_add]
  show (preW out r ++ (("again" : Str) :: nm n :: ("(" : Str) :: rowWd cur)) ++ _ = preW out r ++ (("again" : Str) :: nm n :: ("(" : Str) :: (rowWd cur ++ [(")" : Str)]))
  simp
theorem close_inv {ws : List Str} : ∀ {stk : List (Int × List Stm)} {s : RSt} {cur : List Stm}, okK cur stk → cur ≠ [] → posW cur stk ++ s.2 = ws →
    okK (close s cur stk).2.1 (close s cur stk).2.2 ∧ (close s cur stk).2.1 ≠ [] ∧ posW (close s cur stk).2.1 (close s cur stk).2.2 ++ (close s cur stk).1.2 = ws
  | [], s, cur, h1, h2, h3 => ⟨h1, h2, h3⟩
  | (n, out) :: r, s, cur, h1, h2, h3 => by
    by_cases hd : s.2.head? = some (")" : Str)
    · have e : close s cur ((n, out) :: r) = close (s.1 + 1, s.2.tail) (out ++ [.again n cur]) r := if_pos hd
      rw [e]
      refine close_inv (okK.add (x := .again n cur) ⟨h1.2.1, h2, h1.1⟩ h1.2.2) (by simp) ?_
      rw [← pos_close, ← h3]
      cases ew : s.2 with
      | nil => rw [ew] at hd; cases hd
      | cons u q => rw [ew] at hd; cases hd; simp
    · have e : close s cur ((n, out) :: r) = (s, cur, (n, out) :: r) := if_neg hd
      rw [e]
      exact ⟨h1, h2, h3⟩
theorem loop_inv {ws : List Str} {l : List Stm} {d' m' : Nat} : ∀ {f : Nat} {s : RSt} {cur : List Stm} {stk : List (Int × List Stm)} {d m : Nat}, loop f s cur stk d m = .ok (l, d', m') → okK cur stk → preW cur stk ++ s.2 = ws → wfs l ∧ l ≠ [] ∧ rowWd l = ws
  | 0, _, _, _, _, _, h, _, _ => by cases h
  | f + 1, s, cur, stk, d, m, h, hk, hw => by
    unfold loop at h
    cases e1 : take ["send", "again"] s with
    | error e => rw [e1] at h; cases h
    | ok y =>
      obtain ⟨w, s1⟩ := y
      rw [e1] at h
      dsimp only at h
      obtain ⟨a1, a2, _⟩ := take_inv e1
      by_cases hw' : w = "again"
      · rw [if_pos hw'] at h
        subst hw'
        cases e2 : takeN 1 GR s1 with
        | error e => rw [e2] at h; cases h
        | ok y =>
          obtain ⟨n, s2⟩ := y
          rw [e2] at h
          dsimp only at h
          cases e3 : take ["("] s2 with
          | error e => rw [e3] at h; cases h
          | ok y =>
            obtain ⟨w3, s3⟩ := y
            rw [e3] at h
            dsimp only at h
            obtain ⟨b1, b2, b3, _⟩ := takeN_inv e2
            obtain ⟨c1, c2, _⟩ := take_inv e3
            refine loop_inv h ⟨trivial, b3, hk⟩ ?_
            rw [← hw, a1, b1, c1, List.mem_singleton.mp c2]
            show (preW cur stk ++ (("again" : Str) :: nm n :: ("(" : Str) :: [])) ++ _ = _
            simp
      · rw [if_neg hw'] at h
        have hs : w = "send" := by
          rcases List.mem_cons.mp a2 with z | z
          · exact z
          · exact absurd (List.mem_singleton.mp z) hw'
        subst hs
        cases e2 : HW.takeS s1 with
        | error e => rw [e2] at h; cases h
        | ok y =>
          obtain ⟨x, s2⟩ := y
          rw [e2] at h
          dsimp only at h
          obtain ⟨b1, b2⟩ := takeS_inv e2
          obtain ⟨c1, c2, c3⟩ := close_inv (ws := ws) (s := s2) (okK.add b1 hk) (by simp : cur ++ [x] ≠ []) (by
            rw [← pos_add, List.append_assoc, ← b2, ← a1]
            exact hw)
          generalize close s2 (cur ++ [x]) stk = c at h c1 c2 c3
          obtain ⟨s3, cur3, stk3⟩ := c
          by_cases hc : stk3 ≠ [] ∨ s3.2 ≠ []
          · rw [if_pos hc] at h
            cases e3 : take [";"] s3 with
            | error e => rw [e3] at h; cases h
            | ok y =>
              obtain ⟨w3, s4⟩ := y
              rw [e3] at h
              dsimp only at h
              obtain ⟨d1, d2, _⟩ := take_inv e3
              refine loop_inv h c1 ?_
              rw [← pos_semi c2, ← c3]
              show _ = posW cur3 stk3 ++ s3.2
              rw [d1, List.mem_singleton.mp d2]
              simp
          · rw [if_neg hc] at h
            cases h
            have h1 : stk3 = [] := Classical.byContradiction fun z => hc (.inl z)
            have h2 : s3.2 = [] := Classical.byContradiction fun z => hc (.inr z)
            subst h1
            refine ⟨c1, c2, ?_⟩
            have c3 : rowWd cur3 ++ s3.2 = ws := c3
            rw [h2, List.append_nil] at c3
            exact c3
theorem readHost_inv {ws : List Str} {l : List Stm} {d m : Nat} (h : readHost ws = .ok (l, d, m)) : wfs l ∧ l ≠ [] ∧ ws = ("host" : Str) :: rowWd l ∧ d = deps l ∧ m = cnts l := by
  have h0 := h
  unfold readHost at h
  cases e1 : take ["host"] (0, ws) with
  | error e => rw [e1] at h; cases h
  | ok y =>
    obtain ⟨w, s1⟩ := y
    rw [e1] at h
    dsimp only at h
    obtain ⟨a1, a2, _⟩ := take_inv e1
    obtain ⟨b1, b2, b3⟩ := loop_inv (ws := s1.2) h (trivial : okK [] []) rfl
    have e : ws = ("host" : Str) :: rowWd l := by
      rw [b3, ← List.mem_singleton.mp a2]
      exact a1
    subst e
    rw [readHost_ok b1 b2] at h0
    cases h0
    exact ⟨b1, b2, rfl, rfl, rfl⟩
theorem hostW_join {l : List Stm} {x : Str} (h : wfs l) (hl : l ≠ []) (e : Txt.split x " " = ("host" : Str) :: rowWd l) : x = hostW l := by
  have e1 := host_words h hl
  have e2 := StrLaws.join_split x " "
  have e3 := StrLaws.join_split (hostW l) " "
  rw [e1, ← e, e2] at e3
  exact e3
theorem readLines_inv : ∀ {ls : List Str} {k : Nat} {hs hs' : List (List Stm)} {d m d' m' : Nat}, readLines k ls hs d m = .ok (hs', d', m') → ∃ p, hs' = hs ++ p ∧ (∀ l ∈ p, wfs l ∧ l ≠ []) ∧ ls = p.map hostW
  | [], k, hs, hs', d, m, d', m', h => by
    cases h
    exact ⟨[], by simp, fun _ h => (nomatch h), rfl⟩
  | x :: ls, k, hs, hs', d, m, d', m', h => by
    have h : (match readHost (Txt.split x " ") with
      | .error e => .error (k + 1, e)
      | .ok (h, dd, mm) => readLines (k + 1) ls (hs ++ [h]) (max d dd) (m + mm)) = Except.ok (hs', d', m') := h
    cases e1 : readHost (Txt.split x " ") with
    | error e => rw [e1] at h; cases h
    | ok y =>
      obtain ⟨l, dd, mm⟩ := y
      rw [e1] at h
      dsimp only at h
      obtain ⟨a1, a2, a3, _⟩ := readHost_inv e1
      obtain ⟨p, b1, b2, b3⟩ := readLines_inv h
      refine ⟨l :: p, by rw [b1]; simp, fun q hq => ?_, by rw [b3, hostW_join a1 a2 a3]; rfl⟩
      rcases List.mem_cons.mp hq with rfl | hq
      · exact ⟨a1, a2⟩
      · exact b2 q hq
theorem foldl_max_ge {p : List (List Stm)} {d : Nat} : d ≤ p.foldl (fun d l => max d (deps l)) d ∧ ∀ l ∈ p, deps l ≤ p.foldl (fun d l => max d (deps l)) d := by
  induction p generalizing d with
  | nil => exact ⟨Nat.le_refl _, fun _ h => (nomatch h)⟩
  | cons l p ih =>
    obtain ⟨a, b⟩ := ih (d := max d (deps l))
    refine ⟨Nat.le_trans (Nat.le_max_left _ _) a, fun q hq => ?_⟩
    rcases List.mem_cons.mp hq with rfl | hq
    · exact Nat.le_trans (Nat.le_max_right _ _) a
    · exact b q hq
theorem readProg_inv {x : Str} {p : List (List Stm)} (h : readProg x = .ok p) : wfP p ∧ progW p = x := by
  unfold readProg at h
  cases e1 : readLines 0 (Txt.split x "\n") [] 0 0 with
  | error e => rw [e1] at h; cases h
  | ok y =>
    obtain ⟨hs, d, m⟩ := y
    rw [e1] at h
    dsimp only at h
    obtain ⟨q, a1, a2, a3⟩ := readLines_inv e1
    rw [List.nil_append] at a1
    subst a1
    rw [a3, readLines_ok a2] at e1
    cases e1
    by_cases h1 : ([] ++ hs).length > 3
    · rw [if_pos (by simpa using h1)] at h; cases h
    rw [if_neg (by simpa using h1)] at h
    split at h
    · cases h
    · split at h
      · cases h
      · rename_i z1 z2
        cases h
        have hne : p ≠ [] := by
          rintro rfl
          have e2 := StrLaws.join_split x "\n"
          have e3 := congrArg List.length a3
          cases hx : Txt.split x "\n" with
          | nil =>
            rw [hx] at e2
            have e4 : x = Str.join "\n" [] := e2.symm
            subst e4
            exact absurd hx (by decide +kernel)
          | cons a b => rw [hx] at e3; simp at e3
        refine ⟨⟨List.length_pos_iff.mpr hne, by simpa using h1, fun l hl => ⟨(a2 l hl).1, (a2 l hl).2, ?_⟩, by simpa using z2⟩, ?_⟩
        · have := (foldl_max_ge (d := 0)).2 l hl
          omega
        · unfold progW
          rw [← a3, join_eq]
          exact StrLaws.join_split x "\n"
theorem nods_24 {p : List (List Stm)} (h : wfP p) : ∀ l ∈ p, wfs l ∧ nods l ≤ 24 := fun l hl => by
  obtain ⟨h1, h2, h3⟩ := h.2.2.1 l hl
  have h4 : cnts l ≤ 6 := Nat.le_trans (sum_mem (List.mem_map.mpr ⟨l, hl, rfl⟩)) h.2.2.2
  have h5 := nods_le h1
  have h6 : (deps l + 1) * cnts l ≤ 4 * 6 := Nat.mul_le_mul (by omega) h4
  exact ⟨h1, by omega⟩
theorem ht_11 {p : List (List Stm)} (h : wfP p) : ht (pT p) ≤ 11 := by
  have z : hts (p.map hT) ≤ 10 := hts_le fun t ht' => by
    obtain ⟨l, hl, rfl⟩ := List.mem_map.mp ht'
    obtain ⟨h1, h2, h3⟩ := h.2.2.1 l hl
    have := hts_ssT l
    show hts (ssT l) + 1 ≤ 10
    omega
  show hts (p.map hT) + 1 ≤ 11
  omega
theorem hostV (l : List Stm) : ("host " : Str) ++ rowW l = hostW l := by
  show _ = Str.empty ++ "host " ++ rowW l
  rw [e_app]
theorem progW_len {p : List (List Stm)} (h : wfP p) : ((p.map hostW).map (·.length)).sum + ("\n" : Str).length * (p.map hostW).length ≤ 20000 ∧ (progW p).length ≤ 20000 := by
  have e1 : ("host " : Str).length = 5 := by decide +kernel
  have e2 : ("\n" : Str).length = 1 := by decide +kernel
  have e0 : (Str.empty : Str).length = 0 := rfl
  have z : ((p.map hostW).map (·.length)).sum ≤ (p.map hostW).length * 4805 := sum_le fun x hx => by
    obtain ⟨l, hm, rfl⟩ := List.mem_map.mp hx
    obtain ⟨w1, w2⟩ := nods_24 h l hm
    have hh := (rowW_len w1).2
    unfold hostW
    rw [app_len, app_len, e0, e1]
    omega
  have j := join_len "\n" (p.map hostW)
  have h3 := h.2.1
  rw [e2] at j ⊢
  rw [List.length_map] at z j ⊢
  unfold progW
  omega
end HW
end
section
set_option Elab.async false
set_option linter.all false
set_option maxRecDepth 1000000
set_option maxHeartbeats 0
namespace K96
open PySem PySem.Spec PyProof.Rows L2 OT
def top (i : Nat) : Stmt := PySem.Challenge.pw_handsatwork_k96_errors_built.main.body.getD i (.Pass ⟨0, 0, 0, 0⟩)
def meth (s : Stmt) (j : Nat) : Stmt := inClass s j
def clsN : List Str := [("BadTable" : Str), ("BadText" : Str), ("BadStanding" : Str), ("CannotMove" : Str), ("NoSuch" : Str), ("WrongGround" : Str), ("TooGreat" : Str), ("BadVector" : Str), ("NotLocal" : Str), ("BadProgram" : Str), ("InUse" : Str), ("AttemptFailed" : Str), ("BadLot" : Str), ("BadDealing" : Str), ("NotCore" : Str), ("BadLoads" : Str), ("Impossible" : Str), ("BadLine" : Str), ("NothingToUndo" : Str), ("NothingToRedo" : Str), ("NotRooted" : Str), ("Refused" : Str)]
def xsL : List ((Str × Str) × Bool) := (List.range 22).flatMap fun k => ((clsN.getD k "", "HandsatworkError"), true) :: ((clsN.getD k "", "ValueError"), true) :: (List.range 22).map fun j => ((clsN.getD k "", clsN.getD j ""), decide (j = k))
def Sx : SP := { gl := [], fr := ["len", "int", "abs", "str", "range", "isinstance", "bool", "tuple", "list"], sg := [(.fn "_law_mixed", [.v, .v], 0, none),
  (.fn "_law_pool", [.v, .v], 0, none),
  (.fn "_law_same", [.v, .v], 0, none),
  (.fn "_law_word", [.v, .v], 0, none),
  (.fn "_law_number", [.v, .v], 0, none),
  (.fn "_law_fields_of", [.v, .v], 0, none),
  (.fn "_law_made", [.v], 0, none),
  (.fn "_law_read", [.v], 0, none),
  (.fn "_law_classes_of", [.v], 0, none),
  (.fn "_law_right", [.v, .v], 0, none),
  (.fn "law", [.v], 0, none)], xc := ["BadTable", "BadText", "BadStanding", "CannotMove", "NoSuch", "WrongGround", "TooGreat", "BadVector", "NotLocal", "BadProgram", "InUse", "AttemptFailed", "BadLot", "BadDealing", "NotCore", "BadLoads", "Impossible", "BadLine", "NothingToUndo", "NothingToRedo", "NotRooted", "Refused", "HandsatworkError", "ValueError"], xh := [], rzl := ["BadTable", "BadText", "BadStanding", "CannotMove", "NoSuch", "WrongGround", "TooGreat", "BadVector", "NotLocal", "BadProgram", "InUse", "AttemptFailed"], r0l := ["BadLot", "BadDealing", "NotCore", "BadLoads", "Impossible", "BadLine", "NothingToUndo", "NothingToRedo", "NotRooted", "Refused"] }
def Gx : Sig := { tb := [], at_ := [], xs := xsL, xf := [("BadTable", "place"), ("BadTable", "index"), ("BadText", "line"), ("BadStanding", "place"), ("BadStanding", "index"), ("CannotMove", "index"), ("CannotMove", "reason"), ("NoSuch", "what"), ("WrongGround", "needed"), ("TooGreat", "what"), ("BadVector", "index"), ("NotLocal", "kind"), ("BadProgram", "line"), ("BadProgram", "word"), ("InUse", "what"), ("AttemptFailed", "index")], xm := [], rz := [("BadTable", ["place", "index"]), ("BadText", ["line"]), ("BadStanding", ["place", "index"]), ("CannotMove", ["index", "reason"]), ("NoSuch", ["what"]), ("WrongGround", ["needed"]), ("TooGreat", ["what"]), ("BadVector", ["index"]), ("NotLocal", ["kind"]), ("BadProgram", ["line", "word"]), ("InUse", ["what"]), ("AttemptFailed", ["index"])], r0 := ["BadLot", "BadDealing", "NotCore", "BadLoads", "Impossible", "BadLine", "NothingToUndo", "NothingToRedo", "NotRooted", "Refused"] }
def N__law_mixed : List Str := ["number", "turn", "first", "second"]
def P__law_mixed : List Str := ["number", "turn"]
abbrev st__law_mixed : Stmt := top 25
def b__law_mixed : Ss := (.cons (.asg (.nm 2) (.bin .Mod (.bi .int (.cons (.bin .Add (.bin .Add (.bin .Mult (.nm 0) (.cn (.int 48271))) (.bin .Mult (.nm 1) (.cn (.int 69621)))) (.cn (.int 11))) .nil)) (.cn (.int 2147483647)))) (.cons (.asg (.nm 3) (.bin .Mod (.bi .int (.cons (.bin .Add (.bin .Add (.bin .Mult (.nm 2) (.nm 2)) (.bin .Mult (.nm 1) (.cn (.int 40692)))) (.cn (.int 7))) .nil)) (.cn (.int 2147483399)))) (.cons (.ret (.bin .Mod (.bi .int (.cons (.bin .FloorDiv (.nm 3) (.cn (.int 7))) .nil)) (.cn (.int 1000)))) .nil)))
theorem c__law_mixed : chkSl Sx N__law_mixed (defScope st__law_mixed) b__law_mixed (defBody st__law_mixed) = true := by decide +kernel
theorem f__law_mixed : FnScope N__law_mixed P__law_mixed (defScope st__law_mixed) := ⟨rfl, rfl, rfl, by decide +kernel, rfl, by decide +kernel, by decide +kernel⟩
def N__law_pool : List Str := ["script", "many", "cells", "digits", "cell", "pool", "k", "row", "rest", "at", "turn"]
def P__law_pool : List Str := ["script", "many"]
abbrev st__law_pool : Stmt := top 26
def b__law_pool : Ss := (.cons (.lc 2 (.comp (.nm 4) (.val (.slc (.nm 0) .no (.so (.cn (.int 63))))) .no (.bi .abs (.cons (.bi .int (.cons (.nm 4) .nil)) .nil)) [("cell", 4)])) (.cons (.ite (.cmp .Eq (.nm 2) (.lst .nil)) (.cons (.asg (.nm 2) (.lst (.cons (.cn (.int 0)) .nil))) .nil) .nil) (.cons (.asg (.nm 3) (.lst .nil)) (.cons (.for_ (.nm 4) (.val (.fz 2)) (.cons (.asg (.nm 7) (.lst .nil)) (.cons (.asg (.nm 8) (.nm 4)) (.cons (.ite (.cmp .GtE (.nm 4) (.bin .Pow (.cn (.int 10)) (.cn (.int 18)))) (.cons (.for_ (.nm 10) (.rng1 (.cn (.int 90))) (.cons (.ite (.cmp .Gt (.nm 8) (.cn (.int 0))) (.cons (.ex (.mm .append (.sl 7) (.cons (.bin .Mod (.bi .int (.cons (.nm 8) .nil)) (.cn (.int 1000))) .nil))) (.cons (.asg (.nm 8) (.bin .FloorDiv (.nm 8) (.cn (.int 1000)))) .nil)) .nil) .nil)) .nil) .nil) (.cons (.ex (.mm .append (.sl 3) (.cons (.mv 7) .nil))) .nil))))) (.cons (.asg (.nm 5) (.lst .nil)) (.cons (.for_ (.nm 6) (.rng1 (.nm 1)) (.cons (.asg (.nm 9) (.bin .Mod (.bi .int (.cons (.nm 6) .nil)) (.bi .len (.cons (.nm 2) .nil)))) (.cons (.asg (.nm 10) (.bin .FloorDiv (.nm 6) (.bi .len (.cons (.nm 2) .nil)))) (.cons (.ite (.cmp .Lt (.nm 10) (.bi .len (.cons (.idx (.nm 3) (.nm 9)) .nil))) (.cons (.ex (.mm .append (.sl 5) (.cons (.idx (.idx (.nm 3) (.nm 9)) (.nm 10)) .nil))) .nil) (.cons (.ex (.mm .append (.sl 5) (.cons (.call 0 "_law_mixed" (.cons (.v (.bin .Add (.bin .Mod (.bi .int (.cons (.idx (.nm 2) (.nm 9)) .nil)) (.cn (.int 1000003))) (.bin .Mult (.cn (.int 7919)) (.nm 9)))) (.cons (.v (.bin .Add (.nm 10) (.cn (.int 1)))) .nil))) .nil))) .nil)) .nil)))) (.cons (.ret (.mv 5)) .nil)))))))
theorem c__law_pool : chkSl Sx N__law_pool (defScope st__law_pool) b__law_pool (defBody st__law_pool) = true := by decide +kernel
theorem f__law_pool : FnScope N__law_pool P__law_pool (defScope st__law_pool) := ⟨rfl, rfl, rfl, by decide +kernel, rfl, by decide +kernel, by decide +kernel⟩
def N__law_same : List Str := ["actual", "due", "k"]
def P__law_same : List Str := ["actual", "due"]
abbrev st__law_same : Stmt := top 27
def b__law_same : Ss := (.cons (.ite (.cmp .Is (.nm 1) (.cn .non)) (.cons (.ret (.cmp .Is (.nm 0) (.cn .non))) .nil) .nil) (.cons (.ite (.cmp .Is (.nm 1) (.cn (.bl true))) (.cons (.ret (.cmp .Is (.nm 0) (.cn (.bl true)))) .nil) .nil) (.cons (.ite (.cmp .Is (.nm 1) (.cn (.bl false))) (.cons (.ret (.cmp .Is (.nm 0) (.cn (.bl false)))) .nil) .nil) (.cons (.ite (.val (.isi (.nm 1) .int)) (.cons (.ret (.and (.isi (.nm 0) .int) (.and (.not (.isi (.nm 0) .bool)) (.cmp .Eq (.nm 0) (.nm 1))))) .nil) .nil) (.cons (.ite (.val (.isi (.nm 1) .str)) (.cons (.ret (.and (.isi (.nm 0) .str) (.cmp .Eq (.nm 0) (.nm 1)))) .nil) .nil) (.cons (.ite (.val (.isi (.nm 1) .tuple)) (.cons (.ite (.or (.not (.val (.isi (.nm 0) .tuple))) (.cmp .NotEq (.bi .len (.cons (.nm 0) .nil)) (.bi .len (.cons (.nm 1) .nil)))) (.cons (.ret (.cn (.bl false))) .nil) .nil) .nil) (.cons (.ite (.or (.not (.val (.isi (.nm 0) .list))) (.cmp .NotEq (.bi .len (.cons (.nm 0) .nil)) (.bi .len (.cons (.nm 1) .nil)))) (.cons (.ret (.cn (.bl false))) .nil) .nil) .nil)) (.cons (.for_ (.nm 2) (.rng1 (.bi .len (.cons (.nm 1) .nil))) (.cons (.ite (.not (.val (.call 2 "_law_same" (.cons (.v (.idx (.nm 0) (.nm 2))) (.cons (.v (.idx (.nm 1) (.nm 2))) .nil))))) (.cons (.ret (.cn (.bl false))) .nil) .nil) .nil)) (.cons (.ret (.cn (.bl true))) .nil))))))))
theorem c__law_same : chkSl Sx N__law_same (defScope st__law_same) b__law_same (defBody st__law_same) = true := by decide +kernel
theorem f__law_same : FnScope N__law_same P__law_same (defScope st__law_same) := ⟨rfl, rfl, rfl, by decide +kernel, rfl, by decide +kernel, by decide +kernel⟩
def N__law_word : List Str := ["pool", "at", "menu"]
def P__law_word : List Str := ["pool", "at"]
abbrev st__law_word : Stmt := top 28
def b__law_word : Ss := (.cons (.asg (.nm 2) (.lst (.cons (.cn (.str "people")) (.cons (.cn (.str "hands")) (.cons (.cn (.str "ties")) (.cons (.cn (.str "web")) (.cons (.cn (.str "kinds")) (.cons (.cn (.str "quick")) (.cons (.cn (.str "shares")) (.cons (.cn (.str "rows")) (.cons (.cn (.str "places")) (.cons (.cn (.str "most")) (.cons (.cn (.str "share")) (.cons (.cn (.str "none")) .nil)))))))))))))) (.cons (.asg (.nm 2) (.bin .Add (.nm 2) (.lst (.cons (.cn (.str "unknown")) (.cons (.cn (.str "tree")) (.cons (.cn (.str "one hand")) (.cons (.cn (.str "no quick")) (.cons (.cn (.str "events")) (.cons (.cn (.str "")) .nil))))))))) (.cons (.ret (.idx (.nm 2) (.bin .Mod (.bi .int (.cons (.idx (.nm 0) (.nm 1)) .nil)) (.cn (.int 18))))) .nil)))
theorem c__law_word : chkSl Sx N__law_word (defScope st__law_word) b__law_word (defBody st__law_word) = true := by decide +kernel
theorem f__law_word : FnScope N__law_word P__law_word (defScope st__law_word) := ⟨rfl, rfl, rfl, by decide +kernel, rfl, by decide +kernel, by decide +kernel⟩
def N__law_number : List Str := ["pool", "at", "form"]
def P__law_number : List Str := ["pool", "at"]
abbrev st__law_number : Stmt := top 29
def b__law_number : Ss := (.cons (.asg (.nm 2) (.bin .Mod (.bi .int (.cons (.idx (.nm 0) (.nm 1)) .nil)) (.cn (.int 4)))) (.cons (.ite (.cmp .Eq (.nm 2) (.cn (.int 1))) (.cons (.ret (.bin .Sub (.neg (.cn (.int 1))) (.bi .int (.cons (.idx (.nm 0) (.bin .Add (.nm 1) (.cn (.int 1)))) .nil)))) .nil) .nil) (.cons (.ite (.cmp .Eq (.nm 2) (.cn (.int 2))) (.cons (.ret (.bin .Add (.bin .Mult (.bin .Pow (.cn (.int 10)) (.cn (.int 27))) (.bin .Add (.cn (.int 1)) (.bi .int (.cons (.idx (.nm 0) (.bin .Add (.nm 1) (.cn (.int 1)))) .nil)))) (.bi .int (.cons (.idx (.nm 0) (.nm 1)) .nil)))) .nil) .nil) (.cons (.ret (.bi .int (.cons (.idx (.nm 0) (.bin .Add (.nm 1) (.cn (.int 1)))) .nil))) .nil))))
theorem c__law_number : chkSl Sx N__law_number (defScope st__law_number) b__law_number (defBody st__law_number) = true := by decide +kernel
theorem f__law_number : FnScope N__law_number P__law_number (defScope st__law_number) := ⟨rfl, rfl, rfl, by decide +kernel, rfl, by decide +kernel, by decide +kernel⟩
def N__law_fields_of : List Str := ["pool", "start", "words", "numbers", "rows", "k"]
def P__law_fields_of : List Str := ["pool", "start"]
abbrev st__law_fields_of : Stmt := top 30
def b__law_fields_of : Ss := (.cons (.lc 2 (.comp (.nm 5) (.rng1 (.cn (.int 7))) .no (.call 3 "_law_word" (.cons (.v (.nm 0)) (.cons (.v (.bin .Add (.nm 1) (.nm 5))) .nil))) [("k", 5)])) (.cons (.lc 3 (.comp (.nm 5) (.rng1 (.cn (.int 9))) .no (.call 4 "_law_number" (.cons (.v (.nm 0)) (.cons (.v (.bin .Add (.bin .Add (.nm 1) (.cn (.int 7))) (.bin .Mult (.cn (.int 2)) (.nm 5)))) .nil))) [("k", 5)])) (.cons (.asg (.nm 4) (.lst (.cons (.tup (.cons (.idx (.nm 2) (.cn (.int 0))) (.cons (.idx (.nm 3) (.cn (.int 0))) .nil))) (.cons (.tup (.cons (.idx (.nm 3) (.cn (.int 1))) .nil)) (.cons (.tup (.cons (.idx (.nm 2) (.cn (.int 1))) (.cons (.idx (.nm 3) (.cn (.int 2))) .nil))) (.cons (.tup (.cons (.idx (.nm 3) (.cn (.int 3))) (.cons (.idx (.nm 2) (.cn (.int 2))) .nil))) (.cons (.tup (.cons (.idx (.nm 2) (.cn (.int 3))) .nil)) .nil))))))) (.cons (.asg (.nm 4) (.bin .Add (.nm 4) (.lst (.cons (.tup (.cons (.idx (.nm 2) (.cn (.int 4))) .nil)) (.cons (.tup (.cons (.idx (.nm 2) (.cn (.int 5))) .nil)) (.cons (.tup (.cons (.idx (.nm 3) (.cn (.int 4))) .nil)) (.cons (.tup (.cons (.idx (.nm 3) (.cn (.int 5))) .nil)) (.cons (.tup (.cons (.idx (.nm 3) (.cn (.int 6))) (.cons (.idx (.nm 3) (.cn (.int 7))) .nil))) (.cons (.tup (.cons (.idx (.nm 2) (.cn (.int 6))) .nil)) .nil))))))))) (.cons (.ret (.bin .Add (.nm 4) (.lst (.cons (.tup (.cons (.idx (.nm 3) (.cn (.int 8))) .nil)) (.cons (.tup .nil) (.cons (.tup .nil) (.cons (.tup .nil) (.cons (.tup .nil) (.cons (.tup .nil) (.cons (.tup .nil) (.cons (.tup .nil) (.cons (.tup .nil) (.cons (.tup .nil) (.cons (.tup .nil) .nil)))))))))))))) .nil)))))
theorem c__law_fields_of : chkSl Sx N__law_fields_of (defScope st__law_fields_of) b__law_fields_of (defBody st__law_fields_of) = true := by decide +kernel
theorem f__law_fields_of : FnScope N__law_fields_of P__law_fields_of (defScope st__law_fields_of) := ⟨rfl, rfl, rfl, by decide +kernel, rfl, by decide +kernel, by decide +kernel⟩
def N__law_made : List Str := ["rows", "found"]
def P__law_made : List Str := ["rows"]
abbrev st__law_made : Stmt := top 31
def b__law_made : Ss := (.cons (.asg (.nm 1) (.lst (.cons (.mkx "BadTable" (.cons (.idx (.idx (.nm 0) (.cn (.int 0))) (.cn (.int 0))) (.cons (.idx (.idx (.nm 0) (.cn (.int 0))) (.cn (.int 1))) .nil))) (.cons (.mkx "BadText" (.cons (.idx (.idx (.nm 0) (.cn (.int 1))) (.cn (.int 0))) .nil)) (.cons (.mkx "BadStanding" (.cons (.idx (.idx (.nm 0) (.cn (.int 2))) (.cn (.int 0))) (.cons (.idx (.idx (.nm 0) (.cn (.int 2))) (.cn (.int 1))) .nil))) .nil))))) (.cons (.asg (.nm 1) (.bin .Add (.nm 1) (.lst (.cons (.mkx "CannotMove" (.cons (.idx (.idx (.nm 0) (.cn (.int 3))) (.cn (.int 0))) (.cons (.idx (.idx (.nm 0) (.cn (.int 3))) (.cn (.int 1))) .nil))) (.cons (.mkx "NoSuch" (.cons (.idx (.idx (.nm 0) (.cn (.int 4))) (.cn (.int 0))) .nil)) (.cons (.mkx "WrongGround" (.cons (.idx (.idx (.nm 0) (.cn (.int 5))) (.cn (.int 0))) .nil)) .nil)))))) (.cons (.asg (.nm 1) (.bin .Add (.nm 1) (.lst (.cons (.mkx "TooGreat" (.cons (.idx (.idx (.nm 0) (.cn (.int 6))) (.cn (.int 0))) .nil)) (.cons (.mkx "BadVector" (.cons (.idx (.idx (.nm 0) (.cn (.int 7))) (.cn (.int 0))) .nil)) (.cons (.mkx "NotLocal" (.cons (.idx (.idx (.nm 0) (.cn (.int 8))) (.cn (.int 0))) .nil)) .nil)))))) (.cons (.asg (.nm 1) (.bin .Add (.nm 1) (.lst (.cons (.mkx "BadProgram" (.cons (.idx (.idx (.nm 0) (.cn (.int 9))) (.cn (.int 0))) (.cons (.idx (.idx (.nm 0) (.cn (.int 9))) (.cn (.int 1))) .nil))) (.cons (.mkx "InUse" (.cons (.idx (.idx (.nm 0) (.cn (.int 10))) (.cn (.int 0))) .nil)) (.cons (.mkx "AttemptFailed" (.cons (.idx (.idx (.nm 0) (.cn (.int 11))) (.cn (.int 0))) .nil)) .nil)))))) (.cons (.asg (.nm 1) (.bin .Add (.nm 1) (.lst (.cons (.mk0 "BadLot") (.cons (.mk0 "BadDealing") (.cons (.mk0 "NotCore") (.cons (.mk0 "BadLoads") (.cons (.mk0 "Impossible") (.cons (.mk0 "BadLine") .nil))))))))) (.cons (.ret (.bin .Add (.nm 1) (.lst (.cons (.mk0 "NothingToUndo") (.cons (.mk0 "NothingToRedo") (.cons (.mk0 "NotRooted") (.cons (.mk0 "Refused") .nil))))))) .nil))))))
theorem c__law_made : chkSl Sx N__law_made (defScope st__law_made) b__law_made (defBody st__law_made) = true := by decide +kernel
theorem f__law_made : FnScope N__law_made P__law_made (defScope st__law_made) := ⟨rfl, rfl, rfl, by decide +kernel, rfl, by decide +kernel, by decide +kernel⟩
def N__law_read : List Str := ["found", "rows"]
def P__law_read : List Str := ["found"]
abbrev st__law_read : Stmt := top 32
def b__law_read : Ss := (.cons (.asg (.nm 1) (.lst (.cons (.tup (.cons (.xatt (.idx (.nm 0) (.cn (.int 0))) "place") (.cons (.xatt (.idx (.nm 0) (.cn (.int 0))) "index") .nil))) (.cons (.tup (.cons (.xatt (.idx (.nm 0) (.cn (.int 1))) "line") .nil)) (.cons (.tup (.cons (.xatt (.idx (.nm 0) (.cn (.int 2))) "place") (.cons (.xatt (.idx (.nm 0) (.cn (.int 2))) "index") .nil))) .nil))))) (.cons (.asg (.nm 1) (.bin .Add (.nm 1) (.lst (.cons (.tup (.cons (.xatt (.idx (.nm 0) (.cn (.int 3))) "index") (.cons (.xatt (.idx (.nm 0) (.cn (.int 3))) "reason") .nil))) (.cons (.tup (.cons (.xatt (.idx (.nm 0) (.cn (.int 4))) "what") .nil)) (.cons (.tup (.cons (.xatt (.idx (.nm 0) (.cn (.int 5))) "needed") .nil)) (.cons (.tup (.cons (.xatt (.idx (.nm 0) (.cn (.int 6))) "what") .nil)) .nil))))))) (.cons (.asg (.nm 1) (.bin .Add (.nm 1) (.lst (.cons (.tup (.cons (.xatt (.idx (.nm 0) (.cn (.int 7))) "index") .nil)) (.cons (.tup (.cons (.xatt (.idx (.nm 0) (.cn (.int 8))) "kind") .nil)) (.cons (.tup (.cons (.xatt (.idx (.nm 0) (.cn (.int 9))) "line") (.cons (.xatt (.idx (.nm 0) (.cn (.int 9))) "word") .nil))) (.cons (.tup (.cons (.xatt (.idx (.nm 0) (.cn (.int 10))) "what") .nil)) .nil))))))) (.cons (.ret (.bin .Add (.nm 1) (.lst (.cons (.tup (.cons (.xatt (.idx (.nm 0) (.cn (.int 11))) "index") .nil)) (.cons (.tup .nil) (.cons (.tup .nil) (.cons (.tup .nil) (.cons (.tup .nil) (.cons (.tup .nil) (.cons (.tup .nil) (.cons (.tup .nil) (.cons (.tup .nil) (.cons (.tup .nil) (.cons (.tup .nil) .nil)))))))))))))) .nil))))
theorem c__law_read : chkSl Sx N__law_read (defScope st__law_read) b__law_read (defBody st__law_read) = true := by decide +kernel
theorem f__law_read : FnScope N__law_read P__law_read (defScope st__law_read) := ⟨rfl, rfl, rfl, by decide +kernel, rfl, by decide +kernel, by decide +kernel⟩
def N__law_classes_of : List Str := ["e", "one"]
def P__law_classes_of : List Str := ["e"]
abbrev st__law_classes_of : Stmt := top 33
def b__law_classes_of : Ss := (.cons (.asg (.nm 1) (.lst (.cons (.isx (.nm 0) "BadTable") (.cons (.isx (.nm 0) "BadText") (.cons (.isx (.nm 0) "BadStanding") (.cons (.isx (.nm 0) "CannotMove") .nil)))))) (.cons (.asg (.nm 1) (.bin .Add (.nm 1) (.lst (.cons (.isx (.nm 0) "NoSuch") (.cons (.isx (.nm 0) "WrongGround") (.cons (.isx (.nm 0) "TooGreat") (.cons (.isx (.nm 0) "BadVector") .nil))))))) (.cons (.asg (.nm 1) (.bin .Add (.nm 1) (.lst (.cons (.isx (.nm 0) "NotLocal") (.cons (.isx (.nm 0) "BadProgram") (.cons (.isx (.nm 0) "InUse") .nil)))))) (.cons (.asg (.nm 1) (.bin .Add (.nm 1) (.lst (.cons (.isx (.nm 0) "AttemptFailed") (.cons (.isx (.nm 0) "BadLot") (.cons (.isx (.nm 0) "BadDealing") .nil)))))) (.cons (.asg (.nm 1) (.bin .Add (.nm 1) (.lst (.cons (.isx (.nm 0) "NotCore") (.cons (.isx (.nm 0) "BadLoads") (.cons (.isx (.nm 0) "Impossible") (.cons (.isx (.nm 0) "BadLine") .nil))))))) (.cons (.asg (.nm 1) (.bin .Add (.nm 1) (.lst (.cons (.isx (.nm 0) "NothingToUndo") (.cons (.isx (.nm 0) "NothingToRedo") .nil))))) (.cons (.ret (.bin .Add (.nm 1) (.lst (.cons (.isx (.nm 0) "NotRooted") (.cons (.isx (.nm 0) "Refused") .nil))))) .nil)))))))
theorem c__law_classes_of : chkSl Sx N__law_classes_of (defScope st__law_classes_of) b__law_classes_of (defBody st__law_classes_of) = true := by decide +kernel
theorem f__law_classes_of : FnScope N__law_classes_of P__law_classes_of (defScope st__law_classes_of) := ⟨rfl, rfl, rfl, by decide +kernel, rfl, by decide +kernel, by decide +kernel⟩
def N__law_right : List Str := ["found", "rows", "k", "j"]
def P__law_right : List Str := ["found", "rows"]
abbrev st__law_right : Stmt := top 34
def b__law_right : Ss := (.cons (.ite (.not (.val (.call 2 "_law_same" (.cons (.v (.call 7 "_law_read" (.cons (.v (.nm 0)) .nil))) (.cons (.v (.nm 1)) .nil))))) (.cons (.ret (.cn (.bl false))) .nil) .nil) (.cons (.for_ (.nm 2) (.rng1 (.cn (.int 22))) (.cons (.ite (.or (.not (.val (.isx (.idx (.nm 0) (.nm 2)) "HandsatworkError"))) (.not (.val (.isx (.idx (.nm 0) (.nm 2)) "ValueError")))) (.cons (.ret (.cn (.bl false))) .nil) .nil) (.cons (.ite (.cmp .NotEq (.call 8 "_law_classes_of" (.cons (.v (.idx (.nm 0) (.nm 2))) .nil)) (.comp (.nm 3) (.rng1 (.cn (.int 22))) .no (.cmp .Eq (.nm 3) (.nm 2)) [("j", 3)])) (.cons (.ret (.cn (.bl false))) .nil) .nil) .nil))) (.cons (.ret (.cn (.bl true))) .nil)))
theorem c__law_right : chkSl Sx N__law_right (defScope st__law_right) b__law_right (defBody st__law_right) = true := by decide +kernel
theorem f__law_right : FnScope N__law_right P__law_right (defScope st__law_right) := ⟨rfl, rfl, rfl, by decide +kernel, rfl, by decide +kernel, by decide +kernel⟩
def N_law : List Str := ["script", "pool", "first_rows", "second_rows", "first", "second"]
def P_law : List Str := ["script"]
abbrev st_law : Stmt := top 35
def b_law : Ss := (.cons (.asg (.nm 1) (.call 1 "_law_pool" (.cons (.v (.nm 0)) (.cons (.v (.cn (.int 60))) .nil)))) (.cons (.asg (.nm 2) (.call 5 "_law_fields_of" (.cons (.v (.fz 1)) (.cons (.v (.cn (.int 0))) .nil)))) (.cons (.asg (.nm 3) (.call 5 "_law_fields_of" (.cons (.v (.fz 1)) (.cons (.v (.cn (.int 30))) .nil)))) (.cons (.asg (.nm 4) (.call 6 "_law_made" (.cons (.v (.fz 2)) .nil))) (.cons (.ite (.not (.val (.call 9 "_law_right" (.cons (.v (.fz 4)) (.cons (.v (.fz 2)) .nil))))) (.cons (.ret (.cn (.bl false))) .nil) .nil) (.cons (.asg (.nm 5) (.call 6 "_law_made" (.cons (.v (.fz 3)) .nil))) (.cons (.ret (.and (.call 9 "_law_right" (.cons (.v (.fz 5)) (.cons (.v (.fz 3)) .nil))) (.call 9 "_law_right" (.cons (.v (.fz 4)) (.cons (.v (.fz 2)) .nil))))) .nil)))))))
theorem c_law : chkSl Sx N_law (defScope st_law) b_law (defBody st_law) = true := by decide +kernel
theorem f_law : FnScope N_law P_law (defScope st_law) := ⟨rfl, rfl, rfl, by decide +kernel, rfl, by decide +kernel, by decide +kernel⟩
def d__law_mixed : He.DefD := ⟨("_law_mixed", none), "_law_mixed", "_law_mixed", defArgs st__law_mixed, defBody st__law_mixed, defScope st__law_mixed, [], []⟩
def d__law_pool : He.DefD := ⟨("_law_pool", none), "_law_pool", "_law_pool", defArgs st__law_pool, defBody st__law_pool, defScope st__law_pool, [], []⟩
def d__law_same : He.DefD := ⟨("_law_same", none), "_law_same", "_law_same", defArgs st__law_same, defBody st__law_same, defScope st__law_same, [], []⟩
def d__law_word : He.DefD := ⟨("_law_word", none), "_law_word", "_law_word", defArgs st__law_word, defBody st__law_word, defScope st__law_word, [], []⟩
def d__law_number : He.DefD := ⟨("_law_number", none), "_law_number", "_law_number", defArgs st__law_number, defBody st__law_number, defScope st__law_number, [], []⟩
def d__law_fields_of : He.DefD := ⟨("_law_fields_of", none), "_law_fields_of", "_law_fields_of", defArgs st__law_fields_of, defBody st__law_fields_of, defScope st__law_fields_of, [], []⟩
def d__law_made : He.DefD := ⟨("_law_made", none), "_law_made", "_law_made", defArgs st__law_made, defBody st__law_made, defScope st__law_made, [], []⟩
def d__law_read : He.DefD := ⟨("_law_read", none), "_law_read", "_law_read", defArgs st__law_read, defBody st__law_read, defScope st__law_read, [], []⟩
def d__law_classes_of : He.DefD := ⟨("_law_classes_of", none), "_law_classes_of", "_law_classes_of", defArgs st__law_classes_of, defBody st__law_classes_of, defScope st__law_classes_of, [], []⟩
def d__law_right : He.DefD := ⟨("_law_right", none), "_law_right", "_law_right", defArgs st__law_right, defBody st__law_right, defScope st__law_right, [], []⟩
def d_law : He.DefD := ⟨("law", none), "law", "law", defArgs st_law, defBody st_law, defScope st_law, [], []⟩
theorem bi__law_mixed : ∀ (kV doc pm : Value) (an : Option Addr) (cdv ct : Value) (us : List Value), us.length = P__law_mixed.length → bindArgs (PySem.W.fnOf d__law_mixed.name d__law_mixed.qual d__law_mixed.params d__law_mixed.body d__law_mixed.scope .none kV doc pm an cdv ct) ⟨us, []⟩ = pure (P__law_mixed.zip us) := fun _ _ _ _ _ _ us hl => match us, hl with | [_, _], _ => rfl
theorem bi__law_pool : ∀ (kV doc pm : Value) (an : Option Addr) (cdv ct : Value) (us : List Value), us.length = P__law_pool.length → bindArgs (PySem.W.fnOf d__law_pool.name d__law_pool.qual d__law_pool.params d__law_pool.body d__law_pool.scope .none kV doc pm an cdv ct) ⟨us, []⟩ = pure (P__law_pool.zip us) := fun _ _ _ _ _ _ us hl => match us, hl with | [_, _], _ => rfl
theorem bi__law_same : ∀ (kV doc pm : Value) (an : Option Addr) (cdv ct : Value) (us : List Value), us.length = P__law_same.length → bindArgs (PySem.W.fnOf d__law_same.name d__law_same.qual d__law_same.params d__law_same.body d__law_same.scope .none kV doc pm an cdv ct) ⟨us, []⟩ = pure (P__law_same.zip us) := fun _ _ _ _ _ _ us hl => match us, hl with | [_, _], _ => rfl
theorem bi__law_word : ∀ (kV doc pm : Value) (an : Option Addr) (cdv ct : Value) (us : List Value), us.length = P__law_word.length → bindArgs (PySem.W.fnOf d__law_word.name d__law_word.qual d__law_word.params d__law_word.body d__law_word.scope .none kV doc pm an cdv ct) ⟨us, []⟩ = pure (P__law_word.zip us) := fun _ _ _ _ _ _ us hl => match us, hl with | [_, _], _ => rfl
theorem bi__law_number : ∀ (kV doc pm : Value) (an : Option Addr) (cdv ct : Value) (us : List Value), us.length = P__law_number.length → bindArgs (PySem.W.fnOf d__law_number.name d__law_number.qual d__law_number.params d__law_number.body d__law_number.scope .none kV doc pm an cdv ct) ⟨us, []⟩ = pure (P__law_number.zip us) := fun _ _ _ _ _ _ us hl => match us, hl with | [_, _], _ => rfl
theorem bi__law_fields_of : ∀ (kV doc pm : Value) (an : Option Addr) (cdv ct : Value) (us : List Value), us.length = P__law_fields_of.length → bindArgs (PySem.W.fnOf d__law_fields_of.name d__law_fields_of.qual d__law_fields_of.params d__law_fields_of.body d__law_fields_of.scope .none kV doc pm an cdv ct) ⟨us, []⟩ = pure (P__law_fields_of.zip us) := fun _ _ _ _ _ _ us hl => match us, hl with | [_, _], _ => rfl
theorem bi__law_made : ∀ (kV doc pm : Value) (an : Option Addr) (cdv ct : Value) (us : List Value), us.length = P__law_made.length → bindArgs (PySem.W.fnOf d__law_made.name d__law_made.qual d__law_made.params d__law_made.body d__law_made.scope .none kV doc pm an cdv ct) ⟨us, []⟩ = pure (P__law_made.zip us) := fun _ _ _ _ _ _ us hl => match us, hl with | [_], _ => rfl
theorem bi__law_read : ∀ (kV doc pm : Value) (an : Option Addr) (cdv ct : Value) (us : List Value), us.length = P__law_read.length → bindArgs (PySem.W.fnOf d__law_read.name d__law_read.qual d__law_read.params d__law_read.body d__law_read.scope .none kV doc pm an cdv ct) ⟨us, []⟩ = pure (P__law_read.zip us) := fun _ _ _ _ _ _ us hl => match us, hl with | [_], _ => rfl
theorem bi__law_classes_of : ∀ (kV doc pm : Value) (an : Option Addr) (cdv ct : Value) (us : List Value), us.length = P__law_classes_of.length → bindArgs (PySem.W.fnOf d__law_classes_of.name d__law_classes_of.qual d__law_classes_of.params d__law_classes_of.body d__law_classes_of.scope .none kV doc pm an cdv ct) ⟨us, []⟩ = pure (P__law_classes_of.zip us) := fun _ _ _ _ _ _ us hl => match us, hl with | [_], _ => rfl
theorem bi__law_right : ∀ (kV doc pm : Value) (an : Option Addr) (cdv ct : Value) (us : List Value), us.length = P__law_right.length → bindArgs (PySem.W.fnOf d__law_right.name d__law_right.qual d__law_right.params d__law_right.body d__law_right.scope .none kV doc pm an cdv ct) ⟨us, []⟩ = pure (P__law_right.zip us) := fun _ _ _ _ _ _ us hl => match us, hl with | [_, _], _ => rfl
theorem bi_law : ∀ (kV doc pm : Value) (an : Option Addr) (cdv ct : Value) (us : List Value), us.length = P_law.length → bindArgs (PySem.W.fnOf d_law.name d_law.qual d_law.params d_law.body d_law.scope .none kV doc pm an cdv ct) ⟨us, []⟩ = pure (P_law.zip us) := fun _ _ _ _ _ _ us hl => match us, hl with | [_], _ => rfl
abbrev st_BadTable___init__ : Stmt := meth (top 2) 0
def P_BadTable___init__ : List Str := ["self", "place", "index"]
def d_BadTable___init__ : He.DefD := ⟨("BadTable", some ("__init__" : Str)), "__init__", "BadTable.__init__", defArgs st_BadTable___init__, defBody st_BadTable___init__, defScope st_BadTable___init__, [], []⟩
theorem bi_BadTable___init__ : ∀ (kV doc pm : Value) (an : Option Addr) (cdv ct : Value) (us : List Value), us.length = P_BadTable___init__.length → bindArgs (PySem.W.fnOf d_BadTable___init__.name d_BadTable___init__.qual d_BadTable___init__.params d_BadTable___init__.body d_BadTable___init__.scope .none kV doc pm an cdv ct) ⟨us, []⟩ = pure (P_BadTable___init__.zip us) := fun _ _ _ _ _ _ us hl => match us, hl with | [_, _, _], _ => rfl
def z_BadTable___init__ : RZ := ⟨"BadTable", ["place", "index"], d_BadTable___init__, P_BadTable___init__⟩
theorem zo_BadTable___init__ : RZOk z_BadTable___init__ := ⟨rfl, rfl, ⟨rfl, rfl, rfl, by decide +kernel, rfl, by decide +kernel, by decide +kernel⟩, by decide +kernel, rfl, by decide, by decide, by decide, bi_BadTable___init__⟩
abbrev st_BadText___init__ : Stmt := meth (top 3) 0
def P_BadText___init__ : List Str := ["self", "line"]
def d_BadText___init__ : He.DefD := ⟨("BadText", some ("__init__" : Str)), "__init__", "BadText.__init__", defArgs st_BadText___init__, defBody st_BadText___init__, defScope st_BadText___init__, [], []⟩
theorem bi_BadText___init__ : ∀ (kV doc pm : Value) (an : Option Addr) (cdv ct : Value) (us : List Value), us.length = P_BadText___init__.length → bindArgs (PySem.W.fnOf d_BadText___init__.name d_BadText___init__.qual d_BadText___init__.params d_BadText___init__.body d_BadText___init__.scope .none kV doc pm an cdv ct) ⟨us, []⟩ = pure (P_BadText___init__.zip us) := fun _ _ _ _ _ _ us hl => match us, hl with | [_, _], _ => rfl
def z_BadText___init__ : RZ := ⟨"BadText", ["line"], d_BadText___init__, P_BadText___init__⟩
theorem zo_BadText___init__ : RZOk z_BadText___init__ := ⟨rfl, rfl, ⟨rfl, rfl, rfl, by decide +kernel, rfl, by decide +kernel, by decide +kernel⟩, by decide +kernel, rfl, by decide, by decide, by decide, bi_BadText___init__⟩
abbrev st_BadStanding___init__ : Stmt := meth (top 4) 0
def P_BadStanding___init__ : List Str := ["self", "place", "index"]
def d_BadStanding___init__ : He.DefD := ⟨("BadStanding", some ("__init__" : Str)), "__init__", "BadStanding.__init__", defArgs st_BadStanding___init__, defBody st_BadStanding___init__, defScope st_BadStanding___init__, [], []⟩
theorem bi_BadStanding___init__ : ∀ (kV doc pm : Value) (an : Option Addr) (cdv ct : Value) (us : List Value), us.length = P_BadStanding___init__.length → bindArgs (PySem.W.fnOf d_BadStanding___init__.name d_BadStanding___init__.qual d_BadStanding___init__.params d_BadStanding___init__.body d_BadStanding___init__.scope .none kV doc pm an cdv ct) ⟨us, []⟩ = pure (P_BadStanding___init__.zip us) := fun _ _ _ _ _ _ us hl => match us, hl with | [_, _, _], _ => rfl
def z_BadStanding___init__ : RZ := ⟨"BadStanding", ["place", "index"], d_BadStanding___init__, P_BadStanding___init__⟩
theorem zo_BadStanding___init__ : RZOk z_BadStanding___init__ := ⟨rfl, rfl, ⟨rfl, rfl, rfl, by decide +kernel, rfl, by decide +kernel, by decide +kernel⟩, by decide +kernel, rfl, by decide, by decide, by decide, bi_BadStanding___init__⟩
abbrev st_CannotMove___init__ : Stmt := meth (top 5) 0
def P_CannotMove___init__ : List Str := ["self", "index", "reason"]
def d_CannotMove___init__ : He.DefD := ⟨("CannotMove", some ("__init__" : Str)), "__init__", "CannotMove.__init__", defArgs st_CannotMove___init__, defBody st_CannotMove___init__, defScope st_CannotMove___init__, [], []⟩
theorem bi_CannotMove___init__ : ∀ (kV doc pm : Value) (an : Option Addr) (cdv ct : Value) (us : List Value), us.length = P_CannotMove___init__.length → bindArgs (PySem.W.fnOf d_CannotMove___init__.name d_CannotMove___init__.qual d_CannotMove___init__.params d_CannotMove___init__.body d_CannotMove___init__.scope .none kV doc pm an cdv ct) ⟨us, []⟩ = pure (P_CannotMove___init__.zip us) := fun _ _ _ _ _ _ us hl => match us, hl with | [_, _, _], _ => rfl
def z_CannotMove___init__ : RZ := ⟨"CannotMove", ["index", "reason"], d_CannotMove___init__, P_CannotMove___init__⟩
theorem zo_CannotMove___init__ : RZOk z_CannotMove___init__ := ⟨rfl, rfl, ⟨rfl, rfl, rfl, by decide +kernel, rfl, by decide +kernel, by decide +kernel⟩, by decide +kernel, rfl, by decide, by decide, by decide, bi_CannotMove___init__⟩
abbrev st_NoSuch___init__ : Stmt := meth (top 6) 0
def P_NoSuch___init__ : List Str := ["self", "what"]
def d_NoSuch___init__ : He.DefD := ⟨("NoSuch", some ("__init__" : Str)), "__init__", "NoSuch.__init__", defArgs st_NoSuch___init__, defBody st_NoSuch___init__, defScope st_NoSuch___init__, [], []⟩
theorem bi_NoSuch___init__ : ∀ (kV doc pm : Value) (an : Option Addr) (cdv ct : Value) (us : List Value), us.length = P_NoSuch___init__.length → bindArgs (PySem.W.fnOf d_NoSuch___init__.name d_NoSuch___init__.qual d_NoSuch___init__.params d_NoSuch___init__.body d_NoSuch___init__.scope .none kV doc pm an cdv ct) ⟨us, []⟩ = pure (P_NoSuch___init__.zip us) := fun _ _ _ _ _ _ us hl => match us, hl with | [_, _], _ => rfl
def z_NoSuch___init__ : RZ := ⟨"NoSuch", ["what"], d_NoSuch___init__, P_NoSuch___init__⟩
theorem zo_NoSuch___init__ : RZOk z_NoSuch___init__ := ⟨rfl, rfl, ⟨rfl, rfl, rfl, by decide +kernel, rfl, by decide +kernel, by decide +kernel⟩, by decide +kernel, rfl, by decide, by decide, by decide, bi_NoSuch___init__⟩
abbrev st_WrongGround___init__ : Stmt := meth (top 7) 0
def P_WrongGround___init__ : List Str := ["self", "needed"]
def d_WrongGround___init__ : He.DefD := ⟨("WrongGround", some ("__init__" : Str)), "__init__", "WrongGround.__init__", defArgs st_WrongGround___init__, defBody st_WrongGround___init__, defScope st_WrongGround___init__, [], []⟩
theorem bi_WrongGround___init__ : ∀ (kV doc pm : Value) (an : Option Addr) (cdv ct : Value) (us : List Value), us.length = P_WrongGround___init__.length → bindArgs (PySem.W.fnOf d_WrongGround___init__.name d_WrongGround___init__.qual d_WrongGround___init__.params d_WrongGround___init__.body d_WrongGround___init__.scope .none kV doc pm an cdv ct) ⟨us, []⟩ = pure (P_WrongGround___init__.zip us) := fun _ _ _ _ _ _ us hl => match us, hl with | [_, _], _ => rfl
def z_WrongGround___init__ : RZ := ⟨"WrongGround", ["needed"], d_WrongGround___init__, P_WrongGround___init__⟩
theorem zo_WrongGround___init__ : RZOk z_WrongGround___init__ := ⟨rfl, rfl, ⟨rfl, rfl, rfl, by decide +kernel, rfl, by decide +kernel, by decide +kernel⟩, by decide +kernel, rfl, by decide, by decide, by decide, bi_WrongGround___init__⟩
abbrev st_TooGreat___init__ : Stmt := meth (top 8) 0
def P_TooGreat___init__ : List Str := ["self", "what"]
def d_TooGreat___init__ : He.DefD := ⟨("TooGreat", some ("__init__" : Str)), "__init__", "TooGreat.__init__", defArgs st_TooGreat___init__, defBody st_TooGreat___init__, defScope st_TooGreat___init__, [], []⟩
theorem bi_TooGreat___init__ : ∀ (kV doc pm : Value) (an : Option Addr) (cdv ct : Value) (us : List Value), us.length = P_TooGreat___init__.length → bindArgs (PySem.W.fnOf d_TooGreat___init__.name d_TooGreat___init__.qual d_TooGreat___init__.params d_TooGreat___init__.body d_TooGreat___init__.scope .none kV doc pm an cdv ct) ⟨us, []⟩ = pure (P_TooGreat___init__.zip us) := fun _ _ _ _ _ _ us hl => match us, hl with | [_, _], _ => rfl
def z_TooGreat___init__ : RZ := ⟨"TooGreat", ["what"], d_TooGreat___init__, P_TooGreat___init__⟩
theorem zo_TooGreat___init__ : RZOk z_TooGreat___init__ := ⟨rfl, rfl, ⟨rfl, rfl, rfl, by decide +kernel, rfl, by decide +kernel, by decide +kernel⟩, by decide +kernel, rfl, by decide, by decide, by decide, bi_TooGreat___init__⟩
abbrev st_BadVector___init__ : Stmt := meth (top 9) 0
def P_BadVector___init__ : List Str := ["self", "index"]
def d_BadVector___init__ : He.DefD := ⟨("BadVector", some ("__init__" : Str)), "__init__", "BadVector.__init__", defArgs st_BadVector___init__, defBody st_BadVector___init__, defScope st_BadVector___init__, [], []⟩
theorem bi_BadVector___init__ : ∀ (kV doc pm : Value) (an : Option Addr) (cdv ct : Value) (us : List Value), us.length = P_BadVector___init__.length → bindArgs (PySem.W.fnOf d_BadVector___init__.name d_BadVector___init__.qual d_BadVector___init__.params d_BadVector___init__.body d_BadVector___init__.scope .none kV doc pm an cdv ct) ⟨us, []⟩ = pure (P_BadVector___init__.zip us) := fun _ _ _ _ _ _ us hl => match us, hl with | [_, _], _ => rfl
def z_BadVector___init__ : RZ := ⟨"BadVector", ["index"], d_BadVector___init__, P_BadVector___init__⟩
theorem zo_BadVector___init__ : RZOk z_BadVector___init__ := ⟨rfl, rfl, ⟨rfl, rfl, rfl, by decide +kernel, rfl, by decide +kernel, by decide +kernel⟩, by decide +kernel, rfl, by decide, by decide, by decide, bi_BadVector___init__⟩
abbrev st_NotLocal___init__ : Stmt := meth (top 10) 0
def P_NotLocal___init__ : List Str := ["self", "kind"]
def d_NotLocal___init__ : He.DefD := ⟨("NotLocal", some ("__init__" : Str)), "__init__", "NotLocal.__init__", defArgs st_NotLocal___init__, defBody st_NotLocal___init__, defScope st_NotLocal___init__, [], []⟩
theorem bi_NotLocal___init__ : ∀ (kV doc pm : Value) (an : Option Addr) (cdv ct : Value) (us : List Value), us.length = P_NotLocal___init__.length → bindArgs (PySem.W.fnOf d_NotLocal___init__.name d_NotLocal___init__.qual d_NotLocal___init__.params d_NotLocal___init__.body d_NotLocal___init__.scope .none kV doc pm an cdv ct) ⟨us, []⟩ = pure (P_NotLocal___init__.zip us) := fun _ _ _ _ _ _ us hl => match us, hl with | [_, _], _ => rfl
def z_NotLocal___init__ : RZ := ⟨"NotLocal", ["kind"], d_NotLocal___init__, P_NotLocal___init__⟩
theorem zo_NotLocal___init__ : RZOk z_NotLocal___init__ := ⟨rfl, rfl, ⟨rfl, rfl, rfl, by decide +kernel, rfl, by decide +kernel, by decide +kernel⟩, by decide +kernel, rfl, by decide, by decide, by decide, bi_NotLocal___init__⟩
abbrev st_BadProgram___init__ : Stmt := meth (top 11) 0
def P_BadProgram___init__ : List Str := ["self", "line", "word"]
def d_BadProgram___init__ : He.DefD := ⟨("BadProgram", some ("__init__" : Str)), "__init__", "BadProgram.__init__", defArgs st_BadProgram___init__, defBody st_BadProgram___init__, defScope st_BadProgram___init__, [], []⟩
theorem bi_BadProgram___init__ : ∀ (kV doc pm : Value) (an : Option Addr) (cdv ct : Value) (us : List Value), us.length = P_BadProgram___init__.length → bindArgs (PySem.W.fnOf d_BadProgram___init__.name d_BadProgram___init__.qual d_BadProgram___init__.params d_BadProgram___init__.body d_BadProgram___init__.scope .none kV doc pm an cdv ct) ⟨us, []⟩ = pure (P_BadProgram___init__.zip us) := fun _ _ _ _ _ _ us hl => match us, hl with | [_, _, _], _ => rfl
def z_BadProgram___init__ : RZ := ⟨"BadProgram", ["line", "word"], d_BadProgram___init__, P_BadProgram___init__⟩
theorem zo_BadProgram___init__ : RZOk z_BadProgram___init__ := ⟨rfl, rfl, ⟨rfl, rfl, rfl, by decide +kernel, rfl, by decide +kernel, by decide +kernel⟩, by decide +kernel, rfl, by decide, by decide, by decide, bi_BadProgram___init__⟩
abbrev st_InUse___init__ : Stmt := meth (top 12) 0
def P_InUse___init__ : List Str := ["self", "what"]
def d_InUse___init__ : He.DefD := ⟨("InUse", some ("__init__" : Str)), "__init__", "InUse.__init__", defArgs st_InUse___init__, defBody st_InUse___init__, defScope st_InUse___init__, [], []⟩
theorem bi_InUse___init__ : ∀ (kV doc pm : Value) (an : Option Addr) (cdv ct : Value) (us : List Value), us.length = P_InUse___init__.length → bindArgs (PySem.W.fnOf d_InUse___init__.name d_InUse___init__.qual d_InUse___init__.params d_InUse___init__.body d_InUse___init__.scope .none kV doc pm an cdv ct) ⟨us, []⟩ = pure (P_InUse___init__.zip us) := fun _ _ _ _ _ _ us hl => match us, hl with | [_, _], _ => rfl
def z_InUse___init__ : RZ := ⟨"InUse", ["what"], d_InUse___init__, P_InUse___init__⟩
theorem zo_InUse___init__ : RZOk z_InUse___init__ := ⟨rfl, rfl, ⟨rfl, rfl, rfl, by decide +kernel, rfl, by decide +kernel, by decide +kernel⟩, by decide +kernel, rfl, by decide, by decide, by decide, bi_InUse___init__⟩
abbrev st_AttemptFailed___init__ : Stmt := meth (top 13) 0
def P_AttemptFailed___init__ : List Str := ["self", "index"]
def d_AttemptFailed___init__ : He.DefD := ⟨("AttemptFailed", some ("__init__" : Str)), "__init__", "AttemptFailed.__init__", defArgs st_AttemptFailed___init__, defBody st_AttemptFailed___init__, defScope st_AttemptFailed___init__, [], []⟩
theorem bi_AttemptFailed___init__ : ∀ (kV doc pm : Value) (an : Option Addr) (cdv ct : Value) (us : List Value), us.length = P_AttemptFailed___init__.length → bindArgs (PySem.W.fnOf d_AttemptFailed___init__.name d_AttemptFailed___init__.qual d_AttemptFailed___init__.params d_AttemptFailed___init__.body d_AttemptFailed___init__.scope .none kV doc pm an cdv ct) ⟨us, []⟩ = pure (P_AttemptFailed___init__.zip us) := fun _ _ _ _ _ _ us hl => match us, hl with | [_, _], _ => rfl
def z_AttemptFailed___init__ : RZ := ⟨"AttemptFailed", ["index"], d_AttemptFailed___init__, P_AttemptFailed___init__⟩
theorem zo_AttemptFailed___init__ : RZOk z_AttemptFailed___init__ := ⟨rfl, rfl, ⟨rfl, rfl, rfl, by decide +kernel, rfl, by decide +kernel, by decide +kernel⟩, by decide +kernel, rfl, by decide, by decide, by decide, bi_AttemptFailed___init__⟩
def rzs : List RZ := [z_BadTable___init__, z_BadText___init__, z_BadStanding___init__, z_CannotMove___init__, z_NoSuch___init__, z_WrongGround___init__, z_TooGreat___init__, z_BadVector___init__, z_NotLocal___init__, z_BadProgram___init__, z_InUse___init__, z_AttemptFailed___init__]
theorem rzsOk : ∀ r ∈ rzs, RZOk r := by
  intro r hr
  simp only [rzs, List.mem_cons, List.not_mem_nil, or_false] at hr
  rcases hr with rfl | rfl | rfl | rfl | rfl | rfl | rfl | rfl | rfl | rfl | rfl | rfl
  · exact zo_BadTable___init__
  · exact zo_BadText___init__
  · exact zo_BadStanding___init__
  · exact zo_CannotMove___init__
  · exact zo_NoSuch___init__
  · exact zo_WrongGround___init__
  · exact zo_TooGreat___init__
  · exact zo_BadVector___init__
  · exact zo_NotLocal___init__
  · exact zo_BadProgram___init__
  · exact zo_InUse___init__
  · exact zo_AttemptFailed___init__
def ds0 : List He.DefD := [d__law_mixed, d__law_pool, d__law_same, d__law_word, d__law_number, d__law_fields_of, d__law_made, d__law_read, d__law_classes_of, d__law_right, d_law] ++ rzs.map (·.d)
def loose : List Str := (["HandsatworkError", "BadTable", "BadText", "BadStanding", "CannotMove", "NoSuch", "WrongGround", "TooGreat", "BadVector", "NotLocal", "BadProgram", "InUse"] : List Str) ++ (["AttemptFailed", "BadLot", "BadDealing", "NotCore", "NotRooted", "BadLoads", "Impossible", "BadLine", "NothingToUndo", "NothingToRedo", "Refused", "_law_mixed"] : List Str) ++ (["_law_pool", "_law_same", "_law_word", "_law_number", "_law_fields_of", "_law_made", "_law_read", "_law_classes_of", "_law_right"] : List Str)
def iLaw : Nat := 35
end K96
end
section
set_option Elab.async false
set_option linter.all false
set_option maxRecDepth 1000000
set_option maxHeartbeats 0
namespace K96
open PySem PySem.Spec PyProof.Rows L2 OT
abbrev RW : PySem.W.OpenRow := PySem.W.OpenLaw.row PySem.Challenge.rw_handsatwork_k96_errors_built
abbrev hk : PySem.W.Hook := hookE 5 [] ds0 (xB Sx Gx rzs)
def ob (s : PySem.W.SharedT) : He.AlD := obsEG 5 [] ds0 (xB Sx Gx rzs) (HandSHeadRun.getT s)
theorem ob_eq (s : PySem.W.SharedT) : ob s = hk.obs s.abs := obsEG_eq (HandSHeadRun.getT_eq s)
theorem run (w : World) : HandSHeadRun.RunEq RW (PySem.W.view RW.prog [iLaw]) hk ob 9000 loose w := by
  intro os
  kernel_rfl
end K96
end
section
set_option Elab.async false
set_option linter.all false
set_option maxRecDepth 1000000
set_option maxHeartbeats 0
set_option pp.maxSteps 500
namespace K96
open PySem PySem.Spec PyProof.Rows L2 OT TL HW
local macro_rules | `(tactic| walk_at "w") => `(tactic| repeat first | refine And.intro (show (_ : Nat) ≠ _ by decide) ?_ | refine And.intro (by (fail_if_success intro _); first | ((with_reducible show (_ : Int) ≤ _ ∧ (_ : Int) < _); omega) | ((with_reducible show (_ : Nat) ≤ 16000000); (first | with_reducible assumption | omega | exact Nat.le_of_ble_eq_true rfl | (simp only [HW.app_len]; omega))) | ((with_reducible show (_ : Nat) < 16000000); (first | with_reducible assumption | omega | exact Nat.le_of_ble_eq_true rfl | (simp only [HW.app_len]; omega))) | rfl | assumption | exact ⟨rfl, rfl⟩ | (with_reducible exact cmulS (by first | omega | decide) (by first | omega | decide) (by first | omega | decide) (by first | omega | decide)) | exact ⟨by decide, by decide⟩ | exact ⟨by decide, by decide, by decide⟩ | omega | decide) ?_ | refine ⟨_, rfl, ?_⟩ | refine ⟨fun _ => ?_, fun z => Bool.noConfusion (show true = false from z)⟩ | refine ⟨fun z => Bool.noConfusion (show false = true from z), fun _ => ?_⟩ | refine ⟨fun z => Bool.noConfusion (show false = true from z), ?_⟩ | refine wpE_cn_i ?_ | refine wpE_gl_i ?_)
local macro_rules | `(tactic| walk_at "b") => `(tactic| ((repeat first | refine And.intro (show (_ : Nat) ≠ _ by decide) ?_ | refine And.intro (by (fail_if_success intro _); first | ((with_reducible show (_ : Int) ≤ _ ∧ (_ : Int) < _); omega) | ((with_reducible show (_ : Nat) ≤ 16000000); (first | with_reducible assumption | omega | exact Nat.le_of_ble_eq_true rfl | (simp only [HW.app_len]; omega))) | ((with_reducible show (_ : Nat) < 16000000); (first | with_reducible assumption | omega | exact Nat.le_of_ble_eq_true rfl | (simp only [HW.app_len]; omega))) | rfl | assumption | exact ⟨rfl, rfl⟩ | (with_reducible exact cmulS (by first | omega | decide) (by first | omega | decide) (by first | omega | decide) (by first | omega | decide)) | exact ⟨by decide, by decide⟩ | exact ⟨by decide, by decide, by decide⟩ | omega | decide) ?_ | refine ⟨_, rfl, ?_⟩ | refine ⟨fun _ => ?_, fun z => Bool.noConfusion (show true = false from z)⟩ | refine ⟨fun z => Bool.noConfusion (show false = true from z), fun _ => ?_⟩ | refine ⟨fun z => Bool.noConfusion (show false = true from z), ?_⟩ | refine wpE_cn_i ?_ | refine wpE_gl_i ?_); refine ⟨fun z => ?_, fun z => ?_⟩))
theorem xs_k (k : Nat) (hk : k < 22) : ∀ j, j < 22 → xsL.lookup (clsN.getD k "", clsN.getD j "") = some (decide (j = k)) := by
  revert k
  decide +kernel
theorem xs_h (k : Nat) (hk : k < 22) : xsL.lookup (clsN.getD k "", ("HandsatworkError" : Str)) = some true ∧ xsL.lookup (clsN.getD k "", ("ValueError" : Str)) = some true := by
  revert k
  decide +kernel
/-- its items are copied freely -/
def cpI : T → Bool
  | .lst _ ts => cpys ts
  | t => cpy t
theorem cpI_of {t : T} (h : cpy t = true) : cpI t = true := by cases t <;> first | exact h | exact (Bool.and_eq_true_iff.mp h).2
structure Rw where
  (w0 w1 w2 w3 w4 w5 w6 : Str)
  (n0 n1 n2 n3 n4 n5 n6 n7 n8 : Int)
def Rw.rows (r : Rw) : List T := [.tup [.str r.w0, .int r.n0], .tup [.int r.n1], .tup [.str r.w1, .int r.n2], .tup [.int r.n3, .str r.w2], .tup [.str r.w3], .tup [.str r.w4], .tup [.str r.w5], .tup [.int r.n4], .tup [.int r.n5], .tup [.int r.n6, .int r.n7], .tup [.str r.w6], .tup [.int r.n8], .tup [], .tup [], .tup [], .tup [], .tup [], .tup [], .tup [], .tup [], .tup [], .tup []]
def Rw.excs (r : Rw) : List T := [.xo "BadTable" ["place", "index"] [.str r.w0, .int r.n0], .xo "BadText" ["line"] [.int r.n1], .xo "BadStanding" ["place", "index"] [.str r.w1, .int r.n2], .xo "CannotMove" ["index", "reason"] [.int r.n3, .str r.w2], .xo "NoSuch" ["what"] [.str r.w3], .xo "WrongGround" ["needed"] [.str r.w4], .xo "TooGreat" ["what"] [.str r.w5], .xo "BadVector" ["index"] [.int r.n4], .xo "NotLocal" ["kind"] [.int r.n5], .xo "BadProgram" ["line", "word"] [.int r.n6, .int r.n7], .xo "InUse" ["what"] [.str r.w6], .xo "AttemptFailed" ["index"] [.int r.n8], .xo "BadLot" [] [], .xo "BadDealing" [] [], .xo "NotCore" [] [], .xo "BadLoads" [] [], .xo "Impossible" [] [], .xo "BadLine" [] [], .xo "NothingToUndo" [] [], .xo "NothingToRedo" [] [], .xo "NotRooted" [] [], .xo "Refused" [] []]
theorem exc_at (r : Rw) : ∀ k, k < 22 → ∃ ns vs, r.excs[k]? = some (.xo (clsN.getD k "") ns vs)
  | 0, _ => ⟨_, _, rfl⟩
  | 1, _ => ⟨_, _, rfl⟩
  | 2, _ => ⟨_, _, rfl⟩
  | 3, _ => ⟨_, _, rfl⟩
  | 4, _ => ⟨_, _, rfl⟩
  | 5, _ => ⟨_, _, rfl⟩
  | 6, _ => ⟨_, _, rfl⟩
  | 7, _ => ⟨_, _, rfl⟩
  | 8, _ => ⟨_, _, rfl⟩
  | 9, _ => ⟨_, _, rfl⟩
  | 10, _ => ⟨_, _, rfl⟩
  | 11, _ => ⟨_, _, rfl⟩
  | 12, _ => ⟨_, _, rfl⟩
  | 13, _ => ⟨_, _, rfl⟩
  | 14, _ => ⟨_, _, rfl⟩
  | 15, _ => ⟨_, _, rfl⟩
  | 16, _ => ⟨_, _, rfl⟩
  | 17, _ => ⟨_, _, rfl⟩
  | 18, _ => ⟨_, _, rfl⟩
  | 19, _ => ⟨_, _, rfl⟩
  | 20, _ => ⟨_, _, rfl⟩
  | 21, _ => ⟨_, _, rfl⟩
  | k + 22, h => absurd h (by omega)
def blsK (k : Nat) : List T := (List.range 22).map fun j => .bl (decide (j = k))
def F__law_mixed : FE := { ms := [.v, .v], Ψ := fun ts Rq => ∃ n t : Int, ts = [.int n, .int t] ∧ (0 ≤ n ∧ n < 1000000000) ∧ (0 ≤ t ∧ t < 1000000) ∧ ∀ v : Int, 0 ≤ v → v < 1000 → Rq (.ok (.int v) []) }
def F__law_pool : FE := { ms := [.v, .v], Ψ := fun ts Rq => ∃ (ns : List Int) (m : Int), ts = [.lst .st (ns.map T.int), .int m] ∧ ns.length ≤ 63 ∧ (0 ≤ m ∧ m ≤ 1000) ∧ ∀ p : List Int, (p.length : Int) = m → okP p → Rq (.ok (.lst .own (p.map T.int)) []) }
def F__law_same : FE := { ms := [.v, .v], Ψ := fun ts Rq => ∃ a d, ts = [a, d] ∧ eqS a d = true ∧ cpI a = true ∧ cpI d = true ∧ lnB d = true ∧ Rq (.ok (.bl true) []) }
def F__law_word : FE := { ms := [.v, .v], Ψ := fun ts Rq => ∃ (p : List Int) (i : Int), ts = [.lst .frz (p.map T.int), .int i] ∧ okP p ∧ 0 ≤ i ∧ i < p.length ∧ ∀ w : Str, Rq (.ok (.str w) []) }
def F__law_number : FE := { ms := [.v, .v], Ψ := fun ts Rq => ∃ (p : List Int) (i : Int), ts = [.lst .frz (p.map T.int), .int i] ∧ okP p ∧ 0 ≤ i ∧ i + 1 < p.length ∧ ∀ v : Int, Rq (.ok (.int v) []) }
def F__law_fields_of : FE := { ms := [.v, .v], Ψ := fun ts Rq => ∃ (p : List Int) (i : Int), ts = [.lst .frz (p.map T.int), .int i] ∧ okP p ∧ 0 ≤ i ∧ i + 24 < p.length ∧ ∀ r : Rw, Rq (.ok (.lst .own r.rows) []) }
def F__law_made : FE := { ms := [.v], Ψ := fun ts Rq => ∃ r : Rw, ts = [.lst .frz r.rows] ∧ Rq (.ok (.lst .own r.excs) []) }
def F__law_read : FE := { ms := [.v], Ψ := fun ts Rq => ∃ r : Rw, ts = [.lst .frz r.excs] ∧ Rq (.ok (.lst .own r.rows) []) }
def F__law_classes_of : FE := { ms := [.v], Ψ := fun ts Rq => ∃ (k : Nat) (ns : List Str) (vs : List T), ts = [.xo (clsN.getD k "") ns vs] ∧ k < 22 ∧ Rq (.ok (.lst .own (blsK k)) []) }
def F__law_right : FE := { ms := [.v, .v], Ψ := fun ts Rq => ∃ r : Rw, ts = [.lst .frz r.excs, .lst .frz r.rows] ∧ Rq (.ok (.bl true) []) }
def F_law : FE := { ms := [.v], Ψ := fun ts Rq => ∃ ns : List Int, ts = [.lst .st (ns.map T.int)] ∧ ns.length ≤ 63 ∧ Rq (.ok (.bl true) []) }
def dep__law_mixed : List T → Nat := fun _ => 0
def dep__law_pool : List T → Nat := fun _ => 1
def dep__law_same : List T → Nat := hts
def dep__law_word : List T → Nat := fun _ => 0
def dep__law_number : List T → Nat := fun _ => 0
def dep__law_fields_of : List T → Nat := fun _ => 1
def dep__law_made : List T → Nat := fun _ => 0
def dep__law_read : List T → Nat := fun _ => 0
def dep__law_classes_of : List T → Nat := fun _ => 0
def dep__law_right : List T → Nat := fun _ => 10
def dep_law : List T → Nat := fun _ => 20
def r__law_mixed : DR := ⟨(.fn "_law_mixed"), F__law_mixed, dep__law_mixed, d__law_mixed, N__law_mixed, P__law_mixed, b__law_mixed⟩
def r__law_pool : DR := ⟨(.fn "_law_pool"), F__law_pool, dep__law_pool, d__law_pool, N__law_pool, P__law_pool, b__law_pool⟩
def r__law_same : DR := ⟨(.fn "_law_same"), F__law_same, dep__law_same, d__law_same, N__law_same, P__law_same, b__law_same⟩
def r__law_word : DR := ⟨(.fn "_law_word"), F__law_word, dep__law_word, d__law_word, N__law_word, P__law_word, b__law_word⟩
def r__law_number : DR := ⟨(.fn "_law_number"), F__law_number, dep__law_number, d__law_number, N__law_number, P__law_number, b__law_number⟩
def r__law_fields_of : DR := ⟨(.fn "_law_fields_of"), F__law_fields_of, dep__law_fields_of, d__law_fields_of, N__law_fields_of, P__law_fields_of, b__law_fields_of⟩
def r__law_made : DR := ⟨(.fn "_law_made"), F__law_made, dep__law_made, d__law_made, N__law_made, P__law_made, b__law_made⟩
def r__law_read : DR := ⟨(.fn "_law_read"), F__law_read, dep__law_read, d__law_read, N__law_read, P__law_read, b__law_read⟩
def r__law_classes_of : DR := ⟨(.fn "_law_classes_of"), F__law_classes_of, dep__law_classes_of, d__law_classes_of, N__law_classes_of, P__law_classes_of, b__law_classes_of⟩
def r__law_right : DR := ⟨(.fn "_law_right"), F__law_right, dep__law_right, d__law_right, N__law_right, P__law_right, b__law_right⟩
def r_law : DR := ⟨(.fn "law"), F_law, dep_law, d_law, N_law, P_law, b_law⟩
def rows : List DR := [r__law_mixed, r__law_pool, r__law_same, r__law_word, r__law_number, r__law_fields_of, r__law_made, r__law_read, r__law_classes_of, r__law_right, r_law]
abbrev Tb (n : Nat) : Sig := tbN Gx rows n
theorem tb__law_mixed (n : Nat) : (Tb n).tb[0]? = some (DR.FEn r__law_mixed n) := rfl
theorem tb__law_pool (n : Nat) : (Tb n).tb[1]? = some (DR.FEn r__law_pool n) := rfl
theorem tb__law_same (n : Nat) : (Tb n).tb[2]? = some (DR.FEn r__law_same n) := rfl
theorem tb__law_word (n : Nat) : (Tb n).tb[3]? = some (DR.FEn r__law_word n) := rfl
theorem tb__law_number (n : Nat) : (Tb n).tb[4]? = some (DR.FEn r__law_number n) := rfl
theorem tb__law_fields_of (n : Nat) : (Tb n).tb[5]? = some (DR.FEn r__law_fields_of n) := rfl
theorem tb__law_made (n : Nat) : (Tb n).tb[6]? = some (DR.FEn r__law_made n) := rfl
theorem tb__law_read (n : Nat) : (Tb n).tb[7]? = some (DR.FEn r__law_read n) := rfl
theorem tb__law_classes_of (n : Nat) : (Tb n).tb[8]? = some (DR.FEn r__law_classes_of n) := rfl
theorem tb__law_right (n : Nat) : (Tb n).tb[9]? = some (DR.FEn r__law_right n) := rfl
theorem tb_law (n : Nat) : (Tb n).tb[10]? = some (DR.FEn r_law n) := rfl
theorem tb_at_ (n : Nat) : (Tb n).at_ = Gx.at_ := rfl
theorem tb_xs (n : Nat) : (Tb n).xs = Gx.xs := rfl
theorem tb_xf (n : Nat) : (Tb n).xf = Gx.xf := rfl
theorem tb_xm (n : Nat) : (Tb n).xm = Gx.xm := rfl
theorem tb_rz (n : Nat) : (Tb n).rz = Gx.rz := rfl
end K96
end
section
set_option Elab.async false
set_option linter.all false
set_option maxRecDepth 1000000
set_option maxHeartbeats 0
set_option pp.maxSteps 500
namespace K96
open PySem PySem.Spec PyProof.Rows L2 OT TL HW
local macro_rules | `(tactic| walk_at "w") => `(tactic| repeat first | refine And.intro (show (_ : Nat) ≠ _ by decide) ?_ | refine And.intro (by (fail_if_success intro _); first | ((with_reducible show (_ : Int) ≤ _ ∧ (_ : Int) < _); omega) | ((with_reducible show (_ : Nat) ≤ 16000000); (first | with_reducible assumption | omega | exact Nat.le_of_ble_eq_true rfl | (simp only [HW.app_len]; omega))) | ((with_reducible show (_ : Nat) < 16000000); (first | with_reducible assumption | omega | exact Nat.le_of_ble_eq_true rfl | (simp only [HW.app_len]; omega))) | rfl | assumption | exact ⟨rfl, rfl⟩ | (with_reducible exact cmulS (by first | omega | decide) (by first | omega | decide) (by first | omega | decide) (by first | omega | decide)) | exact ⟨by decide, by decide⟩ | exact ⟨by decide, by decide, by decide⟩ | omega | decide) ?_ | refine ⟨_, rfl, ?_⟩ | refine ⟨fun _ => ?_, fun z => Bool.noConfusion (show true = false from z)⟩ | refine ⟨fun z => Bool.noConfusion (show false = true from z), fun _ => ?_⟩ | refine ⟨fun z => Bool.noConfusion (show false = true from z), ?_⟩ | refine wpE_cn_i ?_ | refine wpE_gl_i ?_)
local macro_rules | `(tactic| walk_at "b") => `(tactic| ((repeat first | refine And.intro (show (_ : Nat) ≠ _ by decide) ?_ | refine And.intro (by (fail_if_success intro _); first | ((with_reducible show (_ : Int) ≤ _ ∧ (_ : Int) < _); omega) | ((with_reducible show (_ : Nat) ≤ 16000000); (first | with_reducible assumption | omega | exact Nat.le_of_ble_eq_true rfl | (simp only [HW.app_len]; omega))) | ((with_reducible show (_ : Nat) < 16000000); (first | with_reducible assumption | omega | exact Nat.le_of_ble_eq_true rfl | (simp only [HW.app_len]; omega))) | rfl | assumption | exact ⟨rfl, rfl⟩ | (with_reducible exact cmulS (by first | omega | decide) (by first | omega | decide) (by first | omega | decide) (by first | omega | decide)) | exact ⟨by decide, by decide⟩ | exact ⟨by decide, by decide, by decide⟩ | omega | decide) ?_ | refine ⟨_, rfl, ?_⟩ | refine ⟨fun _ => ?_, fun z => Bool.noConfusion (show true = false from z)⟩ | refine ⟨fun z => Bool.noConfusion (show false = true from z), fun _ => ?_⟩ | refine ⟨fun z => Bool.noConfusion (show false = true from z), ?_⟩ | refine wpE_cn_i ?_ | refine wpE_gl_i ?_); refine ⟨fun z => ?_, fun z => ?_⟩))
abbrev Goal (n : Nat) (F : FE) (dep : List T → Nat) (b : Ss) (k : Nat) : Prop := ∀ ts Rq, dep ts ≤ n → F.Ψ ts Rq → ts.length = F.ms.length → wpSs (Tb n) b (entry F.ms ts k) (CT.fn F.ms Rq)
theorem g__law_mixed (n : Nat) : Goal n F__law_mixed dep__law_mixed b__law_mixed (N__law_mixed.length - P__law_mixed.length) := by
  rintro _ Rq - ⟨a, t, rfl, ⟨a1, a2⟩, ⟨t1, t2⟩, h⟩ -
  walk_at "w"
  refine h _ ?_ ?_ <;> omega
theorem same_flat {a d : T} (h : eqS a d = true) : (d = .non → a = .non) ∧ (∀ b, d = .bl b → a = .bl b) ∧ (∀ i, d = .int i → a = .int i) ∧ (∀ x, d = .str x → a = .str x) ∧ (∀ ds, d = .tup ds → ∃ as, a = .tup as ∧ eqSs as ds = true) ∧ (∀ f ds, d = .lst f ds → ∃ g as, a = .lst g as ∧ eqSs as ds = true) := by
  refine ⟨?_, ?_, ?_, ?_, ?_, ?_⟩
  · rintro rfl; cases a <;> first | rfl | cases h
  · rintro b rfl; cases a <;> first | (rw [show _ = b from eq_of_beq h]) | cases h
  · rintro b rfl; cases a <;> first | (rw [show _ = b from of_decide_eq_true h]) | cases h
  · rintro b rfl; cases a <;> first | (rw [show _ = b from of_decide_eq_true h]) | cases h
  · rintro ds rfl; cases a <;> first | exact ⟨_, rfl, h⟩ | cases h
  · rintro f ds rfl; cases a <;> first | exact ⟨_, _, rfl, h⟩ | cases h
theorem g__law_same (n : Nat) : Goal n F__law_same dep__law_same b__law_same (N__law_same.length - P__law_same.length) := by
  rintro _ Rq hn ⟨a, d, rfl, he, ca, cd, ld, h⟩ -
  have hn : hts [a, d] ≤ n := hn
  obtain ⟨s1, s2, s3, s4, s5, s6⟩ := same_flat he
  cases d with
  | non =>
    obtain rfl := s1 rfl
    walk_at "w"
    exact h
  | bl b =>
    obtain rfl := s2 b rfl
    cases b
    · walk_at "w"
      exact h
    · walk_at "w"
      exact h
  | int i =>
    obtain rfl := s3 i rfl
    have h : Rq (.ok (.bl (decide (i = i))) []) := by rw [decide_eq_true rfl]; exact h
    walk_at "w"
    exact h
  | str x =>
    obtain rfl := s4 x rfl
    have h : Rq (.ok (.bl (decide (x = x))) []) := by rw [decide_eq_true rfl]; exact h
    walk_at "w"
    exact h
  | tup ds =>
    obtain ⟨as, rfl, hs⟩ := s5 ds rfl
    have hlen := eqSs_len hs
    walk_at "b"
    · rename_i z
      have z : (!decide ((as.length : Int) = (ds.length : Int))) = true := z
      rw [hlen, decide_eq_true rfl] at z
      cases z
    · have c1 : cpys as = true := ca
      have c2 : cpys ds = true := cd
      have hb : (ds.length : Int) < 4611686018427387904 := by
        have := of_decide_eq_true (Bool.and_eq_true_iff.mp ld).1
        omega
      have ln2 : lnBs ds = true := (Bool.and_eq_true_iff.mp ld).2
      walk_at "w"
      refine forT_ind (fun ts e => ∃ (s : Sl), e = [.has false (.tup as), .has false (.tup ds), s] ∧ freeS s = true ∧ ∀ t ∈ ts, ∃ k : Nat, t = .int (k : Int) ∧ k < ds.length) ?_ ?_ ⟨_, rfl, rfl, ?_⟩
      · rintro e ⟨s, rfl, _⟩
        walk_at "w"
        exact h
      · rintro y r e K ⟨s, rfl, hs1, hk⟩ hK
        obtain ⟨k, rfl, hkl⟩ := hk y (by simp)
        have e1 : as[k]? = some as[k] := List.getElem?_eq_getElem (by omega)
        have e2 : ds[k]? = some ds[k] := List.getElem?_eq_getElem hkl
        have m1 : as[k] ∈ as := List.getElem_mem _
        have m2 : ds[k] ∈ ds := List.getElem_mem _
        have q1 := cpys_mem c1 _ m1
        have q2 := cpys_mem c2 _ m2
        have q5 := lnBs_mem ln2 _ m2
        have q3 := eqSs_get hs e1 e2
        have q4 : hts [as[k], ds[k]] < n := by
          have h1 := ht_mem m1
          have h2 := ht_mem m2
          have h3 : hts [(.tup as), (.tup ds)] = max (hts as + 1) (hts ds + 1) := by show max (hts as + 1) (max (hts ds + 1) 0) = _; omega
          have h4 : hts [as[k], ds[k]] = max (ht as[k]) (ht ds[k]) := by show max _ (max _ 0) = _; omega
          omega
        generalize as[k] = x at *
        generalize ds[k] = y at *
        refine ⟨hs1, ?_⟩
        walk_at "w"
        refine ⟨x, OT.atI_nat e1, ?_⟩
        walk_at "w"
        refine ⟨y, OT.atI_nat e2, ?_⟩
        walk_at "w"
        refine ⟨x, y, rfl, q3, cpI_of q1, cpI_of q2, q5, ?_⟩
        walk_at "w"
        exact hK _ ⟨_, rfl, rfl, fun t ht => hk t (by simp [ht])⟩
      · intro t ht
        obtain ⟨k, hk, rfl⟩ := List.mem_map.mp ht
        have hk := List.mem_range.mp hk
        exact ⟨k, by congr 1; omega, by omega⟩
  | lst f ds =>
    obtain ⟨g, as, rfl, hs⟩ := s6 f ds rfl
    have hlen := eqSs_len hs
    walk_at "b"
    · rename_i z
      have z : (!decide ((as.length : Int) = (ds.length : Int))) = true := z
      rw [hlen, decide_eq_true rfl] at z
      cases z
    · have c1 : cpys as = true := ca
      have c2 : cpys ds = true := cd
      have hb : (ds.length : Int) < 4611686018427387904 := by
        have := of_decide_eq_true (Bool.and_eq_true_iff.mp ld).1
        omega
      have ln2 : lnBs ds = true := (Bool.and_eq_true_iff.mp ld).2
      walk_at "w"
      refine forT_ind (fun ts e => ∃ (s : Sl), e = [.has false (.lst g as), .has false (.lst f ds), s] ∧ freeS s = true ∧ ∀ t ∈ ts, ∃ k : Nat, t = .int (k : Int) ∧ k < ds.length) ?_ ?_ ⟨_, rfl, rfl, ?_⟩
      · rintro e ⟨s, rfl, _⟩
        walk_at "w"
        exact h
      · rintro y r e K ⟨s, rfl, hs1, hk⟩ hK
        obtain ⟨k, rfl, hkl⟩ := hk y (by simp)
        have e1 : as[k]? = some as[k] := List.getElem?_eq_getElem (by omega)
        have e2 : ds[k]? = some ds[k] := List.getElem?_eq_getElem hkl
        have m1 : as[k] ∈ as := List.getElem_mem _
        have m2 : ds[k] ∈ ds := List.getElem_mem _
        have q1 := cpys_mem c1 _ m1
        have q2 := cpys_mem c2 _ m2
        have q5 := lnBs_mem ln2 _ m2
        have q3 := eqSs_get hs e1 e2
        have q4 : hts [as[k], ds[k]] < n := by
          have h1 := ht_mem m1
          have h2 := ht_mem m2
          have h3 : hts [(.lst g as), (.lst f ds)] = max (hts as + 1) (hts ds + 1) := by show max (hts as + 1) (max (hts ds + 1) 0) = _; omega
          have h4 : hts [as[k], ds[k]] = max (ht as[k]) (ht ds[k]) := by show max _ (max _ 0) = _; omega
          omega
        generalize as[k] = x at *
        generalize ds[k] = y at *
        refine ⟨hs1, ?_⟩
        walk_at "w"
        refine ⟨x, OT.atI_nat e1, ?_⟩
        walk_at "w"
        refine ⟨y, OT.atI_nat e2, ?_⟩
        walk_at "w"
        refine ⟨x, y, rfl, q3, cpI_of q1, cpI_of q2, q5, ?_⟩
        walk_at "w"
        exact hK _ ⟨_, rfl, rfl, fun t ht => hk t (by simp [ht])⟩
      · intro t ht
        obtain ⟨k, hk, rfl⟩ := List.mem_map.mp ht
        have hk := List.mem_range.mp hk
        exact ⟨k, by congr 1; omega, by omega⟩
  | _ => cases a <;> cases he
def absI (x : Int) : Int := if x < 0 then -x else x
theorem absI_nn (x : Int) : 0 ≤ absI x := by unfold absI; split <;> omega
def rwT (r : List Int) : T := .lst .own (r.map T.int)
def pool_tl : Ss := match b__law_pool with | .cons _ (.cons _ t) => t | _ => .nil
theorem pool_rest (n : Nat) (Rq : Rr → Prop) (m : Int) (S : T) (s4 : Sl) (h4 : freeS s4 = true) (h0n : 0 < n) (m0 : 0 ≤ m) (m1 : m ≤ 1000)
    (h : ∀ (p : List Int), (p.length : Int) = m → okP p → Rq (Rr.ok (T.lst Fl.own (List.map T.int p)) [])) (cs : List Int) (c0 : cs ≠ []) (c1 : ∀ x ∈ cs, 0 ≤ x) (c2 : cs.length ≤ 63) :
    wpSs (Tb n) pool_tl [.has false S, .has false (.int m), .has false (.lst .own (cs.map T.int)), .und, s4, .und, .und, .und, .und, .und, .und] (CT.fn F__law_pool.ms Rq) := by
  have c := cpys_int (l := cs)
  walk_at "w"
  have ct : turns .frz (cs.map T.int) = cs.map T.int := turns_map_id (f := T.int) fun _ => rfl
  refine ⟨by show cpys (turns .frz (cs.map T.int)) = true; rw [ct]; exact c, ?_⟩
  refine forT_ind (fun ts e => ∃ (done rest : List Int) (dg : List (List Int)) (B : T) (s4 s7 s8 s10 : Sl), ts = rest.map T.int ∧ e = [.has false S, .has false (.int m), .has false (.lst .frz (cs.map T.int)), .has false B, s4, .und, .und, s7, s8, .und, s10] ∧ B = .lst .own (dg.map rwT) ∧ done ++ rest = cs ∧ dg.length = done.length ∧ (∀ r ∈ dg, r.length ≤ 90 ∧ okP r) ∧ (freeS s4 = true ∧ freeS s7 = true ∧ freeS s8 = true ∧ freeS s10 = true)) ?_ ?_ ⟨[], cs, [], _, s4, .und, .und, .und, ct, congrArg (fun z => [_, _, Sl.has false (T.lst .frz z), _, _, _, _, _, _, _, _]) ct, rfl, rfl, rfl, by simp, h4, rfl, rfl, rfl⟩
  · rintro e ⟨done, rest, dg, _, s4, s7, s8, s10, he, rfl, rfl, hd, hdl, hdg, f4, f7, f8, f10⟩
    have e0 : rest = [] := by cases rest with
      | nil => rfl
      | cons s r => cases he
    subst e0
    rw [List.append_nil] at hd
    subst hd
    have hln : (done.map T.int).length = done.length := List.length_map _
    have hld : (dg.map rwT).length = dg.length := List.length_map _
    have hp : 0 < done.length := List.length_pos_iff.mpr c0
    walk_at "w"
    refine forT_ind (fun ts e => ∃ (k r : Nat) (p : List Int) (B : T) (s4 s6 s7 s8 s9 s10 : Sl), ts = (List.range' k r).map (fun z : Nat => T.int (z : Int)) ∧ e = [.has false S, .has false (.int m), .has false (.lst .frz (done.map T.int)), .has false (.lst .own (dg.map rwT)), s4, .has false B, s6, s7, s8, s9, s10] ∧ B = .lst .own (p.map T.int) ∧ (k : Int) + r = m ∧ p.length = k ∧ okP p ∧ (freeS s6 = true ∧ freeS s9 = true ∧ freeS s10 = true)) ?_ ?_ ?_
    rotate_left 2
    · exact ⟨0, m.toNat, [], _, s4, .und, s7, s8, .und, s10, (by show (List.range m.toNat).map (fun z : Nat => T.int (0 + (z : Int))) = _; rw [List.range_eq_range']; apply List.map_congr_left; intro z _; congr 1; omega), rfl, rfl, by omega, rfl, (by intro _ h; cases h), rfl, rfl, f10⟩
    · rintro e ⟨k, r, p, _, s4, s6, s7, s8, s9, s10, he, rfl, rfl, hk, hpl, ho, _⟩
      have e0 : r = 0 := by cases r with
        | zero => rfl
        | succ r => cases he
      subst e0
      walk_at "w"
      exact h p (by omega) ho
    · rintro y rr e K' ⟨k, r, p, _, s4, s6, s7, s8, s9, s10, he, rfl, rfl, hk, hpl, ho, f6, f9, f10⟩ hK'
      cases r with
      | zero => cases he
      | succ r =>
        rw [List.range'_succ] at he
        obtain ⟨rfl, rfl⟩ := List.cons.inj he
        refine ⟨f6, ?_⟩
        have p0 : 0 ≤ (k : Int) % ((done.map T.int).length : Int) := Int.emod_nonneg _ (by omega)
        have p1 : (k : Int) % ((done.map T.int).length : Int) < ((done.map T.int).length : Int) := Int.emod_lt_of_pos _ (by omega)
        have p2 : 0 ≤ (k : Int) / ((done.map T.int).length : Int) := Int.ediv_nonneg (by omega) (by omega)
        have p3 : (k : Int) / ((done.map T.int).length : Int) ≤ k := Int.ediv_le_self _ (by omega)
        have hpl2 : (p.map T.int).length < LIM := by rw [List.length_map]; unfold LIM; omega
        have fin : ∀ (v : Int) s4 s6 s7 s8 s9 s10, (0 ≤ v ∧ v < 1000) → freeS s6 = true → freeS s9 = true → freeS s10 = true →
            K' [.has false S, .has false (.int m), .has false (.lst .frz (done.map T.int)), .has false (.lst .own (dg.map rwT)), s4, .has false (.lst .own (p.map T.int ++ [.int v])), s6, s7, s8, s9, s10] := fun v s4 s6 s7 s8 s9 s10 hv f6 f9 f10 =>
          hK' _ ⟨k + 1, r, p ++ [v], _, _, _, _, _, _, _, rfl, rfl, by rw [List.map_append]; rfl, by omega, by simp [hpl], fun z hz => by
            rcases List.mem_append.mp hz with hz | hz
            · exact ho z hz
            · obtain rfl := List.mem_singleton.mp hz
              exact hv, f6, f9, f10⟩
        obtain ⟨row, er, _, mr⟩ := atI_in (xs := dg) p0 (by omega)
        obtain ⟨hr9, hro⟩ := hdg row mr
        have hrl : (row.map T.int).length = row.length := List.length_map _
        walk_at "w"
        refine ⟨⟨by omega, by omega⟩, ?_⟩
        walk_at "w"
        refine ⟨_, atI_map er, ?_⟩
        walk_at "b"
        · rename_i z
          have z := of_decide_eq_true z
          walk_at "w"
          refine ⟨_, atI_map er, ?_⟩
          walk_at "w"
          refine ix_ints (fl := .own) p2 (by omega) fun v mv => ?_
          have q := hro v mv
          walk_at "w"
          exact fin v _ _ _ _ _ _ q rfl rfl rfl
        · walk_at "w"
          refine ix_ints (fl := .frz) p0 (by omega) fun v mv => ?_
          have q := c1 v mv
          have q1 : 0 ≤ v % 1000003 := Int.emod_nonneg _ (by omega)
          have q2 : v % 1000003 < 1000003 := Int.emod_lt_of_pos _ (by omega)
          walk_at "w"
          refine ⟨_, _, rfl, ⟨by omega, by omega⟩, ⟨by omega, by omega⟩, fun w w1 w2 => ?_⟩
          walk_at "w"
          exact fin w _ _ _ _ _ _ ⟨w1, w2⟩ rfl rfl rfl
  · rintro y r e K ⟨done, rest, dg, _, s4, s7, s8, s10, he, rfl, rfl, hd, hdl, hdg, f4, f7, f8, f10⟩ hK
    cases rest with
    | nil => cases he
    | cons x rest =>
      obtain ⟨rfl, rfl⟩ := List.cons.inj he
      have hx : 0 ≤ x := c1 x (by rw [← hd]; simp)
      have hl1 : (dg.map rwT).length < LIM := by
        have := congrArg List.length hd
        simp at this
        rw [List.length_map]
        unfold LIM
        omega
      have fin : ∀ (R : T) (row : List Int) s4 s8 s10, R = rwT row → row.length ≤ 90 → okP row → freeS s4 = true → freeS s8 = true → freeS s10 = true →
          K [.has false S, .has false (.int m), .has false (.lst .frz (cs.map T.int)), .has false (.lst .own (dg.map rwT ++ [R])), s4, .und, .und, .und, s8, .und, s10] := fun R row s4 s8 s10 hR q1 q2 f4 f8 f10 =>
        hK _ ⟨done ++ [x], rest, dg ++ [row], _, _, _, _, _, rfl, rfl, by rw [hR]; simp, by simpa using hd, by simp [hdl], fun r hr => by
          rcases List.mem_append.mp hr with hr | hr
          · exact hdg r hr
          · obtain rfl := List.mem_singleton.mp hr
            exact ⟨q1, q2⟩, f4, rfl, f8, f10⟩
      walk_at "b"
      · refine ⟨⟨by decide, by decide⟩, ?_⟩
        refine forT_ind (fun ts e => ∃ (row : List Int) (R : T) (v : Int) (s10 : Sl), R = rwT row ∧ ts.length + row.length ≤ 90 ∧ okP row ∧ freeS s10 = true ∧ e = [.has false S, .has false (.int m), .has false (.lst .frz (cs.map T.int)), .has false (.lst .own (dg.map rwT)), .has false (.int x), .und, .und, .has false R, .has false (.int v), .und, s10]) ?_ ?_ ?_
        rotate_left 2
        · exact ⟨[], _, _, _, rfl, Nat.le_of_ble_eq_true rfl, (by intro _ h; cases h), f10, rfl⟩
        · rintro e ⟨row, _, v, s10, rfl, hr, ho, hf, rfl⟩
          walk_at "w"
          exact fin _ row _ _ _ rfl (by simpa using hr) ho rfl rfl hf
        · rintro y r e K' ⟨row, _, v, s10, rfl, hr, ho, hf, rfl⟩ hK'
          rw [List.length_cons] at hr
          have hrl : (row.map T.int).length < LIM := by rw [List.length_map]; unfold LIM; omega
          walk_at "b"
          · walk_at "w"
            refine hK' _ ⟨row ++ [v % 1000], _, _, _, ?_, ?_, ?_, ?_, rfl⟩
            · show T.lst .own (row.map T.int ++ [T.int (v % 1000)]) = T.lst .own ((row ++ [v % 1000]).map T.int)
              rw [List.map_append]
              rfl
            · simp; omega
            · intro z hz
              rcases List.mem_append.mp hz with hz | hz
              · exact ho z hz
              · obtain rfl := List.mem_singleton.mp hz
                exact ⟨Int.emod_nonneg _ (by omega), Int.emod_lt_of_pos _ (by omega)⟩
            · rfl
          · walk_at "w"
            exact hK' _ ⟨row, _, _, _, rfl, by omega, ho, rfl, rfl⟩
      · walk_at "w"
        exact fin _ [] _ _ _ rfl (by simp) (by intro _ h; cases h) rfl rfl f10
theorem g__law_pool (n : Nat) : Goal n F__law_pool dep__law_pool b__law_pool (N__law_pool.length - P__law_pool.length) := by
  rintro _ Rq hn ⟨ns, m, rfl, hl, ⟨m0, m1⟩, h⟩ -
  have hn : 1 ≤ n := hn
  have h0n : 0 < n := by omega
  have c := cpys_int (l := ns)
  have hc : cutT (ns.map T.int) none (some 63) = ns.map T.int := by
    rw [cut_map]
    have e1 : HT.sIx ns.length 0 none = 0 := rfl
    have e2 : HT.sIx ns.length ns.length (some 63) = ns.length := by
      simp [HT.sIx]; omega
    rw [e1, e2, List.drop_zero, Nat.sub_zero, List.take_length]
  have c2 : cpys (cutT (ns.map T.int) none (some 63)) = true := by rw [hc]; exact c
  walk_at "w"
  refine turns_map (xs := ns) (tx := T.int) hc (fun x => .int (absI x)) (by unfold LIM; omega) ?_ ?_
  · have e : ns.map (fun x => T.int (absI x)) = (ns.map absI).map T.int := by simp
    rw [e]
    have cl : (ns.map absI).length ≤ 63 := by simpa using hl
    have cn : ∀ x ∈ ns.map absI, 0 ≤ x := fun x hx => by
      obtain ⟨y, _, rfl⟩ := List.mem_map.mp hx
      exact absI_nn y
    generalize ns.map absI = cs at *
    walk_at "w"
    refine eq_ints_nil ?_
    cases cs with
    | nil =>
      refine ⟨fun _ => ?_, fun z => Bool.noConfusion (show true = false from z)⟩
      have key := pool_rest n Rq m (.lst .st (ns.map T.int)) .und rfl h0n m0 m1 h [0] (by simp) (by simp) (by simp)
      refine ⟨Nat.le_of_ble_eq_true rfl, ?_⟩
      first | exact key | exact ⟨rfl, key⟩
    | cons a l =>
      refine ⟨fun z => Bool.noConfusion (show false = true from z), fun _ => ?_⟩
      exact pool_rest n Rq m (.lst .st (ns.map T.int)) .und rfl h0n m0 m1 h (a :: l) (by simp) cn cl
  · intro x hx acc K' hl' hK'
    walk_at "w"
    exact hK'
end K96
end
section
set_option Elab.async false
set_option linter.all false
set_option maxRecDepth 1000000
set_option maxHeartbeats 0
set_option pp.maxSteps 500
namespace K96
open PySem PySem.Spec PyProof.Rows L2 OT TL HW
local macro_rules | `(tactic| walk_at "w") => `(tactic| repeat first | refine And.intro (show (_ : Nat) ≠ _ by decide) ?_ | refine And.intro (by (fail_if_success intro _); first | ((with_reducible show (_ : Int) ≤ _ ∧ (_ : Int) < _); omega) | ((with_reducible show (_ : Nat) ≤ 16000000); (first | with_reducible assumption | omega | exact Nat.le_of_ble_eq_true rfl | (simp only [HW.app_len]; omega))) | ((with_reducible show (_ : Nat) < 16000000); (first | with_reducible assumption | omega | exact Nat.le_of_ble_eq_true rfl | (simp only [HW.app_len]; omega))) | rfl | assumption | exact ⟨rfl, rfl⟩ | (with_reducible exact cmulS (by first | omega | decide) (by first | omega | decide) (by first | omega | decide) (by first | omega | decide)) | exact ⟨by decide, by decide⟩ | exact ⟨by decide, by decide, by decide⟩ | omega | decide) ?_ | refine ⟨_, rfl, ?_⟩ | refine ⟨fun _ => ?_, fun z => Bool.noConfusion (show true = false from z)⟩ | refine ⟨fun z => Bool.noConfusion (show false = true from z), fun _ => ?_⟩ | refine ⟨fun z => Bool.noConfusion (show false = true from z), ?_⟩ | refine wpE_cn_i ?_ | refine wpE_gl_i ?_)
local macro_rules | `(tactic| walk_at "b") => `(tactic| ((repeat first | refine And.intro (show (_ : Nat) ≠ _ by decide) ?_ | refine And.intro (by (fail_if_success intro _); first | ((with_reducible show (_ : Int) ≤ _ ∧ (_ : Int) < _); omega) | ((with_reducible show (_ : Nat) ≤ 16000000); (first | with_reducible assumption | omega | exact Nat.le_of_ble_eq_true rfl | (simp only [HW.app_len]; omega))) | ((with_reducible show (_ : Nat) < 16000000); (first | with_reducible assumption | omega | exact Nat.le_of_ble_eq_true rfl | (simp only [HW.app_len]; omega))) | rfl | assumption | exact ⟨rfl, rfl⟩ | (with_reducible exact cmulS (by first | omega | decide) (by first | omega | decide) (by first | omega | decide) (by first | omega | decide)) | exact ⟨by decide, by decide⟩ | exact ⟨by decide, by decide, by decide⟩ | omega | decide) ?_ | refine ⟨_, rfl, ?_⟩ | refine ⟨fun _ => ?_, fun z => Bool.noConfusion (show true = false from z)⟩ | refine ⟨fun z => Bool.noConfusion (show false = true from z), fun _ => ?_⟩ | refine ⟨fun z => Bool.noConfusion (show false = true from z), ?_⟩ | refine wpE_cn_i ?_ | refine wpE_gl_i ?_); refine ⟨fun z => ?_, fun z => ?_⟩))
theorem ix_str {ws : List Str} {i : Int} {fl : Fl} {Q : T → Prop} (h0 : 0 ≤ i) (h1 : i < ws.length) (h : ∀ w, w ∈ ws → Q (.str w)) : ixT (.lst fl (ws.map T.str)) (.int i) Q := by
  obtain ⟨x, e, _, m⟩ := atI_in h0 h1
  exact ⟨_, atI_map e, h x m⟩
def menuW : List Str := [("people" : Str), ("hands" : Str), ("ties" : Str), ("web" : Str), ("kinds" : Str), ("quick" : Str), ("shares" : Str), ("rows" : Str), ("places" : Str), ("most" : Str), ("share" : Str), ("none" : Str)] ++ [("unknown" : Str), ("tree" : Str), ("one hand" : Str), ("no quick" : Str), ("events" : Str), ("" : Str)]
theorem g__law_word (n : Nat) : Goal n F__law_word dep__law_word b__law_word (N__law_word.length - P__law_word.length) := by
  rintro _ Rq - ⟨p, i, rfl, hp, hi, hi2, h⟩ -
  have cp : cpys (p.map T.int) = true := cpys_int
  walk_at "w"
  refine ix_ints (fl := .frz) hi hi2 fun v m => ?_
  have m0 : 0 ≤ v % 18 := Int.emod_nonneg _ (by omega)
  have m1 : v % 18 < 18 := Int.emod_lt_of_pos _ (by omega)
  walk_at "w"
  refine ix_str (fl := .own) (ws := menuW) m0 m1 fun w m => ?_
  walk_at "w"
  exact h w
theorem g__law_number (n : Nat) : Goal n F__law_number dep__law_number b__law_number (N__law_number.length - P__law_number.length) := by
  rintro _ Rq - ⟨p, i, rfl, hp, hi, hi2, h⟩ -
  have cp : cpys (p.map T.int) = true := cpys_int
  walk_at "w"
  refine ix_ints (fl := .frz) hi (by omega) fun v m => ?_
  walk_at "b"
  · walk_at "w"
    refine ix_ints (fl := .frz) (by omega) (by omega) fun v2 m2 => ?_
    walk_at "w"
    exact h _
  · walk_at "b"
    · walk_at "w"
      refine ix_ints (fl := .frz) (by omega) (by omega) fun v2 m2 => ?_
      obtain ⟨y0, y1⟩ := hp v2 m2
      walk_at "w"
      refine ix_ints (fl := .frz) (by omega) (by omega) fun v3 m3 => ?_
      walk_at "w"
      exact h _
    · walk_at "w"
      refine ix_ints (fl := .frz) (by omega) (by omega) fun v2 m2 => ?_
      walk_at "w"
      exact h _
theorem len7 : ∀ {l : List Str}, l.length = 7 → ∃ a b c d e f g, l = [a, b, c, d, e, f, g]
  | [a, b, c, d, e, f, g], _ => ⟨a, b, c, d, e, f, g, rfl⟩
theorem len9 : ∀ {l : List Int}, l.length = 9 → ∃ a b c d e f g h i, l = [a, b, c, d, e, f, g, h, i]
  | [a, b, c, d, e, f, g, h, i], _ => ⟨a, b, c, d, e, f, g, h, i, rfl⟩
theorem g__law_fields_of (n : Nat) : Goal n F__law_fields_of dep__law_fields_of b__law_fields_of (N__law_fields_of.length - P__law_fields_of.length) := by
  rintro _ Rq hn ⟨p, i, rfl, hp, hi, hi2, h⟩ -
  have hn : 1 ≤ n := hn
  have h0n : 0 < n := by omega
  have cp : cpys (p.map T.int) = true := cpys_int
  refine cutAt 1 (fun e => ∃ ws : List Str, ws.length = 7 ∧ e = [.has false (.lst .frz (p.map T.int)), .has false (.int i), .has false (.lst .own (ws.map T.str)), .und, .und, .und]) (fun K hK => ?_) ?_
  · refine ⟨⟨by decide, by decide⟩, ?_⟩
    refine turns_ind (fun ts acc => ∃ ws : List Str, acc = ws.map T.str ∧ ws.length + ts.length = 7 ∧ ∀ t ∈ ts, ∃ z : Nat, t = .int (z : Int) ∧ z < 7) ?_ ?_ ?_
    rotate_left 2
    · refine ⟨[], rfl, rfl, fun t ht => ?_⟩
      obtain ⟨z, hz, rfl⟩ := List.mem_map.mp ht
      have hz : z < 7 := List.mem_range.mp hz
      exact ⟨z, by congr 1; omega, hz⟩
    · rintro acc ⟨ws, rfl, h1, _⟩
      walk_at "w"
      exact hK _ ⟨ws, h1, rfl⟩
    · rintro x r acc K2 ⟨ws, rfl, h1, h2⟩ hK2
      obtain ⟨z, rfl, hz⟩ := h2 x (by simp)
      rw [List.length_cons] at h1
      have hl : (ws.map T.str).length < LIM := by rw [List.length_map]; unfold LIM; omega
      walk_at "w"
      refine ⟨p, i + z, rfl, hp, by omega, by omega, fun w => ?_⟩
      walk_at "w"
      exact hK2 _ ⟨ws ++ [w], by simp, by simp; omega, fun t ht => h2 t (by simp [ht])⟩
  rintro e ⟨ws, hw, rfl⟩
  refine cutAt 1 (fun e => ∃ ns : List Int, ns.length = 9 ∧ e = [.has false (.lst .frz (p.map T.int)), .has false (.int i), .has false (.lst .own (ws.map T.str)), .has false (.lst .own (ns.map T.int)), .und, .und]) (fun K hK => ?_) ?_
  · refine ⟨⟨by decide, by decide⟩, ?_⟩
    refine turns_ind (fun ts acc => ∃ ws : List Int, acc = ws.map T.int ∧ ws.length + ts.length = 9 ∧ ∀ t ∈ ts, ∃ z : Nat, t = .int (z : Int) ∧ z < 9) ?_ ?_ ?_
    rotate_left 2
    · refine ⟨[], rfl, rfl, fun t ht => ?_⟩
      obtain ⟨z, hz, rfl⟩ := List.mem_map.mp ht
      have hz : z < 9 := List.mem_range.mp hz
      exact ⟨z, by congr 1; omega, hz⟩
    · rintro acc ⟨ws, rfl, h1, _⟩
      walk_at "w"
      exact hK _ ⟨ws, h1, rfl⟩
    · rintro x r acc K2 ⟨ws, rfl, h1, h2⟩ hK2
      obtain ⟨z, rfl, hz⟩ := h2 x (by simp)
      rw [List.length_cons] at h1
      have hl : (ws.map T.int).length < LIM := by rw [List.length_map]; unfold LIM; omega
      walk_at "w"
      refine ⟨p, i + 7 + 2 * z, rfl, hp, by omega, by omega, fun w => ?_⟩
      walk_at "w"
      exact hK2 _ ⟨ws ++ [w], by simp, by simp; omega, fun t ht => h2 t (by simp [ht])⟩
  rintro e ⟨ns, hn', rfl⟩
  obtain ⟨w0, w1, w2, w3, w4, w5, w6, rfl⟩ := len7 hw
  obtain ⟨n0, n1, n2, n3, n4, n5, n6, n7, n8, rfl⟩ := len9 hn'
  walk_at "w"
  exact h ⟨w0, w1, w2, w3, w4, w5, w6, n0, n1, n2, n3, n4, n5, n6, n7, n8⟩
end K96
end
section
set_option Elab.async false
set_option linter.all false
set_option maxRecDepth 1000000
set_option maxHeartbeats 0
set_option pp.maxSteps 500
namespace K96
open PySem PySem.Spec PyProof.Rows L2 OT TL HW
local macro_rules | `(tactic| walk_at "w") => `(tactic| repeat first | refine And.intro (show (_ : Nat) ≠ _ by decide) ?_ | refine And.intro (by (fail_if_success intro _); first | ((with_reducible show (_ : Int) ≤ _ ∧ (_ : Int) < _); omega) | ((with_reducible show (_ : Nat) ≤ 16000000); (first | with_reducible assumption | omega | exact Nat.le_of_ble_eq_true rfl | (simp only [HW.app_len]; omega))) | ((with_reducible show (_ : Nat) < 16000000); (first | with_reducible assumption | omega | exact Nat.le_of_ble_eq_true rfl | (simp only [HW.app_len]; omega))) | rfl | assumption | exact ⟨rfl, rfl⟩ | (with_reducible exact cmulS (by first | omega | decide) (by first | omega | decide) (by first | omega | decide) (by first | omega | decide)) | exact ⟨by decide, by decide⟩ | exact ⟨by decide, by decide, by decide⟩ | omega | decide) ?_ | refine ⟨_, rfl, ?_⟩ | refine ⟨fun _ => ?_, fun z => Bool.noConfusion (show true = false from z)⟩ | refine ⟨fun z => Bool.noConfusion (show false = true from z), fun _ => ?_⟩ | refine ⟨fun z => Bool.noConfusion (show false = true from z), ?_⟩ | refine wpE_cn_i ?_ | refine wpE_gl_i ?_)
local macro_rules | `(tactic| walk_at "b") => `(tactic| ((repeat first | refine And.intro (show (_ : Nat) ≠ _ by decide) ?_ | refine And.intro (by (fail_if_success intro _); first | ((with_reducible show (_ : Int) ≤ _ ∧ (_ : Int) < _); omega) | ((with_reducible show (_ : Nat) ≤ 16000000); (first | with_reducible assumption | omega | exact Nat.le_of_ble_eq_true rfl | (simp only [HW.app_len]; omega))) | ((with_reducible show (_ : Nat) < 16000000); (first | with_reducible assumption | omega | exact Nat.le_of_ble_eq_true rfl | (simp only [HW.app_len]; omega))) | rfl | assumption | exact ⟨rfl, rfl⟩ | (with_reducible exact cmulS (by first | omega | decide) (by first | omega | decide) (by first | omega | decide) (by first | omega | decide)) | exact ⟨by decide, by decide⟩ | exact ⟨by decide, by decide, by decide⟩ | omega | decide) ?_ | refine ⟨_, rfl, ?_⟩ | refine ⟨fun _ => ?_, fun z => Bool.noConfusion (show true = false from z)⟩ | refine ⟨fun z => Bool.noConfusion (show false = true from z), fun _ => ?_⟩ | refine ⟨fun z => Bool.noConfusion (show false = true from z), ?_⟩ | refine wpE_cn_i ?_ | refine wpE_gl_i ?_); refine ⟨fun z => ?_, fun z => ?_⟩))
theorem g__law_made (n : Nat) : Goal n F__law_made dep__law_made b__law_made (N__law_made.length - P__law_made.length) := by
  rintro _ Rq - ⟨r, rfl, h⟩ -
  walk_at "w"
  exact h
end K96
end
section
set_option Elab.async false
set_option linter.all false
set_option maxRecDepth 1000000
set_option maxHeartbeats 0
set_option pp.maxSteps 500
namespace K96
open PySem PySem.Spec PyProof.Rows L2 OT TL HW
local macro_rules | `(tactic| walk_at "w") => `(tactic| repeat first | refine And.intro (show (_ : Nat) ≠ _ by decide) ?_ | refine And.intro (by (fail_if_success intro _); first | ((with_reducible show (_ : Int) ≤ _ ∧ (_ : Int) < _); omega) | ((with_reducible show (_ : Nat) ≤ 16000000); (first | with_reducible assumption | omega | exact Nat.le_of_ble_eq_true rfl | (simp only [HW.app_len]; omega))) | ((with_reducible show (_ : Nat) < 16000000); (first | with_reducible assumption | omega | exact Nat.le_of_ble_eq_true rfl | (simp only [HW.app_len]; omega))) | rfl | assumption | exact ⟨rfl, rfl⟩ | (with_reducible exact cmulS (by first | omega | decide) (by first | omega | decide) (by first | omega | decide) (by first | omega | decide)) | exact ⟨by decide, by decide⟩ | exact ⟨by decide, by decide, by decide⟩ | omega | decide) ?_ | refine ⟨_, rfl, ?_⟩ | refine ⟨fun _ => ?_, fun z => Bool.noConfusion (show true = false from z)⟩ | refine ⟨fun z => Bool.noConfusion (show false = true from z), fun _ => ?_⟩ | refine ⟨fun z => Bool.noConfusion (show false = true from z), ?_⟩ | refine wpE_cn_i ?_ | refine wpE_gl_i ?_)
local macro_rules | `(tactic| walk_at "b") => `(tactic| ((repeat first | refine And.intro (show (_ : Nat) ≠ _ by decide) ?_ | refine And.intro (by (fail_if_success intro _); first | ((with_reducible show (_ : Int) ≤ _ ∧ (_ : Int) < _); omega) | ((with_reducible show (_ : Nat) ≤ 16000000); (first | with_reducible assumption | omega | exact Nat.le_of_ble_eq_true rfl | (simp only [HW.app_len]; omega))) | ((with_reducible show (_ : Nat) < 16000000); (first | with_reducible assumption | omega | exact Nat.le_of_ble_eq_true rfl | (simp only [HW.app_len]; omega))) | rfl | assumption | exact ⟨rfl, rfl⟩ | (with_reducible exact cmulS (by first | omega | decide) (by first | omega | decide) (by first | omega | decide) (by first | omega | decide)) | exact ⟨by decide, by decide⟩ | exact ⟨by decide, by decide, by decide⟩ | omega | decide) ?_ | refine ⟨_, rfl, ?_⟩ | refine ⟨fun _ => ?_, fun z => Bool.noConfusion (show true = false from z)⟩ | refine ⟨fun z => Bool.noConfusion (show false = true from z), fun _ => ?_⟩ | refine ⟨fun z => Bool.noConfusion (show false = true from z), ?_⟩ | refine wpE_cn_i ?_ | refine wpE_gl_i ?_); refine ⟨fun z => ?_, fun z => ?_⟩))
theorem g__law_read (n : Nat) : Goal n F__law_read dep__law_read b__law_read (N__law_read.length - P__law_read.length) := by
  rintro _ Rq - ⟨r, rfl, h⟩ -
  walk_at "w"
  exact h
end K96
end
section
set_option Elab.async false
set_option linter.all false
set_option maxRecDepth 1000000
set_option maxHeartbeats 0
set_option pp.maxSteps 500
namespace K96
open PySem PySem.Spec PyProof.Rows L2 OT TL HW
local macro_rules | `(tactic| walk_at "w") => `(tactic| repeat first | refine And.intro (show (_ : Nat) ≠ _ by decide) ?_ | refine And.intro (by (fail_if_success intro _); first | ((with_reducible show (_ : Int) ≤ _ ∧ (_ : Int) < _); omega) | ((with_reducible show (_ : Nat) ≤ 16000000); (first | with_reducible assumption | omega | exact Nat.le_of_ble_eq_true rfl | (simp only [HW.app_len]; omega))) | ((with_reducible show (_ : Nat) < 16000000); (first | with_reducible assumption | omega | exact Nat.le_of_ble_eq_true rfl | (simp only [HW.app_len]; omega))) | rfl | assumption | exact ⟨rfl, rfl⟩ | (with_reducible exact cmulS (by first | omega | decide) (by first | omega | decide) (by first | omega | decide) (by first | omega | decide)) | exact ⟨by decide, by decide⟩ | exact ⟨by decide, by decide, by decide⟩ | omega | decide) ?_ | refine ⟨_, rfl, ?_⟩ | refine ⟨fun _ => ?_, fun z => Bool.noConfusion (show true = false from z)⟩ | refine ⟨fun z => Bool.noConfusion (show false = true from z), fun _ => ?_⟩ | refine ⟨fun z => Bool.noConfusion (show false = true from z), ?_⟩ | refine wpE_cn_i ?_ | refine wpE_gl_i ?_)
local macro_rules | `(tactic| walk_at "b") => `(tactic| ((repeat first | refine And.intro (show (_ : Nat) ≠ _ by decide) ?_ | refine And.intro (by (fail_if_success intro _); first | ((with_reducible show (_ : Int) ≤ _ ∧ (_ : Int) < _); omega) | ((with_reducible show (_ : Nat) ≤ 16000000); (first | with_reducible assumption | omega | exact Nat.le_of_ble_eq_true rfl | (simp only [HW.app_len]; omega))) | ((with_reducible show (_ : Nat) < 16000000); (first | with_reducible assumption | omega | exact Nat.le_of_ble_eq_true rfl | (simp only [HW.app_len]; omega))) | rfl | assumption | exact ⟨rfl, rfl⟩ | (with_reducible exact cmulS (by first | omega | decide) (by first | omega | decide) (by first | omega | decide) (by first | omega | decide)) | exact ⟨by decide, by decide⟩ | exact ⟨by decide, by decide, by decide⟩ | omega | decide) ?_ | refine ⟨_, rfl, ?_⟩ | refine ⟨fun _ => ?_, fun z => Bool.noConfusion (show true = false from z)⟩ | refine ⟨fun z => Bool.noConfusion (show false = true from z), fun _ => ?_⟩ | refine ⟨fun z => Bool.noConfusion (show false = true from z), ?_⟩ | refine wpE_cn_i ?_ | refine wpE_gl_i ?_); refine ⟨fun z => ?_, fun z => ?_⟩))
/-- the rows with any table of classes -/
abbrev TbL (n : Nat) (L : List ((Str × Str) × Bool)) : Sig := { Tb n with xs := L }
theorem g__law_classes_of (n : Nat) : Goal n F__law_classes_of dep__law_classes_of b__law_classes_of (N__law_classes_of.length - P__law_classes_of.length) := by
  rintro _ Rq - ⟨k, ns, vs, rfl, hk, h⟩ -
  show wpSs (TbL n xsL) b__law_classes_of (entry F__law_classes_of.ms [.xo (clsN.getD k "") ns vs] (N__law_classes_of.length - P__law_classes_of.length)) (CT.fn F__law_classes_of.ms Rq)
  have xk := xs_k k hk
  generalize xsL = L at xk ⊢
  walk_at "w"
  refine ⟨_, xk 0 (by decide), ?_⟩
  walk_at "w"
  refine ⟨_, xk 1 (by decide), ?_⟩
  walk_at "w"
  refine ⟨_, xk 2 (by decide), ?_⟩
  walk_at "w"
  refine ⟨_, xk 3 (by decide), ?_⟩
  walk_at "w"
  refine ⟨_, xk 4 (by decide), ?_⟩
  walk_at "w"
  refine ⟨_, xk 5 (by decide), ?_⟩
  walk_at "w"
  refine ⟨_, xk 6 (by decide), ?_⟩
  walk_at "w"
  refine ⟨_, xk 7 (by decide), ?_⟩
  walk_at "w"
  refine ⟨_, xk 8 (by decide), ?_⟩
  walk_at "w"
  refine ⟨_, xk 9 (by decide), ?_⟩
  walk_at "w"
  refine ⟨_, xk 10 (by decide), ?_⟩
  walk_at "w"
  refine ⟨_, xk 11 (by decide), ?_⟩
  walk_at "w"
  refine ⟨_, xk 12 (by decide), ?_⟩
  walk_at "w"
  refine ⟨_, xk 13 (by decide), ?_⟩
  walk_at "w"
  refine ⟨_, xk 14 (by decide), ?_⟩
  walk_at "w"
  refine ⟨_, xk 15 (by decide), ?_⟩
  walk_at "w"
  refine ⟨_, xk 16 (by decide), ?_⟩
  walk_at "w"
  refine ⟨_, xk 17 (by decide), ?_⟩
  walk_at "w"
  refine ⟨_, xk 18 (by decide), ?_⟩
  walk_at "w"
  refine ⟨_, xk 19 (by decide), ?_⟩
  walk_at "w"
  refine ⟨_, xk 20 (by decide), ?_⟩
  walk_at "w"
  refine ⟨_, xk 21 (by decide), ?_⟩
  walk_at "w"
  exact h
end K96
end
section
set_option Elab.async false
set_option linter.all false
set_option maxRecDepth 1000000
set_option maxHeartbeats 0
set_option pp.maxSteps 500
namespace K96
open PySem PySem.Spec PyProof.Rows L2 OT TL HW
local macro_rules | `(tactic| walk_at "w") => `(tactic| repeat first | refine And.intro (show (_ : Nat) ≠ _ by decide) ?_ | refine And.intro (by (fail_if_success intro _); first | ((with_reducible show (_ : Int) ≤ _ ∧ (_ : Int) < _); omega) | ((with_reducible show (_ : Nat) ≤ 16000000); (first | with_reducible assumption | omega | exact Nat.le_of_ble_eq_true rfl | (simp only [HW.app_len]; omega))) | ((with_reducible show (_ : Nat) < 16000000); (first | with_reducible assumption | omega | exact Nat.le_of_ble_eq_true rfl | (simp only [HW.app_len]; omega))) | rfl | assumption | exact ⟨rfl, rfl⟩ | (with_reducible exact cmulS (by first | omega | decide) (by first | omega | decide) (by first | omega | decide) (by first | omega | decide)) | exact ⟨by decide, by decide⟩ | exact ⟨by decide, by decide, by decide⟩ | omega | decide) ?_ | refine ⟨_, rfl, ?_⟩ | refine ⟨fun _ => ?_, fun z => Bool.noConfusion (show true = false from z)⟩ | refine ⟨fun z => Bool.noConfusion (show false = true from z), fun _ => ?_⟩ | refine ⟨fun z => Bool.noConfusion (show false = true from z), ?_⟩ | refine wpE_cn_i ?_ | refine wpE_gl_i ?_)
local macro_rules | `(tactic| walk_at "b") => `(tactic| ((repeat first | refine And.intro (show (_ : Nat) ≠ _ by decide) ?_ | refine And.intro (by (fail_if_success intro _); first | ((with_reducible show (_ : Int) ≤ _ ∧ (_ : Int) < _); omega) | ((with_reducible show (_ : Nat) ≤ 16000000); (first | with_reducible assumption | omega | exact Nat.le_of_ble_eq_true rfl | (simp only [HW.app_len]; omega))) | ((with_reducible show (_ : Nat) < 16000000); (first | with_reducible assumption | omega | exact Nat.le_of_ble_eq_true rfl | (simp only [HW.app_len]; omega))) | rfl | assumption | exact ⟨rfl, rfl⟩ | (with_reducible exact cmulS (by first | omega | decide) (by first | omega | decide) (by first | omega | decide) (by first | omega | decide)) | exact ⟨by decide, by decide⟩ | exact ⟨by decide, by decide, by decide⟩ | omega | decide) ?_ | refine ⟨_, rfl, ?_⟩ | refine ⟨fun _ => ?_, fun z => Bool.noConfusion (show true = false from z)⟩ | refine ⟨fun z => Bool.noConfusion (show false = true from z), fun _ => ?_⟩ | refine ⟨fun z => Bool.noConfusion (show false = true from z), ?_⟩ | refine wpE_cn_i ?_ | refine wpE_gl_i ?_); refine ⟨fun z => ?_, fun z => ?_⟩))
theorem dats_bl : ∀ {l : List Bool}, dats (l.map T.bl) = some (l.map PyData.bool)
  | [] => rfl
  | i :: l => by
    show (match dat (.bl i), dats (l.map T.bl) with
      | some d, some ds => some (d :: ds)
      | _, _ => none) = _
    rw [dats_bl]
    rfl
theorem plain_bls : ∀ l : List Bool, PyData.plainAll (l.map PyData.bool) = true
  | [] => rfl
  | i :: l => by show (true && PyData.plainAll (l.map PyData.bool)) = true; rw [plain_bls l]; rfl
theorem depth_bls : ∀ l : List Bool, PyData.depthAll (l.map PyData.bool) = 0
  | [] => rfl
  | i :: l => by show max 0 (PyData.depthAll (l.map PyData.bool)) = 0; rw [depth_bls l]; rfl
theorem shaped_bls (l : List Bool) : shp (.list (l.map PyData.bool)) = true := by
  show (PyData.plainAll (l.map PyData.bool) && decide (PyData.depthAll (l.map PyData.bool) + 1 ≤ 64)) = true
  rw [plain_bls, depth_bls]
  rfl
theorem ne_bls {f g : Fl} {l : List Bool} {Q : Bool → Prop} (h : Q false) : cmpT .NotEq (.lst f (l.map T.bl)) (.lst g (l.map T.bl)) Q := by
  refine ⟨.list (l.map PyData.bool), .list (l.map PyData.bool), ?_, ?_, shaped_bls l, shaped_bls l, ?_⟩
  · show (dats (l.map T.bl)).map PyData.list = _
    rw [dats_bl]
    rfl
  · show (dats (l.map T.bl)).map PyData.list = _
    rw [dats_bl]
    rfl
  · rw [SeqAt.eqv_refl_plain _ (Bool.and_eq_true_iff.mp (shaped_bls l)).1]
    exact h
theorem eqS_rows (r : Rw) : eqS (.lst .own r.rows) (.lst .frz r.rows) = true := by
  unfold Rw.rows
  simp [eqS, eqSs]
theorem cpys_rows (r : Rw) : cpys r.rows = true := rfl
theorem cpys_excs (r : Rw) : cpys r.excs = true := rfl
theorem blsK_eq (k : Nat) : blsK k = ((List.range 22).map fun j => decide (j = k)).map T.bl := by
  unfold blsK
  rw [List.map_map]
  rfl
theorem g__law_right (n : Nat) : Goal n F__law_right dep__law_right b__law_right (N__law_right.length - P__law_right.length) := by
  rintro _ Rq hn ⟨r, rfl, h⟩ -
  have hn : 10 ≤ n := hn
  have h0n : 0 < n := by omega
  have c1 := cpys_rows r
  have c2 := cpys_excs r
  have hd : hts [T.lst .own r.rows, T.lst .frz r.rows] < n := by
    show 2 < n
    omega
  show wpSs (TbL n xsL) b__law_right (entry F__law_right.ms [.lst .frz r.excs, .lst .frz r.rows] (N__law_right.length - P__law_right.length)) (CT.fn F__law_right.ms Rq)
  have xh := xs_h
  generalize xsL = L at xh ⊢
  refine cutAt 1 (fun e => e = [.has false (.lst .frz r.excs), .has false (.lst .frz r.rows), .und, .und]) (fun K hK => ?_) ?_
  · walk_at "w"
    refine ⟨_, _, rfl, eqS_rows r, ?_⟩
    walk_at "w"
    exact hK _ rfl
  rintro e rfl
  refine cutAt 1 (fun e => ∃ s2, e = [.has false (.lst .frz r.excs), .has false (.lst .frz r.rows), s2, .und]) (fun K hK => ?_) ?_
  · refine ⟨⟨by decide, by decide⟩, ?_⟩
    refine forT_ind (fun ts e => ∃ s2, e = [.has false (.lst .frz r.excs), .has false (.lst .frz r.rows), s2, .und] ∧ freeS s2 = true ∧ ∀ t ∈ ts, ∃ z : Nat, t = .int (z : Int) ∧ z < 22) ?_ ?_ ⟨_, rfl, rfl, fun t ht => ?_⟩
    rotate_left 2
    · obtain ⟨z, hz, rfl⟩ := List.mem_map.mp ht
      have hz : z < 22 := List.mem_range.mp hz
      exact ⟨z, by congr 1; omega, hz⟩
    · rintro e ⟨s2, rfl, _⟩
      exact hK _ ⟨_, rfl⟩
    · rintro x q e K2 ⟨s2, rfl, f2, hq⟩ hK2
      obtain ⟨z, rfl, hz⟩ := hq x (by simp)
      obtain ⟨ns, vs, hx⟩ := exc_at r z hz
      have hx2 : atI r.excs ((z : Nat) : Int) = some (.xo (clsN.getD z "") ns vs) := OT.atI_nat hx
      obtain ⟨xh1, xh2⟩ := xh z hz
      refine ⟨f2, ?_⟩
      refine cutAt 1 (fun e => e = [.has false (.lst .frz r.excs), .has false (.lst .frz r.rows), .has false (.int (z : Int)), .und]) (fun K3 hK3 => ?_) ?_
      · walk_at "w"
        refine ⟨_, hx2, ?_⟩
        walk_at "w"
        refine ⟨_, xh1, ?_⟩
        walk_at "w"
        refine ⟨_, hx2, ?_⟩
        walk_at "w"
        refine ⟨_, xh2, ?_⟩
        walk_at "w"
        exact hK3 _ rfl
      rintro e rfl
      walk_at "w"
      refine ⟨_, hx2, rfl, h0n, z, ns, vs, rfl, hz, ?_⟩
      refine ⟨fun h => Bool.noConfusion h, ⟨by decide, by decide⟩, ?_⟩
      refine turns_map (xs := List.range 22) (tx := fun (j : Nat) => .int (0 + (j : Int))) rfl (fun j => .bl (decide (j = z))) (by decide) ?_ ?_
      rotate_left
      · intro j hj acc K4 hl hK4
        have e : decide ((0 + (j : Int)) = (z : Int)) = decide (j = z) := by
          rw [Int.zero_add]
          exact decide_eq_decide.mpr Int.ofNat_inj
        walk_at "w"
        rw [e]
        exact hK4
      rw [blsK_eq]
      have e : ((List.range 22).map fun (j : Nat) => T.bl (decide (j = z))) = ((List.range 22).map fun j => decide (j = z)).map T.bl := by
        rw [List.map_map]
        rfl
      rw [e]
      refine ne_bls ?_
      walk_at "w"
      exact hK2 _ ⟨_, rfl, rfl, fun t ht => hq t (by simp [ht])⟩
  rintro e ⟨s2, rfl⟩
  walk_at "w"
  exact h
end K96
end
section
set_option Elab.async false
set_option linter.all false
set_option maxRecDepth 1000000
set_option maxHeartbeats 0
set_option pp.maxSteps 500
namespace K96
open PySem PySem.Spec PyProof.Rows L2 OT TL HW
local macro_rules | `(tactic| walk_at "w") => `(tactic| repeat first | refine And.intro (show (_ : Nat) ≠ _ by decide) ?_ | refine And.intro (by (fail_if_success intro _); first | ((with_reducible show (_ : Int) ≤ _ ∧ (_ : Int) < _); omega) | ((with_reducible show (_ : Nat) ≤ 16000000); (first | with_reducible assumption | omega | exact Nat.le_of_ble_eq_true rfl | (simp only [HW.app_len]; omega))) | ((with_reducible show (_ : Nat) < 16000000); (first | with_reducible assumption | omega | exact Nat.le_of_ble_eq_true rfl | (simp only [HW.app_len]; omega))) | rfl | assumption | exact ⟨rfl, rfl⟩ | (with_reducible exact cmulS (by first | omega | decide) (by first | omega | decide) (by first | omega | decide) (by first | omega | decide)) | exact ⟨by decide, by decide⟩ | exact ⟨by decide, by decide, by decide⟩ | omega | decide) ?_ | refine ⟨_, rfl, ?_⟩ | refine ⟨fun _ => ?_, fun z => Bool.noConfusion (show true = false from z)⟩ | refine ⟨fun z => Bool.noConfusion (show false = true from z), fun _ => ?_⟩ | refine ⟨fun z => Bool.noConfusion (show false = true from z), ?_⟩ | refine wpE_cn_i ?_ | refine wpE_gl_i ?_)
local macro_rules | `(tactic| walk_at "b") => `(tactic| ((repeat first | refine And.intro (show (_ : Nat) ≠ _ by decide) ?_ | refine And.intro (by (fail_if_success intro _); first | ((with_reducible show (_ : Int) ≤ _ ∧ (_ : Int) < _); omega) | ((with_reducible show (_ : Nat) ≤ 16000000); (first | with_reducible assumption | omega | exact Nat.le_of_ble_eq_true rfl | (simp only [HW.app_len]; omega))) | ((with_reducible show (_ : Nat) < 16000000); (first | with_reducible assumption | omega | exact Nat.le_of_ble_eq_true rfl | (simp only [HW.app_len]; omega))) | rfl | assumption | exact ⟨rfl, rfl⟩ | (with_reducible exact cmulS (by first | omega | decide) (by first | omega | decide) (by first | omega | decide) (by first | omega | decide)) | exact ⟨by decide, by decide⟩ | exact ⟨by decide, by decide, by decide⟩ | omega | decide) ?_ | refine ⟨_, rfl, ?_⟩ | refine ⟨fun _ => ?_, fun z => Bool.noConfusion (show true = false from z)⟩ | refine ⟨fun z => Bool.noConfusion (show false = true from z), fun _ => ?_⟩ | refine ⟨fun z => Bool.noConfusion (show false = true from z), ?_⟩ | refine wpE_cn_i ?_ | refine wpE_gl_i ?_); refine ⟨fun z => ?_, fun z => ?_⟩))
theorem turns_rows (r : Rw) (g : Fl) : turns g r.rows = r.rows := rfl
theorem turns_excs (r : Rw) (g : Fl) : turns g r.excs = r.excs := rfl
theorem g_law (n : Nat) : Goal n F_law dep_law b_law (N_law.length - P_law.length) := by
  rintro _ Rq hn ⟨ns, rfl, hl, h⟩ -
  have hn : 20 ≤ n := hn
  have h0n : 0 < n := by omega
  have h1n : 1 < n := by omega
  have h10n : 10 < n := by omega
  have c := cpys_int (l := ns)
  refine cutAt 1 (fun e => ∃ p : List Int, p.length = 60 ∧ okP p ∧ e = [.has false (.lst .st (ns.map T.int)), .has false (.lst .own (p.map T.int)), .und, .und, .und, .und]) (fun K hK => ?_) ?_
  · walk_at "w"
    refine ⟨ns, 60, rfl, hl, ⟨by decide, by decide⟩, fun p hp ho => ?_⟩
    have c1 := cpys_int (l := p)
    walk_at "w"
    exact hK _ ⟨p, by omega, ho, rfl⟩
  rintro e ⟨p, hp, ho, rfl⟩
  have c1 := cpys_int (l := p)
  have ct : turns .frz (p.map T.int) = p.map T.int := turns_int
  have tw : turn .frz (.lst .own (p.map T.int)) = .lst .frz (p.map T.int) := congrArg (T.lst .frz) ct
  have tw2 : turn .frz (.lst .frz (p.map T.int)) = .lst .frz (p.map T.int) := congrArg (T.lst .frz) ct
  refine cutAt 1 (fun e => ∃ r : Rw, e = [.has false (.lst .st (ns.map T.int)), .has false (.lst .frz (p.map T.int)), .has false (.lst .own r.rows), .und, .und, .und]) (fun K hK => ?_) ?_
  · walk_at "w"
    refine ⟨p, 0, ?_, ho, by decide, by omega, fun r => ?_⟩
    · rw [tw]; rfl
    walk_at "w"
    have y := hK _ ⟨r, rfl⟩
    rw [← tw] at y
    exact y
  rintro e ⟨r, rfl⟩
  refine cutAt 1 (fun e => ∃ r2 : Rw, e = [.has false (.lst .st (ns.map T.int)), .has false (.lst .frz (p.map T.int)), .has false (.lst .own r.rows), .has false (.lst .own r2.rows), .und, .und]) (fun K hK => ?_) ?_
  · walk_at "w"
    refine ⟨p, 30, ?_, ho, by decide, by omega, fun r2 => ?_⟩
    · rw [tw2]; rfl
    walk_at "w"
    have y := hK _ ⟨r2, rfl⟩
    rw [← tw2] at y
    exact y
  rintro e ⟨r2, rfl⟩
  walk_at "w"
  exact h
theorem law_psi : ∀ (ns : List Int) (Rq : Rr → Prop), ns.length ≤ 63 → Rq (.ok (.bl true) []) → r_law.dep [.lst .st (ns.map T.int)] ≤ 60 ∧ r_law.F.Ψ [.lst .st (ns.map T.int)] Rq := fun ns Rq h hR => ⟨by show 20 ≤ 60; decide, ns, rfl, h, hR⟩
end K96
end
section
set_option Elab.async false
set_option linter.all false
set_option maxRecDepth 1000000
set_option maxHeartbeats 0
set_option pp.maxSteps 500
namespace K96
open PySem PySem.Spec PyProof.Rows L2 OT TL HW
local macro_rules | `(tactic| walk_at "w") => `(tactic| repeat first | refine And.intro (show (_ : Nat) ≠ _ by decide) ?_ | refine And.intro (by (fail_if_success intro _); first | ((with_reducible show (_ : Int) ≤ _ ∧ (_ : Int) < _); omega) | ((with_reducible show (_ : Nat) ≤ 16000000); (first | with_reducible assumption | omega | exact Nat.le_of_ble_eq_true rfl | (simp only [HW.app_len]; omega))) | ((with_reducible show (_ : Nat) < 16000000); (first | with_reducible assumption | omega | exact Nat.le_of_ble_eq_true rfl | (simp only [HW.app_len]; omega))) | rfl | assumption | exact ⟨rfl, rfl⟩ | (with_reducible exact cmulS (by first | omega | decide) (by first | omega | decide) (by first | omega | decide) (by first | omega | decide)) | exact ⟨by decide, by decide⟩ | exact ⟨by decide, by decide, by decide⟩ | omega | decide) ?_ | refine ⟨_, rfl, ?_⟩ | refine ⟨fun _ => ?_, fun z => Bool.noConfusion (show true = false from z)⟩ | refine ⟨fun z => Bool.noConfusion (show false = true from z), fun _ => ?_⟩ | refine ⟨fun z => Bool.noConfusion (show false = true from z), ?_⟩ | refine wpE_cn_i ?_ | refine wpE_gl_i ?_)
local macro_rules | `(tactic| walk_at "b") => `(tactic| ((repeat first | refine And.intro (show (_ : Nat) ≠ _ by decide) ?_ | refine And.intro (by (fail_if_success intro _); first | ((with_reducible show (_ : Int) ≤ _ ∧ (_ : Int) < _); omega) | ((with_reducible show (_ : Nat) ≤ 16000000); (first | with_reducible assumption | omega | exact Nat.le_of_ble_eq_true rfl | (simp only [HW.app_len]; omega))) | ((with_reducible show (_ : Nat) < 16000000); (first | with_reducible assumption | omega | exact Nat.le_of_ble_eq_true rfl | (simp only [HW.app_len]; omega))) | rfl | assumption | exact ⟨rfl, rfl⟩ | (with_reducible exact cmulS (by first | omega | decide) (by first | omega | decide) (by first | omega | decide) (by first | omega | decide)) | exact ⟨by decide, by decide⟩ | exact ⟨by decide, by decide, by decide⟩ | omega | decide) ?_ | refine ⟨_, rfl, ?_⟩ | refine ⟨fun _ => ?_, fun z => Bool.noConfusion (show true = false from z)⟩ | refine ⟨fun z => Bool.noConfusion (show false = true from z), fun _ => ?_⟩ | refine ⟨fun z => Bool.noConfusion (show false = true from z), ?_⟩ | refine wpE_cn_i ?_ | refine wpE_gl_i ?_); refine ⟨fun z => ?_, fun z => ?_⟩))
theorem ro__law_mixed : DROk Sx r__law_mixed := ⟨rfl, f__law_mixed, rfl, c__law_mixed, .no rfl rfl rfl bi__law_mixed⟩
theorem ro__law_pool : DROk Sx r__law_pool := ⟨rfl, f__law_pool, rfl, c__law_pool, .no rfl rfl rfl bi__law_pool⟩
theorem ro__law_same : DROk Sx r__law_same := ⟨rfl, f__law_same, rfl, c__law_same, .no rfl rfl rfl bi__law_same⟩
theorem ro__law_word : DROk Sx r__law_word := ⟨rfl, f__law_word, rfl, c__law_word, .no rfl rfl rfl bi__law_word⟩
theorem ro__law_number : DROk Sx r__law_number := ⟨rfl, f__law_number, rfl, c__law_number, .no rfl rfl rfl bi__law_number⟩
theorem ro__law_fields_of : DROk Sx r__law_fields_of := ⟨rfl, f__law_fields_of, rfl, c__law_fields_of, .no rfl rfl rfl bi__law_fields_of⟩
theorem ro__law_made : DROk Sx r__law_made := ⟨rfl, f__law_made, rfl, c__law_made, .no rfl rfl rfl bi__law_made⟩
theorem ro__law_read : DROk Sx r__law_read := ⟨rfl, f__law_read, rfl, c__law_read, .no rfl rfl rfl bi__law_read⟩
theorem ro__law_classes_of : DROk Sx r__law_classes_of := ⟨rfl, f__law_classes_of, rfl, c__law_classes_of, .no rfl rfl rfl bi__law_classes_of⟩
theorem ro__law_right : DROk Sx r__law_right := ⟨rfl, f__law_right, rfl, c__law_right, .no rfl rfl rfl bi__law_right⟩
theorem ro_law : DROk Sx r_law := ⟨rfl, f_law, rfl, c_law, .no rfl rfl rfl bi_law⟩
theorem rowsOk : ∀ r ∈ rows, DROk Sx r := by
  intro r hr
  simp only [rows, List.mem_cons, List.not_mem_nil, or_false] at hr
  rcases hr with rfl | rfl | rfl | rfl | rfl | rfl | rfl | rfl | rfl | rfl | rfl
  · exact ro__law_mixed
  · exact ro__law_pool
  · exact ro__law_same
  · exact ro__law_word
  · exact ro__law_number
  · exact ro__law_fields_of
  · exact ro__law_made
  · exact ro__law_read
  · exact ro__law_classes_of
  · exact ro__law_right
  · exact ro_law
theorem goals : ∀ (n i : Nat) r, rows[i]? = some r → ∀ ts Rq, r.dep ts ≤ n → r.F.Ψ ts Rq → ts.length = r.F.ms.length → wpSs (Tb n) r.bd (entry r.F.ms ts (r.N.length - r.ps.length)) (CT.fn r.F.ms Rq) := by
  intro n i r hr
  have hi := (List.getElem?_eq_some_iff.mp hr).1
  match i, hi, hr with
  | 0, _, hr => cases hr; exact g__law_mixed n
  | 1, _, hr => cases hr; exact g__law_pool n
  | 2, _, hr => cases hr; exact g__law_same n
  | 3, _, hr => cases hr; exact g__law_word n
  | 4, _, hr => cases hr; exact g__law_number n
  | 5, _, hr => cases hr; exact g__law_fields_of n
  | 6, _, hr => cases hr; exact g__law_made n
  | 7, _, hr => cases hr; exact g__law_read n
  | 8, _, hr => cases hr; exact g__law_classes_of n
  | 9, _, hr => cases hr; exact g__law_right n
  | 10, _, hr => cases hr; exact g_law n
  | j + 11, hj, _ => exact absurd hj (by simp [rows])
theorem pg : Pg Sx Gx rows rzs := ⟨rfl, rfl, rowsOk, rzsOk, fun c hc => by
    simp only [Sx, List.contains_iff_mem, List.mem_cons, List.not_mem_nil, or_false] at hc
    rcases hc with rfl | rfl | rfl | rfl | rfl | rfl | rfl | rfl | rfl | rfl | rfl | rfl
    · exact ⟨z_BadTable___init__, by simp [rzs], rfl⟩
    · exact ⟨z_BadText___init__, by simp [rzs], rfl⟩
    · exact ⟨z_BadStanding___init__, by simp [rzs], rfl⟩
    · exact ⟨z_CannotMove___init__, by simp [rzs], rfl⟩
    · exact ⟨z_NoSuch___init__, by simp [rzs], rfl⟩
    · exact ⟨z_WrongGround___init__, by simp [rzs], rfl⟩
    · exact ⟨z_TooGreat___init__, by simp [rzs], rfl⟩
    · exact ⟨z_BadVector___init__, by simp [rzs], rfl⟩
    · exact ⟨z_NotLocal___init__, by simp [rzs], rfl⟩
    · exact ⟨z_BadProgram___init__, by simp [rzs], rfl⟩
    · exact ⟨z_InUse___init__, by simp [rzs], rfl⟩
    · exact ⟨z_AttemptFailed___init__, by simp [rzs], rfl⟩
    , fun r hr => by
    simp only [rzs, List.mem_cons, List.not_mem_nil, or_false] at hr
    rcases hr with rfl | rfl | rfl | rfl | rfl | rfl | rfl | rfl | rfl | rfl | rfl | rfl <;> rfl, goals⟩
end K96
open PySem PySem.W PySem.Calls PyProof.Rows
theorem PySem.Challenge.cw_handsatwork_k96_errors_built_holds : PySem.Challenge.rw_handsatwork_k96_errors_built.Holds := by
  w_on; o_law
  refine HandSHeadRun.head_any (r := OpenLaw.row PySem.Challenge.rw_handsatwork_k96_errors_built) (q := view (OpenLaw.row PySem.Challenge.rw_handsatwork_k96_errors_built).prog [K96.iLaw]) (H := K96.hk) (ob := K96.ob) (M := 9000) (loose := K96.loose) (d := HandSHeadRun.topDef (OpenLaw.row PySem.Challenge.rw_handsatwork_k96_errors_built).prog K96.iLaw) (kwd := []) K96.ob_eq
    (by kernel_rfl) (fun s => by kernel_rfl) K96.run (by kernel_rfl) (by kernel_rfl) (by kernel_rfl) (by rfl) (by first | assumption | decide +kernel) (by decide +kernel) ⟨rfl, rfl, rfl, rfl, rfl, by decide +kernel⟩ ?hw ?hc
  case hw => w_witness2
  case hc =>
    refine L2.walk_ofE (l := PySem.Challenge.rw_handsatwork_k96_errors_built) (n := 63) (k := 2 * 60 + 3) (x := "script") (CX := OT.CXw PySem.Challenge.rw_handsatwork_k96_errors_built.prog) rfl (by decide) (by kernel_rfl) ⟨rfl, by decide, by decide⟩ ?F OT.cxw_no
    intro w mg fa h Y G hmg0
    have hmg : mg ("law" : PySem.Str) = some (.ref fa) := by
      have e : (HandSHeadRun.topDef (OpenLaw.row PySem.Challenge.rw_handsatwork_k96_errors_built).prog K96.iLaw).name = ("law" : PySem.Str) := by kernel_rfl
      rw [← e]
      exact hmg0
    exact OT.Pg.fin (n := 60) (i := 10) (r := K96.r_law) K96.pg rfl Y G hmg rfl rfl rfl rfl rfl rfl K96.law_psi
end
