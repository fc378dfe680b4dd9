import PyProof.Rows.All
import Wide.All
import OpenK.AllK
import Wide.FinOn
import HandS.ForMost
import HandS.ForExc
import HandS.Walk
import HandS.Strs
import HandS.TupAny
import HandS.TupMul
import HandS.TupLe
import HandS.Wide
import HandS.Deep
import HandS.IsInst
import HandS.More
import HandS.Style
import HandS.Text
import HandS.Conv
import HandS.Dict
import KE.GoesEnum
import HandS.Iter
import HandS.Zip
import HandS.DictComp
import HandS.SetFor
import KE.SortData
import PyProof.Rows.CallKwBuiltin
import HandS.Small
import KE.DataMinMax
import HandS.ExcOwn
import HandS.ExcIs
import HandS.TryOnly
import HandS.WordsExc
import HandS.Defaults
import HandS.HeadHook1
import HandS.Proxy
import PySem.Challenge.RW_treesapartways_k67_whole_edits_of_webs
import HandS.Head0
import HandS.Head1
import HandS.Head2
import HandS.HeadEnd
import HandS.HeadHook2
import HandS.HeadHook3
import HandS.HeadHook4
set_option Elab.async false
set_option linter.all false
set_option autoImplicit false
set_option maxRecDepth 100000
set_option maxHeartbeats 4000000
/-! The mirror layer: pure data, a mirror monad over slots, and what it means for a piece of Python to keep to its mirror. -/
namespace Mi
open PySem PySem.Spec PyProof.Rows L2

abbrev Sl := L2.St
/-! ### data -/
inductive D where
  | non | bl (b : Bool) | int (i : Int) | str (x : Str) | tup (xs : List D) | lst (xs : List D) | dic (kvs : List (Key × D)) | set (ns : List Int) | scr (xs : List D)
  deriving Inhabited
/-- an exception that was raised: its class's name, its one field -/
structure Ex where
  cls : Str
  pl : Option (Str × D)
/-- what a slot holds: data that never changes, or an object of its own -/
inductive O where
  | val (d : D) | lst (ds : List D) | dic (kvs : List (Key × D)) | ins (c : Str) (fs : List (Str × O)) | exc (x : Ex)
  deriving Inhabited
inductive RV where
  | o (o : O) | at (i : Nat)
abbrev Env := List (Option O)
inductive Rs (α : Type) where
  | ok (a : α) (ρ : Env) | ex (x : Ex) (ρ : Env) | stuck
abbrev M (α : Type) := Env → Rs α
def M.pure {α : Type} (a : α) : M α := fun ρ => .ok a ρ
def M.bind {α β : Type} (m : M α) (f : α → M β) : M β := fun ρ => match m ρ with
  | .ok a ρ1 => f a ρ1
  | .ex x ρ1 => .ex x ρ1
  | .stuck => .stuck
def M.stuck {α : Type} : M α := fun _ => .stuck
/-- of an option: stuck where there is none -/
def M.of {α : Type} (o : Option α) : M α := match o with
  | some a => M.pure a
  | none => M.stuck
inductive Ctl where
  | nx | bk | ct | rt (r : RV)

def wpR {α : Type} (r : Rs α) (post : α → Env → Prop) (xp : Ex → Env → Prop) : Prop := match r with
  | .ok a ρ => post a ρ
  | .ex x ρ => xp x ρ
  | .stuck => False
theorem wpR_bind {α β : Type} {m : M α} {f : α → M β} {ρ : Env} {post : β → Env → Prop} {xp : Ex → Env → Prop} (h : wpR (M.bind m f ρ) post xp) :
    wpR (m ρ) (fun a ρ1 => wpR (f a ρ1) post xp) xp := by
  unfold M.bind at h
  cases e : m ρ with
  | ok a ρ1 => rw [e] at h; exact h
  | ex x ρ1 => rw [e] at h; exact h
  | stuck => rw [e] at h; exact h
theorem wpR_mono {α : Type} {r : Rs α} {post post' : α → Env → Prop} {xp xp' : Ex → Env → Prop} (h : wpR r post xp) (hp : ∀ a ρ, post a ρ → post' a ρ) (hx : ∀ x ρ, xp x ρ → xp' x ρ) : wpR r post' xp' := by
  cases r with
  | ok a ρ => exact hp a ρ h
  | ex x ρ => exact hx x ρ h
  | stuck => exact h

/-! ### what a value stands for -/
structure Gm where
  P : Program
  w : World
  K : PySem.W.Frag
  mg : Str → Option Value
  cur : Addr

mutual
inductive Rep (Γ : Gm) (F : Hp) : V → D → Prop
  | non : Rep Γ F .non .non
  | bl (b : Bool) : Rep Γ F (.bl b) (.bl b)
  | int (i : Int) : Rep Γ F (.int i) (.int i)
  | str (x : Str) : Rep Γ F (.str x) (.str x)
  | tup {a : Addr} {xs : List V} {ds : List D} : SqT Γ.K F a xs → RepL Γ F xs ds → Rep Γ F (.ref a) (.tup ds)
  | lst {a : Addr} {xs : List V} {ds : List D} : F a = some (.lst xs) → RepL Γ F xs ds → Rep Γ F (.ref a) (.lst ds)
  | scr {a : Addr} {xs : List V} {ds : List D} : SqL Γ.K F a xs → RepL Γ F xs ds → Rep Γ F (.ref a) (.scr ds)
  | dic {a : Addr} {kvs : List (Key × V)} {ds : List (Key × D)} : F a = some (.dK kvs) → RepK Γ F kvs ds → Rep Γ F (.ref a) (.dic ds)
  | set {a : Addr} {ns : List Int} : ns.Nodup → F a = some (SetO Γ.w a (fun k => decide (k ∈ ns)) ns.length) → Rep Γ F (.ref a) (.set ns)
inductive RepL (Γ : Gm) (F : Hp) : List V → List D → Prop
  | nil : RepL Γ F [] []
  | cons {v : V} {vs : List V} {d : D} {ds : List D} : Rep Γ F v d → RepL Γ F vs ds → RepL Γ F (v :: vs) (d :: ds)
inductive RepK (Γ : Gm) (F : Hp) : List (Key × V) → List (Key × D) → Prop
  | nil : RepK Γ F [] []
  | cons {k : Key} {v : V} {vs : List (Key × V)} {d : D} {ds : List (Key × D)} : Rep Γ F v d → RepK Γ F vs ds → RepK Γ F ((k, v) :: vs) ((k, d) :: ds)
end
theorem sqT_mono {K : PySem.W.Frag} {F F' : Hp} {a : Addr} {xs : List V} (e : Same F F') (h : SqT K F a xs) : SqT K F' a xs := by
  rcases h with (h | ⟨o, h⟩) | h
  · exact .inl (.inl (e _ _ h))
  · exact .inl (.inr ⟨o, e _ _ h⟩)
  · exact .inr h
mutual
theorem Rep.mono {Γ : Gm} {F F' : Hp} (e : Same F F') : ∀ {d : D} {v : V}, Rep Γ F v d → Rep Γ F' v d
  | .non, _, h => by cases h; exact .non
  | .bl _, _, h => by cases h; exact .bl _
  | .int _, _, h => by cases h; exact .int _
  | .str _, _, h => by cases h; exact .str _
  | .tup _, _, h => by cases h with | tup a b => exact .tup (sqT_mono e a) (RepL.mono e b)
  | .lst _, _, h => by cases h with | lst a b => exact .lst (e _ _ a) (RepL.mono e b)
  | .scr _, _, h => by cases h with | scr a b => exact .scr (e.seq a) (RepL.mono e b)
  | .dic _, _, h => by cases h with | dic a b => exact .dic (e _ _ a) (RepK.mono e b)
  | .set _, _, h => by cases h with | set n a => exact .set n (e _ _ a)
theorem RepL.mono {Γ : Gm} {F F' : Hp} (e : Same F F') : ∀ {ds : List D} {vs : List V}, RepL Γ F vs ds → RepL Γ F' vs ds
  | [], _, h => by cases h; exact .nil
  | _ :: _, _, h => by cases h with | cons a b => exact .cons (Rep.mono e a) (RepL.mono e b)
theorem RepK.mono {Γ : Gm} {F F' : Hp} (e : Same F F') : ∀ {ds : List (Key × D)} {vs : List (Key × V)}, RepK Γ F vs ds → RepK Γ F' vs ds
  | [], _, h => by cases h; exact .nil
  | (_, _) :: _, _, h => by cases h with | cons a b => exact .cons (Rep.mono e a) (RepK.mono e b)
end
section
variable {Γ : Gm} {F H : Hp}
theorem RepL.length : ∀ {vs : List V} {ds : List D}, RepL Γ F vs ds → vs.length = ds.length
  | _, _, .nil => rfl
  | _, _, .cons _ t => congrArg (· + 1) t.length
theorem RepL.get : ∀ {vs : List V} {ds : List D} {i : Nat} {d : D}, RepL Γ F vs ds → ds[i]? = some d → ∃ v, vs[i]? = some v ∧ Rep Γ F v d
  | _, _, _, _, .nil, e => by simp at e
  | _, _, 0, _, .cons r _, e => by simp at e; subst e; exact ⟨_, rfl, r⟩
  | _, _, i + 1, d, .cons _ t, e => by
    obtain ⟨u, h1, h2⟩ := RepL.get (i := i) (d := d) t (by simpa using e)
    exact ⟨u, by simpa using h1, h2⟩
theorem RepL.getV : ∀ {vs : List V} {ds : List D} {i : Nat} {v : V}, RepL Γ F vs ds → vs[i]? = some v → ∃ d, ds[i]? = some d ∧ Rep Γ F v d
  | _, _, _, _, .nil, e => by simp at e
  | _, _, 0, _, .cons r _, e => by simp at e; subst e; exact ⟨_, rfl, r⟩
  | _, _, i + 1, d, .cons _ t, e => by
    obtain ⟨u, h1, h2⟩ := RepL.getV (i := i) (v := d) t (by simpa using e)
    exact ⟨u, by simpa using h1, h2⟩
theorem RepL.append : ∀ {vs us : List V} {ds es : List D}, RepL Γ F vs ds → RepL Γ F us es → RepL Γ F (vs ++ us) (ds ++ es)
  | _, _, _, _, .nil, s => s
  | _, _, _, _, .cons r t, s => .cons r (RepL.append t s)
theorem RepL.set {v : V} {d : D} (r : Rep Γ F v d) : ∀ {vs : List V} {ds : List D} (i : Nat), RepL Γ F vs ds → RepL Γ F (vs.set i v) (ds.set i d)
  | _, _, _, .nil => .nil
  | _, _, 0, .cons _ t => .cons r t
  | _, _, i + 1, .cons q t => .cons q (RepL.set r i t)
theorem RepL.take : ∀ {vs : List V} {ds : List D} (n : Nat), RepL Γ F vs ds → RepL Γ F (vs.take n) (ds.take n)
  | _, _, 0, _ => .nil
  | _, _, _ + 1, .nil => .nil
  | _, _, n + 1, .cons r t => .cons r (RepL.take n t)
theorem RepL.drop : ∀ {vs : List V} {ds : List D} (n : Nat), RepL Γ F vs ds → RepL Γ F (vs.drop n) (ds.drop n)
  | _, _, 0, r => r
  | _, _, _ + 1, .nil => .nil
  | _, _, n + 1, .cons _ t => RepL.drop n t
theorem RepL.eraseIdx : ∀ {vs : List V} {ds : List D} (i : Nat), RepL Γ F vs ds → RepL Γ F (vs.eraseIdx i) (ds.eraseIdx i)
  | _, _, _, .nil => .nil
  | _, _, 0, .cons _ t => t
  | _, _, i + 1, .cons q t => .cons q (RepL.eraseIdx i t)
theorem RepL.reverse {vs : List V} {ds : List D} (h : RepL Γ F vs ds) : RepL Γ F vs.reverse ds.reverse := by
  induction h using RepL.rec (motive_1 := fun _ _ _ => True) (motive_3 := fun _ _ _ => True) with
  | nil => exact .nil
  | cons a b _ ih => rw [List.reverse_cons, List.reverse_cons]; exact ih.append (.cons a .nil)
  | _ => trivial
end

/-! ### slots -/
mutual
inductive RepO (Γ : Gm) (F H : Hp) : V → O → List Addr → Prop
  | val {v : V} {d : D} : Rep Γ F v d → RepO Γ F H v (.val d) []
  | lst {a : Addr} {xs : List V} {ds : List D} : F a = none → H a = some (.lst xs) → RepL Γ F xs ds → RepO Γ F H (.ref a) (.lst ds) [a]
  | dic {a : Addr} {kvs : List (Key × V)} {ds : List (Key × D)} : F a = none → H a = some (.dK kvs) → RepK Γ F kvs ds → RepO Γ F H (.ref a) (.dic ds) [a]
  | ins {a C dx : Addr} {c : Str} {vs : List (Str × V)} {fs : List (Str × O)} {A : List Addr} : F a = none → Γ.mg c = some (.ref C) → H a = some (.ins C dx vs) → RepF Γ F H vs fs A → a ∉ A → RepO Γ F H (.ref a) (.ins c fs) (a :: A)
  | exc {x : Ex} : RepO Γ F H (.ref Γ.cur) (.exc x) []
inductive RepF (Γ : Gm) (F H : Hp) : List (Str × V) → List (Str × O) → List Addr → Prop
  | nil : RepF Γ F H [] [] []
  | cons {f : Str} {v : V} {o : O} {vs : List (Str × V)} {fs : List (Str × O)} {A B : List Addr} : RepO Γ F H v o A → RepF Γ F H vs fs B → (∀ b ∈ A, b ∉ B) → RepF Γ F H ((f, v) :: vs) ((f, o) :: fs) (A ++ B)
end
section
variable {Γ : Gm} {F F' H H' : Hp}
mutual
theorem RepO.none : ∀ {o : O} {v : V} {A : List Addr}, RepO Γ F H v o A → ∀ b ∈ A, F b = Option.none
  | .val _, _, _, h, b, hb => by cases h; cases hb
  | .exc _, _, _, h, b, hb => by cases h; cases hb
  | .lst _, _, _, h, b, hb => by
    cases h with
    | lst n _ _ => rcases List.mem_singleton.mp hb with rfl; exact n
  | .dic _, _, _, h, b, hb => by
    cases h with
    | dic n _ _ => rcases List.mem_singleton.mp hb with rfl; exact n
  | .ins _ _, _, _, h, b, hb => by
    cases h with
    | ins n _ _ r _ =>
      rcases List.mem_cons.mp hb with rfl | hb
      · exact n
      · exact RepF.none r b hb
theorem RepF.none : ∀ {fs : List (Str × O)} {vs : List (Str × V)} {A : List Addr}, RepF Γ F H vs fs A → ∀ b ∈ A, F b = Option.none
  | [], _, _, h, b, hb => by cases h; cases hb
  | (_, _) :: _, _, _, h, b, hb => by
    cases h with
    | cons r t _ =>
      rcases List.mem_append.mp hb with hb | hb
      · exact RepO.none r b hb
      · exact RepF.none t b hb
end
mutual
theorem RepO.live : ∀ {o : O} {v : V} {A : List Addr}, RepO Γ F H v o A → ∀ b ∈ A, ∃ u, H b = some u
  | .val _, _, _, h, b, hb => by cases h; cases hb
  | .exc _, _, _, h, b, hb => by cases h; cases hb
  | .lst _, _, _, h, b, hb => by
    cases h with
    | lst _ n _ => rcases List.mem_singleton.mp hb with rfl; exact ⟨_, n⟩
  | .dic _, _, _, h, b, hb => by
    cases h with
    | dic _ n _ => rcases List.mem_singleton.mp hb with rfl; exact ⟨_, n⟩
  | .ins _ _, _, _, h, b, hb => by
    cases h with
    | ins _ _ n r _ =>
      rcases List.mem_cons.mp hb with rfl | hb
      · exact ⟨_, n⟩
      · exact RepF.live r b hb
theorem RepF.live : ∀ {fs : List (Str × O)} {vs : List (Str × V)} {A : List Addr}, RepF Γ F H vs fs A → ∀ b ∈ A, ∃ u, H b = some u
  | [], _, _, h, b, hb => by cases h; cases hb
  | (_, _) :: _, _, _, h, b, hb => by
    cases h with
    | cons r t _ =>
      rcases List.mem_append.mp hb with hb | hb
      · exact RepO.live r b hb
      · exact RepF.live t b hb
end
mutual
/-- an owned thing stays while its own cells stay -/
theorem RepO.stay (e : Same F F') : ∀ {o : O} {v : V} {A : List Addr}, RepO Γ F H v o A → (∀ b ∈ A, F' b = Option.none ∧ ∀ u, H b = some u → H' b = some u) → RepO Γ F' H' v o A
  | .val _, _, _, h, _ => by cases h with | val r => exact .val (r.mono e)
  | .exc _, _, _, h, _ => by cases h; exact .exc
  | .lst _, _, _, h, k => by
    cases h with
    | lst _ n r => exact .lst (k _ List.mem_cons_self).1 ((k _ List.mem_cons_self).2 _ n) (r.mono e)
  | .dic _, _, _, h, k => by
    cases h with
    | dic _ n r => exact .dic (k _ List.mem_cons_self).1 ((k _ List.mem_cons_self).2 _ n) (r.mono e)
  | .ins _ _, _, _, h, k => by
    cases h with
    | ins _ c n r q => exact .ins (k _ List.mem_cons_self).1 c ((k _ List.mem_cons_self).2 _ n) (RepF.stay e r fun b hb => k b (List.mem_cons_of_mem _ hb)) q
theorem RepF.stay (e : Same F F') : ∀ {fs : List (Str × O)} {vs : List (Str × V)} {A : List Addr}, RepF Γ F H vs fs A → (∀ b ∈ A, F' b = Option.none ∧ ∀ u, H b = some u → H' b = some u) → RepF Γ F' H' vs fs A
  | [], _, _, h, _ => by cases h; exact .nil
  | (_, _) :: _, _, _, h, k => by
    cases h with
    | cons r t q => exact .cons (RepO.stay e r fun b hb => k b (List.mem_append_left _ hb)) (RepF.stay e t fun b hb => k b (List.mem_append_right _ hb)) q
end
end
abbrev Own := Nat → List Addr
structure Sta (Γ : Gm) (F H : Hp) (σ : Sl) (ρ : Env) (As : Own) : Prop where
  sub : Same F H
  reps : ∀ i o, ρ[i]? = some (some o) → ∃ v, σ[i]? = some (some v) ∧ RepO Γ F H v o (As i)
  sep : ∀ i j a, a ∈ As i → a ∈ As j → i = j
  len : ρ.length ≤ σ.length
/-- a step: what is frozen stays, what is tracked and not owned stays, what is owned was owned or is new, what is frozen was so, or owned, or is new -/
structure Tr (F H : Hp) (As : Own) (F' H' : Hp) (As' : Own) : Prop where
  ext : Same F F'
  keep : ∀ b u, H b = some u → (∀ i, b ∉ As i) → H' b = some u
  own : ∀ i b, b ∈ As' i → (∃ j, b ∈ As j) ∨ H b = none
  frz : ∀ b u, F' b = some u → F b = some u ∨ H b = none ∨ ∃ i, b ∈ As i
def Fr (H : Hp) (As : Own) (B : List Addr) : Prop := ∀ b ∈ B, H b = none ∨ ∃ i, b ∈ As i
section
variable {Γ : Gm} {F F1 F2 H H1 H2 : Hp} {As As1 As2 : Own}
theorem Tr.refl : Tr F H As F H As := ⟨fun _ _ h => h, fun _ _ h _ => h, fun i _ h => .inl ⟨i, h⟩, fun _ _ h => .inl h⟩
theorem Tr.back (a : Tr F H As F1 H1 As1) {b : Addr} (h : H1 b = none) : H b = none ∨ ∃ i, b ∈ As i := by
  cases e : H b with
  | none => exact .inl rfl
  | some u =>
    by_cases q : ∃ i, b ∈ As i
    · exact .inr q
    · rw [a.keep b u e (fun i hi => q ⟨i, hi⟩)] at h; cases h
theorem Tr.trans (a : Tr F H As F1 H1 As1) (b : Tr F1 H1 As1 F2 H2 As2) : Tr F H As F2 H2 As2 where
  ext := a.ext.trans b.ext
  keep := fun c u h n => b.keep c u (a.keep c u h n) fun i hi => by
    rcases a.own i c hi with ⟨j, hj⟩ | q
    · exact n j hj
    · rw [h] at q; cases q
  own := fun i c hc => by
    rcases b.own i c hc with ⟨j, hj⟩ | q
    · exact a.own j c hj
    · exact (a.back q).symm
  frz := fun c u hc => by
    rcases b.frz c u hc with q | q | ⟨j, hj⟩
    · exact a.frz c u q
    · exact .inr (a.back q)
    · exact .inr (a.own j c hj).symm
theorem Fr.back (a : Tr F H As F1 H1 As1) {B : List Addr} (h : Fr H1 As1 B) : Fr H As B := fun b hb => by
  rcases h b hb with q | ⟨i, q⟩
  · exact a.back q
  · exact (a.own i b q).symm
theorem Fr.nil : Fr H As [] := fun _ h => nomatch h
end
inductive RepR (Γ : Gm) (F H : Hp) (σ : Sl) (As : Own) : V → RV → List Addr → Prop
  | o {v : V} {o : O} {B : List Addr} : RepO Γ F H v o B → (∀ b ∈ B, ∀ i, b ∉ As i) → RepR Γ F H σ As v (.o o) B
  | at {v : V} {i : Nat} : σ[i]? = some (some v) → RepR Γ F H σ As v (.at i) []
section
variable {Γ : Gm} {F F1 H H1 : Hp} {As As1 : Own} {σ : Sl}
theorem RepO.tr (t : Tr F H As F1 H1 As1) {v : V} {o : O} {B : List Addr} (h : RepO Γ F H v o B) (n : ∀ b ∈ B, ∀ i, b ∉ As i) : RepO Γ F1 H1 v o B ∧ ∀ b ∈ B, ∀ i, b ∉ As1 i := by
  refine ⟨h.stay t.ext fun b hb => ⟨?_, fun u q => t.keep b u q (n b hb)⟩, fun b hb i hi => ?_⟩
  · cases e : F1 b with
    | none => rfl
    | some u =>
      rcases t.frz b u e with q | q | ⟨i, q⟩
      · rw [h.none b hb] at q; cases q
      · obtain ⟨u', z⟩ := h.live b hb; rw [z] at q; cases q
      · exact absurd q (n b hb i)
  · rcases t.own i b hi with ⟨j, q⟩ | q
    · exact n b hb j q
    · obtain ⟨u', z⟩ := h.live b hb; rw [z] at q; cases q
theorem RepR.tr (t : Tr F H As F1 H1 As1) {v : V} {r : RV} {B : List Addr} (h : RepR Γ F H σ As v r B) : RepR Γ F1 H1 σ As1 v r B := by
  cases h with
  | o h n => exact .o (h.tr t n).1 (h.tr t n).2
  | «at» h => exact .at h
end
/-- an exception -/
def RepX (Γ : Gm) (F H : Hp) (x : Ex) (cls : Value) (od : Option Addr) : Prop :=
  (∃ C, cls = .ref C ∧ Γ.mg x.cls = some (.ref C)) ∧ match x.pl with
    | none => od = none
    | some (f, d) => ∃ dd v, od = some dd ∧ H dd = some (.xd [(f, v)]) ∧ F dd = none ∧ Rep Γ F v d

/-! ### readings by mirrors -/
def pX (Γ : Gm) (W : WX) (F H : Hp) (σ : Sl) (As : Own) : Ex → Env → Prop := fun x ρ' =>
  ∀ F' H' cls od As', Sta Γ F' H' σ ρ' As' → Tr F H As F' H' As' → RepX Γ F' H' x cls od → W cls od σ H'
def pE (Γ : Gm) (F H : Hp) (σ : Sl) (As : Own) (Q : VK) : RV → Env → Prop := fun r ρ' =>
  ∀ F' H' v As' B, Sta Γ F' H' σ ρ' As' → Tr F H As F' H' As' → Fr H As B → RepR Γ F' H' σ As' v r B → Q v H'
def tM (Γ : Gm) (W : WX) (m : M RV) : TE := fun σ H Q => ∃ F ρ As, Sta Γ F H σ ρ As ∧ wpR (m ρ) (pE Γ F H σ As Q) (pX Γ W F H σ As)
def pT (Γ : Gm) (F H : Hp) (σ : Sl) (As : Own) (Q : Bool → Hp → Prop) : Bool → Env → Prop := fun b ρ' =>
  ∀ F' H' As', Sta Γ F' H' σ ρ' As' → Tr F H As F' H' As' → Q b H'
def tMT (Γ : Gm) (W : WX) (m : M Bool) : TT := fun σ H Q => ∃ F ρ As, Sta Γ F H σ ρ As ∧ wpR (m ρ) (pT Γ F H σ As Q) (pX Γ W F H σ As)
abbrev gm (X : Cx) (cur : Addr) : Gm := ⟨X.prog, X.w, X.K, X.mg, cur⟩
/-- an expression keeps to its mirror -/
def PM (X : Cx) (c : Addr) (W : WX) (e : Expr) (m : M RV) : Prop := PE X e (tM (gm X c) W m)
def TM (X : Cx) (c : Addr) (W : WX) (e : Expr) (m : M Bool) : Prop := PT X e (tMT (gm X c) W m)
theorem PE.imp {X : Cx} {e : Expr} {t t' : TE} (h : PE X e t) (k : ∀ σ H Q, t' σ H Q → t σ H Q) : PE X e t' := ⟨fun pins s σ H Q I q => h.run pins s σ H Q I (k σ H Q q)⟩
theorem PT.imp {X : Cx} {e : Expr} {t t' : TT} (h : PT X e t) (k : ∀ σ H Q, t' σ H Q → t σ H Q) : PT X e t' := ⟨fun pins s σ H Q I q => h.run pins s σ H Q I (k σ H Q q)⟩

section
variable {Γ : Gm} {W : WX} {F F1 H H1 : Hp} {As As1 : Own} {σ : Sl}
theorem pX.tr (t : Tr F H As F1 H1 As1) {x : Ex} {ρ : Env} (h : pX Γ W F H σ As x ρ) : pX Γ W F1 H1 σ As1 x ρ := fun F' H' cls od As' s t' r => h F' H' cls od As' s (t.trans t') r
theorem pE.tr (t : Tr F H As F1 H1 As1) {Q : VK} {r : RV} {ρ : Env} (h : pE Γ F H σ As Q r ρ) : pE Γ F1 H1 σ As1 Q r ρ := fun F' H' v As' B s t' f r => h F' H' v As' B s (t.trans t') (f.back t) r
theorem pT.tr (t : Tr F H As F1 H1 As1) {Q : Bool → Hp → Prop} {r : Bool} {ρ : Env} (h : pT Γ F H σ As Q r ρ) : pT Γ F1 H1 σ As1 Q r ρ := fun F' H' As' s t' => h F' H' As' s (t.trans t')
/-- the first part of a row of two: the rest is asked where the first one ended -/
theorem tM_seq {α : Type} {m : M RV} {f : RV → M α} {ρ : Env} {post : α → Env → Prop} {xp : Ex → Env → Prop} {Q' : VK} (S : Sta Γ F H σ ρ As) (h : wpR (M.bind m f ρ) post xp) (hx : ∀ x ρ, xp x ρ → pX Γ W F H σ As x ρ)
    (k : ∀ r ρ1 F1 H1 v As1 B, wpR (f r ρ1) post xp → Sta Γ F1 H1 σ ρ1 As1 → Tr F H As F1 H1 As1 → Fr H As B → RepR Γ F1 H1 σ As1 v r B → Q' v H1) : tM Γ W m σ H Q' :=
  ⟨F, ρ, As, S, wpR_mono (wpR_bind h) (fun r ρ1 hw F1 H1 v As1 B S1 T1 f1 R1 => k r ρ1 F1 H1 v As1 B hw S1 T1 f1 R1) fun x ρ1 q => hx x ρ1 q⟩
theorem tMT_seq {α : Type} {m : M Bool} {f : Bool → M α} {ρ : Env} {post : α → Env → Prop} {xp : Ex → Env → Prop} {Q' : Bool → Hp → Prop} (S : Sta Γ F H σ ρ As) (h : wpR (M.bind m f ρ) post xp) (hx : ∀ x ρ, xp x ρ → pX Γ W F H σ As x ρ)
    (k : ∀ b ρ1 F1 H1 As1, wpR (f b ρ1) post xp → Sta Γ F1 H1 σ ρ1 As1 → Tr F H As F1 H1 As1 → Q' b H1) : tMT Γ W m σ H Q' :=
  ⟨F, ρ, As, S, wpR_mono (wpR_bind h) (fun b ρ1 hw F1 H1 As1 S1 T1 => k b ρ1 F1 H1 As1 hw S1 T1) fun x ρ1 q => hx x ρ1 q⟩
end

/-! ### what is read -/
/-- data as it stands now: frozen, or at the top level an own list, an own dict -/
inductive RepP (Γ : Gm) (F H : Hp) : V → D → Prop
  | frz {v : V} {d : D} : Rep Γ F v d → RepP Γ F H v d
  | lst {a : Addr} {xs : List V} {ds : List D} : H a = some (.lst xs) → RepL Γ F xs ds → RepP Γ F H (.ref a) (.lst ds)
  | dic {a : Addr} {kvs : List (Key × V)} {ds : List (Key × D)} : H a = some (.dK kvs) → RepK Γ F kvs ds → RepP Γ F H (.ref a) (.dic ds)
def dataO : O → Option D
  | .val d => some d
  | .lst ds => some (.lst ds)
  | .dic kvs => some (.dic kvs)
  | _ => none
/-- look at a thing -/
def peek : RV → M D
  | .o o => M.of (dataO o)
  | .at i => fun ρ => match ρ[i]? with
    | some (some o) => M.of (dataO o) ρ
    | _ => .stuck
section
variable {Γ : Gm} {W : WX} {F F1 H H1 : Hp} {As As1 : Own} {σ : Sl}
theorem dataO_rep {v : V} {o : O} {A : List Addr} {d : D} (h : RepO Γ F H v o A) (e : dataO o = some d) : RepP Γ F H v d := by
  cases h with
  | val r => cases e; exact .frz r
  | lst a b c => cases e; exact .lst b c
  | dic a b c => cases e; exact .dic b c
  | ins => cases e
  | exc => cases e
theorem wpR_of {α : Type} {o : Option α} {ρ : Env} {post : α → Env → Prop} {xp : Ex → Env → Prop} (h : wpR (M.of o ρ) post xp) : ∃ a, o = some a ∧ post a ρ := by
  cases o with
  | none => exact h.elim
  | some a => exact ⟨a, rfl, h⟩
theorem peek_ok {α : Type} {r : RV} {ρ : Env} {v : V} {B : List Addr} {f : D → M α} {post : α → Env → Prop} {xp : Ex → Env → Prop} (S : Sta Γ F H σ ρ As) (R : RepR Γ F H σ As v r B) (h : wpR (M.bind (peek r) f ρ) post xp) :
    ∃ d, RepP Γ F H v d ∧ wpR (f d ρ) post xp := by
  have h := wpR_bind h
  cases R with
  | o q n =>
    obtain ⟨d, e, h⟩ := wpR_of h
    exact ⟨d, dataO_rep q e, h⟩
  | @«at» i q =>
    simp only [peek] at h
    cases e : ρ[i]? with
    | none => rw [e] at h; exact h.elim
    | some o =>
      cases o with
      | none => rw [e] at h; exact h.elim
      | some o =>
        rw [e] at h
        obtain ⟨d, e', h⟩ := wpR_of h
        obtain ⟨v', q', ro⟩ := S.reps i o e
        rw [q] at q'; cases q'
        exact ⟨d, dataO_rep ro e', h⟩
/-! views -/
theorem RepP.vSeq (S : Same F H) {v : V} {ds : List D} (h : RepP Γ F H v (.lst ds)) : ∃ a xs, v = .ref a ∧ H a = some (.lst xs) ∧ RepL Γ F xs ds := by
  cases h with
  | frz h => cases h with | lst a b => exact ⟨_, _, rfl, S _ _ a, b⟩
  | lst a b => exact ⟨_, _, rfl, a, b⟩
theorem RepP.vScr (S : Same F H) {v : V} {ds : List D} (h : RepP Γ F H v (.scr ds)) : ∃ a xs, v = .ref a ∧ SqL Γ.K H a xs ∧ RepL Γ F xs ds := by
  cases h with
  | frz h => cases h with | scr a b => exact ⟨_, _, rfl, S.seq a, b⟩
theorem RepP.vTup (S : Same F H) {v : V} {ds : List D} (h : RepP Γ F H v (.tup ds)) : ∃ a xs, v = .ref a ∧ SqT Γ.K H a xs ∧ RepL Γ F xs ds := by
  cases h with
  | frz h => cases h with | tup a b => exact ⟨_, _, rfl, sqT_mono S a, b⟩
theorem RepP.vDic (S : Same F H) {v : V} {ds : List (Key × D)} (h : RepP Γ F H v (.dic ds)) : ∃ a kvs, v = .ref a ∧ H a = some (.dK kvs) ∧ RepK Γ F kvs ds := by
  cases h with
  | frz h => cases h with | dic a b => exact ⟨_, _, rfl, S _ _ a, b⟩
  | dic a b => exact ⟨_, _, rfl, a, b⟩
theorem RepP.vInt {v : V} {i : Int} (h : RepP Γ F H v (.int i)) : v = .int i := by cases h with | frz h => cases h; rfl
theorem RepP.vBl {v : V} {i : Bool} (h : RepP Γ F H v (.bl i)) : v = .bl i := by cases h with | frz h => cases h; rfl
theorem RepP.vStr {v : V} {i : Str} (h : RepP Γ F H v (.str i)) : v = .str i := by cases h with | frz h => cases h; rfl
theorem RepP.vNon {v : V} (h : RepP Γ F H v .non) : v = .non := by cases h with | frz h => cases h; rfl
theorem RepP.tr (t : Tr F H As F1 H1 As1) {v : V} {d : D} (h : RepP Γ F H v d) (hs : ∀ a, v = .ref a → ∀ u, H a = some u → H1 a = some u) : RepP Γ F1 H1 v d := by
  cases h with
  | frz r => exact .frz (r.mono t.ext)
  | lst a b => exact .lst (hs _ rfl _ a) (b.mono t.ext)
  | dic a b => exact .dic (hs _ rfl _ a) (b.mono t.ext)
end

/-! ### freezing -/
def toD : RV → M D
  | .o o => M.of (dataO o)
  | .at i => fun ρ => match ρ[i]? with
    | some (some o) => match dataO o with
      | some d => .ok d (ρ.set i (some (.val d)))
      | none => .stuck
    | _ => .stuck
section
variable {Γ : Gm} {W : WX} {F F1 H H1 : Hp} {As As1 : Own} {σ : Sl}
/-- one address is frozen -/
def frzA (F H : Hp) (A : List Addr) : Hp := fun b => if b ∈ A then H b else F b
theorem frzA_ext {A : List Addr} (n : ∀ b ∈ A, F b = none) : Same F (frzA F H A) := fun b u h => by
  unfold frzA
  by_cases q : b ∈ A
  · rw [n b q] at h; cases h
  · rw [if_neg q]; exact h
theorem frzA_sub {A : List Addr} (S : Same F H) : Same (frzA F H A) H := fun b u h => by
  unfold frzA at h
  by_cases q : b ∈ A
  · rw [if_pos q] at h; exact h
  · rw [if_neg q] at h; exact S b u h
theorem frzA_out {A : List Addr} {b : Addr} (h : b ∉ A) : frzA F H A b = F b := by unfold frzA; rw [if_neg h]
theorem frzA_in {A : List Addr} {b : Addr} (h : b ∈ A) : frzA F H A b = H b := by unfold frzA; rw [if_pos h]
/-- an owned thing, frozen -/
theorem freeze_rep {v : V} {o : O} {A : List Addr} {d : D} (h : RepO Γ F H v o A) (e : dataO o = some d) : Rep Γ (frzA F H A) v d := by
  have x := frzA_ext (H := H) h.none
  cases h with
  | val r => cases e; exact r.mono x
  | lst a b c => cases e; exact .lst (by rw [frzA_in (by simp)]; exact b) (c.mono x)
  | dic a b c => cases e; exact .dic (by rw [frzA_in (by simp)]; exact b) (c.mono x)
  | ins => cases e
  | exc => cases e
/-- the state behind a freezing of addresses of no slot -/
theorem Sta.freeze {ρ : Env} {A : List Addr} (S : Sta Γ F H σ ρ As) (n : ∀ b ∈ A, F b = none) (m : ∀ b ∈ A, ∀ i, b ∉ As i) : Sta Γ (frzA F H A) H σ ρ As where
  sub := frzA_sub S.sub
  reps := fun i o e => by
    obtain ⟨v, q, r⟩ := S.reps i o e
    refine ⟨v, q, r.stay (frzA_ext n) fun b hb => ⟨?_, fun u z => z⟩⟩
    rw [frzA_out (fun z => m b z i hb)]; exact r.none b hb
  sep := S.sep
  len := S.len
theorem Tr.freeze {A : List Addr} (n : ∀ b ∈ A, F b = none) (f : Fr H As A) : Tr F H As (frzA F H A) H As where
  ext := frzA_ext n
  keep := fun _ _ h _ => h
  own := fun i b h => .inl ⟨i, h⟩
  frz := fun b u h => by
    by_cases q : b ∈ A
    · exact .inr (f b q)
    · rw [frzA_out q] at h; exact .inl h
def wipeO (As : Own) (i : Nat) : Own := fun k => if k = i then [] else As k
/-- a slot's own thing is frozen -/
theorem Sta.freezeAt {ρ : Env} {i : Nat} {o : O} {d : D} (S : Sta Γ F H σ ρ As) (e : ρ[i]? = some (some o)) (ed : dataO o = some d) :
    ∃ v, σ[i]? = some (some v) ∧ Rep Γ (frzA F H (As i)) v d ∧ Sta Γ (frzA F H (As i)) H σ (ρ.set i (some (.val d))) (wipeO As i) ∧ Tr F H As (frzA F H (As i)) H (wipeO As i) := by
  obtain ⟨v, q, r⟩ := S.reps i o e
  refine ⟨v, q, freeze_rep r ed, ⟨frzA_sub S.sub, fun j o' e' => ?_, fun j k a h1 h2 => ?_, by rw [List.length_set]; exact S.len⟩, ⟨frzA_ext r.none, fun _ _ h _ => h, fun j b h => .inl ?_, fun b u h => ?_⟩⟩
  · by_cases hj : j = i
    · subst hj
      have hl : j < ρ.length := (List.getElem?_eq_some_iff.mp e).1
      rw [List.getElem?_set_self hl] at e'
      cases e'
      exact ⟨v, q, by rw [show wipeO As j j = [] from if_pos rfl]; exact .val (freeze_rep r ed)⟩
    · rw [List.getElem?_set_ne (Ne.symm hj)] at e'
      obtain ⟨v', q', r'⟩ := S.reps j o' e'
      refine ⟨v', q', ?_⟩
      rw [show wipeO As i j = As j from if_neg hj]
      refine r'.stay (frzA_ext r.none) fun b hb => ⟨?_, fun u z => z⟩
      rw [frzA_out fun z => hj (S.sep j i b hb z)]
      exact r'.none b hb
  · unfold wipeO at h1 h2
    by_cases hj : j = i
    · rw [if_pos hj] at h1; cases h1
    · rw [if_neg hj] at h1
      by_cases hk : k = i
      · rw [if_pos hk] at h2; cases h2
      · rw [if_neg hk] at h2; exact S.sep j k a h1 h2
  · unfold wipeO at h
    by_cases hj : j = i
    · rw [if_pos hj] at h; cases h
    · rw [if_neg hj] at h; exact ⟨j, h⟩
  · by_cases hb : b ∈ As i
    · exact .inr (.inr ⟨i, hb⟩)
    · rw [frzA_out hb] at h; exact .inl h
theorem toD_ok {α : Type} {r : RV} {ρ : Env} {v : V} {B : List Addr} {f : D → M α} {post : α → Env → Prop} {xp : Ex → Env → Prop} {F0 H0 : Hp} {As0 : Own} (S : Sta Γ F H σ ρ As) (T : Tr F0 H0 As0 F H As) (fr : Fr H0 As0 B) (R : RepR Γ F H σ As v r B) (h : wpR (M.bind (toD r) f ρ) post xp) :
    ∃ d ρ' F' As', Rep Γ F' v d ∧ Sta Γ F' H σ ρ' As' ∧ Tr F0 H0 As0 F' H As' ∧ wpR (f d ρ') post xp := by
  have h := wpR_bind h
  cases R with
  | o q n =>
    obtain ⟨d, e, h⟩ := wpR_of h
    refine ⟨d, ρ, _, As, freeze_rep q e, S.freeze q.none n, ⟨T.ext.trans (frzA_ext q.none), T.keep, T.own, fun b u z => ?_⟩, h⟩
    by_cases qb : b ∈ B
    · exact .inr (fr b qb)
    · rw [frzA_out qb] at z; exact T.frz b u z
  | @«at» i q =>
    simp only [toD] at h
    cases e : ρ[i]? with
    | none => rw [e] at h; exact h.elim
    | some o =>
      cases o with
      | none => rw [e] at h; exact h.elim
      | some o =>
        rw [e] at h
        cases ed : dataO o with
        | none => simp only [ed] at h; exact h.elim
        | some d =>
          simp only [ed] at h
          obtain ⟨v', q', r', S', T'⟩ := S.freezeAt e ed
          rw [q] at q'; cases q'
          exact ⟨d, _, _, _, r', S', T.trans T', h⟩
end
end Mi

set_option Elab.async false
set_option linter.all false
set_option autoImplicit false
set_option maxRecDepth 100000
set_option maxHeartbeats 4000000
namespace Mi
open PySem PySem.Spec PyProof.Rows L2

/-! ### names and constants -/
theorem RepO.vval {Γ : Gm} {F H : Hp} {v : V} {d : D} {A : List Addr} (h : RepO Γ F H v (.val d) A) : Rep Γ F v d ∧ A = [] := by
  generalize e : O.val d = o at h
  cases h with
  | val r => cases e; exact ⟨r, rfl⟩
  | _ => cases e
def mVar (i : Nat) : M RV := fun ρ => match ρ[i]? with
  | some (some (.val d)) => .ok (.o (.val d)) ρ
  | some (some _) => .ok (.at i) ρ
  | _ => .stuck
def mC (d : D) : M RV := M.pure (.o (.val d))
section
variable {X : Cx} {c : Addr} {W : WX}
theorem pm_pv {i : Nat} {e : Expr} (h : PE X e (tVar i)) : PM X c W e (mVar i) := by
  refine PE.imp h fun σ H Q ⟨F, ρ, As, S, w⟩ => ?_
  unfold mVar at w
  cases e : ρ[i]? with
  | none => rw [e] at w; exact w.elim
  | some o =>
    cases o with
    | none => rw [e] at w; exact w.elim
    | some o =>
      rw [e] at w
      obtain ⟨v, q, r⟩ := S.reps i o e
      refine ⟨v, q, ?_⟩
      cases o with
      | val d => exact w F H v As [] S Tr.refl Fr.nil (.o (.val r.vval.1) (fun _ h => nomatch h))
      | lst ds => exact w F H v As [] S Tr.refl Fr.nil (.at q)
      | dic ds => exact w F H v As [] S Tr.refl Fr.nil (.at q)
      | ins _ _ => exact w F H v As [] S Tr.refl Fr.nil (.at q)
      | exc _ => exact w F H v As [] S Tr.refl Fr.nil (.at q)
theorem pm_var (i : Nat) {x : Str} {pos : Pos} (hN : X.N[i]? = some x := by rfl) (hv : Vis X.env.scope x := by first | exact Or.inl rfl | exact Or.inr (Or.inl rfl) | exact Or.inr (Or.inr rfl)) (hd : (x == ("__debug__" : Str)) = false := by decide)
    (hcd : (x == ("__classdict__" : Str)) = false := by decide) : PM X c W (.Name x pos) (mVar i) := pm_pv (pe_var hN hv hd hcd)
theorem pm_tC {e : Expr} {v : V} {d : D} (h : PE X e (tC v)) (r : ∀ F, Rep (gm X c) F v d) : PM X c W e (mC d) := by
  refine PE.imp h fun σ H Q ⟨F, ρ, As, S, w⟩ => ?_
  exact w F H v As [] S Tr.refl Fr.nil (.o (.val (r F)) (fun _ h => nomatch h))
theorem pm_int {i j pos} : PM X c W (.Constant (.int i) j pos) (mC (.int i)) := pm_tC pe_int fun _ => .int _
theorem pm_bl {b j pos} : PM X c W (.Constant (.bool b) j pos) (mC (.bl b)) := pm_tC pe_bl fun _ => .bl _
theorem pm_non {j pos} : PM X c W (.Constant .none j pos) (mC .non) := pm_tC pe_non fun _ => .non
theorem pm_str {x j pos} : PM X c W (.Constant (.str x) j pos) (mC (.str x)) := pm_tC pe_str fun _ => .str _
/-- a module's constant number -/
theorem pm_gint {x : Str} {i : Int} {pos : Pos} (hg : Gl X x) (hm : ∃ t, X.mg x = some (.int i t)) (hd : (x == ("__debug__" : Str)) = false := by decide) : PM X c W (.Name x pos) (mC (.int i)) := by
  obtain ⟨t, hm⟩ := hm
  exact pm_tC (v := .int i) (pe_glob hg hm ⟨t, rfl⟩ hd) fun _ => .int _
theorem pm_gstr {x : Str} {i : Str} {pos : Pos} (hg : Gl X x) (hm : ∃ t, X.mg x = some (.str i t)) (hd : (x == ("__debug__" : Str)) = false := by decide) : PM X c W (.Name x pos) (mC (.str i)) := by
  obtain ⟨t, hm⟩ := hm
  exact pm_tC (v := .str i) (pe_glob hg hm ⟨t, rfl⟩ hd) fun _ => .str _
end

/-! ### rules of two values: what is known of them, what is given -/
/-- the heap grows: new cells alone, some of them frozen -/
structure Grow (F H F' H' : Hp) : Prop where
  sub : Same H H'
  ext : Same F F'
  ins : Same F' H'
  frz : ∀ b u, F' b = some u → F b = some u ∨ H b = none
theorem Grow.refl {F H : Hp} (s : Same F H) : Grow F H F H := ⟨Same.refl H, Same.refl F, s, fun _ _ h => .inl h⟩
/-- op on two values gives o (looked at as they stand when both are known) -/
def RuleB (X : Cx) (c : Addr) (r : R2) (g : D → D → Option O) : Prop :=
  ∀ (F H : Hp) (x y : V) (dx dy : D) (o : O) (Q : VK), Same F H → RepP (gm X c) F H x dx → RepP (gm X c) F H y dy → g dx dy = some o →
    (∀ v F' H' B, Grow F H F' H' → (∀ b ∈ B, H b = none) → RepO (gm X c) F' H' v o B → Q v H') → r x y H Q
def mBin (g : D → D → Option O) (a b : M RV) : M RV := M.bind a fun ra => M.bind b fun rb => M.bind (peek ra) fun x => M.bind (peek rb) fun y => M.of ((g x y).map RV.o)
/-- slots that are owned are live: only such are kept in As -/
def liveOwn (Γ : Gm) (F H : Hp) (σ : Sl) (ρ : Env) (As : Own) : Own := fun i => match ρ[i]? with
  | some (some _) => As i
  | _ => []
section
variable {Γ : Gm} {W : WX} {F F1 H H1 : Hp} {As As1 : Own} {σ : Sl} {ρ : Env}
theorem liveOwn_sub {i : Nat} {b : Addr} (h : b ∈ liveOwn Γ F H σ ρ As i) : b ∈ As i := by
  unfold liveOwn at h
  split at h
  · exact h
  · cases h
theorem Sta.live (S : Sta Γ F H σ ρ As) : Sta Γ F H σ ρ (liveOwn Γ F H σ ρ As) where
  sub := S.sub
  reps := fun i o e => by
    obtain ⟨v, q, r⟩ := S.reps i o e
    refine ⟨v, q, ?_⟩
    have : liveOwn Γ F H σ ρ As i = As i := by unfold liveOwn; rw [e]
    rw [this]; exact r
  sep := fun i j a h1 h2 => S.sep i j a (liveOwn_sub h1) (liveOwn_sub h2)
  len := S.len
theorem Sta.liveAt (S : Sta Γ F H σ ρ As) {i : Nat} {b : Addr} (h : b ∈ liveOwn Γ F H σ ρ As i) : ∃ u, H b = some u := by
  have h' := liveOwn_sub h
  unfold liveOwn at h
  split at h
  · rename_i o e
    obtain ⟨v, q, r⟩ := S.reps i o e
    exact r.live b h'
  · cases h
theorem Tr.live (S : Sta Γ F H σ ρ As) : Tr F H As F H (liveOwn Γ F H σ ρ As) := ⟨fun _ _ h => h, fun _ _ h _ => h, fun i _ h => .inl ⟨i, liveOwn_sub h⟩, fun _ _ h => .inl h⟩
/-- new cells beside the state -/
theorem Sta.more (S : Sta Γ F H σ ρ As) (k : Grow F H F1 H1) : Sta Γ F1 H1 σ ρ As where
  sub := k.ins
  reps := fun i o e => by
    obtain ⟨v, q, r⟩ := S.reps i o e
    refine ⟨v, q, r.stay k.ext fun b hb => ⟨?_, fun u z => k.sub b u z⟩⟩
    cases e1 : F1 b with
    | none => rfl
    | some u =>
      rcases k.frz b u e1 with z | z
      · rw [r.none b hb] at z; cases z
      · obtain ⟨u', z'⟩ := r.live b hb; rw [z] at z'; cases z'
  sep := S.sep
  len := S.len
theorem Tr.more (k : Grow F H F1 H1) : Tr F H As F1 H1 As := ⟨k.ext, fun _ _ h _ => k.sub _ _ h, fun i _ h => .inl ⟨i, h⟩, fun b u h => (k.frz b u h).elim .inl fun z => .inr (.inl z)⟩
/-- the end of an expression that gives something new -/
theorem pE_new {Q : VK} {o : O} {F0 H0 : Hp} {As0 : Own} (S : Sta Γ F H σ ρ As) (T : Tr F0 H0 As0 F H As) (w : pE Γ F0 H0 σ As0 Q (.o o) ρ) {v : V} {F' H' : Hp} {B : List Addr} (k : Grow F H F' H') (n : ∀ b ∈ B, H b = none) (r : RepO Γ F' H' v o B) : Q v H' := by
  have S1 := S.live
  have T1 := T.trans (Tr.live S)
  refine w F' H' v _ B (S1.more k) (T1.trans (Tr.more k)) (Fr.back T1 fun b hb => .inl (n b hb)) (.o r fun b hb i hi => ?_)
  obtain ⟨u, q⟩ := S.liveAt hi
  rw [n b hb] at q; cases q
theorem peek_val {d : D} {ρ : Env} : peek (.o (.val d)) ρ = .ok d ρ := rfl
end
section
variable {X : Cx} {c : Addr} {W : WX} {a b : Expr} {ma mb : M RV} {pos : Pos}
theorem tM_bin {r : R2} {g : D → D → Option O} (R : RuleB X c r g) {σ : Sl} {H : Hp} {Q : VK} (h : tM (gm X c) W (mBin g ma mb) σ H Q) : tOp r (tM (gm X c) W ma) (tM (gm X c) W mb) σ H Q := by
  obtain ⟨F, ρ, As, S, w⟩ := h
  refine tM_seq S w (fun _ _ q => q) fun ra ρ1 F1 H1 v1 As1 B1 w1 S1 T1 f1 R1 => ?_
  refine tM_seq S1 w1 (fun _ _ q => q.tr T1) fun rb ρ2 F2 H2 v2 As2 B2 w2 S2 T2 f2 R2 => ?_
  obtain ⟨dx, px, w3⟩ := peek_ok S2 (R1.tr T2) w2
  obtain ⟨dy, py, w4⟩ := peek_ok S2 R2 w3
  obtain ⟨o, e, w5⟩ := wpR_of w4
  cases eg : g dx dy with
  | none => rw [eg] at e; cases e
  | some o' =>
    rw [eg] at e; cases e
    exact R F2 H2 v1 v2 dx dy o' Q S2.sub px py eg fun v F' H' B k n r => pE_new S2 (T1.trans T2) w5 k n r
theorem pm_bin {op : Operator} {r : R2} {g : D → D → Option O} (ho : OpR X (binaryOp op) r) (R : RuleB X c r g) (ha : PM X c W a ma) (hb : PM X c W b mb) : PM X c W (.BinOp a op b pos) (mBin g ma mb) :=
  PE.imp (pe_op ho ha hb) fun _ _ _ h => tM_bin R h
theorem pm_cmp {op : CmpOp} {r : R2} {g : D → D → Option O} (ho : OpR X (compareOp op) r) (R : RuleB X c r g) (ha : PM X c W a ma) (hb : PM X c W b mb) (hm : behindInMarks op b = false) : PM X c W (.Compare a [op] [b] pos) (mBin g ma mb) :=
  PE.imp (pe_cmpR ho ha hb hm) fun _ _ _ h => tM_bin R h
theorem pm_ix {r : R2} {g : D → D → Option O} (ho : IxR X r) (R : RuleB X c r g) (ha : PM X c W a ma) (hb : PM X c W b mb) (hs : PlainIx b := by intro _ _; rfl) : PM X c W (.Subscript a b pos) (mBin g ma mb) :=
  PE.imp (pe_ix ho ha hb hs) fun _ _ _ h => tM_bin R h
theorem RuleB.or {r r' : R2} {g g' : D → D → Option O} (h : RuleB X c r g) (h' : RuleB X c r' g') : RuleB X c (fun x y H Q => r x y H Q ∨ r' x y H Q) (fun x y => (g x y).or (g' x y)) := fun F H x y dx dy o Q s px py e k => by
  have e : (g dx dy).or (g' dx dy) = some o := e
  cases eg : g dx dy with
  | some o' => rw [eg] at e; cases e; exact .inl (h F H x y dx dy _ Q s px py eg k)
  | none => rw [eg] at e; exact .inr (h' F H x y dx dy o Q s px py e k)
end

/-! ### arithmetic -/
def ii (C : Int → Int → Bool) (f : Int → Int → Int) : D → D → Option O
  | .int i, .int j => if C i j then some (.val (.int (f i j))) else none
  | _, _ => none
def ib (f : Int → Int → Bool) : D → D → Option O
  | .int i, .int j => some (.val (.bl (f i j)))
  | _, _ => none
theorem rule_ii {X : Cx} {c : Addr} {C : Int → Int → Prop} {Cb : Int → Int → Bool} {f : Int → Int → Int} (hC : ∀ i j, Cb i j = true → C i j) : RuleB X c (rI C fun i j => .int (f i j)) (ii Cb f) := fun F H x y dx dy o Q s px py e k => by
  cases dx <;> cases dy <;> try (cases e; done)
  rename_i i j
  simp only [ii] at e
  split at e
  · rename_i hc
    cases e
    exact ⟨i, j, px.vInt, py.vInt, hC i j hc, k _ F H [] (Grow.refl s) (fun _ h => nomatch h) (.val (.int _))⟩
  · cases e
theorem rule_ii0 {X : Cx} {c : Addr} {f : Int → Int → Int} : RuleB X c (rI0 fun i j => .int (f i j)) (ii (fun _ _ => true) f) := fun F H x y dx dy o Q s px py e k => by
  cases dx <;> cases dy <;> try (cases e; done)
  rename_i i j
  cases e
  exact ⟨i, j, px.vInt, py.vInt, k _ F H [] (Grow.refl s) (fun _ h => nomatch h) (.val (.int _))⟩
theorem rule_ib0 {X : Cx} {c : Addr} {f : Int → Int → Bool} : RuleB X c (rI0 fun i j => .bl (f i j)) (ib f) := fun F H x y dx dy o Q s px py e k => by
  cases dx <;> cases dy <;> try (cases e; done)
  rename_i i j
  cases e
  exact ⟨i, j, px.vInt, py.vInt, k _ F H [] (Grow.refl s) (fun _ h => nomatch h) (.val (.bl _))⟩
end Mi

set_option Elab.async false
set_option linter.all false
set_option autoImplicit false
set_option maxRecDepth 100000
set_option maxHeartbeats 4000000
namespace Mi
open PySem PySem.Spec PyProof.Rows L2
section
variable {Γ : Gm} {F F' H H' : Hp}
theorem upd_same_new {a : Addr} {u : HO} (n : H a = none) : Same H (upd H a u) := fun b o e => by
  rw [upd_ne (ne_of_none e n)]; exact e
/-- one new cell, frozen -/
theorem Grow.frz1 (s : Same F H) {a : Addr} {u : HO} (n : H a = none) : Grow F H (upd F a u) (upd H a u) := by
  have nF : F a = none := by
    cases e : F a with
    | none => rfl
    | some o => rw [s _ _ e] at n; cases n
  refine ⟨upd_same_new n, upd_same_new nF, fun b o e => ?_, fun b o e => ?_⟩
  · by_cases h : b = a
    · subst h; rw [upd_same] at e ⊢; exact e
    · rw [upd_ne h] at e ⊢; exact s _ _ e
  · by_cases h : b = a
    · subst h; exact .inr n
    · rw [upd_ne h] at e; exact .inl e
/-- one new cell, not frozen -/
theorem Grow.new1 (s : Same F H) {a : Addr} {u : HO} (n : H a = none) : Grow F H F (upd H a u) :=
  ⟨upd_same_new n, Same.refl F, fun b o e => upd_same_new n b o (s b o e), fun _ _ h => .inl h⟩
theorem none_of_same (s : Same F H) {a : Addr} (n : H a = none) : F a = none := by
  cases e : F a with
  | none => rfl
  | some o => rw [s _ _ e] at n; cases n
/-- a new tuple -/
theorem new_tup {p : Addr} {xs : List V} {ds : List D} (s : Same F H) (n : H p = none) (r : RepL Γ F xs ds) : RepO Γ (upd F p (.tup xs)) (upd H p (.tup xs)) (.ref p) (.val (.tup ds)) [] :=
  .val (.tup (SqT.of upd_same) (r.mono (upd_same_new (none_of_same s n))))
/-- a new list, owned -/
theorem new_lst {p : Addr} {xs : List V} {ds : List D} (s : Same F H) (n : H p = none) (r : RepL Γ F xs ds) : RepO Γ F (upd H p (.lst xs)) (.ref p) (.lst ds) [p] :=
  .lst (none_of_same s n) upd_same r
theorem only_new {p : Addr} (n : H p = none) : ∀ b ∈ [p], H b = none := fun b hb => by
  rcases List.mem_singleton.mp hb with rfl
  exact n
theorem no_own : ∀ b ∈ ([] : List Addr), H b = none := fun b hb => nomatch hb
theorem RepL.nil_iff {xs : List V} {ds : List D} (r : RepL Γ F xs ds) : xs = [] ↔ ds = [] := by
  cases r <;> simp
end
section
variable {X : Cx} {c : Addr}
/-! ### + -/
def addD : D → D → Option O
  | .int i, .int j => some (.val (.int (i + j)))
  | .str x, .str y => if x.length + y.length ≤ sizeLine then some (.val (.str (x ++ y))) else none
  | .lst xs, .lst ys => if xs.length + ys.length ≤ sizeLine then some (.lst (xs ++ ys)) else none
  | .tup xs, .tup ys => if xs.length + ys.length ≤ sizeLine then some (.val (.tup (xs ++ ys))) else none
  | _, _ => none
def rAddM (X : Cx) : R2 := fun x y H Q => (rI0 fun i j => .int (i + j)) x y H Q ∨ (fun x y H Q => ∃ i j, x = .str i ∧ y = .str j ∧ i.length + j.length ≤ sizeLine ∧ Q (.str (i ++ j)) H) x y H Q ∨ rCat x y H Q ∨ rCatA X.K x y H Q
theorem op_addM : OpR X (binaryOp .Add) (rAddM X) := op_add.or (op_add_str.or (op_cat.or op_catA))
theorem rule_addM : RuleB X c (rAddM X) addD := fun F H x y dx dy o Q s px py e k => by
  cases dx <;> cases dy <;> try (cases e; done)
  case int.int i j => cases e; exact .inl ⟨i, j, px.vInt, py.vInt, k _ F H [] (Grow.refl s) no_own (.val (.int _))⟩
  case str.str i j =>
    simp only [addD] at e
    split at e
    · rename_i hz; cases e; exact .inr (.inl ⟨i, j, px.vStr, py.vStr, hz, k _ F H [] (Grow.refl s) no_own (.val (.str _))⟩)
    · cases e
  case lst.lst i j =>
    simp only [addD] at e
    split at e
    · rename_i hz; cases e
      obtain ⟨a, xs, rfl, h1, r1⟩ := px.vSeq s
      obtain ⟨b, ys, rfl, h2, r2⟩ := py.vSeq s
      exact .inr (.inr (.inl ⟨a, b, xs, ys, rfl, rfl, h1, h2, by rw [r1.length, r2.length]; exact hz, fun p np => k _ F _ [p] (Grow.new1 s np) (only_new np) (new_lst s np (r1.append r2))⟩))
    · cases e
  case tup.tup i j =>
    simp only [addD] at e
    split at e
    · rename_i hz; cases e
      obtain ⟨a, xs, rfl, h1, r1⟩ := px.vTup s
      obtain ⟨b, ys, rfl, h2, r2⟩ := py.vTup s
      refine .inr (.inr (.inr ⟨a, b, xs, ys, rfl, rfl, h1, h2, by rw [r1.length, r2.length]; exact hz, fun z => ?_, fun _ z => ?_, fun _ _ p np => k _ _ _ [] (Grow.frz1 s np) no_own (new_tup s np (r1.append r2))⟩))
      · have z' := r1.nil_iff.mp z
        subst z'
        cases py with
        | frz r => exact k _ F H [] (Grow.refl s) no_own (.val r)
      · have z' := r2.nil_iff.mp z
        subst z'
        rw [List.append_nil] at k
        cases px with
        | frz r => exact k _ F H [] (Grow.refl s) no_own (.val r)
    · cases e
/-! ### -, *, //, %, **, shifts, & -/
def subD : D → D → Option O := ii (fun _ _ => true) (· - ·)
theorem rule_sub : RuleB X c (rI0 fun i j => .int (i - j)) subD := rule_ii0
def mulI (i j : Int) : Bool := decide (i.natAbs < 2 ^ 64) || decide (j.natAbs < 2 ^ 64)
def mulD : D → D → Option O
  | .int i, .int j => if mulI i j then some (.val (.int (i * j))) else none
  | .lst xs, .int k => if -(2 ^ 63) ≤ k ∧ k < 2 ^ 63 ∧ xs.length * k.toNat ≤ sizeLine then some (.lst (List.replicate k.toNat xs).flatten) else none
  | .tup xs, .int k => if xs ≠ [] ∧ 2 ≤ k ∧ k ≤ 1000 ∧ xs.length ≤ 1000 then some (.val (.tup (List.replicate k.toNat xs).flatten)) else none
  | _, _ => none
theorem mulI_ok {i j : Int} (h : mulI i j = true) : CMul i j := by
  unfold mulI at h
  rw [Bool.or_eq_true, decide_eq_true_eq, decide_eq_true_eq] at h
  unfold CMul
  have e : ((2 : Int) ^ 64) = ((2 ^ 64 : Nat) : Int) := by norm_cast
  rcases h with h | h
  · left; omega
  · right; omega
theorem RepL.rep {Γ : Gm} {F : Hp} {xs : List V} {ds : List D} (h : RepL Γ F xs ds) : ∀ k : Nat, RepL Γ F (List.replicate k xs).flatten (List.replicate k ds).flatten
  | 0 => .nil
  | k + 1 => by rw [List.replicate_succ, List.replicate_succ, List.flatten_cons, List.flatten_cons]; exact h.append (RepL.rep h k)
def rMulM (X : Cx) : R2 := fun x y H Q => (rI CMul fun i j => .int (i * j)) x y H Q ∨ rRep x y H Q ∨ rRepT X.K x y H Q
theorem op_mulM : OpR X (binaryOp .Mult) (rMulM X) := op_mul.or (op_rep.or op_repT)
theorem rule_mulM : RuleB X c (rMulM X) mulD := fun F H x y dx dy o Q s px py e k => by
  cases dx <;> cases dy <;> try (cases e; done)
  case int.int i j =>
    simp only [mulD] at e
    split at e
    · rename_i hz; cases e; exact .inl ⟨i, j, px.vInt, py.vInt, mulI_ok hz, k _ F H [] (Grow.refl s) no_own (.val (.int _))⟩
    · cases e
  case lst.int i j =>
    simp only [mulD] at e
    split at e
    · rename_i hz; cases e
      obtain ⟨a, xs, rfl, h1, r1⟩ := px.vSeq s
      exact .inr (.inl ⟨a, j, xs, rfl, py.vInt, h1, hz.1, hz.2.1, by rw [r1.length]; exact hz.2.2, fun p np => k _ F _ [p] (Grow.new1 s np) (only_new np) (new_lst s np (r1.rep _))⟩)
    · cases e
  case tup.int i j =>
    simp only [mulD] at e
    split at e
    · rename_i hz; cases e
      obtain ⟨a, xs, rfl, h1, r1⟩ := px.vTup s
      exact .inr (.inr ⟨a, j, xs, rfl, py.vInt, h1, fun z => hz.1 (r1.nil_iff.mp z), hz.2.1, hz.2.2.1, by rw [r1.length]; exact hz.2.2.2, fun p np => k _ _ _ [] (Grow.frz1 s np) no_own (new_tup s np (r1.rep _))⟩)
    · cases e
def fdivD : D → D → Option O := ii (fun i j => decide (j ≠ 0) && decide (j.natAbs < 1073741824)) Int.fdiv
theorem rule_fdiv : RuleB X c (rI CDivN fun i j => .int (i.fdiv j)) fdivD := rule_ii fun i j h => by
  simp only [Bool.and_eq_true, decide_eq_true_eq] at h
  exact h
def modD : D → D → Option O := ii (fun _ j => decide (j ≠ 0)) Int.fmod
theorem rule_mod : RuleB X c (rI (fun _ j => j ≠ 0) fun i j => .int (i.fmod j)) modD := rule_ii fun i j h => by simpa using h
def powOk (i j : Int) : Bool := decide (0 ≤ j) && decide (j ≤ 1000000) && decide (i.natAbs < 2 ^ 64)
theorem powOk_ok {i j : Int} (h : powOk i j = true) : CPow i j := by
  unfold powOk at h
  simp only [Bool.and_eq_true, decide_eq_true_eq] at h
  exact ⟨h.1.1, h.1.2, h.2⟩
def powD : D → D → Option O := ii powOk fun i j => i ^ j.toNat
theorem rule_pow : RuleB X c (rI CPow fun i j => .int (i ^ j.toNat)) powD := rule_ii fun _ _ h => powOk_ok h
def shlD : D → D → Option O := ii powOk fun i j => i * 2 ^ j.toNat
theorem rule_shl : RuleB X c (rI CPow fun i j => .int (i * 2 ^ j.toNat)) shlD := rule_ii fun _ _ h => powOk_ok h
def shrD : D → D → Option O := ii (fun _ j => decide (0 ≤ j)) fun i j => i / 2 ^ j.toNat
theorem rule_shr : RuleB X c (rI (fun _ j => 0 ≤ j) fun i j => .int (i / 2 ^ j.toNat)) shrD := rule_ii fun _ _ h => by simpa using h
def andD : D → D → Option O := ii (fun _ _ => true) Builtin.bitAnd
theorem rule_and : RuleB X c (rI0 fun i j => .int (Builtin.bitAnd i j)) andD := rule_ii0
variable {W : WX} {a b : Expr} {ma mb : M RV} {pos : Pos}
theorem pm_add (ha : PM X c W a ma) (hb : PM X c W b mb) : PM X c W (.BinOp a .Add b pos) (mBin addD ma mb) := pm_bin op_addM rule_addM ha hb
theorem pm_sub (ha : PM X c W a ma) (hb : PM X c W b mb) : PM X c W (.BinOp a .Sub b pos) (mBin subD ma mb) := pm_bin op_sub rule_sub ha hb
theorem pm_mul (ha : PM X c W a ma) (hb : PM X c W b mb) : PM X c W (.BinOp a .Mult b pos) (mBin mulD ma mb) := pm_bin op_mulM rule_mulM ha hb
theorem pm_fdiv (ha : PM X c W a ma) (hb : PM X c W b mb) : PM X c W (.BinOp a .FloorDiv b pos) (mBin fdivD ma mb) := pm_bin op_fdivN rule_fdiv ha hb
theorem pm_mod (ha : PM X c W a ma) (hb : PM X c W b mb) : PM X c W (.BinOp a .Mod b pos) (mBin modD ma mb) := pm_bin op_modN rule_mod ha hb
theorem pm_pow (ha : PM X c W a ma) (hb : PM X c W b mb) : PM X c W (.BinOp a .Pow b pos) (mBin powD ma mb) := pm_bin op_pow rule_pow ha hb
theorem pm_shl (ha : PM X c W a ma) (hb : PM X c W b mb) : PM X c W (.BinOp a .LShift b pos) (mBin shlD ma mb) := pm_bin op_shl rule_shl ha hb
theorem pm_shr (ha : PM X c W a ma) (hb : PM X c W b mb) : PM X c W (.BinOp a .RShift b pos) (mBin shrD ma mb) := pm_bin op_shr rule_shr ha hb
theorem pm_and (ha : PM X c W a ma) (hb : PM X c W b mb) : PM X c W (.BinOp a .BitAnd b pos) (mBin andD ma mb) := pm_bin op_and rule_and ha hb
end
end Mi

set_option Elab.async false
set_option linter.all false
set_option autoImplicit false
set_option maxRecDepth 100000
set_option maxHeartbeats 4000000
namespace Mi
open PySem PySem.Spec PyProof.Rows L2

/-! ### equality -/
mutual
def py : D → PyData
  | .non => .none
  | .bl b => .bool b
  | .int i => .int i
  | .str x => .str x
  | .tup xs => .tuple (pyL xs)
  | .lst xs => .list (pyL xs)
  | .dic _ => .dict []
  | .set _ => .dict []
  | .scr _ => .dict []
def pyL : List D → List PyData
  | [] => []
  | x :: xs => py x :: pyL xs
end
mutual
theorem rep_dp {Γ : Gm} {F H : Hp} (s : Same F H) : ∀ {d : D} {v : V}, Rep Γ F v d → (py d).canLay0 = true → Dp Γ.K H v (py d)
  | .non, _, h, _ => by cases h; simp only [py]; exact .non
  | .bl _, _, h, _ => by cases h; simp only [py]; exact .bl _
  | .int _, _, h, _ => by cases h; simp only [py]; exact .int _
  | .str _, _, h, _ => by cases h; simp only [py]; exact .str _
  | .tup ds, _, h, k => by
    cases h with
    | tup a b =>
      simp only [py] at k ⊢
      exact .tup (sqT_mono s a) (repL_dp s b (by simpa only [PyData.canLay0] using k))
  | .lst ds, _, h, k => by
    cases h with
    | lst a b =>
      simp only [py] at k ⊢
      exact .lst (SqL.of (s _ _ a)) (repL_dp s b (by simpa only [PyData.canLay0] using k))
  | .dic _, _, h, k => by simp only [py, PyData.canLay0] at k; cases k
  | .set _, _, h, k => by simp only [py, PyData.canLay0] at k; cases k
  | .scr _, _, h, k => by simp only [py, PyData.canLay0] at k; cases k
theorem repL_dp {Γ : Gm} {F H : Hp} (s : Same F H) : ∀ {ds : List D} {vs : List V}, RepL Γ F vs ds → PyData.canLayAll0 (pyL ds) = true → DpAll Γ.K H vs (pyL ds)
  | [], _, h, _ => by cases h; simp only [pyL]; exact .nil
  | d :: ds, _, h, k => by
    cases h with
    | cons a b =>
      simp only [pyL, PyData.canLayAll0, Bool.and_eq_true] at k ⊢
      exact .cons (rep_dp s a k.1) (repL_dp s b k.2)
end
theorem repP_dp {Γ : Gm} {F H : Hp} (s : Same F H) {d : D} {v : V} (h : RepP Γ F H v d) (k : (py d).canLay0 = true) : Dp Γ.K H v (py d) := by
  cases h with
  | frz r => exact rep_dp s r k
  | lst a b =>
    simp only [py] at k ⊢
    exact .lst (SqL.of a) (repL_dp s b (by simpa only [PyData.canLay0] using k))
  | dic a b => simp only [py, PyData.canLay0] at k; cases k
def okD (d : D) : Bool := SeqAt.shaped (py d)
def eqv (x y : D) : Bool := PyData.eqv (py x) (py y)
def eqD (x y : D) : Option O := if okD x && okD y then some (.val (.bl (eqv x y))) else none
def neD (x y : D) : Option O := if okD x && okD y then some (.val (.bl (!eqv x y))) else none
section
variable {X : Cx} {c : Addr}
theorem rule_eq : RuleB X c (rEqD X.K) eqD := fun F H x y dx dy o Q s px py' e k => by
  unfold eqD at e
  split at e
  · rename_i hc
    rw [Bool.and_eq_true] at hc
    cases e
    exact ⟨py dx, py dy, repP_dp s px (SeqAt.canLay_of_shaped hc.1), repP_dp s py' (SeqAt.canLay_of_shaped hc.2), hc.1, hc.2, k _ F H [] (Grow.refl s) no_own (.val (.bl _))⟩
  · cases e
theorem rule_ne : RuleB X c (rNeD X.K) neD := fun F H x y dx dy o Q s px py' e k => by
  unfold neD at e
  split at e
  · rename_i hc
    rw [Bool.and_eq_true] at hc
    cases e
    exact ⟨py dx, py dy, repP_dp s px (SeqAt.canLay_of_shaped hc.1), repP_dp s py' (SeqAt.canLay_of_shaped hc.2), hc.1, hc.2, k _ F H [] (Grow.refl s) no_own (.val (.bl _))⟩
  · cases e
/-! ### in, not in -/
def flatD : D → Bool
  | .non => true
  | .bl _ => true
  | .int _ => true
  | .str _ => true
  | _ => false
theorem flat_rep {Γ : Gm} {F : Hp} {v : V} {d : D} (h : Rep Γ F v d) (f : flatD d = true) : flatV v = true := by
  cases h <;> first | rfl | cases f
theorem flat_all {Γ : Gm} {F : Hp} : ∀ {ds : List D} {vs : List V}, RepL Γ F vs ds → ds.all flatD = true → vs.all flatV = true
  | [], _, h, _ => by cases h; rfl
  | d :: ds, _, h, k => by
    cases h with
    | cons a b =>
      rw [List.all_cons, Bool.and_eq_true] at k ⊢
      exact ⟨flat_rep a k.1, flat_all b k.2⟩
theorem eqV_rep {Γ : Gm} {F F' : Hp} {v u : V} {d e : D} (h : Rep Γ F v d) (h' : Rep Γ F' u e) (f : flatD d = true) (f' : flatD e = true) : eqV v u = eqv d e := by
  cases h <;> first
    | (cases h' <;> first | rfl | cases f')
    | cases f
theorem inV_rep {Γ : Gm} {F F' : Hp} {u : V} {e : D} (h' : Rep Γ F' u e) (f' : flatD e = true) : ∀ {ds : List D} {vs : List V}, RepL Γ F vs ds → ds.all flatD = true → inV u vs = ds.any fun d => eqv d e
  | [], _, h, _ => by cases h; rfl
  | d :: ds, _, h, k => by
    cases h with
    | cons a b =>
      rw [List.all_cons, Bool.and_eq_true] at k
      show (eqV _ u || inV u _) = (eqv d e || ds.any fun d => eqv d e)
      rw [eqV_rep a h' k.1 f', inV_rep h' f' b k.2]
theorem any_py {e : D} : ∀ ds : List D, ((pyL ds).any fun z => PyData.eqv z (py e)) = ds.any fun d => eqv d e
  | [] => rfl
  | d :: ds => by simp only [pyL, List.any_cons, any_py ds]; rfl
def sgn : Bool → Bool → Bool
  | true, b => !b
  | false, b => b
def inFlat (neg : Bool) : D → D → Option O
  | x, .lst ys => if flatD x && ys.all flatD then some (.val (.bl (sgn neg (ys.any fun y => eqv y x)))) else none
  | x, .tup ys => if flatD x && ys.all flatD then some (.val (.bl (sgn neg (ys.any fun y => eqv y x)))) else none
  | _, _ => none
theorem RepP.flat {Γ : Gm} {F H : Hp} {v : V} {d : D} (h : RepP Γ F H v d) (f : flatD d = true) : Rep Γ F v d := by
  cases h with
  | frz r => exact r
  | lst => cases f
  | dic => cases f
theorem rule_inFlat {neg : Bool} : RuleB X c (rIn X.K neg) (inFlat neg) := fun F H x y dx dy o Q s px py' e k => by
  cases dy <;> try (cases e; done)
  case lst ys =>
    simp only [inFlat] at e
    split at e
    · rename_i hc
      rw [Bool.and_eq_true] at hc
      cases e
      obtain ⟨a, xs, rfl, h1, r1⟩ := py'.vSeq s
      refine ⟨a, xs, rfl, .inl (SqL.of h1), flat_rep (px.flat hc.1) hc.1, flat_all r1 hc.2, ?_⟩
      rw [inV_rep (px.flat hc.1) hc.1 r1 hc.2]
      have := k (.bl (sgn neg (ys.any fun y => eqv y dx))) F H [] (Grow.refl s) no_own (.val (.bl _))
      cases neg <;> exact this
    · cases e
  case tup ys =>
    simp only [inFlat] at e
    split at e
    · rename_i hc
      rw [Bool.and_eq_true] at hc
      cases e
      obtain ⟨a, xs, rfl, h1, r1⟩ := py'.vTup s
      refine ⟨a, xs, rfl, .inr h1, flat_rep (px.flat hc.1) hc.1, flat_all r1 hc.2, ?_⟩
      rw [inV_rep (px.flat hc.1) hc.1 r1 hc.2]
      have := k (.bl (sgn neg (ys.any fun y => eqv y dx))) F H [] (Grow.refl s) no_own (.val (.bl _))
      cases neg <;> exact this
    · cases e
def inDeep (neg : Bool) : D → D → Option O
  | x, .lst ys => if okD x && okD (.lst ys) then some (.val (.bl (sgn neg (ys.any fun y => eqv y x)))) else none
  | _, _ => none
theorem rule_inDeep : RuleB X c (rInD X.K) (inDeep false) := fun F H x y dx dy o Q s px py' e k => by
  cases dy <;> try (cases e; done)
  case lst ys =>
    simp only [inDeep] at e
    split at e
    · rename_i hc
      rw [Bool.and_eq_true] at hc
      cases e
      have h2 := repP_dp s py' (SeqAt.canLay_of_shaped hc.2)
      have sh := hc.2
      unfold okD at sh
      simp only [py] at h2 sh
      exact ⟨py dx, pyL ys, repP_dp s px (SeqAt.canLay_of_shaped hc.1), h2, hc.1, sh, by rw [any_py]; exact k _ F H [] (Grow.refl s) no_own (.val (.bl _))⟩
    · cases e
theorem rule_notInDeep : RuleB X c (rNotInD X.K) (inDeep true) := fun F H x y dx dy o Q s px py' e k => by
  cases dy <;> try (cases e; done)
  case lst ys =>
    simp only [inDeep] at e
    split at e
    · rename_i hc
      rw [Bool.and_eq_true] at hc
      cases e
      have h2 := repP_dp s py' (SeqAt.canLay_of_shaped hc.2)
      have sh := hc.2
      unfold okD at sh
      simp only [py] at h2 sh
      exact ⟨py dx, pyL ys, repP_dp s px (SeqAt.canLay_of_shaped hc.1), h2, hc.1, sh, by rw [any_py]; exact k _ F H [] (Grow.refl s) no_own (.val (.bl _))⟩
    · cases e
def inStr (neg : Bool) : D → D → Option O
  | .str x, .str z => match x.cps.toList with
    | [c] => some (.val (.bl (sgn neg (decide (c ∈ z.cps.toList)))))
    | _ => none
  | _, _ => none
theorem str_one {x : Str} {c : Nat} (h : x.cps.toList = [c]) : x = ⟨#[c]⟩ := by
  obtain ⟨⟨l⟩⟩ := x
  simp only at h
  subst h
  rfl
theorem rule_inStr : RuleB X c (fun x y H Q => ∃ (c : Nat) (z : Str), x = .str ⟨#[c]⟩ ∧ y = .str z ∧ Q (.bl (decide (c ∈ z.cps.toList))) H) (inStr false) := fun F H x y dx dy o Q s px py' e k => by
  cases dx <;> cases dy <;> try (cases e; done)
  rename_i x' z
  simp only [inStr] at e
  split at e
  · rename_i c hc
    cases e
    exact ⟨c, z, by rw [px.vStr, str_one hc], py'.vStr, k _ F H [] (Grow.refl s) no_own (.val (.bl _))⟩
  · cases e
theorem rule_notInStr : RuleB X c (fun x y H Q => ∃ (c : Nat) (z : Str), x = .str ⟨#[c]⟩ ∧ y = .str z ∧ Q (.bl (!decide (c ∈ z.cps.toList))) H) (inStr true) := fun F H x y dx dy o Q s px py' e k => by
  cases dx <;> cases dy <;> try (cases e; done)
  rename_i x' z
  simp only [inStr] at e
  split at e
  · rename_i c hc
    cases e
    exact ⟨c, z, by rw [px.vStr, str_one hc], py'.vStr, k _ F H [] (Grow.refl s) no_own (.val (.bl _))⟩
  · cases e
def inD (neg : Bool) (x y : D) : Option O := (inFlat neg x y).or ((inDeep neg x y).or (inStr neg x y))
/-! ### order -/
def ltD : D → D → Option O := ib fun i j => decide (i < j)
def leD : D → D → Option O := ib fun i j => decide (i ≤ j)
def gtD : D → D → Option O := ib fun i j => decide (j < i)
def geD : D → D → Option O := ib fun i j => decide (j ≤ i)
/-! ### is -/
def isNonD : D → Bool
  | .non => true
  | _ => false
def isN (neg : Bool) : D → D → Option O
  | x, .non => some (.val (.bl (sgn neg (isNonD x))))
  | _, _ => none
theorem rep_non {Γ : Gm} {F H : Hp} {v : V} {d : D} (h : RepP Γ F H v d) : decide (v = .non) = isNonD d := by
  cases h with
  | frz r => cases r <;> simp [isNonD]
  | lst => simp [isNonD]
  | dic => simp [isNonD]
theorem rule_isN : RuleB X c (fun x y H Q => y = .non ∧ Q (.bl (decide (x = .non))) H) (isN false) := fun F H x y dx dy o Q s px py' e k => by
  cases dy <;> try (cases e; done)
  cases e
  refine ⟨py'.vNon, ?_⟩
  rw [rep_non px]
  exact k _ F H [] (Grow.refl s) no_own (.val (.bl _))
theorem rule_notN : RuleB X c (fun x y H Q => y = .non ∧ Q (.bl (!decide (x = .non))) H) (isN true) := fun F H x y dx dy o Q s px py' e k => by
  cases dy <;> try (cases e; done)
  cases e
  refine ⟨py'.vNon, ?_⟩
  rw [rep_non px]
  exact k _ F H [] (Grow.refl s) no_own (.val (.bl _))
def isB (neg : Bool) : D → D → Option O
  | .bl a, .bl b => some (.val (.bl (sgn neg (decide (a = b)))))
  | _, _ => none
theorem rule_isB : RuleB X c rIsB (isB false) := fun F H x y dx dy o Q s px py' e k => by
  cases dx <;> cases dy <;> try (cases e; done)
  cases e
  exact ⟨_, _, px.vBl, py'.vBl, k _ F H [] (Grow.refl s) no_own (.val (.bl _))⟩
theorem rule_notB : RuleB X c rNotB (isB true) := fun F H x y dx dy o Q s px py' e k => by
  cases dx <;> cases dy <;> try (cases e; done)
  cases e
  exact ⟨_, _, px.vBl, py'.vBl, k _ F H [] (Grow.refl s) no_own (.val (.bl _))⟩
def isD (neg : Bool) (x y : D) : Option O := (isN neg x y).or (isB neg x y)
variable {W : WX} {a b d : Expr} {ma mb md : M RV} {pos : Pos}
theorem pm_eq {k : Nat} (hr : Room k X.A) (ha : PM X c W a ma) (hb : PM X c W b mb) : PM X c W (.Compare a [.Eq] [b] pos) (mBin eqD ma mb) := pm_cmp (op_eqD hr.units) rule_eq ha hb (nomark _)
theorem pm_ne {k : Nat} (hr : Room k X.A) (ha : PM X c W a ma) (hb : PM X c W b mb) : PM X c W (.Compare a [.NotEq] [b] pos) (mBin neD ma mb) := pm_cmp (op_neD hr.units) rule_ne ha hb (nomark _)
theorem pm_lt (ha : PM X c W a ma) (hb : PM X c W b mb) : PM X c W (.Compare a [.Lt] [b] pos) (mBin ltD ma mb) := pm_cmp op_lt rule_ib0 ha hb (nomark _)
theorem pm_le (ha : PM X c W a ma) (hb : PM X c W b mb) : PM X c W (.Compare a [.LtE] [b] pos) (mBin leD ma mb) := pm_cmp op_le rule_ib0 ha hb (nomark _)
theorem pm_gt (ha : PM X c W a ma) (hb : PM X c W b mb) : PM X c W (.Compare a [.Gt] [b] pos) (mBin gtD ma mb) := pm_cmp op_gt rule_ib0 ha hb (nomark _)
theorem pm_ge (ha : PM X c W a ma) (hb : PM X c W b mb) : PM X c W (.Compare a [.GtE] [b] pos) (mBin geD ma mb) := pm_cmp op_ge rule_ib0 ha hb (nomark _)
theorem pm_is (ha : PM X c W a ma) (hb : PM X c W b mb) : PM X c W (.Compare a [.Is] [b] pos) (mBin (isD false) ma mb) := pm_cmp (op_isN.or op_isBl) (rule_isN.or rule_isB) ha hb (nomark _)
theorem pm_isNot (ha : PM X c W a ma) (hb : PM X c W b mb) : PM X c W (.Compare a [.IsNot] [b] pos) (mBin (isD true) ma mb) := pm_cmp (op_notN.or op_notBl) (rule_notN.or rule_notB) ha hb (nomark _)
theorem units65 {k : Nat} (hr : Room k X.A) : X.A.units + 65 < cLine := by have := hr.un; omega
theorem pm_in {k : Nat} (hr : Room k X.A) (ha : PM X c W a ma) (hb : PM X c W b mb) (hm : behindInMarks .In b = false := by rfl) : PM X c W (.Compare a [.In] [b] pos) (mBin (inD false) ma mb) :=
  pm_cmp (op_in_seq.or ((op_inD (units65 hr)).or op_in_sign)) (rule_inFlat.or (rule_inDeep.or rule_inStr)) ha hb hm
theorem pm_notIn {k : Nat} (hr : Room k X.A) (ha : PM X c W a ma) (hb : PM X c W b mb) (hm : behindInMarks .NotIn b = false := by rfl) : PM X c W (.Compare a [.NotIn] [b] pos) (mBin (inD true) ma mb) :=
  pm_cmp (op_notIn_seq.or ((op_notInD (units65 hr)).or op_notIn_sign)) (rule_inFlat.or (rule_notInDeep.or rule_notInStr)) ha hb hm
theorem units65' {k : Nat} (hr : Room k X.A) : X.A.units + 65 < cLine := by have := hr.un; omega
end
end Mi

set_option Elab.async false
set_option linter.all false
set_option autoImplicit false
set_option maxRecDepth 100000
set_option maxHeartbeats 4000000
namespace Mi
open PySem PySem.Spec PyProof.Rows L2

/-! ### tests -/
def boolD : D → Option Bool
  | .bl b => some b
  | _ => none
def mTst (m : M RV) : M Bool := M.bind m fun r => M.bind (peek r) fun d => M.of (boolD d)
def WM (X : Cx) (c : Addr) (W : WX) (e : Expr) (m : M Bool) : Prop := PW X e (tMT (gm X c) W m)
theorem PW.imp {X : Cx} {e : Expr} {t t' : TT} (h : PW X e t) (k : ∀ σ H Q, t' σ H Q → t σ H Q) : PW X e t' := ⟨fun wh pins s σ H Q I q => h.run wh pins s σ H Q I (k σ H Q q)⟩
def mAnd (a b : M Bool) : M Bool := M.bind a fun x => if x = true then b else M.pure false
def mOr (a b : M Bool) : M Bool := M.bind a fun x => if x = true then M.pure true else b
def mNot (a : M Bool) : M Bool := M.bind a fun x => M.pure (!x)
def mIf (t : M Bool) (a b : M RV) : M RV := M.bind t fun x => if x = true then a else b
def mAndV (a b : M RV) : M RV := M.bind a fun r => M.bind (peek r) fun d => M.bind (M.of (boolD d)) fun x => if x = true then b else mC (.bl false)
def mOrV (a b : M RV) : M RV := M.bind a fun r => M.bind (peek r) fun d => M.bind (M.of (boolD d)) fun x => if x = true then mC (.bl true) else b
def mNotV (a : M RV) : M RV := M.bind a fun r => M.bind (peek r) fun d => M.bind (M.of (boolD d)) fun x => mC (.bl (!x))
section
variable {X : Cx} {c : Addr} {W : WX} {e a b t : Expr} {rest : List Expr} {m ma mb : M RV} {ta tb : M Bool} {pos : Pos}
theorem boolD_rep {Γ : Gm} {F H : Hp} {v : V} {d : D} {b : Bool} (h : RepP Γ F H v d) (e : boolD d = some b) : v = .bl b := by
  cases d <;> simp only [boolD] at e <;> try (cases e; done)
  cases e; exact h.vBl
theorem tm_val (h : PM X c W e m) (he : ∀ whole, isTrue e X.env whole = (do let v ← whole; standAt e.pos; holding [v] (truthy v)) := by intro _; rfl) : TM X c W e (mTst m) := by
  refine PT.imp (pt_val h he) fun σ H Q ⟨F, ρ, As, S, w⟩ => ?_
  refine tM_seq S w (fun _ _ q => q) fun r ρ1 F1 H1 v1 As1 B1 w1 S1 T1 f1 R1 => ?_
  obtain ⟨d, p, w2⟩ := peek_ok S1 R1 w1
  obtain ⟨b, eb, w3⟩ := wpR_of w2
  exact ⟨b, boolD_rep p eb, w3 F1 H1 As1 S1 T1⟩
theorem tm_cmpv {op : CmpOp} (h : PM X c W (.Compare a [op] [b] pos) m) : PM X c W (.Compare a [op] [b] pos) m := h
theorem tm_of (h : WM X c W e ta) : TM X c W e ta := h.pt
theorem tM_and {σ : Sl} {H : Hp} {Q : Bool → Hp → Prop} (h : tMT (gm X c) W (mAnd ta tb) σ H Q) : tAnd (tMT (gm X c) W ta) (tMT (gm X c) W tb) σ H Q := by
  obtain ⟨F, ρ, As, S, w⟩ := h
  refine tMT_seq S w (fun _ _ q => q) fun x ρ1 F1 H1 As1 w1 S1 T1 => ?_
  cases x with
  | true =>
    rw [if_pos rfl] at w1 ⊢
    exact ⟨F1, ρ1, As1, S1, wpR_mono w1 (fun _ _ q => q.tr T1) fun _ _ q => q.tr T1⟩
  | false =>
    rw [if_neg (by simp)] at w1 ⊢
    exact w1 F1 H1 As1 S1 T1
theorem tM_or {σ : Sl} {H : Hp} {Q : Bool → Hp → Prop} (h : tMT (gm X c) W (mOr ta tb) σ H Q) : tOr (tMT (gm X c) W ta) (tMT (gm X c) W tb) σ H Q := by
  obtain ⟨F, ρ, As, S, w⟩ := h
  refine tMT_seq S w (fun _ _ q => q) fun x ρ1 F1 H1 As1 w1 S1 T1 => ?_
  cases x with
  | false =>
    rw [if_neg (by simp)] at w1 ⊢
    exact ⟨F1, ρ1, As1, S1, wpR_mono w1 (fun _ _ q => q.tr T1) fun _ _ q => q.tr T1⟩
  | true =>
    rw [if_pos rfl] at w1 ⊢
    exact w1 F1 H1 As1 S1 T1
theorem wm_and1 (h : TM X c W a ta) : WM X c W (.BoolOp .And [a] pos) ta := pw_and1 h
theorem wm_or1 (h : TM X c W a ta) : WM X c W (.BoolOp .Or [a] pos) ta := pw_or1 h
theorem wm_and (ha : TM X c W a ta) (hb : WM X c W (.BoolOp .And (b :: rest) pos) tb) : WM X c W (.BoolOp .And (a :: b :: rest) pos) (mAnd ta tb) := PW.imp (pw_and ha hb) fun _ _ _ h => tM_and h
theorem wm_or (ha : TM X c W a ta) (hb : WM X c W (.BoolOp .Or (b :: rest) pos) tb) : WM X c W (.BoolOp .Or (a :: b :: rest) pos) (mOr ta tb) := PW.imp (pw_or ha hb) fun _ _ _ h => tM_or h
theorem tm_not (h : TM X c W a ta) : TM X c W (.UnaryOp .Not a pos) (mNot ta) := PT.imp (pt_not h) fun σ H Q ⟨F, ρ, As, S, w⟩ => by
  refine tMT_seq S w (fun _ _ q => q) fun x ρ1 F1 H1 As1 w1 S1 T1 => ?_
  exact w1 F1 H1 As1 S1 T1
theorem pm_ifExp (ht : TM X c W t ta) (ha : PM X c W a ma) (hb : PM X c W b mb) : PM X c W (.IfExp t a b pos) (mIf ta ma mb) := PE.imp (pe_ifExp ht ha hb) fun σ H Q ⟨F, ρ, As, S, w⟩ => by
  refine tMT_seq S w (fun _ _ q => q) fun x ρ1 F1 H1 As1 w1 S1 T1 => ?_
  cases x with
  | true =>
    rw [if_pos rfl] at w1 ⊢
    exact ⟨F1, ρ1, As1, S1, wpR_mono w1 (fun _ _ q => q.tr T1) fun _ _ q => q.tr T1⟩
  | false =>
    rw [if_neg (by simp)] at w1 ⊢
    exact ⟨F1, ρ1, As1, S1, wpR_mono w1 (fun _ _ q => q.tr T1) fun _ _ q => q.tr T1⟩
theorem pm_one {op} (h : PM X c W a m) : PM X c W (.BoolOp op [a] pos) m := pe_one h
theorem pm_andV (ha : PM X c W a ma) (hb : PM X c W (.BoolOp .And (b :: rest) pos) mb) : PM X c W (.BoolOp .And (a :: b :: rest) pos) (mAndV ma mb) := PE.imp (pe_and ha hb) fun σ H Q ⟨F, ρ, As, S, w⟩ => by
  refine tM_seq S w (fun _ _ q => q) fun r ρ1 F1 H1 v1 As1 B1 w1 S1 T1 f1 R1 => ?_
  obtain ⟨d, p, w2⟩ := peek_ok S1 R1 w1
  obtain ⟨x, eb, w3⟩ := wpR_of (wpR_bind w2)
  refine ⟨x, boolD_rep p eb, ?_⟩
  cases x with
  | true =>
    rw [if_pos rfl] at w3 ⊢
    exact ⟨F1, ρ1, As1, S1, wpR_mono w3 (fun _ _ q => q.tr T1) fun _ _ q => q.tr T1⟩
  | false =>
    rw [if_neg (by simp)] at w3 ⊢
    exact w3 F1 H1 _ As1 [] S1 T1 Fr.nil (.o (.val (.bl _)) fun _ h => nomatch h)
theorem pm_orV (ha : PM X c W a ma) (hb : PM X c W (.BoolOp .Or (b :: rest) pos) mb) : PM X c W (.BoolOp .Or (a :: b :: rest) pos) (mOrV ma mb) := PE.imp (pe_or ha hb) fun σ H Q ⟨F, ρ, As, S, w⟩ => by
  refine tM_seq S w (fun _ _ q => q) fun r ρ1 F1 H1 v1 As1 B1 w1 S1 T1 f1 R1 => ?_
  obtain ⟨d, p, w2⟩ := peek_ok S1 R1 w1
  obtain ⟨x, eb, w3⟩ := wpR_of (wpR_bind w2)
  refine ⟨x, boolD_rep p eb, ?_⟩
  cases x with
  | false =>
    rw [if_neg (by simp)] at w3 ⊢
    exact ⟨F1, ρ1, As1, S1, wpR_mono w3 (fun _ _ q => q.tr T1) fun _ _ q => q.tr T1⟩
  | true =>
    rw [if_pos rfl] at w3 ⊢
    exact w3 F1 H1 _ As1 [] S1 T1 Fr.nil (.o (.val (.bl _)) fun _ h => nomatch h)
theorem pm_notV (ha : PM X c W a ma) : PM X c W (.UnaryOp .Not a pos) (mNotV ma) := PE.imp (pe_not ha) fun σ H Q ⟨F, ρ, As, S, w⟩ => by
  refine tM_seq S w (fun _ _ q => q) fun r ρ1 F1 H1 v1 As1 B1 w1 S1 T1 f1 R1 => ?_
  obtain ⟨d, p, w2⟩ := peek_ok S1 R1 w1
  obtain ⟨x, eb, w3⟩ := wpR_of (wpR_bind w2)
  exact ⟨x, boolD_rep p eb, w3 F1 H1 _ As1 [] S1 T1 Fr.nil (.o (.val (.bl _)) fun _ h => nomatch h)⟩
/-! ### chains -/
def mChain (f g : D → D → Option Bool) (a b d : M RV) : M RV := M.bind a fun ra => M.bind b fun rb => M.bind (peek ra) fun x => M.bind (peek rb) fun y => M.bind (M.of (f x y)) fun k =>
  if k = true then M.bind d fun rd => M.bind (peek rb) fun y => M.bind (peek rd) fun z => M.bind (M.of (g y z)) fun k' => mC (.bl k') else mC (.bl false)
def iiB (f : Int → Int → Bool) : D → D → Option Bool
  | .int i, .int j => some (f i j)
  | _, _ => none
def ltB := iiB fun i j => decide (i < j)
def leB := iiB fun i j => decide (i ≤ j)
theorem iiB_rep {Γ : Gm} {F H F' H' : Hp} {x y : V} {dx dy : D} {f : Int → Int → Bool} {k : Bool} (px : RepP Γ F H x dx) (p' : RepP Γ F' H' y dy) (e : iiB f dx dy = some k) : ∃ i j, x = .int i ∧ y = .int j ∧ k = f i j := by
  cases dx <;> cases dy <;> try (cases e; done)
  cases e
  exact ⟨_, _, px.vInt, p'.vInt, rfl⟩
theorem pm_chain {d : Expr} {md : M RV} {op op' : CmpOp} {f g : Int → Int → Bool} (ho : OpR X (compareOp op) (rI0 fun i j => .bl (f i j))) (ho' : OpR X (compareOp op') (rI0 fun i j => .bl (g i j))) (ha : PM X c W a ma) (hb : PM X c W b mb) (hd : PM X c W d md) (hm : lastMarks [op, op'] [b, d] = false := by with_unfolding_all rfl) :
    PM X c W (.Compare a [op, op'] [b, d] pos) (mChain (iiB f) (iiB g) ma mb md) := PE.imp (pe_chain ho ho' ha hb hd hm) fun σ H Q ⟨F, ρ, As, S, w⟩ => by
  refine tM_seq S w (fun _ _ q => q) fun ra ρ1 F1 H1 v1 As1 B1 w1 S1 T1 f1 R1 => ?_
  refine tM_seq S1 w1 (fun _ _ q => q.tr T1) fun rb ρ2 F2 H2 v2 As2 B2 w2 S2 T2 f2 R2 => ?_
  obtain ⟨dx, px, w3⟩ := peek_ok S2 (R1.tr T2) w2
  obtain ⟨dy, p2, w4⟩ := peek_ok S2 R2 w3
  obtain ⟨k, ek, w5⟩ := wpR_of (wpR_bind w4)
  obtain ⟨i, j, rfl, rfl, rfl⟩ := iiB_rep px p2 ek
  refine ⟨i, j, rfl, rfl, _, rfl, ?_⟩
  cases hk : f i j with
  | false =>
    rw [hk, if_neg (by simp)] at w5
    rw [if_neg (by simp)]
    exact w5 F2 H2 _ As2 [] S2 (T1.trans T2) Fr.nil (.o (.val (.bl _)) fun _ h => nomatch h)
  | true =>
    rw [hk, if_pos rfl] at w5
    rw [if_pos rfl]
    refine tM_seq S2 w5 (fun _ _ q => q.tr (T1.trans T2)) fun rd ρ3 F3 H3 v3 As3 B3 w6 S3 T3 f3 R3 => ?_
    obtain ⟨dy', py', w7⟩ := peek_ok S3 (R2.tr T3) w6
    obtain ⟨dz, pz, w8⟩ := peek_ok S3 R3 w7
    obtain ⟨k', ek', w9⟩ := wpR_of (wpR_bind w8)
    obtain ⟨i', j', e1, rfl, rfl⟩ := iiB_rep py' pz ek'
    cases e1
    exact ⟨_, _, rfl, rfl, w9 F3 H3 _ As3 [] S3 ((T1.trans T2).trans T3) Fr.nil (.o (.val (.bl _)) fun _ h => nomatch h)⟩
end

/-! ### arguments, displays -/
def pA (Γ : Gm) (F H : Hp) (σ : Sl) (As : Own) (Q : List V → Hp → Prop) : List D → Env → Prop := fun ds ρ' =>
  ∀ F' H' vs As', Sta Γ F' H' σ ρ' As' → Tr F H As F' H' As' → RepL Γ F' vs ds → Q vs H'
def tMA (Γ : Gm) (W : WX) (m : M (List D)) : TA := fun σ H Q => ∃ F ρ As, Sta Γ F H σ ρ As ∧ wpR (m ρ) (pA Γ F H σ As Q) (pX Γ W F H σ As)
def AM (X : Cx) (c : Addr) (W : WX) (es : List Expr) (m : M (List D)) : Prop := PA X es (tMA (gm X c) W m)
theorem PA.imp {X : Cx} {es : List Expr} {t t' : TA} (h : PA X es t) (k : ∀ σ H Q, t' σ H Q → t σ H Q) : PA X es t' := ⟨fun p pins s σ H Q I q => h.run p pins s σ H Q I (k σ H Q q)⟩
def mNil : M (List D) := M.pure []
def mCons (m : M RV) (ms : M (List D)) : M (List D) := M.bind m fun r => M.bind (toD r) fun d => M.bind ms fun ds => M.pure (d :: ds)
section
variable {X : Cx} {c : Addr} {W : WX} {e : Expr} {es : List Expr} {m : M RV} {ms : M (List D)} {pos : Pos}
theorem pA.tr {Γ : Gm} {F F1 H H1 : Hp} {As As1 : Own} {σ : Sl} (t : Tr F H As F1 H1 As1) {Q : List V → Hp → Prop} {r : List D} {ρ : Env} (h : pA Γ F H σ As Q r ρ) : pA Γ F1 H1 σ As1 Q r ρ := fun F' H' vs As' s t' r => h F' H' vs As' s (t.trans t') r
theorem am_nil : AM X c W [] mNil := PA.imp pa_nil fun σ H Q ⟨F, ρ, As, S, w⟩ => w F H [] As S Tr.refl .nil
theorem am_cons (h : PM X c W e m) (hs : AM X c W es ms) (he : starEach (e :: es) X.env = (false, eval e X.env) :: starEach es X.env := by rfl) : AM X c W (e :: es) (mCons m ms) := PA.imp (pa_cons h hs he) fun σ H Q ⟨F, ρ, As, S, w⟩ => by
  refine tM_seq S w (fun _ _ q => q) fun r ρ1 F1 H1 v1 As1 B1 w1 S1 T1 f1 R1 => ?_
  obtain ⟨d, ρ2, F2, As2, r2, S2, T2, w2⟩ := toD_ok S1 T1 f1 R1 w1
  refine ⟨F2, ρ2, As2, S2, wpR_mono (wpR_bind w2) (fun ds ρ3 w3 F3 H3 vs As3 S3 T3 rs => ?_) fun x ρ3 q => q.tr T2⟩
  exact w3 F3 H3 (v1 :: vs) As3 S3 (T2.trans T3) (.cons (r2.mono T3.ext) rs)
def mTup (ms : M (List D)) : M RV := M.bind ms fun ds => if ds.length ≤ sizeLine then M.pure (.o (.val (.tup ds))) else M.stuck
def mLst (ms : M (List D)) : M RV := M.bind ms fun ds => if ds.length ≤ sizeLine then M.pure (.o (.lst ds)) else M.stuck
theorem wpR_ite {α : Type} {p : Prop} [Decidable p] {m : M α} {ρ : Env} {post : α → Env → Prop} {xp : Ex → Env → Prop} (h : wpR ((if p then m else M.stuck) ρ) post xp) : p ∧ wpR (m ρ) post xp := by
  by_cases q : p
  · rw [if_pos q] at h; exact ⟨q, h⟩
  · rw [if_neg q] at h; exact h.elim
theorem pm_tup {x1} (hs : AM X c W es ms) : PM X c W (.Tuple es x1 pos) (mTup ms) := PE.imp (pe_tup hs) fun σ H Q ⟨F, ρ, As, S, w⟩ => by
  refine ⟨F, ρ, As, S, wpR_mono (wpR_bind w) (fun ds ρ1 w1 F1 H1 vs As1 S1 T1 rs => ?_) fun _ _ q => q⟩
  obtain ⟨hl, w2⟩ := wpR_ite w1
  exact ⟨by rw [rs.length]; exact hl, fun p np => pE_new S1 T1 w2 (Grow.frz1 S1.sub np) no_own (new_tup S1.sub np rs)⟩
theorem pm_lst (hs : AM X c W es ms) : PM X c W (.List es pos) (mLst ms) := PE.imp (pe_lst hs) fun σ H Q ⟨F, ρ, As, S, w⟩ => by
  refine ⟨F, ρ, As, S, wpR_mono (wpR_bind w) (fun ds ρ1 w1 F1 H1 vs As1 S1 T1 rs => ?_) fun _ _ q => q⟩
  obtain ⟨hl, w2⟩ := wpR_ite w1
  exact ⟨by rw [rs.length]; exact hl, fun p np => pE_new S1 T1 w2 (Grow.new1 S1.sub np) (only_new np) (new_lst S1.sub np rs)⟩
end

/-! ### items, slices -/
def atD (xs : List D) (i : Int) : Option D := atI xs i
def ixL : D → D → Option O
  | .lst xs, .int i => (atI xs i).map O.val
  | .scr xs, .int i => (atI xs i).map O.val
  | _, _ => none
def ixT : D → D → Option O
  | .tup xs, .int i => (atI xs i).map O.val
  | _, _ => none
def ixS : D → D → Option O
  | .str z, .int i => if z.length ≤ sizeLine then (atI z.cps.toList i).map fun c => O.val (.str ⟨#[c]⟩) else none
  | _, _ => none
theorem atI_rep {Γ : Gm} {F : Hp} {xs : List V} {ds : List D} {i : Int} {d : D} (r : RepL Γ F xs ds) (e : atI ds i = some d) : ∃ v, atI xs i = some v ∧ Rep Γ F v d := by
  unfold atI at e ⊢
  rw [r.length]
  cases q : ixN ds.length i with
  | none => rw [q] at e; cases e
  | some j => rw [q] at e; exact r.get e
section
variable {X : Cx} {c : Addr} {W : WX} {a b : Expr} {ma mb : M RV} {pos : Pos}
theorem rule_ixL : RuleB X c (rIxL X.K) ixL := fun F H x y dx dy o Q s px p' e k => by
  cases dx <;> cases dy <;> try (cases e; done)
  case lst.int ds i =>
    simp only [ixL, Option.map_eq_some_iff] at e
    obtain ⟨d, e, rfl⟩ := e
    obtain ⟨q, xs, rfl, h1, r1⟩ := px.vSeq s
    obtain ⟨v, ev, rv⟩ := atI_rep r1 e
    exact ⟨q, xs, i, v, rfl, p'.vInt, SqL.of h1, ev, k _ F H [] (Grow.refl s) no_own (.val rv)⟩
  case scr.int ds i =>
    simp only [ixL, Option.map_eq_some_iff] at e
    obtain ⟨d, e, rfl⟩ := e
    obtain ⟨q, xs, rfl, h1, r1⟩ := px.vScr s
    obtain ⟨v, ev, rv⟩ := atI_rep r1 e
    exact ⟨q, xs, i, v, rfl, p'.vInt, h1, ev, k _ F H [] (Grow.refl s) no_own (.val rv)⟩
theorem rule_ixT : RuleB X c (rIxT X.K) ixT := fun F H x y dx dy o Q s px p' e k => by
  cases dx <;> cases dy <;> try (cases e; done)
  case tup.int ds i =>
    simp only [ixT, Option.map_eq_some_iff] at e
    obtain ⟨d, e, rfl⟩ := e
    obtain ⟨q, xs, rfl, h1, r1⟩ := px.vTup s
    obtain ⟨v, ev, rv⟩ := atI_rep r1 e
    exact ⟨q, xs, i, v, rfl, p'.vInt, h1, ev, k _ F H [] (Grow.refl s) no_own (.val rv)⟩
theorem rule_ixS : RuleB X c rIxS ixS := fun F H x y dx dy o Q s px p' e k => by
  cases dx <;> cases dy <;> try (cases e; done)
  case str.int z i =>
    simp only [ixS] at e
    split at e
    · rename_i hz
      rw [Option.map_eq_some_iff] at e
      obtain ⟨ch, e, rfl⟩ := e
      exact ⟨z, i, ch, px.vStr, p'.vInt, hz, e, k _ F H [] (Grow.refl s) no_own (.val (.str _))⟩
    · cases e
/-- dicts -/
def keyD : D → Option Key
  | .int i => some (.inl i)
  | .str x => some (.inr x)
  | _ => none
def lookD (kvs : List (Key × D)) (k : Key) : Option D := (kvs.find? fun kv => decide (kv.1 = k)).map (·.2)
def ixK : D → D → Option O
  | .dic kvs, k => (keyD k).bind fun k => (lookD kvs k).map O.val
  | _, _ => none
theorem keyD_rep {Γ : Gm} {F H : Hp} {v : V} {d : D} {k : Key} (h : RepP Γ F H v d) (e : keyD d = some k) : v = kV k := by
  cases d <;> simp only [keyD] at e <;> try (cases e; done)
  · cases e; exact h.vInt
  · cases e; exact h.vStr
theorem lookD_rep {Γ : Gm} {F : Hp} {k : Key} : ∀ {ds : List (Key × D)} {kvs : List (Key × V)}, RepK Γ F kvs ds → (∀ d, lookD ds k = some d → ∃ v, valV kvs k = some v ∧ Rep Γ F v d) ∧ (lookD ds k = none → valV kvs k = none)
  | [], _, h => by cases h; exact ⟨fun d e => by simp [lookD] at e, fun _ => rfl⟩
  | (k', d') :: ds, _, h => by
    cases h with
    | cons a b =>
      have ih := lookD_rep (k := k) b
      unfold lookD valV at *
      by_cases hk : k' = k
      · subst hk
        simp only [List.find?_cons, decide_true, Option.map_some]
        exact ⟨fun d e => ⟨_, rfl, by cases e; exact a⟩, fun e => by cases e⟩
      · simp only [List.find?_cons, decide_eq_false hk]
        exact ih
def ixD (x y : D) : Option O := (ixL x y).or ((ixT x y).or (ixS x y))
theorem pm_idx (ha : PM X c W a ma) (hb : PM X c W b mb) (hs : PlainIx b := by intro _ _; rfl) : PM X c W (.Subscript a b pos) (mBin ixD ma mb) := pm_ix ix_seq (rule_ixL.or (rule_ixT.or rule_ixS)) ha hb hs
/-- d[k], d a dict -/
theorem pm_dget {k : Nat} (hr : Room k X.A) (ha : PM X c W a ma) (hb : PM X c W b mb) (hs : NoSl b := by intro _ _; rfl) : PM X c W (.Subscript a b pos) (mBin ixK ma mb) := PE.imp (pe_dget (by have := hr.un; omega) ha hb hs) fun σ H Q ⟨F, ρ, As, S, w⟩ => by
  refine tM_seq S w (fun _ _ q => q) fun ra ρ1 F1 H1 v1 As1 B1 w1 S1 T1 f1 R1 => ?_
  refine tM_seq S1 w1 (fun _ _ q => q.tr T1) fun rb ρ2 F2 H2 v2 As2 B2 w2 S2 T2 f2 R2 => ?_
  obtain ⟨dx, px, w3⟩ := peek_ok S2 (R1.tr T2) w2
  obtain ⟨dy, p2, w4⟩ := peek_ok S2 R2 w3
  obtain ⟨o, e, w5⟩ := wpR_of w4
  cases dx <;> try (simp only [ixK, Option.map_none] at e; cases e; done)
  rename_i kvs
  simp only [ixK] at e
  cases ek : keyD dy with
  | none => rw [ek] at e; simp at e
  | some k =>
    rw [ek] at e
    simp only [Option.bind_some, Option.map_map, Option.map_eq_some_iff] at e
    obtain ⟨d, el, rfl⟩ := e
    obtain ⟨q, ks, rfl, h1, r1⟩ := px.vDic S2.sub
    obtain ⟨v, ev, rv⟩ := (lookD_rep r1).1 d el
    refine ⟨q, v, rfl, ?_, w5 F2 H2 v As2 [] S2 (T1.trans T2) Fr.nil (.o (.val rv) fun _ h => nomatch h)⟩
    rw [keyD_rep p2 ek, ← ev]
    exact DGet.k h1
end
end Mi

set_option Elab.async false
set_option linter.all false
set_option autoImplicit false
set_option maxRecDepth 100000
set_option maxHeartbeats 4000000
namespace Mi
open PySem PySem.Spec PyProof.Rows L2

/-! ### slices -/
def pO (Γ : Gm) (F H : Hp) (σ : Sl) (As : Own) (Q : Option Int → Hp → Prop) : Option Int → Env → Prop := fun o ρ' =>
  ∀ F' H' As', Sta Γ F' H' σ ρ' As' → Tr F H As F' H' As' → Q o H'
def tMO (Γ : Gm) (W : WX) (m : M (Option Int)) : TO := fun σ H Q => ∃ F ρ As, Sta Γ F H σ ρ As ∧ wpR (m ρ) (pO Γ F H σ As Q) (pX Γ W F H σ As)
def OM (X : Cx) (c : Addr) (W : WX) (e : Option Expr) (m : M (Option Int)) : Prop := PO X e (tMO (gm X c) W m)
theorem PO.imp {X : Cx} {e : Option Expr} {t t' : TO} (h : PO X e t) (k : ∀ σ H Q, t' σ H Q → t σ H Q) : PO X e t' := ⟨fun pins s σ H Q I q => h.run pins s σ H Q I (k σ H Q q)⟩
def intD : D → Option Int
  | .int i => some i
  | _ => none
def mNo : M (Option Int) := M.pure none
def mPart (m : M RV) : M (Option Int) := M.bind m fun r => M.bind (peek r) fun d => M.bind (M.of (intD d)) fun i => M.pure (some i)
def cutD {α : Type} (xs : List α) (lo hi : Option Int) : List α := (xs.drop (HT.sIx xs.length 0 lo)).take (HT.sIx xs.length xs.length hi - HT.sIx xs.length 0 lo)
def slD (d : D) (lo hi : Option Int) : Option O := match d with
  | .lst xs => some (.lst (cutD xs lo hi))
  | .scr xs => some (.lst (cutD xs lo hi))
  | .tup xs => some (.val (.tup (cutD xs lo hi)))
  | .str z => if z.length ≤ sizeLine then some (.val (.str (cutS z lo hi))) else none
  | _ => none
def mSl (m : M RV) (lo hi : M (Option Int)) : M RV := M.bind m fun r => M.bind lo fun l => M.bind hi fun h => M.bind (peek r) fun d => M.of ((slD d l h).map RV.o)
def rSlM (X : Cx) : V → Option Int → Option Int → Hp → VK → Prop := fun x lo hi H Q => rSlL X.K x lo hi H Q ∨ rSlA X.K x lo hi H Q ∨ rSlS x lo hi H Q
theorem sl_all (X : Cx) : SlR X (rSlM X) := sl_list.or (sl_tupA.or sl_str)
section
variable {X : Cx} {c : Addr} {W : WX} {e : Expr} {m : M RV} {lo hi : Option Expr} {ml mh : M (Option Int)} {pos p2 : Pos}
theorem pO.tr {Γ : Gm} {F F1 H H1 : Hp} {As As1 : Own} {σ : Sl} (t : Tr F H As F1 H1 As1) {Q : Option Int → Hp → Prop} {r : Option Int} {ρ : Env} (h : pO Γ F H σ As Q r ρ) : pO Γ F1 H1 σ As1 Q r ρ := fun F' H' As' s t' => h F' H' As' s (t.trans t')
theorem om_none : OM X c W none mNo := PO.imp po_none fun σ H Q ⟨F, ρ, As, S, w⟩ => w F H As S Tr.refl
theorem intD_rep {Γ : Gm} {F H : Hp} {v : V} {d : D} {i : Int} (h : RepP Γ F H v d) (e : intD d = some i) : v = .int i := by
  cases d <;> simp only [intD] at e <;> try (cases e; done)
  cases e; exact h.vInt
theorem om_some (h : PM X c W e m) : OM X c W (some e) (mPart m) := PO.imp (po_some h) fun σ H Q ⟨F, ρ, As, S, w⟩ => by
  refine tM_seq S w (fun _ _ q => q) fun r ρ1 F1 H1 v1 As1 B1 w1 S1 T1 f1 R1 => ?_
  obtain ⟨d, p, w2⟩ := peek_ok S1 R1 w1
  obtain ⟨i, ei, w3⟩ := wpR_of (wpR_bind w2)
  exact ⟨i, intD_rep p ei, w3 F1 H1 As1 S1 T1⟩
theorem tMO_seq {Γ : Gm} {F H : Hp} {As : Own} {σ : Sl} {α : Type} {m : M (Option Int)} {f : Option Int → M α} {ρ : Env} {post : α → Env → Prop} {xp : Ex → Env → Prop} {Q' : Option Int → Hp → Prop} (S : Sta Γ F H σ ρ As) (h : wpR (M.bind m f ρ) post xp) (hx : ∀ x ρ, xp x ρ → pX Γ W F H σ As x ρ)
    (k : ∀ b ρ1 F1 H1 As1, wpR (f b ρ1) post xp → Sta Γ F1 H1 σ ρ1 As1 → Tr F H As F1 H1 As1 → Q' b H1) : tMO Γ W m σ H Q' :=
  ⟨F, ρ, As, S, wpR_mono (wpR_bind h) (fun b ρ1 hw F1 H1 As1 S1 T1 => k b ρ1 F1 H1 As1 hw S1 T1) fun x ρ1 q => hx x ρ1 q⟩
theorem cut_rep {Γ : Gm} {F : Hp} {xs : List V} {ds : List D} {lo hi : Option Int} (r : RepL Γ F xs ds) : RepL Γ F (cutV xs lo hi) (cutD ds lo hi) := by
  unfold cutV cutD
  rw [r.length]
  exact (r.drop _).take _
theorem cut_whole {α : Type} {xs : List α} {lo hi : Option Int} (h : HT.sIx xs.length 0 lo = 0 ∧ HT.sIx xs.length xs.length hi = xs.length) : cutD xs lo hi = xs := by
  unfold cutD
  rw [h.1, h.2]
  simp
theorem pm_slice (he : PM X c W e m) (hl : OM X c W lo ml) (hu : OM X c W hi mh) : PM X c W (.Subscript e (.Slice lo hi none p2) pos) (mSl m ml mh) := PE.imp (pe_slice (sl_all X) he hl hu) fun σ H Q ⟨F, ρ, As, S, w⟩ => by
  refine tM_seq S w (fun _ _ q => q) fun r ρ1 F1 H1 v1 As1 B1 w1 S1 T1 f1 R1 => ?_
  refine tMO_seq S1 w1 (fun _ _ q => q.tr T1) fun l ρ2 F2 H2 As2 w2 S2 T2 => ?_
  refine tMO_seq S2 w2 (fun _ _ q => q.tr (T1.trans T2)) fun u ρ3 F3 H3 As3 w3 S3 T3 => ?_
  obtain ⟨d, p, w4⟩ := peek_ok S3 (R1.tr (T2.trans T3)) w3
  obtain ⟨o, e, w5⟩ := wpR_of w4
  have T := (T1.trans T2).trans T3
  cases d <;> simp only [slD, Option.map_some, Option.map_none] at e <;> try (cases e; done)
  case lst xs =>
    cases e
    obtain ⟨a, ys, rfl, h1, r1⟩ := p.vSeq S3.sub
    exact .inl ⟨a, ys, rfl, SqL.of h1, fun q nq => pE_new S3 T w5 (Grow.new1 S3.sub nq) (only_new nq) (new_lst S3.sub nq (cut_rep r1))⟩
  case scr xs =>
    cases e
    obtain ⟨a, ys, rfl, h1, r1⟩ := p.vScr S3.sub
    exact .inl ⟨a, ys, rfl, h1, fun q nq => pE_new S3 T w5 (Grow.new1 S3.sub nq) (only_new nq) (new_lst S3.sub nq (cut_rep r1))⟩
  case tup xs =>
    cases e
    obtain ⟨a, ys, rfl, h1, r1⟩ := p.vTup S3.sub
    refine .inr (.inl ⟨a, ys, rfl, h1, fun hw => ?_, fun _ q nq => pE_new S3 T w5 (Grow.frz1 S3.sub nq) no_own (new_tup S3.sub nq (cut_rep r1))⟩)
    rw [r1.length] at hw
    rw [cut_whole hw] at w5
    cases p with
    | frz r => exact w5 F3 H3 _ As3 [] S3 T Fr.nil (.o (.val r) fun _ h => nomatch h)
  case str z =>
    split at e
    · rename_i hz
      cases e
      exact .inr (.inr ⟨z, p.vStr, hz, w5 F3 H3 _ As3 [] S3 T Fr.nil (.o (.val (.str _)) fun _ h => nomatch h)⟩)
    · cases e
end

/-! ### built-ins of one thing -/
def RuleC (X : Cx) (c : Addr) (r : List V → Hp → VK → Prop) (g : D → Option O) : Prop :=
  ∀ (F H : Hp) (x : V) (dx : D) (o : O) (Q : VK), Same F H → RepP (gm X c) F H x dx → g dx = some o →
    (∀ v F' H' B, Grow F H F' H' → (∀ b ∈ B, H b = none) → RepO (gm X c) F' H' v o B → Q v H') → r [x] H Q
def RuleC2 (X : Cx) (c : Addr) (r : List V → Hp → VK → Prop) (g : D → D → Option O) : Prop := RuleB X c (fun x y H Q => r [x, y] H Q) g
def mFn1 (g : D → Option O) (m : M RV) : M RV := M.bind m fun r => M.bind (peek r) fun d => M.of ((g d).map RV.o)
section
variable {X : Cx} {c : Addr} {W : WX} {e a b : Expr} {m ma mb : M RV} {x : Str} {p pos : Pos}
theorem tM_fn1 {r : List V → Hp → VK → Prop} {g : D → Option O} (R : RuleC X c r g) {σ : Sl} {H : Hp} {Q : VK} (h : tM (gm X c) W (mFn1 g m) σ H Q) : tCB r (tCons (tM (gm X c) W m) tNil) σ H Q := by
  obtain ⟨F, ρ, As, S, w⟩ := h
  refine tM_seq S w (fun _ _ q => q) fun r' ρ1 F1 H1 v1 As1 B1 w1 S1 T1 f1 R1 => ?_
  obtain ⟨d, p, w2⟩ := peek_ok S1 R1 w1
  obtain ⟨o, eo, w3⟩ := wpR_of w2
  cases eg : g d with
  | none => rw [eg] at eo; cases eo
  | some o' =>
    rw [eg] at eo; cases eo
    exact R F1 H1 v1 d _ Q S1.sub p eg fun v F' H' B k n r => pE_new S1 T1 w3 k n r
theorem pm_fnB {id : String} {r : List V → Hp → VK → Prop} {g : D → Option O} (hc : CallR X (.builtin id) r) (R : RuleC X c r g) (hg : Gl X x) (hm : X.mg x = none) (hv : bootBuiltins x = some (.builtin id)) (h : PM X c W e m) (hn : x ≠ "__name__" := by decide) (hdb : (x == ("__debug__" : Str)) = false := by decide)
    (he : starEach [e] X.env = (false, eval e X.env) :: starEach [] X.env := by rfl) : PM X c W (.Call (.Name x p) [e] [] pos) (mFn1 g m) :=
  PE.imp (pe_callB hc hg hm hv (pa_cons h pa_nil he) hn hdb he (by rfl)) fun _ _ _ q => tM_fn1 R q
theorem pm_fnT {id : String} {r : List V → Hp → VK → Prop} {g : D → Option O} (hc : CallR X (.type id) r) (R : RuleC X c r g) (hg : Gl X x) (hm : X.mg x = none) (hv : bootBuiltins x = some (.type id)) (h : PM X c W e m) (hn : x ≠ "__name__" := by decide) (hdb : (x == ("__debug__" : Str)) = false := by decide)
    (he : starEach [e] X.env = (false, eval e X.env) :: starEach [] X.env := by rfl) : PM X c W (.Call (.Name x p) [e] [] pos) (mFn1 g m) :=
  PE.imp (pe_callTy hc hg hm hv (pa_cons h pa_nil he) hn hdb he (by rfl)) fun _ _ _ q => tM_fn1 R q
theorem tM_fn2 {r : List V → Hp → VK → Prop} {g : D → D → Option O} (R : RuleC2 X c r g) {σ : Sl} {H : Hp} {Q : VK} (h : tM (gm X c) W (mBin g ma mb) σ H Q) : tCB r (tCons (tM (gm X c) W ma) (tCons (tM (gm X c) W mb) tNil)) σ H Q :=
  tM_bin (r := fun x y H Q => r [x, y] H Q) R h
theorem pm_fnB2 {id : String} {r : List V → Hp → VK → Prop} {g : D → D → Option O} (hc : CallR X (.builtin id) r) (R : RuleC2 X c r g) (hg : Gl X x) (hm : X.mg x = none) (hv : bootBuiltins x = some (.builtin id)) (ha : PM X c W a ma) (hb : PM X c W b mb) (hn : x ≠ "__name__" := by decide) (hdb : (x == ("__debug__" : Str)) = false := by decide)
    (he : starEach [a, b] X.env = (false, eval a X.env) :: starEach [b] X.env := by rfl) (he2 : starEach [b] X.env = (false, eval b X.env) :: starEach [] X.env := by rfl) (hpl : (backTo pos (starEach [b] X.env)).any (·.1) = false := by rfl) : PM X c W (.Call (.Name x p) [a, b] [] pos) (mBin g ma mb) :=
  PE.imp (pe_callB hc hg hm hv (pa_cons ha (pa_cons hb pa_nil he2) he) hn hdb he hpl) fun _ _ _ q => tM_fn2 R q
theorem RuleC.or {r r' : List V → Hp → VK → Prop} {g g' : D → Option O} (h : RuleC X c r g) (h' : RuleC X c r' g') : RuleC X c (fun x H Q => r x H Q ∨ r' x H Q) (fun x => (g x).or (g' x)) := fun F H x dx o Q s px e k => by
  have e : (g dx).or (g' dx) = some o := e
  cases eg : g dx with
  | some o' => rw [eg] at e; cases e; exact .inl (h F H x dx _ Q s px eg k)
  | none => rw [eg] at e; exact .inr (h' F H x dx o Q s px e k)
/-! len -/
def lenD : D → Option O
  | .str y => if y.length ≤ sizeLine then some (.val (.int y.length)) else none
  | .lst xs => some (.val (.int xs.length))
  | .tup xs => some (.val (.int xs.length))
  | .scr xs => some (.val (.int xs.length))
  | _ => none
theorem rule_len : RuleC X c (fun xs H Q => ∃ x n, xs = [x] ∧ LenV X.K x H n ∧ Q (.int n) H) lenD := fun F H x dx o Q s px e k => by
  cases dx <;> simp only [lenD] at e <;> try (cases e; done)
  case str y =>
    split at e
    · rename_i hz
      cases e
      exact ⟨x, y.length, rfl, by rw [px.vStr]; exact ⟨hz, rfl⟩, k _ F H [] (Grow.refl s) no_own (.val (.int _))⟩
    · cases e
  case lst xs =>
    cases e
    obtain ⟨a, ys, rfl, h1, r1⟩ := px.vSeq s
    exact ⟨_, xs.length, rfl, .inl ⟨ys, SqL.of h1, r1.length.symm⟩, k _ F H [] (Grow.refl s) no_own (.val (.int _))⟩
  case scr xs =>
    cases e
    obtain ⟨a, ys, rfl, h1, r1⟩ := px.vScr s
    exact ⟨_, xs.length, rfl, .inl ⟨ys, h1, r1.length.symm⟩, k _ F H [] (Grow.refl s) no_own (.val (.int _))⟩
  case tup xs =>
    cases e
    obtain ⟨a, ys, rfl, h1, r1⟩ := px.vTup s
    exact ⟨_, xs.length, rfl, .inr ⟨ys, h1, r1.length.symm⟩, k _ F H [] (Grow.refl s) no_own (.val (.int _))⟩
theorem pm_len (hm : X.mg "len" = none) (h : PM X c W e m) (hg : Gl X "len" := by rfl) (he : starEach [e] X.env = (false, eval e X.env) :: starEach [] X.env := by rfl) : PM X c W (.Call (.Name "len" p) [e] [] pos) (mFn1 lenD m) :=
  pm_fnB call_len rule_len hg hm PySem.boot_len h (by decide) (by decide) he
/-! int, abs, min, max -/
def intFn : D → Option O
  | .int i => some (.val (.int i))
  | .bl b => some (.val (.int (if b then 1 else 0)))
  | _ => none
theorem rule_int1 : RuleC X c (fun xs H Q => (∃ i, xs = [.int i] ∧ Q (.int i) H) ∨ ∃ k, xs = [.bl k] ∧ Q (.int (if k then 1 else 0)) H) intFn := fun F H x dx o Q s px e k => by
  cases dx <;> simp only [intFn] at e <;> try (cases e; done)
  · cases e; exact .inr ⟨_, by rw [px.vBl], k _ F H [] (Grow.refl s) no_own (.val (.int _))⟩
  · cases e; exact .inl ⟨_, by rw [px.vInt], k _ F H [] (Grow.refl s) no_own (.val (.int _))⟩
def intStr : D → Option O
  | .str x => if x.length ≤ 640 then (PySem.intText? x).map fun n => .val (.int n) else none
  | _ => none
theorem rule_intStr : RuleC X c (fun xs H Q => ∃ a n, xs = [.str a] ∧ PySem.intText? a = some n ∧ a.length ≤ 640 ∧ Q (.int n) H) intStr := fun F H x dx o Q s px e k => by
  cases dx <;> simp only [intStr] at e <;> try (cases e; done)
  split at e
  · rename_i z hz
    rw [Option.map_eq_some_iff] at e
    obtain ⟨n, en, rfl⟩ := e
    exact ⟨_, n, by rw [px.vStr], en, hz, k _ F H [] (Grow.refl s) no_own (.val (.int _))⟩
  · cases e
def intOf (x : D) : Option O := (intFn x).or (intStr x)
theorem pm_intOf (hm : X.mg "int" = none) (h : PM X c W e m) (hg : Gl X "int" := by rfl) (he : starEach [e] X.env = (false, eval e X.env) :: starEach [] X.env := by rfl) : PM X c W (.Call (.Name "int" p) [e] [] pos) (mFn1 intOf m) :=
  pm_fnT (call_int1.or call_int_str) (rule_int1.or rule_intStr) hg hm (by decide +kernel) h (by decide) (by decide) he
def absD : D → Option O
  | .int i => some (.val (.int (if i < 0 then -i else i)))
  | _ => none
theorem rule_abs : RuleC X c (fun xs H Q => ∃ i, xs = [.int i] ∧ Q (.int (if i < 0 then -i else i)) H) absD := fun F H x dx o Q s px e k => by
  cases dx <;> simp only [absD] at e <;> try (cases e; done)
  cases e; exact ⟨_, by rw [px.vInt], k _ F H [] (Grow.refl s) no_own (.val (.int _))⟩
theorem pm_abs (hm : X.mg "abs" = none) (h : PM X c W e m) (hg : Gl X "abs" := by rfl) (he : starEach [e] X.env = (false, eval e X.env) :: starEach [] X.env := by rfl) : PM X c W (.Call (.Name "abs" p) [e] [] pos) (mFn1 absD m) :=
  pm_fnB call_abs rule_abs hg hm (by decide +kernel) h (by decide) (by decide) he
def max2D : D → D → Option O := ii (fun _ _ => true) fun i j => if j > i then j else i
def min2D : D → D → Option O := ii (fun _ _ => true) fun i j => if j < i then j else i
theorem rule_max2 : RuleC2 X c (fun xs H Q => ∃ i j, xs = [.int i, .int j] ∧ Q (.int (if j > i then j else i)) H) max2D := fun F H x y dx dy o Q s px p' e k => by
  cases dx <;> cases dy <;> try (cases e; done)
  cases e
  exact ⟨_, _, by rw [px.vInt, p'.vInt], k _ F H [] (Grow.refl s) no_own (.val (.int _))⟩
theorem rule_min2 : RuleC2 X c (fun xs H Q => ∃ i j, xs = [.int i, .int j] ∧ Q (.int (if j < i then j else i)) H) min2D := fun F H x y dx dy o Q s px p' e k => by
  cases dx <;> cases dy <;> try (cases e; done)
  cases e
  exact ⟨_, _, by rw [px.vInt, p'.vInt], k _ F H [] (Grow.refl s) no_own (.val (.int _))⟩
theorem pm_max2 (hc : X.calm = true) (hm : X.mg "max" = none) (ha : PM X c W a ma) (hb : PM X c W b mb) (hg : Gl X "max" := by rfl)
    (he : starEach [a, b] X.env = (false, eval a X.env) :: starEach [b] X.env := by rfl) (he2 : starEach [b] X.env = (false, eval b X.env) :: starEach [] X.env := by rfl) (hpl : (backTo pos (starEach [b] X.env)).any (·.1) = false := by rfl) : PM X c W (.Call (.Name "max" p) [a, b] [] pos) (mBin max2D ma mb) :=
  pm_fnB2 (call_max2 hc) rule_max2 hg hm (by decide +kernel) ha hb (by decide) (by decide) he he2 hpl
theorem pm_min2 (hc : X.calm = true) (hm : X.mg "min" = none) (ha : PM X c W a ma) (hb : PM X c W b mb) (hg : Gl X "min" := by rfl)
    (he : starEach [a, b] X.env = (false, eval a X.env) :: starEach [b] X.env := by rfl) (he2 : starEach [b] X.env = (false, eval b X.env) :: starEach [] X.env := by rfl) (hpl : (backTo pos (starEach [b] X.env)).any (·.1) = false := by rfl) : PM X c W (.Call (.Name "min" p) [a, b] [] pos) (mBin min2D ma mb) :=
  pm_fnB2 (call_min2 hc) rule_min2 hg hm (by decide +kernel) ha hb (by decide) (by decide) he he2 hpl
/-! list, tuple -/
def listD : D → Option O
  | .lst xs => some (.lst xs)
  | .scr xs => some (.lst xs)
  | .tup xs => some (.lst xs)
  | _ => none
theorem rule_list : RuleC X c (fun xs H Q => ∃ p ys, xs = [.ref p] ∧ (SqL X.K H p ys ∨ SqT X.K H p ys) ∧ ∀ l, H l = none → Q (.ref l) (upd H l (.lst ys))) listD := fun F H x dx o Q s px e k => by
  cases dx <;> simp only [listD] at e <;> try (cases e; done)
  · cases e
    obtain ⟨a, ys, rfl, h1, r1⟩ := px.vTup s
    exact ⟨a, ys, rfl, .inr h1, fun l nl => k _ F _ [l] (Grow.new1 s nl) (only_new nl) (new_lst s nl r1)⟩
  · cases e
    obtain ⟨a, ys, rfl, h1, r1⟩ := px.vSeq s
    exact ⟨a, ys, rfl, .inl (SqL.of h1), fun l nl => k _ F _ [l] (Grow.new1 s nl) (only_new nl) (new_lst s nl r1)⟩
  · cases e
    obtain ⟨a, ys, rfl, h1, r1⟩ := px.vScr s
    exact ⟨a, ys, rfl, .inl h1, fun l nl => k _ F _ [l] (Grow.new1 s nl) (only_new nl) (new_lst s nl r1)⟩
theorem pm_list (hm : X.mg "list" = none) (h : PM X c W e m) (hg : Gl X "list" := by rfl) (he : starEach [e] X.env = (false, eval e X.env) :: starEach [] X.env := by rfl) : PM X c W (.Call (.Name "list" p) [e] [] pos) (mFn1 listD m) :=
  pm_fnT call_list_of rule_list hg hm (by decide +kernel) h (by decide) (by decide) he
def tupD : D → Option O
  | .lst xs => some (.val (.tup xs))
  | .scr xs => some (.val (.tup xs))
  | .tup xs => some (.val (.tup xs))
  | _ => none
theorem pm_tuple (hm : X.mg "tuple" = none) (h : PM X c W e m) (hg : Gl X "tuple" := by rfl) (he : starEach [e] X.env = (false, eval e X.env) :: starEach [] X.env := by rfl) : PM X c W (.Call (.Name "tuple" p) [e] [] pos) (mFn1 tupD m) := PE.imp (pe_tupleOf hg hm h he) fun σ H Q ⟨F, ρ, As, S, w⟩ => by
  refine tM_seq S w (fun _ _ q => q) fun r' ρ1 F1 H1 v1 As1 B1 w1 S1 T1 f1 R1 => ?_
  obtain ⟨d, p, w2⟩ := peek_ok S1 R1 w1
  obtain ⟨o, eo, w3⟩ := wpR_of w2
  cases d <;> simp only [tupD, Option.map_some, Option.map_none] at eo <;> try (cases eo; done)
  · cases eo
    obtain ⟨a, ys, rfl, h1, r1⟩ := p.vTup S1.sub
    refine .inr ⟨a, ys, rfl, h1, ?_⟩
    cases p with
    | frz r => exact w3 F1 H1 _ As1 [] S1 T1 Fr.nil (.o (.val r) fun _ h => nomatch h)
  · cases eo
    obtain ⟨a, ys, rfl, h1, r1⟩ := p.vSeq S1.sub
    exact .inl ⟨a, ys, rfl, SqL.of h1, fun q nq => pE_new S1 T1 w3 (Grow.frz1 S1.sub nq) no_own (new_tup S1.sub nq r1)⟩
  · cases eo
    obtain ⟨a, ys, rfl, h1, r1⟩ := p.vScr S1.sub
    exact .inl ⟨a, ys, rfl, h1, fun q nq => pE_new S1 T1 w3 (Grow.frz1 S1.sub nq) no_own (new_tup S1.sub nq r1)⟩
/-! all, any, sum -/
def blsD : List D → Option (List Bool)
  | [] => some []
  | .bl b :: r => (blsD r).map (b :: ·)
  | _ => none
def intsD : List D → Option (List Int)
  | [] => some []
  | .int b :: r => (intsD r).map (b :: ·)
  | _ => none
theorem blsD_rep {Γ : Gm} {F : Hp} : ∀ {ds : List D} {vs : List V} {bs : List Bool}, RepL Γ F vs ds → blsD ds = some bs → vs = bs.map V.bl
  | [], _, _, h, e => by cases h; cases e; rfl
  | d :: ds, _, bs, h, e => by
    cases h with
    | cons a b =>
      cases d <;> simp only [blsD] at e <;> try (cases e; done)
      rw [Option.map_eq_some_iff] at e
      obtain ⟨r, er, rfl⟩ := e
      cases a
      rw [blsD_rep b er]; rfl
theorem intsD_rep {Γ : Gm} {F : Hp} : ∀ {ds : List D} {vs : List V} {bs : List Int}, RepL Γ F vs ds → intsD ds = some bs → vs = bs.map V.int
  | [], _, _, h, e => by cases h; cases e; rfl
  | d :: ds, _, bs, h, e => by
    cases h with
    | cons a b =>
      cases d <;> simp only [intsD] at e <;> try (cases e; done)
      rw [Option.map_eq_some_iff] at e
      obtain ⟨r, er, rfl⟩ := e
      cases a
      rw [intsD_rep b er]; rfl
def allD : D → Option O
  | .lst xs => (blsD xs).map fun bs => .val (.bl (bs.all id))
  | _ => none
def anyD : D → Option O
  | .lst xs => (blsD xs).map fun bs => .val (.bl (bs.any id))
  | _ => none
def sumD : D → Option O
  | .lst xs => (intsD xs).map fun bs => .val (.int bs.sum)
  | _ => none
theorem rule_all : RuleC X c (rAll X.K) allD := fun F H x dx o Q s px e k => by
  cases dx <;> simp only [allD] at e <;> try (cases e; done)
  rw [Option.map_eq_some_iff] at e
  obtain ⟨bs, eb, rfl⟩ := e
  obtain ⟨a, ys, rfl, h1, r1⟩ := px.vSeq s
  exact ⟨a, bs, rfl, by rw [← blsD_rep r1 eb]; exact SqL.of h1, k _ F H [] (Grow.refl s) no_own (.val (.bl _))⟩
theorem rule_any : RuleC X c (rAny X.K) anyD := fun F H x dx o Q s px e k => by
  cases dx <;> simp only [anyD] at e <;> try (cases e; done)
  rw [Option.map_eq_some_iff] at e
  obtain ⟨bs, eb, rfl⟩ := e
  obtain ⟨a, ys, rfl, h1, r1⟩ := px.vSeq s
  exact ⟨a, bs, rfl, by rw [← blsD_rep r1 eb]; exact SqL.of h1, k _ F H [] (Grow.refl s) no_own (.val (.bl _))⟩
theorem rule_sum : RuleC X c (rSum X.K) sumD := fun F H x dx o Q s px e k => by
  cases dx <;> simp only [sumD] at e <;> try (cases e; done)
  rw [Option.map_eq_some_iff] at e
  obtain ⟨bs, eb, rfl⟩ := e
  obtain ⟨a, ys, rfl, h1, r1⟩ := px.vSeq s
  exact ⟨a, bs, rfl, by rw [← intsD_rep r1 eb]; exact SqL.of h1, k _ F H [] (Grow.refl s) no_own (.val (.int _))⟩
theorem pm_all (hc : X.calm = true) (hm : X.mg "all" = none) (h : PM X c W e m) (hg : Gl X "all" := by rfl) (he : starEach [e] X.env = (false, eval e X.env) :: starEach [] X.env := by rfl) : PM X c W (.Call (.Name "all" p) [e] [] pos) (mFn1 allD m) :=
  pm_fnB (cr_all hc) rule_all hg hm (by decide +kernel) h (by decide) (by decide) he
theorem pm_any (hc : X.calm = true) (hm : X.mg "any" = none) (h : PM X c W e m) (hg : Gl X "any" := by rfl) (he : starEach [e] X.env = (false, eval e X.env) :: starEach [] X.env := by rfl) : PM X c W (.Call (.Name "any" p) [e] [] pos) (mFn1 anyD m) :=
  pm_fnB (cr_any hc) rule_any hg hm (by decide +kernel) h (by decide) (by decide) he
theorem pm_sum (hc : X.calm = true) (hm : X.mg "sum" = none) (h : PM X c W e m) (hg : Gl X "sum" := by rfl) (he : starEach [e] X.env = (false, eval e X.env) :: starEach [] X.env := by rfl) : PM X c W (.Call (.Name "sum" p) [e] [] pos) (mFn1 sumD m) :=
  pm_fnB (cr_sum hc) rule_sum hg hm (by decide +kernel) h (by decide) (by decide) he
/-! isinstance -/
def tyL : List String := ["int", "bool", "str", "tuple", "list", "dict"]
def yesL : D → Option (List String)
  | .non => some []
  | .bl _ => some ["int", "bool"]
  | .int _ => some ["int"]
  | .str _ => some ["str"]
  | .tup _ => some ["tuple"]
  | .lst _ => some ["list"]
  | .scr _ => some ["list"]
  | .dic _ => some ["dict"]
  | .set _ => none
def isiD (T : String) (d : D) : Option Bool := if T ∈ tyL then (yesL d).map fun y => decide (T ∈ y) else none
def tyN : D → String
  | .non => "NoneType" | .bl _ => "bool" | .int _ => "int" | .str _ => "str" | .tup _ => "tuple" | .lst _ => "list" | .scr _ => "list" | .dic _ => "dict" | .set _ => "set"
def kitTab (s : String) (yes : List String) : Bool := ["int", "bool", "str", "tuple", "list", "dict"].all fun T => kitB s T == some (decide (T ∈ yes))
theorem kitTab_of {s : String} {yes : List String} (h : kitTab s yes = true) {T : String} (hT : T ∈ ["int", "bool", "str", "tuple", "list", "dict"]) : kitB s T = some (decide (T ∈ yes)) := by
  have := List.all_eq_true.mp h T hT
  simpa using this
theorem kt0 : kitTab "NoneType" [] = true := by decide +kernel
theorem kt1 : kitTab "bool" ["int", "bool"] = true := by decide +kernel
theorem kt2 : kitTab "int" ["int"] = true := by decide +kernel
theorem kt3 : kitTab "str" ["str"] = true := by decide +kernel
theorem kt4 : kitTab "tuple" ["tuple"] = true := by decide +kernel
theorem kt5 : kitTab "list" ["list"] = true := by decide +kernel
theorem kt6 : kitTab "dict" ["dict"] = true := by decide +kernel
theorem isi_kit {T : String} {d : D} {b : Bool} (e : isiD T d = some b) : kitB (tyN d) T = some b := by
  unfold isiD at e
  split at e
  · rename_i h
    rw [Option.map_eq_some_iff] at e
    obtain ⟨y, ey, rfl⟩ := e
    cases d <;> simp only [yesL] at ey <;> (try cases ey) <;> simp only [tyN]
    · exact kitTab_of kt0 h
    · exact kitTab_of kt1 h
    · exact kitTab_of kt2 h
    · exact kitTab_of kt3 h
    · exact kitTab_of kt4 h
    · exact kitTab_of kt5 h
    · exact kitTab_of kt6 h
    · exact kitTab_of kt5 h
  · cases e
theorem tyX_rep {X : Cx} {c : Addr} {F H : Hp} (s : Same F H) {v : V} {d : D} (h : RepP (gm X c) F H v d) (n : ∀ ns, d ≠ .set ns) : TyX X.K H v (.type (tyN d)) := by
  cases d with
  | non => rw [h.vNon]; exact .base .non
  | bl b => rw [h.vBl]; exact .base (.bl _)
  | int i => rw [h.vInt]; exact .base (.int _)
  | str x => rw [h.vStr]; exact .base (.str _)
  | tup xs =>
    obtain ⟨a, ys, rfl, h1, _⟩ := h.vTup s
    rcases h1 with (h1 | ⟨o, h1⟩) | ⟨o, its, n, h1, h2, _⟩
    · exact .base (.tup h1)
    · exact .fTuple h1
    · exact .kTuple h1 h2
  | lst xs => obtain ⟨a, ys, rfl, h1, _⟩ := h.vSeq s; exact .base (.lst h1)
  | scr xs =>
    obtain ⟨a, ys, rfl, h1, _⟩ := h.vScr s
    rcases h1 with (h1 | ⟨o, h1⟩) | ⟨o, its, n, h1, h2, _⟩
    · exact .base (.lst h1)
    · exact .base (.frz h1)
    · exact .kList h1 h2
  | dic kvs => obtain ⟨a, ks, rfl, h1, _⟩ := h.vDic s; exact .base (.dK h1)
  | set ns => exact absurd rfl (n ns)
def isiO (T : String) (d : D) : Option O := (isiD T d).map fun b => .val (.bl b)
theorem pm_isi (T : String) (hm : X.mg "isinstance" = none) (h : PM X c W e m) (hb : PE X b (tC (.ty T))) (hg : Gl X "isinstance" := by rfl)
    (he : starEach [e, b] X.env = (false, eval e X.env) :: starEach [b] X.env := by rfl) (he2 : starEach [b] X.env = (false, eval b X.env) :: starEach [] X.env := by rfl) (hpl : (backTo pos (starEach [b] X.env)).any (·.1) = false := by rfl) : PM X c W (.Call (.Name "isinstance" p) [e, b] [] pos) (mFn1 (isiO T) m) :=
  PE.imp (pe_callB call_isi hg hm (by decide +kernel) (pa_cons h (pa_cons hb pa_nil he2) he) (by decide) (by decide) he hpl) fun σ H Q ⟨F, ρ, As, S, w⟩ => by
  refine tM_seq S w (fun _ _ q => q) fun r' ρ1 F1 H1 v1 As1 B1 w1 S1 T1 f1 R1 => ?_
  obtain ⟨d, p, w2⟩ := peek_ok S1 R1 w1
  obtain ⟨o, eo, w3⟩ := wpR_of w2
  simp only [isiO, Option.map_map, Option.map_eq_some_iff] at eo
  obtain ⟨k, ek, rfl⟩ := eo
  exact ⟨v1, .ty T, .type (tyN d), .type T, k, rfl, .ty T, tyX_rep S1.sub p (fun ns q => by subst q; unfold isiD at ek; split at ek <;> cases ek), kit_ty (isi_kit ek), w3 F1 H1 _ As1 [] S1 T1 Fr.nil (.o (.val (.bl _)) fun _ h => nomatch h)⟩
theorem pe_ty {T : String} {x : Str} {pos : Pos} (hm : X.mg x = none) (hg : Gl X x := by rfl) (hv : bootBuiltins x = some (.type T) := by decide +kernel) (hn : x ≠ "__name__" := by decide) (hd : (x == ("__debug__" : Str)) = false := by decide) : PE X (.Name x pos) (tC (.ty T)) := pe_bltn (v := .ty T) hg hm hv rfl hn hd
end
end Mi

set_option Elab.async false
set_option linter.all false
set_option autoImplicit false
set_option maxRecDepth 100000
set_option maxHeartbeats 4000000
namespace Mi
open PySem PySem.Spec PyProof.Rows L2

/-! ### statements -/
def endS (Γ : Gm) (F H : Hp) (As : Own) (F' H' : Hp) (σ' : Sl) (As' : Own) (D : Ends) : Ctl → Prop
  | .nx => D.nx σ' H'
  | .bk => D.bk σ' H'
  | .ct => D.ct σ' H'
  | .rt r => ∀ v B, Fr H As B → RepR Γ F' H' σ' As' v r B → D.rt v H'
def pS (Γ : Gm) (io : Bool) (F H : Hp) (σ : Sl) (As : Own) (D : Ends) : Ctl → Env → Prop := fun k ρ' =>
  ∀ F' H' σ' As', Sta Γ F' H' σ' ρ' As' → Tr F H As F' H' As' → (io = true → σ'[0]? = σ[0]?) → endS Γ F H As F' H' σ' As' D k
def pXS (Γ : Gm) (io : Bool) (W : WX) (F H : Hp) (σ : Sl) (As : Own) : Ex → Env → Prop := fun x ρ' =>
  ∀ F' H' σ' cls od As', Sta Γ F' H' σ' ρ' As' → Tr F H As F' H' As' → (io = true → σ'[0]? = σ[0]?) → RepX Γ F' H' x cls od → W cls od σ' H'
def tS (Γ : Gm) (io : Bool) (W : WX) (m : M Ctl) : TS := fun D σ H => ∃ F ρ As, Sta Γ F H σ ρ As ∧ wpR (m ρ) (pS Γ io F H σ As D) (pXS Γ io W F H σ As)
def SM (X : Cx) (c : Addr) (io : Bool) (W : WX) (st : Stmt) (m : M Ctl) : Prop := PS X st (tS (gm X c) io W m)
def SMs (X : Cx) (c : Addr) (io : Bool) (W : WX) (st : List Stmt) (m : M Ctl) : Prop := PSs X st (tS (gm X c) io W m)
theorem PS.imp {X : Cx} {e : Stmt} {t t' : TS} (h : PS X e t) (k : ∀ D σ H, t' D σ H → t D σ H) : PS X e t' := ⟨fun pins s σ H D I q => h.run pins s σ H D I (k D σ H q)⟩
theorem PSs.imp {X : Cx} {e : List Stmt} {t t' : TS} (h : PSs X e t) (k : ∀ D σ H, t' D σ H → t D σ H) : PSs X e t' := ⟨fun pins s σ H D I q => h.run pins s σ H D I (k D σ H q)⟩
section
variable {Γ : Gm} {io : Bool} {W : WX} {F F1 H H1 : Hp} {As As1 : Own} {σ σ1 : Sl}
theorem pXS.tr (t : Tr F H As F1 H1 As1) (i : io = true → σ1[0]? = σ[0]?) {x : Ex} {ρ : Env} (h : pXS Γ io W F H σ As x ρ) : pXS Γ io W F1 H1 σ1 As1 x ρ := fun F' H' σ' cls od As' s t' j r => h F' H' σ' cls od As' s (t.trans t') (fun e => (j e).trans (i e)) r
theorem pXS.e {x : Ex} {ρ : Env} (h : pXS Γ io W F H σ As x ρ) : pX Γ W F H σ As x ρ := fun F' H' cls od As' s t' r => h F' H' σ cls od As' s t' (fun _ => rfl) r
theorem pS.tr (t : Tr F H As F1 H1 As1) (i : io = true → σ1[0]? = σ[0]?) {D : Ends} {k : Ctl} {ρ : Env} (h : pS Γ io F H σ As D k ρ) : pS Γ io F1 H1 σ1 As1 D k ρ := fun F' H' σ' As' s t' j => by
  have q := h F' H' σ' As' s (t.trans t') fun e => (j e).trans (i e)
  cases k with
  | rt r => exact fun v B f R => q v B (f.back t) R
  | _ => exact q
end
def mSkip : M Ctl := M.pure .nx
def mSeq (a b : M Ctl) : M Ctl := M.bind a fun k => match k with
  | .nx => b
  | k => M.pure k
section
variable {X : Cx} {c : Addr} {io : Bool} {W : WX} {st : Stmt} {rest : List Stmt} {e t : Expr} {m : M RV} {a b : M Ctl} {tt : M Bool} {pos : Pos}
theorem sms_nil : SMs X c io W [] mSkip := PSs.imp pss_nil fun D σ H ⟨F, ρ, As, S, w⟩ => w F H σ As S Tr.refl fun _ => rfl
theorem sms_one (h : SM X c io W st a) : SMs X c io W [st] a := pss_one h
theorem sms_cons (h : SM X c io W st a) (hr : SMs X c io W rest b) : SMs X c io W (st :: rest) (mSeq a b) := PSs.imp (pss_cons h hr) fun D σ H ⟨F, ρ, As, S, w⟩ => by
  refine ⟨F, ρ, As, S, wpR_mono (wpR_bind w) (fun k ρ1 w1 F1 H1 σ1 As1 S1 T1 i1 => ?_) fun _ _ q => q⟩
  cases k with
  | nx => exact ⟨F1, ρ1, As1, S1, wpR_mono w1 (fun _ _ q => q.tr T1 i1) fun _ _ q => q.tr T1 i1⟩
  | bk => exact w1 F1 H1 σ1 As1 S1 T1 i1
  | ct => exact w1 F1 H1 σ1 As1 S1 T1 i1
  | rt r => exact w1 F1 H1 σ1 As1 S1 T1 i1
theorem sm_pass : SM X c io W (.Pass pos) mSkip := PS.imp ps_pass fun D σ H ⟨F, ρ, As, S, w⟩ => w F H σ As S Tr.refl fun _ => rfl
theorem sm_break : SM X c io W (.Break pos) (M.pure .bk) := PS.imp ps_break fun D σ H ⟨F, ρ, As, S, w⟩ => w F H σ As S Tr.refl fun _ => rfl
theorem sm_continue : SM X c io W (.Continue pos) (M.pure .ct) := PS.imp ps_continue fun D σ H ⟨F, ρ, As, S, w⟩ => w F H σ As S Tr.refl fun _ => rfl
theorem sm_doc {x j pos pos'} : SM X c io W (.Expr (.Constant (.str x) j pos) pos') mSkip := PS.imp ps_doc fun D σ H ⟨F, ρ, As, S, w⟩ => w F H σ As S Tr.refl fun _ => rfl
def mExpr (m : M RV) : M Ctl := M.bind m fun _ => M.pure .nx
theorem sm_expr (h : PM X c W e m) (hs : swapsWith e none pos.line X.env = pure false := by rfl) : SM X c io W (.Expr e pos) (mExpr m) := PS.imp (ps_expr h hs) fun D σ H ⟨F, ρ, As, S, w⟩ => by
  refine tM_seq S w (fun _ _ q => q.e) fun r ρ1 F1 H1 v1 As1 B1 w1 S1 T1 f1 R1 => ?_
  exact w1 F1 H1 σ As1 S1 T1 fun _ => rfl
def mRet (m : M RV) : M Ctl := M.bind m fun r => M.pure (.rt r)
theorem sm_ret (h : PM X c W e m) : SM X c io W (.Return (some e) pos) (mRet m) := PS.imp (ps_ret h) fun D σ H ⟨F, ρ, As, S, w⟩ => by
  refine tM_seq S w (fun _ _ q => q.e) fun r ρ1 F1 H1 v1 As1 B1 w1 S1 T1 f1 R1 => ?_
  exact w1 F1 H1 σ As1 S1 T1 (fun _ => rfl) v1 B1 f1 R1
theorem sm_retN : SM X c io W (.Return none pos) (mRet (mC .non)) := PS.imp ps_retN fun D σ H ⟨F, ρ, As, S, w⟩ =>
  w F H σ As S Tr.refl (fun _ => rfl) .non [] Fr.nil (.o (.val .non) fun _ h => nomatch h)
def mIfS (t : M Bool) (a b : M Ctl) : M Ctl := M.bind t fun x => if x = true then a else b
theorem sm_if {as bs : List Stmt} (ht : TM X c W t tt) (ha : SMs X c io W as a) (hb : SMs X c io W bs b) : SM X c io W (.If t as bs pos) (mIfS tt a b) := PS.imp (ps_if ht ha hb) fun D σ H ⟨F, ρ, As, S, w⟩ => by
  refine tMT_seq S w (fun _ _ q => q.e) fun x ρ1 F1 H1 As1 w1 S1 T1 => ?_
  cases x with
  | true =>
    rw [if_pos rfl] at w1 ⊢
    exact ⟨F1, ρ1, As1, S1, wpR_mono w1 (fun _ _ q => q.tr T1 fun _ => rfl) fun _ _ q => q.tr T1 fun _ => rfl⟩
  | false =>
    rw [if_neg (by simp)] at w1 ⊢
    exact ⟨F1, ρ1, As1, S1, wpR_mono w1 (fun _ _ q => q.tr T1 fun _ => rfl) fun _ _ q => q.tr T1 fun _ => rfl⟩
end

/-! ### targets -/
/-- beside the slots' own addresses those that came along -/
def addB (As : Own) (B : List Addr) : Own := fun k => if k = 0 then As 0 ++ B else As k
theorem mem_addB {As : Own} {B : List Addr} {b : Addr} : (∃ i, b ∈ addB As B i) ↔ (∃ i, b ∈ As i) ∨ b ∈ B := by
  constructor
  · rintro ⟨i, h⟩
    unfold addB at h
    split at h
    · rcases List.mem_append.mp h with h | h
      · exact .inl ⟨0, h⟩
      · exact .inr h
    · exact .inl ⟨i, h⟩
  · rintro (⟨i, h⟩ | h)
    · refine ⟨i, ?_⟩
      unfold addB
      split
      · rename_i e; subst e; exact List.mem_append_left _ h
      · exact h
    · exact ⟨0, by unfold addB; rw [if_pos rfl]; exact List.mem_append_right _ h⟩
theorem Tr.addB {F H : Hp} {As : Own} {B : List Addr} : Tr F H (addB As B) F H As := ⟨fun _ _ h => h, fun _ _ h _ => h, fun i b h => .inl (mem_addB.mpr (.inl ⟨i, h⟩)), fun _ _ h => .inl h⟩
theorem Fr.addB {H : Hp} {As : Own} {B : List Addr} : Fr H (Mi.addB As B) B := fun b h => .inr (mem_addB.mpr (.inr h))
theorem Tr.withB {F0 H0 F H : Hp} {As0 As : Own} {B : List Addr} (T : Tr F0 H0 As0 F H As) (f : Fr H0 As0 B) : Tr F0 H0 As0 F H (Mi.addB As B) := ⟨T.ext, T.keep, fun i b h => by
  rcases mem_addB.mp ⟨i, h⟩ with ⟨j, h⟩ | h
  · exact T.own j b h
  · exact (f b h).symm, T.frz⟩
theorem Tr.noB {F H F' H' : Hp} {As As' : Own} (T : Tr F H (Mi.addB As []) F' H' As') : Tr F H As F' H' As' := by
  have e : Mi.addB As [] = As := by
    funext k
    unfold Mi.addB
    split
    · rename_i h; subst h; exact List.append_nil _
    · rfl
  rwa [e] at T
/-- only the slots in T were stored to -/
def Only (T : List Nat) (σ σ' : Sl) : Prop := (∀ k, k ∉ T → σ'[k]? = σ[k]?) ∧ σ'.length = σ.length
theorem Only.refl {T : List Nat} {σ : Sl} : Only T σ σ := ⟨fun _ _ => rfl, rfl⟩
theorem Only.trans {T T' : List Nat} {σ σ1 σ2 : Sl} (a : Only T σ σ1) (b : Only T' σ1 σ2) : Only (T ++ T') σ σ2 :=
  ⟨fun k h => (b.1 k fun z => h (List.mem_append_right _ z)).trans (a.1 k fun z => h (List.mem_append_left _ z)), b.2.trans a.2⟩
theorem Only.set {σ : Sl} {i : Nat} {x : Option V} : Only [i] σ (σ.set i x) := ⟨fun k h => List.getElem?_set_ne fun e => h (by simp [e]), List.length_set⟩
theorem Only.mono {T T' : List Nat} {σ σ1 : Sl} (a : Only T σ σ1) (h : ∀ k ∈ T, k ∈ T') : Only T' σ σ1 := ⟨fun k n => a.1 k fun z => n (h k z), a.2⟩
def tG (Γ : Gm) (io : Bool) (T : List Nat) (g : RV → M Unit) : TG := fun v σ H Q => ∃ F ρ As r B, Sta Γ F H σ ρ As ∧ RepR Γ F H σ As v r B ∧
  wpR (g r ρ) (fun _ ρ' => ∀ F' H' σ' As', Sta Γ F' H' σ' ρ' As' → Tr F H (addB As B) F' H' As' → (io = true → σ'[0]? = σ[0]?) → Only T σ σ' → Q σ' H') (fun _ _ => False)
def GM (X : Cx) (c : Addr) (io : Bool) (T : List Nat) (tg : Expr) (g : RV → M Unit) : Prop := PG X tg (tG (gm X c) io T g)
theorem PG.imp {X : Cx} {e : Expr} {t t' : TG} (h : PG X e t) (k : ∀ v σ H Q, t' v σ H Q → t v σ H Q) : PG X e t' := ⟨fun pins s σ H v u Q I r q => h.run pins s σ H v u Q I r (k v σ H Q q)⟩
def putA (As : Own) (i : Nat) (B : List Addr) : Own := fun k => if k = i then B else As k
section
variable {Γ : Gm} {F F1 H H1 : Hp} {As As1 : Own} {σ : Sl} {ρ : Env}
/-- a slot gets a thing that no slot owns -/
theorem Sta.setO {i : Nat} {o : O} {v : V} {B : List Addr} (S : Sta Γ F H σ ρ As) (r : RepO Γ F H v o B) (n : ∀ b ∈ B, ∀ i, b ∉ As i) : Sta Γ F H (σ.set i (some v)) (ρ.set i (some o)) (putA As i B) where
  sub := S.sub
  reps := fun j o' e => by
    by_cases hj : j = i
    · subst hj
      have hl : j < ρ.length := by
        have := (List.getElem?_eq_some_iff.mp e).1
        rwa [List.length_set] at this
      rw [List.getElem?_set_self hl] at e
      cases e
      refine ⟨v, by rw [List.getElem?_set_self (Nat.lt_of_lt_of_le hl S.len)], ?_⟩
      rw [show putA As j B j = B from if_pos rfl]; exact r
    · rw [List.getElem?_set_ne (Ne.symm hj)] at e
      obtain ⟨v', q, r'⟩ := S.reps j o' e
      refine ⟨v', by rw [List.getElem?_set_ne (Ne.symm hj)]; exact q, ?_⟩
      rw [show putA As i B j = As j from if_neg hj]; exact r'
  sep := fun j k a h1 h2 => by
    unfold putA at h1 h2
    by_cases hj : j = i
    · rw [if_pos hj] at h1
      by_cases hk : k = i
      · rw [hj, hk]
      · rw [if_neg hk] at h2; exact absurd h2 (n a h1 k)
    · rw [if_neg hj] at h1
      by_cases hk : k = i
      · rw [if_pos hk] at h2; exact absurd h1 (n a h2 j)
      · rw [if_neg hk] at h2; exact S.sep j k a h1 h2
  len := by rw [List.length_set, List.length_set]; exact S.len
theorem Tr.setO {F0 H0 : Hp} {As0 : Own} {i : Nat} {B : List Addr} (T : Tr F0 H0 As0 F H As) (f : Fr H0 As0 B) : Tr F0 H0 As0 F H (putA As i B) where
  ext := T.ext
  keep := T.keep
  own := fun j b h => by
    unfold putA at h
    split at h
    · exact (f b h).symm
    · exact T.own j b h
  frz := T.frz
/-- a slot is emptied -/
theorem Sta.drop {i : Nat} (S : Sta Γ F H σ ρ As) : Sta Γ F H σ (ρ.set i none) (wipeO As i) where
  sub := S.sub
  reps := fun j o' e => by
    by_cases hj : j = i
    · subst hj
      have hl : j < ρ.length := by
        have := (List.getElem?_eq_some_iff.mp e).1
        rwa [List.length_set] at this
      rw [List.getElem?_set_self hl] at e
      cases e
    · rw [List.getElem?_set_ne (Ne.symm hj)] at e
      obtain ⟨v', q, r'⟩ := S.reps j o' e
      exact ⟨v', q, by rw [show wipeO As i j = As j from if_neg hj]; exact r'⟩
  sep := fun j k a h1 h2 => by
    unfold wipeO at h1 h2
    by_cases hj : j = i
    · rw [if_pos hj] at h1; cases h1
    · rw [if_neg hj] at h1
      by_cases hk : k = i
      · rw [if_pos hk] at h2; cases h2
      · rw [if_neg hk] at h2; exact S.sep j k a h1 h2
  len := by rw [List.length_set]; exact S.len
theorem Tr.drop {F0 H0 : Hp} {As0 : Own} {i : Nat} (T : Tr F0 H0 As0 F H As) : Tr F0 H0 As0 F H (wipeO As i) := ⟨T.ext, T.keep, fun j b h => by
    unfold wipeO at h
    split at h
    · cases h
    · exact T.own j b h, T.frz⟩
end
/-- a name gets what came -/
def gNm (io : Bool) (i : Nat) : RV → M Unit := fun r ρ => if io = true ∧ i = 0 then .stuck else match r with
  | .o o => .ok () (ρ.set i (some o))
  | .at j => if io = true ∧ j = 0 then .stuck else if j = i then .ok () ρ else match ρ[j]? with
    | some (some o) => .ok () ((ρ.set j none).set i (some o))
    | _ => .stuck
def gSeq : List (RV → M Unit) → List D → M Unit
  | [], [] => M.pure ()
  | g :: gs, d :: ds => M.bind (g (.o (.val d))) fun _ => gSeq gs ds
  | _, _ => M.stuck
def tupOf : D → Option (List D)
  | .tup ds => some ds
  | _ => none
def gTp (gs : List (RV → M Unit)) : RV → M Unit := fun r => M.bind (toD r) fun d => M.bind (M.of (tupOf d)) fun ds => if ds.length = gs.length then gSeq gs ds else M.stuck
section
variable {X : Cx} {c : Addr} {io : Bool} {W : WX} {pos : Pos}
theorem set0_ne {σ : Sl} {i : Nat} {x : Option V} (h : i ≠ 0) : (σ.set i x)[0]? = σ[0]? := List.getElem?_set_ne h
theorem gNm_ok {Γ : Gm} {i : Nat} {v : V} {σ : Sl} {H : Hp} {Q : Sl → Hp → Prop} (h : tG Γ io [i] (gNm io i) v σ H Q) : gName i v σ H Q := by
  obtain ⟨F, ρ, As, r, B, S, R, w⟩ := h
  have T : Tr F H (addB As B) F H As := Tr.addB
  have f : Fr H (addB As B) B := Fr.addB
  unfold gNm at w
  split at w
  · exact w.elim
  · rename_i hio
    have hi : io = true → (σ.set i (some v))[0]? = σ[0]? := fun e => set0_ne fun z => hio ⟨e, z⟩
    cases R with
    | o q n => exact w F H _ _ (S.setO q n) (T.setO f) hi Only.set
    | @«at» j q =>
      simp only at w
      split at w
      · exact w.elim
      · split at w
        · rename_i hj
          subst hj
          have e : σ.set j (some v) = σ := by
            apply List.ext_getElem?
            intro k
            by_cases hk : k = j
            · subst hk
              rw [List.getElem?_set_self (List.getElem?_eq_some_iff.mp q).1, q]
            · rw [List.getElem?_set_ne (Ne.symm hk)]
          show Q (σ.set j (some v)) H
          rw [e]
          exact w F H σ As S T (fun _ => rfl) Only.refl
        · cases e : ρ[j]? with
          | none => rw [e] at w; exact w.elim
          | some o =>
            cases o with
            | none => rw [e] at w; exact w.elim
            | some o =>
              rw [e] at w
              obtain ⟨v', q', r⟩ := S.reps j o e
              rw [q] at q'; cases q'
              exact w F H _ _ (S.drop.setO r fun b hb k hk => by
                unfold wipeO at hk
                split at hk
                · cases hk
                · rename_i hkj; exact hkj (S.sep k j b hk hb)) (T.drop.setO fun b hb => (T.own j b hb).symm) hi Only.set
theorem gm_name {i : Nat} {x : Str} (hN : X.N.Nodup) (hi : X.N[i]? = some x := by rfl) (hx : Loc X.env.scope x := by first | exact Or.inl rfl | exact Or.inr rfl) (hf : X.fn x = true ∨ X.env.scope.names.lookup x = some .local := by first | exact .inl rfl | exact .inr rfl | assumption) : GM X c io [i] (.Name x pos) (gNm io i) :=
  PG.imp (pg_name hN hi hx hf) fun _ _ _ _ h => gNm_ok h
/-- several targets -/
def tGs (Γ : Gm) (io : Bool) (T : List Nat) (gs : List (RV → M Unit)) : TGs := fun vs σ H Q => ∃ F ρ As ds, Sta Γ F H σ ρ As ∧ RepL Γ F vs ds ∧
  wpR (gSeq gs ds ρ) (fun _ ρ' => ∀ F' H' σ' As', Sta Γ F' H' σ' ρ' As' → Tr F H As F' H' As' → (io = true → σ'[0]? = σ[0]?) → Only T σ σ' → Q σ' H') (fun _ _ => False)
def GMs (X : Cx) (c : Addr) (io : Bool) (T : List Nat) (ts : List Expr) (gs : List (RV → M Unit)) : Prop := PGs X ts (tGs (gm X c) io T gs)
theorem PGs.imp {X : Cx} {e : List Expr} {t t' : TGs} (h : PGs X e t) (k : ∀ v σ H Q, t' v σ H Q → t v σ H Q) : PGs X e t' := ⟨fun pins s σ H v u Q I r q => h.run pins s σ H v u Q I r (k v σ H Q q)⟩
theorem gms_nil : GMs X c io [] [] [] := PGs.imp pgs_nil fun vs σ H Q ⟨F, ρ, As, ds, S, r, w⟩ => by
  cases ds with
  | nil =>
    cases r
    exact ⟨rfl, w F H σ As S Tr.refl (fun _ => rfl) Only.refl⟩
  | cons => exact w.elim
theorem gms_cons {e : Expr} {es : List Expr} {g : RV → M Unit} {gs : List (RV → M Unit)} {T T' : List Nat} (h : GM X c io T e g) (hs : GMs X c io T' es gs) (he : (assignEach (e :: es) X.env).map (·.2) = assign e X.env :: (assignEach es X.env).map (·.2) := by rfl) : GMs X c io (T ++ T') (e :: es) (g :: gs) :=
  PGs.imp (pgs_cons h hs he) fun vs σ H Q ⟨F, ρ, As, ds, S, r, w⟩ => by
  cases ds with
  | nil => exact w.elim
  | cons d ds =>
    cases r with
    | cons ra rb =>
      refine ⟨_, _, rfl, F, ρ, As, .o (.val d), [], S, .o (.val ra) (fun _ h => nomatch h), ?_⟩
      refine wpR_mono (wpR_bind w) (fun _ ρ1 w1 F1 H1 σ1 As1 S1 T1 i1 n1 => ?_) fun _ _ q => q
      exact ⟨F1, ρ1, As1, ds, S1, rb.mono T1.ext, wpR_mono w1 (fun _ _ q F' H' σ' As' s t j n => q F' H' σ' As' s (T1.noB.trans t) (fun e => (j e).trans (i1 e)) (n1.trans n)) fun _ _ q => q⟩
theorem gm_tup {es : List Expr} {gs : List (RV → M Unit)} {k : Nat} (hc : X.calm = true) {T : List Nat} (h : GMs X c io T es gs) (hn : (assignEach es X.env).length = gs.length := by rfl) (hst : (assignEach es X.env).findIdx? (·.1) = none := by rfl) : GM X c io T (.Tuple es k pos) (gTp gs) :=
  PG.imp (pg_tup (n := gs.length) hc h hn hst) fun v σ H Q ⟨F, ρ, As, r, B, S, R, w⟩ => by
  obtain ⟨d, ρ1, F1, As1, r1, S1, T1, w1⟩ := toD_ok S Tr.addB Fr.addB R w
  obtain ⟨ds, ed, w2⟩ := wpR_of (wpR_bind w1)
  cases d <;> simp only [tupOf] at ed <;> try (cases ed; done)
  cases ed
  cases r1 with
  | tup a b =>
    obtain ⟨hl, w3⟩ := wpR_ite w2
    exact ⟨_, _, rfl, sqT_mono S1.sub a, b.length.trans hl, F1, ρ1, As1, _, S1, b, wpR_mono w3 (fun _ _ q F' H' σ' As' s t j n => q F' H' σ' As' s (T1.trans t) j n) fun _ _ q => q⟩

/-! ### assignments -/
def mAsg (m : M RV) (g : RV → M Unit) : M Ctl := M.bind m fun r => M.bind (g r) fun _ => M.pure .nx
variable {e tg : Expr} {m ma mb : M RV} {g : RV → M Unit}
/-- targets raise nothing -/
def Quiet (g : RV → M Unit) : Prop := ∀ r ρ x ρ', g r ρ ≠ .ex x ρ'
theorem bind_ex {α β : Type} {m : M α} {f : α → M β} {ρ : Env} {x : Ex} {ρ' : Env} (h : M.bind m f ρ = .ex x ρ') : m ρ = .ex x ρ' ∨ ∃ a ρ1, m ρ = .ok a ρ1 ∧ f a ρ1 = .ex x ρ' := by
  unfold M.bind at h
  cases e : m ρ with
  | ok a ρ1 => rw [e] at h; exact .inr ⟨a, ρ1, rfl, h⟩
  | ex y ρ1 => rw [e] at h; cases h; exact .inl rfl
  | stuck => rw [e] at h; cases h
theorem of_ex {α : Type} {o : Option α} {ρ : Env} {x : Ex} {ρ' : Env} : M.of o ρ ≠ .ex x ρ' := by
  cases o <;> intro h <;> cases h
theorem toD_ex {r : RV} {ρ : Env} {x : Ex} {ρ' : Env} : toD r ρ ≠ .ex x ρ' := by
  cases r with
  | o o => exact of_ex
  | «at» i =>
    intro h
    simp only [toD] at h
    split at h
    · split at h <;> cases h
    · cases h
theorem quiet_nm {i : Nat} : Quiet (gNm io i) := fun r ρ x ρ' h => by
  unfold gNm at h
  split at h
  · cases h
  · cases r with
    | o o => cases h
    | «at» j =>
      simp only at h
      split at h
      · cases h
      · split at h
        · cases h
        · split at h <;> cases h
theorem quiet_seq : ∀ {gs : List (RV → M Unit)}, (∀ g ∈ gs, Quiet g) → ∀ ds ρ x ρ', gSeq gs ds ρ ≠ .ex x ρ'
  | [], _, [], _, _, _, h => by cases h
  | [], _, _ :: _, _, _, _, h => by cases h
  | _ :: _, _, [], _, _, _, h => by cases h
  | g :: gs, q, d :: ds, ρ, x, ρ', h => by
    unfold gSeq at h
    rcases bind_ex h with h | ⟨_, ρ1, _, h⟩
    · exact q g List.mem_cons_self _ _ _ _ h
    · exact quiet_seq (fun g hg => q g (List.mem_cons_of_mem _ hg)) ds ρ1 x ρ' h
theorem quiet_tp {gs : List (RV → M Unit)} (q : ∀ g ∈ gs, Quiet g) : Quiet (gTp gs) := fun r ρ x ρ' h => by
  unfold gTp at h
  rcases bind_ex h with h | ⟨d, ρ1, _, h⟩
  · exact toD_ex h
  · rcases bind_ex h with h | ⟨ds, ρ2, _, h⟩
    · exact of_ex h
    · split at h
      · exact quiet_seq q ds ρ2 x ρ' h
      · cases h
theorem wpR_quiet {α : Type} {r : Rs α} {po : α → Env → Prop} {xp xp' : Ex → Env → Prop} (h : wpR r po xp) (n : ∀ x ρ, r ≠ .ex x ρ) : wpR r po xp' := by
  cases r with
  | ok a ρ => exact h
  | ex x ρ => exact absurd rfl (n x ρ)
  | stuck => exact h
theorem sm_asg {T : List Nat} (he : PM X c W e m) (hg : GM X c io T tg g) (qg : Quiet g) (hs : swapsWithSole [tg] e pos.line X.env = pure false := by rfl) (hw : swappedStores [tg] e X.env = pure none := by rfl)
    (h1 : (assignEach [tg] X.env).map (·.2) = [assign tg X.env] := by rfl) : SM X c io W (.Assign [tg] e pos) (mAsg m g) := PS.imp (ps_asg he hg hs hw h1) fun D σ H ⟨F, ρ, As, S, w⟩ => by
  refine tM_seq S w (fun _ _ q => q.e) fun r ρ1 F1 H1 v1 As1 B1 w1 S1 T1 f1 R1 => ?_
  exact ⟨F1, ρ1, As1, r, B1, S1, R1, wpR_quiet (wpR_mono (wpR_bind w1) (fun _ ρ2 w2 F2 H2 σ2 As2 S2 T2 i2 n2 => w2 F2 H2 σ2 As2 S2 ((T1.withB f1).trans T2) i2) fun _ _ q => q) fun x ρ => qg r ρ1 x ρ⟩
theorem sm_set {i : Nat} {x : Str} {pos' : Pos} (hN : X.N.Nodup) (he : PM X c W e m) (hi : X.N[i]? = some x := by rfl) (hx : Loc X.env.scope x := by first | exact Or.inl rfl | exact Or.inr rfl) (hs : swapsWith e (some (.Name x pos')) pos.line X.env = pure false := by rfl) (hf : X.fn x = true ∨ X.env.scope.names.lookup x = some .local := by first | exact .inl rfl | exact .inr rfl | assumption) :
    SM X c io W (.Assign [.Name x pos'] e pos) (mAsg m (gNm io i)) := PS.imp (ps_set hN hi hx he hs hf) fun D σ H ⟨F, ρ, As, S, w⟩ => by
  refine tM_seq S w (fun _ _ q => q.e) fun r ρ1 F1 H1 v1 As1 B1 w1 S1 T1 f1 R1 => ?_
  refine gNm_ok (Γ := gm X c) (io := io) ⟨F1, ρ1, As1, r, B1, S1, R1, wpR_quiet (wpR_mono (wpR_bind w1) (fun _ ρ2 w2 F2 H2 σ2 As2 S2 T2 i2 n2 => w2 F2 H2 σ2 As2 S2 ((T1.withB f1).trans T2) i2) fun _ _ q => q) fun x ρ => quiet_nm r ρ1 x ρ⟩
/-- a, b = x, y: two names, both sides written -/
def mPar (io : Bool) (i j : Nat) (ma mb : M RV) : M Ctl := M.bind ma fun ra => M.bind mb fun rb => fun ρ => match ra, rb with
  | .o a, .o b => if io = true ∧ (i = 0 ∨ j = 0) then .stuck else .ok .nx ((ρ.set i (some a)).set j (some b))
  | _, _ => .stuck
theorem sm_par {i j : Nat} {x y : Str} {a b : Expr} {px py pt : Pos} {kt k2 pt2} (hc : X.calm = true) (hN : X.N.Nodup) (ha : PM X c W a ma) (hb : PM X c W b mb) (hi : X.N[i]? = some x := by rfl) (hj : X.N[j]? = some y := by rfl) (hij : i ≠ j := by decide)
    (hx : X.env.scope.names.lookup x = some .local := by rfl) (hy : X.env.scope.names.lookup y = some .local := by rfl) (hs1 : starEach [a, b] X.env = (false, eval a X.env) :: starEach [b] X.env := by rfl) (hs2 : starEach [b] X.env = (false, eval b X.env) :: starEach [] X.env := by rfl)
    (hw : swappedStores [.Tuple [.Name x px, .Name y py] kt pt] (.Tuple [a, b] k2 pt2) X.env = pure (some [x, y]) := by rfl)
    (hs : swapsWithSole [.Tuple [.Name x px, .Name y py] kt pt] (.Tuple [a, b] k2 pt2) pos.line X.env = pure false := by rfl) :
    SM X c io W (.Assign [.Tuple [.Name x px, .Name y py] kt pt] (.Tuple [a, b] k2 pt2) pos) (mPar io i j ma mb) := PS.imp (ps_par hc hN hi hj hij hx hy (pa_cons ha (pa_cons hb pa_nil hs2) hs1) hw hs) fun D σ H ⟨F, ρ, As, S, w⟩ => by
  refine tM_seq S w (fun _ _ q => q.e) fun ra ρ1 F1 H1 v1 As1 B1 w1 S1 T1 f1 R1 => ?_
  refine tM_seq S1 w1 (fun _ _ q => q.e.tr T1) fun rb ρ2 F2 H2 v2 As2 B2 w2 S2 T2 f2 R2 => ?_
  refine ⟨v1, v2, rfl, ?_⟩
  have R1' := R1.tr T2
  cases R1' with
  | «at» => cases R2 <;> exact w2.elim
  | o r1 n1 =>
    cases R2 with
    | «at» => exact w2.elim
    | o r2 n2 =>
      simp only at w2
      split at w2
      · exact w2.elim
      · rename_i hio
        have apart : ∀ b ∈ B2, ∀ k, b ∉ putA As2 i B1 k := fun b hb k hk => by
          unfold putA at hk
          split at hk
          · have e1 : ∃ u, H1 b = some u := by
              cases R1 with
              | o r1' _ => exact r1'.live b hk
            obtain ⟨u, e1⟩ := e1
            rcases f2 b hb with q | ⟨k', q⟩
            · rw [e1] at q; cases q
            · cases R1 with
              | o _ n1' => exact n1' b hk k' q
          · exact n2 b hb k hk
        have S3 := (S2.setO (i := i) r1 n1).setO (i := j) r2 apart
        have T12 := T1.trans T2
        have T3 : Tr F H As F2 H2 (putA (putA As2 i B1) j B2) := (T12.setO f1).setO (f2.back T1)
        exact w2 F2 H2 _ _ S3 T3 fun e => by
          rw [set0_ne fun z => hio ⟨e, .inr z⟩, set0_ne fun z => hio ⟨e, .inl z⟩]
end
end Mi

set_option Elab.async false
set_option linter.all false
set_option autoImplicit false
set_option maxRecDepth 100000
set_option maxHeartbeats 4000000
namespace Mi
open PySem PySem.Spec PyProof.Rows L2

/-! ### enumerate of a tuple -/
theorem meets_enumT (l : Addr) (items : Array Value) (n : Nat) (dct : Option Addr) (sl : Array (Option Value)) :
    Meets (Builtin.«enumerate.__new__» ⟨[.type "enumerate", .ref l], []⟩) (fun _ R s => s.heap.get? l = some { cls := .type "tuple", dict := dct, data := .seq items n, slots := sl } ∧
      R (.ok (.ret (.ref (s.heap.push { cls := .type "tuple_iterator", data := .fields #[.ref l, .int 0 0] }).objs.size)))
        { s with heap := (s.heap.push { cls := .type "tuple_iterator", data := .fields #[.ref l, .int 0 0] }).push { cls := .type "enumerate", data := .fields #[.none, .bool false, .ref s.heap.objs.size, rawInt 0, .none, .none] } }) :=
  .of_wp fun prog w A R s h => by
    obtain ⟨hp, g, d, tk, os⟩ := s
    obtain ⟨hl, h⟩ := h
    have hsub := sub_enumerate
    have hT : Heap.IsTuple (Shared.heap ⟨hp, g, d, tk, os⟩) l items := ⟨_, hl, rfl, n, rfl⟩
    wp_walk using AutoSeq1.wpAny_loadPart' hl
    refine wpAny_stack_any fun st => wpAny_pure ?_
    split
    · rename_i cc _ _ _ _ _
      cases (cc == Value.type "enumerate")
      · wp_walk using AutoSeq1.wpAny_loadPart' hl, wpAny_pyIter_tuple hT
        exact ⟨_, rfl, h⟩
      · wp_walk using AutoSeq1.wpAny_loadPart' hl, wpAny_pyIter_tuple hT
        exact ⟨_, rfl, h⟩
    · wp_walk using AutoSeq1.wpAny_loadPart' hl, wpAny_pyIter_tuple hT
      exact ⟨_, rfl, h⟩
theorem call_enumT {prog : Program} {w : World} {A : Around} {E : Value → Shared → Prop} {s : Shared} {l : Addr} {items : Array Value} {Q : Value → Shared → Prop} (hL : s.heap.IsTuple l items)
    (h : ∀ h', IsEnum h' (s.heap.objs.size + 1) s.heap.objs.size 0 .none → h'.IsTupleIter s.heap.objs.size l 0 → h'.objs.size = s.heap.objs.size + 2 → (∀ b o, s.heap.get? b = some o → h'.get? b = some o) → Q (.ref (s.heap.objs.size + 1)) { s with heap := h' }) :
    wpAny (model prog w) A (call (.type "enumerate") [.ref l]) Q E s := by
  obtain ⟨⟨c, dct, dt, sl⟩, hl, hc, n, hd⟩ := hL
  obtain rfl : c = .type "tuple" := hc
  obtain rfl : dt = .seq items n := hd
  refine callType_new F.called_enumerate (by decide) (F.typeCall_enumerate_1 _) (F.newCall_enumerate_1 _) (fun obj => F.args_object_init_2 obj _) F.entry_enumerate_new (meets_enumT l items n dct sl) ⟨hl, ?_⟩
  generalize hh : s.heap.push { cls := .type "tuple_iterator", data := .fields #[.ref l, .int 0 0] } = h1
  have hz : h1.objs.size = s.heap.objs.size + 1 := by rw [← hh]; exact Heap.size_push ..
  have hit : h1.get? s.heap.objs.size = some { cls := .type "tuple_iterator", data := .fields #[.ref l, .int 0 0] } := by rw [← hh]; exact Heap.get?_push_size _ rfl
  have hkk : ∀ b o, s.heap.get? b = some o → h1.get? b = some o := fun b o x => by rw [← hh]; exact Heap.get?_push_of_some _ x
  clear hh
  show _ ∧ _
  rw [hz]
  have he : IsEnum (h1.push { cls := .type "enumerate", data := .fields #[.none, .bool false, .ref s.heap.objs.size, rawInt 0, .none, .none] }) (s.heap.objs.size + 1) s.heap.objs.size 0 .none := by
    have q := Heap.get?_push_size h1 (o := { cls := .type "enumerate", data := .fields #[.none, .bool false, .ref s.heap.objs.size, rawInt 0, .none, .none] }) rfl
    rwa [hz] at q
  exact ⟨⟨_, he, rfl⟩, h _ he ⟨_, Heap.get?_push_of_some _ hit, rfl, rfl⟩ (by rw [Heap.size_push, hz]) fun b o x => Heap.get?_push_of_some _ (hkk b o x)⟩
/-- the tuple at a, each item in a new pair -/
def ItET (K : PySem.W.Frag) (a : Addr) : It :=
  ⟨fun i H => ∃ (xs : List V) (x : V), SqT K H a xs ∧ xs[i]? = some x, fun i H v H' => ∃ T x, v = .ref T ∧ H T = none ∧ H' = upd H T (.tup [.int (i : Nat), x]) ∧ ∀ xs, SqT K H a xs → xs[i]? = some x, fun i H => ∃ xs : List V, SqT K H a xs ∧ xs.length ≤ i⟩
theorem turn_enumT {P : Program} {w : World} {K : PySem.W.Frag} {elts : List Expr} {kk : Nat} {tpos : Pos} (a e it : Addr) (hae : a ≠ e) (hai : a ≠ it) :
    Turn P w K (.Tuple elts kk tpos) (ItET K a) [e, it] e (fun i h => (∃ old, IsEnum h e it ((i : Nat) : Int) old) ∧ h.IsTupleIter it a i ∧ e ≠ it) where
  mem := List.mem_cons_self
  obj := fun i h st b hb => by
    obtain ⟨⟨old, he⟩, ⟨o, ho, hc, hd⟩, _⟩ := st
    rcases List.mem_cons.mp hb with rfl | hb
    · exact ⟨_, he, fun v q => nomatch q⟩
    · rcases List.mem_singleton.mp hb with rfl
      exact ⟨o, ho, fun v q => by rw [hd] at q; cases q⟩
  keep := fun i h h' st k => ⟨let ⟨old, he⟩ := st.1; ⟨old, k e (by simp) _ he⟩, st.2.1.at fun o q => k it (by simp) o q, st.2.2⟩
  item := by
    intro X hP hw hK hc i pins s σ H E I hf st hg
    subst hP hw hK
    obtain ⟨⟨old, he⟩, hit, hne⟩ := st
    obtain ⟨xs, x, hq, hx⟩ := hg
    obtain ⟨its, rv, p, hz⟩ := I.tuple hq
    obtain ⟨u, hu, ru⟩ := rv.get hx
    have hel : e < s.heap.objs.size := Heap.lt_size he
    have hil : it < s.heap.objs.size := by obtain ⟨_, q, _⟩ := hit; exact Heap.lt_size q
    have hiu : its.toArray[i]? = some u := by simpa using hu
    have hin : i < its.toArray.size := (Array.getElem?_eq_some_iff.mp hiu).1
    refine wpAny_pyNext_enum_itemD (Draws.tuple (A := X.A.in1) (I.ok.hd hc) it a hai its.toArray) he ⟨hit, p⟩ hin hne (by simp [hne, Ne.symm hae]) fun y h' tk hy ho hst hT hsz hk => ?_
    rw [hiu] at hy
    cases hy
    refine ⟨_, rfl, wpAny_letOwnedTupleGo_enum (s := { s with heap := h', toks := tk + 1 }) ho fun h'' he' sb => ?_⟩
    have hT2 : h''.get? s.heap.objs.size = some { cls := .type "tuple", data := .seq #[.int i tk, u] } := (sb.2 _ (Nat.ne_of_gt hel)).trans hT
    have new : ObjOk X.prog X.w (upd H s.heap.objs.size (.tup [.int (i : Nat), x])) h'' s.heap.objs.size (.tup [.int (i : Nat), x]) :=
      ⟨by show 2 ≤ sizeLine; decide, [.int i tk, u], .cons ⟨_, rfl⟩ (.cons ru .nil), ⟨_, hT2, rfl, _, rfl⟩⟩
    have I1 : Inv X pins σ (upd H s.heap.objs.size (.tup [.int (i : Nat), x])) { s with heap := h'', toks := tk + 1 } :=
      I.turnedNew (ch := [e, it]) (fun b ob hb q => (sb.2 b (fun z => hb (by simp [z]))).trans (hk b ob (fun z => hb (by simp [z])) (fun z => hb (by simp [z])) q)) hf (Nat.le_refl _) new
    refine ⟨.ref s.heap.objs.size, _, I1, rfl, ⟨_, x, rfl, I.hok.fresh (Nat.le_refl _), rfl, fun ys hy => by rw [I.tuple_inj hy hq]; exact hx⟩, ⟨⟨u, ?_⟩, hst.1.at fun o q => (sb.2 it (Ne.symm hne)).trans q, hne⟩, fun b hb => ?_⟩
    · have e1 : ((i + 1 : Nat) : Int) = (i : Int) + 1 := by omega
      rw [e1]; exact he'
    · have hb' : b < s.heap.objs.size := by
        rcases List.mem_cons.mp hb with rfl | hb
        · exact hel
        · rcases List.mem_singleton.mp hb with rfl
          exact hil
      rw [upd_ne (Nat.ne_of_lt hb')]
      exact (hf b hb).1
  done := by
    intro X hP hw hK hc i pins s σ H E I hf st hg
    subst hP hw hK
    obtain ⟨⟨old, he⟩, hit, hne⟩ := st
    obtain ⟨xs, hq, hx⟩ := hg
    obtain ⟨its, rv, p, hz⟩ := I.tuple hq
    obtain ⟨f0, f1, f2, f3, f4, f5⟩ := hf it (by simp)
    have hl := rv.length
    have hT : s.TypeIs (.ref e) "enumerate" := ⟨_, he, rfl⟩
    unfold pyNext
    refine wpAny_bind (wpAny_attempt (wpAny_callSpecial?_slot (name := Str.ofString "__next__") hT F.slot_enumerate_next
      (wpAny_call_entry F.slot_enumerate_next hT F.entry_enumerate_next ?_ (F.args_enumerate_next_1 _))))
    show wpAny _ _ (field (.ref e) 2 >>= _) _ _ _
    refine wpAny_bind (wpAny_field he rfl (x := .ref it) rfl ?_)
    refine wpAny_bind (wpAny_nextOf_tuple_end (A := X.A.in1) (I.ok.hd hc) hit (show s.heap.IsTuple a its.toArray from p) (by simp; omega) fun h' xx he' hx' => ?_)
    obtain ⟨o, ho, hcc⟩ := hx'
    refine wpAny_bind (wpAny_isInstance (T := "StopIteration") (b := true) ⟨o, ho, hcc⟩ isSubtype_stop ?_)
    exact wpAny_pure ⟨rfl, I.turned (t' := s.toks) (fun b o hb q => he' b o hb q) f0 f1 f3 f4 f5⟩
  self := fun A i s Q E st h => let ⟨⟨_, he⟩, _⟩ := st; wpAny_pyIter_enum he h

/-! ### what a loop walks: the row of its things -/
def WalkD (Γ : Gm) (F : Hp) (ds : List D) (J : It) : Prop := ∀ F2 H2, Same F F2 → Same F2 H2 →
  (∀ i, i < ds.length → J.go i H2 ∧ ∀ x H3, J.yld i H2 x H3 → ∃ F3 d, ds[i]? = some d ∧ Grow F2 H2 F3 H3 ∧ Rep Γ F3 x d) ∧ J.stop ds.length H2
def pI (Γ : Gm) (F H : Hp) (σ : Sl) (As : Own) (R : It → Hp → Prop) : List D → Env → Prop := fun ds ρ' =>
  ∀ F' H' As' J, Sta Γ F' H' σ ρ' As' → Tr F H As F' H' As' → WalkD Γ F' ds J → R J H'
def tMI (Γ : Gm) (W : WX) (m : M (List D)) : TI := fun σ H R => ∃ F ρ As, Sta Γ F H σ ρ As ∧ wpR (m ρ) (pI Γ F H σ As R) (pX Γ W F H σ As)
def IM (X : Cx) (c : Addr) (W : WX) (tg iter : Expr) (m : M (List D)) : Prop := PI X tg iter (tMI (gm X c) W m)
theorem PI.imp {X : Cx} {tg e : Expr} {t t' : TI} (h : PI X tg e t) (k : ∀ σ H Q, t' σ H Q → t σ H Q) : PI X tg e t' := ⟨fun pins s σ H Q I q => h.run pins s σ H Q I (k σ H Q q)⟩
section
variable {Γ : Gm} {F : Hp}
theorem walkD_list {a : Addr} {xs : List V} {ds : List D} (h : SqL Γ.K F a xs) (r : RepL Γ F xs ds) : WalkD Γ F ds (Itl Γ.K a) := fun F2 H2 s1 s2 => by
  have hq : SqL Γ.K H2 a xs := (s1.trans s2).seq h
  refine ⟨fun i hi => ?_, ⟨xs, hq, by rw [r.length]; exact Nat.le_refl _⟩⟩
  obtain ⟨v, hv, rv⟩ := r.get (show ds[i]? = some ds[i] by simp [hi])
  refine ⟨⟨xs, v, hq, hv⟩, fun x H3 y => ?_⟩
  obtain ⟨e, y⟩ := y
  subst e
  have := y xs hq
  rw [hv] at this
  cases this
  exact ⟨F2, ds[i], by simp [hi], Grow.refl s2, rv.mono s1⟩
theorem walkD_tup {a : Addr} {xs : List V} {ds : List D} (h : SqT Γ.K F a xs) (r : RepL Γ F xs ds) : WalkD Γ F ds (Itt Γ.K a) := fun F2 H2 s1 s2 => by
  have hq : SqT Γ.K H2 a xs := sqT_mono (s1.trans s2) h
  refine ⟨fun i hi => ?_, ⟨xs, hq, by rw [r.length]; exact Nat.le_refl _⟩⟩
  obtain ⟨v, hv, rv⟩ := r.get (show ds[i]? = some ds[i] by simp [hi])
  refine ⟨⟨xs, v, hq, hv⟩, fun x H3 y => ?_⟩
  obtain ⟨e, y⟩ := y
  subst e
  have := y xs hq
  rw [hv] at this
  cases this
  exact ⟨F2, ds[i], by simp [hi], Grow.refl s2, rv.mono s1⟩
def signsD (z : Str) : List D := z.cps.toList.map fun c => .str ⟨#[c]⟩
theorem walkD_str {z : Str} : WalkD Γ F (signsD z) (Its z) := fun F2 H2 s1 s2 => by
  have hl : (signsD z).length = z.cps.size := by simp [signsD]
  refine ⟨fun i hi => ⟨by rw [hl] at hi; exact hi, fun x H3 y => ?_⟩, by rw [hl]; exact Nat.le_refl _⟩
  obtain ⟨e, c, hc, hx⟩ := y
  subst e
  subst hx
  refine ⟨F2, .str ⟨#[c]⟩, ?_, Grow.refl s2, .str _⟩
  simp only [signsD, List.getElem?_map, Array.getElem?_toList]
  rw [hc]; rfl
def rangeD (lo : Int) (n : Nat) : List D := (List.range n).map fun (i : Nat) => .int (lo + i)
theorem walkD_range {lo : Int} {n : Nat} : WalkD Γ F (rangeD lo n) (Itr lo n) := fun F2 H2 s1 s2 => by
  have hl : (rangeD lo n).length = n := by simp [rangeD]
  refine ⟨fun i hi => ⟨by rw [hl] at hi; exact hi, fun x H3 y => ?_⟩, by rw [hl]; exact Nat.le_refl _⟩
  obtain ⟨e, hx⟩ := y
  subst e
  subst hx
  refine ⟨F2, .int (lo + i), ?_, Grow.refl s2, .int _⟩
  have hi' : i < n := by rw [hl] at hi; exact hi
  simp [rangeD, hi']
/-- pairs of a number and a thing -/
def enumD (ds : List D) : List D := (List.range ds.length).map fun i => .tup [.int (i : Nat), ds.getD i .non]
theorem enumD_get {ds : List D} {i : Nat} (hi : i < ds.length) : (enumD ds)[i]? = some (.tup [.int (i : Nat), ds[i]]) := by
  simp [enumD, hi]
theorem pair_new {F2 H2 : Hp} (s2 : Same F2 H2) {T : Addr} {x y : V} {d e : D} (n : H2 T = none) (rx : Rep Γ F2 x d) (ry : Rep Γ F2 y e) : Grow F2 H2 (upd F2 T (.tup [x, y])) (upd H2 T (.tup [x, y])) ∧ Rep Γ (upd F2 T (.tup [x, y])) (.ref T) (.tup [d, e]) :=
  ⟨Grow.frz1 s2 n, (new_tup s2 n (.cons rx (.cons ry .nil))).vval.1⟩
theorem walkD_enum {a : Addr} {xs : List V} {ds : List D} (h : SqL Γ.K F a xs) (r : RepL Γ F xs ds) : WalkD Γ F (enumD ds) (Ite Γ.K a) := fun F2 H2 s1 s2 => by
  have hl : (enumD ds).length = ds.length := by simp [enumD]
  have hq : SqL Γ.K H2 a xs := (s1.trans s2).seq h
  refine ⟨fun i hi => ?_, ⟨xs, hq, by rw [hl, r.length]; exact Nat.le_refl _⟩⟩
  rw [hl] at hi
  obtain ⟨v, hv, rv⟩ := r.get (show ds[i]? = some ds[i] by simp [hi])
  refine ⟨⟨xs, v, hq, hv⟩, fun x H3 y => ?_⟩
  obtain ⟨T, x, rfl, n, rfl, y⟩ := y
  have := y xs hq
  rw [hv] at this
  cases this
  obtain ⟨g, rr⟩ := pair_new s2 n (Rep.int (Γ := Γ) (i : Nat)) (rv.mono s1)
  exact ⟨_, _, enumD_get hi, g, rr⟩
theorem walkD_enumT {a : Addr} {xs : List V} {ds : List D} (h : SqT Γ.K F a xs) (r : RepL Γ F xs ds) : WalkD Γ F (enumD ds) (ItET Γ.K a) := fun F2 H2 s1 s2 => by
  have hl : (enumD ds).length = ds.length := by simp [enumD]
  have hq : SqT Γ.K H2 a xs := sqT_mono (s1.trans s2) h
  refine ⟨fun i hi => ?_, ⟨xs, hq, by rw [hl, r.length]; exact Nat.le_refl _⟩⟩
  rw [hl] at hi
  obtain ⟨v, hv, rv⟩ := r.get (show ds[i]? = some ds[i] by simp [hi])
  refine ⟨⟨xs, v, hq, hv⟩, fun x H3 y => ?_⟩
  obtain ⟨T, x, rfl, n, rfl, y⟩ := y
  have := y xs hq
  rw [hv] at this
  cases this
  obtain ⟨g, rr⟩ := pair_new s2 n (Rep.int (Γ := Γ) (i : Nat)) (rv.mono s1)
  exact ⟨_, _, enumD_get hi, g, rr⟩
/-- pairs -/
def zipD (ds es : List D) : List D := List.zipWith (fun d e => .tup [d, e]) ds es
theorem walkD_zip {a b : Addr} {xs ys : List V} {ds es : List D} (h : SqL Γ.K F a xs) (r : RepL Γ F xs ds) (h' : SqL Γ.K F b ys) (r' : RepL Γ F ys es) : WalkD Γ F (zipD ds es) (Itz Γ.K a b) := fun F2 H2 s1 s2 => by
  have hq : SqL Γ.K H2 a xs := (s1.trans s2).seq h
  have hq' : SqL Γ.K H2 b ys := (s1.trans s2).seq h'
  have hl : (zipD ds es).length = min ds.length es.length := by simp [zipD]
  refine ⟨fun i hi => ?_, ⟨xs, ys, hq, hq', by rw [hl, r.length, r'.length]; omega⟩⟩
  have h1 : i < ds.length := by omega
  have h2 : i < es.length := by omega
  obtain ⟨v, hv, rv⟩ := r.get (show ds[i]? = some ds[i] by simp [h1])
  obtain ⟨u, hu, ru⟩ := r'.get (show es[i]? = some es[i] by simp [h2])
  refine ⟨⟨xs, ys, v, u, hq, hq', hv, hu⟩, fun x H3 y => ?_⟩
  obtain ⟨T, x, z, rfl, n, rfl, y, y'⟩ := y
  have e1 := y xs hq
  rw [hv] at e1
  cases e1
  have e2 := y' ys hq'
  rw [hu] at e2
  cases e2
  obtain ⟨g, rr⟩ := pair_new s2 n (rv.mono s1) (ru.mono s1)
  refine ⟨_, .tup [ds[i], es[i]], ?_, g, rr⟩
  simp [zipD, List.getElem?_zipWith, h1, h2]
theorem walkD_zipT {a b : Addr} {xs ys : List V} {ds es : List D} (h : SqT Γ.K F a xs) (r : RepL Γ F xs ds) (h' : SqT Γ.K F b ys) (r' : RepL Γ F ys es) : WalkD Γ F (zipD ds es) (RZ.ItzT Γ.K a b) := fun F2 H2 s1 s2 => by
  have hq : SqT Γ.K H2 a xs := sqT_mono (s1.trans s2) h
  have hq' : SqT Γ.K H2 b ys := sqT_mono (s1.trans s2) h'
  have hl : (zipD ds es).length = min ds.length es.length := by simp [zipD]
  refine ⟨fun i hi => ?_, ⟨xs, ys, hq, hq', by rw [hl, r.length, r'.length]; omega⟩⟩
  have h1 : i < ds.length := by omega
  have h2 : i < es.length := by omega
  obtain ⟨v, hv, rv⟩ := r.get (show ds[i]? = some ds[i] by simp [h1])
  obtain ⟨u, hu, ru⟩ := r'.get (show es[i]? = some es[i] by simp [h2])
  refine ⟨⟨xs, ys, v, u, hq, hq', hv, hu⟩, fun x H3 y => ?_⟩
  obtain ⟨T, x, z, rfl, n, rfl, y, y'⟩ := y
  have e1 := y xs hq
  rw [hv] at e1
  cases e1
  have e2 := y' ys hq'
  rw [hu] at e2
  cases e2
  obtain ⟨g, rr⟩ := pair_new s2 n (rv.mono s1) (ru.mono s1)
  refine ⟨_, .tup [ds[i], es[i]], ?_, g, rr⟩
  simp [zipD, List.getElem?_zipWith, h1, h2]
end
def itemsD : D → Option (List D)
  | .lst ds => some ds
  | .tup ds => some ds
  | .scr ds => some ds
  | .str z => some (signsD z)
  | _ => none
def mIter (m : M RV) : M (List D) := M.bind m fun r => M.bind (toD r) fun d => M.of (itemsD d)
/-- a list, a tuple or a text that is walked -/
def iAny (K : PySem.W.Frag) (te : TE) : TI := fun σ H R => te σ H fun v H1 => (∃ a xs, v = .ref a ∧ SqL K H1 a xs ∧ R (Itl K a) H1) ∨ (∃ a xs, v = .ref a ∧ SqT K H1 a xs ∧ R (Itt K a) H1) ∨ ∃ z, v = .str z ∧ R (Its z) H1
theorem pi_any {X : Cx} {tg l : Expr} {tl : TE} (hl : PE X l tl) : PI X tg l (iAny X.K tl) := by
  refine ⟨fun pins s σ H R I h => ?_⟩
  refine thn (hl.run pins s σ H _ I h) fun v s1 ⟨x, H1, I1, r1, q1⟩ => ?_
  have new : ∀ b, b ∈ [s1.heap.objs.size] → FpOk X pins H1 b := fun b hb => by
    rcases List.mem_singleton.mp hb with rfl
    exact I1.fpOk (Nat.le_refl _) (I1.hok.fresh (Nat.le_refl _))
  rcases q1 with ⟨a, xs, rfl, hq, q⟩ | ⟨a, xs, rfl, hq, q⟩ | ⟨z, rfl, q⟩
  · cases r1
    obtain ⟨its, rv, p, hz⟩ := I1.list hq
    exact wpAny_pyIter_list p.isList ⟨_, _, _, _, H1, rfl, I1.kept (t' := s1.toks) fun b o e => Heap.get?_push_of_some _ e, turn_list a _, ⟨_, Heap.get?_push_size _ rfl, rfl, rfl⟩, new, q⟩
  · cases r1
    obtain ⟨its, rv, p, hz⟩ := I1.tuple hq
    exact wpAny_pyIter_tuple (show s1.heap.IsTuple a its.toArray from p) ⟨_, _, _, _, H1, rfl, I1.kept (t' := s1.toks) fun b o e => Heap.get?_push_of_some _ e, turn_tuple a _, ⟨_, Heap.get?_push_size _ rfl, rfl, rfl⟩, new, q⟩
  · obtain ⟨t, rfl⟩ := r1
    cases ha : z.cps.all (· < 128)
    · exact wpAny_pyIter_wide ha (pi_one (tk := s1.toks) I1 _ (turn_str _ z t "str_iterator" (.inr rfl)) ⟨_, Heap.get?_push_size _ rfl, rfl, rfl⟩ q)
    · exact wpAny_pyIter_ascii ha (pi_one (tk := s1.toks) I1 _ (turn_str _ z t "str_ascii_iterator" (.inl rfl)) ⟨_, Heap.get?_push_size _ rfl, rfl, rfl⟩ q)
section
variable {X : Cx} {c : Addr} {W : WX} {tg e a b : Expr} {m ma mb : M RV} {p pos : Pos}
theorem im_any (h : PM X c W e m) : IM X c W tg e (mIter m) := PI.imp (pi_any h) fun σ H R ⟨F, ρ, As, S, w⟩ => by
  refine tM_seq S w (fun _ _ q => q) fun r ρ1 F1 H1 v1 As1 B1 w1 S1 T1 f1 R1 => ?_
  obtain ⟨d, ρ2, F2, As2, r2, S2, T2, w2⟩ := toD_ok S1 T1 f1 R1 w1
  obtain ⟨ds, ed, w3⟩ := wpR_of w2
  cases d <;> simp only [itemsD] at ed <;> try (cases ed; done)
  · cases ed
    cases r2
    exact .inr (.inr ⟨_, rfl, w3 F2 H1 As2 _ S2 T2 walkD_str⟩)
  · cases ed
    cases r2 with
    | tup x y => exact .inr (.inl ⟨_, _, rfl, sqT_mono S2.sub x, w3 F2 H1 As2 _ S2 T2 (walkD_tup x y)⟩)
  · cases ed
    cases r2 with
    | lst x y => exact .inl ⟨_, _, rfl, SqL.of (S2.sub _ _ x), w3 F2 H1 As2 _ S2 T2 (walkD_list (SqL.of x) y)⟩
  · cases ed
    cases r2 with
    | scr x y => exact .inl ⟨_, _, rfl, S2.sub.seq x, w3 F2 H1 As2 _ S2 T2 (walkD_list x y)⟩
def rngOk (i : Int) : Bool := decide (-(2 ^ 62) ≤ i) && decide (i < 2 ^ 62)
def mRange1 (m : M RV) : M (List D) := M.bind m fun r => M.bind (peek r) fun d => M.bind (M.of (intD d)) fun i => if rngOk i = true then M.pure (rangeD 0 i.toNat) else M.stuck
def mRange2 (a b : M RV) : M (List D) := M.bind a fun ra => M.bind b fun rb => M.bind (peek ra) fun x => M.bind (peek rb) fun y => M.bind (M.of (intD x)) fun i => M.bind (M.of (intD y)) fun j =>
  if (rngOk i && rngOk j) = true then M.pure (rangeD i (j - i).toNat) else M.stuck
theorem rngOk_of {i : Int} (h : rngOk i = true) : -(2 ^ 62) ≤ i ∧ i < 2 ^ 62 := by
  unfold rngOk at h
  simpa using h
theorem im_range1 (hm : X.mg "range" = none) (h : PM X c W a m) (hg : Gl X "range" := by rfl) (hs : starEach [a] X.env = [(false, eval a X.env)] := by rfl) : IM X c W tg (.Call (.Name "range" p) [a] [] pos) (mRange1 m) := PI.imp (pi_range1 hg hm (pa_cons h pa_nil hs) hs) fun σ H R ⟨F, ρ, As, S, w⟩ => by
  refine tM_seq S w (fun _ _ q => q) fun r ρ1 F1 H1 v1 As1 B1 w1 S1 T1 f1 R1 => ?_
  obtain ⟨d, p, w2⟩ := peek_ok S1 R1 w1
  obtain ⟨i, ei, w3⟩ := wpR_of (wpR_bind w2)
  obtain ⟨hi, w4⟩ := wpR_ite w3
  obtain ⟨h1, h2⟩ := rngOk_of hi
  exact ⟨i, by rw [intD_rep p ei], h1, h2, w4 F1 H1 As1 _ S1 T1 walkD_range⟩
theorem im_range2 (hm : X.mg "range" = none) (ha : PM X c W a ma) (hb : PM X c W b mb) (hg : Gl X "range" := by rfl) (hs : starEach [a, b] X.env = [(false, eval a X.env), (false, eval b X.env)] := by rfl) (hs2 : starEach [b] X.env = [(false, eval b X.env)] := by rfl) (hs3 : starEach [a, b] X.env = (false, eval a X.env) :: starEach [b] X.env := by rfl) : IM X c W tg (.Call (.Name "range" p) [a, b] [] pos) (mRange2 ma mb) := PI.imp (pi_range2 hg hm (pa_cons ha (pa_cons hb pa_nil hs2) hs3) hs hs2) fun σ H R ⟨F, ρ, As, S, w⟩ => by
  refine tM_seq S w (fun _ _ q => q) fun ra ρ1 F1 H1 v1 As1 B1 w1 S1 T1 f1 R1 => ?_
  refine tM_seq S1 w1 (fun _ _ q => q.tr T1) fun rb ρ2 F2 H2 v2 As2 B2 w2 S2 T2 f2 R2 => ?_
  obtain ⟨dx, px, w3⟩ := peek_ok S2 (R1.tr T2) w2
  obtain ⟨dy, p2, w4⟩ := peek_ok S2 R2 w3
  obtain ⟨i, ei, w5⟩ := wpR_of (wpR_bind w4)
  obtain ⟨j, ej, w6⟩ := wpR_of (wpR_bind w5)
  obtain ⟨hij, w7⟩ := wpR_ite w6
  rw [Bool.and_eq_true] at hij
  obtain ⟨h1, h2⟩ := rngOk_of hij.1
  obtain ⟨h3, h4⟩ := rngOk_of hij.2
  exact ⟨i, j, by rw [intD_rep px ei, intD_rep p2 ej], ⟨h1, h2, h3, h4⟩, w7 F2 H2 As2 _ S2 (T1.trans T2) walkD_range⟩
/-- enumerate of a list or a tuple -/
def iEnumA (K : PySem.W.Frag) (ta : TA) : TI := fun σ H R => ta σ H fun vs H1 => ∃ a xs, vs = [.ref a] ∧ ((SqL K H1 a xs ∧ R (Ite K a) H1) ∨ (SqT K H1 a xs ∧ R (ItET K a) H1))
theorem pi_enumA {ta : TA} {tpos : Pos} {elts : List Expr} {kk : Nat} (hg : Gl X "enumerate") (hm : X.mg "enumerate" = none) (ha : PA X [e] ta) (hs : starEach [e] X.env = [(false, eval e X.env)]) :
    PI X (.Tuple elts kk tpos) (.Call (.Name "enumerate" p) [e] [] pos) (iEnumA X.K ta) := by
  refine ⟨fun pins s σ H R I h => ?_⟩
  refine Call_ (ld_blt I hg hm boot_enumerate (PyProof.Rows.callWith_type1 (thn (ha.run pos pins s σ H _ I h) fun us s1 ⟨vs, H1, I1, r1, q1⟩ => ?_) hs rfl))
  obtain ⟨a, xs, ex, q⟩ := q1
  subst ex
  have near : ∀ b, b ∈ [s1.heap.objs.size + 1, s1.heap.objs.size] → FpOk X pins H1 b := fun b hb => by
    have hle : s1.heap.objs.size ≤ b := by
      rcases List.mem_cons.mp hb with rfl | hb
      · exact Nat.le_succ _
      · rcases List.mem_singleton.mp hb with rfl
        exact Nat.le_refl _
    exact I1.fpOk hle (I1.hok.fresh hle)
  cases r1 with
  | cons r rr =>
    cases rr
    cases r
    rcases q with ⟨hq, q⟩ | ⟨hq, q⟩
    · obtain ⟨its, rv, p', hz⟩ := I1.list hq
      exact call_enumerate_list p'.isList fun h' he hit hsz hk => wpAny_pyIter_enum he ⟨_, _, _, _, H1, rfl, I1.kept (t' := s1.toks) hk, turn_enum a (s1.heap.objs.size + 1) s1.heap.objs.size, ⟨⟨.none, he⟩, hit, Nat.succ_ne_self _⟩, near, q⟩
    · obtain ⟨its, rv, p', hz⟩ := I1.tuple hq
      have hlt : a < s1.heap.objs.size := p'.lt
      exact call_enumT (show s1.heap.IsTuple a its.toArray from p') fun h' he hit hsz hk => wpAny_pyIter_enum he ⟨_, _, _, _, H1, rfl, I1.kept (t' := s1.toks) hk, turn_enumT a (s1.heap.objs.size + 1) s1.heap.objs.size (Nat.ne_of_lt (Nat.lt_succ_of_lt hlt)) (Nat.ne_of_lt hlt), ⟨⟨.none, he⟩, hit, Nat.succ_ne_self _⟩, near, q⟩
def seqD : D → Option (List D)
  | .lst ds => some ds
  | .tup ds => some ds
  | .scr ds => some ds
  | _ => none
def mEnum (m : M RV) : M (List D) := M.bind m fun r => M.bind (toD r) fun d => M.bind (M.of (seqD d)) fun ds => M.pure (enumD ds)
theorem im_enum {tpos : Pos} {elts : List Expr} {kk : Nat} (hm : X.mg "enumerate" = none) (h : PM X c W e m) (hg : Gl X "enumerate" := by rfl) (hs : starEach [e] X.env = [(false, eval e X.env)] := by rfl) : IM X c W (.Tuple elts kk tpos) (.Call (.Name "enumerate" p) [e] [] pos) (mEnum m) :=
  PI.imp (pi_enumA hg hm (pa_cons h pa_nil hs) hs) fun σ H R ⟨F, ρ, As, S, w⟩ => by
  refine tM_seq S w (fun _ _ q => q) fun r ρ1 F1 H1 v1 As1 B1 w1 S1 T1 f1 R1 => ?_
  obtain ⟨d, ρ2, F2, As2, r2, S2, T2, w2⟩ := toD_ok S1 T1 f1 R1 w1
  obtain ⟨ds, ed, w3⟩ := wpR_of (wpR_bind w2)
  cases d <;> simp only [seqD] at ed <;> try (cases ed; done)
  · cases ed
    cases r2 with
    | tup x y => exact ⟨_, _, rfl, .inr ⟨sqT_mono S2.sub x, w3 F2 H1 As2 _ S2 T2 (walkD_enumT x y)⟩⟩
  · cases ed
    cases r2 with
    | lst x y => exact ⟨_, _, rfl, .inl ⟨SqL.of (S2.sub _ _ x), w3 F2 H1 As2 _ S2 T2 (walkD_enum (SqL.of x) y)⟩⟩
  · cases ed
    cases r2 with
    | scr x y => exact ⟨_, _, rfl, .inl ⟨S2.sub.seq x, w3 F2 H1 As2 _ S2 T2 (walkD_enum x y)⟩⟩
/-- zip of two lists, of two tuples -/
def zip2D : D → D → Option (List D)
  | .lst ds, .lst es => some (zipD ds es)
  | .tup ds, .tup es => some (zipD ds es)
  | _, _ => none
def mZip (a b : M RV) : M (List D) := M.bind a fun ra => M.bind (toD ra) fun x => M.bind b fun rb => M.bind (toD rb) fun y => M.of (zip2D x y)
theorem im_zip {tpos : Pos} {elts : List Expr} {kk : Nat} (hm : X.mg "zip" = none) (ha : PM X c W a ma) (hb : PM X c W b mb) (hg : Gl X "zip" := by rfl) (hs3 : starEach [a, b] X.env = (false, eval a X.env) :: starEach [b] X.env := by rfl) (hs2 : starEach [b] X.env = (false, eval b X.env) :: starEach [] X.env := by rfl) (hpl : (backTo pos (starEach [b] X.env)).any (·.1) = false := by rfl) : IM X c W (.Tuple elts kk tpos) (.Call (.Name "zip" p) [a, b] [] pos) (mZip ma mb) :=
  PI.imp (RZ.pi_zipA hg hm (pa_cons ha (pa_cons hb pa_nil hs2) hs3) hs3 hpl) fun σ H R ⟨F, ρ, As, S, w⟩ => by
  refine tM_seq S w (fun _ _ q => q) fun ra ρ1 F1 H1 v1 As1 B1 w1 S1 T1 f1 R1 => ?_
  obtain ⟨d, ρ2, F2, As2, r2, S2, T2, w2⟩ := toD_ok S1 T1 f1 R1 w1
  refine tM_seq S2 w2 (fun _ _ q => q.tr T2) fun rb ρ3 F3 H3 v3 As3 B3 w3 S3 T3 f3 R3 => ?_
  obtain ⟨d', ρ4, F4, As4, r4, S4, T4, w4⟩ := toD_ok S3 T3 f3 R3 w3
  obtain ⟨ds, ed, w5⟩ := wpR_of w4
  have rr := r2.mono T4.ext
  have T := T2.trans T4
  cases d <;> cases d' <;> simp only [zip2D] at ed <;> try (cases ed; done)
  · cases ed
    cases rr with
    | tup x y =>
      cases r4 with
      | tup x' y' => exact ⟨_, _, _, _, rfl, .inr ⟨sqT_mono S4.sub x, sqT_mono S4.sub x', w5 F4 H3 As4 _ S4 T (walkD_zipT x y x' y')⟩⟩
  · cases ed
    cases rr with
    | lst x y =>
      cases r4 with
      | lst x' y' => exact ⟨_, _, _, _, rfl, .inl ⟨SqL.of (S4.sub _ _ x), SqL.of (S4.sub _ _ x'), w5 F4 H3 As4 _ S4 T (walkD_zip (SqL.of x) y (SqL.of x') y')⟩⟩
end

/-! ### for -/
def loopM (g : RV → M Unit) (b : M Ctl) : List D → M Ctl
  | [] => M.pure .nx
  | d :: ds => M.bind (g (.o (.val d))) fun _ => M.bind b fun k => match k with
    | .nx => loopM g b ds
    | .ct => loopM g b ds
    | .bk => M.pure .nx
    | .rt r => M.pure (.rt r)
def mFor (it : M (List D)) (g : RV → M Unit) (b : M Ctl) : M Ctl := M.bind it fun ds => loopM g b ds
section
variable {X : Cx} {c : Addr} {io : Bool} {W : WX} {tg iter : Expr} {body : List Stmt} {mi : M (List D)} {g : RV → M Unit} {mb : M Ctl} {pos : Pos}
theorem sm_for {T : List Nat} (hp : PassesOwn (model X.prog X.w) X.A X.env X.xe) (hc : X.calm = true) (hi : IM X c W tg iter mi) (hg : GM X c io T tg g) (qg : Quiet g) (hb : SMs X c io W body mb) (hs : ∀ x, foldedSetIterable iter X.env x = pure x := by intro _; rfl) :
    SM X c io W (.For tg iter body [] pos) (mFor mi g mb) := PS.imp (ps_for hp hc hi hg hb hs) fun D σ0 H0 ⟨F0, ρ0, As0, S0, w0⟩ => by
  refine ⟨F0, ρ0, As0, S0, wpR_mono (wpR_bind w0) (fun ds ρ1 w1 F1 H1 As1 J S1 T1 wd => ?_) fun _ _ q => q.e⟩
  refine ⟨fun i m σ H => m = ds.length - i ∧ i ≤ ds.length ∧ ∃ F ρ As, Sta (gm X c) F H σ ρ As ∧ Same F1 F ∧ Tr F0 H0 As0 F H As ∧ (io = true → σ[0]? = σ0[0]?) ∧ wpR (loopM g mb (ds.drop i) ρ) (pS (gm X c) io F0 H0 σ0 As0 D) (pXS (gm X c) io W F0 H0 σ0 As0),
    ⟨ds.length, by simp, Nat.zero_le _, F1, ρ1, As1, S1, fun _ _ h => h, T1, fun _ => rfl, by rw [List.drop_zero]; exact w1⟩, ?_⟩
  rintro i m σ H ⟨rfl, hi, F, ρ, As, S, hF, T0, i0, w⟩
  obtain ⟨turn, stop⟩ := wd F H hF S.sub
  by_cases hlt : i < ds.length
  · obtain ⟨go, yld⟩ := turn i hlt
    refine .inr ⟨go, fun σ' H' => ∃ F ρ As, Sta (gm X c) F H' σ' ρ As ∧ Same F1 F ∧ Tr F0 H0 As0 F H' As ∧ (io = true → σ'[0]? = σ0[0]?) ∧ wpR (loopM g mb (ds.drop (i + 1)) ρ) (pS (gm X c) io F0 H0 σ0 As0 D) (pXS (gm X c) io W F0 H0 σ0 As0),
      fun σ' H' q => ⟨ds.length - (i + 1), by omega, rfl, hlt, q⟩, fun x H' y => ?_⟩
    obtain ⟨F3, d, ed, gr, rx⟩ := yld x H' y
    have S3 := S.live.more gr
    have T3 := (T0.trans (Tr.live S)).trans (Tr.more gr)
    have dd : ds.drop i = d :: ds.drop (i + 1) := by
      rw [List.drop_eq_getElem_cons hlt]
      congr 1
      rw [List.getElem?_eq_getElem hlt] at ed
      exact Option.some.inj ed
    rw [dd] at w
    refine ⟨F3, ρ, _, .o (.val d), [], S3, .o (.val rx) (fun _ h => nomatch h), wpR_quiet (wpR_mono (wpR_bind w) (fun _ ρ4 w4 F4 H4 σ4 As4 S4 T4 i4 n4 => ?_) fun _ _ q => q) fun x ρ' => qg _ ρ x ρ'⟩
    have T4' := T3.trans T4.noB
    have i4' : io = true → σ4[0]? = σ0[0]? := fun e => (i4 e).trans (i0 e)
    have hF4 : Same F1 F4 := (hF.trans gr.ext).trans T4.ext
    refine ⟨F4, ρ4, As4, S4, wpR_mono (wpR_bind w4) (fun k ρ5 w5 F5 H5 σ5 As5 S5 T5 i5 => ?_) fun x ρ5 q => q.tr T4' i4'⟩
    have i5' : io = true → σ5[0]? = σ0[0]? := fun e => (i5 e).trans (i4' e)
    cases k with
    | nx => exact ⟨F5, ρ5, As5, S5, hF4.trans T5.ext, T4'.trans T5, i5', w5⟩
    | ct => exact ⟨F5, ρ5, As5, S5, hF4.trans T5.ext, T4'.trans T5, i5', w5⟩
    | bk => exact w5 F5 H5 σ5 As5 S5 (T4'.trans T5) i5'
    | rt r => exact fun v B f R => w5 F5 H5 σ5 As5 S5 (T4'.trans T5) i5' v B (f.back T4') R
  · have e : i = ds.length := by omega
    subst e
    rw [List.drop_length] at w
    exact .inl ⟨stop, w F H σ As S T0 i0⟩
end
end Mi

set_option Elab.async false
set_option linter.all false
set_option autoImplicit false
set_option maxRecDepth 100000
set_option maxHeartbeats 4000000
namespace Mi
open PySem PySem.Spec PyProof.Rows L2

/-! ### while -/
def whileM (t : M Bool) (b : M Ctl) : Nat → M Ctl
  | 0 => M.stuck
  | n + 1 => M.bind t fun x => if x = true then M.bind b fun k => match k with
    | .nx => whileM t b n
    | .ct => whileM t b n
    | .bk => M.pure .nx
    | .rt r => M.pure (.rt r) else M.pure .nx
def fuelN : Nat := 1000000000000
def mWhile (t : M Bool) (b : M Ctl) : M Ctl := whileM t b fuelN
section
variable {X : Cx} {c : Addr} {io : Bool} {W : WX} {t : Expr} {body : List Stmt} {mt : M Bool} {mb : M Ctl} {pos : Pos}
theorem sm_while (hp : PassesOwn (model X.prog X.w) X.A X.env X.xe) (ht : TM X c W t mt) (hb : SMs X c io W body mb) : SM X c io W (.While t body [] pos) (mWhile mt mb) := PS.imp (ps_while hp ht hb) fun D σ0 H0 ⟨F0, ρ0, As0, S0, w0⟩ => by
  refine ⟨fun m σ H => ∃ F ρ As, Sta (gm X c) F H σ ρ As ∧ Tr F0 H0 As0 F H As ∧ (io = true → σ[0]? = σ0[0]?) ∧ wpR (whileM mt mb m ρ) (pS (gm X c) io F0 H0 σ0 As0 D) (pXS (gm X c) io W F0 H0 σ0 As0),
    ⟨fuelN, F0, ρ0, As0, S0, Tr.refl, fun _ => rfl, w0⟩, ?_⟩
  rintro m σ H ⟨F, ρ, As, S, T, i0, w⟩
  cases m with
  | zero => exact w.elim
  | succ m =>
    refine tMT_seq S w (fun _ _ q => (q.tr T i0).e) fun x ρ1 F1 H1 As1 w1 S1 T1 => ?_
    have T1' := T.trans T1
    cases x with
    | false =>
      rw [if_neg (by simp)] at w1 ⊢
      exact w1 F1 H1 σ As1 S1 T1' i0
    | true =>
      rw [if_pos rfl] at w1 ⊢
      refine ⟨fun σ H => ∃ F ρ As, Sta (gm X c) F H σ ρ As ∧ Tr F0 H0 As0 F H As ∧ (io = true → σ[0]? = σ0[0]?) ∧ wpR (whileM mt mb m ρ) (pS (gm X c) io F0 H0 σ0 As0 D) (pXS (gm X c) io W F0 H0 σ0 As0), fun σ' H' q => ⟨m, Nat.lt_succ_self _, q⟩, ?_⟩
      refine ⟨F1, ρ1, As1, S1, wpR_mono (wpR_bind w1) (fun k ρ2 w2 F2 H2 σ2 As2 S2 T2 i2 => ?_) fun x ρ2 q => q.tr T1' i0⟩
      have i2' : io = true → σ2[0]? = σ0[0]? := fun e => (i2 e).trans (i0 e)
      cases k with
      | nx => exact ⟨F2, ρ2, As2, S2, T1'.trans T2, i2', w2⟩
      | ct => exact ⟨F2, ρ2, As2, S2, T1'.trans T2, i2', w2⟩
      | bk => exact w2 F2 H2 σ2 As2 S2 (T1'.trans T2) i2'
      | rt r => exact fun v B f R => w2 F2 H2 σ2 As2 S2 (T1'.trans T2) i2' v B (f.back T1') R
end

/-! ### comprehensions -/
/-- within a comprehension nothing is raised -/
abbrev WF : WX := fun _ _ _ _ => False
theorem takesF {X : Cx} : Takes X WF := fun _ _ x => by
  obtain ⟨_, _, _, _, _, _, _, _, _, _, _, _, _, _, _, _, z⟩ := x
  exact z.elim
def noEx {α : Type} (m : M α) : M α := fun ρ => match m ρ with
  | .ex _ _ => .stuck
  | r => r
theorem wpR_noEx {α : Type} {m : M α} {ρ : Env} {post : α → Env → Prop} {xp xp' : Ex → Env → Prop} (h : wpR (noEx m ρ) post xp) : wpR (m ρ) post xp' := by
  unfold noEx at h
  cases e : m ρ with
  | ok a ρ1 => rw [e] at h; exact h
  | ex x ρ1 => rw [e] at h; exact h.elim
  | stuck => rw [e] at h; exact h
def wipeE (ρ : Env) : List Nat → Env
  | [] => ρ
  | i :: is => (wipeE ρ is).set i none
/-- the comprehension's own names are as they were -/
def backE (ρ0 ρ : Env) (own : List Nat) : Env := ρ.mapIdx fun k o => if k ∈ own then (ρ0[k]?).getD none else o
def keepOut (As : Own) (own : List Nat) : Own := fun k => if k ∈ own then [] else As k
section
variable {Γ : Gm} {F F1 H H1 : Hp} {As As1 : Own} {σ : Sl} {ρ ρ0 : Env}
theorem wipeE_length : ∀ own : List Nat, (wipeE ρ own).length = ρ.length
  | [] => rfl
  | i :: is => by unfold wipeE; rw [List.length_set, wipeE_length is]
theorem wipeE_get : ∀ {own : List Nat} {k : Nat} {o : O}, (wipeE ρ own)[k]? = some (some o) → k ∉ own ∧ ρ[k]? = some (some o)
  | [], _, _, h => ⟨by simp, h⟩
  | i :: is, k, o, h => by
    unfold wipeE at h
    by_cases hk : i = k
    · subst hk
      by_cases hl : i < (wipeE ρ is).length
      · rw [List.getElem?_set_self hl] at h; cases h
      · rw [List.getElem?_eq_none (by rw [List.length_set]; omega)] at h; cases h
    · rw [List.getElem?_set_ne hk] at h
      obtain ⟨a, b⟩ := wipeE_get h
      exact ⟨by simp only [List.mem_cons, not_or]; exact ⟨fun e => hk e.symm, a⟩, b⟩
theorem wipe_get' : ∀ {own : List Nat} {k : Nat}, k ∉ own → (wipe σ own)[k]? = σ[k]?
  | [], _, _ => rfl
  | i :: is, k, h => by
    unfold wipe
    rw [List.getElem?_set_ne (fun e => h (by simp [e]))]
    exact wipe_get' fun z => h (List.mem_cons_of_mem _ z)
theorem wipe_in : ∀ {own : List Nat} {k : Nat}, k ∈ own → k < σ.length → (wipe σ own)[k]? = some none
  | i :: is, k, h, hl => by
    unfold wipe
    by_cases hk : i = k
    · subst hk
      rw [List.getElem?_set_self (by rw [wipe_length]; exact hl)]
    · rw [List.getElem?_set_ne hk]
      exact wipe_in ((List.mem_cons.mp h).resolve_left fun e => hk e.symm) hl
theorem wipe_eq {own : List Nat} {σ2 : Sl} (o : Only own (wipe σ own) σ2) : wipe σ2 own = wipe σ own := by
  apply List.ext_getElem?
  intro k
  have hl : σ2.length = σ.length := by rw [o.2, wipe_length]
  by_cases hk : k ∈ own
  · by_cases hlt : k < σ.length
    · rw [wipe_in hk hlt, wipe_in hk (by rw [hl]; exact hlt)]
    · rw [List.getElem?_eq_none (by rw [wipe_length, hl]; omega), List.getElem?_eq_none (by rw [wipe_length]; omega)]
  · rw [wipe_get' hk, o.1 k hk]
/-- the slots without a comprehension's own names -/
theorem Sta.wiped {own : List Nat} (S : Sta Γ F H σ ρ As) : Sta Γ F H (wipe σ own) (wipeE ρ own) (keepOut As own) where
  sub := S.sub
  reps := fun k o e => by
    obtain ⟨n, e'⟩ := wipeE_get e
    obtain ⟨v, q, r⟩ := S.reps k o e'
    exact ⟨v, by rw [wipe_get' n]; exact q, by rw [show keepOut As own k = As k from if_neg n]; exact r⟩
  sep := fun i j a h1 h2 => by
    unfold keepOut at h1 h2
    split at h1
    · cases h1
    · split at h2
      · cases h2
      · exact S.sep i j a h1 h2
  len := by rw [wipeE_length, wipe_length]; exact S.len
theorem keepOut_sub {own : List Nat} {k : Nat} {b : Addr} (h : b ∈ keepOut As own k) : k ∉ own ∧ b ∈ As k := by
  unfold keepOut at h
  split at h
  · cases h
  · rename_i n; exact ⟨n, h⟩
/-- the slots behind: the own names as they were ahead -/
theorem Sta.unwiped {own : List Nat} {σw : Sl} (S0 : Sta Γ F H σ ρ0 As) (hlive : ∀ k b, b ∈ As k → ∃ u, H b = some u) (T : Tr F H (keepOut As own) F1 H1 As1) (S1 : Sta Γ F1 H1 σw ρ As1) (hw : wipe σw own = wipe σ own) (hl : ρ.length ≤ σ.length) :
    Sta Γ F1 H1 σ (backE ρ0 ρ own) (fun k => if k ∈ own then As k else As1 k) ∧ Tr F H As F1 H1 (fun k => if k ∈ own then As k else As1 k) := by
  have hid : ∀ k, k ∈ own → ∀ b, b ∈ As k → (∀ i, b ∉ keepOut As own i) := fun k hk b hb i hi => by
    obtain ⟨n, h⟩ := keepOut_sub hi
    have := S0.sep k i b hb h
    subst this
    exact n hk
  have away : ∀ k, k ∈ own → ∀ b, b ∈ As k → ∀ i, b ∉ As1 i := fun k hk b hb i hi => by
    rcases T.own i b hi with ⟨j, h⟩ | h
    · exact hid k hk b hb j h
    · obtain ⟨u, q⟩ := hlive k b hb
      rw [q] at h; cases h
  refine ⟨⟨S1.sub, fun k o e => ?_, fun i j a h1 h2 => ?_, by unfold backE; rw [List.length_mapIdx]; exact hl⟩, ⟨T.ext, fun b u h n => T.keep b u h fun i hi => n i (keepOut_sub hi).2, fun i b h => ?_, fun b u h => ?_⟩⟩
  · unfold backE at e
    rw [List.getElem?_mapIdx] at e
    show ∃ v, _ ∧ RepO _ _ _ _ _ ((fun k => if k ∈ own then As k else As1 k) k)
    by_cases hk : k ∈ own
    · rw [show (fun k => if k ∈ own then As k else As1 k) k = As k from if_pos hk]
      cases q : ρ[k]? with
      | none => rw [q] at e; cases e
      | some o1 =>
        rw [q] at e
        simp only [Option.map_some, Option.some.injEq, if_pos hk] at e
        cases q0 : ρ0[k]? with
        | none => rw [q0] at e; cases e
        | some o2 =>
          rw [q0] at e
          simp only [Option.getD_some] at e
          subst e
          obtain ⟨v, qv, r⟩ := S0.reps k o q0
          refine ⟨v, qv, r.stay T.ext fun b hb => ⟨?_, fun u h => T.keep b u h (hid k hk b hb)⟩⟩
          cases z : F1 b with
          | none => rfl
          | some u =>
            rcases T.frz b u z with z | z | ⟨i, z⟩
            · rw [r.none b hb] at z; cases z
            · obtain ⟨u', z'⟩ := hlive k b hb; rw [z'] at z; cases z
            · exact absurd z (hid k hk b hb i)
    · rw [show (fun k => if k ∈ own then As k else As1 k) k = As1 k from if_neg hk]
      cases q : ρ[k]? with
      | none => rw [q] at e; cases e
      | some o1 =>
        rw [q] at e
        simp only [Option.map_some, Option.some.injEq, if_neg hk] at e
        subst e
        obtain ⟨v, qv, r⟩ := S1.reps k _ q
        refine ⟨v, ?_, r⟩
        rw [← wipe_get' (σ := σ) hk, ← hw, wipe_get' hk]
        exact qv
  · change a ∈ (if i ∈ own then As i else As1 i) at h1
    change a ∈ (if j ∈ own then As j else As1 j) at h2
    split at h1
    · rename_i hi
      split at h2
      · exact S0.sep i j a h1 h2
      · exact absurd h2 (away i hi a h1 j)
    · split at h2
      · rename_i hj
        exact absurd h1 (away j hj a h2 i)
      · exact S1.sep i j a h1 h2
  · change b ∈ (if i ∈ own then As i else As1 i) at h
    split at h
    · exact .inl ⟨i, h⟩
    · rcases T.own i b h with ⟨j, h⟩ | h
      · exact .inl ⟨j, (keepOut_sub h).2⟩
      · exact .inr h
  · rcases T.frz b u h with z | z | ⟨i, z⟩
    · exact .inl z
    · exact .inr (.inl z)
    · exact .inr (.inr ⟨i, (keepOut_sub z).2⟩)
/-- a tracked cell of no slot is written -/
theorem Sta.write {a : Addr} {u : HO} (S : Sta Γ F H σ ρ As) (nF : F a = none) (nA : ∀ k, a ∉ As k) : Sta Γ F (upd H a u) σ ρ As where
  sub := fun b o e => by rw [upd_ne (ne_of_none e nF)]; exact S.sub b o e
  reps := fun k o e => by
    obtain ⟨v, q, r⟩ := S.reps k o e
    exact ⟨v, q, r.stay (fun _ _ h => h) fun b hb => ⟨r.none b hb, fun w h => by rw [upd_ne (fun z => by subst z; exact nA k hb)]; exact h⟩⟩
  sep := S.sep
  len := S.len
theorem Tr.write {F0 H0 : Hp} {As0 : Own} {a : Addr} {u : HO} (T : Tr F0 H0 As0 F H As) (n : H0 a = none) : Tr F0 H0 As0 F (upd H a u) As :=
  ⟨T.ext, fun b o e m => by rw [upd_ne (ne_of_none e n)]; exact T.keep b o e m, T.own, T.frz⟩
end
/-- one turn: what the target got, the test, the element -/
def turnM (g : RV → M Unit) (tt : M Bool) (te : M RV) (d : D) : M (Option D) := noEx (M.bind (g (.o (.val d))) fun _ => M.bind tt fun b => if b = true then M.bind te fun r => M.bind (toD r) fun d' => M.pure (some d') else M.pure none)
def compL (own : List Nat) (g : RV → M Unit) (tt : M Bool) (te : M RV) : List D → List D → M (List D)
  | [], acc => M.pure acc
  | d :: ds, acc => fun ρ => M.bind (turnM g tt te d) (fun o => match o with
    | some d' => if acc.length < sizeLine then compL own g tt te ds (acc ++ [d']) else M.stuck
    | none => compL own g tt te ds acc) (wipeE ρ own)
def mComp (own : List Nat) (it : M (List D)) (g : RV → M Unit) (tt : M Bool) (te : M RV) : M RV := M.bind it fun ds => fun ρ => match compL own g tt te ds [] ρ with
  | .ok acc ρ1 => .ok (.o (.lst acc)) (backE ρ ρ1 own)
  | .ex x ρ1 => .stuck
  | .stuck => .stuck

theorem wipe_wipe {σ : Sl} {vs : List Nat} : wipe (wipe σ vs) vs = wipe σ vs := wipe_eq (σ := σ) ⟨fun _ _ => rfl, rfl⟩
theorem wipeE_out {ρ : Env} : ∀ {own : List Nat} {k : Nat}, k ∉ own → (wipeE ρ own)[k]? = ρ[k]?
  | [], _, _ => rfl
  | i :: is, k, h => by
    unfold wipeE
    rw [List.getElem?_set_ne (fun e => h (by simp [e]))]
    exact wipeE_out fun z => h (List.mem_cons_of_mem _ z)
theorem backE_wipe {ρ0 ρ : Env} {vs : List Nat} : backE ρ0 (wipeE ρ vs) vs = backE ρ0 ρ vs := by
  apply List.ext_getElem?
  intro k
  unfold backE
  rw [List.getElem?_mapIdx, List.getElem?_mapIdx]
  by_cases hk : k ∈ vs
  · simp only [if_pos hk]
    have hlen := wipeE_length (ρ := ρ) vs
    by_cases hl : k < ρ.length
    · rw [List.getElem?_eq_getElem (l := ρ) hl, List.getElem?_eq_getElem (l := wipeE ρ vs) (by rw [hlen]; exact hl)]; rfl
    · rw [List.getElem?_eq_none (l := ρ) (by omega), List.getElem?_eq_none (l := wipeE ρ vs) (by rw [hlen]; omega)]
  · simp only [if_neg hk]
    rw [wipeE_out hk]
/-- the state within a comprehension: D holds what was made so far -/
structure Mid (Γ : Gm) (F1 H1 : Hp) (Ak : Own) (σw : Sl) (vs : List Nat) (D : Addr) (F H : Hp) (ρ : Env) (As : Own) : Prop where
  sta : Sta Γ F H σw (wipeE ρ vs) As
  ext : Same F1 F
  tr : Tr F1 H1 Ak F H As
  nF : F D = none
  nA : ∀ k, D ∉ As k
theorem Mid.step {Γ : Gm} {F1 H1 F H F' H' : Hp} {Ak As As' : Own} {σ σw : Sl} {vs : List Nat} {D : Addr} {ρ ρ' : Env} {u : HO} (m : Mid Γ F1 H1 Ak (wipe σ vs) vs D F H ρ As) (hD : H D = some u) (S : Sta Γ F' H' σw ρ' As') (T : Tr F H As F' H' As') (hw : wipe σw vs = wipe σ vs) :
    H' D = some u ∧ ∃ As2, Mid Γ F1 H1 Ak (wipe σ vs) vs D F' H' ρ' As2 := by
  have hD' := T.keep D u hD m.nA
  refine ⟨hD', keepOut As' vs, ⟨by rw [← hw]; exact S.wiped, m.ext.trans T.ext, ?_, ?_, fun k hk => ?_⟩⟩
  · have t := m.tr.trans T
    exact ⟨t.ext, t.keep, fun i b h => t.own i b (keepOut_sub h).2, t.frz⟩
  · cases e : F' D with
    | none => rfl
    | some z =>
      rcases T.frz D z e with q | q | ⟨i, q⟩
      · rw [m.nF] at q; cases q
      · rw [hD] at q; cases q
      · exact absurd q (m.nA i)
  · rcases T.own k D (keepOut_sub hk).2 with ⟨j, q⟩ | q
    · exact m.nA j q
    · rw [hD] at q; cases q
theorem Mid.put {Γ : Gm} {F1 H1 F H : Hp} {Ak As : Own} {σw : Sl} {vs : List Nat} {D : Addr} {ρ : Env} {u : HO} (m : Mid Γ F1 H1 Ak σw vs D F H ρ As) (n : H1 D = none) : Mid Γ F1 H1 Ak σw vs D F (upd H D u) ρ As :=
  ⟨m.sta.write m.nF m.nA, m.ext, m.tr.write n, m.nF, m.nA⟩
/-- a comprehension begins -/
theorem Mid.start {Γ : Gm} {F1 H1 : Hp} {As1 : Own} {σ : Sl} {vs : List Nat} {D : Addr} {ρ1 : Env} {u : HO} (S1 : Sta Γ F1 H1 σ ρ1 As1) (nD : H1 D = none) (nA : ∀ k, D ∉ As1 k) : Mid Γ F1 H1 (keepOut As1 vs) (wipe σ vs) vs D F1 (upd H1 D u) ρ1 (keepOut As1 vs) :=
  have nF := none_of_same S1.sub nD
  ⟨S1.wiped.write nF fun k hk => nA k (keepOut_sub hk).2, fun _ _ h => h, Tr.refl.write nD, nF, fun k hk => nA k (keepOut_sub hk).2⟩
/-- a comprehension ends: the new thing at D is handed out -/
theorem Mid.fin {Γ : Gm} {F1 H1 F H F0 H0 : Hp} {As1 As As0 : Own} {σ : Sl} {vs : List Nat} {D : Addr} {ρ1 ρ : Env} {o : O} {Q : VK} (m : Mid Γ F1 H1 (keepOut As1 vs) (wipe σ vs) vs D F H ρ As) (S1 : Sta Γ F1 H1 σ ρ1 As1) (lv : ∀ k b, b ∈ As1 k → ∃ u, H1 b = some u) (nD : H1 D = none)
    (T1 : Tr F0 H0 As0 F1 H1 As1) (r : RepO Γ F H (.ref D) o [D]) (w : pE Γ F0 H0 σ As0 Q (.o o) (backE ρ1 ρ vs)) : Q (.ref D) H := by
  have hl : (wipeE ρ vs).length ≤ σ.length := by have := m.sta.len; rwa [wipe_length] at this
  obtain ⟨S2, T2⟩ := S1.unwiped lv m.tr m.sta wipe_wipe hl
  rw [backE_wipe] at S2
  refine w F H _ _ [D] S2 (T1.trans T2) (fun b hb => ?_) (.o r fun b hb k hk => ?_)
  · rcases List.mem_singleton.mp hb with rfl
    exact T1.back nD
  · rcases List.mem_singleton.mp hb with rfl
    change b ∈ (if k ∈ vs then As1 k else As k) at hk
    split at hk
    · obtain ⟨u, q⟩ := lv k b hk; rw [nD] at q; cases q
    · exact m.nA k hk
theorem comp_ok {X : Cx} {c : Addr} {W : WX} {mi : M (List D)} {g : RV → M Unit} {tt : M Bool} {te : M RV} {vs : List Nat} {σ : Sl} {H : Hp} {Q : VK} {F : Hp} {ρ : Env} {As : Own} (qg : Quiet g) (S : Sta (gm X c) F H σ ρ As) (w : wpR (mComp vs mi g tt te ρ) (pE (gm X c) F H σ As Q) (pX (gm X c) W F H σ As)) :
    tLc (tMI (gm X c) W mi) (tG (gm X c) false vs g) (tMT (gm X c) WF tt) (tM (gm X c) WF te) vs σ H Q := by
  refine ⟨F, ρ, As, S, wpR_mono (wpR_bind w) (fun ds ρ1 w1 F1 H1 As1' J S1' T1' wd D nD => ?_) fun _ _ q => q⟩
  have S1 := S1'.live
  have T1 := T1'.trans (Tr.live S1')
  have lv : ∀ k b, b ∈ liveOwn (gm X c) F1 H1 σ ρ1 As1' k → ∃ u, H1 b = some u := fun k b hb => S1'.liveAt hb
  generalize liveOwn (gm X c) F1 H1 σ ρ1 As1' = As1 at S1 T1 lv
  have nAs : ∀ k, D ∉ As1 k := fun k hk => by obtain ⟨u, q⟩ := lv k D hk; rw [nD] at q; cases q
  have w2 : wpR (compL vs g tt te ds [] ρ1) (fun acc ρ2 => pE (gm X c) F H σ As Q (.o (.lst acc)) (backE ρ1 ρ2 vs)) (fun _ _ => False) := by
    split at w1
    · rename_i acc ρ2 e; rw [e]; exact w1
    · exact w1.elim
    · exact w1.elim
  refine ⟨fun i m H' => m = ds.length - i ∧ i ≤ ds.length ∧ ∃ F' ρ' As' acc xs, Mid (gm X c) F1 H1 (keepOut As1 vs) (wipe σ vs) vs D F' H' ρ' As' ∧ H' D = some (.lst xs) ∧ RepL (gm X c) F' xs acc ∧
      wpR (compL vs g tt te (ds.drop i) acc ρ') (fun acc ρ2 => pE (gm X c) F H σ As Q (.o (.lst acc)) (backE ρ1 ρ2 vs)) (fun _ _ => False), ?_, ?_⟩
  · exact ⟨ds.length, by simp, Nat.zero_le _, F1, ρ1, _, [], [], Mid.start S1 nD nAs, upd_same, .nil, by rw [List.drop_zero]; exact w2⟩
  · rintro i m H2 ⟨rfl, hi, F2, ρ2, As2, acc, xs, M2, hD2, rx, w3⟩
    obtain ⟨turn, stop⟩ := wd F2 H2 M2.ext M2.sta.sub
    by_cases hlt : i < ds.length
    · obtain ⟨go, yld⟩ := turn i hlt
      refine .inr ⟨go, fun H' => ∃ F' ρ' As' acc xs, Mid (gm X c) F1 H1 (keepOut As1 vs) (wipe σ vs) vs D F' H' ρ' As' ∧ H' D = some (.lst xs) ∧ RepL (gm X c) F' xs acc ∧
        wpR (compL vs g tt te (ds.drop (i + 1)) acc ρ') (fun acc ρ2 => pE (gm X c) F H σ As Q (.o (.lst acc)) (backE ρ1 ρ2 vs)) (fun _ _ => False), fun H' q => ⟨ds.length - (i + 1), by omega, rfl, hlt, q⟩, fun x H3 y => ?_⟩
      obtain ⟨F3, d, ed, gr, rd⟩ := yld x H3 y
      have S3 := M2.sta.live.more gr
      have T3 := (Tr.live M2.sta).trans (Tr.more gr)
      have dd : ds.drop i = d :: ds.drop (i + 1) := by
        rw [List.drop_eq_getElem_cons hlt]
        congr 1
        rw [List.getElem?_eq_getElem hlt] at ed
        exact Option.some.inj ed
      rw [dd] at w3
      have w4 := wpR_noEx (xp' := fun _ _ => False) (wpR_bind (show wpR (M.bind (turnM g tt te d) _ (wipeE ρ2 vs)) _ _ from w3))
      refine ⟨F3, _, _, .o (.val d), [], S3, .o (.val rd) (fun _ h => nomatch h), wpR_quiet (wpR_mono (wpR_bind w4) (fun _ ρ4 w5 F4 H4 σ4 As4 S4 T4 _ n4 => ⟨wipe_eq n4, ?_⟩) fun _ _ q => q) fun x ρ' => qg _ _ x ρ'⟩
      have T4' := T3.trans T4.noB
      refine ⟨F4, ρ4, As4, S4, wpR_mono (wpR_bind w5) (fun b ρ5 w6 F5 H5 As5 S5 T5 => ?_) fun _ _ q => q.elim⟩
      have T5' := T4'.trans T5
      cases b with
      | false =>
        rw [if_neg (by simp)] at w6
        refine iteF ?_
        obtain ⟨hD5, As6, M6⟩ := M2.step hD2 S5 T5' (wipe_eq n4)
        exact ⟨F5, ρ5, As6, acc, xs, M6, hD5, rx.mono T5'.ext, w6⟩
      | true =>
        rw [if_pos rfl] at w6
        refine iteT ?_
        refine ⟨F5, ρ5, As5, S5, wpR_mono (wpR_bind w6) (fun r ρ6 w7 F6 H6 v As6 B6 S6 T6 f6 R6 => ?_) fun _ _ q => q.elim⟩
        obtain ⟨d', ρ7, F7, As7, r7, S7, T7, w8⟩ := toD_ok S6 T6 f6 R6 w7
        obtain ⟨hD7, As8, M8⟩ := M2.step hD2 S7 (T5'.trans T7) (wipe_eq n4)
        obtain ⟨hlen, w9⟩ := wpR_ite w8
        have rx' := rx.mono (T5'.trans T7).ext
        exact ⟨xs, hD7, by rw [rx'.length]; exact hlen, F7, ρ7, As8, acc ++ [d'], xs ++ [v], M8.put nD, upd_same, rx'.append (.cons r7 .nil), w9⟩
    · have e : i = ds.length := by omega
      subst e
      rw [List.drop_length] at w3
      exact .inl ⟨stop, M2.fin S1 lv nD T1 (.lst M2.nF hD2 rx) w3⟩
def mYes : M Bool := M.pure true
def TMs (X : Cx) (c : Addr) (es : List Expr) (m : M Bool) : Prop := PTs X es (tMT (gm X c) WF m)
theorem PTs.imp {X : Cx} {es : List Expr} {t t' : TT} (h : PTs X es t) (k : ∀ σ H Q, t' σ H Q → t σ H Q) : PTs X es t' := ⟨fun pins s σ H Q I q => h.run pins s σ H Q I (k σ H Q q)⟩
section
variable {X : Cx} {c : Addr} {W : WX}
theorem tms_nil : TMs X c [] mYes := PTs.imp pts_nil fun σ H Q ⟨F, ρ, As, S, w⟩ => w F H As S Tr.refl
theorem tms_one {e : Expr} {m : M Bool} (h : TM X c WF e m) : TMs X c [e] m := pts_one h
variable {elt tg iter : Expr} {ifs : List Expr} {scope : Scope} {own : List (Str × Nat)} {pos : Pos} {mi : M (List D)} {g : RV → M Unit} {tt : M Bool} {te : M RV}
theorem pm_comp (hc : X.calm = true) (hN : X.N.Nodup) (ok : BlkOk X.N X.env.scope scope own) (hi : IM X c W tg iter mi) (qg : Quiet g)
    (hg : ∀ (s : Shared) (H : Hp) (C : Addr) (cl : List (Str × Addr)) (fp : List Addr), GM (X.blk s H scope (compEnvC scope cl C X.env) fp) c false (own.map (·.2)) tg g)
    (ht : ∀ (s : Shared) (H : Hp) (C : Addr) (cl : List (Str × Addr)) (fp : List Addr), TMs (X.blk s H scope (compEnvC scope cl C X.env) fp) c ifs tt)
    (he : ∀ (s : Shared) (H : Hp) (C : Addr) (cl : List (Str × Addr)) (fp : List Addr), PM (X.blk s H scope (compEnvC scope cl C X.env) fp) c WF elt te) (hs : ∀ x, foldedSetIterable iter X.env x = pure x := by intro _; rfl) :
    PM X c W (.ListComp elt [⟨tg, iter, ifs, 0⟩] scope pos) (mComp (own.map (·.2)) mi g tt te) := PE.imp (pe_lc (wi := tMI (gm X c) W mi) (g := tG (gm X c) false (own.map fun p : Str × Nat => p.2) g) (tt := tMT (gm X c) WF tt) (te := tM (gm X c) WF te) hc hN hi ok hg ht he hs) fun σ H Q ⟨F, ρ, As, S, w⟩ => comp_ok qg S w
end
/-! ### dict comprehensions -/
def putD (kvs : List (Key × D)) (k : Key) (v : D) : List (Key × D) :=
  if (kvs.any fun kv => decide (kv.1 = k)) = true then kvs.map (fun kv => if kv.1 = k then (kv.1, v) else kv) else kvs ++ [(k, v)]
theorem repK_keys {Γ : Gm} {F : Hp} : ∀ {ds : List (Key × D)} {vs : List (Key × V)}, RepK Γ F vs ds → vs.map (·.1) = ds.map (·.1)
  | [], _, h => by cases h; rfl
  | (_, _) :: _, _, h => by cases h with | cons a b => rw [List.map_cons, List.map_cons, repK_keys b]
theorem repK_length {Γ : Gm} {F : Hp} {ds : List (Key × D)} {vs : List (Key × V)} (h : RepK Γ F vs ds) : vs.length = ds.length := by
  have := congrArg List.length (repK_keys h)
  simpa using this
theorem repK_append {Γ : Gm} {F : Hp} : ∀ {ds es : List (Key × D)} {vs us : List (Key × V)}, RepK Γ F vs ds → RepK Γ F us es → RepK Γ F (vs ++ us) (ds ++ es)
  | [], _, _, _, h, h' => by cases h; exact h'
  | (_, _) :: _, _, _, _, h, h' => by cases h with | cons a b => exact .cons a (repK_append b h')
theorem repK_map {Γ : Gm} {F : Hp} {k : Key} {v : V} {d : D} (r : Rep Γ F v d) : ∀ {ds : List (Key × D)} {vs : List (Key × V)}, RepK Γ F vs ds → RepK Γ F (vs.map fun kv => if kv.1 = k then (kv.1, v) else kv) (ds.map fun kv => if kv.1 = k then (kv.1, d) else kv)
  | [], _, h => by cases h; exact .nil
  | (k', _) :: _, _, h => by
    cases h with
    | cons a b =>
      rw [List.map_cons, List.map_cons]
      by_cases hk : k' = k
      · rw [if_pos hk, if_pos hk]; exact .cons r (repK_map r b)
      · rw [if_neg hk, if_neg hk]; exact .cons a (repK_map r b)
theorem repK_put {Γ : Gm} {F : Hp} {k : Key} {v : V} {d : D} (r : Rep Γ F v d) {ds : List (Key × D)} {vs : List (Key × V)} (h : RepK Γ F vs ds) : RepK Γ F (putK vs k v) (putD ds k d) := by
  have e : (vs.any fun kv => decide (kv.1 = k)) = ds.any fun kv => decide (kv.1 = k) := by
    have q := repK_keys h
    have e1 : (vs.any fun kv => decide (kv.1 = k)) = (vs.map (·.1)).any fun x => decide (x = k) := by rw [List.any_map]; rfl
    have e2 : (ds.any fun kv => decide (kv.1 = k)) = (ds.map (·.1)).any fun x => decide (x = k) := by rw [List.any_map]; rfl
    rw [e1, e2, q]
  unfold putK putD
  rw [e]
  split
  · exact repK_map r h
  · exact repK_append h (.cons r .nil)
def turnD (g : RV → M Unit) (tt : M Bool) (tk tv : M RV) (d : D) : M (Option (Key × D)) := noEx (M.bind (g (.o (.val d))) fun _ => M.bind tt fun b => if b = true then M.bind tk fun rk => M.bind tv fun rv => M.bind (peek rk) fun dk => M.bind (M.of (keyD dk)) fun k => M.bind (toD rv) fun d' => M.pure (some (k, d')) else M.pure none)
def dcompL (own : List Nat) (g : RV → M Unit) (tt : M Bool) (tk tv : M RV) : List D → List (Key × D) → M (List (Key × D))
  | [], acc => M.pure acc
  | d :: ds, acc => fun ρ => M.bind (turnD g tt tk tv d) (fun o => match o with
    | some (k, d') => if acc.length < sizeLine then dcompL own g tt tk tv ds (putD acc k d') else M.stuck
    | none => dcompL own g tt tk tv ds acc) (wipeE ρ own)
def mDComp (own : List Nat) (it : M (List D)) (g : RV → M Unit) (tt : M Bool) (tk tv : M RV) : M RV := M.bind it fun ds => fun ρ => match dcompL own g tt tk tv ds [] ρ with
  | .ok acc ρ1 => .ok (.o (.dic acc)) (backE ρ ρ1 own)
  | .ex x ρ1 => .stuck
  | .stuck => .stuck
theorem dcomp_ok {X : Cx} {c : Addr} {W : WX} {mi : M (List D)} {g : RV → M Unit} {tt : M Bool} {tk tv : M RV} {vs : List Nat} {σ : Sl} {H : Hp} {Q : VK} {F : Hp} {ρ : Env} {As : Own} (qg : Quiet g) (S : Sta (gm X c) F H σ ρ As) (w : wpR (mDComp vs mi g tt tk tv ρ) (pE (gm X c) F H σ As Q) (pX (gm X c) W F H σ As)) :
    tDc (tMI (gm X c) W mi) (tG (gm X c) false vs g) (tMT (gm X c) WF tt) (tM (gm X c) WF tk) (tM (gm X c) WF tv) vs σ H Q := by
  refine ⟨F, ρ, As, S, wpR_mono (wpR_bind w) (fun ds ρ1 w1 F1 H1 As1' J S1' T1' wd D nD => ?_) fun _ _ q => q⟩
  have S1 := S1'.live
  have T1 := T1'.trans (Tr.live S1')
  have lv : ∀ k b, b ∈ liveOwn (gm X c) F1 H1 σ ρ1 As1' k → ∃ u, H1 b = some u := fun k b hb => S1'.liveAt hb
  generalize liveOwn (gm X c) F1 H1 σ ρ1 As1' = As1 at S1 T1 lv
  have nAs : ∀ k, D ∉ As1 k := fun k hk => by obtain ⟨u, q⟩ := lv k D hk; rw [nD] at q; cases q
  have w2 : wpR (dcompL vs g tt tk tv ds [] ρ1) (fun acc ρ2 => pE (gm X c) F H σ As Q (.o (.dic acc)) (backE ρ1 ρ2 vs)) (fun _ _ => False) := by
    split at w1
    · rename_i acc ρ2 e; rw [e]; exact w1
    · exact w1.elim
    · exact w1.elim
  refine ⟨fun i m H' => m = ds.length - i ∧ i ≤ ds.length ∧ ∃ F' ρ' As' acc xs, Mid (gm X c) F1 H1 (keepOut As1 vs) (wipe σ vs) vs D F' H' ρ' As' ∧ H' D = some (.dK xs) ∧ RepK (gm X c) F' xs acc ∧
      wpR (dcompL vs g tt tk tv (ds.drop i) acc ρ') (fun acc ρ2 => pE (gm X c) F H σ As Q (.o (.dic acc)) (backE ρ1 ρ2 vs)) (fun _ _ => False), ?_, ?_⟩
  · exact ⟨ds.length, by simp, Nat.zero_le _, F1, ρ1, _, [], [], Mid.start S1 nD nAs, upd_same, .nil, by rw [List.drop_zero]; exact w2⟩
  · rintro i m H2 ⟨rfl, hi, F2, ρ2, As2, acc, xs, M2, hD2, rx, w3⟩
    obtain ⟨turn, stop⟩ := wd F2 H2 M2.ext M2.sta.sub
    by_cases hlt : i < ds.length
    · obtain ⟨go, yld⟩ := turn i hlt
      refine .inr ⟨go, fun H' => ∃ F' ρ' As' acc xs, Mid (gm X c) F1 H1 (keepOut As1 vs) (wipe σ vs) vs D F' H' ρ' As' ∧ H' D = some (.dK xs) ∧ RepK (gm X c) F' xs acc ∧
        wpR (dcompL vs g tt tk tv (ds.drop (i + 1)) acc ρ') (fun acc ρ2 => pE (gm X c) F H σ As Q (.o (.dic acc)) (backE ρ1 ρ2 vs)) (fun _ _ => False), fun H' q => ⟨ds.length - (i + 1), by omega, rfl, hlt, q⟩, fun x H3 y => ?_⟩
      obtain ⟨F3, d, ed, gr, rd⟩ := yld x H3 y
      have S3 := M2.sta.live.more gr
      have T3 := (Tr.live M2.sta).trans (Tr.more gr)
      have dd : ds.drop i = d :: ds.drop (i + 1) := by
        rw [List.drop_eq_getElem_cons hlt]
        congr 1
        rw [List.getElem?_eq_getElem hlt] at ed
        exact Option.some.inj ed
      rw [dd] at w3
      have w4 := wpR_noEx (xp' := fun _ _ => False) (wpR_bind (show wpR (M.bind (turnD g tt tk tv d) _ (wipeE ρ2 vs)) _ _ from w3))
      refine ⟨F3, _, _, .o (.val d), [], S3, .o (.val rd) (fun _ h => nomatch h), wpR_quiet (wpR_mono (wpR_bind w4) (fun _ ρ4 w5 F4 H4 σ4 As4 S4 T4 _ n4 => ⟨wipe_eq n4, ?_⟩) fun _ _ q => q) fun x ρ' => qg _ _ x ρ'⟩
      have T4' := T3.trans T4.noB
      refine ⟨F4, ρ4, As4, S4, wpR_mono (wpR_bind w5) (fun b ρ5 w6 F5 H5 As5 S5 T5 => ?_) fun _ _ q => q.elim⟩
      have T5' := T4'.trans T5
      cases b with
      | false =>
        rw [if_neg (by simp)] at w6
        refine iteF ?_
        obtain ⟨hD5, As6, M6⟩ := M2.step hD2 S5 T5' (wipe_eq n4)
        exact ⟨F5, ρ5, As6, acc, xs, M6, hD5, rx.mono T5'.ext, w6⟩
      | true =>
        rw [if_pos rfl] at w6
        refine iteT ?_
        refine ⟨F5, ρ5, As5, S5, wpR_mono (wpR_bind w6) (fun rk ρ6 w7 F6 H6 vk As6 B6 S6 T6 f6 R6 => ?_) fun _ _ q => q.elim⟩
        refine ⟨F6, ρ6, As6, S6, wpR_mono (wpR_bind w7) (fun rv ρ7 w8 F7 H7 vv As7 B7 S7 T7 f7 R7 => ?_) fun _ _ q => q.elim⟩
        obtain ⟨dk, pk, w9⟩ := peek_ok S7 (R6.tr T7) w8
        obtain ⟨k, ek, w10⟩ := wpR_of (wpR_bind w9)
        obtain ⟨d', ρ8, F8, As8, r8, S8, T8, w11⟩ := toD_ok S7 T7 f7 R7 w10
        have T8' := (T5'.trans T6).trans T8
        obtain ⟨hD9, As9, M9⟩ := M2.step hD2 S8 T8' (wipe_eq n4)
        obtain ⟨hlen, w12⟩ := wpR_ite w11
        have rx' := rx.mono T8'.ext
        exact ⟨xs, k, keyD_rep pk ek, hD9, by rw [repK_length rx']; exact hlen, F8, ρ8, As9, putD acc k d', putK xs k vv, M9.put nD, upd_same, repK_put r8 rx', w12⟩
    · have e : i = ds.length := by omega
      subst e
      rw [List.drop_length] at w3
      exact .inl ⟨stop, M2.fin S1 lv nD T1 (.dic M2.nF hD2 rx) w3⟩
section
variable {X : Cx} {c : Addr} {W : WX} {kx vx tg iter : Expr} {ifs : List Expr} {scope : Scope} {own : List (Str × Nat)} {pos : Pos} {mi : M (List D)} {g : RV → M Unit} {tt : M Bool} {tk tv : M RV}
theorem pm_dcomp (hc : X.calm = true) (hN : X.N.Nodup) (ok : BlkOk X.N X.env.scope scope own) (hi : IM X c W tg iter mi) (qg : Quiet g)
    (hg : ∀ (s : Shared) (H : Hp) (C : Addr) (cl : List (Str × Addr)) (fp : List Addr), GM (X.blk s H scope (compEnvC scope cl C X.env) fp) c false (own.map (·.2)) tg g)
    (ht : ∀ (s : Shared) (H : Hp) (C : Addr) (cl : List (Str × Addr)) (fp : List Addr), TMs (X.blk s H scope (compEnvC scope cl C X.env) fp) c ifs tt)
    (hk : ∀ (s : Shared) (H : Hp) (C : Addr) (cl : List (Str × Addr)) (fp : List Addr), PM (X.blk s H scope (compEnvC scope cl C X.env) fp) c WF kx tk)
    (he : ∀ (s : Shared) (H : Hp) (C : Addr) (cl : List (Str × Addr)) (fp : List Addr), PM (X.blk s H scope (compEnvC scope cl C X.env) fp) c WF vx tv) (hs : ∀ x, foldedSetIterable iter X.env x = pure x := by intro _; rfl) :
    PM X c W (.DictComp kx vx [⟨tg, iter, ifs, 0⟩] scope pos) (mDComp (own.map (·.2)) mi g tt tk tv) := PE.imp (pe_dc (wi := tMI (gm X c) W mi) (g := tG (gm X c) false (own.map fun p : Str × Nat => p.2) g) (tt := tMT (gm X c) WF tt) (tk := tM (gm X c) WF tk) (tv := tM (gm X c) WF tv) hc hN hi ok hg ht hk he hs) fun σ H Q ⟨F, ρ, As, S, w⟩ => dcomp_ok qg S w
end
end Mi

set_option Elab.async false
set_option linter.all false
set_option autoImplicit false
set_option maxRecDepth 100000
set_option maxHeartbeats 4000000
namespace Mi
open PySem PySem.Spec PyProof.Rows L2

/-! ### sorted -/
def tup1D : D → Bool
  | .tup (_ :: _) => true
  | _ => false
def notTD : D → Bool
  | .tup _ => false
  | .non => false
  | _ => true
def sortOk (xs : List D) : Bool := xs.all okD && (xs.all tup1D || xs.all notTD) && (xs.all fun x => xs.all fun y => PySem.W.alike (py x) (py y)) && (xs.all fun x => decide ((py x).depth ≤ 60))
def dLe : D → D → Bool := PySem.W.dataLe false py
def sortD : D → Option O
  | .lst xs => if sortOk xs then some (.lst (xs.mergeSort dLe)) else none
  | .scr xs => if sortOk xs then some (.lst (xs.mergeSort dLe)) else none
  | .tup xs => if sortOk xs then some (.lst (xs.mergeSort dLe)) else none
  | _ => none
section
variable {prog : Program} {w : World} {A : Around} {E : Value → Shared → Prop} {s : Shared}
theorem collect_tuple {l : Addr} {vs : List Value} {Q : List Value → Shared → Prop} (hl : s.heap.IsTuple l vs.toArray)
    (h : Q vs { s with heap := (s.heap.push (seqObj "list" #[] 0)).update s.heap.objs.size (Obj.mapSeq (· ++ vs.toArray)) }) (hsz : vs.length ≤ sizeLine) :
    wpAny (model prog w) A (collect (.ref l)) Q E s := by
  obtain ⟨o, ho, hc, n, hd⟩ := id hl
  unfold collect
  refine wpAny_bind (wpAny_runValue (codeAny_builtin entry_proto_collect' ?_))
  show wpAny _ _ (do again (.builtin "list.__iadd__" ⟨[← newList [], .ref l], []⟩)) _ _ s
  refine wpAny_bind (wpAny_newList (wpAny_pure ⟨Code.quiet_builtin _ (by decide +kernel), codeAny_builtin entry_list_iadd' ?_⟩))
  show wpAny _ _ (Builtin.List.listExtendWith (.ref s.heap.objs.size) (.ref l) (.ref s.heap.objs.size)) _ _ { s with heap := s.heap.push (seqObj "list" #[] 0) }
  unfold Builtin.List.listExtendWith
  have ho' : (s.heap.push (seqObj "list" #[] 0)).get? l = some o := Heap.get?_push_of_some _ ho
  refine wpAny_bind (wpAny_typeOf (T := "tuple") ⟨o, ho', hc⟩ ?_)
  have ht : (Value.type "tuple" == Value.type "tuple") = true := by rfl
  rw [if_pos (by rw [ht]; simp)]
  refine wpAny_bind (listItems_at ho' hd ?_)
  refine wpAny_bind (listItems_at (xs := #[]) (n := 0) (Heap.get?_push_size _ rfl) rfl ?_)
  rw [if_neg (by simp)]
  refine wpAny_bind (listUpdate_at (xs := #[]) (n := 0) (Heap.get?_push_size _ rfl) rfl ?_ (Nat.zero_le _) (by show (#[] ++ vs.toArray).size ≤ sizeLine + 1; simp only [Array.size_append, List.size_toArray, List.length_nil]; omega))
  refine wpAny_pure ?_
  show wpAny (model prog w) A (do
      let o ← load s.heap.objs.size
      match o.data with
      | .seq xs _ => pure xs.toList
      | _ => unsupported "internal:collect") Q E { s with heap := (s.heap.push (seqObj "list" #[] 0)).update s.heap.objs.size (Obj.mapSeq (· ++ vs.toArray)) }
  refine wpAny_bind (wpAny_load (get?_update_seq (Heap.get?_push_size _ rfl) _) ?_)
  show wpAny _ _ (pure ((#[] : Array Value) ++ vs.toArray).toList) Q E _
  rw [show ((#[] : Array Value) ++ vs.toArray).toList = vs by simp]
  exact wpAny_pure h
theorem sorted_of_sortT {l : Addr} {vs : List Value} {kw : List (Str × Value)} {Q : Value → Shared → Prop} (hl : s.heap.IsTuple l vs.toArray) (hL : vs.length ≤ sizeLine) (ha1 : PySem.argsOk "sorted" ⟨[.ref l], kw⟩) (ha2 : ∀ x, PySem.argsOk "list.sort" ⟨[.ref x], kw⟩)
    (body : ∀ E' : Value → Shared → Prop, wpAny (model prog w) A.in1.in1 (Builtin.«list.sort» ⟨[.ref (s.heap.objs.size + 1)], kw⟩) (fun f s' => f = .done (.ret .none) ∧ Q (.ref (s.heap.objs.size + 1)) s') E' { s with heap := PySem.W.copyHeap s.heap vs }) :
    wpAny (model prog w) A (call (.builtin "sorted") [.ref l] kw) Q E s := by
  refine call_function_entry_kw kind_sorted plain_sorted entry_sorted ha1 ?_
  unfold Builtin.«sorted»
  refine wpAny_bind (m := checkCount "sorted" 1 1 _) (wpAny_pure ?_)
  refine wpAny_bind (collect_tuple hl ?_ hL)
  refine wpAny_bind (wpAny_newList ?_ hL)
  have hsz : ((s.heap.push (seqObj "list" #[] 0)).update s.heap.objs.size (Obj.mapSeq (· ++ vs.toArray))).objs.size = s.heap.objs.size + 1 := by
    rw [Heap.size_update, size_push']
  show wpAny _ _ _ _ _ { s with heap := PySem.W.copyHeap s.heap vs }
  rw [hsz]
  refine wpAny_bind (wpAny_holding (wpAny_call_entry_kw slot_list_sort ⟨_, PySem.W.copyHeap_at s.heap vs, rfl⟩ entry_list_sort ?body (ha2 _)))
  case body =>
    show wpAny (model prog w) A.in1.in1 (Builtin.«list.sort» ⟨[.ref (s.heap.objs.size + 1)], kw⟩) _ _ _
    refine wpAny_mono (body _) (fun f s' hf => ?_) fun _ _ e => e
    obtain ⟨rfl, hq⟩ := hf
    exact ⟨_, rfl, wpAny_pure ⟨_, rfl, hq⟩⟩
variable {β : Type} {vs : List Value} {bs : List β} {enc : β → PyData} {R : Value → β → Prop}
theorem sorted_dataT {l : Addr} {Q : Value → Shared → Prop} (hl : s.heap.IsTuple l vs.toArray) (e : PySem.W.EachIs R vs bs) (er : PySem.W.EachIs (fun v b => ∃ as, Reads s.heap v (enc b) as) vs bs) (hal : PySem.W.AllAlike (bs.map enc)) (hk : PySem.W.Sortable (bs.map enc)) (hL : bs.length ≤ sizeLine)
    (hu : ∀ b, b ∈ bs → A.units + 2 + (enc b).depth < cLine) (h : ∀ out, out.length = bs.length → PySem.W.EachIs R out (bs.mergeSort (PySem.W.dataLe false enc)) → Q (.ref (s.heap.objs.size + 1)) { s with heap := sortedAll s.heap vs (List.toArray out) }) :
    wpAny (model prog w) A (call (.builtin "sorted") [.ref l]) Q E s := by
  have er' : PySem.W.EachIs (fun v b => ∃ as, Reads (PySem.W.sortingHeap (PySem.W.copyHeap s.heap vs) (s.heap.objs.size + 1) vs) v (enc b) as) vs bs := er.mono fun _ _ ⟨as, r⟩ => ⟨as, PyProof.Rows.Reads.keeps (fun _ _ => PySem.W.sorting_copy_old) r⟩
  have S := PySem.W.SortsAt.data (prog := prog) (w := w) (A := A.in1.in1) (s := { s with heap := PySem.W.sortingHeap (PySem.W.copyHeap s.heap vs) (s.heap.objs.size + 1) vs }) (PySem.W.each_map (R := fun v d => ∃ as, Reads (PySem.W.sortingHeap (PySem.W.copyHeap s.heap vs) (s.heap.objs.size + 1) vs) v d as) enc er') hal hk (PySem.W.bound_map hu)
  have hL' : vs.length ≤ sizeLine := by rw [e.length]; exact hL
  exact sorted_of_sortT hl hL' (args_sorted1 _) (fun _ => args_list_sort _) fun _ => PySem.W.list_sort_vals (s := { s with heap := PySem.W.copyHeap s.heap vs }) (PySem.W.copyHeap_at s.heap vs) S hL' ⟨rfl, h _ (by rw [PySem.W.sortVals_length false rfl]; exact e.length) (PySem.W.sortVals_data false e er' hal)⟩
end
def rSortM (X : Cx) : List V → Hp → VK → Prop := fun vs H Q => ∃ (a : Addr) (bs : List (V × D)), vs = [.ref a] ∧ (SqL X.K H a (bs.map Prod.fst) ∨ SqT X.K H a (bs.map Prod.fst)) ∧ (∀ p ∈ bs, Dp X.K H p.1 (py p.2)) ∧ sortOk (bs.map Prod.snd) = true ∧
  ∀ p, H p = none → Q (.ref p) (upd H p (.lst ((bs.mergeSort fun x y => dLe x.2 y.2).map Prod.fst)))
theorem each_vals {bs : List (V × D)} : ∀ {us : List Value}, Vals (bs.map Prod.fst) us → PySem.W.EachIs (fun v b => RelV b.1 v) us bs := by
  induction bs with
  | nil => intro us h; cases h; exact .nil
  | cons b bs ih => intro us h; cases h with | cons r t => exact .cons r (ih t)
theorem vals_each {us : List Value} {bs : List (V × D)} (h : PySem.W.EachIs (fun v b => RelV b.1 v) us bs) : Vals (bs.map Prod.fst) us := by
  induction h with
  | nil => exact .nil
  | cons r _ ih => exact .cons r ih
theorem sortOk_alike {bs : List (V × D)} (h : sortOk (bs.map Prod.snd) = true) : PySem.W.AllAlike (bs.map fun p => py p.2) ∧ PySem.W.Sortable (bs.map fun p => py p.2) ∧ (∀ p ∈ bs, (py p.2).depth ≤ 60) ∧ ∀ p ∈ bs, okD p.2 = true := by
  unfold sortOk at h
  simp only [Bool.and_eq_true, Bool.or_eq_true, List.all_eq_true, List.mem_map, decide_eq_true_eq] at h
  obtain ⟨⟨⟨h1, h2⟩, h3⟩, h4⟩ := h
  refine ⟨fun d hd d' hd' => ?_, ?_, fun p hp => h4 _ ⟨p, hp, rfl⟩, fun p hp => h1 _ ⟨p, hp, rfl⟩⟩
  · obtain ⟨p, hp, rfl⟩ := List.mem_map.mp hd
    obtain ⟨p', hp', rfl⟩ := List.mem_map.mp hd'
    exact h3 _ ⟨p, hp, rfl⟩ _ ⟨p', hp', rfl⟩
  · rcases h2 with h2 | h2
    · refine .inl fun d hd => ?_
      obtain ⟨p, hp, rfl⟩ := List.mem_map.mp hd
      have := h2 _ ⟨p, hp, rfl⟩
      revert this
      cases p.2 <;> simp [tup1D]
      rename_i xs
      cases xs <;> simp [tup1D, py, pyL]
    · refine .inr fun d hd => ?_
      obtain ⟨p, hp, rfl⟩ := List.mem_map.mp hd
      have := h2 _ ⟨p, hp, rfl⟩
      revert this
      cases p.2 <;> simp [notTD, py]
theorem each_reads {X : Cx} {pins : List (Addr × Obj)} {σ : L2.St} {H : Hp} {s : Shared} (I : Inv X pins σ H s) {bs : List (V × D)} (h : ∀ p ∈ bs, Dp X.K H p.1 (py p.2)) : ∀ {us : List Value}, PySem.W.EachIs (fun v b => RelV b.1 v) us bs → PySem.W.EachIs (fun v b => ∃ as, Reads s.heap v (py b.2) as) us bs := by
  induction bs with
  | nil => intro us e; cases e; exact .nil
  | cons b bs ih =>
    intro us e
    cases e with
    | cons r t => exact .cons (Dp.reads I _ _ _ (h b (by simp)) r) (ih (fun p hp => h p (by simp [hp])) t)
theorem cr_sortM {X : Cx} {k : Nat} (hr : Room k X.A) : CallR X (.builtin "sorted") (rSortM X) := by
  intro pins s σ H vs us Q I r h
  obtain ⟨a, bs, rfl, hs, hd, ok, q⟩ := h
  rw [Vals.ref1 r]
  obtain ⟨h1, h2, h3, h4⟩ := sortOk_alike ok
  have hu := units65 hr
  have fin : ∀ (its out : List Value), out.length = bs.length → bs.length ≤ sizeLine → PySem.W.EachIs (fun v b => RelV b.1 v) out (bs.mergeSort (PySem.W.dataLe false fun p : V × D => py p.2)) →
      EP X pins σ Q (.ref (s.heap.objs.size + 1)) { s with heap := sortedAll s.heap its (List.toArray out) } := fun its out hl hz e => by
    obtain ⟨ep, he'⟩ := PyProof.Rows.sortedAll_at s.heap its out.toArray
    have hlen : ((bs.mergeSort fun x y => dLe x.2 y.2).map Prod.fst).length ≤ sizeLine := by rw [List.length_map, List.length_mergeSort]; exact hz
    exact ⟨.ref _, upd H (s.heap.objs.size + 1) (.lst ((bs.mergeSort fun x y => dLe x.2 y.2).map Prod.fst)), I.laid (t' := s.toks) (fun _ _ => PyProof.Rows.sortedAll_old) (Nat.le_succ _) ⟨hlen, out, ep, vals_each e, he'⟩, rfl, q _ (I.hok.fresh (Nat.le_succ _))⟩
  rcases hs with hs | hs
  · obtain ⟨its, rv, hl, hz⟩ := I.list hs
    rw [List.length_map] at hz
    have ev := each_vals rv
    exact PySem.W.sorted_data hl.isList ev (each_reads I hd ev) h1 h2 hz (fun b hb => by have := h3 b hb; omega) fun out ho eo => fin its out ho hz eo
  · obtain ⟨its, rv, hl, hz⟩ := I.tuple hs
    rw [List.length_map] at hz
    have ev := each_vals rv
    exact sorted_dataT hl ev (each_reads I hd ev) h1 h2 hz (fun b hb => by have := h3 b hb; omega) fun out ho eo => fin its out ho hz eo
section
variable {Γ : Gm} {F H : Hp}
theorem repL_pairs : ∀ {vs : List V} {ds : List D}, RepL Γ F vs ds → ∃ bs : List (V × D), bs.map Prod.fst = vs ∧ bs.map Prod.snd = ds ∧ ∀ p ∈ bs, Rep Γ F p.1 p.2
  | _, _, .nil => ⟨[], rfl, rfl, fun _ h => nomatch h⟩
  | _, _, .cons (v := v) (d := d) r t => by
    obtain ⟨bs, h1, h2, h3⟩ := repL_pairs t
    exact ⟨(v, d) :: bs, by simp [h1], by simp [h2], fun p hp => by
      rcases List.mem_cons.mp hp with rfl | hp
      · exact r
      · exact h3 p hp⟩
theorem repL_of_pairs {bs : List (V × D)} (h : ∀ p ∈ bs, Rep Γ F p.1 p.2) : RepL Γ F (bs.map Prod.fst) (bs.map Prod.snd) := by
  induction bs with
  | nil => exact .nil
  | cons b bs ih => exact .cons (h b (by simp)) (ih fun p hp => h p (by simp [hp]))
theorem sort_pairs {bs : List (V × D)} (h : ∀ p ∈ bs, Rep Γ F p.1 p.2) : RepL Γ F ((bs.mergeSort fun x y => dLe x.2 y.2).map Prod.fst) ((bs.map Prod.snd).mergeSort dLe) := by
  rw [← List.map_mergeSort (r := fun x y : V × D => dLe x.2 y.2) (f := Prod.snd) (s := dLe) (fun _ _ _ _ => rfl)]
  exact repL_of_pairs fun p hp => h p ((List.mem_mergeSort).mp hp)
end
section
variable {X : Cx} {c : Addr} {W : WX} {e : Expr} {m : M RV} {p pos : Pos}
theorem rule_sort : RuleC X c (rSortM X) sortD := fun F H x dx o Q s px e k => by
  have key : ∀ (a : Addr) (xs : List V) (ds : List D), x = .ref a → (SqL X.K H a xs ∨ SqT X.K H a xs) → RepL (gm X c) F xs ds → sortOk ds = true → o = .lst (ds.mergeSort dLe) → rSortM X [x] H Q := fun a xs ds hx hs r ok ho => by
    obtain ⟨bs, rfl, rfl, h3⟩ := repL_pairs r
    subst hx ho
    have h4 := (sortOk_alike ok).2.2.2
    exact ⟨a, bs, rfl, hs, fun p hp => rep_dp s (h3 p hp) (SeqAt.canLay_of_shaped (h4 p hp)), ok, fun q nq => k _ F _ [q] (Grow.new1 s nq) (only_new nq) (new_lst s nq (sort_pairs h3))⟩
  cases dx <;> simp only [sortD] at e <;> try (cases e; done)
  · split at e
    · rename_i ok
      cases e
      obtain ⟨a, ys, rfl, h1, r1⟩ := px.vTup s
      exact key a ys _ rfl (.inr h1) r1 ok rfl
    · cases e
  · split at e
    · rename_i ok
      cases e
      obtain ⟨a, ys, rfl, h1, r1⟩ := px.vSeq s
      exact key a ys _ rfl (.inl (SqL.of h1)) r1 ok rfl
    · cases e
  · split at e
    · rename_i ok
      cases e
      obtain ⟨a, ys, rfl, h1, r1⟩ := px.vScr s
      exact key a ys _ rfl (.inl h1) r1 ok rfl
    · cases e
end
end Mi

set_option Elab.async false
set_option linter.all false
set_option autoImplicit false
set_option maxRecDepth 100000
set_option maxHeartbeats 4000000
namespace Mi
open PySem PySem.Spec PyProof.Rows L2

/-! ### sets of whole numbers -/
section
variable {P : Program} {w : World} {A : Around} {E : Value → Shared → Prop} {s : Shared}
set_option maxRecDepth 100000 in
set_option maxHeartbeats 3200000 in
theorem call_set_lstI {l : Addr} {items : Array Value} (ns : List Int) {Q : Value → Shared → Prop} (hh : A.handled = none) (hl : s.heap.IsList l items) (hit : IntsAre items.toList ns) (hb : ns.length + 1 < scanBound)
    (h : ∀ (h' : Heap) (tk c : Nat), SetR w h' s.heap.objs.size (fun j => decide (j ∈ ns)) c → c ≤ ns.length → (∀ b o, s.heap.get? b = some o → h'.get? b = some o) → Q (.ref s.heap.objs.size) { s with heap := h', toks := tk }) :
    wpAny (model P w) A (call (.type "set") [.ref l]) Q E s := by
  have hisz : items.size = ns.length := by
    have q := IntsAre.length hit
    rw [Array.length_toList] at q
    exact q
  obtain ⟨c, tl, hmro⟩ := F.called_set.mro
  have hmade := F.called_set.made
  have hsub := F.called_set.sub
  refine wpAny_call (codeAny_of_tree ?_)
  show wpAny _ _ (callAny (.type "set") _) _ _ _
  refine wpAny_pure ⟨Code.quiet_builtin _ (by decide +kernel), codeAny_builtin F.entry_type_call ?_⟩
  rw [Around.under_plain (weight_type_call_type "set" [.ref l] []) rfl]
  have h1 := F.called_set.notType
  have h2 := F.called_set.canCreate
  have hct := F.typeCall_set_1 (.ref l)
  repeat (any_goals (first | assumption | wp_step))

  refine codeAny_mono (code_set_led1 (.ref l) (E := E) (Q₁ := fun obj s₁ => obj = .ref s.heap.objs.size ∧ s₁ = { s with heap := s.heap.push { cls := .type "set", dict := none, data := .set #[] 0 (.fresh 0 0 (!w.params.followText "set-order")) } }) ⟨rfl, rfl⟩) fun r s₁ hr => ?_
  cases r with
  | error e => exact hr
  | ok fl =>
    cases fl with
    | ret obj =>
      obtain ⟨rfl, rfl⟩ := hr
      have hS : (s.heap.push { cls := .type "set", dict := none, data := .set #[] 0 (.fresh 0 0 (!w.params.followText "set-order")) }).get? s.heap.objs.size = some { cls := .type "set", dict := none, data := .set #[] 0 (.fresh 0 0 (!w.params.followText "set-order")) } := Heap.get?_push_size _ rfl
      have hT : Shared.TypeIs { s with heap := s.heap.push { cls := .type "set", dict := none, data := .set #[] 0 (.fresh 0 0 (!w.params.followText "set-order")) } } (.ref s.heap.objs.size) "set" := ⟨_, hS, rfl⟩
      have hli := F.called_set.init.lookup
      have hbi := F.called_set.init.bind (.ref s.heap.objs.size)
      repeat (any_goals (first | assumption | wp_step))

      refine codeAny_mono (codeAny_call_builtin (R := wants (fun r s₂ => r = .none ∧ ∃ h' tk c, s₂ = { s with heap := h', toks := tk } ∧ SetR w h' s.heap.objs.size (fun j => decide (j ∈ ns)) c ∧ c ≤ ns.length ∧
          (∀ b o, s.heap.get? b = some o → h'.get? b = some o)) E) F.called_set.init.plain F.entry_set_init (check_set_init_1 hT ?_)) fun r₂ s₂ hr₂ => ?_
      · obtain ⟨ol, hol, hcl, nl, hdl⟩ := hl
        obtain ⟨ocls, odict, odata, oslots⟩ := ol
        simp only at hcl hdl
        subst hcl; subst hdl
        have hol' : (s.heap.push { cls := .type "set", dict := none, data := .set #[] 0 (.fresh 0 0 (!w.params.followText "set-order")) }).get? l = some { cls := .type "list", dict := odict, data := .seq items nl, slots := oslots } := Heap.get?_push_of_some _ hol
        have hsls := F.sub_list_set
        have hslf := F.sub_list_frozenset
        have hne : (Value.type "list" == Value.type "dict") = false := by decide
        have hl1 : (s.heap.push { cls := .type "set", dict := none, data := .set #[] 0 (.fresh 0 0 (!w.params.followText "set-order")) }).IsList l items := ⟨_, hol', rfl, nl, rfl⟩
        unfold Builtin.«set.__init__» noKeywords Builtin.Frozenset.updateFrom
        generalize hPI : pyIter = PI
        wp_walk
        subst hPI

        refine wpAny_pyIter_list hl1 ?_
        refine wpAny_bind (wpAny_runValue ?_)
        have hlS : l < s.heap.objs.size := Heap.lt_size hol
        have hh3 : A.in1.in1.in1.handled = none := by simp [hh]
        have hz1 : (s.heap.push { cls := .type "set", dict := none, data := .set #[] 0 (.fresh 0 0 (!w.params.followText "set-order")) }).objs.size = s.heap.objs.size + 1 := Heap.size_push ..
        have hneI : l ≠ (s.heap.push { cls := .type "set", dict := none, data := .set #[] 0 (.fresh 0 0 (!w.params.followText "set-order")) }).objs.size := by
          rw [Heap.size_push]; exact Nat.ne_of_lt (Nat.lt_succ_of_lt hlS)
        have hSf : s.heap.objs.size ∉ [(s.heap.push { cls := .type "set", dict := none, data := .set #[] 0 (.fresh 0 0 (!w.params.followText "set-order")) }).objs.size, l] := by
          rw [Heap.size_push]; simp only [List.mem_cons, List.mem_singleton, List.not_mem_nil, or_false, not_or]
          exact ⟨Nat.ne_of_lt (Nat.lt_succ_self _), Nat.ne_of_gt hlS⟩
        have hval : ∀ (i : Nat) (v : Value), items[i]? = some v → ∃ k t, ns[i]? = some k ∧ v = .int k t := fun i v hv => by
          have hi : i < ns.length := by rw [← hisz]; exact (Array.getElem?_eq_some_iff.mp hv).1
          obtain ⟨t, e⟩ := PyProof.Rows.IntsAre.int_at hit i v (by rw [Array.getElem?_toList]; exact hv)
          refine ⟨ns[i], t, List.getElem?_eq_getElem hi, ?_⟩
          rw [e, List.getD_eq_getElem?_getD, List.getElem?_eq_getElem hi] <;> rfl
        refine set_update_ints ((Walks.list hh3 _ l hneI items).toS) s.heap.objs.size
          hSf ns hisz hb hval (items.size - 0) 0 _ (by omega) (Nat.zero_le _)
          ⟨⟨_, Heap.get?_push_size _ rfl, rfl, rfl⟩, (hl1.push _)⟩ ?hS0 ?hR
        case hS0 =>
          have hget : ((s.heap.push { cls := .type "set", dict := none, data := .set #[] 0 (.fresh 0 0 (!w.params.followText "set-order")) }).push { cls := .type "list_iterator", data := .fields #[.ref l, .int 0 0] }).get? s.heap.objs.size
              = some { cls := .type "set", dict := none, data := .set #[] 0 (.fresh 0 0 (!w.params.followText "set-order")) } := Heap.get?_push_of_some _ hS
          exact ⟨0, Nat.le_refl 0, setR_new_at hget⟩
        case hR =>
          intro s' c' hm hc' hS'
          obtain ⟨h', g2, d', tk', os'⟩ := s'
          have eg : g2 = s.gens := hm.gens
          have ed : d' = s.drawn := hm.drawn
          have eo : os' = s.os := hm.os
          subst eg; subst ed; subst eo
          show wpAny _ _ _ _ _ _
          refine wpAny_pure ?_
          show wpAny _ _ (ret Value.none) _ _ _
          rw [hisz] at hc'
          refine wpAny_pure ⟨rfl, h', tk', c', rfl, hS', hc', fun b o e => ?_⟩
          have hb0 : b < s.heap.objs.size := Heap.lt_size e
          have hb1 : b ≠ s.heap.objs.size := Nat.ne_of_lt hb0
          have hb2 : b ≠ (s.heap.push { cls := .type "set", dict := none, data := .set #[] 0 (.fresh 0 0 (!w.params.followText "set-order")) }).objs.size := by
            rw [Heap.size_push]; exact Nat.ne_of_lt (Nat.lt_succ_of_lt hb0)
          exact hm.heap b o (by simp only [List.mem_cons, List.mem_singleton, List.not_mem_nil, or_false, not_or]; exact ⟨hb1, hb2⟩) (Heap.get?_push_of_some _ (Heap.get?_push_of_some _ e))

      · cases r₂ with
        | error e => exact hr₂
        | ok fl₂ =>
          cases fl₂ with
          | ret r =>
            obtain ⟨rfl, h', tk, c', rfl, hS', hc', hk'⟩ := hr₂
            repeat (any_goals (first | assumption | wp_step))
            exact h _ _ _ hS' hc' hk'
          | _ => exact hr₂.elim
    | _ => exact hr.elim

end
end Mi

set_option Elab.async false
set_option linter.all false
set_option autoImplicit false
set_option maxRecDepth 100000
set_option maxHeartbeats 4000000
namespace Mi
open PySem PySem.Spec PyProof.Rows L2

/-! ### sets of whole numbers -/
def ddp : List Int → List Int
  | [] => []
  | x :: xs => if x ∈ ddp xs then ddp xs else x :: ddp xs
theorem mem_ddp {k : Int} : ∀ {xs : List Int}, k ∈ ddp xs ↔ k ∈ xs
  | [] => Iff.rfl
  | x :: xs => by
    unfold ddp
    split
    · rename_i h
      rw [mem_ddp (xs := xs), List.mem_cons]
      rw [mem_ddp (xs := xs)] at h
      constructor
      · exact .inr
      · rintro (rfl | h')
        · exact h
        · exact h'
    · rw [List.mem_cons, List.mem_cons, mem_ddp (xs := xs)]
theorem ddp_nodup : ∀ {xs : List Int}, (ddp xs).Nodup
  | [] => List.nodup_nil
  | x :: xs => by
    unfold ddp
    split
    · exact ddp_nodup (xs := xs)
    · rename_i h; exact List.nodup_cons.mpr ⟨h, ddp_nodup (xs := xs)⟩
theorem perm_of_mem {xs ys : List Int} (hx : xs.Nodup) (hy : ys.Nodup) (h : ∀ k, k ∈ xs ↔ k ∈ ys) : xs.Perm ys := by
  rw [List.perm_iff_count]
  intro k
  rw [hx.count, hy.count]
  simp only [h k]
theorem setR_count {w : World} {h : Heap} {a : Addr} {S : Int → Bool} {n : Nat} {ds : List Int} (R : SetR w h a S n) (m : ∀ k, S k = true ↔ k ∈ ds) (nd : ds.Nodup) : n = ds.length := by
  obtain ⟨o, es, ep, t, _, _, _, _, h1, h2, _, _, h3, _⟩ := R
  have := (perm_of_mem h1 nd fun k => (h2 k).symm.trans (m k)).length_eq
  rw [List.length_map, Array.length_toList] at this
  omega
theorem ddp_length : ∀ xs : List Int, (ddp xs).length ≤ xs.length
  | [] => Nat.le_refl _
  | x :: xs => by
    unfold ddp
    have := ddp_length xs
    split <;> simp <;> omega
def rSetI (X : Cx) : List V → Hp → VK → Prop := fun vs H Q => ∃ (a : Addr) (ns : List Int), vs = [.ref a] ∧ (SqL X.K H a (ns.map V.int) ∨ SqT X.K H a (ns.map V.int)) ∧ ns.length + 1 < scanBound ∧
  ∀ p, H p = none → Q (.ref p) (upd H p (SetO X.w p (fun k => decide (k ∈ ddp ns)) (ddp ns).length))
theorem cr_setI {X : Cx} (hc : X.calm = true) : CallR X (.type "set") (rSetI X) := by
  intro pins s σ H vs us Q I r h
  obtain ⟨a, ns, rfl, hs, hb, q⟩ := h
  rw [Vals.ref1 r]
  have hn : H s.heap.objs.size = none := I.hok.fresh (Nat.le_refl _)
  have fin : ∀ (h' : Heap) (tk c : Nat), SetR X.w h' s.heap.objs.size (fun j => decide (j ∈ ns)) c → c ≤ ns.length → (∀ b o, s.heap.get? b = some o → h'.get? b = some o) → EP X pins σ Q (.ref s.heap.objs.size) { s with heap := h', toks := tk } := fun h' tk c R _ k => by
    have e := setR_count (ds := ddp ns) R (fun k => by rw [decide_eq_true_eq, mem_ddp]) ddp_nodup
    subst e
    have R' : SetR X.w h' s.heap.objs.size (fun k => decide (k ∈ ddp ns)) (ddp ns).length := R.congr fun k => by simp only [mem_ddp]
    exact ⟨.ref s.heap.objs.size, upd H s.heap.objs.size (SetO X.w s.heap.objs.size (fun k => decide (k ∈ ddp ns)) (ddp ns).length), I.laid (t' := tk) k (Nat.le_refl _) (setO_new R'), rfl, q _ hn⟩
  rcases hs with hs | hs
  · obtain ⟨its, rv, hl, _⟩ := I.list hs
    exact call_set_lstI ns (I.ok.hd hc) hl.isList (by simpa using rv.ints) hb fin
  · obtain ⟨its, rv, hl, _⟩ := I.tuple hs
    exact call_set_tupI ns (I.ok.hd hc) hl (by simpa using rv.ints) hb fin
def setD : D → Option O
  | .lst xs => (intsD xs).bind fun ns => if ns.length + 1 < scanBound then some (.val (.set (ddp ns))) else none
  | .tup xs => (intsD xs).bind fun ns => if ns.length + 1 < scanBound then some (.val (.set (ddp ns))) else none
  | _ => none
def setLenD : D → Option O
  | .set ns => some (.val (.int ns.length))
  | _ => none
def setSortD : D → Option O
  | .set ns => if ns.length < 64 then some (.lst ((ns.mergeSort fun a b => decide (a ≤ b)).map D.int)) else none
  | _ => none
theorem repL_ints {Γ : Gm} {F : Hp} : ∀ ns : List Int, RepL Γ F (ns.map V.int) (ns.map D.int)
  | [] => .nil
  | n :: ns => .cons (.int n) (repL_ints ns)
theorem new_set {Γ : Gm} {F H : Hp} {p : Addr} {ns : List Int} (s : Same F H) (n : H p = none) (nd : ns.Nodup) : RepO Γ (upd F p (SetO Γ.w p (fun k => decide (k ∈ ns)) ns.length)) (upd H p (SetO Γ.w p (fun k => decide (k ∈ ns)) ns.length)) (.ref p) (.val (.set ns)) [] :=
  .val (.set nd upd_same)
theorem RepP.vSet {Γ : Gm} {F H : Hp} (S : Same F H) {v : V} {ns : List Int} (h : RepP Γ F H v (.set ns)) : ∃ a, v = .ref a ∧ ns.Nodup ∧ H a = some (SetO Γ.w a (fun k => decide (k ∈ ns)) ns.length) := by
  cases h with
  | frz h => cases h with | set n a => exact ⟨_, rfl, n, S _ _ a⟩
section
variable {X : Cx} {c : Addr} {W : WX} {e : Expr} {m : M RV} {p pos : Pos}
theorem rule_setI : RuleC X c (rSetI X) setD := fun F H x dx o Q s px e k => by
  cases dx <;> simp only [setD] at e <;> try (cases e; done)
  all_goals
    simp only [Option.bind_eq_some_iff] at e
    obtain ⟨ns, en, e⟩ := e
    split at e
    · rename_i hb
      cases e
      first
      | obtain ⟨a, ys, rfl, h1, r1⟩ := px.vTup s
        rw [intsD_rep r1 en] at h1
        exact ⟨a, ns, rfl, .inr h1, hb, fun q nq => k _ _ _ [] (Grow.frz1 s nq) no_own (new_set (Γ := gm X c) s nq ddp_nodup)⟩
      | obtain ⟨a, ys, rfl, h1, r1⟩ := px.vSeq s
        rw [intsD_rep r1 en] at h1
        exact ⟨a, ns, rfl, .inl (SqL.of h1), hb, fun q nq => k _ _ _ [] (Grow.frz1 s nq) no_own (new_set (Γ := gm X c) s nq ddp_nodup)⟩
    · cases e
theorem pm_set (hc : X.calm = true) (hm : X.mg "set" = none) (h : PM X c W e m) (hg : Gl X "set" := by rfl) (he : starEach [e] X.env = (false, eval e X.env) :: starEach [] X.env := by rfl) : PM X c W (.Call (.Name "set" p) [e] [] pos) (mFn1 setD m) :=
  pm_fnT (cr_setI hc) rule_setI hg hm (by decide +kernel) h (by decide) (by decide) he
def rLenSet (w : World) : List V → Hp → VK → Prop := fun vs H Q => ∃ (a : Addr) (S : Int → Bool) (n : Nat), vs = [V.ref a] ∧ H a = some (SetO w a S n) ∧ Q (.int n) H
theorem call_lenSet : CallR X (.builtin "len") (rLenSet X.w) := by
  intro pins s σ H vs us Q I r h
  obtain ⟨a, S, n, rfl, ha, q⟩ := h
  rw [Vals.ref1 r]
  obtain ⟨o, es, ep, t, ho, hex, hd, _, _, _, hb, hf, rfl, _⟩ := setO_get I ha
  have hb' : es.size < scanBound := hb
  refine call_len_set ho hex hd hf (by unfold scanBound at hb'; omega) ⟨.int (es.size : Nat), H, I.tok _, ⟨_, rfl⟩, q⟩
theorem rule_lenSet : RuleC X c (rLenSet X.w) setLenD := fun F H x dx o Q s px e k => by
  cases dx <;> simp only [setLenD] at e <;> try (cases e; done)
  cases e
  obtain ⟨a, rfl, nd, h1⟩ := px.vSet s
  exact ⟨a, _, _, rfl, h1, k _ F H [] (Grow.refl s) no_own (.val (.int _))⟩
/-- len of sets, too -/
def lenA (x : D) : Option O := (lenD x).or (setLenD x)
theorem pm_lenA (hm : X.mg "len" = none) (h : PM X c W e m) (hg : Gl X "len" := by rfl) (he : starEach [e] X.env = (false, eval e X.env) :: starEach [] X.env := by rfl) : PM X c W (.Call (.Name "len" p) [e] [] pos) (mFn1 lenA m) :=
  pm_fnB (call_len.or call_lenSet) (rule_len.or rule_lenSet) hg hm PySem.boot_len h (by decide) (by decide) he
theorem sorted_uniq {xs ys : List Int} (h1 : xs.Pairwise (· < ·)) (nd : ys.Nodup) (m : ∀ k, k ∈ xs ↔ k ∈ ys) : xs = ys.mergeSort fun a b => decide (a ≤ b) := by
  have p : xs.Perm (ys.mergeSort fun a b => decide (a ≤ b)) := (perm_of_mem (h1.imp fun h => by omega) nd m).trans (List.mergeSort_perm _ _).symm
  refine List.Perm.eq_of_pairwise (le := fun a b => a ≤ b) (fun a b _ _ h1 h2 => by omega) (h1.imp fun h => by omega) ?_ p
  exact (List.pairwise_mergeSort (le := fun a b : Int => decide (a ≤ b)) (fun a b c h1 h2 => by simp at *; omega) (fun a b => by simp; omega) ys).imp fun h => by simpa using h
theorem rule_sortSet : RuleC X c (rSortedSet X.w) setSortD := fun F H x dx o Q s px e k => by
  cases dx <;> simp only [setSortD] at e <;> try (cases e; done)
  split at e
  · rename_i h64
    cases e
    obtain ⟨a, rfl, nd, h1⟩ := px.vSet s
    refine ⟨a, _, _, rfl, h1, h64, fun ns q hs hm _ nq => ?_⟩
    have e2 := sorted_uniq hs nd (fun k => (hm k).trans (by simp))
    subst e2
    exact k _ F _ [q] (Grow.new1 s nq) (only_new nq) (new_lst s nq (repL_ints _))
  · cases e
/-- the keys of a dict, sorted -/
def intKs : List (Key × D) → Option (List Int)
  | [] => some []
  | (.inl k, _) :: r => (intKs r).map (k :: ·)
  | _ => none
def dicSortD : D → Option O
  | .dic kvs => (intKs kvs).bind fun ks => if ks.length < 64 then some (.lst ((ks.mergeSort fun a b => decide (a ≤ b)).map D.int)) else none
  | _ => none
theorem intKs_eq : ∀ {kvs : List (Key × D)} {ks : List Int}, intKs kvs = some ks → kvs.map (·.1) = ks.map Sum.inl
  | [], _, e => by cases e; rfl
  | (.inl k, _) :: r, ks, e => by
    simp only [intKs, Option.map_eq_some_iff] at e
    obtain ⟨ks', e, rfl⟩ := e
    simp [intKs_eq e]
  | (.inr _, _) :: _, _, e => by cases e
def rSortKs : List V → Hp → VK → Prop := fun xs H Q => ∃ (a : Addr) (kvs : List (Key × V)) (ks : List Int), xs = [.ref a] ∧ Rd H a (.dK kvs) ∧ kvs.map (·.1) = ks.map Sum.inl ∧ ks.length < 64 ∧
    ∀ (ys : List Int) (p : Addr), ys.Perm ks → ys.Pairwise (· ≤ ·) → H p = none → Q (.ref p) (upd H p (.lst (ys.map V.int)))
theorem sorted_uniq' {xs ys : List Int} (h1 : xs.Pairwise (· ≤ ·)) (p : xs.Perm ys) : xs = ys.mergeSort fun a b => decide (a ≤ b) := by
  refine List.Perm.eq_of_pairwise (le := fun a b => a ≤ b) (fun a b _ _ h1 h2 => by omega) h1 ?_ (p.trans (List.mergeSort_perm _ _).symm)
  exact (List.pairwise_mergeSort (le := fun a b : Int => decide (a ≤ b)) (fun a b c h1 h2 => by simp at *; omega) (fun a b => by simp; omega) ys).imp fun h => by simpa using h
theorem rule_sortKs : RuleC X c rSortKs dicSortD := fun F H x dx o Q s px e k => by
  cases dx <;> simp only [dicSortD] at e <;> try (cases e; done)
  rw [Option.bind_eq_some_iff] at e
  obtain ⟨ks, ek, e⟩ := e
  split at e
  · rename_i h64
    cases e
    obtain ⟨a, kvs, rfl, h1, r1⟩ := px.vDic s
    refine ⟨a, _, ks, rfl, .inl h1, (repK_keys r1).trans (intKs_eq ek), h64, fun ys q hp hs nq => ?_⟩
    rw [sorted_uniq' hs hp]
    exact k _ F _ [q] (Grow.new1 s nq) (only_new nq) (new_lst s nq (repL_ints _))
  · cases e
def sortA (x : D) : Option O := (sortD x).or ((setSortD x).or (dicSortD x))
theorem pm_sorted {k : Nat} (hr : Room k X.A) (hc : X.calm = true) (hm : X.mg "sorted" = none) (h : PM X c W e m) (hg : Gl X "sorted" := by rfl) (he : starEach [e] X.env = (false, eval e X.env) :: starEach [] X.env := by rfl) : PM X c W (.Call (.Name "sorted" p) [e] [] pos) (mFn1 sortA m) :=
  pm_fnB ((cr_sortM hr).or ((cr_sortedSet hc).or (call_sortedDI hc))) (rule_sort.or (rule_sortSet.or rule_sortKs)) hg hm (by decide +kernel) h (by decide) (by decide) he
end
end Mi

set_option Elab.async false
set_option linter.all false
set_option autoImplicit false
set_option maxRecDepth 100000
set_option maxHeartbeats 4000000
namespace Mi
open PySem PySem.Spec PyProof.Rows L2

/-! ### a slot's own thing is changed -/
section
variable {Γ : Gm} {W : WX} {F F1 H H' H1 : Hp} {As As1 : Own} {σ : Sl} {ρ : Env}
theorem Sta.mut {i : Nat} {o o' : O} {v : V} (S : Sta Γ F H σ ρ As) (e : ρ[i]? = some (some o)) (q : σ[i]? = some (some v)) (keep : ∀ b, b ∉ As i → H' b = H b) (r' : RepO Γ F H' v o' (As i)) : Sta Γ F H' σ (ρ.set i (some o')) As where
  sub := fun b u h => by
    obtain ⟨v', q', r⟩ := S.reps i o e
    rw [keep b fun hb => by rw [r.none b hb] at h; cases h]
    exact S.sub b u h
  reps := fun j o2 e2 => by
    by_cases hj : j = i
    · subst hj
      rw [List.getElem?_set_self (List.getElem?_eq_some_iff.mp e).1] at e2
      cases e2
      exact ⟨v, q, r'⟩
    · rw [List.getElem?_set_ne (Ne.symm hj)] at e2
      obtain ⟨v2, q2, r2⟩ := S.reps j o2 e2
      exact ⟨v2, q2, r2.stay (Same.refl F) fun b hb => ⟨r2.none b hb, fun u z => by rw [keep b fun hb' => hj (S.sep j i b hb hb')]; exact z⟩⟩
  sep := S.sep
  len := by rw [List.length_set]; exact S.len
theorem Tr.mut {i : Nat} (keep : ∀ b, b ∉ As i → H' b = H b) : Tr F H As F H' As := ⟨fun _ _ h => h, fun b u h n => by rw [keep b (n i)]; exact h, fun i b h => .inl ⟨i, h⟩, fun _ _ h => .inl h⟩
theorem upd_keep {a b : Addr} {u : HO} (h : b ∉ [a]) : upd H a u b = H b := upd_ne fun e => h (by simp [e])
end
/-- what a method that changes its receiver does -/
def RuleM (X : Cx) (c : Addr) (r : V → List V → Hp → VK → Prop) (g : O → List D → Option (D × O)) : Prop :=
  ∀ (F H : Hp) (v : V) (o : O) (A : List Addr) (vs : List V) (ds : List D) (d : D) (o' : O) (Q : VK), Same F H → RepO (gm X c) F H v o A → RepL (gm X c) F vs ds → g o ds = some (d, o') →
    (∀ u H', (∀ b, b ∉ A → H' b = H b) → RepO (gm X c) F H' v o' A → Rep (gm X c) F u d → Q u H') → r v vs H Q
def isLstO : O → Bool
  | .lst _ => true
  | _ => false
def mMut (i : Nat) (ms : M (List D)) (g : O → List D → Option (D × O)) : M RV := fun ρ => match ρ[i]? with
  | some (some (.lst _)) => M.bind ms (fun ds ρ1 => match ρ1[i]? with
    | some (some o) => match g o ds with
      | some (d, o') => .ok (.o (.val d)) (ρ1.set i (some o'))
      | none => .stuck
    | _ => .stuck) ρ
  | _ => .stuck
section
variable {X : Cx} {c : Addr} {W : WX} {es : List Expr} {e : Expr} {ms : M (List D)} {pos apos cpos npos : Pos}
theorem tM_mut {i : Nat} {t : TA} {r : V → List V → Hp → VK → Prop} {g : O → List D → Option (D × O)} (R : RuleM X c r g) (ht : ∀ σ H Q, tMA (gm X c) W ms σ H Q → t σ H Q) {σ : Sl} {H : Hp} {Q : VK} (h : tM (gm X c) W (mMut i ms g) σ H Q) : tBM X.K "list" r (tVar i) t σ H Q := by
  obtain ⟨F, ρ, As, S, w⟩ := h
  unfold mMut at w
  split at w
  · rename_i ds0 e
    obtain ⟨v, q, ro⟩ := S.reps i _ e
    refine ⟨v, q, ?_, ht _ _ _ ⟨F, ρ, As, S, wpR_mono (wpR_bind w) (fun ds ρ1 w1 F1 H1 vs As1 S1 T1 rs => ?_) fun _ _ q => q⟩⟩
    · generalize As i = A at ro
      cases ro with
      | lst n h1 r1 => exact .inl ⟨rfl, _, SqL.of h1⟩
    · split at w1
      · rename_i o e1
        split at w1
        · rename_i d o' eg
          obtain ⟨v', q', ro'⟩ := S1.reps i _ e1
          rw [q] at q'; cases q'
          exact R F1 H1 v o (As1 i) vs ds d o' Q S1.sub ro' rs eg fun u H' keep r' ru =>
            w1 F1 H' u As1 [] (S1.mut e1 q keep r') (T1.trans (Tr.mut keep)) Fr.nil (.o (.val ru) fun _ h => nomatch h)
        · exact w1.elim
      · exact w1.elim
  · exact w.elim
variable {x : Str} {name : Str} {id : String} {r : V → List V → Hp → VK → Prop} {g : O → List D → Option (D × O)}
/-- a method of a list that a name holds -/
theorem pm_mut {i : Nat} (slot : Slot "list" name id) (hty : typeOf (.builtin id) = pure (.type "method_descriptor")) (hm : MtR X id r) (R : RuleM X c r g) (hv : PE X (.Name x npos) (tVar i)) (ha : AM X c W (e :: es) ms)
    (hbase : attributeBase (.Name x npos) name X.env (eval (.Name x npos) X.env) = eval (.Name x npos) X.env := by rfl)
    (hfew : ((backTo cpos (starEach (e :: es) X.env)).all (fun x => !x.1) && (backToKw cpos (keywordEach [] X.env)).all (fun x => x.1.isSome)
      && decide ((e :: es).length + ([] : List Keyword).length + (if ([] : List Keyword).isEmpty then 0 else 1) < 30)) = true := by rfl)
    (hline : (apos.endLine == cpos.line) = true := by rfl) (hs : starEach (e :: es) X.env = (false, eval e X.env) :: starEach es X.env := by rfl) (hplain : (backTo cpos (starEach es X.env)).any (·.1) = false := by rfl) :
    PM X c W (.Call (.Attribute (.Name x npos) name apos) (e :: es) [] cpos) (mMut i ms g) :=
  PE.imp (pe_bm PySem.F.plainAttrs_list slot hty hm hv ha hbase hfew hline hs hplain) fun _ _ _ h => tM_mut R (fun _ _ _ q => q) h
theorem tM_mut0 {i : Nat} {r : V → List V → Hp → VK → Prop} {g : O → List D → Option (D × O)} (R : RuleM X c r g) {σ : Sl} {H : Hp} {Q : VK} (h : tM (gm X c) W (mMut i mNil g) σ H Q) : tBM0 X.K "list" r (tVar i) σ H Q := by
  obtain ⟨v, q, ty, q2⟩ := tM_mut (t := tNil) R (fun σ H Q ⟨F, ρ, As, S, w⟩ => show Q [] H from w F H [] As S Tr.refl .nil) h
  exact ⟨v, q, ty, q2⟩
theorem pm_mut0 {i : Nat} (slot : Slot "list" name id) (hty : typeOf (.builtin id) = pure (.type "method_descriptor")) (hm : MtR X id r) (R : RuleM X c r g) (hv : PE X (.Name x npos) (tVar i))
    (hbase : attributeBase (.Name x npos) name X.env (eval (.Name x npos) X.env) = eval (.Name x npos) X.env := by rfl) (hline : (apos.endLine == cpos.line) = true := by rfl) :
    PM X c W (.Call (.Attribute (.Name x npos) name apos) [] [] cpos) (mMut i mNil g) :=
  PE.imp (pe_bm0 PySem.F.plainAttrs_list slot hty hm hv hbase hline) fun _ _ _ h => tM_mut0 R h
def appendG : O → List D → Option (D × O)
  | .lst xs, [d] => if xs.length < sizeLine then some (.non, .lst (xs ++ [d])) else none
  | _, _ => none
def popG : O → List D → Option (D × O)
  | .lst xs, [] => xs[xs.length - 1]?.map fun d => (d, .lst xs.dropLast)
  | _, _ => none
def popAtG : O → List D → Option (D × O)
  | .lst xs, [.int i] => if -(2 ^ 63) ≤ i ∧ i < 2 ^ 63 then (seqIndex? i xs.length).bind fun k => xs[k]?.map fun d => (d, .lst (xs.eraseIdx k)) else none
  | _, _ => none
def extendG : O → List D → Option (D × O)
  | .lst xs, [.lst ys] => if xs.length + ys.length ≤ sizeLine then some (.non, .lst (xs ++ ys)) else none
  | _, _ => none
theorem RepL.dropLast {Γ : Gm} {F : Hp} {vs : List V} {ds : List D} (r : RepL Γ F vs ds) : RepL Γ F vs.dropLast ds.dropLast := by
  rw [List.dropLast_eq_take, List.dropLast_eq_take, r.length]
  exact r.take _
theorem rule_append : RuleM X c rAppend appendG := fun F H v o A vs ds d o' Q s ro rs e k => by
  cases o <;> (try (cases e; done))
  cases rs with
  | nil => cases e
  | cons r1 r2 =>
    cases r2 with
    | cons => cases e
    | nil =>
      simp only [appendG] at e
      split at e
      · rename_i hz
        cases e
        cases ro with
        | lst n h1 r3 =>
          exact ⟨_, _, _, rfl, rfl, h1, by rw [r3.length]; exact hz, k _ _ (fun b hb => upd_keep hb) (.lst n upd_same (r3.append (.cons r1 .nil))) .non⟩
      · cases e
theorem rule_pop : RuleM X c rPop popG := fun F H v o A vs ds d o' Q s ro rs e k => by
  cases o <;> (try (cases e; done))
  cases rs with
  | cons => cases e
  | nil =>
    simp only [popG, Option.map_eq_some_iff] at e
    obtain ⟨d', e1, e⟩ := e
    cases e
    cases ro with
    | lst n h1 r3 =>
      obtain ⟨u, hu, ru⟩ := r3.get e1
      exact ⟨_, _, u, rfl, rfl, h1, by rw [r3.length]; exact hu, k _ _ (fun b hb => upd_keep hb) (.lst n upd_same r3.dropLast) ru⟩
theorem rule_popAt : RuleM X c rPopAt popAtG := fun F H v o A vs ds d o' Q s ro rs e k => by
  cases o <;> (try (cases e; done))
  cases rs with
  | nil => cases e
  | cons r1 r2 =>
    rename_i d1 _
    cases r2 with
    | cons => cases d1 <;> cases e
    | nil =>
      cases d1 <;> simp only [popAtG] at e <;> try (cases e; done)
      split at e
      · rename_i hz
        simp only [Option.bind_eq_some_iff, Option.map_eq_some_iff] at e
        obtain ⟨kk, e1, d', e2, e⟩ := e
        cases e
        cases r1
        cases ro with
        | lst n h1 r3 =>
          obtain ⟨u, hu, ru⟩ := r3.get e2
          exact ⟨_, _, _, kk, u, rfl, rfl, h1, hz.1, hz.2, by rw [r3.length]; exact e1, hu, k _ _ (fun b hb => upd_keep hb) (.lst n upd_same (r3.eraseIdx kk)) ru⟩
      · cases e
theorem rule_extend : RuleM X c rExtend extendG := fun F H v o A vs ds d o' Q s ro rs e k => by
  cases o <;> (try (cases e; done))
  cases rs with
  | nil => cases e
  | cons r1 r2 =>
    rename_i d1 _
    cases r2 with
    | cons => cases d1 <;> cases e
    | nil =>
      cases d1 <;> simp only [extendG] at e <;> try (cases e; done)
      split at e
      · rename_i hz
        cases e
        cases r1 with
        | lst h2 r4 =>
          cases ro with
          | lst n h1 r3 =>
            exact ⟨_, _, _, _, rfl, rfl, h1, s _ _ h2, by rw [r3.length, r4.length]; exact hz, k _ _ (fun b hb => upd_keep hb) (.lst n upd_same (r3.append r4)) .non⟩
      · cases e
theorem pm_append {i : Nat} (hv : PE X (.Name x npos) (tVar i)) (ha : AM X c W [e] ms) (hbase : attributeBase (.Name x npos) "append" X.env (eval (.Name x npos) X.env) = eval (.Name x npos) X.env := by rfl)
    (hfew : ((backTo cpos (starEach [e] X.env)).all (fun x => !x.1) && (backToKw cpos (keywordEach [] X.env)).all (fun x => x.1.isSome) && decide (([e] : List Expr).length + ([] : List Keyword).length + (if ([] : List Keyword).isEmpty then 0 else 1) < 30)) = true := by rfl)
    (hline : (apos.endLine == cpos.line) = true := by rfl) (hs : starEach [e] X.env = (false, eval e X.env) :: starEach [] X.env := by rfl) :
    PM X c W (.Call (.Attribute (.Name x npos) "append" apos) [e] [] cpos) (mMut i ms appendG) := pm_mut PySem.F.slot_list_append PySem.F.type_list_append mt_append rule_append hv ha hbase hfew hline hs (by rfl)
theorem pm_extend {i : Nat} (hv : PE X (.Name x npos) (tVar i)) (ha : AM X c W [e] ms) (hbase : attributeBase (.Name x npos) "extend" X.env (eval (.Name x npos) X.env) = eval (.Name x npos) X.env := by rfl)
    (hfew : ((backTo cpos (starEach [e] X.env)).all (fun x => !x.1) && (backToKw cpos (keywordEach [] X.env)).all (fun x => x.1.isSome) && decide (([e] : List Expr).length + ([] : List Keyword).length + (if ([] : List Keyword).isEmpty then 0 else 1) < 30)) = true := by rfl)
    (hline : (apos.endLine == cpos.line) = true := by rfl) (hs : starEach [e] X.env = (false, eval e X.env) :: starEach [] X.env := by rfl) :
    PM X c W (.Call (.Attribute (.Name x npos) "extend" apos) [e] [] cpos) (mMut i ms extendG) := pm_mut PySem.F.slot_list_extend PySem.F.type_list_extend mt_extend rule_extend hv ha hbase hfew hline hs (by rfl)
theorem pm_popAt {i : Nat} (hv : PE X (.Name x npos) (tVar i)) (ha : AM X c W [e] ms) (hbase : attributeBase (.Name x npos) "pop" X.env (eval (.Name x npos) X.env) = eval (.Name x npos) X.env := by rfl)
    (hfew : ((backTo cpos (starEach [e] X.env)).all (fun x => !x.1) && (backToKw cpos (keywordEach [] X.env)).all (fun x => x.1.isSome) && decide (([e] : List Expr).length + ([] : List Keyword).length + (if ([] : List Keyword).isEmpty then 0 else 1) < 30)) = true := by rfl)
    (hline : (apos.endLine == cpos.line) = true := by rfl) (hs : starEach [e] X.env = (false, eval e X.env) :: starEach [] X.env := by rfl) :
    PM X c W (.Call (.Attribute (.Name x npos) "pop" apos) [e] [] cpos) (mMut i ms popAtG) := pm_mut PySem.F.slot_list_pop PySem.F.type_list_pop mt_popAt rule_popAt hv ha hbase hfew hline hs (by rfl)
theorem pm_pop {i : Nat} (hv : PE X (.Name x npos) (tVar i)) (hbase : attributeBase (.Name x npos) "pop" X.env (eval (.Name x npos) X.env) = eval (.Name x npos) X.env := by rfl) (hline : (apos.endLine == cpos.line) = true := by rfl) :
    PM X c W (.Call (.Attribute (.Name x npos) "pop" apos) [] [] cpos) (mMut i mNil popG) := pm_mut0 PySem.F.slot_list_pop PySem.F.type_list_pop mt_pop rule_pop hv hbase hline
end

/-! ### x[i] = e -/
def setO : O → D → D → Option O
  | .lst xs, .int k, d => (ixN xs.length k).map fun j => .lst (xs.set j d)
  | .dic kvs, i, d => (keyD i).bind fun k => if kvs.length < sizeLine then some (.dic (putD kvs k d)) else none
  | _, _, _ => none
def rSetM : TSet := fun o i v H Q => rSetL o i v H Q ∨ rSetD o i v H Q
theorem set_both {X : Cx} (hu : X.A.units + 1 < cLine) : PSet X rSetM := by
  intro pins s σ H o i v ov iv u Q I ro ri rv h
  rcases h with h | h
  · exact set_list pins s σ H o i v ov iv u Q I ro ri rv h
  · exact set_dict hu pins s σ H o i v ov iv u Q I ro ri rv h
theorem rule_set {Γ : Gm} {F H : Hp} {v : V} {o o' : O} {A : List Addr} {i d : D} {iv dv : V} {Q : Hp → Prop} (s : Same F H) (ro : RepO Γ F H v o A) (ri : RepP Γ F H iv i) (rd : Rep Γ F dv d) (e : setO o i d = some o')
    (k : ∀ H', (∀ b, b ∉ A → H' b = H b) → RepO Γ F H' v o' A → Q H') : rSetM v iv dv H Q := by
  cases o with
  | lst xs =>
    cases i <;> simp only [setO] at e <;> try (cases e; done)
    rw [Option.map_eq_some_iff] at e
    obtain ⟨j, ej, rfl⟩ := e
    cases ro with
    | lst n h1 r1 => exact .inl ⟨_, _, _, j, rfl, ri.vInt, h1, by rw [r1.length]; exact ej, k _ (fun b hb => upd_keep hb) (.lst n upd_same (r1.set rd j))⟩
  | dic kvs =>
    simp only [setO, Option.bind_eq_some_iff] at e
    obtain ⟨kk, ek, e⟩ := e
    split at e
    · rename_i hz
      cases e
      cases ro with
      | dic n h1 r1 =>
        refine .inr ⟨_, _, rfl, .inl ⟨_, kk, h1, keyD_rep ri ek, by rw [repK_length r1]; exact hz, rfl⟩, k _ (fun b hb => upd_keep hb) (.dic n upd_same (repK_put rd r1))⟩
    · cases e
  | val => cases e
  | ins => cases e
  | exc => cases e
def gSubM (i : Nat) (m : M RV) : RV → M Unit := fun r => M.bind (toD r) fun d ρ => match ρ[i]? with
  | some (some _) => M.bind m (fun ri => M.bind (peek ri) fun ix ρ1 => match ρ1[i]? with
    | some (some o) => match setO o ix d with
      | some o' => .ok () (ρ1.set i (some o'))
      | none => .stuck
    | _ => .stuck) ρ
  | _ => .stuck
section
variable {X : Cx} {c : Addr} {io : Bool} {W : WX} {e : Expr} {m : M RV} {x : Str} {pos npos : Pos}
theorem gm_sub {i : Nat} {k : Nat} (hr : Room k X.A) (hv : PE X (.Name x npos) (tVar i)) (hi : PM X c WF e m)
    (ha : ∀ v, assign (.Subscript (.Name x npos) e pos) X.env v = (do
      let ov ← holding [v] (eval (.Name x npos) X.env)
      let iv ← holding [v, ov] (eval e X.env)
      standAt pos
      holding [v, ov, iv] (setItem ov iv v)
      release [v, ov, iv] []) := by intro _; rfl) : GM X c io [] (.Subscript (.Name x npos) e pos) (gSubM i m) :=
  PG.imp (pg_sub hv hi (set_both (by have := hr.un; omega)) ha) fun v σ H Q ⟨F, ρ, As, r, B, S, R, w⟩ => by
    obtain ⟨d, ρ1, F1, As1, rd, S1, T1, w1⟩ := toD_ok S Tr.addB Fr.addB R w
    split at w1
    · rename_i o0 e0
      obtain ⟨vo, qo, ro⟩ := S1.reps i _ e0
      refine ⟨vo, qo, F1, ρ1, As1, S1, wpR_mono (wpR_bind w1) (fun ri ρ2 w2 F2 H2 vi As2 B2 S2 T2 f2 R2 => ?_) fun x ρ2 q => q.elim⟩
      obtain ⟨ix, pix, w3⟩ := peek_ok S2 R2 w2
      split at w3
      · rename_i o e2
        split at w3
        · rename_i o' es
          obtain ⟨v', q', ro'⟩ := S2.reps i _ e2
          rw [qo] at q'; cases q'
          exact rule_set S2.sub ro' pix (rd.mono T2.ext) es fun H' keep r' => w3 F2 H' σ As2 (S2.mut e2 qo keep r') (T1.trans (T2.trans (Tr.mut keep))) (fun _ => rfl) Only.refl
        · exact w3.elim
      · exact w3.elim
    · exact w1.elim
end

/-! ### reading methods of lists -/
def mMeth (m : M RV) (ms : M (List D)) (g : D → List D → Option D) : M RV := M.bind m fun r => fun ρ => match (peek r) ρ with
  | .ok d0 _ => match d0 with
    | .lst _ => M.bind ms (fun ds => M.bind (peek r) fun d => M.bind (M.of (g d ds)) fun x => mC x) ρ
    | _ => .stuck
  | _ => .stuck
def RuleN (X : Cx) (c : Addr) (r : V → List V → Hp → VK → Prop) (g : D → List D → Option D) : Prop :=
  ∀ (F H : Hp) (v : V) (d0 : D) (vs : List V) (ds : List D) (d : D) (Q : VK), Same F H → RepP (gm X c) F H v d0 → RepL (gm X c) F vs ds → g d0 ds = some d → (∀ u, Rep (gm X c) F u d → Q u H) → r v vs H Q
section
variable {X : Cx} {c : Addr} {W : WX} {es : List Expr} {o e : Expr} {m : M RV} {ms : M (List D)} {pos apos cpos npos : Pos} {name : Str} {id : String} {r : V → List V → Hp → VK → Prop} {g : D → List D → Option D}
theorem pm_meth (slot : Slot "list" name id) (hty : typeOf (.builtin id) = pure (.type "method_descriptor")) (hm : MtR X id r) (R : RuleN X c r g) (ho : PM X c W o m) (ha : AM X c W (e :: es) ms)
    (hbase : attributeBase o name X.env (eval o X.env) = eval o X.env := by rfl)
    (hfew : ((backTo cpos (starEach (e :: es) X.env)).all (fun x => !x.1) && (backToKw cpos (keywordEach [] X.env)).all (fun x => x.1.isSome)
      && decide ((e :: es).length + ([] : List Keyword).length + (if ([] : List Keyword).isEmpty then 0 else 1) < 30)) = true := by rfl)
    (hline : (apos.endLine == cpos.line) = true := by rfl) (hs : starEach (e :: es) X.env = (false, eval e X.env) :: starEach es X.env := by rfl) (hplain : (backTo cpos (starEach es X.env)).any (·.1) = false := by rfl) :
    PM X c W (.Call (.Attribute o name apos) (e :: es) [] cpos) (mMeth m ms g) :=
  PE.imp (pe_bm PySem.F.plainAttrs_list slot hty hm ho ha hbase hfew hline hs hplain) fun σ H Q ⟨F, ρ, As, S, w⟩ => by
    refine tM_seq S w (fun _ _ q => q) fun r' ρ1 F1 H1 v1 As1 B1 w1 S1 T1 f1 R1 => ?_
    cases ep : peek r' ρ1 with
    | ex => rw [ep] at w1; exact w1.elim
    | stuck => rw [ep] at w1; exact w1.elim
    | ok d0 ρ1' =>
      rw [ep] at w1
      have w0 : wpR (M.bind (peek r') (fun d => M.pure d) ρ1) (fun d _ => d = d0) (fun _ _ => False) := by
        unfold M.bind; rw [ep]; rfl
      obtain ⟨dd, pd, w0⟩ := peek_ok S1 R1 w0
      obtain rfl : dd = d0 := w0
      cases dd with
      | lst xs =>
        obtain ⟨a, ys, rfl, h1, r1⟩ := pd.vSeq S1.sub
        refine ⟨.inl ⟨rfl, _, SqL.of h1⟩, F1, ρ1, As1, S1, wpR_mono (wpR_bind w1) (fun ds ρ2 w2 F2 H2 vs As2 S2 T2 rs => ?_) fun x ρ2 q => q.tr T1⟩
        obtain ⟨d, p, w3⟩ := peek_ok S2 (R1.tr T2) w2
        obtain ⟨x, ex, w4⟩ := wpR_of (wpR_bind w3)
        exact R F2 H2 _ d vs ds x Q S2.sub p rs ex fun u ru => w4 F2 H2 u As2 [] S2 (T1.trans T2) Fr.nil (.o (.val ru) fun _ h => nomatch h)
      | _ => exact w1.elim
def indexG : D → List D → Option D
  | .lst xs, [y] => if flatD y && xs.all flatD then (xs.findIdx? fun z => eqv z y).map fun j => .int (j : Nat) else none
  | _, _ => none
theorem rule_index : RuleN X c (rIndex X.K) indexG := fun F H v d0 vs ds d Q s p rs e k => by
  cases d0 <;> try (cases e; done)
  cases rs with
  | nil => cases e
  | cons r1 r2 =>
    rename_i y _
    cases r2 with
    | cons => cases e
    | nil =>
      simp only [indexG] at e
      split at e
      · rename_i hc
        rw [Bool.and_eq_true] at hc
        rw [Option.map_eq_some_iff] at e
        obtain ⟨j, ej, rfl⟩ := e
        obtain ⟨a, ys, rfl, h1, rl⟩ := p.vSeq s
        obtain ⟨hjl, hj, hb⟩ := List.findIdx?_eq_some_iff_getElem.mp ej
        have fy := hc.1
        have fl := List.all_eq_true.mp hc.2
        obtain ⟨z, hz, rz⟩ := rl.get (List.getElem?_eq_getElem hjl)
        have key : ∀ (m : Nat) (z' : V), ys[m]? = some z' → ∀ hm : m < _, eqV z' _ = eqv _ y := fun m z' hz' hm => by
          obtain ⟨z2, hz2, rz2⟩ := rl.get (List.getElem?_eq_getElem hm)
          rw [hz'] at hz2; cases hz2
          exact eqV_rep rz2 r1 (fl _ (List.getElem_mem hm)) fy
        refine ⟨a, ys, _, j, z, rfl, rfl, SqL.of h1, flat_rep r1 fy, flat_all rl hc.2, hz, ?_, fun m z' hm hz' => ?_, k _ (.int _)⟩
        · rw [key j z hz hjl]; exact hj
        · have hml := Nat.lt_trans hm hjl
          rw [key m z' hz' hml]
          have := hb m hm
          simpa using this
      · cases e
theorem pm_index (ho : PM X c W o m) (ha : AM X c W [e] ms) (hbase : attributeBase o "index" X.env (eval o X.env) = eval o X.env := by rfl)
    (hfew : ((backTo cpos (starEach [e] X.env)).all (fun x => !x.1) && (backToKw cpos (keywordEach [] X.env)).all (fun x => x.1.isSome) && decide (([e] : List Expr).length + ([] : List Keyword).length + (if ([] : List Keyword).isEmpty then 0 else 1) < 30)) = true := by rfl)
    (hline : (apos.endLine == cpos.line) = true := by rfl) (hs : starEach [e] X.env = (false, eval e X.env) :: starEach [] X.env := by rfl) :
    PM X c W (.Call (.Attribute o "index" apos) [e] [] cpos) (mMeth m ms indexG) := pm_meth PySem.F.slot_list_index PySem.F.type_list_index mt_index rule_index ho ha hbase hfew hline hs (by rfl)
def countG : D → List D → Option D
  | .lst xs, [.int k] => (intsD xs).map fun ns => .int (ns.count k : Nat)
  | _, _ => none
theorem rule_count : RuleN X c (rCntI X.K) countG := fun F H v d0 vs ds d Q s p rs e k => by
  cases d0 <;> try (cases e; done)
  cases rs with
  | nil => cases e
  | cons r1 r2 =>
    rename_i y _
    cases r2 with
    | cons => cases y <;> cases e
    | nil =>
      cases y <;> simp only [countG] at e <;> try (cases e; done)
      rw [Option.map_eq_some_iff] at e
      obtain ⟨ns, en, rfl⟩ := e
      obtain ⟨a, ys, rfl, h1, rl⟩ := p.vSeq s
      rw [intsD_rep rl en] at h1
      cases r1
      exact ⟨a, ns, _, rfl, rfl, SqL.of h1, k _ (.int _)⟩
theorem pm_count (ho : PM X c W o m) (ha : AM X c W [e] ms) (hbase : attributeBase o "count" X.env (eval o X.env) = eval o X.env := by rfl)
    (hfew : ((backTo cpos (starEach [e] X.env)).all (fun x => !x.1) && (backToKw cpos (keywordEach [] X.env)).all (fun x => x.1.isSome) && decide (([e] : List Expr).length + ([] : List Keyword).length + (if ([] : List Keyword).isEmpty then 0 else 1) < 30)) = true := by rfl)
    (hline : (apos.endLine == cpos.line) = true := by rfl) (hs : starEach [e] X.env = (false, eval e X.env) :: starEach [] X.env := by rfl) :
    PM X c W (.Call (.Attribute o "count" apos) [e] [] cpos) (mMeth m ms countG) := pm_meth PySem.F.slot_list_count PySem.F.type_list_count mt_lcount rule_count ho ha hbase hfew hline hs (by rfl)
end
end Mi

set_option Elab.async false
set_option linter.all false
set_option autoImplicit false
set_option maxRecDepth 100000
set_option maxHeartbeats 4000000
namespace Mi
open PySem PySem.Spec PyProof.Rows L2

/-! ### min, max of a row of data -/
theorem pyL_eq : ∀ ds : List D, pyL ds = ds.map py
  | [] => rfl
  | d :: ds => by simp [pyL, pyL_eq ds]
mutual
theorem py_inj : ∀ {a b : D}, (py a).canLay0 = true → py a = py b → a = b
  | .non, b, _, e => by cases b <;> simp [py] at e <;> rfl
  | .bl _, b, _, e => by cases b <;> simp [py] at e; rw [e]
  | .int _, b, _, e => by cases b <;> simp [py] at e; rw [e]
  | .str _, b, _, e => by cases b <;> simp [py] at e; rw [e]
  | .tup xs, b, h, e => by
    cases b <;> simp [py] at e
    rw [pyL_inj (by simpa [py, PyData.canLay0] using h) e]
  | .lst xs, b, h, e => by
    cases b <;> simp [py] at e
    rw [pyL_inj (by simpa [py, PyData.canLay0] using h) e]
  | .dic _, _, h, _ => by simp [py, PyData.canLay0] at h
  | .set _, _, h, _ => by simp [py, PyData.canLay0] at h
  | .scr _, _, h, _ => by simp [py, PyData.canLay0] at h
theorem pyL_inj : ∀ {xs ys : List D}, PyData.canLayAll0 (pyL xs) = true → pyL xs = pyL ys → xs = ys
  | [], ys, _, e => by cases ys <;> simp [pyL] at e; rfl
  | x :: xs, ys, h, e => by
    cases ys with
    | nil => simp [pyL] at e
    | cons y ys =>
      simp only [pyL, List.cons.injEq] at e
      simp only [pyL, PyData.canLayAll0, Bool.and_eq_true] at h
      rw [py_inj h.1 e.1, pyL_inj h.2 e.2]
end
def lesD (mx : Bool) (a y : D) : Bool := if mx then PySem.W.dataLt (py a) (py y) else PySem.W.dataLt (py y) (py a)
def bestD (mx : Bool) (x : D) (xs : List D) : D := xs.foldl (fun a y => if lesD mx a y then y else a) x
def bestP (mx : Bool) (x : PyData) (xs : List PyData) : PyData := if mx then PySem.W.maxD x xs else PySem.W.minD x xs
theorem best_py {mx : Bool} : ∀ (xs : List D) (x : D), py (bestD mx x xs) = bestP mx (py x) (pyL xs)
  | [], x => by cases mx <;> rfl
  | y :: ys, x => by
    have ih := best_py (mx := mx) ys (if lesD mx x y then y else x)
    show py (bestD mx (if lesD mx x y then y else x) ys) = _
    rw [ih]
    cases mx
    · show PySem.W.minD (py _) _ = PySem.W.minD (py x) (py y :: pyL ys)
      unfold PySem.W.minD
      rw [List.foldl_cons]
      have e : lesD false x y = PySem.W.dataLt (py y) (py x) := rfl
      rw [e]
      cases PySem.W.dataLt (py y) (py x) <;> rfl
    · show PySem.W.maxD (py _) _ = PySem.W.maxD (py x) (py y :: pyL ys)
      unfold PySem.W.maxD
      rw [List.foldl_cons]
      have e : lesD true x y = PySem.W.dataLt (py x) (py y) := rfl
      rw [e]
      cases PySem.W.dataLt (py x) (py y) <;> rfl
def bestOk (xs : List D) : Bool := xs.all okD && (xs.all fun x => xs.all fun y => PySem.W.alike (py x) (py y)) && (xs.all fun x => !isNonD x) && decide (PyData.depthAll (pyL xs) ≤ 60)
def bestO (mx : Bool) : D → Option O
  | .lst (x :: xs) => if bestOk (x :: xs) then some (.val (bestD mx x xs)) else none
  | .tup (x :: xs) => if bestOk (x :: xs) then some (.val (bestD mx x xs)) else none
  | _ => none
def rBest (X : Cx) (mx : Bool) : List V → Hp → VK → Prop := fun vs H Q => ∃ (a : Addr) (ys : List V) (x : D) (xs : List D), vs = [.ref a] ∧ (SqL X.K H a ys ∨ SqT X.K H a ys) ∧ DpAll X.K H ys (pyL (x :: xs)) ∧ bestOk (x :: xs) = true ∧
  ∀ (i : Nat) (v : V) (d : D), ys[i]? = some v → (x :: xs)[i]? = some d → py d = bestP mx (py x) (pyL xs) → Q v H
theorem dpAll_at {K : PySem.W.Frag} {H : Hp} : ∀ {vs : List V} {ds : List D} {i : Nat} {v : V}, DpAll K H vs (pyL ds) → vs[i]? = some v → ∃ d, ds[i]? = some d ∧ Dp K H v (py d)
  | _, [], i, _, h, e => by cases h; simp at e
  | _, d :: ds, 0, _, h, e => by
    cases h with
    | cons a b => simp at e; subst e; exact ⟨d, rfl, a⟩
  | _, d :: ds, i + 1, v, h, e => by
    cases h with
    | cons a b =>
      obtain ⟨d', h1, h2⟩ := dpAll_at (i := i) (v := v) b (by simpa using e)
      exact ⟨d', by simpa using h1, h2⟩
theorem bestOk_of {xs : List D} (h : bestOk xs = true) : (∀ x ∈ xs, okD x = true) ∧ PySem.W.AlikeAll (pyL xs) ∧ PyData.depthAll (pyL xs) ≤ 60 := by
  unfold bestOk at h
  simp only [Bool.and_eq_true, List.all_eq_true, decide_eq_true_eq] at h
  obtain ⟨⟨⟨h1, h2⟩, h3⟩, h4⟩ := h
  refine ⟨h1, ⟨?_, ?_⟩, h4⟩
  · rw [pyL_eq]
    intro a ha b hb
    obtain ⟨x, hx, rfl⟩ := List.mem_map.mp ha
    obtain ⟨y, hy, rfl⟩ := List.mem_map.mp hb
    exact h2 x hx y hy
  · rw [pyL_eq]
    intro a ha
    obtain ⟨x, hx, rfl⟩ := List.mem_map.mp ha
    have := h3 x hx
    cases x <;> simp [isNonD, py] at this ⊢
theorem cr_best {X : Cx} {k : Nat} (hr : Room k X.A) (hc : X.calm = true) (mx : Bool) : CallR X (.builtin (if mx then "max" else "min")) (rBest X mx) := by
  intro pins s σ H vs us Q I r h
  obtain ⟨a, ys, x, xs, rfl, hs, hd, ok, q⟩ := h
  rw [Vals.ref1 r]
  obtain ⟨h1, h2, h3⟩ := bestOk_of ok
  have hu := units65 hr
  have fin : ∀ (its : List Value), Vals ys its → ∀ (i : Nat) v h' tk bs, its.toArray[i]? = some v → Reads h' v (bestP mx (py x) (pyL xs)) bs → (∀ b o, s.heap.get? b = some o → h'.get? b = some o) → EP X pins σ Q v { s with heap := h', toks := tk } := fun its rv i v h' tk bs hv rd k => by
    have I' : Inv X pins σ H { s with heap := h', toks := tk } := I.kept (t' := tk) k
    have hv' : its[i]? = some v := by simpa using hv
    obtain ⟨yv, hy, ry⟩ : ∃ yv, ys[i]? = some yv ∧ RelV yv v := by
      have hl := rv.length
      have : i < ys.length := by rw [hl]; exact (List.getElem?_eq_some_iff.mp hv').1
      obtain ⟨u, hu, ru⟩ := rv.get (List.getElem?_eq_getElem this)
      rw [hv'] at hu; cases hu
      exact ⟨_, List.getElem?_eq_getElem this, ru⟩
    obtain ⟨d, ed, dp⟩ := dpAll_at hd hy
    obtain ⟨as, rr⟩ := Dp.reads I' _ _ _ dp ry
    have hmem : d ∈ x :: xs := List.mem_of_getElem? ed
    exact ⟨yv, H, I', ry, q i yv d hy ed (PySem.Reads.unique rr _ _ rd).1⟩
  have hh := I.ok.hd hc
  have hlay : PyData.depthAll (py x :: pyL xs) ≤ 60 := h3
  have hle : X.A.units + 1 + PyData.depthAll (py x :: pyL xs) < cLine := by omega
  rcases hs with hs | hs
  · obtain ⟨its, rv, hl, _⟩ := I.list hs
    obtain ⟨as, ra⟩ := Dp.readsAll I _ _ _ hd rv
    cases mx
    · exact PySem.W.min_list_data hh hl.isList ra h2 hle (fin its rv)
    · exact PySem.W.max_list_data hh hl.isList ra h2 hle (fin its rv)
  · obtain ⟨its, rv, hl, _⟩ := I.tuple hs
    obtain ⟨as, ra⟩ := Dp.readsAll I _ _ _ hd rv
    cases mx
    · exact PySem.W.min_tuple_data hh hl ra h2 hle (fin its rv)
    · exact PySem.W.max_tuple_data hh hl ra h2 hle (fin its rv)
theorem repL_dp' {Γ : Gm} {F H : Hp} (s : Same F H) : ∀ {ds : List D} {vs : List V}, RepL Γ F vs ds → (∀ d ∈ ds, okD d = true) → DpAll Γ.K H vs (pyL ds)
  | [], _, h, _ => by cases h; simp only [pyL]; exact .nil
  | d :: ds, _, h, k => by
    cases h with
    | cons a b =>
      simp only [pyL]
      exact .cons (rep_dp s a (SeqAt.canLay_of_shaped (k d (by simp)))) (repL_dp' s b fun d hd => k d (by simp [hd]))
section
variable {X : Cx} {c : Addr} {W : WX} {e : Expr} {m : M RV} {p pos : Pos}
theorem rule_best {mx : Bool} : RuleC X c (rBest X mx) (bestO mx) := fun F H v dx o Q s px e k => by
  have key : ∀ (a : Addr) (ys : List V) (x : D) (xs : List D), v = .ref a → (SqL X.K H a ys ∨ SqT X.K H a ys) → RepL (gm X c) F ys (x :: xs) → bestOk (x :: xs) = true → o = .val (bestD mx x xs) → rBest X mx [v] H Q := fun a ys x xs hv hs r ok ho => by
    subst hv ho
    have h1 := (bestOk_of ok).1
    refine ⟨a, ys, x, xs, rfl, hs, repL_dp' s r h1, ok, fun i u d hu hd hp => ?_⟩
    obtain ⟨u', hu', ru⟩ := r.get hd
    rw [hu] at hu'; cases hu'
    rw [← best_py] at hp
    have : d = bestD mx x xs := py_inj (SeqAt.canLay_of_shaped (h1 d (List.mem_of_getElem? hd))) hp
    subst this
    exact k _ F H [] (Grow.refl s) no_own (.val ru)
  cases dx <;> simp only [bestO] at e <;> try (cases e; done)
  · rename_i xs
    cases xs with
    | nil => cases e
    | cons x xs =>
      simp only [bestO] at e
      split at e
      · rename_i ok
        cases e
        obtain ⟨a, ys, rfl, h1, r1⟩ := px.vTup s
        exact key a ys x xs rfl (.inr h1) r1 ok rfl
      · cases e
  · rename_i xs
    cases xs with
    | nil => cases e
    | cons x xs =>
      simp only [bestO] at e
      split at e
      · rename_i ok
        cases e
        obtain ⟨a, ys, rfl, h1, r1⟩ := px.vSeq s
        exact key a ys x xs rfl (.inl (SqL.of h1)) r1 ok rfl
      · cases e
theorem pm_min {k : Nat} (hr : Room k X.A) (hc : X.calm = true) (hm : X.mg "min" = none) (h : PM X c W e m) (hg : Gl X "min" := by rfl) (he : starEach [e] X.env = (false, eval e X.env) :: starEach [] X.env := by rfl) : PM X c W (.Call (.Name "min" p) [e] [] pos) (mFn1 (bestO false) m) :=
  pm_fnB (id := "min") (cr_best hr hc false) rule_best hg hm (by decide +kernel) h (by decide) (by decide) he
theorem pm_max {k : Nat} (hr : Room k X.A) (hc : X.calm = true) (hm : X.mg "max" = none) (h : PM X c W e m) (hg : Gl X "max" := by rfl) (he : starEach [e] X.env = (false, eval e X.env) :: starEach [] X.env := by rfl) : PM X c W (.Call (.Name "max" p) [e] [] pos) (mFn1 (bestO true) m) :=
  pm_fnB (id := "max") (cr_best hr hc true) rule_best hg hm (by decide +kernel) h (by decide) (by decide) he
end
/-! ### list(range(..)), tuple(range(..)) -/
def rgOk (a b : Int) : Bool := decide (-(2 ^ 62) ≤ a ∧ a < 2 ^ 62 ∧ -(2 ^ 62) ≤ b ∧ b < 2 ^ 62 ∧ (b - a).toNat ≤ 2 ^ 24)
def rgD (a b : Int) : List D := (List.range (b - a).toNat).map fun (k : Nat) => .int (a + k)
theorem rg_rep {Γ : Gm} {F : Hp} {a b : Int} : RepL Γ F (rgV a b) (rgD a b) := by
  have : ∀ l : List Nat, RepL Γ F (l.map fun (k : Nat) => V.int (a + k)) (l.map fun (k : Nat) => D.int (a + k)) := fun l => by
    induction l with
    | nil => exact .nil
    | cons n l ih => exact .cons (.int _) ih
  exact this _
def mRg (ma mb : M RV) (f : List D → O) : M RV := M.bind ma fun ra => M.bind mb fun rb => M.bind (peek ra) fun x => M.bind (peek rb) fun y => M.bind (M.of (intD x)) fun i => M.bind (M.of (intD y)) fun j => if rgOk i j = true then M.pure (.o (f (rgD i j))) else M.stuck
section
variable {X : Cx} {c : Addr} {W : WX} {a b : Expr} {ma mb : M RV} {p p1 pos pos1 : Pos}
def tRgM (X : Cx) (c : Addr) (W : WX) (ma mb : M RV) (f : List D → O) (g : List V → HO) : TE := fun σ H Q => tRg2 (tM (gm X c) W ma) (tM (gm X c) W mb) σ H fun i j H1 => RgOk i j ∧ ∀ q, H1 q = none → Q (.ref q) (upd H1 q (g (rgV i j)))
theorem rg_ok {f : List D → O} {g : List V → HO} (fin : ∀ (F H : Hp) (xs : List V) (ds : List D) (q : Addr), Same F H → H q = none → RepL (gm X c) F xs ds → ∃ F' B, Grow F H F' (upd H q (g xs)) ∧ (∀ b ∈ B, H b = none) ∧ RepO (gm X c) F' (upd H q (g xs)) (.ref q) (f ds) B)
    {σ : Sl} {H : Hp} {Q : VK} (h : tM (gm X c) W (mRg ma mb f) σ H Q) : tRgM X c W ma mb f g σ H Q := by
  obtain ⟨F, ρ, As, S, w⟩ := h
  refine tM_seq S w (fun _ _ q => q) fun ra ρ1 F1 H1 v1 As1 B1 w1 S1 T1 f1 R1 => ?_
  refine tM_seq S1 w1 (fun _ _ q => q.tr T1) fun rb ρ2 F2 H2 v2 As2 B2 w2 S2 T2 f2 R2 => ?_
  obtain ⟨dx, px, w3⟩ := peek_ok S2 (R1.tr T2) w2
  obtain ⟨dy, py, w4⟩ := peek_ok S2 R2 w3
  obtain ⟨i, ei, w5⟩ := wpR_of (wpR_bind w4)
  obtain ⟨j, ej, w6⟩ := wpR_of (wpR_bind w5)
  obtain ⟨ok, w7⟩ := wpR_ite w6
  refine ⟨i, j, intD_rep px ei, intD_rep py ej, ?_, fun q nq => ?_⟩
  · simpa [rgOk, RgOk] using ok
  · obtain ⟨F', B, gr, nb, ro⟩ := fin F2 H2 _ _ q S2.sub nq (rg_rep (a := i) (b := j))
    exact pE_new S2 (T1.trans T2) w7 gr nb ro
theorem wpR_ok {α : Type} {a : α} {ρ : Env} {post : α → Env → Prop} {xp : Ex → Env → Prop} (h : wpR (M.pure a ρ) post xp) : post a ρ := h
def mRg1 (m : M RV) (f : List D → O) : M RV := M.bind m fun ra => M.bind (peek ra) fun x => M.bind (M.of (intD x)) fun j => if rgOk 0 j = true then M.pure (.o (f (rgD 0 j))) else M.stuck
theorem rg_ok1 {f : List D → O} {g : List V → HO} (fin : ∀ (F H : Hp) (xs : List V) (ds : List D) (q : Addr), Same F H → H q = none → RepL (gm X c) F xs ds → ∃ F' B, Grow F H F' (upd H q (g xs)) ∧ (∀ b ∈ B, H b = none) ∧ RepO (gm X c) F' (upd H q (g xs)) (.ref q) (f ds) B)
    {σ : Sl} {H : Hp} {Q : VK} (h : tM (gm X c) W (mRg1 ma f) σ H Q) : tRg1 (tM (gm X c) W ma) σ H fun i j H1 => RgOk i j ∧ ∀ q, H1 q = none → Q (.ref q) (upd H1 q (g (rgV i j))) := by
  obtain ⟨F, ρ, As, S, w⟩ := h
  refine tM_seq S w (fun _ _ q => q) fun ra ρ1 F1 H1 v1 As1 B1 w1 S1 T1 f1 R1 => ?_
  obtain ⟨dx, px, w3⟩ := peek_ok S1 R1 w1
  obtain ⟨j, ej, w6⟩ := wpR_of (wpR_bind w3)
  obtain ⟨ok, w7⟩ := wpR_ite w6
  refine ⟨j, intD_rep px ej, ?_, fun q nq => ?_⟩
  · simpa [rgOk, RgOk] using ok
  · obtain ⟨F', B, gr, nb, ro⟩ := fin F1 H1 _ _ q S1.sub nq (rg_rep (a := 0) (b := j))
    exact pE_new S1 T1 w7 gr nb ro
theorem fin_lst (F H : Hp) (xs : List V) (ds : List D) (q : Addr) (s : Same F H) (n : H q = none) (r : RepL (gm X c) F xs ds) : ∃ F' B, Grow F H F' (upd H q (.lst xs)) ∧ (∀ b ∈ B, H b = none) ∧ RepO (gm X c) F' (upd H q (.lst xs)) (.ref q) (.lst ds) B := ⟨F, [q], Grow.new1 s n, only_new n, new_lst s n r⟩
theorem fin_tup (F H : Hp) (xs : List V) (ds : List D) (q : Addr) (s : Same F H) (n : H q = none) (r : RepL (gm X c) F xs ds) : ∃ F' B, Grow F H F' (upd H q (.tup xs)) ∧ (∀ b ∈ B, H b = none) ∧ RepO (gm X c) F' (upd H q (.tup xs)) (.ref q) (.val (.tup ds)) B := ⟨_, [], Grow.frz1 s n, no_own, new_tup s n r⟩
theorem pm_listRg1 (hc : X.calm = true) (hm : X.mg "list" = none) (hm2 : X.mg "range" = none) (ha : PM X c W a ma) (hg : Gl X "list" := by rfl) (hg2 : Gl X "range" := by rfl) (na : starEach [a] X.env = (false, eval a X.env) :: starEach [] X.env := by rfl)
    (na2 : starEach [.Call (.Name "range" p1) [a] [] pos1] X.env = (false, eval (.Call (.Name "range" p1) [a] [] pos1) X.env) :: starEach [] X.env := by rfl) : PM X c W (.Call (.Name "list" p) [.Call (.Name "range" p1) [a] [] pos1] [] pos) (mRg1 ma .lst) :=
  PE.imp (pe_listRg hc hg hm (prg_1 hg2 hm2 ha na) na2) fun _ _ _ h => rg_ok1 (g := .lst) fin_lst h
theorem pm_tupRg1 (hc : X.calm = true) (hm : X.mg "tuple" = none) (hm2 : X.mg "range" = none) (ha : PM X c W a ma) (hg : Gl X "tuple" := by rfl) (hg2 : Gl X "range" := by rfl) (na : starEach [a] X.env = (false, eval a X.env) :: starEach [] X.env := by rfl)
    (na2 : starEach [.Call (.Name "range" p1) [a] [] pos1] X.env = (false, eval (.Call (.Name "range" p1) [a] [] pos1) X.env) :: starEach [] X.env := by rfl) : PM X c W (.Call (.Name "tuple" p) [.Call (.Name "range" p1) [a] [] pos1] [] pos) (mRg1 ma fun ds => .val (.tup ds)) :=
  PE.imp (pe_tupRg hc hg hm (prg_1 hg2 hm2 ha na) na2) fun _ _ _ h => rg_ok1 (g := .tup) fin_tup h
theorem pm_listRg2 (hc : X.calm = true) (hm : X.mg "list" = none) (hm2 : X.mg "range" = none) (ha : PM X c W a ma) (hb : PM X c W b mb) (hg : Gl X "list" := by rfl) (hg2 : Gl X "range" := by rfl) (na : starEach [a, b] X.env = (false, eval a X.env) :: starEach [b] X.env := by rfl) (nb : starEach [b] X.env = (false, eval b X.env) :: starEach [] X.env := by rfl)
    (npl : (backTo pos1 (starEach [b] X.env)).any (·.1) = false := by rfl)
    (na2 : starEach [.Call (.Name "range" p1) [a, b] [] pos1] X.env = (false, eval (.Call (.Name "range" p1) [a, b] [] pos1) X.env) :: starEach [] X.env := by rfl) : PM X c W (.Call (.Name "list" p) [.Call (.Name "range" p1) [a, b] [] pos1] [] pos) (mRg ma mb .lst) :=
  PE.imp (pe_listRg hc hg hm (prg_2 hg2 hm2 ha hb na nb npl) na2) fun _ _ _ h => rg_ok (g := .lst) fin_lst h
end
end Mi

set_option Elab.async false
set_option linter.all false
set_option autoImplicit false
set_option maxRecDepth 100000
set_option maxHeartbeats 4000000
namespace Mi
open PySem PySem.Spec PyProof.Rows L2

/-! ### functions -/
abbrev Fn := List O → Rs O
/-- what of the slots goes back to the caller: the first one's thing, where it is in and out -/
def ioE (io : Bool) (ρ : Env) : Env := if io = true then [ρ[0]?.join] else []
def mkFn (io : Bool) (n : Nat) (body : M Ctl) : Fn := fun args => match body (args.map some ++ List.replicate n none) with
  | .ok .nx ρ => .ok (.val .non) (ioE io ρ)
  | .ok (.rt (.o o)) ρ => .ok o (ioE io ρ)
  | .ok (.rt (.at i)) ρ => if io = true ∧ i = 0 then .stuck else match ρ[i]? with
    | some (some o) => .ok o (ioE io ρ)
    | _ => .stuck
  | .ex x ρ => .ex x (ioE io ρ)
  | _ => .stuck
def spM (Γ : Gm) (io : Bool) (n : Nat) (fn : Fn) : Sp := fun vs H Q E => ∃ F args As, Sta Γ F H (vs.map some) (args.map some) As ∧ vs.length = n ∧ args.length = n ∧
  wpR (fn args) (fun o ρ' => ∀ F' H' v As' B, Sta Γ F' H' (vs.map some) ρ' As' → Tr F H As F' H' As' → Fr H As B → RepO Γ F' H' v o B → (∀ b ∈ B, ∀ i, b ∉ As' i) → Q v H')
    (fun x ρ' => ∀ F' H' cls od As', Sta Γ F' H' (vs.map some) ρ' As' → Tr F H As F' H' As' → RepX Γ F' H' x cls od → E cls od H')
section
variable {Γ : Gm} {F H : Hp} {As : Own} {σ : Sl} {ρ : Env}
theorem Sta.io {io : Bool} {vs : List V} (S : Sta Γ F H σ ρ As) (h : io = true → σ[0]? = (vs.map some)[0]? ∧ vs ≠ []) : ∃ As', Sta Γ F H (vs.map some) (ioE io ρ) As' ∧ (∀ i b, b ∈ As' i → b ∈ As i ∧ i = 0 ∧ io = true) := by
  cases io with
  | false =>
    refine ⟨fun _ => [], ⟨S.sub, fun i o e => ?_, (fun _ _ _ h _ => nomatch h), Nat.zero_le _⟩, (fun _ _ h => nomatch h)⟩
    simp [ioE] at e
  | true =>
    obtain ⟨h0, h1⟩ := h rfl
    refine ⟨fun i => if i = 0 then As 0 else [], ⟨S.sub, fun i o e => ?_, fun i j a h1 h2 => ?_, ?_⟩, fun i b hb => ?_⟩
    · simp only [ioE, if_true] at e
      cases i with
      | succ i => simp at e
      | zero =>
        simp only [List.getElem?_cons_zero, Option.some.injEq] at e
        have e' : ρ[0]? = some (some o) := by
          cases q : ρ[0]? with
          | none => rw [q] at e; cases e
          | some z => rw [q] at e; cases z with
            | none => cases e
            | some z => cases e; rfl
        obtain ⟨v, q, r⟩ := S.reps 0 o e'
        exact ⟨v, by rw [← h0]; exact q, by simpa using r⟩
    · by_cases hi : i = 0
      · by_cases hj : j = 0
        · rw [hi, hj]
        · simp [hj] at h2
      · simp [hi] at h1
    · simp only [ioE, if_true, List.length_cons, List.length_nil]
      cases vs with
      | nil => exact absurd rfl h1
      | cons => simp
    · by_cases hi : i = 0
      · subst hi; exact ⟨by simpa using hb, rfl, rfl⟩
      · simp [hi] at hb
theorem Tr.less {F H F' H' : Hp} {As As' As'' : Own} (T : Tr F H As F' H' As') (h : ∀ i b, b ∈ As'' i → b ∈ As' i) : Tr F H As F' H' As'' := ⟨T.ext, T.keep, fun i b q => T.own i b (h i b q), T.frz⟩
end
section
variable {P : Program} {w : World} {K : PySem.W.Frag} {mg : Str → Option Value}
/-- a body that keeps to its mirror gives the contract -/
theorem fn_start {Γ : Gm} {io : Bool} {n k : Nat} {N : List Str} {m : M Ctl} {vs : List V} {H : Hp} {Q : VK} {E : XK} (hn : N.length = n + k) (hio : io = true → 0 < n) (h : spM Γ io n (mkFn io k m) vs H Q E) :
    tS Γ io (fun cls d _ H => E cls d H) m { nx := fun _ H' => Q .non H', rt := Q } (L2.start N vs) H := by
  obtain ⟨F, args, As, S, hv, ha, w⟩ := h
  have e0 : L2.start N vs = vs.map some ++ List.replicate k none := by
    unfold L2.start
    rw [hv, hn, Nat.add_sub_cancel_left]
  have S0 : Sta Γ F H (L2.start N vs) (args.map some ++ List.replicate k none) As := by
    rw [e0]
    refine ⟨S.sub, fun i o e => ?_, S.sep, by simp [hv, ha]⟩
    by_cases hi : i < args.length
    · rw [List.getElem?_append_left (by simpa using hi)] at e
      obtain ⟨v, q, r⟩ := S.reps i o e
      exact ⟨v, by rw [List.getElem?_append_left (by simp [hv, ← ha]; exact hi)]; exact q, r⟩
    · rw [List.getElem?_append_right (by simpa using hi)] at e
      rw [List.getElem?_replicate] at e
      split at e <;> cases e
  have h0 : ∀ {σ' : Sl}, (io = true → σ'[0]? = (L2.start N vs)[0]?) → io = true → σ'[0]? = (vs.map some)[0]? ∧ vs ≠ [] := fun j hi => by
    have hp := hio hi
    refine ⟨?_, by rintro rfl; simp at hv; omega⟩
    rw [j hi, e0, List.getElem?_append_left (by simp [hv]; exact hp)]
  refine ⟨F, _, As, S0, ?_⟩
  unfold mkFn at w
  generalize m (args.map some ++ List.replicate k none) = r at w ⊢
  cases r with
  | stuck => exact w
  | ex x ρ1 =>
    intro F' H' σ' cls od As' S' T' j R
    obtain ⟨As2, S2, hs⟩ := S'.io (h0 j)
    exact w F' H' cls od As2 S2 (T'.less fun i b hb => (hs i b hb).1) R
  | ok c ρ1 =>
    cases c with
    | bk => exact w.elim
    | ct => exact w.elim
    | nx =>
      intro F' H' σ' As' S' T' j
      obtain ⟨As2, S2, hs⟩ := S'.io (h0 j)
      exact w F' H' .non As2 [] S2 (T'.less fun i b hb => (hs i b hb).1) Fr.nil (.val .non) fun _ h => nomatch h
    | rt r =>
      cases r with
      | o o =>
        intro F' H' σ' As' S' T' j v B f R
        obtain ⟨As2, S2, hs⟩ := S'.io (h0 j)
        cases R with
        | o r1 n1 => exact w F' H' v As2 B S2 (T'.less fun i b hb => (hs i b hb).1) f r1 fun b hb i hi => n1 b hb i (hs i b hi).1
      | «at» i =>
        intro F' H' σ' As' S' T' j v B f R
        simp only at w
        split at w
        · exact w.elim
        · rename_i hnot
          obtain ⟨As2, S2, hs⟩ := S'.io (h0 j)
          cases R with
          | «at» q =>
            split at w
            · rename_i o e
              obtain ⟨v', q', r⟩ := S'.reps i o e
              rw [q] at q'; cases q'
              refine w F' H' v As2 (As' i) S2 (T'.less fun i b hb => (hs i b hb).1) (fun b hb => (T'.own i b hb).symm) r fun b hb k hk => ?_
              obtain ⟨h1, rfl, h2⟩ := hs k b hk
              exact hnot ⟨h2, S'.sep _ _ b hb h1⟩
            · exact w.elim
end

/-! ### calls -/
def mCall (n : Nat) (fn : Fn) (ms : M (List D)) : M RV := M.bind ms fun ds ρ => if ds.length = n then match fn (ds.map O.val) with
  | .ok o _ => .ok (.o o) ρ
  | .ex x _ => .ex x ρ
  | .stuck => .stuck else .stuck
section
variable {Γ : Gm} {F F1 H H1 : Hp} {As As1 : Own} {σ : Sl} {ρ : Env}
theorem Tr.grow {F H F' H' : Hp} {As' : Own} (s : Same F H) (s' : Same F' H') (T : Tr F H (fun _ => []) F' H' As') : Grow F H F' H' :=
  ⟨fun b u h => T.keep b u h (fun _ h => nomatch h), T.ext, s', fun b u h => by
    rcases T.frz b u h with q | q | ⟨_, q⟩
    · exact .inl q
    · exact .inr q
    · cases q⟩
theorem sta_args {vs : List V} {ds : List D} (s : Same F H) (r : RepL Γ F vs ds) : Sta Γ F H (vs.map some) ((ds.map O.val).map some) (fun _ => []) := by
  refine ⟨s, fun i o e => ?_, (fun _ _ _ h _ => nomatch h), by simp [r.length]⟩
  rw [List.getElem?_map, List.getElem?_map] at e
  cases q : ds[i]? with
  | none => rw [q] at e; cases e
  | some d =>
    rw [q] at e; cases e
    obtain ⟨v, hv, rv⟩ := r.get q
    exact ⟨v, by rw [List.getElem?_map, hv]; rfl, .val rv⟩
end
section
variable {X : Cx} {c : Addr} {W : WX} {e : Expr} {es : List Expr} {ms : M (List D)} {x : Str} {p pos : Pos} {f : Addr} {fd : FuncData} {ps : List Str} {k n : Nat} {fn : Fn}
theorem tM_call {σ : Sl} {H : Hp} {Q : VK} (h : tM (gm X c) W (mCall n fn ms) σ H Q) : tCallS (spM (gm X c) false n fn) (WE W) (tMA (gm X c) W ms) σ H Q := by
  obtain ⟨F, ρ, As, S, w⟩ := h
  refine ⟨F, ρ, As, S, wpR_mono (wpR_bind w) (fun ds ρ1 w1 F1 H1 vs As1 S1 T1 rs => ?_) fun _ _ q => q⟩
  split at w1
  · rename_i hn
    refine ⟨F1, ds.map O.val, fun _ => [], sta_args S1.sub rs, by rw [rs.length]; exact hn, by rw [List.length_map]; exact hn, ?_⟩
    cases e : fn (ds.map O.val) with
    | stuck => rw [e] at w1; exact w1.elim
    | ok o ρ2 =>
      rw [e] at w1
      intro F2 H2 v As2 B S2 T2 f2 r2 n2
      have g := Tr.grow S1.sub S2.sub T2
      exact pE_new S1 T1 w1 g (fun b hb => (f2 b hb).resolve_right fun ⟨_, z⟩ => nomatch z) r2
    | ex x ρ2 =>
      rw [e] at w1
      intro F2 H2 cls od As2 S2 T2 R
      have g := Tr.grow S1.sub S2.sub T2
      have S1' := S1.live
      exact w1 F2 H2 cls od _ (S1'.more g) ((T1.trans (Tr.live S1)).trans (Tr.more g)) R
  · exact w1.elim
theorem pm_call (G : FnOk X.prog X.w X.K X.mg X.base (L2.CX X.prog X.w) k f fd ps (spM (gm X c) false n fn)) (hr : Room k X.A) (hm : X.mg x = some (.ref f)) (hk : PySem.W.keepIn X.K (.ref f) = true) (hb : Binds X.K fd ps []) (tk : Takes X W) (ha : AM X c W (e :: es) ms)
    (hg : Gl X x := by rfl) (hdb : (x == ("__debug__" : Str)) = false := by decide) (he : starEach (e :: es) X.env = (false, eval e X.env) :: starEach es X.env := by rfl) (hpl : (backTo pos (starEach es X.env)).any (·.1) = false := by rfl) :
    PM X c W (.Call (.Name x p) (e :: es) [] pos) (mCall n fn ms) :=
  PE.imp (pe_callS G hr hg hm hk hb (fun σ => passAt tk σ) ha hdb he hpl) fun _ _ _ h => tM_call h
end

/-! ### raise -/
section
variable {X : Cx} {C : Addr} {bmB : List Value} {B newId initId : String}
/-- X() -/
theorem pmk_own0 {x : Str} {p pos : Pos} (F : ExcBaseFacts B newId initId bmB) (q : PySem.W.excIn X.K C bmB newId = true) (gC : X.mg x = some (.ref C)) (kC : PySem.W.keepIn X.K (.ref C) = true) (r : Raises X (.ref C)) (hg : Gl X x)
    (hdb : (x == ("__debug__" : Str)) = false := by decide) : PMk X (.Call (.Name x p) [] [] pos) (fun _ H Q => Q (.ref C) none H) := by
  intro pins s σ H Q I h
  refine wpAny_Call_Name_kw (ld_glob I hg gC ?_ hdb)
  refine PySem.W.callWith_K0 I.kIn kC ?_
  show wpAny _ _ (call (.ref C) []) _ _ _
  obtain ⟨bm, N, nm, qn, bs, hdct, sn, sub, ab, col, dd, k0, k1, k2, k3, k5, mN, hC, hN, hni, T⟩ := exc_obj I.kIn q
  refine wpAny_call_exc_subT F T hC hN hni (fun h' e hm => ?_) (Nat.zero_le _)
  exact mk_of I hm r h (I.hok.gone hm.new)
end
/-- what is told of the own classes of errors: all named, all made without arguments -/
structure ExcFs (K : PySem.W.Frag) (mg : Str → Option Value) (x : Str) : Prop where
  ex : ∃ C, mg x = some (.ref C) ∧ PySem.W.excIn K C He.veBase "ValueError.__new__" = true ∧ PySem.W.keepIn K (.ref C) = true ∧ PySem.W.subIn K (.ref C) (.type "BaseException") = some true ∧ PySem.W.typeIn K (.ref C) = some (.type "type") ∧ ExcC K C
def mRaise (x : Str) : M Ctl := fun ρ => .ex ⟨x, none⟩ ρ
section
variable {X : Cx} {c : Addr} {io : Bool} {W : WX} {pos p pos' : Pos} {x : Str}
theorem sm_raise (hc : X.calm = true) (tk : Takes X W) (T : ExcFs X.K X.mg x) (hg : Gl X x := by rfl) (hdb : (x == ("__debug__" : Str)) = false := by decide) : SM X c io W (.Raise (some (.Call (.Name x p) [] [] pos')) none pos) (mRaise x) := by
  obtain ⟨C, gC, q, kC, h1, h2, _⟩ := T.ex
  exact PS.imp (ps_raise hc tk (pmk_own0 F.excBase_ValueError q gC kC (raises_own h1 h2) hg hdb)) fun D σ H ⟨F, ρ, As, S, w⟩ => w F H σ (.ref C) none As S Tr.refl (fun _ => rfl) ⟨⟨C, rfl, gC⟩, rfl⟩
end

/-! ### try -/
/-- of which class an error is: told for the law's own classes -/
abbrev IsaT := Str → Str → Option Bool
def ClsV (mg : Str → Option Value) (T : Str) (cv : Value) : Prop := mg T = some cv ∨ (mg T = none ∧ bootBuiltins T = some cv ∧ T ≠ "__name__")
structure IsaFs (K : PySem.W.Frag) (mg : Str → Option Value) (isa : IsaT) : Prop where
  ex : ∀ c T b, isa c T = some b → ∃ C cv, mg c = some (.ref C) ∧ ClsV mg T cv ∧ PySem.W.exmOne K (.ref C) cv = some b ∧ PySem.W.kitOne K (.ref C) cv = some b ∧ ExcC K C
theorem mg_inj {mg : Str → Option Value} {c : Str} {C C' : Addr} (h : mg c = some (.ref C)) (h' : mg c = some (.ref C')) : C = C' := by
  rw [h] at h'; cases h'; rfl
theorem ClsV.inj {mg : Str → Option Value} {T : Str} {c c' : Value} (h : ClsV mg T c) (h' : ClsV mg T c') : c = c' := by
  rcases h with h | ⟨h, k, _⟩ <;> rcases h' with h' | ⟨h', k', _⟩
  · rw [h] at h'; cases h'; rfl
  · rw [h] at h'; cases h'
  · rw [h] at h'; cases h'
  · rw [k] at k'; cases k'; rfl

/-! the exception's own address is another -/
section
variable {Γ : Gm} {F : Hp} {a : Addr}
mutual
theorem Rep.recur : ∀ {d : D} {v : V}, Rep Γ F v d → Rep { Γ with cur := a } F v d
  | .non, _, h => by cases h; exact .non
  | .bl _, _, h => by cases h; exact .bl _
  | .int _, _, h => by cases h; exact .int _
  | .str _, _, h => by cases h; exact .str _
  | .tup _, _, h => by cases h with | tup a b => exact .tup a (RepL.recur b)
  | .lst _, _, h => by cases h with | lst a b => exact .lst a (RepL.recur b)
  | .scr _, _, h => by cases h with | scr a b => exact .scr a (RepL.recur b)
  | .dic _, _, h => by cases h with | dic a b => exact .dic a (RepK.recur b)
  | .set _, _, h => by cases h with | set n a => exact .set n a
theorem RepL.recur : ∀ {ds : List D} {vs : List V}, RepL Γ F vs ds → RepL { Γ with cur := a } F vs ds
  | [], _, h => by cases h; exact .nil
  | _ :: _, _, h => by cases h with | cons a b => exact .cons (Rep.recur a) (RepL.recur b)
theorem RepK.recur : ∀ {ds : List (Key × D)} {vs : List (Key × V)}, RepK Γ F vs ds → RepK { Γ with cur := a } F vs ds
  | [], _, h => by cases h; exact .nil
  | (_, _) :: _, _, h => by cases h with | cons a b => exact .cons (Rep.recur a) (RepK.recur b)
end
mutual
def noXo : O → Bool
  | .exc _ => false
  | .ins _ fs => noXf fs
  | _ => true
def noXf : List (Str × O) → Bool
  | [] => true
  | (_, o) :: fs => noXo o && noXf fs
end
variable {H : Hp}
mutual
theorem RepO.recur : ∀ {o : O} {v : V} {A : List Addr}, noXo o = true → RepO Γ F H v o A → RepO { Γ with cur := a } F H v o A
  | .val _, _, _, _, h => by cases h with | val r => exact .val r.recur
  | .exc _, _, _, k, _ => by simp [noXo] at k
  | .lst _, _, _, _, h => by cases h with | lst a b c => exact .lst a b c.recur
  | .dic _, _, _, _, h => by cases h with | dic a b c => exact .dic a b c.recur
  | .ins _ _, _, _, k, h => by
    simp only [noXo] at k
    cases h with | ins n cc h r q => exact .ins n cc h (RepF.recur k r) q
theorem RepF.recur : ∀ {fs : List (Str × O)} {vs : List (Str × V)} {A : List Addr}, noXf fs = true → RepF Γ F H vs fs A → RepF { Γ with cur := a } F H vs fs A
  | [], _, _, _, h => by cases h; exact .nil
  | (_, _) :: _, _, _, k, h => by
    simp only [noXf, Bool.and_eq_true] at k
    cases h with | cons r t q => exact .cons (RepO.recur k.1 r) (RepF.recur k.2 t) q
end
def noXe (ρ : Env) : Bool := ρ.all fun o => match o with
  | some o => noXo o
  | none => true
theorem Sta.recur {σ : Sl} {ρ : Env} {As : Own} (S : Sta Γ F H σ ρ As) (k : noXe ρ = true) : Sta { Γ with cur := a } F H σ ρ As where
  sub := S.sub
  reps := fun i o e => by
    obtain ⟨v, q, r⟩ := S.reps i o e
    have := List.all_eq_true.mp k _ (List.mem_of_getElem? e)
    exact ⟨v, q, r.recur this⟩
  sep := S.sep
  len := S.len
end
/-- the suite's ways out, seen from outside -/
def noXc (k : Ctl) (ρ : Env) : Bool := noXe ρ && match k with
  | .rt (.o o) => noXo o
  | _ => true
def notAt (i : Nat) : Ctl → Bool
  | .rt (.at j) => decide (j ≠ i)
  | _ => true
def mTry (isa : IsaT) (i : Option Nat) (T : Str) (body : M Ctl) (suite : Ex → M Ctl) : M Ctl := fun ρ => match body ρ with
  | .ex x ρ1 => match isa x.cls T with
    | some true => if noXe ρ1 then (match i with
      | some i => match suite x (ρ1.set i (some (.exc x))) with
        | .ok k ρ2 => if noXc k (ρ2.set i none) && notAt i k then .ok k (ρ2.set i none) else .stuck
        | _ => .stuck
      | none => match suite x ρ1 with
        | .ok k ρ2 => if noXc k ρ2 then .ok k ρ2 else .stuck
        | _ => .stuck) else .stuck
    | some false => .ex x ρ1
    | none => .stuck
  | r => r
section
variable {X : Cx} {io : Bool} {W Wout : WX} {x n : Str} {i : Nat} {body suite : List Stmt} {b₀ : Stmt} {np pos pos' : Pos} {isa : IsaT} {mb : M Ctl} {ms : Ex → M Ctl}
/-- the suite's reading: the error is known -/
def tsS (X : Cx) (io : Bool) (ms : Ex → M Ctl) : Addr → Value → Option Addr → TS := fun a cls d D σ H => ∃ x C, cls = .ref C ∧ X.mg x.cls = some (.ref C) ∧ (x.pl = none → d = none) ∧ tS (gm X a) io WF (ms x) D σ H
theorem RepX.recur {Γ : Gm} {F H : Hp} {x : Ex} {cls : Value} {od : Option Addr} {a : Addr} (h : RepX Γ F H x cls od) : RepX { Γ with cur := a } F H x cls od := by
  refine ⟨h.1, ?_⟩
  have h2 := h.2
  cases e : x.pl with
  | none => rw [e] at h2; exact h2
  | some fd =>
    obtain ⟨f, d⟩ := fd
    rw [e] at h2
    obtain ⟨dd, v, k1, k2, k3, k4⟩ := h2
    exact ⟨dd, v, k1, k2, k3, k4.recur⟩
/-- an end of the suite as an end of the statement -/
theorem end_back {D : Ends} {io : Bool} {F0 H0 : Hp} {σ0 : Sl} {As0 : Own} {k : Ctl} {ρ : Env} {c a : Addr} (w : pS (gm X c) io F0 H0 σ0 As0 D k ρ) {F H : Hp} {σ : Sl} {As : Own} (S : Sta (gm X a) F H σ ρ As) (T : Tr F0 H0 As0 F H As) (j : io = true → σ[0]? = σ0[0]?) (nx : noXc k ρ = true) :
    endS (gm X a) F0 H0 As0 F H σ As D k := by
  unfold noXc at nx
  rw [Bool.and_eq_true] at nx
  have w := w F H σ As (S.recur (a := c) nx.1) T j
  cases k with
  | nx => exact w
  | bk => exact w
  | ct => exact w
  | rt r =>
    intro v B f R
    refine w v B f ?_
    cases R with
    | o r1 n1 => exact .o (r1.recur (a := c) nx.2) n1
    | «at» q => exact .at q
theorem sm_try_as {T : Str} (hs : X.stack = X.env :: X.outer) (hf : X.env.frame = some X.env.locals) (hN : X.N.Nodup) (FI : IsaFs X.K X.mg isa) (hcv : ∃ cv, Names X T cv) (tk : Takes X W)
    (hb : ∀ (W : WX) (pn : List (Addr × Obj)) (xe : Value → Shared → Prop), Takes (X.tr pn xe) W → PassesOwn (model X.prog X.w) X.A X.env xe → SMs (X.tr pn xe) 0 io W body mb)
    (hsu : ∀ (a : Addr) (oe : Obj) (cls : Value) (d : Option Addr) (pn : List (Addr × Obj)), Zc cls d oe → (∃ vs, oe.data = .fields vs) → ∀ (x : Ex) (C : Addr), cls = .ref C → X.mg x.cls = some (.ref C) → (x.pl = none → d = none) → SMs (X.suite a ((a, oe) :: pn)) a io WF (b₀ :: suite) (ms x))
    (hi : X.N[i]? = some n := by rfl) (hln : X.env.kindOf n = some .local := by rfl) (hnX : io = true → i ≠ 0) :
    SM X 0 io W (.Try body [.ExceptHandler (some (.Name T np)) (some n) (b₀ :: suite) pos'] [] [] pos) (mTry isa (some i) T mb ms) := by
  obtain ⟨cv, hc⟩ := hcv
  have hcv' : ClsV X.mg T cv := hc.2.2
  refine PS.imp (ps_try_as (i := i) (tb := fun W => tS (gm X 0) io W mb) (ts := tsS X io ms) (Wout := W) hs hf hN hi hln hc tk (fun W pn xe tk hp => hb W pn xe tk hp) (fun a oe cls d pn hz hv => ⟨fun pins s σ H D I ⟨x, C, e1, e2, e3, h⟩ => (hsu a oe cls d pn hz hv x C e1 e2 e3).run pins s σ H D I h⟩)) fun D σ H ⟨F, ρ, As, S, w⟩ => ?_
  refine ⟨F, ρ, As, S, ?_⟩
  unfold mTry at w
  cases e : mb ρ with
  | stuck => rw [e] at w; exact w
  | ok k ρ1 => rw [e] at w; exact w
  | ex x ρ1 =>
    rw [e] at w
    intro F1 H1 σ1 cls od As1 S1 T1 j1 R1
    obtain ⟨⟨C, rfl, gC⟩, R2⟩ := R1
    cases ei : isa x.cls T with
    | none => simp only [ei] at w; exact w.elim
    | some b =>
      obtain ⟨C', cv', gC', hcl, hexm, _, _⟩ := FI.ex _ _ _ ei
      obtain rfl := mg_inj gC gC'
      obtain rfl := hcv'.inj hcl
      refine ⟨b, hexm, fun hb => ?_, fun hb => ?_⟩
      · subst hb
        intro a na
        simp only [ei] at w
        split at w
        · rename_i nx1
          refine ⟨x, C, rfl, gC, (fun hp => by rw [hp] at R2; exact R2), F1, ρ1.set i (some (.exc x)), putA As1 i [], (S1.recur (a := a) nx1).setO (v := .ref a) (.exc (Γ := gm X a)) (fun _ h => nomatch h), ?_⟩
          generalize ms x (ρ1.set i (some (.exc x))) = rs at w
          cases rs with
          | stuck => exact w.elim
          | ex => exact w.elim
          | ok k ρ2 =>
            simp only at w
            split at w
            · rename_i nx2
              intro F2 H2 σ2 As2 S2 T2 j2
              have Tp : Tr F1 H1 As1 F1 H1 (putA As1 i []) := Tr.setO Tr.refl Fr.nil
              have T12 := T1.trans (Tp.trans T2)
              have j12 : io = true → (σ2.set i none)[0]? = σ[0]? := fun hio => by
                rw [set0_ne (hnX hio), j2 hio, set0_ne (hnX hio), j1 hio]
              have S2' : Sta (gm X a) F2 H2 (σ2.set i none) (ρ2.set i none) (wipeO As2 i) := by
                refine ⟨S2.sub, fun q o eq => ?_, S2.drop.sep, by rw [List.length_set, List.length_set]; exact S2.len⟩
                obtain ⟨v, h1, h2⟩ := S2.drop.reps q o eq
                by_cases hq : q = i
                · subst hq
                  have hl : q < ρ2.length := by
                    have := (List.getElem?_eq_some_iff.mp eq).1
                    rwa [List.length_set] at this
                  rw [List.getElem?_set_self hl] at eq
                  cases eq
                · exact ⟨v, by rw [List.getElem?_set_ne (Ne.symm hq)]; exact h1, h2⟩
              rw [Bool.and_eq_true] at nx2
              have q := end_back (a := a) (c := 0) w S2' T12.drop j12 nx2.1
              have nx3 := nx2.2
              cases k with
              | nx => exact q
              | bk => exact q
              | ct => exact q
              | rt r =>
                intro v B f R
                refine q v B ((Fr.back Tp f).back T1) ?_
                cases R with
                | o r1 n1 =>
                  refine .o r1 fun b hb k hk => ?_
                  unfold wipeO at hk
                  split at hk
                  · cases hk
                  · exact n1 b hb k hk
                | @«at» j q1 =>
                  have hj : j ≠ i := by simpa [notAt] using nx3
                  exact .at (by rw [List.getElem?_set_ne (Ne.symm hj)]; exact q1)
            · exact w.elim
        · exact w.elim
      · subst hb
        simp only [ei] at w
        exact w F1 H1 σ1 (.ref C) od As1 S1 T1 j1 ⟨⟨C, rfl, gC⟩, R2⟩
theorem sm_try_only {T : Str} (hs : X.stack = X.env :: X.outer) (hf : X.env.frame = some X.env.locals) (FI : IsaFs X.K X.mg isa) (hcv : ∃ cv, Names X T cv) (tk : Takes X W)
    (hb : ∀ (W : WX) (pn : List (Addr × Obj)) (xe : Value → Shared → Prop), Takes (X.tr pn xe) W → PassesOwn (model X.prog X.w) X.A X.env xe → SMs (X.tr pn xe) 0 io W body mb)
    (hsu : ∀ (a : Addr) (oe : Obj) (cls : Value) (d : Option Addr) (pn : List (Addr × Obj)), Zc cls d oe → (∃ vs, oe.data = .fields vs) → ∀ (x : Ex) (C : Addr), cls = .ref C → X.mg x.cls = some (.ref C) → (x.pl = none → d = none) → SMs (X.suite a ((a, oe) :: pn)) a io WF (b₀ :: suite) (ms x)) :
    SM X 0 io W (.Try body [.ExceptHandler (some (.Name T np)) none (b₀ :: suite) pos'] [] [] pos) (mTry isa none T mb ms) := by
  obtain ⟨cv, hc⟩ := hcv
  have hcv' : ClsV X.mg T cv := hc.2.2
  refine PS.imp (ps_try_only (tb := fun W => tS (gm X 0) io W mb) (ts := tsS X io ms) (Wout := W) hs hf hc tk (fun W pn xe tk hp => hb W pn xe tk hp) (fun a oe cls d pn hz hv => ⟨fun pins s σ H D I ⟨x, C, e1, e2, e3, h⟩ => (hsu a oe cls d pn hz hv x C e1 e2 e3).run pins s σ H D I h⟩)) fun D σ H ⟨F, ρ, As, S, w⟩ => ?_
  refine ⟨F, ρ, As, S, ?_⟩
  unfold mTry at w
  cases e : mb ρ with
  | stuck => rw [e] at w; exact w
  | ok k ρ1 => rw [e] at w; exact w
  | ex x ρ1 =>
    rw [e] at w
    intro F1 H1 σ1 cls od As1 S1 T1 j1 R1
    obtain ⟨⟨C, rfl, gC⟩, R2⟩ := R1
    cases ei : isa x.cls T with
    | none => simp only [ei] at w; exact w.elim
    | some b =>
      obtain ⟨C', cv', gC', hcl, hexm, _, _⟩ := FI.ex _ _ _ ei
      obtain rfl := mg_inj gC gC'
      obtain rfl := hcv'.inj hcl
      refine ⟨b, hexm, fun hb => ?_, fun hb => ?_⟩
      · subst hb
        intro a na
        simp only [ei] at w
        split at w
        · rename_i nx1
          refine ⟨x, C, rfl, gC, (fun hp => by rw [hp] at R2; exact R2), F1, ρ1, As1, S1.recur (a := a) nx1, ?_⟩
          generalize ms x ρ1 = rs at w
          cases rs with
          | stuck => exact w.elim
          | ex => exact w.elim
          | ok k ρ2 =>
            simp only at w
            split at w
            · rename_i nx2
              intro F2 H2 σ2 As2 S2 T2 j2
              have q := end_back (a := a) (c := 0) w S2 (T1.trans T2) (fun hio => (j2 hio).trans (j1 hio)) nx2
              cases k with
              | nx => exact q
              | bk => exact q
              | ct => exact q
              | rt r => exact fun v B f R => q v B (f.back T1) R
            · exact w.elim
        · exact w.elim
      · subst hb
        simp only [ei] at w
        exact w F1 H1 σ1 (.ref C) od As1 S1 T1 j1 ⟨⟨C, rfl, gC⟩, R2⟩
end
/-! ### isinstance(e, T), e the caught error -/
def mIsE (isa : IsaT) (i : Nat) (x : Ex) (T : Str) : M RV := fun ρ => match ρ[i]? with
  | some (some (.exc _)) => match x.pl with
    | none => match isa x.cls T with
      | some b => .ok (.o (.val (.bl b))) ρ
      | none => .stuck
    | some _ => .stuck
  | _ => .stuck
section
variable {X : Cx} {W : WX} {a : Addr} {oe : Obj} {pn : List (Addr × Obj)} {isa : IsaT} {x : Ex} {C : Addr} {T : Str} {i : Nat} {n : Str} {p p1 p2 pos : Pos} {cls : Value} {d : Option Addr}
theorem pm_isE (FI : IsaFs X.K X.mg isa) (hz : Zc cls d oe) (hf : ∃ vs, oe.data = .fields vs) (hcls : cls = .ref C) (gC : X.mg x.cls = some (.ref C)) (hd : x.pl = none → d = none) (hm : X.mg "isinstance" = none)
    (hv : PE (X.suite a ((a, oe) :: pn)) (.Name n p1) (tVar i)) (hT : ∀ cv, ClsV X.mg T cv → ∃ v, PE (X.suite a ((a, oe) :: pn)) (.Name T p2) (tC v) ∧ ∀ u, RelV v u → u = cv) (hg : Gl (X.suite a ((a, oe) :: pn)) "isinstance" := by rfl)
    (he : starEach [.Name n p1, .Name T p2] X.env = (false, eval (.Name n p1) X.env) :: starEach [.Name T p2] X.env := by rfl) (he2 : starEach [.Name T p2] X.env = (false, eval (.Name T p2) X.env) :: starEach [] X.env := by rfl) (hpl : (backTo pos (starEach [.Name T p2] X.env)).any (·.1) = false := by rfl) :
    PM (X.suite a ((a, oe) :: pn)) a W (.Call (.Name "isinstance" p) [.Name n p1, .Name T p2] [] pos) (mIsE isa i x T) := by
  refine ⟨fun pins s σ H Q I h => ?_⟩
  obtain ⟨F, ρ, As, S, w⟩ := h
  unfold mIsE at w
  split at w
  · rename_i x0 e0
    cases ep : x.pl with
    | some _ => simp only [ep] at w; exact w.elim
    | none =>
      simp only [ep] at w
      cases ei : isa x.cls T with
      | none => simp only [ei] at w; exact w.elim
      | some b =>
        simp only [ei] at w
        obtain ⟨C', cv, gC', hcl, _, hk, hx⟩ := FI.ex _ _ _ ei
        obtain rfl := mg_inj gC gC'
        subst hcls
        obtain rfl := hd ep
        obtain ⟨v, pv, huv⟩ := hT cv hcl
        obtain ⟨va, qa, ra⟩ := S.reps i _ e0
        have hva : va = .ref a := by
          generalize As i = A at ra
          cases ra; rfl
        subst hva
        exact (pe_callB (call_isE hx hz hf) hg hm (by decide +kernel) (pa_cons hv (pa_cons pv pa_nil he2) he) (by decide) (by decide) he hpl).run pins s σ H Q I
          ⟨_, qa, v, cv, b, rfl, huv, hk, w F H _ As [] S Tr.refl Fr.nil (.o (.val (.bl _)) fun _ h => nomatch h)⟩
  · exact w.elim
theorem isE_own {X : Cx} (h : ∃ D, X.mg T = some (.ref D)) (hdb : (T == ("__debug__" : Str)) = false := by decide) (hg : Gl X T := by rfl) : ∀ cv, ClsV X.mg T cv → ∃ v, PE X (.Name T p2) (tC v) ∧ ∀ u, RelV v u → u = cv := fun cv hc => by
  obtain ⟨D, h⟩ := h
  have e : cv = .ref D := hc.inj (.inl h)
  subst e
  exact ⟨.ref D, pe_glob hg h rfl hdb, fun u r => r⟩
theorem isE_ty {X : Cx} {t : String} (h : X.mg T = none) (hb : bootBuiltins T = some (.type t) := by decide +kernel) (hn : T ≠ "__name__" := by decide) (hdb : (T == ("__debug__" : Str)) = false := by decide) (hg : Gl X T := by rfl) : ∀ cv, ClsV X.mg T cv → ∃ v, PE X (.Name T p2) (tC v) ∧ ∀ u, RelV v u → u = cv := fun cv hc => by
  have e : cv = .type t := hc.inj (.inr ⟨h, hb, hn⟩)
  subst e
  exact ⟨.ty t, pe_ty h hg hb hn hdb, fun u r => r⟩
end
end Mi

set_option Elab.async false
set_option linter.all false
set_option autoImplicit false
set_option maxRecDepth 100000
set_option maxHeartbeats 4000000
namespace Mi
open PySem PySem.Spec PyProof.Rows L2

/-! ### name = [.. for ..] -/
section
variable {X : Cx} {c : Addr} {io : Bool} {W : WX} {elt kx vx tg iter : Expr} {ifs : List Expr} {scope : Scope} {own : List (Str × Nat)} {pos spos py : Pos} {mi : M (List D)} {g : RV → M Unit} {tt : M Bool} {te tk tv : M RV} {i : Nat} {y : Str}
theorem asg_pE {m : M RV} {F H : Hp} {σ : Sl} {ρ : Env} {As : Own} {D : Ends} (w : wpR (mAsg m (gNm io i) ρ) (pS (gm X c) io F H σ As D) (pXS (gm X c) io W F H σ As)) : wpR (m ρ) (pE (gm X c) F H σ As fun x H1 => gName i x σ H1 D.nx) (pX (gm X c) W F H σ As) :=
  wpR_mono (wpR_bind w) (fun r ρ1 w1 F1 H1 v1 As1 B1 S1 T1 f1 R1 =>
    gNm_ok (Γ := gm X c) (io := io) ⟨F1, ρ1, As1, r, B1, S1, R1, wpR_quiet (wpR_mono (wpR_bind w1) (fun _ ρ2 w2 F2 H2 σ2 As2 S2 T2 i2 n2 => w2 F2 H2 σ2 As2 S2 ((T1.withB f1).trans T2) i2) fun _ _ q => q) fun x ρ => quiet_nm r ρ1 x ρ⟩) fun _ _ q => q.e
theorem sm_setLc (hc : X.calm = true) (hN : X.N.Nodup) (ok : BlkOk X.N X.env.scope scope own) (hi : IM X c W tg iter mi) (qg : Quiet g)
    (hg : ∀ (s : Shared) (H : Hp) (C : Addr) (cl : List (Str × Addr)) (fp : List Addr), GM (X.blk s H scope (compEnvC scope cl C X.env) fp) c false (own.map (·.2)) tg g)
    (ht : ∀ (s : Shared) (H : Hp) (C : Addr) (cl : List (Str × Addr)) (fp : List Addr), TMs (X.blk s H scope (compEnvC scope cl C X.env) fp) c ifs tt)
    (he : ∀ (s : Shared) (H : Hp) (C : Addr) (cl : List (Str × Addr)) (fp : List Addr), PM (X.blk s H scope (compEnvC scope cl C X.env) fp) c WF elt te)
    (hy : X.N[i]? = some y := by rfl) (hyl : X.env.scope.names.lookup y = some .local := by rfl) (hk : X.env.scope.kind = .function := by rfl)
    (hl : (py.line == pos.line) = true := by rfl) (ha : (scope.names.any fun (n, k) => n == y && (k == .local || k == .cell)) = false := by rfl)
    (hs : ∀ x, foldedSetIterable iter X.env x = pure x := by intro _; rfl) :
    SM X c io W (.Assign [.Name y py] (.ListComp elt [⟨tg, iter, ifs, 0⟩] scope pos) spos) (mAsg (mComp (own.map (·.2)) mi g tt te) (gNm io i)) :=
  PS.imp (ps_setLc (wi := tMI (gm X c) W mi) (g := tG (gm X c) false (own.map fun p : Str × Nat => p.2) g) (tt := tMT (gm X c) WF tt) (te := tM (gm X c) WF te) hc hN hy hyl (sw_true hk hyl hl ha) hi ok hg ht he hs)
    fun D σ H ⟨F, ρ, As, S, w⟩ => comp_ok qg S (asg_pE w)
theorem sw_trueD {gs : List Comprehension} {l : Nat} {env : PySem.Env} (hk : env.scope.kind = .function) (hy : env.scope.names.lookup y = some .local) (hl : (py.line == pos.line) = true)
    (ha : (scope.names.any fun (n, k) => n == y && (k == .local || k == .cell)) = false) : swapsWith (.DictComp kx vx gs scope pos) (some (.Name y py)) l env = pure true := by
  have ky : env.kindOf y = some .local := hy
  have hb : env.blockKind = .function := by unfold Env.blockKind; rw [hk]; rfl
  unfold swapsWith
  simp only [hb, ky, ha, Expr.pos, hl]
  rfl
end
/-! ### a module's dict of texts to numbers -/
structure KdFs (K : PySem.W.Frag) (mg : Str → Option Value) (w : World) (x : Str) (tab : List (Str × Option Int)) : Prop where
  ex : ∃ d es n, mg x = some (.ref d) ∧ KDict K w d es n ∧ ∀ z o, tab.lookup z = some o → (o = none ∧ PySem.W.nsIn K d z = some none) ∨ ∃ i t, o = some i ∧ PySem.W.nsIn K d z = some (some (.int i t))
def kdGet (tab : List (Str × Option Int)) : D → Option (Option Int)
  | .str z => tab.lookup z
  | _ => none
def mKdIn (neg : Bool) (tab : List (Str × Option Int)) (m : M RV) : M RV := M.bind m fun r => M.bind (peek r) fun d => M.bind (M.of (kdGet tab d)) fun o => mC (.bl (sgn neg o.isSome))
def mKd (tab : List (Str × Option Int)) (m : M RV) : M RV := M.bind m fun r => M.bind (peek r) fun d => M.bind (M.of (kdGet tab d)) fun o => M.bind (M.of o) fun i => mC (.int i)
section
variable {X : Cx} {c : Addr} {W : WX} {e : Expr} {m : M RV} {x : Str} {p pos : Pos} {tab : List (Str × Option Int)}
theorem kdGet_rep {Γ : Gm} {F H : Hp} {v : V} {d : D} {o : Option Int} (h : RepP Γ F H v d) (e : kdGet tab d = some o) : ∃ z, v = .str z ∧ tab.lookup z = some o := by
  cases d <;> simp only [kdGet] at e <;> try (cases e; done)
  exact ⟨_, h.vStr, e⟩
theorem pm_kdNotIn (T : KdFs X.K X.mg X.w x tab) (ha : PM X c W e m) (hg : Gl X x := by rfl) (hm : behindInMarks .NotIn (.Name x p) = false := by rfl) (hdb : (x == ("__debug__" : Str)) = false := by decide) : PM X c W (.Compare e [.NotIn] [.Name x p] pos) (mKdIn true tab m) := by
  obtain ⟨d, es, n, hmg, D, ht⟩ := T.ex
  refine PE.imp (pe_cmpR (op_notIn_kd D) ha (pe_glob (v := .ref d) hg hmg rfl hdb) hm) fun σ H Q ⟨F, ρ, As, S, w⟩ => ?_
  refine tM_seq S w (fun _ _ q => q) fun r ρ1 F1 H1 v1 As1 B1 w1 S1 T1 f1 R1 => ?_
  obtain ⟨dd, pd, w2⟩ := peek_ok S1 R1 w1
  obtain ⟨o, eo, w3⟩ := wpR_of (wpR_bind w2)
  obtain ⟨z, rfl, ez⟩ := kdGet_rep pd eo
  have fin : ∀ r : Option Value, r.isSome = o.isSome → Q (.bl (!r.isSome)) H1 := fun r hr => by
    rw [hr]
    exact w3 F1 H1 _ As1 [] S1 T1 Fr.nil (.o (.val (.bl _)) fun _ h => nomatch h)
  rcases ht z o ez with ⟨rfl, h⟩ | ⟨i, t, rfl, h⟩
  · exact ⟨z, _, rfl, rfl, h, fin _ rfl⟩
  · exact ⟨z, _, rfl, rfl, h, fin _ rfl⟩
theorem ix_kd {d : Addr} {es : Array DictEntry} {n : Nat} (D : KDict X.K X.w d es n) : IxR X (fun x y H Q => ∃ (z : Str) (u0 : Value) (v0 : V), x = .ref d ∧ y = .str z ∧ PySem.W.nsIn X.K d z = some (some u0) ∧ RelV v0 u0 ∧ Q v0 H) := by
  intro value slice pins s σ H x y v u Q I rx ry h hs
  obtain ⟨z, u0, v0, rfl, rfl, e, r, q⟩ := h
  cases rx
  obtain ⟨t, rfl⟩ := ry
  refine tail_any (kd_type D I) PySem.F.slot_dict_getitem.lookup ?_ hs
  exact wpAny_getItem_of (PySem.strKind_is X.prog X.w z t) (PySem.W.mapOf_K (prog := X.prog) I.kIn D.at_ D.lit) (PySem.W.find_K D.at_ e) ⟨v0, H, I.tok _, r, q⟩
theorem pm_kdGet (T : KdFs X.K X.mg X.w x tab) (ha : PM X c W e m) (hg : Gl X x := by rfl) (hdb : (x == ("__debug__" : Str)) = false := by decide) (hs : PlainIx e := by intro _ _; rfl) : PM X c W (.Subscript (.Name x p) e pos) (mKd tab m) := by
  obtain ⟨d, es, n, hmg, D, ht⟩ := T.ex
  refine PE.imp (pe_ix (ix_kd D) (pe_glob (v := .ref d) hg hmg rfl hdb) ha hs) fun σ H Q ⟨F, ρ, As, S, w⟩ => ?_
  refine tM_seq S w (fun _ _ q => q) fun r ρ1 F1 H1 v1 As1 B1 w1 S1 T1 f1 R1 => ?_
  obtain ⟨dd, pd, w2⟩ := peek_ok S1 R1 w1
  obtain ⟨o, eo, w3⟩ := wpR_of (wpR_bind w2)
  obtain ⟨i, ei, w4⟩ := wpR_of (wpR_bind w3)
  subst ei
  obtain ⟨z, rfl, ez⟩ := kdGet_rep pd eo
  have fin := w4 F1 H1 (.int i) As1 [] S1 T1 Fr.nil (.o (.val (.int _)) fun _ h => nomatch h)
  rcases ht z _ ez with ⟨e, h⟩ | ⟨i', t, e, h⟩
  · cases e
  · cases e
    exact ⟨z, _, .int i, rfl, rfl, h, ⟨_, rfl⟩, fin⟩
end
end Mi

set_option Elab.async false
set_option linter.all false
set_option autoImplicit false
set_option maxRecDepth 100000
set_option maxHeartbeats 4000000
namespace Mi
open PySem PySem.Spec PyProof.Rows L2

/-! ### comparisons as tests -/
section
variable {X : Cx} {c : Addr} {W : WX} {a b d e : Expr} {m ma mb md : M RV} {pos p : Pos}
theorem tst_tM {σ : Sl} {H : Hp} {Q : Bool → Hp → Prop} (h : tMT (gm X c) W (mTst m) σ H Q) : tM (gm X c) W m σ H fun x H' => ∃ k, x = .bl k ∧ Q k H' := by
  obtain ⟨F, ρ, As, S, w⟩ := h
  refine tM_seq S w (fun _ _ q => q) fun r ρ1 F1 H1 v1 As1 B1 w1 S1 T1 f1 R1 => ?_
  obtain ⟨d, p, w2⟩ := peek_ok S1 R1 w1
  obtain ⟨b, eb, w3⟩ := wpR_of w2
  exact ⟨b, boolD_rep p eb, w3 F1 H1 As1 S1 T1⟩
theorem tm_cmp {op : CmpOp} {r : R2} {g : D → D → Option O} (ho : OpR X (compareOp op) r) (R : RuleB X c r g) (ha : PM X c W a ma) (hb : PM X c W b mb) (hm : behindInMarks op b = false) : TM X c W (.Compare a [op] [b] pos) (mTst (mBin g ma mb)) :=
  PT.imp (pt_cmpR ho ha hb hm) fun _ _ _ h => tM_bin R (tst_tM h)
theorem tm_eq {k : Nat} (hr : Room k X.A) (ha : PM X c W a ma) (hb : PM X c W b mb) : TM X c W (.Compare a [.Eq] [b] pos) (mTst (mBin eqD ma mb)) := tm_cmp (op_eqD hr.units) rule_eq ha hb (nomark _)
theorem tm_ne {k : Nat} (hr : Room k X.A) (ha : PM X c W a ma) (hb : PM X c W b mb) : TM X c W (.Compare a [.NotEq] [b] pos) (mTst (mBin neD ma mb)) := tm_cmp (op_neD hr.units) rule_ne ha hb (nomark _)
theorem tm_lt (ha : PM X c W a ma) (hb : PM X c W b mb) : TM X c W (.Compare a [.Lt] [b] pos) (mTst (mBin ltD ma mb)) := tm_cmp op_lt rule_ib0 ha hb (nomark _)
theorem tm_le (ha : PM X c W a ma) (hb : PM X c W b mb) : TM X c W (.Compare a [.LtE] [b] pos) (mTst (mBin leD ma mb)) := tm_cmp op_le rule_ib0 ha hb (nomark _)
theorem tm_gt (ha : PM X c W a ma) (hb : PM X c W b mb) : TM X c W (.Compare a [.Gt] [b] pos) (mTst (mBin gtD ma mb)) := tm_cmp op_gt rule_ib0 ha hb (nomark _)
theorem tm_ge (ha : PM X c W a ma) (hb : PM X c W b mb) : TM X c W (.Compare a [.GtE] [b] pos) (mTst (mBin geD ma mb)) := tm_cmp op_ge rule_ib0 ha hb (nomark _)
theorem tm_is (ha : PM X c W a ma) (hb : PM X c W b mb) : TM X c W (.Compare a [.Is] [b] pos) (mTst (mBin (isD false) ma mb)) := tm_cmp (op_isN.or op_isBl) (rule_isN.or rule_isB) ha hb (nomark _)
theorem tm_isNot (ha : PM X c W a ma) (hb : PM X c W b mb) : TM X c W (.Compare a [.IsNot] [b] pos) (mTst (mBin (isD true) ma mb)) := tm_cmp (op_notN.or op_notBl) (rule_notN.or rule_notB) ha hb (nomark _)
theorem tm_in {k : Nat} (hr : Room k X.A) (ha : PM X c W a ma) (hb : PM X c W b mb) (hm : behindInMarks .In b = false := by rfl) : TM X c W (.Compare a [.In] [b] pos) (mTst (mBin (inD false) ma mb)) :=
  tm_cmp (op_in_seq.or ((op_inD (units65 hr)).or op_in_sign)) (rule_inFlat.or (rule_inDeep.or rule_inStr)) ha hb hm
theorem tm_notIn {k : Nat} (hr : Room k X.A) (ha : PM X c W a ma) (hb : PM X c W b mb) (hm : behindInMarks .NotIn b = false := by rfl) : TM X c W (.Compare a [.NotIn] [b] pos) (mTst (mBin (inD true) ma mb)) :=
  tm_cmp (op_notIn_seq.or ((op_notInD (units65 hr)).or op_notIn_sign)) (rule_inFlat.or (rule_notInDeep.or rule_notInStr)) ha hb hm
theorem chain_ok {f g : Int → Int → Bool} {σ : Sl} {H : Hp} {Q : VK} (h : tM (gm X c) W (mChain (iiB f) (iiB g) ma mb md) σ H Q) :
    tChain (rI0 fun i j => .bl (f i j)) (rI0 fun i j => .bl (g i j)) (tM (gm X c) W ma) (tM (gm X c) W mb) (tM (gm X c) W md) σ H Q := by
  obtain ⟨F, ρ, As, S, w⟩ := h
  refine tM_seq S w (fun _ _ q => q) fun ra ρ1 F1 H1 v1 As1 B1 w1 S1 T1 f1 R1 => ?_
  refine tM_seq S1 w1 (fun _ _ q => q.tr T1) fun rb ρ2 F2 H2 v2 As2 B2 w2 S2 T2 f2 R2 => ?_
  obtain ⟨dx, px, w3⟩ := peek_ok S2 (R1.tr T2) w2
  obtain ⟨dy, p2, w4⟩ := peek_ok S2 R2 w3
  obtain ⟨k, ek, w5⟩ := wpR_of (wpR_bind w4)
  obtain ⟨i, j, rfl, rfl, rfl⟩ := iiB_rep px p2 ek
  refine ⟨i, j, rfl, rfl, _, rfl, ?_⟩
  cases hk : f i j with
  | false =>
    rw [hk, if_neg (by simp)] at w5
    rw [if_neg (by simp)]
    exact w5 F2 H2 _ As2 [] S2 (T1.trans T2) Fr.nil (.o (.val (.bl _)) fun _ h => nomatch h)
  | true =>
    rw [hk, if_pos rfl] at w5
    rw [if_pos rfl]
    refine tM_seq S2 w5 (fun _ _ q => q.tr (T1.trans T2)) fun rd ρ3 F3 H3 v3 As3 B3 w6 S3 T3 f3 R3 => ?_
    obtain ⟨dy', py', w7⟩ := peek_ok S3 (R2.tr T3) w6
    obtain ⟨dz, pz, w8⟩ := peek_ok S3 R3 w7
    obtain ⟨k', ek', w9⟩ := wpR_of (wpR_bind w8)
    obtain ⟨i', j', e1, rfl, rfl⟩ := iiB_rep py' pz ek'
    cases e1
    exact ⟨_, _, rfl, rfl, w9 F3 H3 _ As3 [] S3 ((T1.trans T2).trans T3) Fr.nil (.o (.val (.bl _)) fun _ h => nomatch h)⟩
theorem tm_chain {op op' : CmpOp} {f g : Int → Int → Bool} (ho : OpR X (compareOp op) (rI0 fun i j => .bl (f i j))) (ho' : OpR X (compareOp op') (rI0 fun i j => .bl (g i j))) (ha : PM X c W a ma) (hb : PM X c W b mb) (hd : PM X c W d md) (hm : lastMarks [op, op'] [b, d] = false := by with_unfolding_all rfl) :
    TM X c W (.Compare a [op, op'] [b, d] pos) (mTst (mChain (iiB f) (iiB g) ma mb md)) := PT.imp (pt_chain ho ho' ha hb hd hm) fun _ _ _ h => chain_ok (tst_tM h)
theorem kdNotIn_ok {tab : List (Str × Option Int)} {dd : Addr} {x : Str} (hmg : X.mg x = some (.ref dd)) (ht : ∀ z o, tab.lookup z = some o → (o = none ∧ PySem.W.nsIn X.K dd z = some none) ∨ ∃ i t, o = some i ∧ PySem.W.nsIn X.K dd z = some (some (.int i t)))
    {σ : Sl} {H : Hp} {Q : VK} (h : tM (gm X c) W (mKdIn true tab m) σ H Q) : tOp (fun x y H Q => ∃ (z : Str) (r : Option Value), x = .str z ∧ y = .ref dd ∧ PySem.W.nsIn X.K dd z = some r ∧ Q (.bl (!r.isSome)) H) (tM (gm X c) W m) (tC (.ref dd)) σ H Q := by
  obtain ⟨F, ρ, As, S, w⟩ := h
  refine tM_seq S w (fun _ _ q => q) fun r ρ1 F1 H1 v1 As1 B1 w1 S1 T1 f1 R1 => ?_
  obtain ⟨dv, pd, w2⟩ := peek_ok S1 R1 w1
  obtain ⟨o, eo, w3⟩ := wpR_of (wpR_bind w2)
  obtain ⟨z, rfl, ez⟩ := kdGet_rep pd eo
  have fin : ∀ r : Option Value, r.isSome = o.isSome → Q (.bl (!r.isSome)) H1 := fun r hr => by
    rw [hr]
    exact w3 F1 H1 _ As1 [] S1 T1 Fr.nil (.o (.val (.bl _)) fun _ h => nomatch h)
  rcases ht z o ez with ⟨rfl, h⟩ | ⟨i, t, rfl, h⟩
  · exact ⟨z, _, rfl, rfl, h, fin _ rfl⟩
  · exact ⟨z, _, rfl, rfl, h, fin _ rfl⟩
theorem tm_kdNotIn {x : Str} {tab : List (Str × Option Int)} (T : KdFs X.K X.mg X.w x tab) (ha : PM X c W e m) (hg : Gl X x := by rfl) (hm : behindInMarks .NotIn (.Name x p) = false := by rfl) (hdb : (x == ("__debug__" : Str)) = false := by decide) : TM X c W (.Compare e [.NotIn] [.Name x p] pos) (mTst (mKdIn true tab m)) := by
  obtain ⟨d, es, n, hmg, D, ht⟩ := T.ex
  exact PT.imp (pt_cmpR (op_notIn_kd D) ha (pe_glob (v := .ref d) hg hmg rfl hdb) hm) fun σ H Q h => kdNotIn_ok hmg ht (tst_tM h)
/-- -e -/
def negO : D → Option O
  | .int i => some (.val (.int (-i)))
  | _ => none
theorem pm_neg (ha : PM X c W a ma) : PM X c W (.UnaryOp .USub a pos) (mFn1 negO ma) := PE.imp (pe_un un_neg ha) fun σ H Q ⟨F, ρ, As, S, w⟩ => by
  refine tM_seq S w (fun _ _ q => q) fun r ρ1 F1 H1 v1 As1 B1 w1 S1 T1 f1 R1 => ?_
  obtain ⟨d, p, w2⟩ := peek_ok S1 R1 w1
  obtain ⟨o, eo, w3⟩ := wpR_of w2
  cases d <;> simp only [negO, Option.map_none, Option.map_some] at eo <;> try (cases eo; done)
  cases eo
  exact ⟨_, p.vInt, w3 F1 H1 _ As1 [] S1 T1 Fr.nil (.o (.val (.int _)) fun _ h => nomatch h)⟩
end
/-! ### what a def is, what it keeps to -/
def Has (P : Program) (w : World) (K : PySem.W.Frag) (mg : Str → Option Value) (base : Heap) (x : Str) (k n : Nat) (ps : List Str) (io : Bool) (fn : Fn) : Prop :=
  ∃ f fd, mg x = some (.ref f) ∧ PySem.W.keepIn K (.ref f) = true ∧ Binds K fd ps [] ∧ (∃ oc od osl, K.lookup f = some ⟨oc, od, .func fd, osl⟩) ∧ FnOk P w K mg base (L2.CX P w) k f fd ps (spM ⟨P, w, K, mg, 0⟩ io n fn)
theorem pm_callH {X : Cx} {W : WX} {e : Expr} {es : List Expr} {ms : M (List D)} {x : Str} {p pos : Pos} {ps : List Str} {k k' n : Nat} {fn : Fn} (G : Has X.prog X.w X.K X.mg X.base x k n ps false fn) (hr : Room k' X.A) (tk : Takes X W) (ha : AM X 0 W (e :: es) ms) (hk : k ≤ k' := by decide)
    (hg : Gl X x := by rfl) (hdb : (x == ("__debug__" : Str)) = false := by decide) (he : starEach (e :: es) X.env = (false, eval e X.env) :: starEach es X.env := by rfl) (hpl : (backTo pos (starEach es X.env)).any (·.1) = false := by rfl) :
    PM X 0 W (.Call (.Name x p) (e :: es) [] pos) (mCall n fn ms) := by
  obtain ⟨f, fd, h1, h2, h3, _, h4⟩ := G
  exact pm_call h4 (hr.mono hk) h1 h2 h3 tk ha hg hdb he hpl
structure IsDef (K : PySem.W.Frag) (mg : Str → Option Value) (x : Str) (st : Stmt) : Prop where
  ex : ∃ f fd, mg x = some (.ref f) ∧ FunD K x x (defArgs st) (defBody st) (defScope st) [] [] f fd
theorem funD_look {K : PySem.W.Frag} {x qual : Str} {params : Arguments} {body : List Stmt} {scope : Scope} {dvs : List V} {kws : List (Str × V)} {f : Addr} {fd : FuncData} (F : FunD K x qual params body scope dvs kws f fd) : ∃ oc od osl, K.lookup f = some ⟨oc, od, .func fd, osl⟩ := by
  obtain ⟨oc, od, _, _, _, _, _, _, _, osl, _, h, _⟩ := F.ex
  exact ⟨oc, od, osl, h⟩
theorem has_of {P : Program} {w : World} {K : PySem.W.Frag} {mg : Str → Option Value} {base : Heap} {x : Str} {st : Stmt} {k n j : Nat} {N ps : List Str} {io : Bool} {m : M Ctl} (T : IsDef K mg x st) (sc : FnScope N ps (defScope st)) (hn : N.length = n + j) (hp : ps.length = n) (hio : io = true → 0 < n)
    (hb : ∀ f fd, FunD K x x (defArgs st) (defBody st) (defScope st) [] [] f fd → Binds K fd ps [])
    (h : ∀ (f : Addr) (cdv : Value) (A : Around) (outer : List PySem.Env) (s : Shared) (H : Hp) (E : XK), Room k (A.deeper (envOfC x (defScope st) s.heap.objs.size f cdv)) → SMs (cxOf (L2.CX P w) P w K mg base N x (defScope st) f cdv A outer s H E) 0 io (fun cls d _ H => E cls d H) (defBody st) m) :
    Has P w K mg base x (k + 1) n ps io (mkFn io j m) := by
  obtain ⟨f, fd, hg, F⟩ := T.ex
  refine ⟨f, fd, hg, F.kp, hb f fd F, funD_look F, F.ok sc (fun vs H Q E q => ?_) fun cdv A outer s H vs Q E hr q => ⟨_, h f cdv A outer s H E hr, fn_start hn hio q⟩⟩
  obtain ⟨_, _, _, _, hv, _⟩ := q
  rw [hv, hp]
end Mi

set_option Elab.async false
set_option linter.all false
set_option autoImplicit false
set_option maxRecDepth 100000
set_option maxHeartbeats 4000000
namespace Mi
open PySem PySem.Spec PyProof.Rows L2
def gSubQ (i : Nat) (m : M RV) : RV → M Unit := fun r => noEx (gSubM i m r)
theorem noEx_quiet {α : Type} {m : M α} {ρ ρ' : Env} {x : Ex} : noEx m ρ ≠ .ex x ρ' := fun h => by
  unfold noEx at h
  cases e : m ρ with
  | ok a ρ1 => rw [e] at h; cases h
  | ex x ρ1 => rw [e] at h; cases h
  | stuck => rw [e] at h; cases h
theorem quiet_sub {i : Nat} {m : M RV} : Quiet (gSubQ i m) := fun r ρ x ρ' => noEx_quiet
section
variable {X : Cx} {c : Addr} {io : Bool} {W : WX} {e : Expr} {m : M RV} {x : Str} {pos npos : Pos}
theorem gm_subQ {i : Nat} {k : Nat} (hr : Room k X.A) (hv : PE X (.Name x npos) (tVar i)) (hi : PM X c WF e m)
    (ha : ∀ v, assign (.Subscript (.Name x npos) e pos) X.env v = (do
      let ov ← holding [v] (eval (.Name x npos) X.env)
      let iv ← holding [v, ov] (eval e X.env)
      standAt pos
      holding [v, ov, iv] (setItem ov iv v)
      release [v, ov, iv] []) := by intro _; rfl) : GM X c io [] (.Subscript (.Name x npos) e pos) (gSubQ i m) :=
  PG.imp (gm_sub hr hv hi ha) fun v σ H Q ⟨F, ρ, As, r, B, S, R, w⟩ => ⟨F, ρ, As, r, B, S, R, wpR_noEx w⟩
theorem quiet_all0 : ∀ g ∈ ([] : List (RV → M Unit)), Quiet g := fun _ h => nomatch h
theorem quiet_all1 {g : RV → M Unit} {gs : List (RV → M Unit)} (q : Quiet g) (r : ∀ g ∈ gs, Quiet g) : ∀ h ∈ g :: gs, Quiet h := fun h hh => by
  rcases List.mem_cons.mp hh with rfl | hh
  · exact q
  · exact r h hh
end
end Mi

set_option Elab.async false
set_option linter.all false
set_option autoImplicit false
set_option maxRecDepth 100000
set_option maxHeartbeats 4000000
namespace Mi
open PySem PySem.Spec PyProof.Rows L2
theorem pe_v {X : Cx} (i : Nat) {x : Str} {pos : Pos} (hN : X.N[i]? = some x := by rfl) (hv : Vis X.env.scope x := by first | exact Or.inl rfl | exact Or.inr (Or.inl rfl) | exact Or.inr (Or.inr rfl)) (hd : (x == ("__debug__" : Str)) = false := by decide)
    (hcd : (x == ("__classdict__" : Str)) = false := by decide) : PE X (.Name x pos) (tVar i) := pe_var hN hv hd hcd
/-- the context of a def's body -/
abbrev bx (P : Program) (w : World) (K : PySem.W.Frag) (mg : Str → Option Value) (base : Heap) (N : List Str) (x : Str) (st : Stmt) (f : Addr) (cdv : Value) (A : Around) (outer : List PySem.Env) (s : Shared) (H : Hp) (E : XK) : Cx :=
  cxOf (L2.CX P w) P w K mg base N x (defScope st) f cdv A outer s H E
abbrev wE (E : XK) : WX := fun cls d _ H => E cls d H
theorem has_def {P : Program} {w : World} {K : PySem.W.Frag} {mg : Str → Option Value} {base : Heap} {x : Str} {st : Stmt} {k n j : Nat} {N ps : List Str} {io : Bool} {m : M Ctl} (T : IsDef K mg x st) (sc : FnScope N ps (defScope st)) (hn : N.length = n + j) (hp : ps.length = n) (hio : io = true → 0 < n)
    (hb : ∀ f fd, FunD K x x (defArgs st) (defBody st) (defScope st) [] [] f fd → Binds K fd ps [])
    (h : ∀ (f : Addr) (cdv : Value) (A : Around) (outer : List PySem.Env) (s : Shared) (H : Hp) (E : XK), Room k (bx P w K mg base N x st f cdv A outer s H E).A → N.Nodup → Takes (bx P w K mg base N x st f cdv A outer s H E) (wE E) →
      PassesOwn (model P w) (bx P w K mg base N x st f cdv A outer s H E).A (bx P w K mg base N x st f cdv A outer s H E).env (bx P w K mg base N x st f cdv A outer s H E).xe →
      SMs (bx P w K mg base N x st f cdv A outer s H E) 0 io (wE E) (defBody st) m) :
    Has P w K mg base x (k + 1) n ps io (mkFn io j m) :=
  has_of T sc hn hp hio hb fun f cdv A outer s H E hr => h f cdv A outer s H E hr sc.nd (takes_of rfl rfl rfl rfl) (passes_of rfl)
theorem nm_own {X : Cx} {T : Str} (h : ∃ D, X.mg T = some (.ref D)) (hg : Gl X T := by rfl) (hdb : (T == ("__debug__" : Str)) = false := by decide) : ∃ cv, Names X T cv := by
  obtain ⟨D, h⟩ := h
  exact ⟨_, hg, hdb, .inl h⟩
theorem nm_ty {X : Cx} {T : Str} {t : String} (h : X.mg T = none) (hb : bootBuiltins T = some (.type t) := by decide +kernel) (hn : T ≠ "__name__" := by decide) (hg : Gl X T := by rfl) (hdb : (T == ("__debug__" : Str)) = false := by decide) : ∃ cv, Names X T cv :=
  ⟨_, hg, hdb, .inr ⟨h, hb, hn⟩⟩
section
variable {X : Cx} {W : WX} {a : Addr} {oe : Obj} {pn : List (Addr × Obj)} {isa : IsaT} {x : Ex} {C : Addr} {T : Str} {i : Nat} {n : Str} {p p1 p2 pos : Pos} {cls : Value} {d : Option Addr}
theorem pm_isEo (FI : IsaFs X.K X.mg isa) (hz : Zc cls d oe) (hf : ∃ vs, oe.data = .fields vs) (hcls : cls = .ref C) (gC : X.mg x.cls = some (.ref C)) (hd : x.pl = none → d = none) (hm : X.mg "isinstance" = none) (h : ∃ D, X.mg T = some (.ref D))
    (hN : X.N[i]? = some n := by rfl) (hvi : Vis X.env.scope n := by first | exact Or.inl rfl | exact Or.inr (Or.inl rfl) | exact Or.inr (Or.inr rfl)) (hd1 : (n == ("__debug__" : Str)) = false := by decide) (hcd : (n == ("__classdict__" : Str)) = false := by decide)
    (hdb : (T == ("__debug__" : Str)) = false := by decide) (hgT : Gl X T := by rfl) (hg : Gl X "isinstance" := by rfl)
    (he : starEach [.Name n p1, .Name T p2] X.env = (false, eval (.Name n p1) X.env) :: starEach [.Name T p2] X.env := by rfl) (he2 : starEach [.Name T p2] X.env = (false, eval (.Name T p2) X.env) :: starEach [] X.env := by rfl) (hpl : (backTo pos (starEach [.Name T p2] X.env)).any (·.1) = false := by rfl) :
    PM (X.suite a ((a, oe) :: pn)) a W (.Call (.Name "isinstance" p) [.Name n p1, .Name T p2] [] pos) (mIsE isa i x T) :=
  pm_isE FI hz hf hcls gC hd hm (pe_var (X := X.suite a ((a, oe) :: pn)) hN hvi hd1 hcd) (isE_own (X := X.suite a ((a, oe) :: pn)) h hdb hgT) hg he he2 hpl
theorem pm_isEt (t : String) (FI : IsaFs X.K X.mg isa) (hz : Zc cls d oe) (hf : ∃ vs, oe.data = .fields vs) (hcls : cls = .ref C) (gC : X.mg x.cls = some (.ref C)) (hd : x.pl = none → d = none) (hm : X.mg "isinstance" = none) (h : X.mg T = none)
    (hN : X.N[i]? = some n := by rfl) (hvi : Vis X.env.scope n := by first | exact Or.inl rfl | exact Or.inr (Or.inl rfl) | exact Or.inr (Or.inr rfl)) (hd1 : (n == ("__debug__" : Str)) = false := by decide) (hcd : (n == ("__classdict__" : Str)) = false := by decide)
    (hb : bootBuiltins T = some (.type t) := by decide +kernel) (hn : T ≠ "__name__" := by decide)
    (hdb : (T == ("__debug__" : Str)) = false := by decide) (hgT : Gl X T := by rfl) (hg : Gl X "isinstance" := by rfl)
    (he : starEach [.Name n p1, .Name T p2] X.env = (false, eval (.Name n p1) X.env) :: starEach [.Name T p2] X.env := by rfl) (he2 : starEach [.Name T p2] X.env = (false, eval (.Name T p2) X.env) :: starEach [] X.env := by rfl) (hpl : (backTo pos (starEach [.Name T p2] X.env)).any (·.1) = false := by rfl) :
    PM (X.suite a ((a, oe) :: pn)) a W (.Call (.Name "isinstance" p) [.Name n p1, .Name T p2] [] pos) (mIsE isa i x T) :=
  pm_isE FI hz hf hcls gC hd hm (pe_var (X := X.suite a ((a, oe) :: pn)) hN hvi hd1 hcd) (isE_ty (X := X.suite a ((a, oe) :: pn)) h hb hn hdb hgT) hg he he2 hpl
end
end Mi

set_option Elab.async false
set_option linter.all false
set_option autoImplicit false
set_option maxRecDepth 100000
set_option maxHeartbeats 4000000
namespace L67
open PySem PySem.Spec PyProof.Rows L2 Mi
def top (i : Nat) : Stmt := PySem.Challenge.pw_treesapartways_k67_whole_edits_of_webs.main.body.getD i (.Pass ⟨0, 0, 0, 0⟩)
def isaL : List (Str × Str × Bool) := [("NoEdit", "NoEdit", true), ("NoEdit", "TreeError", true), ("NoEdit", "ValueError", true), ("NoLot", "NoEdit", false), ("NoLot", "TreeError", true), ("NoLot", "ValueError", true), ("NoWeb", "NoEdit", false), ("NoWeb", "TreeError", true), ("NoWeb", "ValueError", true)]
def isa : IsaT := fun c T => (isaL.find? fun p => decide (p.1 = c ∧ p.2.1 = T)).map fun p => p.2.2
def kd_SIZES : List (Str × Option Int) := [("tie", some 3), ("untie", some 2), ("place", some 1), ("fast", some 2), ("turn", some 2), ("glue", none)]
/-! ### mirrors -/
abbrev N_is_int : List Str := ["thing"]
def m_is_int : M Ctl := mRet (mAndV (mFn1 (isiO "int") (mVar 0)) (mNotV (mFn1 (isiO "bool") (mVar 0))))
def f_is_int : Fn := mkFn false 0 m_is_int
abbrev N_is_within : List Str := ["thing", "low", "high"]
def m_is_within : M Ctl := mRet (mAndV (mCall 1 f_is_int (mCons (mVar 0) (mNil))) (mChain leB leB (mVar 1) (mVar 0) (mVar 2)))
def f_is_within : Fn := mkFn false 0 m_is_within
abbrev N_is_sized : List Str := ["thing", "least", "most"]
def m_is_sized : M Ctl := mRet (mAndV (mFn1 (isiO "tuple") (mVar 0)) (mChain leB leB (mVar 1) (mFn1 lenA (mVar 0)) (mVar 2)))
def f_is_sized : Fn := mkFn false 0 m_is_sized
abbrev N_is_rising : List Str := ["some", "one", "other"]
def m_is_rising : M Ctl := mRet (mFn1 allD (mComp [1, 2] (mZip (mVar 0) (mSl (mVar 0) (mPart (mC (.int 1))) (mNo))) (gTp [gNm false 1, gNm false 2]) (mYes) (mBin ltD (mVar 1) (mVar 2))))
def f_is_rising : Fn := mkFn false 2 m_is_rising
abbrev N_is_lot : List Str := ["thing", "many", "one"]
def m_is_lot : M Ctl := mSeq (mIfS (mOr (mNot (mTst (mFn1 (isiO "tuple") (mVar 0)))) (mNot (mTst (mFn1 allD (mComp [2] (mIter (mVar 0)) (gNm false 2) (mYes) (mCall 3 f_is_within (mCons (mVar 2) (mCons (mC (.int 0)) (mCons (mBin subD (mVar 1) (mC (.int 1))) (mNil)))))))))) (mRet (mC (.bl false))) (mSkip)) (mRet (mCall 1 f_is_rising (mCons (mVar 0) (mNil))))
def f_is_lot : Fn := mkFn false 1 m_is_lot
abbrev N_is_pair_of : List Str := ["many", "thing"]
def m_is_pair_of : M Ctl := mSeq (mIfS (mOr (mNot (mTst (mCall 3 f_is_sized (mCons (mVar 1) (mCons (mC (.int 2)) (mCons (mC (.int 2)) (mNil))))))) (mOr (mNot (mTst (mCall 3 f_is_within (mCons (mBin ixD (mVar 1) (mC (.int 0))) (mCons (mC (.int 0)) (mCons (mBin subD (mVar 0) (mC (.int 1))) (mNil))))))) (mNot (mTst (mCall 3 f_is_within (mCons (mBin ixD (mVar 1) (mC (.int 1))) (mCons (mC (.int 0)) (mCons (mBin subD (mVar 0) (mC (.int 1))) (mNil))))))))) (mRet (mC (.bl false))) (mSkip)) (mRet (mBin ltD (mBin ixD (mVar 1) (mC (.int 0))) (mBin ixD (mVar 1) (mC (.int 1)))))
def f_is_pair_of : Fn := mkFn false 0 m_is_pair_of
abbrev N_is_web : List Str := ["thing", "one"]
def m_is_web : M Ctl := mSeq (mIfS (mOr (mNot (mTst (mCall 3 f_is_sized (mCons (mVar 0) (mCons (mC (.int 2)) (mCons (mC (.int 2)) (mNil))))))) (mOr (mNot (mTst (mCall 3 f_is_within (mCons (mBin ixD (mVar 0) (mC (.int 0))) (mCons (mC (.int 1)) (mCons (mC (.int 12)) (mNil))))))) (mNot (mTst (mCall 3 f_is_sized (mCons (mBin ixD (mVar 0) (mC (.int 1))) (mCons (mC (.int 0)) (mCons (mC (.int 40)) (mNil))))))))) (mRet (mC (.bl false))) (mSkip)) (mRet (mFn1 allD (mComp [1] (mIter (mBin ixD (mVar 0) (mC (.int 1)))) (gNm false 1) (mYes) (mCall 2 f_is_pair_of (mCons (mBin ixD (mVar 0) (mC (.int 0))) (mCons (mVar 1) (mNil)))))))
def f_is_web : Fn := mkFn false 1 m_is_web
abbrev N_check_web : List Str := ["web"]
def m_check_web : M Ctl := mIfS (mNot (mTst (mCall 1 f_is_web (mCons (mVar 0) (mNil))))) (mRaise "NoWeb") (mSkip)
def f_check_web : Fn := mkFn false 0 m_check_web
abbrev N_raw_is_lot : List Str := ["web", "thing"]
def m_raw_is_lot : M Ctl := mRet (mCall 2 f_is_lot (mCons (mVar 1) (mCons (mFn1 lenA (mBin ixD (mVar 0) (mC (.int 1)))) (mNil))))
def f_raw_is_lot : Fn := mkFn false 0 m_raw_is_lot
abbrev N_check_lot : List Str := ["web", "lot"]
def m_check_lot : M Ctl := mSeq (mExpr (mCall 1 f_check_web (mCons (mVar 0) (mNil)))) (mIfS (mNot (mTst (mCall 2 f_raw_is_lot (mCons (mVar 0) (mCons (mVar 1) (mNil)))))) (mRaise "NoLot") (mSkip))
def f_check_lot : Fn := mkFn false 0 m_check_lot
abbrev N_raw_heads : List Str := ["web", "lot", "heads", "tie", "one", "other", "head"]
def m_raw_heads : M Ctl := mSeq (mAsg (mRg1 (mBin ixD (mVar 0) (mC (.int 0))) .lst) (gNm false 2)) (mSeq (mFor (mIter (mVar 1)) (gNm false 3) (mSeq (mAsg (mTup (mCons (mBin ixD (mVar 2) (mBin ixD (mBin ixD (mBin ixD (mVar 0) (mC (.int 1))) (mVar 3)) (mC (.int 0)))) (mCons (mBin ixD (mVar 2) (mBin ixD (mBin ixD (mBin ixD (mVar 0) (mC (.int 1))) (mVar 3)) (mC (.int 1)))) (mNil)))) (gTp [gNm false 4, gNm false 5])) (mIfS (mTst (mBin neD (mVar 4) (mVar 5))) (mAsg (mComp [6] (mIter (mVar 2)) (gNm false 6) (mYes) (mIf (mTst (mBin (inD false) (mVar 6) (mTup (mCons (mVar 4) (mCons (mVar 5) (mNil)))))) (mBin min2D (mVar 4) (mVar 5)) (mVar 6))) (gNm false 2)) (mSkip)))) (mRet (mVar 2)))
def f_raw_heads : Fn := mkFn false 5 m_raw_heads
abbrev N_raw_parts : List Str := ["web", "lot", "heads", "head", "place"]
def m_raw_parts : M Ctl := mSeq (mAsg (mCall 2 f_raw_heads (mCons (mVar 0) (mCons (mVar 1) (mNil)))) (gNm false 2)) (mRet (mFn1 tupD (mComp [3] (mIter (mFn1 sortA (mFn1 setD (mVar 2)))) (gNm false 3) (mYes) (mFn1 tupD (mComp [4] (mRange1 (mBin ixD (mVar 0) (mC (.int 0)))) (gNm false 4) (mTst (mBin eqD (mBin ixD (mVar 2) (mVar 4)) (mVar 3))) (mVar 4))))))
def f_raw_parts : Fn := mkFn false 3 m_raw_parts
abbrev N_parts_by : List Str := ["web", "lot"]
def m_parts_by : M Ctl := mSeq (mExpr (mCall 2 f_check_lot (mCons (mVar 0) (mCons (mVar 1) (mNil))))) (mRet (mCall 2 f_raw_parts (mCons (mVar 0) (mCons (mVar 1) (mNil)))))
def f_parts_by : Fn := mkFn false 0 m_parts_by
abbrev N_raw_without : List Str := ["web", "lot", "kept", "tie"]
def m_raw_without : M Ctl := mSeq (mAsg (mFn1 tupD (mComp [3] (mRange1 (mFn1 lenA (mBin ixD (mVar 0) (mC (.int 1))))) (gNm false 3) (mTst (mBin (inD true) (mVar 3) (mVar 1))) (mVar 3))) (gNm false 2)) (mRet (mTup (mCons (mTup (mCons (mBin ixD (mVar 0) (mC (.int 0))) (mCons (mFn1 tupD (mComp [3] (mIter (mVar 2)) (gNm false 3) (mYes) (mBin ixD (mBin ixD (mVar 0) (mC (.int 1))) (mVar 3)))) (mNil)))) (mCons (mVar 2) (mNil)))))
def f_raw_without : Fn := mkFn false 2 m_raw_without
abbrev N_without : List Str := ["web", "lot"]
def m_without : M Ctl := mSeq (mExpr (mCall 2 f_check_lot (mCons (mVar 0) (mCons (mVar 1) (mNil))))) (mRet (mCall 2 f_raw_without (mCons (mVar 0) (mCons (mVar 1) (mNil)))))
def f_without : Fn := mkFn false 0 m_without
abbrev N_raw_fast : List Str := ["web", "lot", "heads", "order", "places", "kept", "ties", "tie", "head"]
def m_raw_fast : M Ctl := mSeq (mAsg (mCall 2 f_raw_heads (mCons (mVar 0) (mCons (mVar 1) (mNil)))) (gNm false 2)) (mSeq (mAsg (mFn1 sortA (mFn1 setD (mVar 2))) (gNm false 3)) (mSeq (mAsg (mFn1 tupD (mComp [8] (mIter (mVar 2)) (gNm false 8) (mYes) (mMeth (mVar 3) (mCons (mVar 8) (mNil)) indexG))) (gNm false 4)) (mSeq (mAsg (mComp [7] (mRange1 (mFn1 lenA (mBin ixD (mVar 0) (mC (.int 1))))) (gNm false 7) (mAnd (mTst (mBin (inD true) (mVar 7) (mVar 1))) (mTst (mBin neD (mBin ixD (mVar 4) (mBin ixD (mBin ixD (mBin ixD (mVar 0) (mC (.int 1))) (mVar 7)) (mC (.int 0)))) (mBin ixD (mVar 4) (mBin ixD (mBin ixD (mBin ixD (mVar 0) (mC (.int 1))) (mVar 7)) (mC (.int 1))))))) (mVar 7)) (gNm false 5)) (mSeq (mAsg (mComp [7] (mIter (mVar 5)) (gNm false 7) (mYes) (mFn1 tupD (mFn1 sortA (mLst (mCons (mBin ixD (mVar 4) (mBin ixD (mBin ixD (mBin ixD (mVar 0) (mC (.int 1))) (mVar 7)) (mC (.int 0)))) (mCons (mBin ixD (mVar 4) (mBin ixD (mBin ixD (mBin ixD (mVar 0) (mC (.int 1))) (mVar 7)) (mC (.int 1)))) (mNil))))))) (gNm false 6)) (mRet (mTup (mCons (mTup (mCons (mFn1 lenA (mVar 3)) (mCons (mFn1 tupD (mVar 6)) (mNil)))) (mCons (mVar 4) (mCons (mFn1 tupD (mVar 5)) (mNil))))))))))
def f_raw_fast : Fn := mkFn false 7 m_raw_fast
abbrev N_fast : List Str := ["web", "lot"]
def m_fast : M Ctl := mSeq (mExpr (mCall 2 f_check_lot (mCons (mVar 0) (mCons (mVar 1) (mNil))))) (mRet (mCall 2 f_raw_fast (mCons (mVar 0) (mCons (mVar 1) (mNil)))))
def f_fast : Fn := mkFn false 0 m_fast
abbrev N_is_edit : List Str := ["thing", "one"]
def m_is_edit : M Ctl := mSeq (mIfS (mOr (mNot (mTst (mFn1 (isiO "tuple") (mVar 0)))) (mOr (mTst (mBin eqD (mFn1 lenA (mVar 0)) (mC (.int 0)))) (mOr (mNot (mTst (mFn1 (isiO "str") (mBin ixD (mVar 0) (mC (.int 0)))))) (mTst (mKdIn true kd_SIZES (mBin ixD (mVar 0) (mC (.int 0)))))))) (mRet (mC (.bl false))) (mSkip)) (mRet (mAndV (mBin eqD (mFn1 lenA (mVar 0)) (mKd kd_SIZES (mBin ixD (mVar 0) (mC (.int 0))))) (mOrV (mBin eqD (mBin ixD (mVar 0) (mC (.int 0))) (mC (.str "turn"))) (mFn1 allD (mComp [1] (mIter (mSl (mVar 0) (mPart (mC (.int 1))) (mNo))) (gNm false 1) (mYes) (mCall 1 f_is_int (mCons (mVar 1) (mNil))))))))
def f_is_edit : Fn := mkFn false 1 m_is_edit
abbrev N_is_order : List Str := ["web", "thing", "one"]
def m_is_order : M Ctl := mSeq (mIfS (mOr (mNot (mTst (mCall 3 f_is_sized (mCons (mVar 1) (mCons (mBin ixD (mVar 0) (mC (.int 0))) (mCons (mBin ixD (mVar 0) (mC (.int 0))) (mNil))))))) (mNot (mTst (mFn1 allD (mComp [2] (mIter (mVar 1)) (gNm false 2) (mYes) (mCall 1 f_is_int (mCons (mVar 2) (mNil)))))))) (mRet (mC (.bl false))) (mSkip)) (mRet (mBin eqD (mFn1 sortA (mVar 1)) (mRg1 (mBin ixD (mVar 0) (mC (.int 0))) .lst)))
def f_is_order : Fn := mkFn false 1 m_is_order
abbrev N_raw_turned_web : List Str := ["web", "order", "places", "at", "place", "i", "j"]
def m_raw_turned_web : M Ctl := mSeq (mAsg (mDComp [3, 4] (mEnum (mVar 1)) (gTp [gNm false 3, gNm false 4]) (mYes) (mVar 4) (mVar 3)) (gNm false 2)) (mRet (mTup (mCons (mBin ixD (mVar 0) (mC (.int 0))) (mCons (mFn1 tupD (mComp [5, 6] (mIter (mBin ixD (mVar 0) (mC (.int 1)))) (gTp [gNm false 5, gNm false 6]) (mYes) (mFn1 tupD (mFn1 sortA (mLst (mCons (mBin ixK (mVar 2) (mVar 5)) (mCons (mBin ixK (mVar 2) (mVar 6)) (mNil)))))))) (mNil)))))
def f_raw_turned_web : Fn := mkFn false 5 m_raw_turned_web
abbrev N_raw_edited : List Str := ["web", "edit", "word", "found"]
def m_raw_edited : M Ctl := mSeq (mIfS (mNot (mTst (mCall 1 f_is_edit (mCons (mVar 1) (mNil))))) (mRet (mC .non)) (mSkip)) (mSeq (mAsg (mBin ixD (mVar 1) (mC (.int 0))) (gNm false 2)) (mSeq (mIfS (mTst (mBin eqD (mVar 2) (mC (.str "tie")))) (mAsg (mTup (mCons (mBin ixD (mVar 0) (mC (.int 0))) (mCons (mBin addD (mBin ixD (mVar 0) (mC (.int 1))) (mTup (mCons (mSl (mVar 1) (mPart (mC (.int 1))) (mNo)) (mNil)))) (mNil)))) (gNm false 3)) (mIfS (mTst (mBin eqD (mVar 2) (mC (.str "place")))) (mAsg (mTup (mCons (mBin addD (mBin ixD (mVar 0) (mC (.int 0))) (mC (.int 1))) (mCons (mBin ixD (mVar 0) (mC (.int 1))) (mNil)))) (gNm false 3)) (mIfS (mTst (mBin eqD (mVar 2) (mC (.str "turn")))) (mAsg (mIf (mTst (mCall 2 f_is_order (mCons (mVar 0) (mCons (mBin ixD (mVar 1) (mC (.int 1))) (mNil))))) (mCall 2 f_raw_turned_web (mCons (mVar 0) (mCons (mBin ixD (mVar 1) (mC (.int 1))) (mNil)))) (mC .non)) (gNm false 3)) (mIfS (mNot (mTst (mChain leB ltB (mC (.int 0)) (mBin ixD (mVar 1) (mC (.int 1))) (mFn1 lenA (mBin ixD (mVar 0) (mC (.int 1))))))) (mRet (mC .non)) (mAsg (mIf (mTst (mBin eqD (mVar 2) (mC (.str "untie")))) (mBin ixD (mCall 2 f_raw_without (mCons (mVar 0) (mCons (mTup (mCons (mBin ixD (mVar 1) (mC (.int 1))) (mNil))) (mNil)))) (mC (.int 0))) (mBin ixD (mCall 2 f_raw_fast (mCons (mVar 0) (mCons (mTup (mCons (mBin ixD (mVar 1) (mC (.int 1))) (mNil))) (mNil)))) (mC (.int 0)))) (gNm false 3)))))) (mRet (mIf (mTst (mCall 1 f_is_web (mCons (mVar 3) (mNil)))) (mVar 3) (mC .non)))))
def f_raw_edited : Fn := mkFn false 2 m_raw_edited
abbrev N_edited : List Str := ["web", "edit", "found"]
def m_edited : M Ctl := mSeq (mExpr (mCall 1 f_check_web (mCons (mVar 0) (mNil)))) (mSeq (mAsg (mCall 2 f_raw_edited (mCons (mVar 0) (mCons (mVar 1) (mNil)))) (gNm false 2)) (mSeq (mIfS (mTst (mBin (isD false) (mVar 2) (mC .non))) (mRaise "NoEdit") (mSkip)) (mRet (mVar 2))))
def f_edited : Fn := mkFn false 1 m_edited
abbrev N_replayed : List Str := ["web", "edits", "number", "edit", "later"]
def m_replayed : M Ctl := mSeq (mExpr (mCall 1 f_check_web (mCons (mVar 0) (mNil)))) (mSeq (mIfS (mNot (mTst (mFn1 (isiO "tuple") (mVar 1)))) (mRet (mTup (mCons (mC (.str "stops")) (mCons (mC (.int 0)) (mNil))))) (mSkip)) (mSeq (mFor (mEnum (mVar 1)) (gTp [gNm false 2, gNm false 3]) (mSeq (mAsg (mCall 2 f_raw_edited (mCons (mVar 0) (mCons (mVar 3) (mNil)))) (gNm false 4)) (mSeq (mIfS (mTst (mBin (isD false) (mVar 4) (mC .non))) (mRet (mTup (mCons (mC (.str "stops")) (mCons (mVar 2) (mNil))))) (mSkip)) (mAsg (mVar 4) (gNm false 0))))) (mRet (mTup (mCons (mC (.str "web")) (mCons (mVar 0) (mNil)))))))
def f_replayed : Fn := mkFn false 3 m_replayed
abbrev N__law_cell : List Str := ["script", "place"]
def m__law_cell : M Ctl := mSeq (mIfS (mTst (mBin ltD (mVar 1) (mFn1 lenA (mVar 0)))) (mRet (mBin ixD (mVar 0) (mVar 1))) (mSkip)) (mRet (mC (.int 0)))
def f__law_cell : Fn := mkFn false 0 m__law_cell
abbrev N__law_draw : List Str := ["script", "place", "turn", "many", "cell", "number", "step"]
def m__law_draw : M Ctl := mSeq (mAsg (mCall 2 f__law_cell (mCons (mVar 0) (mCons (mVar 1) (mNil)))) (gNm false 4)) (mSeq (mIfS (mTst (mBin geD (mVar 4) (mBin powD (mC (.int 10)) (mC (.int 18))))) (mSeq (mFor (mRange1 (mVar 2)) (gNm false 6) (mAsg (mBin fdivD (mVar 4) (mC (.int 1009))) (gNm false 4))) (mRet (mBin modD (mFn1 intOf (mVar 4)) (mVar 3)))) (mSkip)) (mSeq (mAsg (mBin modD (mFn1 intOf (mBin addD (mBin addD (mBin addD (mBin mulD (mVar 4) (mC (.int 48271))) (mBin mulD (mVar 1) (mC (.int 7919)))) (mBin mulD (mVar 2) (mC (.int 69621)))) (mC (.int 11)))) (mC (.int 2147483647))) (gNm false 5)) (mSeq (mAsg (mBin modD (mFn1 intOf (mBin addD (mBin powD (mVar 5) (mC (.int 5))) (mBin mulD (mVar 2) (mC (.int 16811))))) (mC (.int 2147483629))) (gNm false 5)) (mSeq (mAsg (mBin modD (mFn1 intOf (mBin mulD (mVar 5) (mBin addD (mBin addD (mBin fdivD (mVar 5) (mC (.int 1009))) (mC (.int 69621))) (mBin mulD (mC (.int 31)) (mVar 2))))) (mC (.int 2147483587))) (gNm false 5)) (mRet (mBin modD (mFn1 intOf (mBin fdivD (mVar 5) (mC (.int 16)))) (mVar 3)))))))
def f__law_draw : Fn := mkFn false 3 m__law_draw
abbrev N__law_web : List Str := ["script", "place", "turn", "most", "high", "many", "ties", "k", "i", "j"]
def m__law_web : M Ctl := mSeq (mAsg (mBin addD (mC (.int 1)) (mCall 4 f__law_draw (mCons (mVar 0) (mCons (mVar 1) (mCons (mVar 2) (mCons (mVar 3) (mNil))))))) (gNm false 5)) (mSeq (mAsg (mLst (mNil)) (gNm false 6)) (mSeq (mFor (mRange1 (mBin mulD (mCall 4 f__law_draw (mCons (mVar 0) (mCons (mVar 1) (mCons (mBin addD (mVar 2) (mC (.int 1))) (mCons (mBin addD (mVar 4) (mC (.int 1))) (mNil)))))) (mFn1 intOf (mBin gtD (mVar 5) (mC (.int 1)))))) (gNm false 7) (mSeq (mAsg (mCall 4 f__law_draw (mCons (mVar 0) (mCons (mVar 1) (mCons (mBin addD (mBin addD (mVar 2) (mC (.int 2))) (mBin mulD (mC (.int 2)) (mVar 7))) (mCons (mVar 5) (mNil)))))) (gNm false 8)) (mSeq (mAsg (mCall 4 f__law_draw (mCons (mVar 0) (mCons (mVar 1) (mCons (mBin addD (mBin addD (mVar 2) (mC (.int 3))) (mBin mulD (mC (.int 2)) (mVar 7))) (mCons (mBin max2D (mC (.int 1)) (mBin subD (mVar 5) (mC (.int 1)))) (mNil)))))) (gNm false 9)) (mSeq (mIfS (mTst (mBin geD (mVar 9) (mVar 8))) (mAsg (mBin addD (mVar 9) (mC (.int 1))) (gNm false 9)) (mSkip)) (mExpr (mMut 6 (mCons (mTup (mCons (mBin min2D (mVar 8) (mVar 9)) (mCons (mBin max2D (mVar 8) (mVar 9)) (mNil)))) (mNil)) appendG)))))) (mRet (mTup (mCons (mVar 5) (mCons (mFn1 tupD (mVar 6)) (mNil)))))))
def f__law_web : Fn := mkFn false 5 m__law_web
abbrev N__law_whole : List Str := ["thing"]
def m__law_whole : M Ctl := mRet (mAndV (mFn1 (isiO "int") (mVar 0)) (mNotV (mFn1 (isiO "bool") (mVar 0))))
def f__law_whole : Fn := mkFn false 0 m__law_whole
abbrev N__law_is_web : List Str := ["found", "due", "tie"]
def m__law_is_web : M Ctl := mSeq (mIfS (mOr (mNot (mTst (mFn1 (isiO "tuple") (mVar 0)))) (mOr (mTst (mBin neD (mFn1 lenA (mVar 0)) (mC (.int 2)))) (mOr (mNot (mTst (mCall 1 f__law_whole (mCons (mBin ixD (mVar 0) (mC (.int 0))) (mNil))))) (mNot (mTst (mFn1 (isiO "tuple") (mBin ixD (mVar 0) (mC (.int 1))))))))) (mRet (mC (.bl false))) (mSkip)) (mSeq (mFor (mIter (mBin ixD (mVar 0) (mC (.int 1)))) (gNm false 2) (mIfS (mOr (mNot (mTst (mFn1 (isiO "tuple") (mVar 2)))) (mOr (mTst (mBin neD (mFn1 lenA (mVar 2)) (mC (.int 2)))) (mOr (mNot (mTst (mCall 1 f__law_whole (mCons (mBin ixD (mVar 2) (mC (.int 0))) (mNil))))) (mNot (mTst (mCall 1 f__law_whole (mCons (mBin ixD (mVar 2) (mC (.int 1))) (mNil)))))))) (mRet (mC (.bl false))) (mSkip))) (mRet (mBin eqD (mVar 0) (mVar 1))))
def f__law_is_web : Fn := mkFn false 1 m__law_is_web
abbrev N__law_fast : List Str := ["web", "t", "names", "left", "many", "ties", "low", "high", "place", "i", "j", "pair"]
def m__law_fast : M Ctl := mSeq (mAsg (mVar 0) (gTp [gNm false 4, gNm false 5])) (mSeq (mAsg (mBin ixD (mVar 5) (mVar 1)) (gTp [gNm false 6, gNm false 7])) (mSeq (mAsg (mComp [8] (mRange1 (mVar 4)) (gNm false 8) (mYes) (mBin subD (mVar 8) (mFn1 intOf (mBin gtD (mVar 8) (mVar 7))))) (gNm false 2)) (mSeq (mAsg (mVar 6) (gSubQ 2 (mVar 7))) (mSeq (mAsg (mComp [9, 10] (mIter (mVar 5)) (gTp [gNm false 9, gNm false 10]) (mTst (mBin neD (mBin ixD (mVar 2) (mVar 9)) (mBin ixD (mVar 2) (mVar 10)))) (mTup (mCons (mBin ixD (mVar 2) (mVar 9)) (mCons (mBin ixD (mVar 2) (mVar 10)) (mNil))))) (gNm false 3)) (mRet (mTup (mCons (mBin subD (mVar 4) (mC (.int 1))) (mCons (mFn1 tupD (mComp [11] (mIter (mVar 3)) (gNm false 11) (mYes) (mTup (mCons (mFn1 (bestO false) (mVar 11)) (mCons (mFn1 (bestO true) (mVar 11)) (mNil)))))) (mNil)))))))))
def f__law_fast : Fn := mkFn false 10 m__law_fast
abbrev N__law_called : List Str := ["order", "found", "i"]
def m__law_called : M Ctl := mSeq (mAsg (mBin mulD (mLst (mCons (mC (.int 0)) (mNil))) (mFn1 lenA (mVar 0))) (gNm false 1)) (mSeq (mFor (mRange1 (mFn1 lenA (mVar 0))) (gNm false 2) (mAsg (mVar 2) (gSubQ 1 (mBin ixD (mVar 0) (mVar 2))))) (mRet (mVar 1)))
def f__law_called : Fn := mkFn false 2 m__law_called
abbrev N__law_turned : List Str := ["web", "order", "names", "left", "many", "ties", "i", "j", "pair"]
def m__law_turned : M Ctl := mSeq (mAsg (mVar 0) (gTp [gNm false 4, gNm false 5])) (mSeq (mAsg (mCall 1 f__law_called (mCons (mVar 1) (mNil))) (gNm false 2)) (mSeq (mAsg (mComp [6, 7] (mIter (mVar 5)) (gTp [gNm false 6, gNm false 7]) (mYes) (mTup (mCons (mBin ixD (mVar 2) (mVar 6)) (mCons (mBin ixD (mVar 2) (mVar 7)) (mNil))))) (gNm false 3)) (mRet (mTup (mCons (mVar 4) (mCons (mFn1 tupD (mComp [8] (mIter (mVar 3)) (gNm false 8) (mYes) (mTup (mCons (mFn1 (bestO false) (mVar 8)) (mCons (mFn1 (bestO true) (mVar 8)) (mNil)))))) (mNil)))))))
def f__law_turned : Fn := mkFn false 7 m__law_turned
abbrev N__law_edited : List Str := ["web", "edit", "many", "ties"]
def m__law_edited : M Ctl := mSeq (mAsg (mVar 0) (gTp [gNm false 2, gNm false 3])) (mSeq (mIfS (mTst (mBin eqD (mBin ixD (mVar 1) (mC (.int 0))) (mC (.str "tie")))) (mRet (mTup (mCons (mVar 2) (mCons (mBin addD (mVar 3) (mTup (mCons (mTup (mCons (mBin ixD (mVar 1) (mC (.int 1))) (mCons (mBin ixD (mVar 1) (mC (.int 2))) (mNil)))) (mNil)))) (mNil))))) (mSkip)) (mSeq (mIfS (mTst (mBin eqD (mBin ixD (mVar 1) (mC (.int 0))) (mC (.str "untie")))) (mRet (mTup (mCons (mVar 2) (mCons (mBin addD (mSl (mVar 3) (mNo) (mPart (mBin ixD (mVar 1) (mC (.int 1))))) (mSl (mVar 3) (mPart (mBin addD (mBin ixD (mVar 1) (mC (.int 1))) (mC (.int 1)))) (mNo))) (mNil))))) (mSkip)) (mSeq (mIfS (mTst (mBin eqD (mBin ixD (mVar 1) (mC (.int 0))) (mC (.str "place")))) (mRet (mTup (mCons (mBin addD (mVar 2) (mC (.int 1))) (mCons (mVar 3) (mNil))))) (mSkip)) (mSeq (mIfS (mTst (mBin eqD (mBin ixD (mVar 1) (mC (.int 0))) (mC (.str "fast")))) (mRet (mCall 2 f__law_fast (mCons (mVar 0) (mCons (mBin ixD (mVar 1) (mC (.int 1))) (mNil))))) (mSkip)) (mRet (mCall 2 f__law_turned (mCons (mVar 0) (mCons (mBin ixD (mVar 1) (mC (.int 1))) (mNil)))))))))
def f__law_edited : Fn := mkFn false 2 m__law_edited
abbrev N__law_order : List Str := ["script", "place", "turn", "many", "left", "found", "k"]
def m__law_order : M Ctl := mSeq (mAsg (mRg1 (mVar 3) .lst) (gNm false 4)) (mSeq (mAsg (mLst (mNil)) (gNm false 5)) (mSeq (mFor (mRange1 (mVar 3)) (gNm false 6) (mExpr (mMut 5 (mCons (mMut 4 (mCons (mCall 4 f__law_draw (mCons (mVar 0) (mCons (mVar 1) (mCons (mBin addD (mVar 2) (mVar 6)) (mCons (mFn1 lenA (mVar 4)) (mNil)))))) (mNil)) popAtG) (mNil)) appendG))) (mRet (mFn1 tupD (mVar 5)))))
def f__law_order : Fn := mkFn false 3 m__law_order
abbrev N__law_edit : List Str := ["script", "place", "web", "way", "many", "ties", "i", "j"]
def m__law_edit : M Ctl := mSeq (mAsg (mVar 2) (gTp [gNm false 4, gNm false 5])) (mSeq (mAsg (mCall 4 f__law_draw (mCons (mVar 0) (mCons (mVar 1) (mCons (mC (.int 0)) (mCons (mC (.int 8)) (mNil)))))) (gNm false 3)) (mSeq (mIfS (mAnd (mTst (mBin ltD (mVar 3) (mC (.int 3)))) (mAnd (mTst (mBin gtD (mVar 4) (mC (.int 1)))) (mTst (mBin ltD (mFn1 lenA (mVar 5)) (mC (.int 40)))))) (mSeq (mAsg (mCall 4 f__law_draw (mCons (mVar 0) (mCons (mVar 1) (mCons (mC (.int 1)) (mCons (mVar 4) (mNil)))))) (gNm false 6)) (mSeq (mAsg (mCall 4 f__law_draw (mCons (mVar 0) (mCons (mVar 1) (mCons (mC (.int 2)) (mCons (mBin subD (mVar 4) (mC (.int 1))) (mNil)))))) (gNm false 7)) (mSeq (mIfS (mTst (mBin geD (mVar 7) (mVar 6))) (mAsg (mBin addD (mVar 7) (mC (.int 1))) (gNm false 7)) (mSkip)) (mRet (mTup (mCons (mC (.str "tie")) (mCons (mBin min2D (mVar 6) (mVar 7)) (mCons (mBin max2D (mVar 6) (mVar 7)) (mNil))))))))) (mSkip)) (mSeq (mIfS (mAnd (mTst (mBin ltD (mVar 3) (mC (.int 5)))) (mTst (mBin neD (mVar 5) (mTup (mNil))))) (mRet (mTup (mCons (mBin ixD (mLst (mCons (mC (.str "untie")) (mCons (mC (.str "fast")) (mNil)))) (mCall 4 f__law_draw (mCons (mVar 0) (mCons (mVar 1) (mCons (mC (.int 1)) (mCons (mC (.int 2)) (mNil))))))) (mCons (mCall 4 f__law_draw (mCons (mVar 0) (mCons (mVar 1) (mCons (mC (.int 2)) (mCons (mFn1 lenA (mVar 5)) (mNil)))))) (mNil))))) (mSkip)) (mSeq (mIfS (mOr (mTst (mBin ltD (mVar 3) (mC (.int 7)))) (mTst (mBin eqD (mVar 4) (mC (.int 12))))) (mRet (mTup (mCons (mC (.str "turn")) (mCons (mCall 4 f__law_order (mCons (mVar 0) (mCons (mVar 1) (mCons (mC (.int 3)) (mCons (mVar 4) (mNil)))))) (mNil))))) (mSkip)) (mRet (mTup (mCons (mC (.str "place")) (mNil))))))))
def f__law_edit : Fn := mkFn false 5 m__law_edit
abbrev N__law_no_edit : List Str := ["script", "place", "web", "odd", "many", "ties"]
def m__law_no_edit : M Ctl := mSeq (mAsg (mVar 2) (gTp [gNm false 4, gNm false 5])) (mSeq (mAsg (mLst (mCons (mC .non) (mCons (mC (.str "place")) (mCons (mTup (mNil)) (mCons (mLst (mCons (mC (.str "place")) (mNil))) (mCons (mTup (mCons (mC (.str "place")) (mCons (mC (.int 1)) (mNil)))) (mCons (mTup (mCons (mC (.str "glue")) (mCons (mC (.int 0)) (mCons (mC (.int 1)) (mNil))))) (mCons (mTup (mCons (mC (.str "tie")) (mCons (mC (.int 0)) (mCons (mVar 4) (mNil))))) (mCons (mTup (mCons (mC (.str "tie")) (mCons (mFn1 negO (mC (.int 1))) (mCons (mC (.int 0)) (mNil))))) (mNil)))))))))) (gNm false 3)) (mSeq (mExpr (mMut 3 (mCons (mTup (mCons (mC (.str "tie")) (mCons (mC (.int 0)) (mCons (mC (.int 0)) (mNil))))) (mNil)) appendG)) (mSeq (mAsg (mBin addD (mVar 3) (mLst (mCons (mTup (mCons (mC (.str "untie")) (mCons (mFn1 lenA (mVar 5)) (mNil)))) (mCons (mTup (mCons (mC (.str "untie")) (mCons (mFn1 negO (mC (.int 1))) (mNil)))) (mCons (mTup (mCons (mC (.str "untie")) (mCons (mC .non) (mNil)))) (mCons (mTup (mCons (mC (.str "fast")) (mCons (mFn1 lenA (mVar 5)) (mNil)))) (mCons (mTup (mCons (mC (.str "fast")) (mNil))) (mCons (mTup (mCons (mC (.str "tie")) (mCons (mC (.int 0)) (mNil)))) (mNil))))))))) (gNm false 3)) (mSeq (mAsg (mBin addD (mVar 3) (mLst (mCons (mTup (mCons (mC (.str "turn")) (mCons (mRg1 (mVar 4) .lst) (mNil)))) (mCons (mTup (mCons (mC (.str "turn")) (mCons (mRg1 (mBin addD (mVar 4) (mC (.int 1))) (fun ds => .val (.tup ds))) (mNil)))) (mCons (mTup (mCons (mC (.str "turn")) (mCons (mFn1 tupD (mBin mulD (mLst (mCons (mC (.int 0)) (mNil))) (mBin addD (mVar 4) (mC (.int 1))))) (mNil)))) (mNil)))))) (gNm false 3)) (mSeq (mAsg (mBin addD (mVar 3) (mLst (mCons (mTup (mCons (mC (.str "turn")) (mCons (mTup (mNil)) (mNil)))) (mCons (mTup (mCons (mC (.str "tie")) (mCons (mC (.bl false)) (mCons (mC (.bl true)) (mNil))))) (mCons (mTup (mCons (mC (.str "untie")) (mCons (mC (.bl false)) (mNil)))) (mCons (mTup (mCons (mC (.str "turn")) (mCons (mC (.int 0)) (mNil)))) (mCons (mTup (mCons (mC (.int 0)) (mCons (mC (.int 1)) (mNil)))) (mNil)))))))) (gNm false 3)) (mSeq (mIfS (mTst (mBin eqD (mVar 4) (mC (.int 12)))) (mAsg (mBin addD (mVar 3) (mLst (mCons (mTup (mCons (mC (.str "place")) (mNil))) (mCons (mTup (mCons (mC (.str "place")) (mNil))) (mCons (mTup (mCons (mC (.str "place")) (mNil))) (mNil)))))) (gNm false 3)) (mSkip)) (mSeq (mIfS (mTst (mBin eqD (mFn1 lenA (mVar 5)) (mC (.int 40)))) (mAsg (mBin addD (mVar 3) (mLst (mCons (mTup (mCons (mC (.str "tie")) (mCons (mC (.int 0)) (mCons (mC (.int 1)) (mNil))))) (mCons (mTup (mCons (mC (.str "tie")) (mCons (mC (.int 0)) (mCons (mC (.int 1)) (mNil))))) (mCons (mTup (mCons (mC (.str "tie")) (mCons (mC (.int 0)) (mCons (mC (.int 1)) (mNil))))) (mNil)))))) (gNm false 3)) (mSkip)) (mRet (mBin ixD (mVar 3) (mCall 4 f__law_draw (mCons (mVar 0) (mCons (mVar 1) (mCons (mC (.int 20)) (mCons (mFn1 lenA (mVar 3)) (mNil)))))))))))))))
def f__law_no_edit : Fn := mkFn false 3 m__law_no_edit
abbrev N__law_refused : List Str := ["web", "edit", "told", "e"]
def m__law_refused : M Ctl := mSeq (mAsg (mC (.str "")) (gNm false 2)) (mSeq (mTry isa (some 3) "TreeError" (mExpr (mCall 2 f_edited (mCons (mVar 0) (mCons (mVar 1) (mNil))))) (fun x => mSeq (mAsg (mC (.str "other")) (gNm false 2)) (mIfS (mAnd (mTst (mIsE isa 3 x "NoEdit")) (mTst (mIsE isa 3 x "ValueError"))) (mAsg (mC (.str "edit")) (gNm false 2)) (mSkip)))) (mRet (mBin eqD (mVar 2) (mC (.str "edit")))))
def f__law_refused : Fn := mkFn false 2 m__law_refused
abbrev N__law_begin : List Str := ["script", "way", "many", "ties"]
def m__law_begin : M Ctl := mSeq (mAsg (mCall 5 f__law_web (mCons (mVar 0) (mCons (mC (.int 0)) (mCons (mC (.int 4)) (mCons (mC (.int 8)) (mCons (mC (.int 9)) (mNil))))))) (gTp [gNm false 2, gNm false 3])) (mSeq (mAsg (mCall 4 f__law_draw (mCons (mVar 0) (mCons (mC (.int 0)) (mCons (mC (.int 0)) (mCons (mC (.int 4)) (mNil)))))) (gNm false 1)) (mSeq (mIfS (mTst (mBin eqD (mVar 1) (mC (.int 0)))) (mAsg (mC (.int 12)) (gNm false 2)) (mSkip)) (mSeq (mIfS (mAnd (mTst (mBin eqD (mVar 1) (mC (.int 1)))) (mTst (mBin gtD (mVar 2) (mC (.int 1))))) (mAsg (mFn1 tupD (mSl (mBin addD (mFn1 listD (mVar 3)) (mBin mulD (mLst (mCons (mTup (mCons (mC (.int 0)) (mCons (mC (.int 1)) (mNil)))) (mCons (mTup (mCons (mC (.int 0)) (mCons (mBin subD (mVar 2) (mC (.int 1))) (mNil)))) (mNil)))) (mC (.int 40)))) (mNo) (mPart (mC (.int 40))))) (gNm false 3)) (mSkip)) (mRet (mTup (mCons (mVar 2) (mCons (mVar 3) (mNil))))))))
def f__law_begin : Fn := mkFn false 3 m__law_begin
abbrev N__law_parts_turned : List Str := ["web", "order", "whole", "names", "due", "part", "place"]
def m__law_parts_turned : M Ctl := mSeq (mAsg (mRg1 (mFn1 lenA (mBin ixD (mVar 0) (mC (.int 1)))) (fun ds => .val (.tup ds))) (gNm false 2)) (mSeq (mAsg (mCall 1 f__law_called (mCons (mVar 1) (mNil))) (gNm false 3)) (mSeq (mAsg (mComp [5] (mIter (mCall 2 f_parts_by (mCons (mVar 0) (mCons (mVar 2) (mNil))))) (gNm false 5) (mYes) (mFn1 tupD (mFn1 sortA (mComp [6] (mIter (mVar 5)) (gNm false 6) (mYes) (mBin ixD (mVar 3) (mVar 6)))))) (gNm false 4)) (mRet (mBin eqD (mCall 2 f_parts_by (mCons (mCall 2 f_edited (mCons (mVar 0) (mCons (mTup (mCons (mC (.str "turn")) (mCons (mVar 1) (mNil)))) (mNil)))) (mCons (mVar 2) (mNil)))) (mFn1 tupD (mFn1 sortA (mVar 4)))))))
def f__law_parts_turned : Fn := mkFn false 5 m__law_parts_turned
abbrev N__law_done : List Str := ["web", "edit", "after"]
def m__law_done : M Ctl := mSeq (mIfS (mOr (mNot (mTst (mCall 2 f__law_is_web (mCons (mCall 2 f_edited (mCons (mVar 0) (mCons (mVar 1) (mNil)))) (mCons (mVar 2) (mNil)))))) (mTst (mBin (isD true) (mCall 1 f_is_web (mCons (mVar 2) (mNil))) (mC (.bl true))))) (mRet (mC (.bl false))) (mSkip)) (mSeq (mIfS (mTst (mBin eqD (mBin ixD (mVar 1) (mC (.int 0))) (mC (.str "untie")))) (mRet (mCall 2 f__law_is_web (mCons (mBin ixD (mCall 2 f_without (mCons (mVar 0) (mCons (mTup (mCons (mBin ixD (mVar 1) (mC (.int 1))) (mNil))) (mNil)))) (mC (.int 0))) (mCons (mVar 2) (mNil))))) (mSkip)) (mSeq (mIfS (mTst (mBin eqD (mBin ixD (mVar 1) (mC (.int 0))) (mC (.str "fast")))) (mRet (mCall 2 f__law_is_web (mCons (mBin ixD (mCall 2 f_fast (mCons (mVar 0) (mCons (mTup (mCons (mBin ixD (mVar 1) (mC (.int 1))) (mNil))) (mNil)))) (mC (.int 0))) (mCons (mVar 2) (mNil))))) (mSkip)) (mRet (mOrV (mBin neD (mBin ixD (mVar 1) (mC (.int 0))) (mC (.str "turn"))) (mCall 2 f__law_parts_turned (mCons (mVar 0) (mCons (mBin ixD (mVar 1) (mC (.int 1))) (mNil))))))))
def f__law_done : Fn := mkFn false 0 m__law_done
abbrev N_law : List Str := ["script", "start", "web", "edits", "place", "told", "wrong", "edit", "after"]
def m_law : M Ctl := mSeq (mAsg (mCall 1 f__law_begin (mCons (mVar 0) (mNil))) (gNm false 1)) (mSeq (mAsg (mVar 1) (gNm false 2)) (mSeq (mAsg (mLst (mNil)) (gNm false 3)) (mSeq (mFor (mRange2 (mC (.int 1)) (mBin max2D (mC (.int 6)) (mBin min2D (mFn1 lenA (mVar 0)) (mC (.int 31))))) (gNm false 4) (mSeq (mAsg (mCall 3 f__law_no_edit (mCons (mVar 0) (mCons (mVar 4) (mCons (mVar 2) (mNil))))) (gNm false 6)) (mSeq (mIfS (mNot (mTst (mCall 2 f__law_refused (mCons (mVar 2) (mCons (mVar 6) (mNil)))))) (mRet (mC (.bl false))) (mSkip)) (mSeq (mAsg (mCall 2 f_replayed (mCons (mVar 1) (mCons (mBin addD (mFn1 tupD (mVar 3)) (mTup (mCons (mVar 6) (mCons (mTup (mCons (mC (.str "place")) (mNil))) (mNil))))) (mNil)))) (gNm false 5)) (mSeq (mIfS (mOr (mTst (mBin neD (mVar 5) (mTup (mCons (mC (.str "stops")) (mCons (mFn1 lenA (mVar 3)) (mNil)))))) (mNot (mTst (mCall 1 f__law_whole (mCons (mBin ixD (mVar 5) (mC (.int 1))) (mNil)))))) (mRet (mC (.bl false))) (mSkip)) (mSeq (mAsg (mCall 3 f__law_edit (mCons (mVar 0) (mCons (mVar 4) (mCons (mVar 2) (mNil))))) (gNm false 7)) (mSeq (mAsg (mCall 2 f__law_edited (mCons (mVar 2) (mCons (mVar 7) (mNil)))) (gNm false 8)) (mSeq (mIfS (mNot (mTst (mCall 3 f__law_done (mCons (mVar 2) (mCons (mVar 7) (mCons (mVar 8) (mNil))))))) (mRet (mC (.bl false))) (mSkip)) (mSeq (mExpr (mMut 3 (mCons (mVar 7) (mNil)) appendG)) (mAsg (mVar 8) (gNm false 2))))))))))) (mSeq (mAsg (mCall 2 f_replayed (mCons (mVar 1) (mCons (mFn1 tupD (mVar 3)) (mNil)))) (gNm false 5)) (mSeq (mIfS (mOr (mNot (mTst (mFn1 (isiO "tuple") (mVar 5)))) (mOr (mTst (mBin neD (mFn1 lenA (mVar 5)) (mC (.int 2)))) (mOr (mTst (mBin neD (mBin ixD (mVar 5) (mC (.int 0))) (mC (.str "web")))) (mNot (mTst (mCall 2 f__law_is_web (mCons (mBin ixD (mVar 5) (mC (.int 1))) (mCons (mVar 2) (mNil))))))))) (mRet (mC (.bl false))) (mSkip)) (mRet (mAndV (mBin eqD (mCall 2 f_replayed (mCons (mVar 1) (mCons (mFn1 listD (mVar 3)) (mNil)))) (mTup (mCons (mC (.str "stops")) (mCons (mC (.int 0)) (mNil))))) (mBin eqD (mCall 2 f_replayed (mCons (mVar 1) (mCons (mC .non) (mNil)))) (mTup (mCons (mC (.str "stops")) (mCons (mC (.int 0)) (mNil))))))))))))
def f_law : Fn := mkFn false 8 m_law
/-! ### facts -/
structure Fx (P : Program) (w : World) (K : PySem.W.Frag) (mg : Str → Option Value) : Prop where
  exc_NoEdit : ExcFs K mg "NoEdit"
  exc_NoLot : ExcFs K mg "NoLot"
  exc_NoWeb : ExcFs K mg "NoWeb"
  free_ValueError : mg "ValueError" = none
  free_all : mg "all" = none
  free_bool : mg "bool" = none
  free_enumerate : mg "enumerate" = none
  free_int : mg "int" = none
  free_isinstance : mg "isinstance" = none
  free_len : mg "len" = none
  free_list : mg "list" = none
  free_max : mg "max" = none
  free_min : mg "min" = none
  free_range : mg "range" = none
  free_set : mg "set" = none
  free_sorted : mg "sorted" = none
  free_str : mg "str" = none
  free_tuple : mg "tuple" = none
  free_zip : mg "zip" = none
  glo_NoEdit : ∃ D, mg "NoEdit" = some (.ref D)
  glo_TreeError : ∃ D, mg "TreeError" = some (.ref D)
  int_MOST_PLACES : ∃ t, mg "MOST_PLACES" = some (.int 12 t)
  int_MOST_TIES : ∃ t, mg "MOST_TIES" = some (.int 40 t)
  isa_ : IsaFs K mg isa
  kd_SIZES : KdFs K mg w "SIZES" kd_SIZES
  def_is_int : IsDef K mg "is_int" (top 6)
  def_is_within : IsDef K mg "is_within" (top 7)
  def_is_sized : IsDef K mg "is_sized" (top 8)
  def_is_rising : IsDef K mg "is_rising" (top 9)
  def_is_lot : IsDef K mg "is_lot" (top 10)
  def_is_pair_of : IsDef K mg "is_pair_of" (top 14)
  def_is_web : IsDef K mg "is_web" (top 15)
  def_check_web : IsDef K mg "check_web" (top 16)
  def_raw_is_lot : IsDef K mg "raw_is_lot" (top 17)
  def_check_lot : IsDef K mg "check_lot" (top 18)
  def_raw_heads : IsDef K mg "raw_heads" (top 19)
  def_raw_parts : IsDef K mg "raw_parts" (top 20)
  def_parts_by : IsDef K mg "parts_by" (top 21)
  def_raw_without : IsDef K mg "raw_without" (top 22)
  def_without : IsDef K mg "without" (top 23)
  def_raw_fast : IsDef K mg "raw_fast" (top 24)
  def_fast : IsDef K mg "fast" (top 25)
  def_is_edit : IsDef K mg "is_edit" (top 28)
  def_is_order : IsDef K mg "is_order" (top 29)
  def_raw_turned_web : IsDef K mg "raw_turned_web" (top 30)
  def_raw_edited : IsDef K mg "raw_edited" (top 31)
  def_edited : IsDef K mg "edited" (top 32)
  def_replayed : IsDef K mg "replayed" (top 33)
  def__law_cell : IsDef K mg "_law_cell" (top 35)
  def__law_draw : IsDef K mg "_law_draw" (top 36)
  def__law_web : IsDef K mg "_law_web" (top 37)
  def__law_whole : IsDef K mg "_law_whole" (top 38)
  def__law_is_web : IsDef K mg "_law_is_web" (top 39)
  def__law_fast : IsDef K mg "_law_fast" (top 40)
  def__law_called : IsDef K mg "_law_called" (top 41)
  def__law_turned : IsDef K mg "_law_turned" (top 42)
  def__law_edited : IsDef K mg "_law_edited" (top 43)
  def__law_order : IsDef K mg "_law_order" (top 44)
  def__law_edit : IsDef K mg "_law_edit" (top 45)
  def__law_no_edit : IsDef K mg "_law_no_edit" (top 46)
  def__law_refused : IsDef K mg "_law_refused" (top 47)
  def__law_begin : IsDef K mg "_law_begin" (top 48)
  def__law_parts_turned : IsDef K mg "_law_parts_turned" (top 49)
  def__law_done : IsDef K mg "_law_done" (top 50)
  def_law : IsDef K mg "law" (top 51)
section
variable {P : Program} {w : World} {K : PySem.W.Frag} {mg : Str → Option Value} {base : Heap}
theorem has_is_int (T : Fx P w K mg) : Has P w K mg base "is_int" 1 1 ["thing"] false f_is_int :=
  has_def (N := N_is_int) T.def_is_int ⟨rfl, rfl, rfl, by decide +kernel, rfl, by decide +kernel, by decide +kernel⟩ rfl rfl (fun h => by cases h) (fun _ _ F => F.bindsN fun _ _ _ _ _ _ us hl => match us, hl with | [_], _ => rfl) fun f cdv A outer s H E hr nd tk hp =>
    sms_one (sm_ret (pm_andV (pm_isi "int" T.free_isinstance (pm_var 0) (pe_ty T.free_int)) (pm_one (pm_notV (pm_isi "bool" T.free_isinstance (pm_var 0) (pe_ty T.free_bool))))))
theorem has_is_within (T : Fx P w K mg) : Has P w K mg base "is_within" 2 3 ["thing", "low", "high"] false f_is_within :=
  has_def (N := N_is_within) T.def_is_within ⟨rfl, rfl, rfl, by decide +kernel, rfl, by decide +kernel, by decide +kernel⟩ rfl rfl (fun h => by cases h) (fun _ _ F => F.bindsN fun _ _ _ _ _ _ us hl => match us, hl with | [_, _, _], _ => rfl) fun f cdv A outer s H E hr nd tk hp =>
    sms_one (sm_ret (pm_andV (pm_callH (has_is_int T) hr tk (am_cons (pm_var 0) (am_nil))) (pm_one (pm_chain op_le op_le (pm_var 1) (pm_var 0) (pm_var 2)))))
theorem has_is_sized (T : Fx P w K mg) : Has P w K mg base "is_sized" 1 3 ["thing", "least", "most"] false f_is_sized :=
  has_def (N := N_is_sized) T.def_is_sized ⟨rfl, rfl, rfl, by decide +kernel, rfl, by decide +kernel, by decide +kernel⟩ rfl rfl (fun h => by cases h) (fun _ _ F => F.bindsN fun _ _ _ _ _ _ us hl => match us, hl with | [_, _, _], _ => rfl) fun f cdv A outer s H E hr nd tk hp =>
    sms_one (sm_ret (pm_andV (pm_isi "tuple" T.free_isinstance (pm_var 0) (pe_ty T.free_tuple)) (pm_one (pm_chain op_le op_le (pm_var 1) (pm_lenA T.free_len (pm_var 0)) (pm_var 2)))))
theorem has_is_rising (T : Fx P w K mg) : Has P w K mg base "is_rising" 1 1 ["some"] false f_is_rising :=
  has_def (N := N_is_rising) T.def_is_rising ⟨rfl, rfl, rfl, by decide +kernel, rfl, by decide +kernel, by decide +kernel⟩ rfl rfl (fun h => by cases h) (fun _ _ F => F.bindsN fun _ _ _ _ _ _ us hl => match us, hl with | [_], _ => rfl) fun f cdv A outer s H E hr nd tk hp =>
    sms_one (sm_ret (pm_all rfl T.free_all (pm_comp (own := [("one", 1), ("other", 2)]) rfl nd (blkOk_by (by kernel_rfl)) (im_zip T.free_zip (pm_var 0) (pm_slice (pm_var 0) (om_some (pm_int)) (om_none))) (quiet_tp (quiet_all1 (quiet_nm) (quiet_all1 (quiet_nm) (quiet_all0)))) (fun _ _ _ _ _ => gm_tup rfl (gms_cons (gm_name nd) (gms_cons (gm_name nd) (gms_nil)))) (fun _ _ _ _ _ => tms_nil) (fun _ _ _ _ _ => pm_lt (pm_var 1) (pm_var 2)))))
theorem has_is_lot (T : Fx P w K mg) : Has P w K mg base "is_lot" 3 2 ["thing", "many"] false f_is_lot :=
  has_def (N := N_is_lot) T.def_is_lot ⟨rfl, rfl, rfl, by decide +kernel, rfl, by decide +kernel, by decide +kernel⟩ rfl rfl (fun h => by cases h) (fun _ _ F => F.bindsN fun _ _ _ _ _ _ us hl => match us, hl with | [_, _], _ => rfl) fun f cdv A outer s H E hr nd tk hp =>
    sms_cons (sm_if (tm_of (wm_or (tm_not (tm_val (pm_isi "tuple" T.free_isinstance (pm_var 0) (pe_ty T.free_tuple)))) (wm_or1 (tm_not (tm_val (pm_all rfl T.free_all (pm_comp (own := [("one", 2)]) rfl nd (blkOk_by (by kernel_rfl)) (im_any (pm_var 0)) (quiet_nm) (fun _ _ _ _ _ => gm_name nd) (fun _ _ _ _ _ => tms_nil) (fun _ _ _ _ _ => pm_callH (has_is_within T) hr takes0 (am_cons (pm_var 2) (am_cons (pm_int) (am_cons (pm_sub (pm_var 1) (pm_int)) (am_nil)))))))))))) (sms_one (sm_ret (pm_bl))) (sms_nil)) (sms_one (sm_ret (pm_callH (has_is_rising T) hr tk (am_cons (pm_var 0) (am_nil)))))
theorem has_is_pair_of (T : Fx P w K mg) : Has P w K mg base "is_pair_of" 3 2 ["many", "thing"] false f_is_pair_of :=
  has_def (N := N_is_pair_of) T.def_is_pair_of ⟨rfl, rfl, rfl, by decide +kernel, rfl, by decide +kernel, by decide +kernel⟩ rfl rfl (fun h => by cases h) (fun _ _ F => F.bindsN fun _ _ _ _ _ _ us hl => match us, hl with | [_, _], _ => rfl) fun f cdv A outer s H E hr nd tk hp =>
    sms_cons (sm_if (tm_of (wm_or (tm_not (tm_val (pm_callH (has_is_sized T) hr tk (am_cons (pm_var 1) (am_cons (pm_int) (am_cons (pm_int) (am_nil))))))) (wm_or (tm_not (tm_val (pm_callH (has_is_within T) hr tk (am_cons (pm_idx (pm_var 1) (pm_int)) (am_cons (pm_int) (am_cons (pm_sub (pm_var 0) (pm_int)) (am_nil))))))) (wm_or1 (tm_not (tm_val (pm_callH (has_is_within T) hr tk (am_cons (pm_idx (pm_var 1) (pm_int)) (am_cons (pm_int) (am_cons (pm_sub (pm_var 0) (pm_int)) (am_nil))))))))))) (sms_one (sm_ret (pm_bl))) (sms_nil)) (sms_one (sm_ret (pm_lt (pm_idx (pm_var 1) (pm_int)) (pm_idx (pm_var 1) (pm_int)))))
theorem has_is_web (T : Fx P w K mg) : Has P w K mg base "is_web" 4 1 ["thing"] false f_is_web :=
  has_def (N := N_is_web) T.def_is_web ⟨rfl, rfl, rfl, by decide +kernel, rfl, by decide +kernel, by decide +kernel⟩ rfl rfl (fun h => by cases h) (fun _ _ F => F.bindsN fun _ _ _ _ _ _ us hl => match us, hl with | [_], _ => rfl) fun f cdv A outer s H E hr nd tk hp =>
    sms_cons (sm_if (tm_of (wm_or (tm_not (tm_val (pm_callH (has_is_sized T) hr tk (am_cons (pm_var 0) (am_cons (pm_int) (am_cons (pm_int) (am_nil))))))) (wm_or (tm_not (tm_val (pm_callH (has_is_within T) hr tk (am_cons (pm_idx (pm_var 0) (pm_int)) (am_cons (pm_int) (am_cons (pm_gint rfl T.int_MOST_PLACES) (am_nil))))))) (wm_or1 (tm_not (tm_val (pm_callH (has_is_sized T) hr tk (am_cons (pm_idx (pm_var 0) (pm_int)) (am_cons (pm_int) (am_cons (pm_gint rfl T.int_MOST_TIES) (am_nil))))))))))) (sms_one (sm_ret (pm_bl))) (sms_nil)) (sms_one (sm_ret (pm_all rfl T.free_all (pm_comp (own := [("one", 1)]) rfl nd (blkOk_by (by kernel_rfl)) (im_any (pm_idx (pm_var 0) (pm_int))) (quiet_nm) (fun _ _ _ _ _ => gm_name nd) (fun _ _ _ _ _ => tms_nil) (fun _ _ _ _ _ => pm_callH (has_is_pair_of T) hr takes0 (am_cons (pm_idx (pm_var 0) (pm_int)) (am_cons (pm_var 1) (am_nil))))))))
theorem has_check_web (T : Fx P w K mg) : Has P w K mg base "check_web" 5 1 ["web"] false f_check_web :=
  has_def (N := N_check_web) T.def_check_web ⟨rfl, rfl, rfl, by decide +kernel, rfl, by decide +kernel, by decide +kernel⟩ rfl rfl (fun h => by cases h) (fun _ _ F => F.bindsN fun _ _ _ _ _ _ us hl => match us, hl with | [_], _ => rfl) fun f cdv A outer s H E hr nd tk hp =>
    sms_one (sm_if (tm_not (tm_val (pm_callH (has_is_web T) hr tk (am_cons (pm_var 0) (am_nil))))) (sms_one (sm_raise rfl tk T.exc_NoWeb)) (sms_nil))
theorem has_raw_is_lot (T : Fx P w K mg) : Has P w K mg base "raw_is_lot" 4 2 ["web", "thing"] false f_raw_is_lot :=
  has_def (N := N_raw_is_lot) T.def_raw_is_lot ⟨rfl, rfl, rfl, by decide +kernel, rfl, by decide +kernel, by decide +kernel⟩ rfl rfl (fun h => by cases h) (fun _ _ F => F.bindsN fun _ _ _ _ _ _ us hl => match us, hl with | [_, _], _ => rfl) fun f cdv A outer s H E hr nd tk hp =>
    sms_one (sm_ret (pm_callH (has_is_lot T) hr tk (am_cons (pm_var 1) (am_cons (pm_lenA T.free_len (pm_idx (pm_var 0) (pm_int))) (am_nil)))))
theorem has_check_lot (T : Fx P w K mg) : Has P w K mg base "check_lot" 6 2 ["web", "lot"] false f_check_lot :=
  has_def (N := N_check_lot) T.def_check_lot ⟨rfl, rfl, rfl, by decide +kernel, rfl, by decide +kernel, by decide +kernel⟩ rfl rfl (fun h => by cases h) (fun _ _ F => F.bindsN fun _ _ _ _ _ _ us hl => match us, hl with | [_, _], _ => rfl) fun f cdv A outer s H E hr nd tk hp =>
    sms_cons (sm_expr (pm_callH (has_check_web T) hr tk (am_cons (pm_var 0) (am_nil)))) (sms_one (sm_if (tm_not (tm_val (pm_callH (has_raw_is_lot T) hr tk (am_cons (pm_var 0) (am_cons (pm_var 1) (am_nil)))))) (sms_one (sm_raise rfl tk T.exc_NoLot)) (sms_nil)))
theorem has_raw_heads (T : Fx P w K mg) : Has P w K mg base "raw_heads" 1 2 ["web", "lot"] false f_raw_heads :=
  has_def (N := N_raw_heads) T.def_raw_heads ⟨rfl, rfl, rfl, by decide +kernel, rfl, by decide +kernel, by decide +kernel⟩ rfl rfl (fun h => by cases h) (fun _ _ F => F.bindsN fun _ _ _ _ _ _ us hl => match us, hl with | [_, _], _ => rfl) fun f cdv A outer s H E hr nd tk hp =>
    sms_cons (sm_set nd (pm_listRg1 rfl T.free_list T.free_range (pm_idx (pm_var 0) (pm_int)))) (sms_cons (sm_for hp rfl (im_any (pm_var 1)) (gm_name nd) (quiet_nm) (sms_cons (sm_asg (pm_tup (am_cons (pm_idx (pm_var 2) (pm_idx (pm_idx (pm_idx (pm_var 0) (pm_int)) (pm_var 3)) (pm_int))) (am_cons (pm_idx (pm_var 2) (pm_idx (pm_idx (pm_idx (pm_var 0) (pm_int)) (pm_var 3)) (pm_int))) (am_nil)))) (gm_tup rfl (gms_cons (gm_name nd) (gms_cons (gm_name nd) (gms_nil)))) (quiet_tp (quiet_all1 (quiet_nm) (quiet_all1 (quiet_nm) (quiet_all0))))) (sms_one (sm_if (tm_ne hr (pm_var 4) (pm_var 5)) (sms_one (sm_setLc (own := [("head", 6)]) rfl nd (blkOk_by (by kernel_rfl)) (im_any (pm_var 2)) (quiet_nm) (fun _ _ _ _ _ => gm_name nd) (fun _ _ _ _ _ => tms_nil) (fun _ _ _ _ _ => pm_ifExp (tm_in hr (pm_var 6) (pm_tup (am_cons (pm_var 4) (am_cons (pm_var 5) (am_nil))))) (pm_min2 rfl T.free_min (pm_var 4) (pm_var 5)) (pm_var 6)))) (sms_nil))))) (sms_one (sm_ret (pm_var 2))))
theorem has_raw_parts (T : Fx P w K mg) : Has P w K mg base "raw_parts" 2 2 ["web", "lot"] false f_raw_parts :=
  has_def (N := N_raw_parts) T.def_raw_parts ⟨rfl, rfl, rfl, by decide +kernel, rfl, by decide +kernel, by decide +kernel⟩ rfl rfl (fun h => by cases h) (fun _ _ F => F.bindsN fun _ _ _ _ _ _ us hl => match us, hl with | [_, _], _ => rfl) fun f cdv A outer s H E hr nd tk hp =>
    sms_cons (sm_set nd (pm_callH (has_raw_heads T) hr tk (am_cons (pm_var 0) (am_cons (pm_var 1) (am_nil))))) (sms_one (sm_ret (pm_tuple T.free_tuple (pm_comp (own := [("head", 3)]) rfl nd (blkOk_by (by kernel_rfl)) (im_any (pm_sorted hr rfl T.free_sorted (pm_set rfl T.free_set (pm_var 2)))) (quiet_nm) (fun _ _ _ _ _ => gm_name nd) (fun _ _ _ _ _ => tms_nil) (fun _ _ _ _ _ => pm_tuple T.free_tuple (pm_comp (own := [("place", 4)]) rfl nd (blkOk_by (by kernel_rfl)) (im_range1 T.free_range (pm_idx (pm_var 0) (pm_int))) (quiet_nm) (fun _ _ _ _ _ => gm_name nd) (fun _ _ _ _ _ => tms_one (tm_eq hr (pm_idx (pm_var 2) (pm_var 4)) (pm_var 3))) (fun _ _ _ _ _ => pm_var 4)))))))
theorem has_parts_by (T : Fx P w K mg) : Has P w K mg base "parts_by" 7 2 ["web", "lot"] false f_parts_by :=
  has_def (N := N_parts_by) T.def_parts_by ⟨rfl, rfl, rfl, by decide +kernel, rfl, by decide +kernel, by decide +kernel⟩ rfl rfl (fun h => by cases h) (fun _ _ F => F.bindsN fun _ _ _ _ _ _ us hl => match us, hl with | [_, _], _ => rfl) fun f cdv A outer s H E hr nd tk hp =>
    sms_cons (sm_expr (pm_callH (has_check_lot T) hr tk (am_cons (pm_var 0) (am_cons (pm_var 1) (am_nil))))) (sms_one (sm_ret (pm_callH (has_raw_parts T) hr tk (am_cons (pm_var 0) (am_cons (pm_var 1) (am_nil))))))
theorem has_raw_without (T : Fx P w K mg) : Has P w K mg base "raw_without" 1 2 ["web", "lot"] false f_raw_without :=
  has_def (N := N_raw_without) T.def_raw_without ⟨rfl, rfl, rfl, by decide +kernel, rfl, by decide +kernel, by decide +kernel⟩ rfl rfl (fun h => by cases h) (fun _ _ F => F.bindsN fun _ _ _ _ _ _ us hl => match us, hl with | [_, _], _ => rfl) fun f cdv A outer s H E hr nd tk hp =>
    sms_cons (sm_set nd (pm_tuple T.free_tuple (pm_comp (own := [("tie", 3)]) rfl nd (blkOk_by (by kernel_rfl)) (im_range1 T.free_range (pm_lenA T.free_len (pm_idx (pm_var 0) (pm_int)))) (quiet_nm) (fun _ _ _ _ _ => gm_name nd) (fun _ _ _ _ _ => tms_one (tm_notIn hr (pm_var 3) (pm_var 1))) (fun _ _ _ _ _ => pm_var 3)))) (sms_one (sm_ret (pm_tup (am_cons (pm_tup (am_cons (pm_idx (pm_var 0) (pm_int)) (am_cons (pm_tuple T.free_tuple (pm_comp (own := [("tie", 3)]) rfl nd (blkOk_by (by kernel_rfl)) (im_any (pm_var 2)) (quiet_nm) (fun _ _ _ _ _ => gm_name nd) (fun _ _ _ _ _ => tms_nil) (fun _ _ _ _ _ => pm_idx (pm_idx (pm_var 0) (pm_int)) (pm_var 3)))) (am_nil)))) (am_cons (pm_var 2) (am_nil))))))
theorem has_without (T : Fx P w K mg) : Has P w K mg base "without" 7 2 ["web", "lot"] false f_without :=
  has_def (N := N_without) T.def_without ⟨rfl, rfl, rfl, by decide +kernel, rfl, by decide +kernel, by decide +kernel⟩ rfl rfl (fun h => by cases h) (fun _ _ F => F.bindsN fun _ _ _ _ _ _ us hl => match us, hl with | [_, _], _ => rfl) fun f cdv A outer s H E hr nd tk hp =>
    sms_cons (sm_expr (pm_callH (has_check_lot T) hr tk (am_cons (pm_var 0) (am_cons (pm_var 1) (am_nil))))) (sms_one (sm_ret (pm_callH (has_raw_without T) hr tk (am_cons (pm_var 0) (am_cons (pm_var 1) (am_nil))))))
theorem has_raw_fast (T : Fx P w K mg) : Has P w K mg base "raw_fast" 2 2 ["web", "lot"] false f_raw_fast :=
  has_def (N := N_raw_fast) T.def_raw_fast ⟨rfl, rfl, rfl, by decide +kernel, rfl, by decide +kernel, by decide +kernel⟩ rfl rfl (fun h => by cases h) (fun _ _ F => F.bindsN fun _ _ _ _ _ _ us hl => match us, hl with | [_, _], _ => rfl) fun f cdv A outer s H E hr nd tk hp =>
    sms_cons (sm_set nd (pm_callH (has_raw_heads T) hr tk (am_cons (pm_var 0) (am_cons (pm_var 1) (am_nil))))) (sms_cons (sm_set nd (pm_sorted hr rfl T.free_sorted (pm_set rfl T.free_set (pm_var 2)))) (sms_cons (sm_set nd (pm_tuple T.free_tuple (pm_comp (own := [("head", 8)]) rfl nd (blkOk_by (by kernel_rfl)) (im_any (pm_var 2)) (quiet_nm) (fun _ _ _ _ _ => gm_name nd) (fun _ _ _ _ _ => tms_nil) (fun _ _ _ _ _ => pm_index (pm_var 3) (am_cons (pm_var 8) (am_nil)))))) (sms_cons (sm_setLc (own := [("tie", 7)]) rfl nd (blkOk_by (by kernel_rfl)) (im_range1 T.free_range (pm_lenA T.free_len (pm_idx (pm_var 0) (pm_int)))) (quiet_nm) (fun _ _ _ _ _ => gm_name nd) (fun _ _ _ _ _ => tms_one (tm_of (wm_and (tm_notIn hr (pm_var 7) (pm_var 1)) (wm_and1 (tm_ne hr (pm_idx (pm_var 4) (pm_idx (pm_idx (pm_idx (pm_var 0) (pm_int)) (pm_var 7)) (pm_int))) (pm_idx (pm_var 4) (pm_idx (pm_idx (pm_idx (pm_var 0) (pm_int)) (pm_var 7)) (pm_int)))))))) (fun _ _ _ _ _ => pm_var 7)) (sms_cons (sm_setLc (own := [("tie", 7)]) rfl nd (blkOk_by (by kernel_rfl)) (im_any (pm_var 5)) (quiet_nm) (fun _ _ _ _ _ => gm_name nd) (fun _ _ _ _ _ => tms_nil) (fun _ _ _ _ _ => pm_tuple T.free_tuple (pm_sorted hr rfl T.free_sorted (pm_lst (am_cons (pm_idx (pm_var 4) (pm_idx (pm_idx (pm_idx (pm_var 0) (pm_int)) (pm_var 7)) (pm_int))) (am_cons (pm_idx (pm_var 4) (pm_idx (pm_idx (pm_idx (pm_var 0) (pm_int)) (pm_var 7)) (pm_int))) (am_nil))))))) (sms_one (sm_ret (pm_tup (am_cons (pm_tup (am_cons (pm_lenA T.free_len (pm_var 3)) (am_cons (pm_tuple T.free_tuple (pm_var 6)) (am_nil)))) (am_cons (pm_var 4) (am_cons (pm_tuple T.free_tuple (pm_var 5)) (am_nil)))))))))))
theorem has_fast (T : Fx P w K mg) : Has P w K mg base "fast" 7 2 ["web", "lot"] false f_fast :=
  has_def (N := N_fast) T.def_fast ⟨rfl, rfl, rfl, by decide +kernel, rfl, by decide +kernel, by decide +kernel⟩ rfl rfl (fun h => by cases h) (fun _ _ F => F.bindsN fun _ _ _ _ _ _ us hl => match us, hl with | [_, _], _ => rfl) fun f cdv A outer s H E hr nd tk hp =>
    sms_cons (sm_expr (pm_callH (has_check_lot T) hr tk (am_cons (pm_var 0) (am_cons (pm_var 1) (am_nil))))) (sms_one (sm_ret (pm_callH (has_raw_fast T) hr tk (am_cons (pm_var 0) (am_cons (pm_var 1) (am_nil))))))
theorem has_is_edit (T : Fx P w K mg) : Has P w K mg base "is_edit" 2 1 ["thing"] false f_is_edit :=
  has_def (N := N_is_edit) T.def_is_edit ⟨rfl, rfl, rfl, by decide +kernel, rfl, by decide +kernel, by decide +kernel⟩ rfl rfl (fun h => by cases h) (fun _ _ F => F.bindsN fun _ _ _ _ _ _ us hl => match us, hl with | [_], _ => rfl) fun f cdv A outer s H E hr nd tk hp =>
    sms_cons (sm_if (tm_of (wm_or (tm_not (tm_val (pm_isi "tuple" T.free_isinstance (pm_var 0) (pe_ty T.free_tuple)))) (wm_or (tm_eq hr (pm_lenA T.free_len (pm_var 0)) (pm_int)) (wm_or (tm_not (tm_val (pm_isi "str" T.free_isinstance (pm_idx (pm_var 0) (pm_int)) (pe_ty T.free_str)))) (wm_or1 (tm_kdNotIn T.kd_SIZES (pm_idx (pm_var 0) (pm_int)))))))) (sms_one (sm_ret (pm_bl))) (sms_nil)) (sms_one (sm_ret (pm_andV (pm_eq hr (pm_lenA T.free_len (pm_var 0)) (pm_kdGet T.kd_SIZES (pm_idx (pm_var 0) (pm_int)))) (pm_one (pm_orV (pm_eq hr (pm_idx (pm_var 0) (pm_int)) (pm_str)) (pm_one (pm_all rfl T.free_all (pm_comp (own := [("one", 1)]) rfl nd (blkOk_by (by kernel_rfl)) (im_any (pm_slice (pm_var 0) (om_some (pm_int)) (om_none))) (quiet_nm) (fun _ _ _ _ _ => gm_name nd) (fun _ _ _ _ _ => tms_nil) (fun _ _ _ _ _ => pm_callH (has_is_int T) hr takes0 (am_cons (pm_var 1) (am_nil)))))))))))
theorem has_is_order (T : Fx P w K mg) : Has P w K mg base "is_order" 2 2 ["web", "thing"] false f_is_order :=
  has_def (N := N_is_order) T.def_is_order ⟨rfl, rfl, rfl, by decide +kernel, rfl, by decide +kernel, by decide +kernel⟩ rfl rfl (fun h => by cases h) (fun _ _ F => F.bindsN fun _ _ _ _ _ _ us hl => match us, hl with | [_, _], _ => rfl) fun f cdv A outer s H E hr nd tk hp =>
    sms_cons (sm_if (tm_of (wm_or (tm_not (tm_val (pm_callH (has_is_sized T) hr tk (am_cons (pm_var 1) (am_cons (pm_idx (pm_var 0) (pm_int)) (am_cons (pm_idx (pm_var 0) (pm_int)) (am_nil))))))) (wm_or1 (tm_not (tm_val (pm_all rfl T.free_all (pm_comp (own := [("one", 2)]) rfl nd (blkOk_by (by kernel_rfl)) (im_any (pm_var 1)) (quiet_nm) (fun _ _ _ _ _ => gm_name nd) (fun _ _ _ _ _ => tms_nil) (fun _ _ _ _ _ => pm_callH (has_is_int T) hr takes0 (am_cons (pm_var 2) (am_nil)))))))))) (sms_one (sm_ret (pm_bl))) (sms_nil)) (sms_one (sm_ret (pm_eq hr (pm_sorted hr rfl T.free_sorted (pm_var 1)) (pm_listRg1 rfl T.free_list T.free_range (pm_idx (pm_var 0) (pm_int))))))
theorem has_raw_turned_web (T : Fx P w K mg) : Has P w K mg base "raw_turned_web" 1 2 ["web", "order"] false f_raw_turned_web :=
  has_def (N := N_raw_turned_web) T.def_raw_turned_web ⟨rfl, rfl, rfl, by decide +kernel, rfl, by decide +kernel, by decide +kernel⟩ rfl rfl (fun h => by cases h) (fun _ _ F => F.bindsN fun _ _ _ _ _ _ us hl => match us, hl with | [_, _], _ => rfl) fun f cdv A outer s H E hr nd tk hp =>
    sms_cons (sm_set nd (pm_dcomp (own := [("at", 3), ("place", 4)]) rfl nd (blkOk_by (by kernel_rfl)) (im_enum T.free_enumerate (pm_var 1)) (quiet_tp (quiet_all1 (quiet_nm) (quiet_all1 (quiet_nm) (quiet_all0)))) (fun _ _ _ _ _ => gm_tup rfl (gms_cons (gm_name nd) (gms_cons (gm_name nd) (gms_nil)))) (fun _ _ _ _ _ => tms_nil) (fun _ _ _ _ _ => pm_var 4) (fun _ _ _ _ _ => pm_var 3))) (sms_one (sm_ret (pm_tup (am_cons (pm_idx (pm_var 0) (pm_int)) (am_cons (pm_tuple T.free_tuple (pm_comp (own := [("i", 5), ("j", 6)]) rfl nd (blkOk_by (by kernel_rfl)) (im_any (pm_idx (pm_var 0) (pm_int))) (quiet_tp (quiet_all1 (quiet_nm) (quiet_all1 (quiet_nm) (quiet_all0)))) (fun _ _ _ _ _ => gm_tup rfl (gms_cons (gm_name nd) (gms_cons (gm_name nd) (gms_nil)))) (fun _ _ _ _ _ => tms_nil) (fun _ _ _ _ _ => pm_tuple T.free_tuple (pm_sorted hr rfl T.free_sorted (pm_lst (am_cons (pm_dget hr (pm_var 2) (pm_var 5)) (am_cons (pm_dget hr (pm_var 2) (pm_var 6)) (am_nil)))))))) (am_nil))))))
theorem has_raw_edited (T : Fx P w K mg) : Has P w K mg base "raw_edited" 5 2 ["web", "edit"] false f_raw_edited :=
  has_def (N := N_raw_edited) T.def_raw_edited ⟨rfl, rfl, rfl, by decide +kernel, rfl, by decide +kernel, by decide +kernel⟩ rfl rfl (fun h => by cases h) (fun _ _ F => F.bindsN fun _ _ _ _ _ _ us hl => match us, hl with | [_, _], _ => rfl) fun f cdv A outer s H E hr nd tk hp =>
    sms_cons (sm_if (tm_not (tm_val (pm_callH (has_is_edit T) hr tk (am_cons (pm_var 1) (am_nil))))) (sms_one (sm_ret (pm_non))) (sms_nil)) (sms_cons (sm_set nd (pm_idx (pm_var 1) (pm_int))) (sms_cons (sm_if (tm_eq hr (pm_var 2) (pm_str)) (sms_one (sm_set nd (pm_tup (am_cons (pm_idx (pm_var 0) (pm_int)) (am_cons (pm_add (pm_idx (pm_var 0) (pm_int)) (pm_tup (am_cons (pm_slice (pm_var 1) (om_some (pm_int)) (om_none)) (am_nil)))) (am_nil)))))) (sms_one (sm_if (tm_eq hr (pm_var 2) (pm_str)) (sms_one (sm_set nd (pm_tup (am_cons (pm_add (pm_idx (pm_var 0) (pm_int)) (pm_int)) (am_cons (pm_idx (pm_var 0) (pm_int)) (am_nil)))))) (sms_one (sm_if (tm_eq hr (pm_var 2) (pm_str)) (sms_one (sm_set nd (pm_ifExp (tm_val (pm_callH (has_is_order T) hr tk (am_cons (pm_var 0) (am_cons (pm_idx (pm_var 1) (pm_int)) (am_nil))))) (pm_callH (has_raw_turned_web T) hr tk (am_cons (pm_var 0) (am_cons (pm_idx (pm_var 1) (pm_int)) (am_nil)))) (pm_non)))) (sms_one (sm_if (tm_not (tm_chain op_le op_lt (pm_int) (pm_idx (pm_var 1) (pm_int)) (pm_lenA T.free_len (pm_idx (pm_var 0) (pm_int))))) (sms_one (sm_ret (pm_non))) (sms_one (sm_set nd (pm_ifExp (tm_eq hr (pm_var 2) (pm_str)) (pm_idx (pm_callH (has_raw_without T) hr tk (am_cons (pm_var 0) (am_cons (pm_tup (am_cons (pm_idx (pm_var 1) (pm_int)) (am_nil))) (am_nil)))) (pm_int)) (pm_idx (pm_callH (has_raw_fast T) hr tk (am_cons (pm_var 0) (am_cons (pm_tup (am_cons (pm_idx (pm_var 1) (pm_int)) (am_nil))) (am_nil)))) (pm_int)))))))))))) (sms_one (sm_ret (pm_ifExp (tm_val (pm_callH (has_is_web T) hr tk (am_cons (pm_var 3) (am_nil)))) (pm_var 3) (pm_non))))))
theorem has_edited (T : Fx P w K mg) : Has P w K mg base "edited" 6 2 ["web", "edit"] false f_edited :=
  has_def (N := N_edited) T.def_edited ⟨rfl, rfl, rfl, by decide +kernel, rfl, by decide +kernel, by decide +kernel⟩ rfl rfl (fun h => by cases h) (fun _ _ F => F.bindsN fun _ _ _ _ _ _ us hl => match us, hl with | [_, _], _ => rfl) fun f cdv A outer s H E hr nd tk hp =>
    sms_cons (sm_expr (pm_callH (has_check_web T) hr tk (am_cons (pm_var 0) (am_nil)))) (sms_cons (sm_set nd (pm_callH (has_raw_edited T) hr tk (am_cons (pm_var 0) (am_cons (pm_var 1) (am_nil))))) (sms_cons (sm_if (tm_is (pm_var 2) (pm_non)) (sms_one (sm_raise rfl tk T.exc_NoEdit)) (sms_nil)) (sms_one (sm_ret (pm_var 2)))))
theorem has_replayed (T : Fx P w K mg) : Has P w K mg base "replayed" 6 2 ["web", "edits"] false f_replayed :=
  has_def (N := N_replayed) T.def_replayed ⟨rfl, rfl, rfl, by decide +kernel, rfl, by decide +kernel, by decide +kernel⟩ rfl rfl (fun h => by cases h) (fun _ _ F => F.bindsN fun _ _ _ _ _ _ us hl => match us, hl with | [_, _], _ => rfl) fun f cdv A outer s H E hr nd tk hp =>
    sms_cons (sm_expr (pm_callH (has_check_web T) hr tk (am_cons (pm_var 0) (am_nil)))) (sms_cons (sm_if (tm_not (tm_val (pm_isi "tuple" T.free_isinstance (pm_var 1) (pe_ty T.free_tuple)))) (sms_one (sm_ret (pm_tup (am_cons (pm_str) (am_cons (pm_int) (am_nil)))))) (sms_nil)) (sms_cons (sm_for hp rfl (im_enum T.free_enumerate (pm_var 1)) (gm_tup rfl (gms_cons (gm_name nd) (gms_cons (gm_name nd) (gms_nil)))) (quiet_tp (quiet_all1 (quiet_nm) (quiet_all1 (quiet_nm) (quiet_all0)))) (sms_cons (sm_set nd (pm_callH (has_raw_edited T) hr tk (am_cons (pm_var 0) (am_cons (pm_var 3) (am_nil))))) (sms_cons (sm_if (tm_is (pm_var 4) (pm_non)) (sms_one (sm_ret (pm_tup (am_cons (pm_str) (am_cons (pm_var 2) (am_nil)))))) (sms_nil)) (sms_one (sm_set nd (pm_var 4)))))) (sms_one (sm_ret (pm_tup (am_cons (pm_str) (am_cons (pm_var 0) (am_nil))))))))
theorem has__law_cell (T : Fx P w K mg) : Has P w K mg base "_law_cell" 1 2 ["script", "place"] false f__law_cell :=
  has_def (N := N__law_cell) T.def__law_cell ⟨rfl, rfl, rfl, by decide +kernel, rfl, by decide +kernel, by decide +kernel⟩ rfl rfl (fun h => by cases h) (fun _ _ F => F.bindsN fun _ _ _ _ _ _ us hl => match us, hl with | [_, _], _ => rfl) fun f cdv A outer s H E hr nd tk hp =>
    sms_cons (sm_if (tm_lt (pm_var 1) (pm_lenA T.free_len (pm_var 0))) (sms_one (sm_ret (pm_idx (pm_var 0) (pm_var 1)))) (sms_nil)) (sms_one (sm_ret (pm_int)))
theorem has__law_draw (T : Fx P w K mg) : Has P w K mg base "_law_draw" 2 4 ["script", "place", "turn", "many"] false f__law_draw :=
  has_def (N := N__law_draw) T.def__law_draw ⟨rfl, rfl, rfl, by decide +kernel, rfl, by decide +kernel, by decide +kernel⟩ rfl rfl (fun h => by cases h) (fun _ _ F => F.bindsN fun _ _ _ _ _ _ us hl => match us, hl with | [_, _, _, _], _ => rfl) fun f cdv A outer s H E hr nd tk hp =>
    sms_cons (sm_set nd (pm_callH (has__law_cell T) hr tk (am_cons (pm_var 0) (am_cons (pm_var 1) (am_nil))))) (sms_cons (sm_if (tm_ge (pm_var 4) (pm_pow (pm_int) (pm_int))) (sms_cons (sm_for hp rfl (im_range1 T.free_range (pm_var 2)) (gm_name nd) (quiet_nm) (sms_one (sm_set nd (pm_fdiv (pm_var 4) (pm_int))))) (sms_one (sm_ret (pm_mod (pm_intOf T.free_int (pm_var 4)) (pm_var 3))))) (sms_nil)) (sms_cons (sm_set nd (pm_mod (pm_intOf T.free_int (pm_add (pm_add (pm_add (pm_mul (pm_var 4) (pm_int)) (pm_mul (pm_var 1) (pm_int))) (pm_mul (pm_var 2) (pm_int))) (pm_int))) (pm_int))) (sms_cons (sm_set nd (pm_mod (pm_intOf T.free_int (pm_add (pm_pow (pm_var 5) (pm_int)) (pm_mul (pm_var 2) (pm_int)))) (pm_int))) (sms_cons (sm_set nd (pm_mod (pm_intOf T.free_int (pm_mul (pm_var 5) (pm_add (pm_add (pm_fdiv (pm_var 5) (pm_int)) (pm_int)) (pm_mul (pm_int) (pm_var 2))))) (pm_int))) (sms_one (sm_ret (pm_mod (pm_intOf T.free_int (pm_fdiv (pm_var 5) (pm_int))) (pm_var 3))))))))
theorem has__law_web (T : Fx P w K mg) : Has P w K mg base "_law_web" 3 5 ["script", "place", "turn", "most", "high"] false f__law_web :=
  has_def (N := N__law_web) T.def__law_web ⟨rfl, rfl, rfl, by decide +kernel, rfl, by decide +kernel, by decide +kernel⟩ rfl rfl (fun h => by cases h) (fun _ _ F => F.bindsN fun _ _ _ _ _ _ us hl => match us, hl with | [_, _, _, _, _], _ => rfl) fun f cdv A outer s H E hr nd tk hp =>
    sms_cons (sm_set nd (pm_add (pm_int) (pm_callH (has__law_draw T) hr tk (am_cons (pm_var 0) (am_cons (pm_var 1) (am_cons (pm_var 2) (am_cons (pm_var 3) (am_nil)))))))) (sms_cons (sm_set nd (pm_lst (am_nil))) (sms_cons (sm_for hp rfl (im_range1 T.free_range (pm_mul (pm_callH (has__law_draw T) hr tk (am_cons (pm_var 0) (am_cons (pm_var 1) (am_cons (pm_add (pm_var 2) (pm_int)) (am_cons (pm_add (pm_var 4) (pm_int)) (am_nil)))))) (pm_intOf T.free_int (pm_gt (pm_var 5) (pm_int))))) (gm_name nd) (quiet_nm) (sms_cons (sm_set nd (pm_callH (has__law_draw T) hr tk (am_cons (pm_var 0) (am_cons (pm_var 1) (am_cons (pm_add (pm_add (pm_var 2) (pm_int)) (pm_mul (pm_int) (pm_var 7))) (am_cons (pm_var 5) (am_nil))))))) (sms_cons (sm_set nd (pm_callH (has__law_draw T) hr tk (am_cons (pm_var 0) (am_cons (pm_var 1) (am_cons (pm_add (pm_add (pm_var 2) (pm_int)) (pm_mul (pm_int) (pm_var 7))) (am_cons (pm_max2 rfl T.free_max (pm_int) (pm_sub (pm_var 5) (pm_int))) (am_nil))))))) (sms_cons (sm_if (tm_ge (pm_var 9) (pm_var 8)) (sms_one (sm_set nd (pm_add (pm_var 9) (pm_int)))) (sms_nil)) (sms_one (sm_expr (pm_append (pe_v 6) (am_cons (pm_tup (am_cons (pm_min2 rfl T.free_min (pm_var 8) (pm_var 9)) (am_cons (pm_max2 rfl T.free_max (pm_var 8) (pm_var 9)) (am_nil)))) (am_nil))))))))) (sms_one (sm_ret (pm_tup (am_cons (pm_var 5) (am_cons (pm_tuple T.free_tuple (pm_var 6)) (am_nil))))))))
theorem has__law_whole (T : Fx P w K mg) : Has P w K mg base "_law_whole" 1 1 ["thing"] false f__law_whole :=
  has_def (N := N__law_whole) T.def__law_whole ⟨rfl, rfl, rfl, by decide +kernel, rfl, by decide +kernel, by decide +kernel⟩ rfl rfl (fun h => by cases h) (fun _ _ F => F.bindsN fun _ _ _ _ _ _ us hl => match us, hl with | [_], _ => rfl) fun f cdv A outer s H E hr nd tk hp =>
    sms_one (sm_ret (pm_andV (pm_isi "int" T.free_isinstance (pm_var 0) (pe_ty T.free_int)) (pm_one (pm_notV (pm_isi "bool" T.free_isinstance (pm_var 0) (pe_ty T.free_bool))))))
theorem has__law_is_web (T : Fx P w K mg) : Has P w K mg base "_law_is_web" 2 2 ["found", "due"] false f__law_is_web :=
  has_def (N := N__law_is_web) T.def__law_is_web ⟨rfl, rfl, rfl, by decide +kernel, rfl, by decide +kernel, by decide +kernel⟩ rfl rfl (fun h => by cases h) (fun _ _ F => F.bindsN fun _ _ _ _ _ _ us hl => match us, hl with | [_, _], _ => rfl) fun f cdv A outer s H E hr nd tk hp =>
    sms_cons (sm_if (tm_of (wm_or (tm_not (tm_val (pm_isi "tuple" T.free_isinstance (pm_var 0) (pe_ty T.free_tuple)))) (wm_or (tm_ne hr (pm_lenA T.free_len (pm_var 0)) (pm_int)) (wm_or (tm_not (tm_val (pm_callH (has__law_whole T) hr tk (am_cons (pm_idx (pm_var 0) (pm_int)) (am_nil))))) (wm_or1 (tm_not (tm_val (pm_isi "tuple" T.free_isinstance (pm_idx (pm_var 0) (pm_int)) (pe_ty T.free_tuple))))))))) (sms_one (sm_ret (pm_bl))) (sms_nil)) (sms_cons (sm_for hp rfl (im_any (pm_idx (pm_var 0) (pm_int))) (gm_name nd) (quiet_nm) (sms_one (sm_if (tm_of (wm_or (tm_not (tm_val (pm_isi "tuple" T.free_isinstance (pm_var 2) (pe_ty T.free_tuple)))) (wm_or (tm_ne hr (pm_lenA T.free_len (pm_var 2)) (pm_int)) (wm_or (tm_not (tm_val (pm_callH (has__law_whole T) hr tk (am_cons (pm_idx (pm_var 2) (pm_int)) (am_nil))))) (wm_or1 (tm_not (tm_val (pm_callH (has__law_whole T) hr tk (am_cons (pm_idx (pm_var 2) (pm_int)) (am_nil)))))))))) (sms_one (sm_ret (pm_bl))) (sms_nil)))) (sms_one (sm_ret (pm_eq hr (pm_var 0) (pm_var 1)))))
theorem has__law_fast (T : Fx P w K mg) : Has P w K mg base "_law_fast" 1 2 ["web", "t"] false f__law_fast :=
  has_def (N := N__law_fast) T.def__law_fast ⟨rfl, rfl, rfl, by decide +kernel, rfl, by decide +kernel, by decide +kernel⟩ rfl rfl (fun h => by cases h) (fun _ _ F => F.bindsN fun _ _ _ _ _ _ us hl => match us, hl with | [_, _], _ => rfl) fun f cdv A outer s H E hr nd tk hp =>
    sms_cons (sm_asg (pm_var 0) (gm_tup rfl (gms_cons (gm_name nd) (gms_cons (gm_name nd) (gms_nil)))) (quiet_tp (quiet_all1 (quiet_nm) (quiet_all1 (quiet_nm) (quiet_all0))))) (sms_cons (sm_asg (pm_idx (pm_var 5) (pm_var 1)) (gm_tup rfl (gms_cons (gm_name nd) (gms_cons (gm_name nd) (gms_nil)))) (quiet_tp (quiet_all1 (quiet_nm) (quiet_all1 (quiet_nm) (quiet_all0))))) (sms_cons (sm_set nd (pm_comp (own := [("place", 8)]) rfl nd (blkOk_by (by kernel_rfl)) (im_range1 T.free_range (pm_var 4)) (quiet_nm) (fun _ _ _ _ _ => gm_name nd) (fun _ _ _ _ _ => tms_nil) (fun _ _ _ _ _ => pm_sub (pm_var 8) (pm_intOf T.free_int (pm_gt (pm_var 8) (pm_var 7)))))) (sms_cons (sm_asg (pm_var 6) (gm_subQ hr (pe_v 2) (pm_var 7)) (quiet_sub)) (sms_cons (sm_setLc (own := [("i", 9), ("j", 10)]) rfl nd (blkOk_by (by kernel_rfl)) (im_any (pm_var 5)) (quiet_tp (quiet_all1 (quiet_nm) (quiet_all1 (quiet_nm) (quiet_all0)))) (fun _ _ _ _ _ => gm_tup rfl (gms_cons (gm_name nd) (gms_cons (gm_name nd) (gms_nil)))) (fun _ _ _ _ _ => tms_one (tm_ne hr (pm_idx (pm_var 2) (pm_var 9)) (pm_idx (pm_var 2) (pm_var 10)))) (fun _ _ _ _ _ => pm_tup (am_cons (pm_idx (pm_var 2) (pm_var 9)) (am_cons (pm_idx (pm_var 2) (pm_var 10)) (am_nil))))) (sms_one (sm_ret (pm_tup (am_cons (pm_sub (pm_var 4) (pm_int)) (am_cons (pm_tuple T.free_tuple (pm_comp (own := [("pair", 11)]) rfl nd (blkOk_by (by kernel_rfl)) (im_any (pm_var 3)) (quiet_nm) (fun _ _ _ _ _ => gm_name nd) (fun _ _ _ _ _ => tms_nil) (fun _ _ _ _ _ => pm_tup (am_cons (pm_min hr rfl T.free_min (pm_var 11)) (am_cons (pm_max hr rfl T.free_max (pm_var 11)) (am_nil)))))) (am_nil))))))))))
theorem has__law_called (T : Fx P w K mg) : Has P w K mg base "_law_called" 1 1 ["order"] false f__law_called :=
  has_def (N := N__law_called) T.def__law_called ⟨rfl, rfl, rfl, by decide +kernel, rfl, by decide +kernel, by decide +kernel⟩ rfl rfl (fun h => by cases h) (fun _ _ F => F.bindsN fun _ _ _ _ _ _ us hl => match us, hl with | [_], _ => rfl) fun f cdv A outer s H E hr nd tk hp =>
    sms_cons (sm_set nd (pm_mul (pm_lst (am_cons (pm_int) (am_nil))) (pm_lenA T.free_len (pm_var 0)))) (sms_cons (sm_for hp rfl (im_range1 T.free_range (pm_lenA T.free_len (pm_var 0))) (gm_name nd) (quiet_nm) (sms_one (sm_asg (pm_var 2) (gm_subQ hr (pe_v 1) (pm_idx (pm_var 0) (pm_var 2))) (quiet_sub)))) (sms_one (sm_ret (pm_var 1))))
theorem has__law_turned (T : Fx P w K mg) : Has P w K mg base "_law_turned" 2 2 ["web", "order"] false f__law_turned :=
  has_def (N := N__law_turned) T.def__law_turned ⟨rfl, rfl, rfl, by decide +kernel, rfl, by decide +kernel, by decide +kernel⟩ rfl rfl (fun h => by cases h) (fun _ _ F => F.bindsN fun _ _ _ _ _ _ us hl => match us, hl with | [_, _], _ => rfl) fun f cdv A outer s H E hr nd tk hp =>
    sms_cons (sm_asg (pm_var 0) (gm_tup rfl (gms_cons (gm_name nd) (gms_cons (gm_name nd) (gms_nil)))) (quiet_tp (quiet_all1 (quiet_nm) (quiet_all1 (quiet_nm) (quiet_all0))))) (sms_cons (sm_set nd (pm_callH (has__law_called T) hr tk (am_cons (pm_var 1) (am_nil)))) (sms_cons (sm_setLc (own := [("i", 6), ("j", 7)]) rfl nd (blkOk_by (by kernel_rfl)) (im_any (pm_var 5)) (quiet_tp (quiet_all1 (quiet_nm) (quiet_all1 (quiet_nm) (quiet_all0)))) (fun _ _ _ _ _ => gm_tup rfl (gms_cons (gm_name nd) (gms_cons (gm_name nd) (gms_nil)))) (fun _ _ _ _ _ => tms_nil) (fun _ _ _ _ _ => pm_tup (am_cons (pm_idx (pm_var 2) (pm_var 6)) (am_cons (pm_idx (pm_var 2) (pm_var 7)) (am_nil))))) (sms_one (sm_ret (pm_tup (am_cons (pm_var 4) (am_cons (pm_tuple T.free_tuple (pm_comp (own := [("pair", 8)]) rfl nd (blkOk_by (by kernel_rfl)) (im_any (pm_var 3)) (quiet_nm) (fun _ _ _ _ _ => gm_name nd) (fun _ _ _ _ _ => tms_nil) (fun _ _ _ _ _ => pm_tup (am_cons (pm_min hr rfl T.free_min (pm_var 8)) (am_cons (pm_max hr rfl T.free_max (pm_var 8)) (am_nil)))))) (am_nil))))))))
theorem has__law_edited (T : Fx P w K mg) : Has P w K mg base "_law_edited" 3 2 ["web", "edit"] false f__law_edited :=
  has_def (N := N__law_edited) T.def__law_edited ⟨rfl, rfl, rfl, by decide +kernel, rfl, by decide +kernel, by decide +kernel⟩ rfl rfl (fun h => by cases h) (fun _ _ F => F.bindsN fun _ _ _ _ _ _ us hl => match us, hl with | [_, _], _ => rfl) fun f cdv A outer s H E hr nd tk hp =>
    sms_cons (sm_asg (pm_var 0) (gm_tup rfl (gms_cons (gm_name nd) (gms_cons (gm_name nd) (gms_nil)))) (quiet_tp (quiet_all1 (quiet_nm) (quiet_all1 (quiet_nm) (quiet_all0))))) (sms_cons (sm_if (tm_eq hr (pm_idx (pm_var 1) (pm_int)) (pm_str)) (sms_one (sm_ret (pm_tup (am_cons (pm_var 2) (am_cons (pm_add (pm_var 3) (pm_tup (am_cons (pm_tup (am_cons (pm_idx (pm_var 1) (pm_int)) (am_cons (pm_idx (pm_var 1) (pm_int)) (am_nil)))) (am_nil)))) (am_nil)))))) (sms_nil)) (sms_cons (sm_if (tm_eq hr (pm_idx (pm_var 1) (pm_int)) (pm_str)) (sms_one (sm_ret (pm_tup (am_cons (pm_var 2) (am_cons (pm_add (pm_slice (pm_var 3) (om_none) (om_some (pm_idx (pm_var 1) (pm_int)))) (pm_slice (pm_var 3) (om_some (pm_add (pm_idx (pm_var 1) (pm_int)) (pm_int))) (om_none))) (am_nil)))))) (sms_nil)) (sms_cons (sm_if (tm_eq hr (pm_idx (pm_var 1) (pm_int)) (pm_str)) (sms_one (sm_ret (pm_tup (am_cons (pm_add (pm_var 2) (pm_int)) (am_cons (pm_var 3) (am_nil)))))) (sms_nil)) (sms_cons (sm_if (tm_eq hr (pm_idx (pm_var 1) (pm_int)) (pm_str)) (sms_one (sm_ret (pm_callH (has__law_fast T) hr tk (am_cons (pm_var 0) (am_cons (pm_idx (pm_var 1) (pm_int)) (am_nil)))))) (sms_nil)) (sms_one (sm_ret (pm_callH (has__law_turned T) hr tk (am_cons (pm_var 0) (am_cons (pm_idx (pm_var 1) (pm_int)) (am_nil))))))))))
theorem has__law_order (T : Fx P w K mg) : Has P w K mg base "_law_order" 3 4 ["script", "place", "turn", "many"] false f__law_order :=
  has_def (N := N__law_order) T.def__law_order ⟨rfl, rfl, rfl, by decide +kernel, rfl, by decide +kernel, by decide +kernel⟩ rfl rfl (fun h => by cases h) (fun _ _ F => F.bindsN fun _ _ _ _ _ _ us hl => match us, hl with | [_, _, _, _], _ => rfl) fun f cdv A outer s H E hr nd tk hp =>
    sms_cons (sm_set nd (pm_listRg1 rfl T.free_list T.free_range (pm_var 3))) (sms_cons (sm_set nd (pm_lst (am_nil))) (sms_cons (sm_for hp rfl (im_range1 T.free_range (pm_var 3)) (gm_name nd) (quiet_nm) (sms_one (sm_expr (pm_append (pe_v 5) (am_cons (pm_popAt (pe_v 4) (am_cons (pm_callH (has__law_draw T) hr tk (am_cons (pm_var 0) (am_cons (pm_var 1) (am_cons (pm_add (pm_var 2) (pm_var 6)) (am_cons (pm_lenA T.free_len (pm_var 4)) (am_nil)))))) (am_nil))) (am_nil)))))) (sms_one (sm_ret (pm_tuple T.free_tuple (pm_var 5))))))
theorem has__law_edit (T : Fx P w K mg) : Has P w K mg base "_law_edit" 4 3 ["script", "place", "web"] false f__law_edit :=
  has_def (N := N__law_edit) T.def__law_edit ⟨rfl, rfl, rfl, by decide +kernel, rfl, by decide +kernel, by decide +kernel⟩ rfl rfl (fun h => by cases h) (fun _ _ F => F.bindsN fun _ _ _ _ _ _ us hl => match us, hl with | [_, _, _], _ => rfl) fun f cdv A outer s H E hr nd tk hp =>
    sms_cons (sm_asg (pm_var 2) (gm_tup rfl (gms_cons (gm_name nd) (gms_cons (gm_name nd) (gms_nil)))) (quiet_tp (quiet_all1 (quiet_nm) (quiet_all1 (quiet_nm) (quiet_all0))))) (sms_cons (sm_set nd (pm_callH (has__law_draw T) hr tk (am_cons (pm_var 0) (am_cons (pm_var 1) (am_cons (pm_int) (am_cons (pm_int) (am_nil))))))) (sms_cons (sm_if (tm_of (wm_and (tm_lt (pm_var 3) (pm_int)) (wm_and (tm_gt (pm_var 4) (pm_int)) (wm_and1 (tm_lt (pm_lenA T.free_len (pm_var 5)) (pm_int)))))) (sms_cons (sm_set nd (pm_callH (has__law_draw T) hr tk (am_cons (pm_var 0) (am_cons (pm_var 1) (am_cons (pm_int) (am_cons (pm_var 4) (am_nil))))))) (sms_cons (sm_set nd (pm_callH (has__law_draw T) hr tk (am_cons (pm_var 0) (am_cons (pm_var 1) (am_cons (pm_int) (am_cons (pm_sub (pm_var 4) (pm_int)) (am_nil))))))) (sms_cons (sm_if (tm_ge (pm_var 7) (pm_var 6)) (sms_one (sm_set nd (pm_add (pm_var 7) (pm_int)))) (sms_nil)) (sms_one (sm_ret (pm_tup (am_cons (pm_str) (am_cons (pm_min2 rfl T.free_min (pm_var 6) (pm_var 7)) (am_cons (pm_max2 rfl T.free_max (pm_var 6) (pm_var 7)) (am_nil)))))))))) (sms_nil)) (sms_cons (sm_if (tm_of (wm_and (tm_lt (pm_var 3) (pm_int)) (wm_and1 (tm_ne hr (pm_var 5) (pm_tup (am_nil)))))) (sms_one (sm_ret (pm_tup (am_cons (pm_idx (pm_lst (am_cons (pm_str) (am_cons (pm_str) (am_nil)))) (pm_callH (has__law_draw T) hr tk (am_cons (pm_var 0) (am_cons (pm_var 1) (am_cons (pm_int) (am_cons (pm_int) (am_nil))))))) (am_cons (pm_callH (has__law_draw T) hr tk (am_cons (pm_var 0) (am_cons (pm_var 1) (am_cons (pm_int) (am_cons (pm_lenA T.free_len (pm_var 5)) (am_nil)))))) (am_nil)))))) (sms_nil)) (sms_cons (sm_if (tm_of (wm_or (tm_lt (pm_var 3) (pm_int)) (wm_or1 (tm_eq hr (pm_var 4) (pm_int))))) (sms_one (sm_ret (pm_tup (am_cons (pm_str) (am_cons (pm_callH (has__law_order T) hr tk (am_cons (pm_var 0) (am_cons (pm_var 1) (am_cons (pm_int) (am_cons (pm_var 4) (am_nil)))))) (am_nil)))))) (sms_nil)) (sms_one (sm_ret (pm_tup (am_cons (pm_str) (am_nil)))))))))
theorem has__law_no_edit (T : Fx P w K mg) : Has P w K mg base "_law_no_edit" 3 3 ["script", "place", "web"] false f__law_no_edit :=
  has_def (N := N__law_no_edit) T.def__law_no_edit ⟨rfl, rfl, rfl, by decide +kernel, rfl, by decide +kernel, by decide +kernel⟩ rfl rfl (fun h => by cases h) (fun _ _ F => F.bindsN fun _ _ _ _ _ _ us hl => match us, hl with | [_, _, _], _ => rfl) fun f cdv A outer s H E hr nd tk hp =>
    sms_cons (sm_asg (pm_var 2) (gm_tup rfl (gms_cons (gm_name nd) (gms_cons (gm_name nd) (gms_nil)))) (quiet_tp (quiet_all1 (quiet_nm) (quiet_all1 (quiet_nm) (quiet_all0))))) (sms_cons (sm_set nd (pm_lst (am_cons (pm_non) (am_cons (pm_str) (am_cons (pm_tup (am_nil)) (am_cons (pm_lst (am_cons (pm_str) (am_nil))) (am_cons (pm_tup (am_cons (pm_str) (am_cons (pm_int) (am_nil)))) (am_cons (pm_tup (am_cons (pm_str) (am_cons (pm_int) (am_cons (pm_int) (am_nil))))) (am_cons (pm_tup (am_cons (pm_str) (am_cons (pm_int) (am_cons (pm_var 4) (am_nil))))) (am_cons (pm_tup (am_cons (pm_str) (am_cons (pm_neg (pm_int)) (am_cons (pm_int) (am_nil))))) (am_nil))))))))))) (sms_cons (sm_expr (pm_append (pe_v 3) (am_cons (pm_tup (am_cons (pm_str) (am_cons (pm_int) (am_cons (pm_int) (am_nil))))) (am_nil)))) (sms_cons (sm_set nd (pm_add (pm_var 3) (pm_lst (am_cons (pm_tup (am_cons (pm_str) (am_cons (pm_lenA T.free_len (pm_var 5)) (am_nil)))) (am_cons (pm_tup (am_cons (pm_str) (am_cons (pm_neg (pm_int)) (am_nil)))) (am_cons (pm_tup (am_cons (pm_str) (am_cons (pm_non) (am_nil)))) (am_cons (pm_tup (am_cons (pm_str) (am_cons (pm_lenA T.free_len (pm_var 5)) (am_nil)))) (am_cons (pm_tup (am_cons (pm_str) (am_nil))) (am_cons (pm_tup (am_cons (pm_str) (am_cons (pm_int) (am_nil)))) (am_nil)))))))))) (sms_cons (sm_set nd (pm_add (pm_var 3) (pm_lst (am_cons (pm_tup (am_cons (pm_str) (am_cons (pm_listRg1 rfl T.free_list T.free_range (pm_var 4)) (am_nil)))) (am_cons (pm_tup (am_cons (pm_str) (am_cons (pm_tupRg1 rfl T.free_tuple T.free_range (pm_add (pm_var 4) (pm_int))) (am_nil)))) (am_cons (pm_tup (am_cons (pm_str) (am_cons (pm_tuple T.free_tuple (pm_mul (pm_lst (am_cons (pm_int) (am_nil))) (pm_add (pm_var 4) (pm_int)))) (am_nil)))) (am_nil))))))) (sms_cons (sm_set nd (pm_add (pm_var 3) (pm_lst (am_cons (pm_tup (am_cons (pm_str) (am_cons (pm_tup (am_nil)) (am_nil)))) (am_cons (pm_tup (am_cons (pm_str) (am_cons (pm_bl) (am_cons (pm_bl) (am_nil))))) (am_cons (pm_tup (am_cons (pm_str) (am_cons (pm_bl) (am_nil)))) (am_cons (pm_tup (am_cons (pm_str) (am_cons (pm_int) (am_nil)))) (am_cons (pm_tup (am_cons (pm_int) (am_cons (pm_int) (am_nil)))) (am_nil))))))))) (sms_cons (sm_if (tm_eq hr (pm_var 4) (pm_int)) (sms_one (sm_set nd (pm_add (pm_var 3) (pm_lst (am_cons (pm_tup (am_cons (pm_str) (am_nil))) (am_cons (pm_tup (am_cons (pm_str) (am_nil))) (am_cons (pm_tup (am_cons (pm_str) (am_nil))) (am_nil)))))))) (sms_nil)) (sms_cons (sm_if (tm_eq hr (pm_lenA T.free_len (pm_var 5)) (pm_int)) (sms_one (sm_set nd (pm_add (pm_var 3) (pm_lst (am_cons (pm_tup (am_cons (pm_str) (am_cons (pm_int) (am_cons (pm_int) (am_nil))))) (am_cons (pm_tup (am_cons (pm_str) (am_cons (pm_int) (am_cons (pm_int) (am_nil))))) (am_cons (pm_tup (am_cons (pm_str) (am_cons (pm_int) (am_cons (pm_int) (am_nil))))) (am_nil)))))))) (sms_nil)) (sms_one (sm_ret (pm_idx (pm_var 3) (pm_callH (has__law_draw T) hr tk (am_cons (pm_var 0) (am_cons (pm_var 1) (am_cons (pm_int) (am_cons (pm_lenA T.free_len (pm_var 3)) (am_nil))))))))))))))))
theorem has__law_refused (T : Fx P w K mg) : Has P w K mg base "_law_refused" 7 2 ["web", "edit"] false f__law_refused :=
  has_def (N := N__law_refused) T.def__law_refused ⟨rfl, rfl, rfl, by decide +kernel, rfl, by decide +kernel, by decide +kernel⟩ rfl rfl (fun h => by cases h) (fun _ _ F => F.bindsN fun _ _ _ _ _ _ us hl => match us, hl with | [_, _], _ => rfl) fun f cdv A outer s H E hr nd tk hp =>
    sms_cons (sm_set nd (pm_str)) (sms_cons (sm_try_as rfl rfl nd T.isa_ (nm_own T.glo_TreeError) tk (fun W pn xe tk hp => sms_one (sm_expr (pm_callH (has_edited T) hr tk (am_cons (pm_var 0) (am_cons (pm_var 1) (am_nil)))))) (fun a oe cls d pn hz hf x C hcls gC hd => sms_cons (sm_set nd (pm_str)) (sms_one (sm_if (tm_of (wm_and (tm_val (pm_isEo T.isa_ hz hf hcls gC hd T.free_isinstance  T.glo_NoEdit)) (wm_and1 (tm_val (pm_isEt "ValueError" T.isa_ hz hf hcls gC hd T.free_isinstance  T.free_ValueError))))) (sms_one (sm_set nd (pm_str))) (sms_nil)))) rfl rfl (by intro h; cases h)) (sms_one (sm_ret (pm_eq hr (pm_var 2) (pm_str)))))
theorem has__law_begin (T : Fx P w K mg) : Has P w K mg base "_law_begin" 4 1 ["script"] false f__law_begin :=
  has_def (N := N__law_begin) T.def__law_begin ⟨rfl, rfl, rfl, by decide +kernel, rfl, by decide +kernel, by decide +kernel⟩ rfl rfl (fun h => by cases h) (fun _ _ F => F.bindsN fun _ _ _ _ _ _ us hl => match us, hl with | [_], _ => rfl) fun f cdv A outer s H E hr nd tk hp =>
    sms_cons (sm_asg (pm_callH (has__law_web T) hr tk (am_cons (pm_var 0) (am_cons (pm_int) (am_cons (pm_int) (am_cons (pm_int) (am_cons (pm_int) (am_nil))))))) (gm_tup rfl (gms_cons (gm_name nd) (gms_cons (gm_name nd) (gms_nil)))) (quiet_tp (quiet_all1 (quiet_nm) (quiet_all1 (quiet_nm) (quiet_all0))))) (sms_cons (sm_set nd (pm_callH (has__law_draw T) hr tk (am_cons (pm_var 0) (am_cons (pm_int) (am_cons (pm_int) (am_cons (pm_int) (am_nil))))))) (sms_cons (sm_if (tm_eq hr (pm_var 1) (pm_int)) (sms_one (sm_set nd (pm_int))) (sms_nil)) (sms_cons (sm_if (tm_of (wm_and (tm_eq hr (pm_var 1) (pm_int)) (wm_and1 (tm_gt (pm_var 2) (pm_int))))) (sms_one (sm_set nd (pm_tuple T.free_tuple (pm_slice (pm_add (pm_list T.free_list (pm_var 3)) (pm_mul (pm_lst (am_cons (pm_tup (am_cons (pm_int) (am_cons (pm_int) (am_nil)))) (am_cons (pm_tup (am_cons (pm_int) (am_cons (pm_sub (pm_var 2) (pm_int)) (am_nil)))) (am_nil)))) (pm_int))) (om_none) (om_some (pm_int)))))) (sms_nil)) (sms_one (sm_ret (pm_tup (am_cons (pm_var 2) (am_cons (pm_var 3) (am_nil)))))))))
theorem has__law_parts_turned (T : Fx P w K mg) : Has P w K mg base "_law_parts_turned" 8 2 ["web", "order"] false f__law_parts_turned :=
  has_def (N := N__law_parts_turned) T.def__law_parts_turned ⟨rfl, rfl, rfl, by decide +kernel, rfl, by decide +kernel, by decide +kernel⟩ rfl rfl (fun h => by cases h) (fun _ _ F => F.bindsN fun _ _ _ _ _ _ us hl => match us, hl with | [_, _], _ => rfl) fun f cdv A outer s H E hr nd tk hp =>
    sms_cons (sm_set nd (pm_tupRg1 rfl T.free_tuple T.free_range (pm_lenA T.free_len (pm_idx (pm_var 0) (pm_int))))) (sms_cons (sm_set nd (pm_callH (has__law_called T) hr tk (am_cons (pm_var 1) (am_nil)))) (sms_cons (sm_setLc (own := [("part", 5)]) rfl nd (blkOk_by (by kernel_rfl)) (im_any (pm_callH (has_parts_by T) hr tk (am_cons (pm_var 0) (am_cons (pm_var 2) (am_nil))))) (quiet_nm) (fun _ _ _ _ _ => gm_name nd) (fun _ _ _ _ _ => tms_nil) (fun _ _ _ _ _ => pm_tuple T.free_tuple (pm_sorted hr rfl T.free_sorted (pm_comp (own := [("place", 6)]) rfl nd (blkOk_by (by kernel_rfl)) (im_any (pm_var 5)) (quiet_nm) (fun _ _ _ _ _ => gm_name nd) (fun _ _ _ _ _ => tms_nil) (fun _ _ _ _ _ => pm_idx (pm_var 3) (pm_var 6)))))) (sms_one (sm_ret (pm_eq hr (pm_callH (has_parts_by T) hr tk (am_cons (pm_callH (has_edited T) hr tk (am_cons (pm_var 0) (am_cons (pm_tup (am_cons (pm_str) (am_cons (pm_var 1) (am_nil)))) (am_nil)))) (am_cons (pm_var 2) (am_nil)))) (pm_tuple T.free_tuple (pm_sorted hr rfl T.free_sorted (pm_var 4))))))))
theorem has__law_done (T : Fx P w K mg) : Has P w K mg base "_law_done" 9 3 ["web", "edit", "after"] false f__law_done :=
  has_def (N := N__law_done) T.def__law_done ⟨rfl, rfl, rfl, by decide +kernel, rfl, by decide +kernel, by decide +kernel⟩ rfl rfl (fun h => by cases h) (fun _ _ F => F.bindsN fun _ _ _ _ _ _ us hl => match us, hl with | [_, _, _], _ => rfl) fun f cdv A outer s H E hr nd tk hp =>
    sms_cons (sm_if (tm_of (wm_or (tm_not (tm_val (pm_callH (has__law_is_web T) hr tk (am_cons (pm_callH (has_edited T) hr tk (am_cons (pm_var 0) (am_cons (pm_var 1) (am_nil)))) (am_cons (pm_var 2) (am_nil)))))) (wm_or1 (tm_isNot (pm_callH (has_is_web T) hr tk (am_cons (pm_var 2) (am_nil))) (pm_bl))))) (sms_one (sm_ret (pm_bl))) (sms_nil)) (sms_cons (sm_if (tm_eq hr (pm_idx (pm_var 1) (pm_int)) (pm_str)) (sms_one (sm_ret (pm_callH (has__law_is_web T) hr tk (am_cons (pm_idx (pm_callH (has_without T) hr tk (am_cons (pm_var 0) (am_cons (pm_tup (am_cons (pm_idx (pm_var 1) (pm_int)) (am_nil))) (am_nil)))) (pm_int)) (am_cons (pm_var 2) (am_nil)))))) (sms_nil)) (sms_cons (sm_if (tm_eq hr (pm_idx (pm_var 1) (pm_int)) (pm_str)) (sms_one (sm_ret (pm_callH (has__law_is_web T) hr tk (am_cons (pm_idx (pm_callH (has_fast T) hr tk (am_cons (pm_var 0) (am_cons (pm_tup (am_cons (pm_idx (pm_var 1) (pm_int)) (am_nil))) (am_nil)))) (pm_int)) (am_cons (pm_var 2) (am_nil)))))) (sms_nil)) (sms_one (sm_ret (pm_orV (pm_ne hr (pm_idx (pm_var 1) (pm_int)) (pm_str)) (pm_one (pm_callH (has__law_parts_turned T) hr tk (am_cons (pm_var 0) (am_cons (pm_idx (pm_var 1) (pm_int)) (am_nil))))))))))
theorem has_law (T : Fx P w K mg) : Has P w K mg base "law" 10 1 ["script"] false f_law :=
  has_def (N := N_law) T.def_law ⟨rfl, rfl, rfl, by decide +kernel, rfl, by decide +kernel, by decide +kernel⟩ rfl rfl (fun h => by cases h) (fun _ _ F => F.bindsN fun _ _ _ _ _ _ us hl => match us, hl with | [_], _ => rfl) fun f cdv A outer s H E hr nd tk hp =>
    sms_cons (sm_set nd (pm_callH (has__law_begin T) hr tk (am_cons (pm_var 0) (am_nil)))) (sms_cons (sm_set nd (pm_var 1)) (sms_cons (sm_set nd (pm_lst (am_nil))) (sms_cons (sm_for hp rfl (im_range2 T.free_range (pm_int) (pm_max2 rfl T.free_max (pm_int) (pm_min2 rfl T.free_min (pm_lenA T.free_len (pm_var 0)) (pm_int)))) (gm_name nd) (quiet_nm) (sms_cons (sm_set nd (pm_callH (has__law_no_edit T) hr tk (am_cons (pm_var 0) (am_cons (pm_var 4) (am_cons (pm_var 2) (am_nil)))))) (sms_cons (sm_if (tm_not (tm_val (pm_callH (has__law_refused T) hr tk (am_cons (pm_var 2) (am_cons (pm_var 6) (am_nil)))))) (sms_one (sm_ret (pm_bl))) (sms_nil)) (sms_cons (sm_set nd (pm_callH (has_replayed T) hr tk (am_cons (pm_var 1) (am_cons (pm_add (pm_tuple T.free_tuple (pm_var 3)) (pm_tup (am_cons (pm_var 6) (am_cons (pm_tup (am_cons (pm_str) (am_nil))) (am_nil))))) (am_nil))))) (sms_cons (sm_if (tm_of (wm_or (tm_ne hr (pm_var 5) (pm_tup (am_cons (pm_str) (am_cons (pm_lenA T.free_len (pm_var 3)) (am_nil))))) (wm_or1 (tm_not (tm_val (pm_callH (has__law_whole T) hr tk (am_cons (pm_idx (pm_var 5) (pm_int)) (am_nil)))))))) (sms_one (sm_ret (pm_bl))) (sms_nil)) (sms_cons (sm_set nd (pm_callH (has__law_edit T) hr tk (am_cons (pm_var 0) (am_cons (pm_var 4) (am_cons (pm_var 2) (am_nil)))))) (sms_cons (sm_set nd (pm_callH (has__law_edited T) hr tk (am_cons (pm_var 2) (am_cons (pm_var 7) (am_nil))))) (sms_cons (sm_if (tm_not (tm_val (pm_callH (has__law_done T) hr tk (am_cons (pm_var 2) (am_cons (pm_var 7) (am_cons (pm_var 8) (am_nil))))))) (sms_one (sm_ret (pm_bl))) (sms_nil)) (sms_cons (sm_expr (pm_append (pe_v 3) (am_cons (pm_var 7) (am_nil)))) (sms_one (sm_set nd (pm_var 8)))))))))))) (sms_cons (sm_set nd (pm_callH (has_replayed T) hr tk (am_cons (pm_var 1) (am_cons (pm_tuple T.free_tuple (pm_var 3)) (am_nil))))) (sms_cons (sm_if (tm_of (wm_or (tm_not (tm_val (pm_isi "tuple" T.free_isinstance (pm_var 5) (pe_ty T.free_tuple)))) (wm_or (tm_ne hr (pm_lenA T.free_len (pm_var 5)) (pm_int)) (wm_or (tm_ne hr (pm_idx (pm_var 5) (pm_int)) (pm_str)) (wm_or1 (tm_not (tm_val (pm_callH (has__law_is_web T) hr tk (am_cons (pm_idx (pm_var 5) (pm_int)) (am_cons (pm_var 2) (am_nil))))))))))) (sms_one (sm_ret (pm_bl))) (sms_nil)) (sms_one (sm_ret (pm_andV (pm_eq hr (pm_callH (has_replayed T) hr tk (am_cons (pm_var 1) (am_cons (pm_list T.free_list (pm_var 3)) (am_nil)))) (pm_tup (am_cons (pm_str) (am_cons (pm_int) (am_nil))))) (pm_one (pm_eq hr (pm_callH (has_replayed T) hr tk (am_cons (pm_var 1) (am_cons (pm_non) (am_nil)))) (pm_tup (am_cons (pm_str) (am_cons (pm_int) (am_nil))))))))))))))
end
end L67

set_option Elab.async false
set_option linter.all false
set_option autoImplicit false
set_option maxRecDepth 100000
set_option maxHeartbeats 4000000
namespace Mi
open PySem PySem.Spec PyProof.Rows L2

/-! ### the head's facts -/
/-- what is told of one own class of errors -/
def excB (K : PySem.W.Frag) (x : Str) : Bool := (He.Fa.exc x).ok K &&
  (decide (PySem.W.findIn K (.ref (He.ga K x)) "__getattribute__" = some (some (.builtin "BaseException.__getattribute__"))) &&
  (decide (PySem.W.findIn K (.ref (He.ga K x)) "__getattr__" = some none) &&
  (PySem.W.hasDictIn K (He.ga K x) &&
  (decide (PySem.W.findIn K (.ref (He.ga K x)) "__class__" = some (some (.builtin "object.__class__"))) &&
  (decide (PySem.W.specialIn K (.builtin "object.__class__") "__get__" = some (some (.builtin "getset_descriptor.__get__"))) &&
  (decide (PySem.W.takesIn K (.builtin "object.__class__") = some true) &&
  decide (PySem.W.mroIn K (He.ga K x) (.type "object") = some true)))))))
theorem excB_ok {K : PySem.W.Frag} {mg : Str → Option Value} {x : Str} (h : excB K x = true) (hg : mg x = some (.ref (He.ga K x))) : ExcFs K mg x := by
  unfold excB at h
  simp only [Bool.and_eq_true, decide_eq_true_eq] at h
  obtain ⟨h0, h1, h2, h3, h4, h5, h6, h7⟩ := h
  obtain ⟨q, kC, s1, s2⟩ := He.exc_ok h0
  exact ⟨_, hg, q, kC, s1, s2, ⟨h1, h2, s1, h3, h4, h5, h6, h7⟩⟩
/-- the class that a name names: an own one, a built-in type -/
def clsAt (K : PySem.W.Frag) (own : List Str) (T : Str) : Value := if T ∈ own then .ref (He.ga K T) else (bootBuiltins T).getD .none
def isaB (K : PySem.W.Frag) (own : List Str) (l : List (Str × Str × Bool)) : Bool := l.all fun p => excB K p.1 &&
  (decide (PySem.W.exmOne K (.ref (He.ga K p.1)) (clsAt K own p.2.1) = some p.2.2) && decide (PySem.W.kitOne K (.ref (He.ga K p.1)) (clsAt K own p.2.1) = some p.2.2))
theorem isaB_ok {K : PySem.W.Frag} {mg : Str → Option Value} {own : List Str} {l : List (Str × Str × Bool)} (h : isaB K own l = true) (hg : ∀ p ∈ l, mg p.1 = some (.ref (He.ga K p.1))) (hT : ∀ p ∈ l, ClsV mg p.2.1 (clsAt K own p.2.1)) :
    IsaFs K mg (fun c T => (l.find? fun p => decide (p.1 = c ∧ p.2.1 = T)).map fun p => p.2.2) := by
  refine ⟨fun c T b e => ?_⟩
  rw [Option.map_eq_some_iff] at e
  obtain ⟨p, e1, rfl⟩ := e
  have hp := List.mem_of_find?_eq_some e1
  have hq := List.find?_some e1
  simp only [decide_eq_true_eq] at hq
  obtain ⟨rfl, rfl⟩ := hq
  have := List.all_eq_true.mp h p hp
  simp only [Bool.and_eq_true, decide_eq_true_eq] at this
  obtain ⟨h1, h2, h3⟩ := this
  obtain ⟨C, k1, k2, k3, k4, k5, k6⟩ := (excB_ok h1 (hg p hp)).ex
  rw [hg p hp] at k1
  cases k1
  exact ⟨_, _, hg p hp, hT p hp, h2, h3, k6⟩
theorem lookup_memS {α : Type} {z : Str} {o : α} : ∀ {l : List (Str × α)}, l.lookup z = some o → (z, o) ∈ l
  | [], h => by simp at h
  | (a, b) :: l, h => by
    rw [List.lookup_cons] at h
    cases e : (z == a) with
    | true =>
      rw [e] at h
      cases h
      rw [beq_iff_eq.mp e]
      exact List.mem_cons_self
    | false =>
      rw [e] at h
      exact List.mem_cons_of_mem _ (lookup_memS h)
def kdB (K : PySem.W.Frag) (x : Str) (tab : List (Str × Option Int)) : Bool := tab.all fun q => match PySem.W.nsIn K (He.ga K x) q.1 with
  | some none => decide (q.2 = none)
  | some (some (.int j _)) => decide (q.2 = some j)
  | _ => false
theorem kdB_ok {K : PySem.W.Frag} {mg : Str → Option Value} {w : World} {x : Str} {tab : List (Str × Option Int)} (h : kdB K x tab = true) (hg : mg x = some (.ref (He.ga K x))) (D : ∃ es n, KDict K w (He.ga K x) es n) : KdFs K mg w x tab := by
  obtain ⟨es, n, D⟩ := D
  refine ⟨_, es, n, hg, D, fun z o e => ?_⟩
  have hm : (z, o) ∈ tab := lookup_memS e
  have := List.all_eq_true.mp h _ hm
  simp only at this
  split at this
  · rename_i e1
    exact .inl ⟨of_decide_eq_true this, e1⟩
  · rename_i j t e1
    exact .inr ⟨j, t, of_decide_eq_true this, e1⟩
  · cases this
theorem clsV_ty {K : PySem.W.Frag} {mg : Str → Option Value} {own : List Str} {T : Str} (v : Value) (n : mg T = none) (h : T ∉ own) (hb : bootBuiltins T = some v) (hn : T ≠ "__name__") : ClsV mg T (clsAt K own T) := by
  refine .inr ⟨n, ?_, hn⟩
  unfold clsAt
  rw [if_neg h, hb] <;> rfl
theorem clsV_own {K : PySem.W.Frag} {mg : Str → Option Value} {own : List Str} {T : Str} (h : T ∈ own) (g : mg T = some (.ref (He.ga K T))) : ClsV mg T (clsAt K own T) := by
  refine .inl ?_
  unfold clsAt
  rw [if_pos h]
  exact g
/-- the def at a place, as a datum -/
def defD (x : Str) (st : Stmt) : He.DefD := ⟨(x, none), x, x, defArgs st, defBody st, defScope st, [], []⟩
theorem isDef_ok {K : PySem.W.Frag} {mg : Str → Option Value} {x : Str} {st : Stmt} (hg : mg x = some (.ref (He.ga K x))) (h : ∃ fd, FunD K x x (defArgs st) (defBody st) (defScope st) [] [] (He.ga K x) fd) : IsDef K mg x st := by
  obtain ⟨fd, h⟩ := h
  exact ⟨_, fd, hg, h⟩
/-- the law's own call -/
theorem law_sp {P : Program} {w : World} {K : PySem.W.Frag} {mg : Str → Option Value} {fn : Fn} {H : Hp} {a : Addr} {ns : List Int} (h : ∃ ρ, fn [.val (.scr (ns.map D.int))] = .ok (.val (.bl true)) ρ) (hS : SqL K H a (ns.map V.int)) :
    spM ⟨P, w, K, mg, 0⟩ false 1 fn [.ref a] H (fun v _ => v = .bl true) fun _ _ _ => False := by
  obtain ⟨ρ, h⟩ := h
  refine ⟨H, [.val (.scr (ns.map D.int))], fun _ => [], ⟨Same.refl H, fun i o e => ?_, (fun _ _ _ h _ => nomatch h), Nat.le_refl _⟩, rfl, rfl, ?_⟩
  · cases i with
    | succ i => simp at e
    | zero =>
      simp only [List.map_cons, List.map_nil, List.getElem?_cons_zero, Option.some.injEq] at e
      subst e
      exact ⟨_, rfl, .val (.scr hS (repL_ints ns))⟩
  · rw [h]
    intro F' H' v As' B _ _ _ r _
    cases r with
    | val r => cases r; rfl
theorem hCX0 {P : Program} {w : World} (H : Hp) (s : Shared) (e : Value) (s' : Shared) (h : L2.CX P w [] H s (fun _ _ _ => False) e s') : False := by
  obtain ⟨_, _, _, _, _, _, _, _, _, _, _, _, z⟩ := h
  exact z.elim
theorem has_same {P : Program} {w : World} {K : PySem.W.Frag} {mg : Str → Option Value} {base : Heap} {x : Str} {f f2 : Addr} {fd fd2 : FuncData} {k : Nat} {ps : List Str} {sp : Sp} {CX : CXT} (g1 : mg x = some (.ref f)) (l1 : ∃ oc od osl, K.lookup f = some ⟨oc, od, .func fd, osl⟩) (g2 : mg x = some (.ref f2))
    (l2 : ∃ oc od osl, K.lookup f2 = some ⟨oc, od, .func fd2, osl⟩) (ok : FnOk P w K mg base CX k f2 fd2 ps sp) : FnOk P w K mg base CX k f fd ps sp := by
  obtain ⟨_, _, _, l1⟩ := l1
  obtain ⟨_, _, _, l2⟩ := l2
  rw [g1] at g2
  cases g2
  rw [l1] at l2
  cases l2
  exact ok
theorem hCX1 {P : Program} {w : World} {outer : List PySem.Env} {H : Hp} {s : Shared} {e : Value} {s' : Shared} (h : L2.CX P w outer H s (fun _ _ _ => False) e s') : False := by
  obtain ⟨_, _, _, _, _, _, _, _, _, _, _, _, z⟩ := h
  exact z.elim
theorem fn_calm {P : Program} {w : World} {K : PySem.W.Frag} {mg : Str → Option Value} {base : Heap} {k : Nat} {f : Addr} {fd : FuncData} {ps : List Str} {sp : Sp} (F : FnOk P w K mg base (L2.CX P w) k f fd ps sp) : FnOk P w K mg base CX0 k f fd ps (fun vs H Q _ => sp vs H Q fun _ _ _ => False) :=
  ⟨fun vs H Q E h => F.len vs H Q _ h, fun A outer s H args us vs Q E hr he hb hv hs => codeAny_mono (F.run A outer s H args us vs Q _ hr he hb hv hs) fun r s' q => by
    cases r with
    | error e => exact (hCX1 q).elim
    | ok fl => cases fl <;> exact q⟩
end Mi

set_option Elab.async false
set_option linter.all false
set_option autoImplicit false
set_option maxRecDepth 100000
set_option maxHeartbeats 0
namespace L67
open PySem PySem.Spec PyProof.Rows L2 Mi
abbrev R : PySem.W.OpenRow := PySem.W.OpenLaw.row PySem.Challenge.rw_treesapartways_k67_whole_edits_of_webs
def dfs : List He.DefD := (([defD "is_int" (top 6), defD "is_within" (top 7), defD "is_sized" (top 8), defD "is_rising" (top 9), defD "is_lot" (top 10), defD "is_pair_of" (top 14), defD "is_web" (top 15), defD "check_web" (top 16), defD "raw_is_lot" (top 17), defD "check_lot" (top 18), defD "raw_heads" (top 19), defD "raw_parts" (top 20), defD "parts_by" (top 21), defD "raw_without" (top 22), defD "without" (top 23), defD "raw_fast" (top 24), defD "fast" (top 25), defD "is_edit" (top 28), defD "is_order" (top 29), defD "raw_turned_web" (top 30), defD "raw_edited" (top 31), defD "edited" (top 32), defD "replayed" (top 33), defD "_law_cell" (top 35), defD "_law_draw" (top 36), defD "_law_web" (top 37), defD "_law_whole" (top 38), defD "_law_is_web" (top 39), defD "_law_fast" (top 40), defD "_law_called" (top 41)] : List He.DefD) ++ ([defD "_law_turned" (top 42), defD "_law_edited" (top 43), defD "_law_order" (top 44), defD "_law_edit" (top 45), defD "_law_no_edit" (top 46), defD "_law_refused" (top 47), defD "_law_begin" (top 48), defD "_law_parts_turned" (top 49), defD "_law_done" (top 50), defD "law" (top 51)] : List He.DefD))
def fas : List He.Fa := (([.glo "is_int", .glo "is_within", .glo "is_sized", .glo "is_rising", .glo "is_lot", .glo "is_pair_of", .glo "is_web", .glo "check_web", .glo "raw_is_lot", .glo "check_lot", .glo "raw_heads", .glo "raw_parts", .glo "parts_by", .glo "raw_without", .glo "without", .glo "raw_fast", .glo "fast", .glo "is_edit", .glo "is_order", .glo "raw_turned_web", .glo "raw_edited", .glo "edited", .glo "replayed", .glo "_law_cell", .glo "_law_draw", .glo "_law_web", .glo "_law_whole", .glo "_law_is_web", .glo "_law_fast", .glo "_law_called"] : List He.Fa) ++ ([.glo "_law_turned", .glo "_law_edited", .glo "_law_order", .glo "_law_edit", .glo "_law_no_edit", .glo "_law_refused", .glo "_law_begin", .glo "_law_parts_turned", .glo "_law_done", .glo "law", .glo "NoEdit", .glo "NoLot", .glo "NoWeb", .glo "SIZES", .glo "TreeError", .free "ValueError", .free "all", .free "bool", .free "enumerate", .free "int", .free "isinstance", .free "len", .free "list", .free "max", .free "min", .free "range", .free "set", .free "sorted", .free "str", .free "tuple"] : List He.Fa) ++ ([.free "zip", .int "MOST_PLACES" 12, .int "MOST_TIES" 40] : List He.Fa))
def tbs : List He.Tab := [((fun K => He.ga K "SIZES"), ["tie", "untie", "place", "fast", "turn"])]
def ownC : List Str := ["NoEdit", "TreeError"]
def excL : List Str := ["NoEdit", "NoLot", "NoWeb"]
def exB (K : PySem.W.Frag) : Bool := (excL.all (excB K)) && isaB K ownC isaL && kdB K "SIZES" kd_SIZES
abbrev hk : PySem.W.Hook := He.hookX 4 fas dfs tbs [] exB
def ob (s : PySem.W.SharedT) : He.AlX := He.obsX 4 fas dfs tbs [] exB (HandSHeadRun.getT s)
theorem ob_eq (s : PySem.W.SharedT) : ob s = hk.obs s.abs := He.obsX_eq (HandSHeadRun.getT_eq s)
def loose : List PySem.Str := ((["TreeError", "NoWeb", "NoLot", "NoEdit", "is_int", "is_within", "is_sized", "is_rising", "is_lot", "MOST_PLACES", "MOST_TIES", "is_pair_of", "is_web", "check_web", "raw_is_lot", "check_lot", "raw_heads", "raw_parts", "parts_by", "raw_without", "without", "raw_fast", "fast", "SIZES", "is_edit", "is_order", "raw_turned_web", "raw_edited", "edited", "replayed"] : List PySem.Str) ++ (["_law_cell", "_law_draw", "_law_web", "_law_whole", "_law_is_web", "_law_fast", "_law_called", "_law_turned", "_law_edited", "_law_order", "_law_edit", "_law_no_edit", "_law_refused", "_law_begin", "_law_parts_turned", "_law_done"] : List PySem.Str))
theorem run (w : World) : HandSHeadRun.RunEq R (PySem.W.view R.prog [51]) hk ob 6000 loose w := by
  refine PySem.W.byRow2 "special-get-raises" (P := fun w => HandSHeadRun.RunEq R (PySem.W.view R.prog [51]) hk ob 6000 loose w) ?_ ?_ w
  · intro w os; kernel_rfl
  · intro w os; kernel_rfl
theorem fx {P : Program} {w : World} {K : PySem.W.Frag} {h : Heap} {mg : Str → Option Value} (X : K.In h) (G : h.Ns mainGlobals mg) (c : He.SaysX fas dfs tbs [] exB w h K) : Fx P w K mg := by
  have d := c.t.d
  have e := c.more
  unfold exB at e
  simp only [Bool.and_eq_true] at e
  obtain ⟨⟨h1, h2⟩, k0⟩ := e
  have g_is_int := He.glo_ok X G (d.fact 0 (f := .glo "is_int") rfl)
  have g_is_within := He.glo_ok X G (d.fact 1 (f := .glo "is_within") rfl)
  have g_is_sized := He.glo_ok X G (d.fact 2 (f := .glo "is_sized") rfl)
  have g_is_rising := He.glo_ok X G (d.fact 3 (f := .glo "is_rising") rfl)
  have g_is_lot := He.glo_ok X G (d.fact 4 (f := .glo "is_lot") rfl)
  have g_is_pair_of := He.glo_ok X G (d.fact 5 (f := .glo "is_pair_of") rfl)
  have g_is_web := He.glo_ok X G (d.fact 6 (f := .glo "is_web") rfl)
  have g_check_web := He.glo_ok X G (d.fact 7 (f := .glo "check_web") rfl)
  have g_raw_is_lot := He.glo_ok X G (d.fact 8 (f := .glo "raw_is_lot") rfl)
  have g_check_lot := He.glo_ok X G (d.fact 9 (f := .glo "check_lot") rfl)
  have g_raw_heads := He.glo_ok X G (d.fact 10 (f := .glo "raw_heads") rfl)
  have g_raw_parts := He.glo_ok X G (d.fact 11 (f := .glo "raw_parts") rfl)
  have g_parts_by := He.glo_ok X G (d.fact 12 (f := .glo "parts_by") rfl)
  have g_raw_without := He.glo_ok X G (d.fact 13 (f := .glo "raw_without") rfl)
  have g_without := He.glo_ok X G (d.fact 14 (f := .glo "without") rfl)
  have g_raw_fast := He.glo_ok X G (d.fact 15 (f := .glo "raw_fast") rfl)
  have g_fast := He.glo_ok X G (d.fact 16 (f := .glo "fast") rfl)
  have g_is_edit := He.glo_ok X G (d.fact 17 (f := .glo "is_edit") rfl)
  have g_is_order := He.glo_ok X G (d.fact 18 (f := .glo "is_order") rfl)
  have g_raw_turned_web := He.glo_ok X G (d.fact 19 (f := .glo "raw_turned_web") rfl)
  have g_raw_edited := He.glo_ok X G (d.fact 20 (f := .glo "raw_edited") rfl)
  have g_edited := He.glo_ok X G (d.fact 21 (f := .glo "edited") rfl)
  have g_replayed := He.glo_ok X G (d.fact 22 (f := .glo "replayed") rfl)
  have g__law_cell := He.glo_ok X G (d.fact 23 (f := .glo "_law_cell") rfl)
  have g__law_draw := He.glo_ok X G (d.fact 24 (f := .glo "_law_draw") rfl)
  have g__law_web := He.glo_ok X G (d.fact 25 (f := .glo "_law_web") rfl)
  have g__law_whole := He.glo_ok X G (d.fact 26 (f := .glo "_law_whole") rfl)
  have g__law_is_web := He.glo_ok X G (d.fact 27 (f := .glo "_law_is_web") rfl)
  have g__law_fast := He.glo_ok X G (d.fact 28 (f := .glo "_law_fast") rfl)
  have g__law_called := He.glo_ok X G (d.fact 29 (f := .glo "_law_called") rfl)
  have g__law_turned := He.glo_ok X G (d.fact 30 (f := .glo "_law_turned") rfl)
  have g__law_edited := He.glo_ok X G (d.fact 31 (f := .glo "_law_edited") rfl)
  have g__law_order := He.glo_ok X G (d.fact 32 (f := .glo "_law_order") rfl)
  have g__law_edit := He.glo_ok X G (d.fact 33 (f := .glo "_law_edit") rfl)
  have g__law_no_edit := He.glo_ok X G (d.fact 34 (f := .glo "_law_no_edit") rfl)
  have g__law_refused := He.glo_ok X G (d.fact 35 (f := .glo "_law_refused") rfl)
  have g__law_begin := He.glo_ok X G (d.fact 36 (f := .glo "_law_begin") rfl)
  have g__law_parts_turned := He.glo_ok X G (d.fact 37 (f := .glo "_law_parts_turned") rfl)
  have g__law_done := He.glo_ok X G (d.fact 38 (f := .glo "_law_done") rfl)
  have g_law := He.glo_ok X G (d.fact 39 (f := .glo "law") rfl)
  have g_NoEdit := He.glo_ok X G (d.fact 40 (f := .glo "NoEdit") rfl)
  have g_NoLot := He.glo_ok X G (d.fact 41 (f := .glo "NoLot") rfl)
  have g_NoWeb := He.glo_ok X G (d.fact 42 (f := .glo "NoWeb") rfl)
  have g_SIZES := He.glo_ok X G (d.fact 43 (f := .glo "SIZES") rfl)
  have g_TreeError := He.glo_ok X G (d.fact 44 (f := .glo "TreeError") rfl)
  have n_ValueError := He.free_ok X G (d.fact 45 (f := .free "ValueError") rfl)
  have n_all := He.free_ok X G (d.fact 46 (f := .free "all") rfl)
  have n_bool := He.free_ok X G (d.fact 47 (f := .free "bool") rfl)
  have n_enumerate := He.free_ok X G (d.fact 48 (f := .free "enumerate") rfl)
  have n_int := He.free_ok X G (d.fact 49 (f := .free "int") rfl)
  have n_isinstance := He.free_ok X G (d.fact 50 (f := .free "isinstance") rfl)
  have n_len := He.free_ok X G (d.fact 51 (f := .free "len") rfl)
  have n_list := He.free_ok X G (d.fact 52 (f := .free "list") rfl)
  have n_max := He.free_ok X G (d.fact 53 (f := .free "max") rfl)
  have n_min := He.free_ok X G (d.fact 54 (f := .free "min") rfl)
  have n_range := He.free_ok X G (d.fact 55 (f := .free "range") rfl)
  have n_set := He.free_ok X G (d.fact 56 (f := .free "set") rfl)
  have n_sorted := He.free_ok X G (d.fact 57 (f := .free "sorted") rfl)
  have n_str := He.free_ok X G (d.fact 58 (f := .free "str") rfl)
  have n_tuple := He.free_ok X G (d.fact 59 (f := .free "tuple") rfl)
  have n_zip := He.free_ok X G (d.fact 60 (f := .free "zip") rfl)
  exact {
    exc_NoEdit := excB_ok (List.all_eq_true.mp h1 "NoEdit" (by decide)) g_NoEdit
    exc_NoLot := excB_ok (List.all_eq_true.mp h1 "NoLot" (by decide)) g_NoLot
    exc_NoWeb := excB_ok (List.all_eq_true.mp h1 "NoWeb" (by decide)) g_NoWeb
    free_ValueError := n_ValueError
    free_all := n_all
    free_bool := n_bool
    free_enumerate := n_enumerate
    free_int := n_int
    free_isinstance := n_isinstance
    free_len := n_len
    free_list := n_list
    free_max := n_max
    free_min := n_min
    free_range := n_range
    free_set := n_set
    free_sorted := n_sorted
    free_str := n_str
    free_tuple := n_tuple
    free_zip := n_zip
    glo_NoEdit := ⟨_, g_NoEdit⟩
    glo_TreeError := ⟨_, g_TreeError⟩
    int_MOST_PLACES := He.int_ok X G (d.fact 61 (f := .int "MOST_PLACES" 12) rfl)
    int_MOST_TIES := He.int_ok X G (d.fact 62 (f := .int "MOST_TIES" 40) rfl)
    isa_ := isaB_ok h2 (by
      intro p hp
      simp only [isaL, List.mem_cons, List.not_mem_nil, or_false] at hp
      rcases hp with rfl | rfl | rfl | rfl | rfl | rfl | rfl | rfl | rfl
      · exact g_NoEdit
      · exact g_NoEdit
      · exact g_NoEdit
      · exact g_NoLot
      · exact g_NoLot
      · exact g_NoLot
      · exact g_NoWeb
      · exact g_NoWeb
      · exact g_NoWeb
      ) (by
      intro p hp
      simp only [isaL, List.mem_cons, List.not_mem_nil, or_false] at hp
      rcases hp with rfl | rfl | rfl | rfl | rfl | rfl | rfl | rfl | rfl
      · exact clsV_own (by decide) g_NoEdit
      · exact clsV_own (by decide) g_TreeError
      · exact clsV_ty (.type "ValueError") n_ValueError (by decide) (by decide +kernel) (by decide)
      · exact clsV_own (by decide) g_NoEdit
      · exact clsV_own (by decide) g_TreeError
      · exact clsV_ty (.type "ValueError") n_ValueError (by decide) (by decide +kernel) (by decide)
      · exact clsV_own (by decide) g_NoEdit
      · exact clsV_own (by decide) g_TreeError
      · exact clsV_ty (.type "ValueError") n_ValueError (by decide) (by decide +kernel) (by decide)
      )
    kd_SIZES := kdB_ok k0 g_SIZES (c.t.tab 0 rfl)
    def_is_int := isDef_ok g_is_int (d.def_ 0 (d := defD "is_int" (top 6)) rfl)
    def_is_within := isDef_ok g_is_within (d.def_ 1 (d := defD "is_within" (top 7)) rfl)
    def_is_sized := isDef_ok g_is_sized (d.def_ 2 (d := defD "is_sized" (top 8)) rfl)
    def_is_rising := isDef_ok g_is_rising (d.def_ 3 (d := defD "is_rising" (top 9)) rfl)
    def_is_lot := isDef_ok g_is_lot (d.def_ 4 (d := defD "is_lot" (top 10)) rfl)
    def_is_pair_of := isDef_ok g_is_pair_of (d.def_ 5 (d := defD "is_pair_of" (top 14)) rfl)
    def_is_web := isDef_ok g_is_web (d.def_ 6 (d := defD "is_web" (top 15)) rfl)
    def_check_web := isDef_ok g_check_web (d.def_ 7 (d := defD "check_web" (top 16)) rfl)
    def_raw_is_lot := isDef_ok g_raw_is_lot (d.def_ 8 (d := defD "raw_is_lot" (top 17)) rfl)
    def_check_lot := isDef_ok g_check_lot (d.def_ 9 (d := defD "check_lot" (top 18)) rfl)
    def_raw_heads := isDef_ok g_raw_heads (d.def_ 10 (d := defD "raw_heads" (top 19)) rfl)
    def_raw_parts := isDef_ok g_raw_parts (d.def_ 11 (d := defD "raw_parts" (top 20)) rfl)
    def_parts_by := isDef_ok g_parts_by (d.def_ 12 (d := defD "parts_by" (top 21)) rfl)
    def_raw_without := isDef_ok g_raw_without (d.def_ 13 (d := defD "raw_without" (top 22)) rfl)
    def_without := isDef_ok g_without (d.def_ 14 (d := defD "without" (top 23)) rfl)
    def_raw_fast := isDef_ok g_raw_fast (d.def_ 15 (d := defD "raw_fast" (top 24)) rfl)
    def_fast := isDef_ok g_fast (d.def_ 16 (d := defD "fast" (top 25)) rfl)
    def_is_edit := isDef_ok g_is_edit (d.def_ 17 (d := defD "is_edit" (top 28)) rfl)
    def_is_order := isDef_ok g_is_order (d.def_ 18 (d := defD "is_order" (top 29)) rfl)
    def_raw_turned_web := isDef_ok g_raw_turned_web (d.def_ 19 (d := defD "raw_turned_web" (top 30)) rfl)
    def_raw_edited := isDef_ok g_raw_edited (d.def_ 20 (d := defD "raw_edited" (top 31)) rfl)
    def_edited := isDef_ok g_edited (d.def_ 21 (d := defD "edited" (top 32)) rfl)
    def_replayed := isDef_ok g_replayed (d.def_ 22 (d := defD "replayed" (top 33)) rfl)
    def__law_cell := isDef_ok g__law_cell (d.def_ 23 (d := defD "_law_cell" (top 35)) rfl)
    def__law_draw := isDef_ok g__law_draw (d.def_ 24 (d := defD "_law_draw" (top 36)) rfl)
    def__law_web := isDef_ok g__law_web (d.def_ 25 (d := defD "_law_web" (top 37)) rfl)
    def__law_whole := isDef_ok g__law_whole (d.def_ 26 (d := defD "_law_whole" (top 38)) rfl)
    def__law_is_web := isDef_ok g__law_is_web (d.def_ 27 (d := defD "_law_is_web" (top 39)) rfl)
    def__law_fast := isDef_ok g__law_fast (d.def_ 28 (d := defD "_law_fast" (top 40)) rfl)
    def__law_called := isDef_ok g__law_called (d.def_ 29 (d := defD "_law_called" (top 41)) rfl)
    def__law_turned := isDef_ok g__law_turned (d.def_ 30 (d := defD "_law_turned" (top 42)) rfl)
    def__law_edited := isDef_ok g__law_edited (d.def_ 31 (d := defD "_law_edited" (top 43)) rfl)
    def__law_order := isDef_ok g__law_order (d.def_ 32 (d := defD "_law_order" (top 44)) rfl)
    def__law_edit := isDef_ok g__law_edit (d.def_ 33 (d := defD "_law_edit" (top 45)) rfl)
    def__law_no_edit := isDef_ok g__law_no_edit (d.def_ 34 (d := defD "_law_no_edit" (top 46)) rfl)
    def__law_refused := isDef_ok g__law_refused (d.def_ 35 (d := defD "_law_refused" (top 47)) rfl)
    def__law_begin := isDef_ok g__law_begin (d.def_ 36 (d := defD "_law_begin" (top 48)) rfl)
    def__law_parts_turned := isDef_ok g__law_parts_turned (d.def_ 37 (d := defD "_law_parts_turned" (top 49)) rfl)
    def__law_done := isDef_ok g__law_done (d.def_ 38 (d := defD "_law_done" (top 50)) rfl)
    def_law := isDef_ok g_law (d.def_ 39 (d := defD "law" (top 51)) rfl)
  }
theorem facts {P : Program} {w : World} {K : PySem.W.Frag} {h : Heap} {mg : Str → Option Value} {f : Addr} (X : K.In h) (G : h.Ns mainGlobals mg) (hfa : mg ("law" : Str) = some (.ref f)) (c : He.SaysX fas dfs tbs [] exB w h K) :
    ∃ fd : FuncData, (∀ (s : Shared) (v : Value), BindsTo s fd ⟨[v], []⟩ [("script", v)]) ∧ ∀ base : Heap, FnOk P w K mg base (L2.CX P w) 10 f fd ["script"] (spM ⟨P, w, K, mg, 0⟩ false 1 f_law) := by
  have T : Fx P w K mg := fx X G c
  obtain ⟨f1, fd, g1, F⟩ := T.def_law.ex
  have b := FunD.bindsA (ps := ["script"]) F fun _ _ _ _ _ _ us hl => match us, hl with | [_], _ => rfl
  have e := hfa.symm.trans g1
  cases e
  refine ⟨fd, fun s v => b s [v] rfl, fun base => ?_⟩
  obtain ⟨f2, fd2, g2, k2, b2, l2, ok⟩ := has_law (base := base) T
  exact has_same g1 (funD_look F) g2 l2 ok
end L67

set_option Elab.async false
set_option linter.all false
set_option autoImplicit false
set_option maxRecDepth 100000
set_option maxHeartbeats 4000000
namespace Mi
open PySem PySem.Spec PyProof.Rows L2

/-! ### mirrors, worked out -/
def Rs.thn {α β : Type} (r : Rs α) (f : α → M β) : Rs β := match r with
  | .ok a ρ => f a ρ
  | .ex x ρ => .ex x ρ
  | .stuck => .stuck
section
variable {α β : Type} {ρ : Env} {d : D} {o : O} {i : Nat}
@[simp] theorem thn_ok {a : α} {f : α → M β} : Rs.thn (.ok a ρ) f = f a ρ := (rfl)
@[simp] theorem thn_ex {x : Ex} {f : α → M β} : Rs.thn (.ex x ρ) f = .ex x ρ := (rfl)
@[simp] theorem thn_stuck {f : α → M β} : Rs.thn (.stuck : Rs α) f = .stuck := (rfl)
@[simp] theorem bind_ev {m : M α} {f : α → M β} : M.bind m f ρ = Rs.thn (m ρ) f := by
  unfold M.bind Rs.thn
  cases m ρ <;> rfl
@[simp] theorem pure_ev {a : α} : M.pure a ρ = .ok a ρ := (rfl)
@[simp] theorem of_some {a : α} : M.of (some a) ρ = .ok a ρ := (rfl)
@[simp] theorem of_none : M.of (none : Option α) ρ = .stuck := (rfl)
@[simp] theorem stuck_ev : (M.stuck : M α) ρ = .stuck := (rfl)
@[simp] theorem mC_ev : mC d ρ = .ok (.o (.val d)) ρ := (rfl)
theorem ite_ev {p : Prop} [Decidable p] {a b : M α} : (if p then a else b) ρ = if p then a ρ else b ρ := by split <;> rfl
@[simp] theorem iteT_ev {p : Prop} [Decidable p] {a b : M α} (h : p) : (if p then a else b) ρ = a ρ := by rw [if_pos h]
@[simp] theorem iteF_ev {p : Prop} [Decidable p] {a b : M α} (h : ¬ p) : (if p then a else b) ρ = b ρ := by rw [if_neg h]
/-- a slot's look -/
def varR (i : Nat) (ρ : Env) : Option (Option O) → Rs RV
  | some (some (.val d)) => .ok (.o (.val d)) ρ
  | some (some _) => .ok (.at i) ρ
  | _ => .stuck
@[simp] theorem mVar_ev : mVar i ρ = varR i ρ ρ[i]? := by
  unfold mVar varR
  cases ρ[i]? with
  | none => rfl
  | some o => cases o with
    | none => rfl
    | some o => cases o <;> rfl
@[simp] theorem varR_val : varR i ρ (some (some (.val d))) = .ok (.o (.val d)) ρ := (rfl)
@[simp] theorem varR_lst {xs : List D} : varR i ρ (some (some (.lst xs))) = .ok (.at i) ρ := (rfl)
@[simp] theorem varR_dic {xs : List (Key × D)} : varR i ρ (some (some (.dic xs))) = .ok (.at i) ρ := (rfl)
@[simp] theorem varR_exc {x : Ex} : varR i ρ (some (some (.exc x))) = .ok (.at i) ρ := (rfl)
@[simp] theorem varR_ins {c : Str} {fs : List (Str × O)} : varR i ρ (some (some (.ins c fs))) = .ok (.at i) ρ := (rfl)
def peekR (ρ : Env) : Option (Option O) → Rs D
  | some (some o) => M.of (dataO o) ρ
  | _ => .stuck
@[simp] theorem peek_o : peek (.o o) ρ = M.of (dataO o) ρ := (rfl)
@[simp] theorem peek_at : peek (.at i) ρ = peekR ρ ρ[i]? := by
  show (match ρ[i]? with
    | some (some o) => M.of (dataO o) ρ
    | _ => .stuck) = _
  cases ρ[i]? with
  | none => rfl
  | some o => cases o <;> rfl
@[simp] theorem peekR_some : peekR ρ (some (some o)) = M.of (dataO o) ρ := (rfl)
@[simp] theorem dataO_val : dataO (.val d) = some d := (rfl)
@[simp] theorem dataO_lst {xs : List D} : dataO (.lst xs) = some (.lst xs) := (rfl)
@[simp] theorem dataO_dic {xs : List (Key × D)} : dataO (.dic xs) = some (.dic xs) := (rfl)
def toDR (i : Nat) (ρ : Env) : Option (Option O) → Rs D
  | some (some o) => match dataO o with
    | some d => .ok d (ρ.set i (some (.val d)))
    | none => .stuck
  | _ => .stuck
@[simp] theorem toD_o : toD (.o o) ρ = M.of (dataO o) ρ := (rfl)
@[simp] theorem toD_at : toD (.at i) ρ = toDR i ρ ρ[i]? := by
  show (match ρ[i]? with
    | some (some o) => match dataO o with
      | some d => Rs.ok d (ρ.set i (some (.val d)))
      | none => .stuck
    | _ => .stuck) = _
  cases ρ[i]? with
  | none => rfl
  | some o => cases o <;> rfl
@[simp] theorem toDR_lst {xs : List D} : toDR i ρ (some (some (.lst xs))) = .ok (.lst xs) (ρ.set i (some (.val (.lst xs)))) := (rfl)
@[simp] theorem toDR_dic {xs : List (Key × D)} : toDR i ρ (some (some (.dic xs))) = .ok (.dic xs) (ρ.set i (some (.val (.dic xs)))) := (rfl)
@[simp] theorem toDR_val : toDR i ρ (some (some (.val d))) = .ok d (ρ.set i (some (.val d))) := (rfl)
@[simp] theorem boolD_bl {b : Bool} : boolD (.bl b) = some b := (rfl)
@[simp] theorem intD_int {i : Int} : intD (.int i) = some i := (rfl)
@[simp] theorem mBin_ev {g : D → D → Option O} {a b : M RV} : mBin g a b ρ = Rs.thn (a ρ) fun ra => M.bind b fun rb => M.bind (peek ra) fun x => M.bind (peek rb) fun y => M.of ((g x y).map RV.o) := by unfold mBin; simp
@[simp] theorem mFn1_ev {g : D → Option O} {a : M RV} : mFn1 g a ρ = Rs.thn (a ρ) fun r => M.bind (peek r) fun d => M.of ((g d).map RV.o) := by unfold mFn1; simp
@[simp] theorem mTst_ev {a : M RV} : mTst a ρ = Rs.thn (a ρ) fun r => M.bind (peek r) fun d => M.of (boolD d) := by unfold mTst; simp
@[simp] theorem mAnd_ev {a b : M Bool} : mAnd a b ρ = Rs.thn (a ρ) fun x => if x = true then b else M.pure false := by unfold mAnd; simp
@[simp] theorem mOr_ev {a b : M Bool} : mOr a b ρ = Rs.thn (a ρ) fun x => if x = true then M.pure true else b := by unfold mOr; simp
@[simp] theorem mNot_ev {a : M Bool} : mNot a ρ = Rs.thn (a ρ) fun x => M.pure (!x) := by unfold mNot; simp
@[simp] theorem mIf_ev {t : M Bool} {a b : M RV} : mIf t a b ρ = Rs.thn (t ρ) fun x => if x = true then a else b := by unfold mIf; simp
@[simp] theorem mAndV_ev {a b : M RV} : mAndV a b ρ = Rs.thn (a ρ) fun r => M.bind (peek r) fun d => M.bind (M.of (boolD d)) fun x => if x = true then b else mC (.bl false) := by unfold mAndV; simp
@[simp] theorem mOrV_ev {a b : M RV} : mOrV a b ρ = Rs.thn (a ρ) fun r => M.bind (peek r) fun d => M.bind (M.of (boolD d)) fun x => if x = true then mC (.bl true) else b := by unfold mOrV; simp
@[simp] theorem mNotV_ev {a : M RV} : mNotV a ρ = Rs.thn (a ρ) fun r => M.bind (peek r) fun d => M.bind (M.of (boolD d)) fun x => mC (.bl (!x)) := by unfold mNotV; simp
@[simp] theorem mChain_ev {f g : D → D → Option Bool} {a b d : M RV} : mChain f g a b d ρ = Rs.thn (a ρ) fun ra => M.bind b fun rb => M.bind (peek ra) fun x => M.bind (peek rb) fun y => M.bind (M.of (f x y)) fun k =>
  if k = true then M.bind d fun rd => M.bind (peek rb) fun y => M.bind (peek rd) fun z => M.bind (M.of (g y z)) fun k' => mC (.bl k') else mC (.bl false) := by unfold mChain; simp
@[simp] theorem mNil_ev : mNil ρ = .ok [] ρ := (rfl)
@[simp] theorem mCons_ev {m : M RV} {ms : M (List D)} : mCons m ms ρ = Rs.thn (m ρ) fun r => M.bind (toD r) fun d => M.bind ms fun ds => M.pure (d :: ds) := by unfold mCons; simp
@[simp] theorem mTup_ev {ms : M (List D)} : mTup ms ρ = Rs.thn (ms ρ) fun ds => if ds.length ≤ sizeLine then M.pure (.o (.val (.tup ds))) else M.stuck := by unfold mTup; simp
@[simp] theorem mLst_ev {ms : M (List D)} : mLst ms ρ = Rs.thn (ms ρ) fun ds => if ds.length ≤ sizeLine then M.pure (.o (.lst ds)) else M.stuck := by unfold mLst; simp
def seqK (b : M Ctl) : Ctl → M Ctl
  | .nx => b
  | k => M.pure k
@[simp] theorem seqK_nx {b : M Ctl} : seqK b .nx = b := (rfl)
@[simp] theorem seqK_bk {b : M Ctl} : seqK b .bk = M.pure .bk := (rfl)
@[simp] theorem seqK_ct {b : M Ctl} : seqK b .ct = M.pure .ct := (rfl)
@[simp] theorem seqK_rt {b : M Ctl} {r : RV} : seqK b (.rt r) = M.pure (.rt r) := (rfl)
@[simp] theorem mSeq_ev {a b : M Ctl} : mSeq a b ρ = Rs.thn (a ρ) (seqK b) := by
  unfold mSeq
  rw [bind_ev]
  congr 1
@[simp] theorem mSkip_ev : mSkip ρ = .ok .nx ρ := (rfl)
@[simp] theorem mRet_ev {m : M RV} : mRet m ρ = Rs.thn (m ρ) fun r => M.pure (.rt r) := by unfold mRet; simp
@[simp] theorem mExpr_ev {m : M RV} : mExpr m ρ = Rs.thn (m ρ) fun _ => M.pure .nx := by unfold mExpr; simp
@[simp] theorem mIfS_ev {t : M Bool} {a b : M Ctl} : mIfS t a b ρ = Rs.thn (t ρ) fun x => if x = true then a else b := by unfold mIfS; simp
@[simp] theorem mAsg_ev {m : M RV} {g : RV → M Unit} : mAsg m g ρ = Rs.thn (m ρ) fun r => M.bind (g r) fun _ => M.pure .nx := by unfold mAsg; simp
@[simp] theorem gNm_o {i : Nat} : gNm false i (.o o) ρ = .ok () (ρ.set i (some o)) := by
  unfold gNm
  rw [if_neg (by simp)]
@[simp] theorem gNm_self {i : Nat} : gNm false i (.at i) ρ = .ok () ρ := by
  unfold gNm
  rw [if_neg (by simp)]
  simp
def gAtR (i j : Nat) (ρ : Env) : Option (Option O) → Rs Unit
  | some (some o) => .ok () ((ρ.set j none).set i (some o))
  | _ => .stuck
theorem gNm_at {i j : Nat} (h : j ≠ i) : gNm false i (.at j) ρ = gAtR i j ρ ρ[j]? := by
  unfold gNm
  rw [if_neg (by simp)]
  simp only [Bool.false_eq_true, false_and, if_false, if_neg h]
  unfold gAtR
  cases ρ[j]? with
  | none => rfl
  | some o => cases o <;> rfl
@[simp] theorem gAtR_some {i j : Nat} : gAtR i j ρ (some (some o)) = .ok () ((ρ.set j none).set i (some o)) := (rfl)
@[simp] theorem gTp_ev {gs : List (RV → M Unit)} {r : RV} : gTp gs r ρ = Rs.thn (toD r ρ) fun d => M.bind (M.of (tupOf d)) fun ds => if ds.length = gs.length then gSeq gs ds else M.stuck := by unfold gTp; simp
@[simp] theorem tupOf_tup {ds : List D} : tupOf (.tup ds) = some ds := (rfl)
@[simp] theorem gSeq_nil : gSeq [] [] ρ = .ok () ρ := (rfl)
@[simp] theorem gSeq_cons {g : RV → M Unit} {gs : List (RV → M Unit)} {ds : List D} : gSeq (g :: gs) (d :: ds) ρ = Rs.thn (g (.o (.val d)) ρ) fun _ => gSeq gs ds := by
  show M.bind (g (.o (.val d))) (fun _ => gSeq gs ds) ρ = _
  simp
def parK (i j : Nat) : RV → RV → M Ctl
  | .o a, .o b => fun ρ => .ok .nx ((ρ.set i (some a)).set j (some b))
  | _, _ => fun _ => .stuck
@[simp] theorem parK_o {i j : Nat} {a b : O} : parK i j (.o a) (.o b) ρ = .ok .nx ((ρ.set i (some a)).set j (some b)) := (rfl)
@[simp] theorem mPar_ev {i j : Nat} {ma mb : M RV} : mPar false i j ma mb ρ = Rs.thn (ma ρ) fun ra => M.bind mb fun rb => parK i j ra rb := by
  unfold mPar
  rw [bind_ev]
  congr 1
  funext ra
  congr 1
  funext rb ρ
  cases ra <;> cases rb <;> first | rfl | (unfold parK; simp)
@[simp] theorem mNo_ev : mNo ρ = .ok none ρ := (rfl)
@[simp] theorem mPart_ev {m : M RV} : mPart m ρ = Rs.thn (m ρ) fun r => M.bind (peek r) fun d => M.bind (M.of (intD d)) fun i => M.pure (some i) := by unfold mPart; simp
@[simp] theorem mSl_ev {m : M RV} {lo hi : M (Option Int)} : mSl m lo hi ρ = Rs.thn (m ρ) fun r => M.bind lo fun l => M.bind hi fun h => M.bind (peek r) fun d => M.of ((slD d l h).map RV.o) := by unfold mSl; simp
@[simp] theorem mIter_ev {m : M RV} : mIter m ρ = Rs.thn (m ρ) fun r => M.bind (toD r) fun d => M.of (itemsD d) := by unfold mIter; simp
@[simp] theorem mEnum_ev {m : M RV} : mEnum m ρ = Rs.thn (m ρ) fun r => M.bind (toD r) fun d => M.bind (M.of (seqD d)) fun ds => M.pure (enumD ds) := by unfold mEnum; simp
@[simp] theorem mZip_ev {a b : M RV} : mZip a b ρ = Rs.thn (a ρ) fun ra => M.bind (toD ra) fun x => M.bind b fun rb => M.bind (toD rb) fun y => M.of (zip2D x y) := by unfold mZip; simp
def rngM (i : Int) : M (List D) := if rngOk i = true then M.pure (rangeD 0 i.toNat) else M.stuck
def rng2M (i j : Int) : M (List D) := if (rngOk i && rngOk j) = true then M.pure (rangeD i (j - i).toNat) else M.stuck
def rgM (f : List D → O) (i j : Int) : M RV := if rgOk i j = true then M.pure (.o (f (rgD i j))) else M.stuck
@[simp] theorem mRange1_ev {m : M RV} : mRange1 m ρ = Rs.thn (m ρ) fun r => M.bind (peek r) fun d => M.bind (M.of (intD d)) rngM := by unfold mRange1; rw [bind_ev] <;> rfl
@[simp] theorem mRange2_ev {a b : M RV} : mRange2 a b ρ = Rs.thn (a ρ) fun ra => M.bind b fun rb => M.bind (peek ra) fun x => M.bind (peek rb) fun y => M.bind (M.of (intD x)) fun i => M.bind (M.of (intD y)) fun j => rng2M i j := by unfold mRange2; rw [bind_ev] <;> rfl
@[simp] theorem mRg1_ev {m : M RV} {f : List D → O} : mRg1 m f ρ = Rs.thn (m ρ) fun ra => M.bind (peek ra) fun x => M.bind (M.of (intD x)) fun j => rgM f 0 j := by unfold mRg1; rw [bind_ev] <;> rfl
theorem rngOk_small {i : Int} (h : 0 ≤ i) (h2 : i ≤ 16777216) : rngOk i = true := by
  unfold rngOk
  rw [Bool.and_eq_true, decide_eq_true_eq, decide_eq_true_eq]
  omega
theorem rngM_ok {i : Int} (h : 0 ≤ i) (h2 : i ≤ 16777216) : rngM i ρ = .ok (rangeD 0 i.toNat) ρ := by
  unfold rngM
  rw [if_pos (rngOk_small h h2)] <;> rfl
theorem rng2M_ok {i j : Int} (h : 0 ≤ i) (h2 : i ≤ 16777216) (h3 : 0 ≤ j) (h4 : j ≤ 16777216) : rng2M i j ρ = .ok (rangeD i (j - i).toNat) ρ := by
  unfold rng2M
  rw [if_pos (by rw [rngOk_small h h2, rngOk_small h3 h4] <;> rfl)] <;> rfl
theorem rgM_ok {i : Int} {f : List D → O} (h : 0 ≤ i) (h2 : i ≤ 16777216) : rgM f 0 i ρ = .ok (.o (f (rgD 0 i))) ρ := by
  unfold rgM
  have e : rgOk 0 i = true := by
    unfold rgOk
    rw [decide_eq_true_eq]
    omega
  rw [if_pos e] <;> rfl
theorem rngM_nat {n : Nat} (h : n ≤ 4096) : rngM (n : Int) ρ = .ok ((List.range n).map fun (i : Nat) => .int (i : Nat)) ρ := by
  rw [rngM_ok (by omega) (by omega)]
  unfold rangeD
  simp
def callR (r : Rs O) (ρ : Env) : Rs RV := match r with
  | .ok o _ => .ok (.o o) ρ
  | .ex x _ => .ex x ρ
  | .stuck => .stuck
@[simp] theorem callR_ok {ρ1 : Env} : callR (.ok o ρ1) ρ = .ok (.o o) ρ := (rfl)
@[simp] theorem callR_ex {ρ1 : Env} {x : Ex} : callR (.ex x ρ1) ρ = .ex x ρ := (rfl)
@[simp] theorem mCall_ev {n : Nat} {fn : Fn} {ms : M (List D)} : mCall n fn ms ρ = Rs.thn (ms ρ) fun ds ρ => if ds.length = n then callR (fn (ds.map O.val)) ρ else .stuck := by
  unfold mCall
  rw [bind_ev]
  congr 1
/-- what a def's body ends with -/
def endR (io : Bool) : Rs Ctl → Rs O
  | .ok .nx ρ => .ok (.val .non) (ioE io ρ)
  | .ok (.rt (.o o)) ρ => .ok o (ioE io ρ)
  | .ok (.rt (.at i)) ρ => if io = true ∧ i = 0 then .stuck else match ρ[i]? with
    | some (some o) => .ok o (ioE io ρ)
    | _ => .stuck
  | .ex x ρ => .ex x (ioE io ρ)
  | _ => .stuck
theorem mkFn_ev {io : Bool} {n : Nat} {body : M Ctl} {args : List O} : mkFn io n body args = endR io (body (args.map some ++ List.replicate n none)) := by
  unfold mkFn endR
  cases body (args.map some ++ List.replicate n none) with
  | stuck => rfl
  | ex x ρ => rfl
  | ok k ρ => cases k with
    | nx => rfl
    | bk => rfl
    | ct => rfl
    | rt r => cases r <;> rfl
@[simp] theorem endR_nx {io : Bool} : endR io (.ok .nx ρ) = .ok (.val .non) (ioE io ρ) := (rfl)
@[simp] theorem endR_o {io : Bool} : endR io (.ok (.rt (.o o)) ρ) = .ok o (ioE io ρ) := (rfl)
@[simp] theorem endR_ex {io : Bool} {x : Ex} : endR io (.ex x ρ) = .ex x (ioE io ρ) := (rfl)
def endAtR (ρ : Env) : Option (Option O) → Rs O
  | some (some o) => .ok o []
  | _ => .stuck
@[simp] theorem endR_at : endR false (.ok (.rt (.at i)) ρ) = endAtR ρ ρ[i]? := by
  unfold endR endAtR
  simp only [Bool.false_eq_true, false_and, if_false]
  cases ρ[i]? with
  | none => rfl
  | some o => cases o <;> rfl
@[simp] theorem endAtR_some : endAtR ρ (some (some o)) = .ok o [] := (rfl)
@[simp] theorem ioE_false : ioE false ρ = [] := (rfl)
@[simp] theorem mRaise_ev {x : Str} : mRaise x ρ = .ex ⟨x, none⟩ ρ := (rfl)
/-! loops -/
@[simp] theorem mFor_ev {it : M (List D)} {g : RV → M Unit} {b : M Ctl} : mFor it g b ρ = Rs.thn (it ρ) fun ds => loopM g b ds := by unfold mFor; simp
@[simp] theorem loop_nil {g : RV → M Unit} {b : M Ctl} : loopM g b [] ρ = .ok .nx ρ := (rfl)
def loopK (g : RV → M Unit) (b : M Ctl) (ds : List D) : Ctl → M Ctl
  | .nx => loopM g b ds
  | .ct => loopM g b ds
  | .bk => M.pure .nx
  | .rt r => M.pure (.rt r)
@[simp] theorem loopK_nx {g : RV → M Unit} {b : M Ctl} {ds : List D} : loopK g b ds .nx = loopM g b ds := (rfl)
@[simp] theorem loopK_ct {g : RV → M Unit} {b : M Ctl} {ds : List D} : loopK g b ds .ct = loopM g b ds := (rfl)
@[simp] theorem loopK_bk {g : RV → M Unit} {b : M Ctl} {ds : List D} : loopK g b ds .bk = M.pure .nx := (rfl)
@[simp] theorem loopK_rt {g : RV → M Unit} {b : M Ctl} {ds : List D} {r : RV} : loopK g b ds (.rt r) = M.pure (.rt r) := (rfl)
/-- one turn -/
def turnL (g : RV → M Unit) (b : M Ctl) (d : D) : M Ctl := M.bind (g (.o (.val d))) fun _ => b
theorem loop_turn {g : RV → M Unit} {b : M Ctl} {ds : List D} : loopM g b (d :: ds) ρ = Rs.thn (turnL g b d ρ) (loopK g b ds) := by
  have e : loopM g b (d :: ds) ρ = M.bind (g (.o (.val d))) (fun _ => M.bind b (loopK g b ds)) ρ := by
    show M.bind _ _ ρ = _
    congr 1
  rw [e]
  unfold turnL
  rw [bind_ev, bind_ev]
  cases g (.o (.val d)) ρ with
  | ok a ρ1 => simp
  | ex => rfl
  | stuck => rfl
/-- a loop that runs to its end, by an invariant -/
theorem loop_inv {g : RV → M Unit} {b : M Ctl} (P : Nat → Env → Prop) : ∀ (ds : List D) (k : Nat) (ρ : Env), P k ρ → (∀ i d ρ, ds[i]? = some d → P (k + i) ρ → ∃ ρ', (turnL g b d ρ = .ok .nx ρ' ∨ turnL g b d ρ = .ok .ct ρ') ∧ P (k + i + 1) ρ') →
    ∃ ρ', loopM g b ds ρ = .ok .nx ρ' ∧ P (k + ds.length) ρ'
  | [], k, ρ, h0, _ => ⟨ρ, rfl, h0⟩
  | d :: ds, k, ρ, h0, h => by
    obtain ⟨ρ1, h1, h2⟩ := h 0 d ρ rfl h0
    obtain ⟨ρ2, h3, h4⟩ := loop_inv P ds (k + 1) ρ1 h2 fun i d' ρ' e p => by
      have e1 : k + 1 + i = k + (i + 1) := by omega
      rw [e1] at p ⊢
      exact h (i + 1) d' ρ' e p
    have e2 : k + 1 + ds.length = k + (d :: ds).length := by rw [List.length_cons]; omega
    rw [e2] at h4
    refine ⟨ρ2, ?_, h4⟩
    rw [loop_turn]
    rcases h1 with h1 | h1 <;> rw [h1] <;> exact h3
/-- a loop that may give a value -/
theorem loop_ret {g : RV → M Unit} {b : M Ctl} (P : Nat → Env → Prop) (R : Nat → RV → Env → Prop) : ∀ (ds : List D) (k : Nat) (ρ : Env), P k ρ →
    (∀ i d ρ, ds[i]? = some d → P (k + i) ρ → (∃ ρ', (turnL g b d ρ = .ok .nx ρ' ∨ turnL g b d ρ = .ok .ct ρ') ∧ P (k + i + 1) ρ') ∨ ∃ r ρ', turnL g b d ρ = .ok (.rt r) ρ' ∧ R (k + i) r ρ') →
    (∃ ρ', loopM g b ds ρ = .ok .nx ρ' ∧ P (k + ds.length) ρ') ∨ ∃ i r ρ', i < ds.length ∧ loopM g b ds ρ = .ok (.rt r) ρ' ∧ R (k + i) r ρ'
  | [], k, ρ, h0, _ => .inl ⟨ρ, rfl, h0⟩
  | d :: ds, k, ρ, h0, h => by
    rcases h 0 d ρ rfl h0 with ⟨ρ1, h1, h2⟩ | ⟨r, ρ1, h1, h2⟩
    · have e0 : loopM g b (d :: ds) ρ = loopM g b ds ρ1 := by
        rw [loop_turn]
        rcases h1 with h1 | h1 <;> rw [h1] <;> rfl
      rcases loop_ret P R ds (k + 1) ρ1 h2 fun i d' ρ' e p => by
        have e1 : k + 1 + i = k + (i + 1) := by omega
        rw [e1] at p ⊢
        exact h (i + 1) d' ρ' e p with ⟨ρ2, h3, h4⟩ | ⟨i, r, ρ2, hi, h3, h4⟩
      · refine .inl ⟨ρ2, by rw [e0]; exact h3, ?_⟩
        have e1 : k + 1 + ds.length = k + (ds.length + 1) := by omega
        rw [e1] at h4
        exact h4
      · refine .inr ⟨i + 1, r, ρ2, by simp; omega, by rw [e0]; exact h3, ?_⟩
        have e1 : k + 1 + i = k + (i + 1) := by omega
        rw [e1] at h4
        exact h4
    · refine .inr ⟨0, r, ρ1, by simp, ?_, h2⟩
      rw [loop_turn, h1]
      rfl
/-! comprehensions -/
theorem comp_go {own : List Nat} {g : RV → M Unit} {tt : M Bool} {te : M RV} {ρ1 : Env} {sel : D → Option D} : ∀ (ds acc : List D) (ρ : Env), wipeE ρ own = wipeE ρ1 own →
    (∀ d ∈ ds, ∃ ρ2, turnM g tt te d (wipeE ρ1 own) = .ok (sel d) ρ2 ∧ wipeE ρ2 own = wipeE ρ1 own) → acc.length + ds.length ≤ sizeLine →
    ∃ ρ2, compL own g tt te ds acc ρ = .ok (acc ++ ds.filterMap sel) ρ2 ∧ wipeE ρ2 own = wipeE ρ1 own
  | [], acc, ρ, hρ, _, _ => ⟨ρ, by simp [compL], hρ⟩
  | d :: ds, acc, ρ, hρ, h, hl => by
    obtain ⟨ρ2, h1, h2⟩ := h d (by simp)
    rw [List.length_cons] at hl
    have e : compL own g tt te (d :: ds) acc ρ = Rs.thn (turnM g tt te d (wipeE ρ own)) fun o => match o with
      | some d' => if acc.length < sizeLine then compL own g tt te ds (acc ++ [d']) else M.stuck
      | none => compL own g tt te ds acc := by
      show M.bind (turnM g tt te d) _ (wipeE ρ own) = _
      rw [bind_ev] <;> rfl
    rw [e, hρ, h1, thn_ok]
    cases q : sel d with
    | none =>
      obtain ⟨ρ3, h3, h4⟩ := comp_go ds acc ρ2 h2 (fun d hd => h d (by simp [hd])) (by omega)
      exact ⟨ρ3, by simp only [List.filterMap_cons, q]; exact h3, h4⟩
    | some d' =>
      obtain ⟨ρ3, h3, h4⟩ := comp_go ds (acc ++ [d']) ρ2 h2 (fun d hd => h d (by simp [hd])) (by simp; omega)
      refine ⟨ρ3, ?_, h4⟩
      simp only [List.filterMap_cons, q]
      rw [iteT_ev (by omega), h3]
      simp
theorem wipeE_in {ρ : Env} : ∀ {own : List Nat} {k : Nat}, k ∈ own → k < ρ.length → (wipeE ρ own)[k]? = some none
  | i :: is, k, h, hl => by
    unfold wipeE
    by_cases hk : i = k
    · subst hk
      rw [List.getElem?_set_self (by rw [wipeE_length]; exact hl)]
    · rw [List.getElem?_set_ne hk]
      exact wipeE_in ((List.mem_cons.mp h).resolve_left fun e => hk e.symm) hl
theorem backE_eq {own : List Nat} {ρ1 ρ2 : Env} (h : wipeE ρ2 own = wipeE ρ1 own) : backE ρ1 ρ2 own = ρ1 := by
  have hl : ρ2.length = ρ1.length := by
    have := congrArg List.length h
    rwa [wipeE_length, wipeE_length] at this
  apply List.ext_getElem?
  intro k
  unfold backE
  rw [List.getElem?_mapIdx]
  by_cases hlt : k < ρ1.length
  · by_cases hk : k ∈ own
    · have hlt2 : k < ρ2.length := by rw [hl]; exact hlt
      simp [hk, hlt, hlt2]
    · have := congrArg (fun l => l[k]?) h
      simp only [wipeE_out hk] at this
      rw [this, List.getElem?_eq_getElem hlt]
      simp [hk]
  · rw [List.getElem?_eq_none (by omega), List.getElem?_eq_none (by omega)]
    rfl
theorem comp_ev {own : List Nat} {it : M (List D)} {g : RV → M Unit} {tt : M Bool} {te : M RV} {ρ ρ1 : Env} {ds : List D} (sel : D → Option D) (hi : it ρ = .ok ds ρ1)
    (h : ∀ d ∈ ds, ∃ ρ2, turnM g tt te d (wipeE ρ1 own) = .ok (sel d) ρ2 ∧ wipeE ρ2 own = wipeE ρ1 own) (hl : ds.length ≤ sizeLine) : mComp own it g tt te ρ = .ok (.o (.lst (ds.filterMap sel))) ρ1 := by
  obtain ⟨ρ2, h1, h2⟩ := comp_go (own := own) (g := g) (tt := tt) (te := te) ds [] ρ1 rfl h (by simpa using hl)
  unfold mComp
  rw [bind_ev, hi, thn_ok]
  simp only [h1]
  rw [backE_eq h2]
  simp
/-- every item gives one -/
theorem comp_map {own : List Nat} {it : M (List D)} {g : RV → M Unit} {te : M RV} {ρ ρ1 : Env} {ds : List D} (f : D → D) (hi : it ρ = .ok ds ρ1)
    (h : ∀ d ∈ ds, ∃ ρ2, turnM g mYes te d (wipeE ρ1 own) = .ok (some (f d)) ρ2 ∧ wipeE ρ2 own = wipeE ρ1 own) (hl : ds.length ≤ sizeLine) : mComp own it g mYes te ρ = .ok (.o (.lst (ds.map f))) ρ1 := by
  rw [comp_ev (fun d => some (f d)) hi h hl]
  simp
@[simp] theorem turnM_ev {g : RV → M Unit} {tt : M Bool} {te : M RV} : turnM g tt te d ρ = noEx (M.bind (g (.o (.val d))) fun _ => M.bind tt fun b => if b = true then M.bind te fun r => M.bind (toD r) fun d' => M.pure (some d') else M.pure none) ρ := (rfl)
def noExR {α : Type} : Rs α → Rs α
  | .ex _ _ => .stuck
  | r => r
@[simp] theorem noEx_ev {m : M α} : noEx m ρ = noExR (m ρ) := by
  unfold noEx noExR
  cases m ρ <;> rfl
@[simp] theorem noExR_ok {a : α} : noExR (.ok a ρ) = .ok a ρ := (rfl)
@[simp] theorem mYes_ev : mYes ρ = .ok true ρ := (rfl)
@[simp] theorem wipeE_nil : wipeE ρ [] = ρ := (rfl)
@[simp] theorem wipeE_cons {is : List Nat} : wipeE ρ (i :: is) = (wipeE ρ is).set i none := (rfl)
end
/-! comprehensions over a row of plain things -/
def okR {α : Type} (r : Rs α) (p : α → Env → Prop) : Prop := match r with
  | .ok a ρ => p a ρ
  | _ => False
@[simp] theorem okR_ok {α : Type} {a : α} {ρ : Env} {p : α → Env → Prop} : okR (.ok a ρ) p = p a ρ := (rfl)
theorem okR_ex {α : Type} {r : Rs α} {p : α → Env → Prop} (h : okR r p) : ∃ a ρ, r = .ok a ρ ∧ p a ρ := by
  cases r with
  | ok a ρ => exact ⟨a, ρ, rfl, h⟩
  | ex => exact h.elim
  | stuck => exact h.elim
def turnOk (own : List Nat) (g : RV → M Unit) (tt : M Bool) (te : M RV) (d : D) (ρ1 : Env) (r : Option D) : Prop := okR (turnM g tt te d (wipeE ρ1 own)) fun o ρ2 => o = r ∧ wipeE ρ2 own = wipeE ρ1 own
theorem comp_selF {α : Type} {own : List Nat} {it : M (List D)} {g : RV → M Unit} {tt : M Bool} {te : M RV} {ρ : Env} (ρ1 : Env) (xs : List α) (e : α → D) (p : α → Bool) (f : α → D) (hi : it ρ = .ok (xs.map e) ρ1)
    (h : ∀ x ∈ xs, turnOk own g tt te (e x) ρ1 (if p x then some (f x) else none)) (hl : xs.length ≤ sizeLine) : mComp own it g tt te ρ = .ok (.o (.lst ((xs.filter p).map f))) ρ1 := by
  have key : ∀ (ys : List α) (acc : List D) (ρ0 : Env), wipeE ρ0 own = wipeE ρ1 own → (∀ x ∈ ys, turnOk own g tt te (e x) ρ1 (if p x then some (f x) else none)) → acc.length + ys.length ≤ sizeLine →
      ∃ ρ2, compL own g tt te (ys.map e) acc ρ0 = .ok (acc ++ (ys.filter p).map f) ρ2 ∧ wipeE ρ2 own = wipeE ρ1 own := by
    intro ys
    induction ys with
    | nil => intro acc ρ0 h0 _ _; exact ⟨ρ0, by simp [compL], h0⟩
    | cons y ys ih =>
      intro acc ρ0 h0 hh hl
      obtain ⟨o, ρ2, h1, rfl, h2⟩ := okR_ex (hh y (by simp))
      rw [List.length_cons] at hl
      cases hp : p y with
      | true =>
        obtain ⟨ρ3, h3, h4⟩ := ih (acc ++ [f y]) ρ2 h2 (fun x hx => hh x (by simp [hx])) (by simp; omega)
        refine ⟨ρ3, ?_, h4⟩
        show M.bind (turnM g tt te (e y)) _ (wipeE ρ0 own) = _
        rw [hp, if_pos rfl] at h1
        rw [bind_ev, h0, h1, thn_ok]
        have q : acc.length < sizeLine := by omega
        simp only [q, if_true]
        rw [h3]
        simp [hp]
      | false =>
        obtain ⟨ρ3, h3, h4⟩ := ih acc ρ2 h2 (fun x hx => hh x (by simp [hx])) (by omega)
        refine ⟨ρ3, ?_, h4⟩
        show M.bind (turnM g tt te (e y)) _ (wipeE ρ0 own) = _
        rw [hp, if_neg (by simp)] at h1
        rw [bind_ev, h0, h1, thn_ok]
        simp only
        rw [h3]
        simp [hp]
  obtain ⟨ρ2, h1, h2⟩ := key xs [] ρ1 rfl h (by simpa using hl)
  unfold mComp
  rw [bind_ev, hi, thn_ok]
  simp only [h1]
  rw [backE_eq h2]
  simp
theorem comp_mapF {α : Type} {own : List Nat} {it : M (List D)} {g : RV → M Unit} {te : M RV} {ρ : Env} (ρ1 : Env) (xs : List α) (e : α → D) (f : α → D) (hi : it ρ = .ok (xs.map e) ρ1)
    (h : ∀ x ∈ xs, turnOk own g mYes te (e x) ρ1 (some (f x))) (hl : xs.length ≤ sizeLine) : mComp own it g mYes te ρ = .ok (.o (.lst (xs.map f))) ρ1 := by
  rw [comp_selF ρ1 xs e (fun _ => true) f hi (fun x hx => by simpa using h x hx) hl, List.filter_eq_self.mpr (fun _ _ => rfl)]
/-! small data facts -/
theorem atI0 {α : Type} {x : α} {xs : List α} : atI (x :: xs) 0 = some x := by
  unfold atI ixN
  simp
theorem atI1 {α : Type} {x y : α} {xs : List α} : atI (x :: y :: xs) 1 = some y := by
  unfold atI ixN
  have : (1 : Int) < xs.length + 1 + 1 := by omega
  simp [this]
theorem atI2 {α : Type} {x y z : α} {xs : List α} : atI (x :: y :: z :: xs) 2 = some z := by
  unfold atI ixN
  have : (2 : Int) < xs.length + 1 + 1 + 1 := by omega
  simp [this]
@[simp] theorem ix_tup {xs : List D} {i : Int} : ixD (.tup xs) (.int i) = (atI xs i).map O.val := by
  show (ixL _ _).or ((ixT _ _).or (ixS _ _)) = _
  simp only [ixL, ixT, ixS, Option.none_or, Option.or_none]
@[simp] theorem ix_lst {xs : List D} {i : Int} : ixD (.lst xs) (.int i) = (atI xs i).map O.val := by
  show (ixL _ _).or ((ixT _ _).or (ixS _ _)) = _
  simp only [ixL, ixT, ixS, Option.or_none]
@[simp] theorem ix_scr {xs : List D} {i : Int} : ixD (.scr xs) (.int i) = (atI xs i).map O.val := by
  show (ixL _ _).or ((ixT _ _).or (ixS _ _)) = _
  simp only [ixL, ixT, ixS, Option.or_none]
theorem atI_map {α β : Type} {f : α → β} {xs : List α} {i : Int} : atI (xs.map f) i = (atI xs i).map f := by
  unfold atI
  rw [List.length_map]
  cases ixN xs.length i <;> simp
theorem atI_nn {α : Type} {xs : List α} {i : Int} (h : 0 ≤ i) : atI xs i = xs[i.toNat]? := by
  unfold atI ixN
  rw [if_pos h]
  by_cases h2 : i < xs.length
  · rw [if_pos h2]; rfl
  · rw [if_neg h2, List.getElem?_eq_none (by omega)]; rfl
theorem blsD_map {α : Type} {f : α → Bool} : ∀ xs : List α, blsD (xs.map fun x => .bl (f x)) = some (xs.map f)
  | [] => rfl
  | x :: xs => by simp [blsD, blsD_map xs]
theorem all_map {α : Type} {f : α → Bool} {xs : List α} : allD (.lst (xs.map fun x => .bl (f x))) = some (.val (.bl (xs.all f))) := by
  show (blsD (xs.map fun x => .bl (f x))).map (fun bs => O.val (.bl (bs.all id))) = _
  rw [blsD_map]
  simp [List.all_map, Function.comp_def]
theorem intsD_map {α : Type} {f : α → Int} : ∀ xs : List α, intsD (xs.map fun x => .int (f x)) = some (xs.map f)
  | [] => rfl
  | x :: xs => by simp [intsD, intsD_map xs]
@[simp] theorem leB_ii {i j : Int} : leB (.int i) (.int j) = some (decide (i ≤ j)) := (rfl)
@[simp] theorem ltB_ii {i j : Int} : ltB (.int i) (.int j) = some (decide (i < j)) := (rfl)
@[simp] theorem ltD_ii {i j : Int} : ltD (.int i) (.int j) = some (.val (.bl (decide (i < j)))) := (rfl)
@[simp] theorem leD_ii {i j : Int} : leD (.int i) (.int j) = some (.val (.bl (decide (i ≤ j)))) := (rfl)
@[simp] theorem gtD_ii {i j : Int} : gtD (.int i) (.int j) = some (.val (.bl (decide (j < i)))) := (rfl)
@[simp] theorem geD_ii {i j : Int} : geD (.int i) (.int j) = some (.val (.bl (decide (j ≤ i)))) := (rfl)
@[simp] theorem addD_ii {i j : Int} : addD (.int i) (.int j) = some (.val (.int (i + j))) := (rfl)
@[simp] theorem subD_ii {i j : Int} : subD (.int i) (.int j) = some (.val (.int (i - j))) := (rfl)
@[simp] theorem min2_ii {i j : Int} : min2D (.int i) (.int j) = some (.val (.int (if j < i then j else i))) := (rfl)
@[simp] theorem max2_ii {i j : Int} : max2D (.int i) (.int j) = some (.val (.int (if j > i then j else i))) := (rfl)
@[simp] theorem len_tup {xs : List D} : lenA (.tup xs) = some (.val (.int xs.length)) := (rfl)
@[simp] theorem len_lst {xs : List D} : lenA (.lst xs) = some (.val (.int xs.length)) := (rfl)
@[simp] theorem len_scr {xs : List D} : lenA (.scr xs) = some (.val (.int xs.length)) := (rfl)
@[simp] theorem tup_lst {xs : List D} : tupD (.lst xs) = some (.val (.tup xs)) := (rfl)
@[simp] theorem tup_tup {xs : List D} : tupD (.tup xs) = some (.val (.tup xs)) := (rfl)
@[simp] theorem lst_lst {xs : List D} : listD (.lst xs) = some (.lst xs) := (rfl)
@[simp] theorem lst_tup {xs : List D} : listD (.tup xs) = some (.lst xs) := (rfl)
@[simp] theorem items_tup {xs : List D} : itemsD (.tup xs) = some xs := (rfl)
@[simp] theorem items_lst {xs : List D} : itemsD (.lst xs) = some xs := (rfl)
@[simp] theorem isi_tup {xs : List D} : isiO "tuple" (.tup xs) = some (.val (.bl true)) := (rfl)
@[simp] theorem isi_int {i : Int} : isiO "int" (.int i) = some (.val (.bl true)) := (rfl)
@[simp] theorem isi_intb {i : Int} : isiO "bool" (.int i) = some (.val (.bl false)) := (rfl)
@[simp] theorem isi_str {x : Str} : isiO "str" (.str x) = some (.val (.bl true)) := (rfl)
@[simp] theorem int_int {i : Int} : intOf (.int i) = some (.val (.int i)) := (rfl)
@[simp] theorem int_bl {b : Bool} : intOf (.bl b) = some (.val (.int (if b then 1 else 0))) := (rfl)
@[simp] theorem neg_int {i : Int} : negO (.int i) = some (.val (.int (-i))) := (rfl)
theorem line4k : (4096 : Nat) ≤ sizeLine := by rw [sizeLine_eq]; omega
@[simp] theorem line_0 : (0 : Nat) ≤ sizeLine := Nat.zero_le _
@[simp] theorem line_1 : (1 : Nat) ≤ sizeLine := by rw [sizeLine_eq]; omega
@[simp] theorem line_2 : (2 : Nat) ≤ sizeLine := by rw [sizeLine_eq]; omega
@[simp] theorem line_3 : (3 : Nat) ≤ sizeLine := by rw [sizeLine_eq]; omega
@[simp] theorem line_4 : (4 : Nat) ≤ sizeLine := by rw [sizeLine_eq]; omega
@[simp] theorem line_8 : (8 : Nat) ≤ sizeLine := by rw [sizeLine_eq]; omega
theorem cut_drop {α : Type} {xs : List α} {k : Nat} (h : k ≤ xs.length) : cutD xs (some (k : Int)) none = xs.drop k := by
  unfold cutD
  rw [HT.sIx_nat, HT.sIx_none, Nat.min_eq_left h, List.take_of_length_le]
  rw [List.length_drop]
  exact Nat.le_refl _
theorem cut_take {α : Type} {xs : List α} {k : Nat} (h : k ≤ xs.length) : cutD xs none (some (k : Int)) = xs.take k := by
  unfold cutD
  rw [HT.sIx_nat, HT.sIx_none, Nat.min_eq_left h]
  simp
@[simp] theorem cut1 {α : Type} {x : α} {xs : List α} : cutD (x :: xs) (some 1) none = xs := cut_drop (k := 1) (by simp)
@[simp] theorem sl_tup {xs : List D} {lo hi : Option Int} : slD (.tup xs) lo hi = some (.val (.tup (cutD xs lo hi))) := (rfl)
@[simp] theorem sl_lst {xs : List D} {lo hi : Option Int} : slD (.lst xs) lo hi = some (.lst (cutD xs lo hi)) := (rfl)
@[simp] theorem eqD_ii {i j : Int} : eqD (.int i) (.int j) = some (.val (.bl (decide (i = j)))) := by
  have e : eqv (.int i) (.int j) = decide (i = j) := by
    show PyData.eqv (.int i) (.int j) = _
    simp [PyData.eqv]
    by_cases h : i = j <;> simp [h]
  have k : ∀ i : Int, okD (.int i) = true := fun i => rfl
  unfold eqD
  rw [k, k, e]
  rfl
@[simp] theorem neD_ii {i j : Int} : neD (.int i) (.int j) = some (.val (.bl (!decide (i = j)))) := by
  have e : eqv (.int i) (.int j) = decide (i = j) := by
    show PyData.eqv (.int i) (.int j) = _
    simp [PyData.eqv]
    by_cases h : i = j <;> simp [h]
  have k : ∀ i : Int, okD (.int i) = true := fun i => rfl
  unfold neD
  rw [k, k, e]
  rfl
theorem eqv_ii {i j : Int} : eqv (.int i) (.int j) = decide (i = j) := by
  show PyData.eqv (.int i) (.int j) = _
  simp [PyData.eqv]
  by_cases h : i = j <;> simp [h]
/-! equal data -/
mutual
theorem eqvP_refl : ∀ {d : PyData}, d.canLay0 = true → PyData.eqv d d = true
  | .none, _ => by simp [PyData.eqv]
  | .bool _, _ => by simp [PyData.eqv]
  | .int _, _ => by simp [PyData.eqv]
  | .str _, _ => by simp [PyData.eqv]
  | .list xs, h => by simp only [PyData.eqv]; exact eqvAll_refl (by simpa [PyData.canLay0] using h)
  | .tuple xs, h => by simp only [PyData.eqv]; exact eqvAll_refl (by simpa [PyData.canLay0] using h)
  | .dict _, h => by simp [PyData.canLay0] at h
theorem eqvAll_refl : ∀ {xs : List PyData}, PyData.canLayAll0 xs = true → PyData.eqvAll xs xs = true
  | [], _ => by simp [PyData.eqvAll]
  | x :: xs, h => by
    simp only [PyData.canLayAll0, Bool.and_eq_true] at h
    simp only [PyData.eqvAll, Bool.and_eq_true]
    exact ⟨eqvP_refl h.1, eqvAll_refl h.2⟩
end
theorem eqD_refl {d : D} (h : okD d = true) : eqD d d = some (.val (.bl true)) := by
  unfold eqD
  rw [h, show eqv d d = true from eqvP_refl (SeqAt.canLay_of_shaped h)]
  rfl
theorem neD_refl {d : D} (h : okD d = true) : neD d d = some (.val (.bl false)) := by
  unfold neD
  rw [h, show eqv d d = true from eqvP_refl (SeqAt.canLay_of_shaped h)]
  rfl
/-- data of small depth and good texts -/
def ok1 (k : Nat) (d : D) : Prop := (py d).canLay0 = true ∧ (py d).depth ≤ k
theorem okD_of {d : D} {k : Nat} (h : ok1 k d) (hk : k ≤ 64) : okD d = true := by
  unfold okD SeqAt.shaped
  rw [h.1, Bool.true_and, decide_eq_true_eq]
  exact Nat.le_trans h.2 hk
theorem ok1_int {i : Int} : ok1 0 (.int i) := ⟨rfl, Nat.le_refl _⟩
theorem ok1_bl {i : Bool} : ok1 0 (.bl i) := ⟨rfl, Nat.le_refl _⟩
theorem ok1_non : ok1 0 .non := ⟨rfl, Nat.le_refl _⟩
theorem ok1_mono {d : D} {k j : Nat} (h : ok1 k d) (hk : k ≤ j) : ok1 j d := ⟨h.1, Nat.le_trans h.2 hk⟩
theorem okL {k : Nat} : ∀ {xs : List D}, (∀ x ∈ xs, ok1 k x) → PyData.canLayAll0 (pyL xs) = true ∧ PyData.depthAll (pyL xs) ≤ k
  | [], _ => ⟨rfl, by simp [pyL, PyData.depthAll]⟩
  | x :: xs, h => by
    obtain ⟨h1, h2⟩ := okL (xs := xs) fun y hy => h y (by simp [hy])
    obtain ⟨h3, h4⟩ := h x (by simp)
    refine ⟨by simp [pyL, PyData.canLayAll0, h1, h3], ?_⟩
    simp only [pyL, PyData.depthAll]
    omega
theorem ok1_tup {k : Nat} {xs : List D} (h : ∀ x ∈ xs, ok1 k x) : ok1 (k + 1) (.tup xs) := by
  obtain ⟨h1, h2⟩ := okL h
  exact ⟨by simpa [py, PyData.canLay0] using h1, by simp only [py, PyData.depth]; omega⟩
theorem ok1_lst {k : Nat} {xs : List D} (h : ∀ x ∈ xs, ok1 k x) : ok1 (k + 1) (.lst xs) := by
  obtain ⟨h1, h2⟩ := okL h
  exact ⟨by simpa [py, PyData.canLay0] using h1, by simp only [py, PyData.depth]; omega⟩
@[simp] theorem zip_tt {xs ys : List D} : zip2D (.tup xs) (.tup ys) = some (zipD xs ys) := (rfl)
theorem zipD_map {α β : Type} {f : α → D} {g : β → D} (xs : List α) (ys : List β) : zipD (xs.map f) (ys.map g) = (xs.zip ys).map fun p => .tup [f p.1, g p.2] := by
  unfold zipD
  induction xs generalizing ys with
  | nil => rfl
  | cons x xs ih =>
    cases ys with
    | nil => rfl
    | cons y ys => simp [ih]
end Mi

set_option Elab.async false
set_option linter.all false
set_option autoImplicit false
set_option maxRecDepth 100000
set_option maxHeartbeats 4000000
namespace Mi
open PySem PySem.Spec PyProof.Rows L2
/-! ### sorting whole numbers -/
def iLe (a b : Int) : Bool := decide (a ≤ b)
theorem dLe_int {a b : Int} : dLe (.int a) (.int b) = iLe a b := by
  have h := congrFun (congrFun (PySem.W.dataLe_int (fun b : Int => b)) a) b
  exact h
theorem sortOk_ints (ns : List Int) : sortOk (ns.map .int) = true := by
  unfold sortOk
  simp only [Bool.and_eq_true, Bool.or_eq_true, List.all_eq_true, List.mem_map, decide_eq_true_eq]
  refine ⟨⟨⟨?_, .inr ?_⟩, ?_⟩, ?_⟩
  · rintro _ ⟨n, _, rfl⟩; rfl
  · rintro _ ⟨n, _, rfl⟩; rfl
  · rintro _ ⟨n, _, rfl⟩ _ ⟨k, _, rfl⟩; rfl
  · rintro _ ⟨n, _, rfl⟩; exact Nat.zero_le _
theorem sort_map_int (ns : List Int) : (ns.map D.int).mergeSort dLe = (ns.mergeSort iLe).map D.int :=
  (List.map_mergeSort (r := iLe) (f := D.int) (s := dLe) fun a _ b _ => dLe_int.symm).symm
theorem sortA_lst (ns : List Int) : sortA (.lst (ns.map .int)) = some (.lst ((ns.mergeSort iLe).map .int)) := by
  have e : sortD (.lst (ns.map .int)) = some (.lst ((ns.mergeSort iLe).map .int)) := by
    show (if sortOk (ns.map D.int) = true then _ else _) = _
    rw [if_pos (sortOk_ints ns), sort_map_int]
  unfold sortA
  rw [e]
  rfl
theorem sortA_tup (ns : List Int) : sortA (.tup (ns.map .int)) = some (.lst ((ns.mergeSort iLe).map .int)) := by
  have e : sortD (.tup (ns.map .int)) = some (.lst ((ns.mergeSort iLe).map .int)) := by
    show (if sortOk (ns.map D.int) = true then _ else _) = _
    rw [if_pos (sortOk_ints ns), sort_map_int]
  unfold sortA
  rw [e]
  rfl
theorem iLe_trans (a b c : Int) (h1 : iLe a b = true) (h2 : iLe b c = true) : iLe a c = true := by
  unfold iLe at *
  simp at *
  omega
theorem iLe_total (a b : Int) : (iLe a b || iLe b a) = true := by
  unfold iLe
  simp
  omega
theorem sort_pw (ns : List Int) : (ns.mergeSort iLe).Pairwise (· ≤ ·) :=
  (List.pairwise_mergeSort iLe_trans iLe_total ns).imp fun h => by simpa [iLe] using h
theorem sort_eq {xs ns : List Int} (h : xs.Pairwise (· ≤ ·)) (p : xs.Perm ns) : ns.mergeSort iLe = xs :=
  (List.Perm.eq_of_pairwise (le := fun a b => a ≤ b) (fun a b _ _ h1 h2 => by omega) h (sort_pw ns) (p.trans (List.mergeSort_perm _ _).symm)).symm
def mnI (a b : Int) : Int := if b < a then b else a
def mxI (a b : Int) : Int := if b > a then b else a
theorem sort_pair (x y : Int) : [x, y].mergeSort iLe = [mnI x y, mxI x y] := by
  unfold mnI mxI
  refine sort_eq ?_ ?_
  · by_cases h : y < x
    · rw [if_pos h, if_neg (by omega)]; simp; omega
    · rw [if_neg h]
      by_cases h2 : y > x
      · rw [if_pos h2]; simp; omega
      · rw [if_neg h2]; simp
  · by_cases h : y < x
    · rw [if_pos h, if_neg (by omega)]; exact List.Perm.swap _ _ _
    · rw [if_neg h]
      by_cases h2 : y > x
      · rw [if_pos h2]
      · rw [if_neg h2, show y = x by omega]
@[simp] theorem sortA_pair (x y : Int) : sortA (.lst [.int x, .int y]) = some (.lst [.int (mnI x y), .int (mxI x y)]) := by
  have := sortA_lst [x, y]
  rw [sort_pair] at this
  exact this
theorem best_pair {mx : Bool} {x y : Int} : bestO mx (.tup [.int x, .int y]) = some (.val (.int (if mx then mxI x y else mnI x y))) := by
  have k : bestOk [.int x, .int y] = true := rfl
  show (if bestOk [.int x, .int y] then some (O.val (bestD mx (.int x) [.int y])) else none) = _
  rw [k, if_pos rfl]
  have l1 : PySem.W.dataLt (.int x) (.int y) = decide (x < y) := PySem.W.dataLt_int x y
  have l2 : PySem.W.dataLt (.int y) (.int x) = decide (y < x) := PySem.W.dataLt_int y x
  cases mx
  · show some (O.val (if lesD false (.int x) (.int y) then D.int y else D.int x)) = _
    have e : lesD false (.int x) (.int y) = decide (y < x) := l2
    rw [e]
    unfold mnI
    by_cases h : y < x <;> simp [h]
  · show some (O.val (if lesD true (.int x) (.int y) then D.int y else D.int x)) = _
    have e : lesD true (.int x) (.int y) = decide (x < y) := l1
    rw [e]
    unfold mxI
    by_cases h : x < y <;> simp [h]
@[simp] theorem best_mn {x y : Int} : bestO false (.tup [.int x, .int y]) = some (.val (.int (mnI x y))) := best_pair
@[simp] theorem best_mx {x y : Int} : bestO true (.tup [.int x, .int y]) = some (.val (.int (mxI x y))) := best_pair
/-! ### sets of them -/
def ordL (H : List Int) : List Int := (ddp H).mergeSort iLe
theorem setD_lst {H : List Int} (h : H.length ≤ 4000) : setD (.lst (H.map .int)) = some (.val (.set (ddp H))) := by
  show ((intsD (H.map fun x => D.int x)).bind fun ns => if ns.length + 1 < scanBound then some (O.val (.set (ddp ns))) else none) = _
  have e := intsD_map (f := fun x : Int => x) H
  simp only [List.map_id'] at e
  rw [e, Option.bind_some, if_pos (by unfold scanBound; omega)]
theorem sortA_set {ns : List Int} (h : ns.length < 64) : sortA (.set ns) = some (.lst ((ns.mergeSort iLe).map .int)) := by
  have e : setSortD (.set ns) = some (.lst ((ns.mergeSort iLe).map .int)) := by
    show (if ns.length < 64 then _ else _) = _
    rw [if_pos h]
    rfl
  unfold sortA
  rw [e]
  rfl
theorem len_set {ns : List Int} : lenA (.set ns) = some (.val (.int ns.length)) := rfl
theorem range_self {α : Type} (ts : List α) (d : α) : (List.range ts.length).map (fun i => ts.getD i d) = ts := by
  apply List.ext_getElem
  · simp
  · intro i h1 h2
    simp at h1
    simp [List.getD_eq_getElem?_getD, h1]
theorem range_fm {α β : Type} (ts : List α) (d : α) (p : α → Bool) (f : α → β) : ((List.range ts.length).filter fun i => p (ts.getD i d)).map (fun i => f (ts.getD i d)) = (ts.filter p).map f := by
  have h := range_self ts d
  have : (ts.filter p).map f = (((List.range ts.length).map fun i => ts.getD i d).filter p).map f := by rw [h]
  rw [this, List.filter_map, List.map_map]
  rfl
/-! ### places written, methods that change -/
section
variable {i : Nat} {m : M RV} {d ix : D} {ρ : Env} {o o' : O} {ms : M (List D)} {g : O → List D → Option (D × O)} {ds : List D}
def subS (i : Nat) (ρ : Env) : Option O → Rs Unit
  | some o' => .ok () (ρ.set i (some o'))
  | none => .stuck
def subR (i : Nat) (d ix : D) (ρ : Env) : Option (Option O) → Rs Unit
  | some (some o) => subS i ρ (setO o ix d)
  | _ => .stuck
def subK (i : Nat) (d ix : D) : M Unit := fun ρ => subR i d ix ρ ρ[i]?
def subG (i : Nat) (m : M RV) (d : D) (ρ : Env) : Option (Option O) → Rs Unit
  | some (some _) => Rs.thn (m ρ) fun ri => M.bind (peek ri) fun ix => subK i d ix
  | _ => .stuck
@[simp] theorem subK_ev : subK i d ix ρ = subR i d ix ρ ρ[i]? := (rfl)
@[simp] theorem subR_some : subR i d ix ρ (some (some o)) = subS i ρ (setO o ix d) := (rfl)
@[simp] theorem subS_some : subS i ρ (some o') = .ok () (ρ.set i (some o')) := (rfl)
@[simp] theorem subG_some : subG i m d ρ (some (some o)) = Rs.thn (m ρ) fun ri => M.bind (peek ri) fun ix => subK i d ix := (rfl)
theorem gSubM_eq : gSubM i m (.o (.val d)) ρ = subG i m d ρ ρ[i]? := by
  show (match ρ[i]? with
    | some (some _) => M.bind m (fun ri => M.bind (peek ri) fun ix ρ1 => match ρ1[i]? with
      | some (some o) => match setO o ix d with
        | some o' => Rs.ok () (ρ1.set i (some o'))
        | none => .stuck
      | _ => .stuck) ρ
    | _ => .stuck) = _
  cases ρ[i]? with
  | none => rfl
  | some o => cases o with
    | none => rfl
    | some o =>
      simp only [subG_some]
      rw [bind_ev]
      congr 1
@[simp] theorem gSubQ_ev : gSubQ i m (.o (.val d)) ρ = noExR (subG i m d ρ ρ[i]?) := by
  unfold gSubQ
  rw [noEx_ev, gSubM_eq]
def mutS (i : Nat) (ρ : Env) : Option (D × O) → Rs RV
  | some (d, o') => .ok (.o (.val d)) (ρ.set i (some o'))
  | none => .stuck
def mutR (i : Nat) (g : O → List D → Option (D × O)) (ds : List D) (ρ : Env) : Option (Option O) → Rs RV
  | some (some o) => mutS i ρ (g o ds)
  | _ => .stuck
def mutK (i : Nat) (g : O → List D → Option (D × O)) (ds : List D) : M RV := fun ρ => mutR i g ds ρ ρ[i]?
def mutG (i : Nat) (ms : M (List D)) (g : O → List D → Option (D × O)) (ρ : Env) : Option (Option O) → Rs RV
  | some (some (.lst _)) => Rs.thn (ms ρ) fun ds => mutK i g ds
  | _ => .stuck
@[simp] theorem mutK_ev : mutK i g ds ρ = mutR i g ds ρ ρ[i]? := (rfl)
@[simp] theorem mutR_some : mutR i g ds ρ (some (some o)) = mutS i ρ (g o ds) := (rfl)
@[simp] theorem mutS_some : mutS i ρ (some (d, o')) = .ok (.o (.val d)) (ρ.set i (some o')) := (rfl)
@[simp] theorem mutG_some {xs : List D} : mutG i ms g ρ (some (some (.lst xs))) = Rs.thn (ms ρ) fun ds => mutK i g ds := (rfl)
@[simp] theorem mMut_ev : mMut i ms g ρ = mutG i ms g ρ ρ[i]? := by
  unfold mMut
  cases ρ[i]? with
  | none => rfl
  | some o => cases o with
    | none => rfl
    | some o => cases o with
      | lst xs =>
        simp only [mutG_some]
        rw [bind_ev]
        congr 1
      | val => rfl
      | dic => rfl
      | ins => rfl
      | exc => rfl
theorem append_ok {xs : List D} (h : xs.length < sizeLine) : appendG (.lst xs) [d] = some (.non, .lst (xs ++ [d])) := by
  show (if _ then _ else _) = _
  rw [if_pos h]
theorem set_ok {xs : List D} {k : Int} (h0 : 0 ≤ k) (h1 : k < xs.length) : setO (.lst xs) (.int k) d = some (.lst (xs.set k.toNat d)) := by
  show (ixN xs.length k).map _ = _
  unfold ixN
  rw [if_pos h0, if_pos h1]
  rfl
theorem popAt_ok {xs : List D} {k : Int} (h0 : 0 ≤ k) (h1 : k < xs.length) (hl : xs.length ≤ 4096) : popAtG (.lst xs) [.int k] = some (xs.getD k.toNat .non, .lst (xs.eraseIdx k.toNat)) := by
  have hb : -(2 ^ 63) ≤ k ∧ k < 2 ^ 63 := by omega
  show (if _ then _ else _) = _
  rw [if_pos hb, seqIndex_of h0 h1]
  have : k.toNat < xs.length := by omega
  simp [List.getD_eq_getElem?_getD, this]
end
/-! ### dicts made in a row -/
def turnDOk (own : List Nat) (g : RV → M Unit) (tt : M Bool) (tk tv : M RV) (d : D) (ρ1 : Env) (r : Option (Key × D)) : Prop := okR (turnD g tt tk tv d (wipeE ρ1 own)) fun o ρ2 => o = r ∧ wipeE ρ2 own = wipeE ρ1 own
@[simp] theorem turnD_ev {g : RV → M Unit} {tt : M Bool} {tk tv : M RV} {d : D} {ρ : Env} : turnD g tt tk tv d ρ = noExR (Rs.thn (g (.o (.val d)) ρ) fun _ => M.bind tt fun b => if b = true then M.bind tk fun rk => M.bind tv fun rv => M.bind (peek rk) fun dk => M.bind (M.of (keyD dk)) fun k => M.bind (toD rv) fun d' => M.pure (some (k, d')) else M.pure none) := by
  unfold turnD
  rw [noEx_ev, bind_ev]
@[simp] theorem keyD_int {i : Int} : keyD (.int i) = some (.inl i) := (rfl)
@[simp] theorem keyD_str {i : Str} : keyD (.str i) = some (.inr i) := (rfl)
theorem putD_new {kvs : List (Key × D)} {k : Key} {v : D} (h : k ∉ kvs.map (·.1)) : putD kvs k v = kvs ++ [(k, v)] := by
  unfold putD
  rw [if_neg]
  intro q
  rw [List.any_eq_true] at q
  obtain ⟨x, hx, e⟩ := q
  exact h (List.mem_map.mpr ⟨x, hx, of_decide_eq_true e⟩)
theorem dcomp_mapF {α : Type} {own : List Nat} {it : M (List D)} {g : RV → M Unit} {tk tv : M RV} {ρ : Env} (ρ1 : Env) (xs : List α) (e : α → D) (κ : α → Key) (f : α → D) (hi : it ρ = .ok (xs.map e) ρ1) (nd : (xs.map κ).Nodup)
    (h : ∀ x ∈ xs, turnDOk own g mYes tk tv (e x) ρ1 (some (κ x, f x))) (hl : xs.length ≤ sizeLine) : mDComp own it g mYes tk tv ρ = .ok (.o (.dic (xs.map fun x => (κ x, f x)))) ρ1 := by
  have key : ∀ (ys zs : List α) (ρ0 : Env), zs ++ ys = xs → wipeE ρ0 own = wipeE ρ1 own →
      ∃ ρ2, dcompL own g mYes tk tv (ys.map e) (zs.map fun x => (κ x, f x)) ρ0 = .ok (xs.map fun x => (κ x, f x)) ρ2 ∧ wipeE ρ2 own = wipeE ρ1 own := by
    intro ys
    induction ys with
    | nil => intro zs ρ0 hz h0; rw [List.append_nil] at hz; subst hz; exact ⟨ρ0, rfl, h0⟩
    | cons y ys ih =>
      intro zs ρ0 hz h0
      have hy : y ∈ xs := by rw [← hz]; simp
      obtain ⟨o, ρ2, h1, rfl, h2⟩ := okR_ex (h y hy)
      obtain ⟨ρ3, h3, h4⟩ := ih (zs ++ [y]) ρ2 (by rw [← hz]; simp) h2
      refine ⟨ρ3, ?_, h4⟩
      show M.bind (turnD g mYes tk tv (e y)) _ (wipeE ρ0 own) = _
      rw [bind_ev, h0, h1, thn_ok]
      have q : (zs.map fun x => (κ x, f x)).length < sizeLine := by
        have := congrArg List.length hz
        rw [List.length_append, List.length_cons] at this
        rw [List.length_map]
        omega
      have nk : κ y ∉ (zs.map fun x => (κ x, f x)).map (·.1) := by
        rw [← hz, List.map_append, List.map_cons] at nd
        have := (List.nodup_append.mp nd).2.2
        rw [List.map_map]
        intro hm
        exact this _ hm _ (by simp) rfl
      simp only [q, if_true, putD_new nk]
      rw [List.map_append] at h3
      exact h3
  obtain ⟨ρ2, h1, h2⟩ := key xs [] ρ1 rfl rfl
  unfold mDComp
  rw [bind_ev, hi, thn_ok]
  have h1' : dcompL own g mYes tk tv (xs.map e) [] ρ1 = .ok (xs.map fun x => (κ x, f x)) ρ2 := h1
  simp only [h1']
  rw [backE_eq h2]
@[simp] theorem ixK_dic {kvs : List (Key × D)} {i : Int} : ixK (.dic kvs) (.int i) = (lookD kvs (.inl i)).map O.val := (rfl)
@[simp] theorem seq_tup {xs : List D} : seqD (.tup xs) = some xs := (rfl)
@[simp] theorem seq_lst {xs : List D} : seqD (.lst xs) = some xs := (rfl)
theorem enumD_eq (xs : List D) : enumD xs = (List.range xs.length).map fun (i : Nat) => .tup [.int (i : Nat), xs.getD i .non] := rfl
theorem mulD_lst {xs : List D} {k : Nat} (hk : k ≤ 4096) (h : xs.length * k ≤ 16777216) : mulD (.lst xs) (.int (k : Int)) = some (.lst (List.replicate k xs).flatten) := by
  have e : mulD (.lst xs) (.int (k : Int)) = if -(2 ^ 63) ≤ (k : Int) ∧ (k : Int) < 2 ^ 63 ∧ xs.length * (k : Int).toNat ≤ sizeLine then some (.lst (List.replicate (k : Int).toNat xs).flatten) else none := by simp only [mulD]
  rw [e, if_pos]
  · simp
  · refine ⟨by omega, by omega, ?_⟩
    rw [sizeLine_eq]
    simpa using h
/-! ### arithmetic -/
theorem mulD_ii {i j : Int} (h : mulI i j = true) : mulD (.int i) (.int j) = some (.val (.int (i * j))) := by
  show (if _ then _ else _) = _
  rw [if_pos h]
theorem mulI_r {i j : Int} (h : j.natAbs < 2 ^ 64) : mulI i j = true := by
  unfold mulI
  rw [decide_eq_true h, Bool.or_true]
theorem mulI_l {i j : Int} (h : i.natAbs < 2 ^ 64) : mulI i j = true := by
  unfold mulI
  rw [decide_eq_true h, Bool.true_or]
theorem fm_rg {x n : Int} (h : 0 < n) : 0 ≤ x.fmod n ∧ x.fmod n < n := ⟨Int.fmod_nonneg_of_pos x h, Int.fmod_lt_of_pos x h⟩
theorem powD_5 {x : Int} (h0 : 0 ≤ x) (h1 : x < 2147483647) : powD (.int x) (.int 5) = some (.val (.int (x ^ 5))) := by
  have e : powOk x 5 = true := by
    unfold powOk
    simp only [Bool.and_eq_true, decide_eq_true_eq]
    exact ⟨⟨by omega, by omega⟩, by omega⟩
  show (if powOk x 5 = true then _ else _) = _
  rw [if_pos e]
  rfl
theorem powD_c {x : Int} {k : Nat} (h0 : 0 ≤ x) (h1 : x < 2147483647) (hk : k ≤ 1000) : powD (.int x) (.int (k : Int)) = some (.val (.int (x ^ k))) := by
  have e : powOk x (k : Int) = true := by
    unfold powOk
    simp only [Bool.and_eq_true, decide_eq_true_eq]
    exact ⟨⟨by omega, by omega⟩, by omega⟩
  show (if powOk x (k : Int) = true then _ else _) = _
  rw [if_pos e]
  simp
theorem fdivD_ii {i j : Int} (h0 : 0 < j) (h1 : j < 1073741824) : fdivD (.int i) (.int j) = some (.val (.int (i.fdiv j))) := by
  show (if _ then _ else _) = _
  rw [if_pos]
  simp
  omega
theorem modD_ii {i j : Int} (h0 : 0 < j) : modD (.int i) (.int j) = some (.val (.int (i.fmod j))) := by
  show (if _ then _ else _) = _
  rw [if_pos]
  simp
  omega
end Mi

set_option Elab.async false
set_option linter.all false
set_option autoImplicit false
set_option maxRecDepth 100000
set_option maxHeartbeats 4000000
namespace L67
open PySem PySem.Spec PyProof.Rows L2 Mi

/-! ### what the plain functions are -/
def isIntD : D → Bool
  | .int _ => true
  | _ => false
def isTupD : D → Bool
  | .tup _ => true
  | _ => false
def noSet : D → Bool
  | .set _ => false
  | _ => true
theorem ev_is_int {d : D} (h : noSet d = true) : f_is_int [.val d] = .ok (.val (.bl (isIntD d))) [] := by
  cases d <;> first | rfl | cases h
@[simp] theorem ev_is_int_i {i : Int} : f_is_int [.val (.int i)] = .ok (.val (.bl true)) [] := (rfl)
def inB (a i b : Int) : Bool := decide (a ≤ i) && decide (i ≤ b)
@[simp] theorem ev_is_within_i {i a b : Int} : f_is_within [.val (.int i), .val (.int a), .val (.int b)] = .ok (.val (.bl (inB a i b))) [] := by
  unfold f_is_within m_is_within inB
  rw [mkFn_ev]
  by_cases h1 : a ≤ i <;> simp [h1]
theorem ev_is_within_n {d : D} {a b : Int} (h : noSet d = true) (h2 : isIntD d = false) : f_is_within [.val d, .val (.int a), .val (.int b)] = .ok (.val (.bl false)) [] := by
  cases d <;> first | rfl | (simp [isIntD, isTupD] at h2; done) | (simp [noSet] at h; done)
@[simp] theorem ev_is_sized_t {xs : List D} {a b : Int} : f_is_sized [.val (.tup xs), .val (.int a), .val (.int b)] = .ok (.val (.bl (inB a xs.length b))) [] := by
  unfold f_is_sized m_is_sized inB
  rw [mkFn_ev]
  by_cases h1 : a ≤ xs.length <;> simp [h1]
theorem ev_is_sized_n {d : D} {a b : Int} (h : noSet d = true) (h2 : isTupD d = false) : f_is_sized [.val d, .val (.int a), .val (.int b)] = .ok (.val (.bl false)) [] := by
  cases d <;> first | rfl | (simp [isIntD, isTupD] at h2; done) | (simp [noSet] at h; done)
/-! ### webs -/
abbrev Tie := Int × Int
def pD (t : Tie) : D := .tup [.int t.1, .int t.2]
def tsD (ts : List Tie) : D := .tup (ts.map pD)
def webD (m : Int) (ts : List Tie) : D := .tup [.int m, tsD ts]
def okT (m : Int) (t : Tie) : Bool := decide (0 ≤ t.1) && decide (t.1 ≤ m - 1) && decide (0 ≤ t.2) && decide (t.2 ≤ m - 1) && decide (t.1 < t.2)
@[simp] theorem ev_is_pair_of {m : Int} {t : Tie} : f_is_pair_of [.val (.int m), .val (pD t)] = .ok (.val (.bl (okT m t))) [] := by
  unfold f_is_pair_of m_is_pair_of pD okT
  rw [mkFn_ev]
  have e : subD (.int m) (.int 1) = some (.val (.int (m - 1))) := rfl
  have e2 : ltD (.int t.1) (.int t.2) = some (.val (.bl (decide (t.1 < t.2)))) := rfl
  have e3 : inB 2 2 2 = true := rfl
  by_cases h1 : 0 ≤ t.1 <;> by_cases h2 : t.1 ≤ m - 1 <;> by_cases h3 : 0 ≤ t.2 <;> by_cases h4 : t.2 ≤ m - 1 <;> simp [atI0, atI1, e, e2, e3, h1, h2, h3, h4, inB]
def okW (m : Int) (ts : List Tie) : Bool := decide (1 ≤ m) && decide (m ≤ 12) && decide (ts.length ≤ 40) && ts.all (okT m)
theorem line40 : (40 : Nat) ≤ sizeLine := by rw [sizeLine_eq]; omega
@[simp] theorem ev_is_web {m : Int} {ts : List Tie} : f_is_web [.val (webD m ts)] = .ok (.val (.bl (okW m ts))) [] := by
  unfold f_is_web m_is_web webD okW
  rw [mkFn_ev]
  have e3 : inB 2 2 2 = true := rfl
  by_cases h1 : 1 ≤ m
  · by_cases h2 : m ≤ 12
    · by_cases h3 : ts.length ≤ 40
      · have h3' : (ts.length : Int) ≤ 40 := by omega
        simp [atI0, atI1, e3, h1, h2, h3, h3', inB, tsD]
        rw [comp_mapF [some (O.val (D.tup [D.int m, D.tup (List.map pD ts)])), none] ts pD (fun t => .bl (okT m t)) (by simp [atI1]) (fun t ht => by simp [turnOk, atI0]) (Nat.le_trans h3 line40)]
        simp [all_map]
      · have h3' : ¬ (ts.length : Int) ≤ 40 := by omega
        simp [atI0, atI1, e3, h1, h2, h3, h3', inB, tsD]
    · simp [atI0, atI1, e3, h1, h2, inB, tsD]
  · simp [atI0, atI1, e3, h1, inB, tsD]
@[simp] theorem ev_check_web {m : Int} {ts : List Tie} (h : okW m ts = true) : f_check_web [.val (webD m ts)] = .ok (.val .non) [] := by
  unfold f_check_web m_check_web
  rw [mkFn_ev]
  simp [h]
/-! ### lots -/
def lotD (L : List Int) : D := .tup (L.map .int)
def risB (L : List Int) : Bool := (L.zip (L.drop 1)).all fun p => decide (p.1 < p.2)
theorem cut1m {L : List Int} : cutD (L.map D.int) (some 1) none = (L.drop 1).map D.int := by
  cases L with
  | nil => rfl
  | cons x L => simp
theorem ev_is_rising {L : List Int} (hl : L.length ≤ sizeLine) : f_is_rising [.val (lotD L)] = .ok (.val (.bl (risB L))) [] := by
  unfold f_is_rising m_is_rising lotD risB
  rw [mkFn_ev]
  simp
  rw [comp_mapF [some (O.val (D.tup (List.map D.int L))), none, none] (L.zip (L.drop 1)) (fun p => .tup [.int p.1, .int p.2]) (fun p => .bl (decide (p.1 < p.2))) (by simp [cut1m, ← List.map_tail, zipD_map]) (fun p hp => by simp [turnOk]) (by simp; omega)]
  simp [all_map]
theorem ev_is_lot {L : List Int} {k : Int} (hl : L.length ≤ sizeLine) : f_is_lot [.val (lotD L), .val (.int k)] = .ok (.val (.bl ((L.all fun i => inB 0 i (k - 1)) && risB L))) [] := by
  unfold f_is_lot m_is_lot
  rw [mkFn_ev]
  have e := ev_is_rising hl
  unfold lotD at e ⊢
  simp
  rw [comp_mapF [some (O.val (D.tup (List.map D.int L))), some (O.val (.int k)), none] L D.int (fun i => .bl (inB 0 i (k - 1))) (by simp) (fun p hp => by simp [turnOk]) hl]
  simp only [thn_ok, bind_ev, peek_o, dataO_lst, of_some, all_map, Option.map_some, dataO_val, boolD_bl, pure_ev]
  cases L.all fun i => inB 0 i (k - 1) <;> simp [e]
theorem ev_raw_is_lot {m : Int} {ts : List Tie} {L : List Int} (hl : L.length ≤ sizeLine) : f_raw_is_lot [.val (webD m ts), .val (lotD L)] = .ok (.val (.bl ((L.all fun i => inB 0 i (ts.length - 1)) && risB L))) [] := by
  unfold f_raw_is_lot m_raw_is_lot
  rw [mkFn_ev]
  simp [webD, atI1, tsD, ev_is_lot hl]
theorem ev_check_lot {m : Int} {ts : List Tie} {L : List Int} (h : okW m ts = true) (hl : L.length ≤ sizeLine) (h1 : (L.all fun i => inB 0 i (ts.length - 1)) = true) (h2 : risB L = true) : f_check_lot [.val (webD m ts), .val (lotD L)] = .ok (.val .non) [] := by
  unfold f_check_lot m_check_lot
  rw [mkFn_ev]
  simp [h, ev_raw_is_lot hl, h1, h2]
/-! ### edits -/
def wordE (w : Str) (as : List D) : D := .tup (.str w :: as)
theorem ev_is_edit {w : Str} {as : List D} {n : Int} {b : Bool} (hk : kd_SIZES.lookup w = some (some n)) (hw : eqD (.str w) (.str "turn") = some (.val (.bl b))) (hs : ∀ a ∈ as, noSet a = true) (hl : as.length ≤ sizeLine) :
    f_is_edit [.val (wordE w as)] = .ok (.val (.bl (decide ((as.length : Int) + 1 = n) && (b || as.all isIntD)))) [] := by
  unfold f_is_edit m_is_edit wordE
  rw [mkFn_ev]
  have e1 : kdGet kd_SIZES (.str w) = some (some n) := hk
  have hne : ¬ (as.length : Int) + 1 = 0 := by omega
  simp [atI0, mKdIn, mKd, e1, sgn, hw, hne]
  by_cases hn : (as.length : Int) + 1 = n
  · cases b with
    | true => simp [hn, hw, atI0]
    | false =>
      simp [hn, hw, atI0]
      rw [comp_mapF [some (O.val (D.tup (D.str w :: as))), none] as id (fun a => .bl (isIntD a)) (by simp) (fun a ha => by simp [turnOk, ev_is_int (hs a ha)]) hl]
      simp [all_map]
  · simp [hn]
theorem eq_str {x y : Str} {b : Bool} (h : eqD (.str x) (.str y) = some (.val (.bl b))) : eqD (.str x) (.str y) = some (.val (.bl b)) := h
@[simp] theorem q_tie_tie : eqD (.str "tie") (.str "tie") = some (.val (.bl true)) := by kernel_rfl
@[simp] theorem q_tie_place : eqD (.str "tie") (.str "place") = some (.val (.bl false)) := by kernel_rfl
@[simp] theorem q_tie_turn : eqD (.str "tie") (.str "turn") = some (.val (.bl false)) := by kernel_rfl
@[simp] theorem q_tie_untie : eqD (.str "tie") (.str "untie") = some (.val (.bl false)) := by kernel_rfl
@[simp] theorem q_untie_tie : eqD (.str "untie") (.str "tie") = some (.val (.bl false)) := by kernel_rfl
@[simp] theorem q_untie_place : eqD (.str "untie") (.str "place") = some (.val (.bl false)) := by kernel_rfl
@[simp] theorem q_untie_turn : eqD (.str "untie") (.str "turn") = some (.val (.bl false)) := by kernel_rfl
@[simp] theorem q_untie_untie : eqD (.str "untie") (.str "untie") = some (.val (.bl true)) := by kernel_rfl
@[simp] theorem q_place_tie : eqD (.str "place") (.str "tie") = some (.val (.bl false)) := by kernel_rfl
@[simp] theorem q_place_place : eqD (.str "place") (.str "place") = some (.val (.bl true)) := by kernel_rfl
@[simp] theorem q_place_turn : eqD (.str "place") (.str "turn") = some (.val (.bl false)) := by kernel_rfl
@[simp] theorem q_place_untie : eqD (.str "place") (.str "untie") = some (.val (.bl false)) := by kernel_rfl
@[simp] theorem q_fast_tie : eqD (.str "fast") (.str "tie") = some (.val (.bl false)) := by kernel_rfl
@[simp] theorem q_fast_place : eqD (.str "fast") (.str "place") = some (.val (.bl false)) := by kernel_rfl
@[simp] theorem q_fast_turn : eqD (.str "fast") (.str "turn") = some (.val (.bl false)) := by kernel_rfl
@[simp] theorem q_fast_untie : eqD (.str "fast") (.str "untie") = some (.val (.bl false)) := by kernel_rfl
@[simp] theorem q_turn_tie : eqD (.str "turn") (.str "tie") = some (.val (.bl false)) := by kernel_rfl
@[simp] theorem q_turn_place : eqD (.str "turn") (.str "place") = some (.val (.bl false)) := by kernel_rfl
@[simp] theorem q_turn_turn : eqD (.str "turn") (.str "turn") = some (.val (.bl true)) := by kernel_rfl
@[simp] theorem q_turn_untie : eqD (.str "turn") (.str "untie") = some (.val (.bl false)) := by kernel_rfl
theorem k_tie : kd_SIZES.lookup ("tie" : Str) = some (some 3) := by kernel_rfl
theorem k_untie : kd_SIZES.lookup ("untie" : Str) = some (some 2) := by kernel_rfl
theorem k_place : kd_SIZES.lookup ("place" : Str) = some (some 1) := by kernel_rfl
theorem k_fast : kd_SIZES.lookup ("fast" : Str) = some (some 2) := by kernel_rfl
theorem k_turn : kd_SIZES.lookup ("turn" : Str) = some (some 2) := by kernel_rfl
def tieE (i j : Int) : D := wordE "tie" [.int i, .int j]
def untieE (t : Int) : D := wordE "untie" [.int t]
def fastE (t : Int) : D := wordE "fast" [.int t]
def placeE : D := wordE "place" []
def turnE (o : D) : D := wordE "turn" [o]
@[simp] theorem ie_tie {i j : Int} : f_is_edit [.val (tieE i j)] = .ok (.val (.bl true)) [] := by
  rw [show tieE i j = wordE "tie" [.int i, .int j] from rfl, ev_is_edit k_tie q_tie_turn (by simp [noSet]) (by simp)]
  simp [isIntD]
@[simp] theorem ie_untie {i : Int} : f_is_edit [.val (untieE i)] = .ok (.val (.bl true)) [] := by
  rw [show untieE i = wordE "untie" [.int i] from rfl, ev_is_edit k_untie q_untie_turn (by simp [noSet]) (by simp)]
  simp [isIntD]
@[simp] theorem ie_fast {i : Int} : f_is_edit [.val (fastE i)] = .ok (.val (.bl true)) [] := by
  rw [show fastE i = wordE "fast" [.int i] from rfl, ev_is_edit k_fast q_fast_turn (by simp [noSet]) (by simp)]
  simp [isIntD]
@[simp] theorem ie_place : f_is_edit [.val placeE] = .ok (.val (.bl true)) [] := by
  rw [show placeE = wordE "place" [] from rfl, ev_is_edit k_place q_place_turn (by simp) (by simp)]
  simp
@[simp] theorem ie_turn {o : D} (h : noSet o = true) : f_is_edit [.val (turnE o)] = .ok (.val (.bl true)) [] := by
  rw [show turnE o = wordE "turn" [o] from rfl, ev_is_edit k_turn q_turn_turn (by simpa using h) (by simp)]
  simp
/-! ### the edited web -/
def webO (m : Int) (ts : List Tie) : O := if okW m ts then .val (webD m ts) else .val .non
theorem addD_tup {xs ys : List D} (h : xs.length + ys.length ≤ sizeLine) : addD (.tup xs) (.tup ys) = some (.val (.tup (xs ++ ys))) := by
  show (if _ then _ else _) = _
  rw [if_pos h]
theorem re_tie {m : Int} {ts : List Tie} {i j : Int} (h : ts.length ≤ 40) : f_raw_edited [.val (webD m ts), .val (tieE i j)] = .ok (webO m (ts ++ [(i, j)])) [] := by
  unfold f_raw_edited m_raw_edited
  rw [mkFn_ev]
  have e : addD (tsD ts) (.tup [.tup [.int i, .int j]]) = some (.val (tsD (ts ++ [(i, j)]))) := by
    unfold tsD
    rw [addD_tup (by have := line4k; simp; omega)]
    simp [pD]
  simp
  simp [tieE, wordE, webD, atI0, atI1, e]
  rw [show D.tup [D.int m, tsD (ts ++ [(i, j)])] = webD m (ts ++ [(i, j)]) from rfl]
  unfold webO
  simp
  cases okW m (ts ++ [(i, j)]) <;> simp
theorem re_place {m : Int} {ts : List Tie} : f_raw_edited [.val (webD m ts), .val placeE] = .ok (webO (m + 1) ts) [] := by
  unfold f_raw_edited m_raw_edited
  rw [mkFn_ev]
  simp
  simp [placeE, wordE, webD, atI0, atI1]
  rw [show D.tup [D.int (m + 1), tsD ts] = webD (m + 1) ts from rfl]
  unfold webO
  simp
  cases okW (m + 1) ts <;> simp
/-! ### without a tie -/
theorem erase_go {α : Type} : ∀ (ts : List α) (t k : Nat), ((List.range' k ts.length).filter fun i => decide (i ≠ k + t)).map (fun i => ts[i - k]?) = (ts.eraseIdx t).map some
  | [], t, k => by simp
  | x :: ts, t, k => by
    rw [List.length_cons, List.range'_succ]
    have sh : ∀ (l : List Nat), (∀ i ∈ l, k + 1 ≤ i) → l.map (fun i => (x :: ts)[i - k]?) = l.map fun i => ts[i - (k + 1)]? := fun l hl => by
      apply List.map_congr_left
      intro i hi
      have := hl i hi
      have e : i - k = (i - (k + 1)) + 1 := by omega
      rw [e, List.getElem?_cons_succ]
    have ge : ∀ i ∈ List.range' (k + 1) ts.length, k + 1 ≤ i := fun i hi => (List.mem_range'_1.mp hi).1
    cases t with
    | zero =>
      have hf : (List.range' (k + 1) ts.length).filter (fun i => decide (i ≠ k + 0)) = List.range' (k + 1) ts.length := List.filter_eq_self.mpr fun i hi => by
        have := ge i hi
        simp; omega
      rw [List.filter_cons_of_neg (by simp), hf, sh _ ge]
      have all : ∀ (l : List α) (k : Nat), (List.range' k l.length).map (fun i => l[i - k]?) = l.map some := by
        intro l
        induction l with
        | nil => intro k; rfl
        | cons y l ih =>
          intro k
          rw [List.length_cons, List.range'_succ, List.map_cons, List.map_cons, Nat.sub_self, List.getElem?_cons_zero, ← ih (k + 1)]
          congr 1
          apply List.map_congr_left
          intro i hi
          have := (List.mem_range'_1.mp hi).1
          have e : i - k = (i - (k + 1)) + 1 := by omega
          rw [e, List.getElem?_cons_succ]
      rw [all]
      simp
    | succ t =>
      rw [List.filter_cons_of_pos (by simp), List.map_cons, Nat.sub_self, List.getElem?_cons_zero, List.eraseIdx_cons_succ, List.map_cons]
      congr 1
      rw [sh _ fun i hi => ge i (List.mem_filter.mp hi).1]
      have e : (fun i => decide (i ≠ k + (t + 1))) = fun i => decide (i ≠ k + 1 + t) := by
        funext i
        have : k + (t + 1) = k + 1 + t := by omega
        rw [this]
      rw [e]
      exact erase_go ts t (k + 1)
def keptL (n t : Nat) : List Nat := (List.range n).filter fun i => !decide (i = t)
theorem erase_kept {α : Type} (ts : List α) (t : Nat) (d : α) : (keptL ts.length t).map (fun i => ts.getD i d) = ts.eraseIdx t := by
  have h := erase_go ts t 0
  simp only [Nat.zero_add, Nat.sub_zero, ← List.range_eq_range'] at h
  have h2 := congrArg (List.map fun o => Option.getD o d) h
  rw [List.map_map, List.map_map] at h2
  have e : ((fun o => Option.getD o d) ∘ some : α → α) = id := rfl
  rw [e, List.map_id] at h2
  rw [← h2]
  unfold keptL
  have e2 : (fun i => decide (i ≠ t)) = fun i => !decide (i = t) := by funext i; simp
  rw [e2]
  apply List.map_congr_left
  intro i _
  simp [List.getD_eq_getElem?_getD]
theorem eqv_int {i j : Int} : eqv (.int i) (.int j) = decide (i = j) := eqv_ii
theorem notIn1 {i t : Int} : inD true (.int i) (.tup [.int t]) = some (.val (.bl (!decide (t = i)))) := by
  show (inFlat true _ _).or _ = _
  simp [inFlat, flatD, eqv_int, sgn]
def keptD (n t : Nat) : D := lotD ((keptL n t).map Int.ofNat)
theorem atI_ofNat {α : Type} {xs : List α} {i : Nat} : atI xs (i : Int) = xs[i]? := by
  rw [atI_nn (by omega)]
  simp
theorem ev_without {m : Int} {ts : List Tie} {t : Nat} (hl : ts.length ≤ 40) : f_raw_without [.val (webD m ts), .val (lotD [(t : Int)])] = .ok (.val (.tup [webD m (ts.eraseIdx t), keptD ts.length t])) [] := by
  unfold f_raw_without m_raw_without
  rw [mkFn_ev]
  have h40 : ts.length ≤ sizeLine := by have := line4k; omega
  have hkl : (keptL ts.length t).length ≤ sizeLine := by
    have := List.length_filter_le (fun i => !decide (i = t)) (List.range ts.length)
    rw [List.length_range] at this
    exact Nat.le_trans this h40
  have h4k : ts.length ≤ 4096 := by omega
  simp [webD, lotD]
  rw [comp_selF [some (O.val (D.tup [D.int m, tsD ts])), some (O.val (D.tup [D.int (t : Int)])), none, none] (List.range ts.length) (fun i => .int (i : Nat)) (fun i => !decide (i = t)) (fun i => .int (i : Nat))
    (by simp [atI1, tsD, rngM_nat h4k]) (fun i hi => by
      by_cases h : i = t
      · simp [turnOk, notIn1, h]
      · have h' : ¬ (t : Int) = (i : Int) := by omega
        simp [turnOk, notIn1, h, h']) (by simpa using h40)]
  simp
  rw [show List.filter (fun x => !decide (x = t)) (List.range ts.length) = keptL ts.length t from rfl]
  simp [atI0]
  rw [comp_mapF [some (O.val (D.tup [D.int m, tsD ts])), some (O.val (D.tup [D.int (t : Int)])), some (O.val (.tup ((keptL ts.length t).map fun i => .int (i : Nat)))), none] (keptL ts.length t) (fun i => .int (i : Nat)) (fun i => pD (ts.getD i (0, 0)))
    (by simp) (fun i hi => by
      have hlt : i < ts.length := by
        have := (List.mem_filter.mp hi).1
        simpa using this
      simp [turnOk, atI1, tsD, atI_ofNat, hlt]) hkl]
  simp [keptD, lotD, Function.comp_def]
  rw [← erase_kept ts t (0, 0)]
  unfold tsD
  rw [List.map_map]
  simp [Function.comp_def]
end L67

set_option Elab.async false
set_option linter.all false
set_option autoImplicit false
set_option maxRecDepth 100000
set_option maxHeartbeats 4000000
namespace L67
open PySem PySem.Spec PyProof.Rows L2 Mi

/-! ### heads -/
def tieAt (ts : List Tie) (t : Int) : Tie := ts.getD t.toNat (0, 0)
def stepH (ts : List Tie) (h : List Int) (t : Int) : List Int :=
  let a := h.getD (tieAt ts t).1.toNat 0
  let b := h.getD (tieAt ts t).2.toNat 0
  if a = b then h else h.map fun x => if x = a ∨ x = b then (if b < a then b else a) else x
def headsF (m : Int) (ts : List Tie) (L : List Int) : List Int := L.foldl (stepH ts) ((List.range m.toNat).map Int.ofNat)
theorem stepH_length {ts : List Tie} {h : List Int} {t : Int} : (stepH ts h t).length = h.length := by
  unfold stepH
  simp only
  split <;> simp
theorem atI_getD {α : Type} {xs : List α} {i : Int} (d : α) (h : 0 ≤ i) (h2 : i < xs.length) : atI xs i = some (xs.getD i.toNat d) := by
  rw [atI_nn h]
  have : i.toNat < xs.length := by omega
  simp [List.getD_eq_getElem?_getD, this]
theorem inPair {x a b : Int} : inD false (.int x) (.tup [.int a, .int b]) = some (.val (.bl (decide (x = a ∨ x = b)))) := by
  show (inFlat false _ _).or _ = _
  simp [inFlat, flatD, eqv_int, sgn]
  by_cases h1 : a = x
  · subst h1; simp
  · by_cases h2 : b = x
    · subst h2; simp
    · have h3 : ¬ x = a := fun e => h1 e.symm
      have h4 : ¬ x = b := fun e => h2 e.symm
      simp [h1, h2, h3, h4]
def inRg (ts : List Tie) (L : List Int) : Prop := ∀ t ∈ L, 0 ≤ t ∧ t < ts.length
def okTs (m : Int) (ts : List Tie) : Prop := ∀ t ∈ ts, okT m t = true
theorem okT_iff {m : Int} {t : Tie} : okT m t = true ↔ 0 ≤ t.1 ∧ t.1 < t.2 ∧ t.2 < m := by
  unfold okT
  simp only [Bool.and_eq_true, decide_eq_true_eq]
  omega
theorem okW_iff {m : Int} {ts : List Tie} : okW m ts = true ↔ 1 ≤ m ∧ m ≤ 12 ∧ ts.length ≤ 40 ∧ okTs m ts := by
  unfold okW okTs
  simp only [Bool.and_eq_true, decide_eq_true_eq, List.all_eq_true]
  constructor
  · rintro ⟨⟨⟨h1, h2⟩, h3⟩, h4⟩; exact ⟨h1, h2, h3, h4⟩
  · rintro ⟨h1, h2, h3, h4⟩; exact ⟨⟨⟨h1, h2⟩, h3⟩, h4⟩
theorem tieAt_ok {m : Int} {ts : List Tie} {t : Int} (h : okTs m ts) (h0 : 0 ≤ t) (h1 : t < ts.length) : 0 ≤ (tieAt ts t).1 ∧ (tieAt ts t).1 < (tieAt ts t).2 ∧ (tieAt ts t).2 < m := by
  have hl : t.toNat < ts.length := by omega
  have : tieAt ts t ∈ ts := by
    unfold tieAt
    rw [List.getD_eq_getElem?_getD, List.getElem?_eq_getElem hl]
    exact List.getElem_mem hl
  exact okT_iff.mp (h _ this)
theorem ev_heads {m : Int} {ts : List Tie} {L : List Int} (hm : 0 ≤ m) (hm2 : m ≤ 4096) (ho : okTs m ts) (hL : inRg ts L) : f_raw_heads [.val (webD m ts), .val (lotD L)] = .ok (.lst ((headsF m ts L).map .int)) [] := by
  unfold f_raw_heads m_raw_heads
  rw [mkFn_ev]
  simp [webD, lotD, atI0, rgM_ok hm (by omega)]
  have key := loop_inv (g := gNm false 3) (b := mSeq (mAsg (mTup (mCons (mBin ixD (mVar 2) (mBin ixD (mBin ixD (mBin ixD (mVar 0) (mC (.int 1))) (mVar 3)) (mC (.int 0)))) (mCons (mBin ixD (mVar 2) (mBin ixD (mBin ixD (mBin ixD (mVar 0) (mC (.int 1))) (mVar 3)) (mC (.int 1)))) (mNil)))) (gTp [gNm false 4, gNm false 5])) (mIfS (mTst (mBin neD (mVar 4) (mVar 5))) (mAsg (mComp [6] (mIter (mVar 2)) (gNm false 6) (mYes) (mIf (mTst (mBin (inD false) (mVar 6) (mTup (mCons (mVar 4) (mCons (mVar 5) (mNil)))))) (mBin min2D (mVar 4) (mVar 5)) (mVar 6))) (gNm false 2)) (mSkip)))
    (fun i ρ => ∃ o3 o4 o5, ρ = [some (.val (webD m ts)), some (.val (lotD L)), some (.lst (((L.take i).foldl (stepH ts) ((List.range m.toNat).map Int.ofNat)).map .int)), o3, o4, o5, none]) (L.map .int) 0
    [some (.val (webD m ts)), some (.val (lotD L)), some (.lst (rgD 0 m)), none, none, none, none] ⟨none, none, none, by simp [rgD, Function.comp_def]⟩ ?_
  · obtain ⟨ρ', h1, o3, o4, o5, rfl⟩ := key
    simp only [webD, lotD] at h1
    rw [h1]
    simp [headsF]
  · rintro i d ρ hd ⟨o3, o4, o5, rfl⟩
    rw [List.getElem?_map, Option.map_eq_some_iff] at hd
    obtain ⟨t, ht, rfl⟩ := hd
    simp only [Nat.zero_add]
    obtain ⟨t0, t1⟩ := hL t (List.mem_of_getElem? ht)
    obtain ⟨b0, b1, b2⟩ := tieAt_ok ho t0 t1
    have hT : L.take (i + 1) = L.take i ++ [t] := by
      rw [List.take_add_one, ht]; rfl
    rw [hT, List.foldl_append]
    generalize hH : (L.take i).foldl (stepH ts) ((List.range m.toNat).map Int.ofNat) = H
    have hlen : H.length = m.toNat := by
      have : ∀ (l : List Int) (h : List Int), (l.foldl (stepH ts) h).length = h.length := by
        intro l
        induction l with
        | nil => intro h; rfl
        | cons x l ih => intro h; rw [List.foldl_cons, ih, stepH_length]
      rw [← hH, this]
      simp
    have e0 : atI (ts.map pD) t = some (.tup [.int (tieAt ts t).1, .int (tieAt ts t).2]) := by
      rw [atI_map, atI_getD (0, 0) t0 t1]; rfl
    have e1 : atI (H.map D.int) (tieAt ts t).1 = some (.int (H.getD (tieAt ts t).1.toNat 0)) := by
      rw [atI_map, atI_getD 0 b0 (by omega)]; rfl
    have e2 : atI (H.map D.int) (tieAt ts t).2 = some (.int (H.getD (tieAt ts t).2.toNat 0)) := by
      rw [atI_map, atI_getD 0 (by omega) (by omega)]; rfl
    have hz : H.length ≤ sizeLine := by rw [hlen]; have := line4k; omega
    generalize ha : H.getD (tieAt ts t).1.toNat 0 = a at e1
    generalize hb : H.getD (tieAt ts t).2.toNat 0 = b at e2
    simp only [List.foldl_cons, List.foldl_nil]
    unfold stepH
    simp only [ha, hb]
    by_cases hab : a = b
    · subst hab
      refine ⟨_, .inl ?_, some (.val (.int t)), some (.val (.int a)), some (.val (.int a)), rfl⟩
      unfold turnL
      simp [webD, tsD, atI0, atI1, e0, e1, e2]
    · refine ⟨_, .inl ?_, some (.val (.int t)), some (.val (.int a)), some (.val (.int b)), rfl⟩
      unfold turnL
      simp [webD, tsD, atI0, atI1, e0, e1, e2, hab]
      rw [comp_mapF [some (O.val (D.tup [D.int m, D.tup (List.map pD ts)])), some (O.val (lotD L)), some (O.val (.lst (H.map D.int))), some (O.val (.int t)), some (.val (.int a)), some (.val (.int b)), none] H D.int (fun x => .int (if x = a ∨ x = b then (if b < a then b else a) else x)) (by simp) (fun x hx => by
        by_cases h : x = a ∨ x = b <;> simp [turnOk, inPair, h]) hz]
      simp
end L67

set_option Elab.async false
set_option linter.all false
set_option autoImplicit false
set_option maxRecDepth 100000
set_option maxHeartbeats 4000000
namespace L67
open PySem PySem.Spec PyProof.Rows L2 Mi

/-! ### a tie drawn together -/
def irange (m : Int) : List Int := (List.range m.toNat).map Int.ofNat
theorem mem_irange {m x : Int} : x ∈ irange m ↔ 0 ≤ x ∧ x < m := by
  unfold irange
  rw [List.mem_map]
  constructor
  · rintro ⟨k, hk, rfl⟩
    rw [List.mem_range] at hk
    exact ⟨Int.natCast_nonneg k, by show (k : Int) < m; omega⟩
  · rintro ⟨h1, h2⟩
    exact ⟨x.toNat, by rw [List.mem_range]; omega, by show ((x.toNat : Nat) : Int) = x; omega⟩
theorem irange_len {m : Int} : (irange m).length = m.toNat := by simp [irange]
theorem irange_get {m : Int} {α : Type} {f : Int → α} {i : Int} (h0 : 0 ≤ i) (h1 : i < m) : ((irange m).map f)[i.toNat]? = some (f i) := by
  unfold irange
  have : i.toNat < m.toNat := by omega
  simp [this]
  congr 1
  omega
theorem irange_nd {m : Int} : (irange m).Nodup := by
  unfold irange
  exact List.Pairwise.map _ (fun a b h => by intro e; exact h (Int.ofNat.inj e)) List.nodup_range
theorem irange_pw {m : Int} : (irange m).Pairwise (· < ·) := by
  unfold irange
  exact List.Pairwise.map _ (fun a b h => by show (a : Int) < (b : Int); omega) List.pairwise_lt_range
def hd1 (a b x : Int) : Int := if x = b then a else x
theorem heads1 {m : Int} {ts : List Tie} {t : Int} {a b : Int} (ha : 0 ≤ a) (hab : a < b) (hb : b < m) (e : tieAt ts t = (a, b)) : headsF m ts [t] = (irange m).map (hd1 a b) := by
  have ga : ((List.range m.toNat).map Int.ofNat).getD a.toNat 0 = a := by
    have := irange_get (m := m) (f := id) ha (by omega)
    rw [List.map_id] at this
    rw [List.getD_eq_getElem?_getD]
    unfold irange at this
    rw [this]; rfl
  have gb : ((List.range m.toNat).map Int.ofNat).getD b.toNat 0 = b := by
    have := irange_get (m := m) (f := id) (i := b) (by omega) hb
    rw [List.map_id] at this
    rw [List.getD_eq_getElem?_getD]
    unfold irange at this
    rw [this]; rfl
  show stepH ts ((List.range m.toNat).map Int.ofNat) t = _
  unfold stepH
  simp only [e, ga, gb]
  rw [if_neg (by omega)]
  unfold irange hd1
  apply List.map_congr_left
  intro x _
  by_cases h1 : x = b
  · rw [if_pos (.inr h1), if_neg (by omega), if_pos h1]
  · rw [if_neg h1]
    by_cases h2 : x = a
    · rw [if_pos (.inl h2), if_neg (by omega), h2]
    · rw [if_neg (by simp [h1, h2])]
/-- the heads in order -/
def ordE (m b : Int) : List Int := (irange (m - 1)).map fun i => if i < b then i else i + 1
theorem ord1 {m a b : Int} (ha : 0 ≤ a) (hab : a < b) (hb : b < m) : ordL ((irange m).map (hd1 a b)) = ordE m b := by
  have pw : (ordE m b).Pairwise (· < ·) := by
    unfold ordE
    refine List.Pairwise.map _ (fun x y h => ?_) irange_pw
    show (if x < b then x else x + 1) < (if y < b then y else y + 1)
    by_cases h1 : x < b <;> by_cases h2 : y < b <;> simp [h1, h2] <;> omega
  refine sort_eq (pw.imp fun h => by omega) (perm_of_mem (pw.imp fun h => by omega) ddp_nodup fun k => ?_)
  rw [mem_ddp]
  unfold ordE
  rw [List.mem_map, List.mem_map]
  constructor
  · rintro ⟨x, hx, rfl⟩
    rw [mem_irange] at hx
    refine ⟨if x < b then x else x + 1, ?_, ?_⟩
    · rw [mem_irange]
      split <;> omega
    · unfold hd1
      split <;> split <;> omega
  · rintro ⟨x, hx, rfl⟩
    rw [mem_irange] at hx
    unfold hd1
    by_cases h1 : x = b
    · rw [if_pos h1]
      exact ⟨a, mem_irange.mpr (by omega), by rw [if_pos hab]⟩
    · rw [if_neg h1]
      by_cases h2 : x < b
      · exact ⟨x, mem_irange.mpr (by omega), by rw [if_pos h2]⟩
      · exact ⟨x - 1, mem_irange.mpr (by omega), by rw [if_neg (by omega)]; omega⟩
theorem ordE_len {m b : Int} (h : 1 ≤ m) : ((ordE m b).length : Int) = m - 1 := by
  unfold ordE
  rw [List.length_map, irange_len]
  omega
def nmF (a b x : Int) : Int := if x = b then a else if x > b then x - 1 else x
theorem idx_ord {m a b x : Int} (ha : 0 ≤ a) (hab : a < b) (hb : b < m) (h0 : 0 ≤ x) (h1 : x < m) : indexG (.lst ((ordE m b).map .int)) [.int (hd1 a b x)] = some (.int (nmF a b x)) := by
  have key : ∀ v k : Int, 0 ≤ k → k < m - 1 → (if k < b then k else k + 1) = v → indexG (.lst ((ordE m b).map .int)) [.int v] = some (.int k) := fun v k k0 k1 kv => by
    have hl : k.toNat < ((ordE m b).map D.int).length := by
      have := ordE_len (m := m) (b := b) (by omega)
      rw [List.length_map]
      omega
    have get : ∀ j (hj : j < ((ordE m b).map D.int).length), ((ordE m b).map D.int)[j] = .int (if (j : Int) < b then (j : Int) else j + 1) := fun j hj => by
      rw [List.getElem_map]
      congr 1
      unfold ordE irange
      simp
    have e : ((ordE m b).map D.int).findIdx? (fun z => eqv z (.int v)) = some k.toNat := by
      rw [List.findIdx?_eq_some_iff_getElem]
      refine ⟨hl, ?_, fun j hj => ?_⟩
      · rw [get, eqv_ii, decide_eq_true_eq]
        have e1 : ((k.toNat : Nat) : Int) = k := by omega
        rw [e1]
        exact kv
      · rw [get, eqv_ii]
        have hjk : (j : Int) < k := by omega
        simp only [Bool.not_eq_true, decide_eq_false_iff_not]
        intro q
        by_cases h3 : (j : Int) < b <;> by_cases h4 : k < b <;> simp [h3, h4] at q kv <;> omega
    show (if flatD (.int v) && ((ordE m b).map D.int).all flatD then _ else _) = _
    have fl : (flatD (.int v) && ((ordE m b).map D.int).all flatD) = true := by simp [flatD]
    rw [if_pos fl, e]
    show some (D.int ((k.toNat : Nat) : Int)) = _
    congr 2
    omega
  refine key _ _ ?_ ?_ ?_
  · unfold nmF; split <;> (try split) <;> omega
  · unfold nmF; split <;> (try split) <;> omega
  · unfold nmF hd1
    by_cases h2 : x = b
    · rw [if_pos h2, if_pos h2, if_pos hab]
    · rw [if_neg h2, if_neg h2]
      by_cases h3 : x > b
      · rw [if_pos h3, if_neg (by omega)]; omega
      · rw [if_neg h3, if_pos (by omega)]
def fastTs (a b : Int) (ts : List Tie) : List Tie := (ts.filter fun t => !decide (nmF a b t.1 = nmF a b t.2)).map fun t => (mnI (nmF a b t.1) (nmF a b t.2), mxI (nmF a b t.1) (nmF a b t.2))
theorem nm_at {m a b i : Int} (h0 : 0 ≤ i) (h1 : i < m) : atI ((irange m).map fun x => D.int (nmF a b x)) i = some (.int (nmF a b i)) := by
  rw [atI_nn h0, irange_get h0 h1]
theorem tie_at {m : Int} {ts : List Tie} {i : Nat} (ho : okTs m ts) (hi : i < ts.length) : atI (ts.map pD) (i : Int) = some (.tup [.int (tieAt ts (i : Int)).1, .int (tieAt ts (i : Int)).2]) ∧ 0 ≤ (tieAt ts (i : Int)).1 ∧ (tieAt ts (i : Int)).1 < (tieAt ts (i : Int)).2 ∧ (tieAt ts (i : Int)).2 < m := by
  refine ⟨?_, tieAt_ok ho (t := (i : Int)) (by omega) (by omega)⟩
  rw [atI_map, atI_ofNat]
  unfold tieAt
  simp [List.getD_eq_getElem?_getD, hi, pD]
theorem tie_fm {β : Type} (ts : List Tie) (p : Tie → Bool) (f : Tie → β) : ((List.range ts.length).filter fun (i : Nat) => p (tieAt ts (i : Int))).map (fun (i : Nat) => f (tieAt ts (i : Int))) = (ts.filter p).map f := by
  have := range_fm ts (0, 0) p f
  unfold tieAt
  simpa using this
theorem ev_fast {m : Int} {ts : List Tie} {t : Nat} {a b : Int} (hw : okW m ts = true) (ht : t < ts.length) (e : tieAt ts (t : Int) = (a, b)) :
    ∃ x y, f_raw_fast [.val (webD m ts), .val (lotD [(t : Int)])] = .ok (.val (.tup [webD (m - 1) (fastTs a b ts), x, y])) [] := by
  obtain ⟨m1, m2, l40, ho⟩ := okW_iff.mp hw
  have hT := tieAt_ok ho (t := (t : Int)) (by omega) (by omega)
  rw [e] at hT
  obtain ⟨ha, hab, hb⟩ := hT
  simp only at ha hab hb
  have hH := ev_heads (m := m) (ts := ts) (L := [(t : Int)]) (by omega) (by omega) ho (fun x hx => by rcases List.mem_singleton.mp hx with rfl; omega)
  rw [heads1 ha hab hb e] at hH
  have h4k := line4k
  have hlen : (irange m).length ≤ 12 := by rw [irange_len]; omega
  have hs1 : setD (.lst (((irange m).map (hd1 a b)).map .int)) = some (.val (.set (ddp ((irange m).map (hd1 a b))))) := setD_lst (by rw [List.length_map]; omega)
  have hs2 : sortA (.set (ddp ((irange m).map (hd1 a b)))) = some (.lst ((ordE m b).map .int)) := by
    rw [sortA_set (by have := ddp_length ((irange m).map (hd1 a b)); rw [List.length_map] at this; omega)]
    show some (O.lst ((ordL ((irange m).map (hd1 a b))).map D.int)) = _
    rw [ord1 ha hab hb]
  have ec : List.map D.int ((irange m).map (hd1 a b)) = (irange m).map fun x => D.int (hd1 a b x) := by rw [List.map_map]; rfl
  rw [ec] at hH hs1
  refine ⟨.tup ((irange m).map fun x => D.int (nmF a b x)), .tup (((List.range ts.length).filter fun (i : Nat) => !decide ((t : Int) = (i : Int)) && !decide (nmF a b (tieAt ts (i : Int)).1 = nmF a b (tieAt ts (i : Int)).2)).map fun (i : Nat) => .int (i : Nat)), ?_⟩
  unfold f_raw_fast m_raw_fast
  rw [mkFn_ev]
  simp [webD, lotD] at hH ⊢
  simp [hH, hs1, hs2]
  rw [comp_mapF [some (O.val (D.tup [D.int m, tsD ts])), some (O.val (D.tup [D.int (t : Int)])), some (O.val (.lst ((irange m).map fun x => D.int (hd1 a b x)))), some (.lst ((ordE m b).map .int)), none, none, none, none, none] (irange m) (fun x => .int (hd1 a b x)) (fun x => .int (nmF a b x)) (by simp) (fun x hx => by
    have hx' := mem_irange.mp hx
    simp [turnOk, mMeth, idx_ord ha hab hb hx'.1 hx'.2]) (by omega)]
  simp
  have h4k2 : ts.length ≤ 4096 := by omega
  rw [comp_selF [some (O.val (D.tup [D.int m, tsD ts])), some (O.val (D.tup [D.int (t : Int)])), some (O.val (.lst ((irange m).map fun x => D.int (hd1 a b x)))), some (.lst ((ordE m b).map .int)), some (.val (.tup ((irange m).map fun x => D.int (nmF a b x)))), none, none, none, none] (List.range ts.length) (fun (i : Nat) => .int (i : Nat)) (fun (i : Nat) => !decide ((t : Int) = (i : Int)) && !decide (nmF a b (tieAt ts (i : Int)).1 = nmF a b (tieAt ts (i : Int)).2)) (fun (i : Nat) => .int (i : Nat))
    (by simp [atI1, tsD, rngM_nat h4k2]) (fun i hi => by
      have hi' : i < ts.length := by simpa using hi
      obtain ⟨e1, e2, e3, e4⟩ := tie_at ho hi'
      have n1 := nm_at (m := m) (a := a) (b := b) (i := (tieAt ts (i : Int)).1) e2 (by omega)
      have n2 := nm_at (m := m) (a := a) (b := b) (i := (tieAt ts (i : Int)).2) (by omega) e4
      by_cases h : (t : Int) = (i : Int)
      · simp [turnOk, notIn1, h]
      · by_cases h2 : nmF a b (tieAt ts (i : Int)).1 = nmF a b (tieAt ts (i : Int)).2
        · simp [turnOk, notIn1, h, atI0, atI1, tsD, e1, n1, n2, h2]
        · simp [turnOk, notIn1, h, atI0, atI1, tsD, e1, n1, n2, h2]) (by simp; omega)]
  generalize hk : (List.range ts.length).filter (fun (i : Nat) => !decide ((t : Int) = (i : Int)) && !decide (nmF a b (tieAt ts (i : Int)).1 = nmF a b (tieAt ts (i : Int)).2)) = kept
  have hkm : ∀ i ∈ kept, i < ts.length := fun i hi => by
    rw [← hk] at hi
    simpa using (List.mem_filter.mp hi).1
  have hkl : kept.length ≤ sizeLine := by
    rw [← hk]
    have := List.length_filter_le (fun (i : Nat) => !decide ((t : Int) = (i : Int)) && !decide (nmF a b (tieAt ts (i : Int)).1 = nmF a b (tieAt ts (i : Int)).2)) (List.range ts.length)
    rw [List.length_range] at this
    omega
  simp
  rw [comp_mapF [some (O.val (D.tup [D.int m, tsD ts])), some (O.val (D.tup [D.int (t : Int)])), some (O.val (.lst ((irange m).map fun x => D.int (hd1 a b x)))), some (.lst ((ordE m b).map .int)), some (.val (.tup ((irange m).map fun x => D.int (nmF a b x)))), some (.val (.lst (kept.map fun (i : Nat) => .int (i : Nat)))), none, none, none] kept (fun (i : Nat) => .int (i : Nat)) (fun (i : Nat) => pD (mnI (nmF a b (tieAt ts (i : Int)).1) (nmF a b (tieAt ts (i : Int)).2), mxI (nmF a b (tieAt ts (i : Int)).1) (nmF a b (tieAt ts (i : Int)).2)))
    (by simp) (fun i hi => by
      obtain ⟨e1, e2, e3, e4⟩ := tie_at ho (hkm i hi)
      have n1 := nm_at (m := m) (a := a) (b := b) (i := (tieAt ts (i : Int)).1) e2 (by omega)
      have n2 := nm_at (m := m) (a := a) (b := b) (i := (tieAt ts (i : Int)).2) (by omega) e4
      simp [turnOk, atI0, atI1, tsD, e1, n1, n2, pD]) hkl]
  have hm1 := ordE_len (m := m) (b := b) m1
  simp [atI0, hm1]
  unfold tsD fastTs
  congr 1
  rw [List.map_map, ← tie_fm ts, ← hk]
  simp only [Function.comp_def]
  congr 1
  apply List.filter_congr
  intro i hi
  by_cases h : (t : Int) = (i : Int)
  · have h2 : nmF a b (tieAt ts (i : Int)).1 = nmF a b (tieAt ts (i : Int)).2 := by
      rw [← h, e]
      unfold nmF
      simp only
      rw [if_neg (by omega), if_neg (by omega), if_pos trivial]
    simp [h2]
  · simp [h]
/-! ### the same, as the law says it -/
@[simp] theorem ev_whole {i : Int} : f__law_whole [.val (.int i)] = .ok (.val (.bl true)) [] := (rfl)
theorem map_set {α : Type} {m : Int} {f g : Int → α} {b : Int} (h0 : 0 ≤ b) (h1 : b < m) (h : ∀ x, 0 ≤ x → x < m → x ≠ b → g x = f x) : ((irange m).map f).set b.toNat (g b) = (irange m).map g := by
  apply List.ext_getElem?
  intro k
  by_cases hk : k = b.toNat
  · subst hk
    have hl : b.toNat < ((irange m).map f).length := by rw [List.length_map, irange_len]; omega
    rw [List.getElem?_set_self hl, irange_get h0 h1]
  · rw [List.getElem?_set_ne (Ne.symm hk)]
    by_cases hl : (k : Int) < m
    · have e1 := irange_get (m := m) (f := f) (i := (k : Int)) (by omega) hl
      have e2 := irange_get (m := m) (f := g) (i := (k : Int)) (by omega) hl
      simp only [Int.toNat_natCast] at e1 e2
      rw [e1, e2, h (k : Int) (by omega) hl (by omega)]
    · rw [List.getElem?_eq_none (by rw [List.length_map, irange_len]; omega), List.getElem?_eq_none (by rw [List.length_map, irange_len]; omega)]
theorem okTs_at {m : Int} {ts : List Tie} {t : Tie} (ho : okTs m ts) (h : t ∈ ts) : 0 ≤ t.1 ∧ t.1 < t.2 ∧ t.2 < m := okT_iff.mp (ho t h)
theorem rgD_irange {m : Int} : rgD 0 m = (irange m).map .int := by
  unfold rgD irange
  simp [Function.comp_def]
theorem rangeD_irange {m : Int} : rangeD 0 m.toNat = (irange m).map .int := by
  unfold rangeD irange
  simp [Function.comp_def]
theorem ev_lfast {m : Int} {ts : List Tie} {t : Nat} {a b : Int} (hw : okW m ts = true) (ht : t < ts.length) (e : tieAt ts (t : Int) = (a, b)) :
    f__law_fast [.val (webD m ts), .val (.int (t : Int))] = .ok (.val (webD (m - 1) (fastTs a b ts))) [] := by
  obtain ⟨m1, m2, l40, ho⟩ := okW_iff.mp hw
  have hT := tieAt_ok ho (t := (t : Int)) (by omega) (by omega)
  rw [e] at hT
  obtain ⟨ha, hab, hb⟩ := hT
  simp only at ha hab hb
  have h4k := line4k
  have hlen : (irange m).length ≤ 12 := by rw [irange_len]; omega
  have et : atI (ts.map pD) (t : Int) = some (.tup [.int a, .int b]) := by rw [(tie_at ho ht).1, e]
  unfold f__law_fast m__law_fast
  rw [mkFn_ev]
  simp [webD, tsD, et]
  rw [comp_mapF [some (O.val (D.tup [D.int m, D.tup (ts.map pD)])), some (O.val (D.int (t : Int))), none, none, some (.val (.int m)), some (.val (.tup (ts.map pD))), some (.val (.int a)), some (.val (.int b)), none, none, none, none] (irange m) (fun x => .int x) (fun x => .int (x - (if b < x then 1 else 0)))
    (by simp [rngM_ok (show 0 ≤ m by omega) (show m ≤ 16777216 by omega), rangeD_irange]) (fun x hx => by
      by_cases h : b < x <;> simp [turnOk, h]) (by omega)]
  have hs : setO (.lst ((irange m).map fun x => D.int (x - if b < x then 1 else 0))) (.int b) (.int a) = some (.lst ((irange m).map fun x => D.int (nmF a b x))) := by
    rw [set_ok (by omega) (by rw [List.length_map, irange_len]; omega)]
    have := map_set (m := m) (f := fun x => D.int (x - if b < x then 1 else 0)) (g := fun x => D.int (nmF a b x)) (b := b) (by omega) hb (fun x h0 h1 h2 => by
      unfold nmF
      rw [if_neg h2]
      by_cases h : b < x
      · rw [if_pos h, if_pos (by omega)]
      · rw [if_neg h, if_neg (by omega)]; simp)
    simp only [nmF, if_true] at this ⊢
    rw [this]
  simp [hs]
  rw [comp_selF [some (O.val (D.tup [D.int m, D.tup (ts.map pD)])), some (O.val (D.int (t : Int))), some (.lst ((irange m).map fun x => D.int (nmF a b x))), none, some (.val (.int m)), some (.val (.tup (ts.map pD))), some (.val (.int a)), some (.val (.int b)), none, none, none, none] ts pD (fun t => !decide (nmF a b t.1 = nmF a b t.2)) (fun t => .tup [.int (nmF a b t.1), .int (nmF a b t.2)])
    (by simp) (fun x hx => by
      obtain ⟨k1, k2, k3⟩ := okTs_at ho hx
      have n1 := nm_at (m := m) (a := a) (b := b) (i := x.1) k1 (by omega)
      have n2 := nm_at (m := m) (a := a) (b := b) (i := x.2) (by omega) k3
      by_cases h2 : nmF a b x.1 = nmF a b x.2
      · simp [turnOk, pD, n1, n2, h2]
      · simp [turnOk, pD, n1, n2, h2]) (by omega)]
  have hfl : (ts.filter fun t => !decide (nmF a b t.1 = nmF a b t.2)).length ≤ sizeLine := by
    have := List.length_filter_le (fun t : Tie => !decide (nmF a b t.1 = nmF a b t.2)) ts
    omega
  simp
  rw [comp_mapF [some (O.val (D.tup [D.int m, D.tup (ts.map pD)])), some (O.val (D.int (t : Int))), some (.lst ((irange m).map fun x => D.int (nmF a b x))), some (.val (.lst ((ts.filter fun t => !decide (nmF a b t.1 = nmF a b t.2)).map fun t => .tup [.int (nmF a b t.1), .int (nmF a b t.2)]))), some (.val (.int m)), some (.val (.tup (ts.map pD))), some (.val (.int a)), some (.val (.int b)), none, none, none, none] (ts.filter fun t => !decide (nmF a b t.1 = nmF a b t.2)) (fun t => .tup [.int (nmF a b t.1), .int (nmF a b t.2)]) (fun t => pD (mnI (nmF a b t.1) (nmF a b t.2), mxI (nmF a b t.1) (nmF a b t.2)))
    (by simp) (fun x hx => by simp [turnOk, pD]) hfl]
  simp
  unfold fastTs
  rw [List.map_map]
  rfl
end L67

set_option Elab.async false
set_option linter.all false
set_option autoImplicit false
set_option maxRecDepth 100000
set_option maxHeartbeats 4000000
namespace L67
open PySem PySem.Spec PyProof.Rows L2 Mi

/-! ### turns -/
def ixO (o : List Int) (x : Int) : Int := ((o.idxOf x : Nat) : Int)
def turnTs (o : List Int) (ts : List Tie) : List Tie := ts.map fun t => (mnI (ixO o t.1) (ixO o t.2), mxI (ixO o t.1) (ixO o t.2))
theorem look_go {x : Int} : ∀ (o : List Int) (k : Nat), x ∈ o → lookD ((List.range' k o.length).map fun (i : Nat) => ((Sum.inl (o.getD (i - k) 0) : Key), D.int (i : Nat))) (.inl x) = some (.int ((k + o.idxOf x : Nat) : Int))
  | [], _, h => by simp at h
  | y :: o, k, h => by
    rw [List.length_cons, List.range'_succ, List.map_cons]
    unfold lookD
    rw [List.find?_cons]
    simp only [Nat.sub_self, List.getD_cons_zero]
    by_cases e : y = x
    · subst e
      simp
    · have hne : ¬ ((Sum.inl y : Key) = Sum.inl x) := fun q => e (Sum.inl.inj q)
      rw [decide_eq_false hne]
      simp only
      have hx : x ∈ o := by
        rcases List.mem_cons.mp h with rfl | h
        · exact absurd rfl e
        · exact h
      have ih := look_go o (k + 1) hx
      unfold lookD at ih
      have e2 : (List.range' (k + 1) o.length).map (fun (i : Nat) => ((Sum.inl ((y :: o).getD (i - k) 0) : Key), D.int (i : Nat))) = (List.range' (k + 1) o.length).map fun (i : Nat) => ((Sum.inl (o.getD (i - (k + 1)) 0) : Key), D.int (i : Nat)) := by
        apply List.map_congr_left
        intro i hi
        have := (List.mem_range'_1.mp hi).1
        have e3 : i - k = (i - (k + 1)) + 1 := by omega
        rw [e3, List.getD_cons_succ]
      rw [e2, ih]
      have : List.idxOf x (y :: o) = List.idxOf x o + 1 := by
        rw [List.idxOf_cons, show (y == x) = false from beq_eq_false_iff_ne.mpr e]
        rfl
      rw [this]
      congr 3
      omega
def kvsO (o : List Int) : List (Key × D) := (List.range o.length).map fun (i : Nat) => ((Sum.inl (o.getD i 0) : Key), D.int (i : Nat))
theorem look_kvs {o : List Int} {x : Int} (h : x ∈ o) : lookD (kvsO o) (.inl x) = some (.int (ixO o x)) := by
  have := look_go o 0 h
  rw [Nat.zero_add] at this
  unfold kvsO ixO
  rw [List.range_eq_range']
  exact this
theorem perm_mem {m : Int} {o : List Int} (p : o.Perm (irange m)) {x : Int} : x ∈ o ↔ 0 ≤ x ∧ x < m := by
  rw [p.mem_iff, mem_irange]
theorem ev_turned {m : Int} {ts : List Tie} {o : List Int} (hw : okW m ts = true) (p : o.Perm (irange m)) : f_raw_turned_web [.val (webD m ts), .val (lotD o)] = .ok (.val (webD m (turnTs o ts))) [] := by
  obtain ⟨m1, m2, l40, ho⟩ := okW_iff.mp hw
  have h4k := line4k
  have hlen : o.length ≤ 12 := by rw [p.length_eq, irange_len]; omega
  have nd : o.Nodup := p.nodup_iff.mpr irange_nd
  unfold f_raw_turned_web m_raw_turned_web
  rw [mkFn_ev]
  simp [webD, lotD]
  rw [dcomp_mapF [some (O.val (D.tup [D.int m, tsD ts])), some (O.val (D.tup (o.map .int))), none, none, none, none, none] (List.range o.length) (fun (i : Nat) => .tup [.int (i : Nat), .int (o.getD i 0)]) (fun (i : Nat) => .inl (o.getD i 0)) (fun (i : Nat) => .int (i : Nat))
    (by
      simp [enumD_eq]
      intro i hi
      simp [hi]) (by
      have h2 : (List.range o.length).map (fun (i : Nat) => (Sum.inl (o.getD i 0) : Key)) = o.map Sum.inl := by
        have := congrArg (List.map (Sum.inl : Int → Key)) (range_self o 0)
        rw [List.map_map] at this
        exact this
      rw [h2]
      exact List.Pairwise.map _ (fun a b h q => h (Sum.inl.inj q)) nd) (fun i hi => by simp [turnDOk]) (by simp; omega)]
  simp [atI0, atI1, tsD]
  have hk : (List.range o.length).map (fun (i : Nat) => ((Sum.inl (o[i]?.getD 0) : Key), D.int (i : Nat))) = kvsO o := by
    unfold kvsO
    simp [List.getD_eq_getElem?_getD]
  rw [hk]
  rw [comp_mapF [some (O.val (D.tup [D.int m, D.tup (ts.map pD)])), some (O.val (D.tup (o.map .int))), some (.dic (kvsO o)), none, none, none, none] ts pD (fun t => pD (mnI (ixO o t.1) (ixO o t.2), mxI (ixO o t.1) (ixO o t.2)))
    (by simp [atI1]) (fun x hx => by
      obtain ⟨k1, k2, k3⟩ := okTs_at ho hx
      have n1 := look_kvs (o := o) (x := x.1) ((perm_mem p).mpr ⟨k1, by omega⟩)
      have n2 := look_kvs (o := o) (x := x.2) ((perm_mem p).mpr ⟨by omega, k3⟩)
      simp [turnOk, pD, n1, n2]) (by omega)]
  simp [turnTs, Function.comp_def]
/-! ### as the law says it -/
theorem idx_lt {o : List Int} {x : Int} (h : x ∈ o) : o.idxOf x < o.length := List.idxOf_lt_length_of_mem h
theorem ev_called {m : Int} {o : List Int} (m2 : m ≤ 12) (p : o.Perm (irange m)) : f__law_called [.val (lotD o)] = .ok (.lst ((irange m).map fun x => .int (ixO o x))) [] := by
  have nd : o.Nodup := p.nodup_iff.mpr irange_nd
  have hl : o.length = m.toNat := by rw [p.length_eq, irange_len]
  unfold f__law_called m__law_called
  rw [mkFn_ev]
  have hm0 : mulD (.lst [.int 0]) (.int (o.length : Int)) = some (.lst ((irange m).map fun x => .int (if o.idxOf x < 0 then ixO o x else 0))) := by
    rw [mulD_lst (by omega) (by simp; omega)]
    congr 2
    rw [hl]
    apply List.ext_getElem
    · simp [irange]
    · intro i h1 h2
      simp [irange]
  simp [lotD, hm0]
  have key := loop_inv (g := gNm false 2) (b := mAsg (mVar 2) (gSubQ 1 (mBin ixD (mVar 0) (mVar 2))))
    (fun i ρ => ∃ o2, ρ = [some (.val (.tup (o.map .int))), some (.lst ((irange m).map fun x => .int (if o.idxOf x < i then ixO o x else 0))), o2]) ((List.range o.length).map fun (i : Nat) => .int (i : Nat)) 0
    [some (.val (.tup (o.map .int))), some (.lst ((irange m).map fun x => .int 0)), none] ⟨none, by simp⟩ ?_
  · obtain ⟨ρ', h1, o2, rfl⟩ := key
    rw [rngM_nat (by omega)]
    simp only [thn_ok]
    rw [h1]
    simp
    intro x hx
    have := idx_lt (p.mem_iff.mpr hx)
    intro h
    omega
  · rintro i d ρ hd ⟨o2, rfl⟩
    rw [List.getElem?_map, Option.map_eq_some_iff] at hd
    obtain ⟨i', hi', rfl⟩ := hd
    have hi2 : i < o.length := by
      by_cases h : i < o.length
      · exact h
      · rw [List.getElem?_eq_none (by simp; omega)] at hi'; cases hi'
    have hii : i' = i := by simpa [hi2] using hi'.symm
    subst hii
    simp only [Nat.zero_add]
    have hx : o[i'] ∈ o := List.getElem_mem hi2
    obtain ⟨x0, x1⟩ := (perm_mem p).mp hx
    have e0 : atI (o.map D.int) (i' : Int) = some (.int o[i']) := by
      rw [atI_map, atI_ofNat]; simp [hi2]
    have hidx : o.idxOf o[i'] = i' := List.Nodup.idxOf_getElem nd i' hi2
    have hs : setO (.lst ((irange m).map fun x => D.int (if o.idxOf x < i' then ixO o x else 0))) (.int o[i']) (.int (i' : Int)) = some (.lst ((irange m).map fun x => D.int (if o.idxOf x < i' + 1 then ixO o x else 0))) := by
      rw [set_ok x0 (by rw [List.length_map, irange_len]; omega)]
      have := map_set (m := m) (f := fun x => D.int (if o.idxOf x < i' then ixO o x else 0)) (g := fun x => D.int (if o.idxOf x < i' + 1 then ixO o x else 0)) (b := o[i']) x0 x1 (fun x h0 h1 h2 => by
        have hne : o.idxOf x ≠ i' := fun q => by
          have hxo := (perm_mem p).mpr ⟨h0, h1⟩
          have := List.getElem_idxOf (idx_lt hxo)
          simp only [q] at this
          exact h2 this.symm
        by_cases h3 : o.idxOf x < i'
        · simp [h3, show o.idxOf x < i' + 1 by omega]
        · simp [h3, show ¬ o.idxOf x < i' + 1 by omega])
      have e1 : D.int (if o.idxOf o[i'] < i' + 1 then ixO o o[i'] else 0) = .int (i' : Int) := by
        unfold ixO
        rw [hidx, if_pos (by omega)]
      simp only [e1] at this
      rw [this]
    refine ⟨_, .inl ?_, some (.val (.int (i' : Int))), rfl⟩
    unfold turnL
    simp [e0, hs]
theorem ev_lturned {m : Int} {ts : List Tie} {o : List Int} (hw : okW m ts = true) (p : o.Perm (irange m)) : f__law_turned [.val (webD m ts), .val (lotD o)] = .ok (.val (webD m (turnTs o ts))) [] := by
  obtain ⟨m1, m2, l40, ho⟩ := okW_iff.mp hw
  have h4k := line4k
  have hc := ev_called (by omega : m ≤ 12) p
  unfold f__law_turned m__law_turned
  rw [mkFn_ev]
  simp [webD, tsD, lotD] at hc ⊢
  simp [hc]
  have at_ : ∀ i, 0 ≤ i → i < m → atI ((irange m).map fun x => D.int (ixO o x)) i = some (.int (ixO o i)) := fun i h0 h1 => by rw [atI_nn h0, irange_get h0 h1]
  rw [comp_mapF [some (O.val (D.tup [D.int m, D.tup (ts.map pD)])), some (O.val (D.tup (o.map .int))), some (.lst ((irange m).map fun x => .int (ixO o x))), none, some (.val (.int m)), some (.val (.tup (ts.map pD))), none, none, none] ts pD (fun t => .tup [.int (ixO o t.1), .int (ixO o t.2)])
    (by simp) (fun x hx => by
      obtain ⟨k1, k2, k3⟩ := okTs_at ho hx
      have n1 := at_ x.1 k1 (by omega)
      have n2 := at_ x.2 (by omega) k3
      simp [turnOk, pD, n1, n2]) (by omega)]
  simp
  rw [comp_mapF [some (O.val (D.tup [D.int m, D.tup (ts.map pD)])), some (O.val (D.tup (o.map .int))), some (.lst ((irange m).map fun x => .int (ixO o x))), some (.val (.lst (ts.map fun t => .tup [.int (ixO o t.1), .int (ixO o t.2)]))), some (.val (.int m)), some (.val (.tup (ts.map pD))), none, none, none] ts (fun t => .tup [.int (ixO o t.1), .int (ixO o t.2)]) (fun t => pD (mnI (ixO o t.1) (ixO o t.2), mxI (ixO o t.1) (ixO o t.2)))
    (by simp) (fun x hx => by simp [turnOk, pD]) (by omega)]
  simp [turnTs, Function.comp_def]
end L67

set_option Elab.async false
set_option linter.all false
set_option autoImplicit false
set_option maxRecDepth 100000
set_option maxHeartbeats 4000000
namespace L67
open PySem PySem.Spec PyProof.Rows L2 Mi

/-! ### the edited web, the other kinds -/
theorem mn_lt_mx {x y : Int} (h : x ≠ y) : mnI x y < mxI x y := by
  unfold mnI mxI
  by_cases h1 : y < x
  · rw [if_pos h1, if_neg (by omega)]; exact h1
  · rw [if_neg h1, if_pos (by omega)]; omega
theorem mn_ge {x y a : Int} (h1 : a ≤ x) (h2 : a ≤ y) : a ≤ mnI x y := by unfold mnI; split <;> assumption
theorem mx_lt {x y a : Int} (h1 : x < a) (h2 : y < a) : mxI x y < a := by unfold mxI; split <;> assumption
theorem ok_erase {m : Int} {ts : List Tie} {t : Nat} (h : okW m ts = true) : okW m (ts.eraseIdx t) = true := by
  obtain ⟨m1, m2, l40, ho⟩ := okW_iff.mp h
  refine okW_iff.mpr ⟨m1, m2, ?_, fun x hx => ho x (List.mem_of_mem_eraseIdx hx)⟩
  have := L2.len_erase ts t
  omega
theorem nm_rg {m a b x : Int} (ha : 0 ≤ a) (hab : a < b) (hb : b < m) (h0 : 0 ≤ x) (h1 : x < m) : 0 ≤ nmF a b x ∧ nmF a b x < m - 1 := by
  unfold nmF
  split
  · omega
  · split <;> omega
theorem ok_fast {m : Int} {ts : List Tie} {a b : Int} (h : okW m ts = true) (ha : 0 ≤ a) (hab : a < b) (hb : b < m) : okW (m - 1) (fastTs a b ts) = true := by
  obtain ⟨m1, m2, l40, ho⟩ := okW_iff.mp h
  refine okW_iff.mpr ⟨by omega, by omega, ?_, fun x hx => ?_⟩
  · unfold fastTs
    rw [List.length_map]
    have := List.length_filter_le (fun t : Tie => !decide (nmF a b t.1 = nmF a b t.2)) ts
    omega
  · unfold fastTs at hx
    obtain ⟨t, ht, rfl⟩ := List.mem_map.mp hx
    obtain ⟨ht, hne⟩ := List.mem_filter.mp ht
    obtain ⟨k1, k2, k3⟩ := okTs_at ho ht
    have r1 := nm_rg ha hab hb k1 (show t.1 < m by omega)
    have r2 := nm_rg ha hab hb (show 0 ≤ t.2 by omega) k3
    have hne' : nmF a b t.1 ≠ nmF a b t.2 := by simpa using hne
    exact okT_iff.mpr ⟨mn_ge r1.1 r2.1, mn_lt_mx hne', mx_lt r1.2 r2.2⟩
theorem ixO_rg {m : Int} {o : List Int} (p : o.Perm (irange m)) {x : Int} (h0 : 0 ≤ x) (h1 : x < m) : 0 ≤ ixO o x ∧ ixO o x < m := by
  have hx := (perm_mem p).mpr ⟨h0, h1⟩
  have := idx_lt hx
  have hl : o.length = m.toNat := by rw [p.length_eq, irange_len]
  unfold ixO
  omega
theorem ixO_inj {m : Int} {o : List Int} (p : o.Perm (irange m)) {x y : Int} (h0 : 0 ≤ x) (h1 : x < m) (k0 : 0 ≤ y) (k1 : y < m) (h : ixO o x = ixO o y) : x = y := by
  have hx := (perm_mem p).mpr ⟨h0, h1⟩
  have hy := (perm_mem p).mpr ⟨k0, k1⟩
  have e : o.idxOf x = o.idxOf y := by unfold ixO at h; omega
  have a := List.getElem_idxOf (idx_lt hx)
  have b := List.getElem_idxOf (idx_lt hy)
  simp only [e] at a
  rw [← a, b]
theorem ok_turn {m : Int} {ts : List Tie} {o : List Int} (h : okW m ts = true) (p : o.Perm (irange m)) : okW m (turnTs o ts) = true := by
  obtain ⟨m1, m2, l40, ho⟩ := okW_iff.mp h
  refine okW_iff.mpr ⟨by omega, by omega, by unfold turnTs; rw [List.length_map]; exact l40, fun x hx => ?_⟩
  unfold turnTs at hx
  obtain ⟨t, ht, rfl⟩ := List.mem_map.mp hx
  obtain ⟨k1, k2, k3⟩ := okTs_at ho ht
  have r1 := ixO_rg p k1 (show t.1 < m by omega)
  have r2 := ixO_rg p (show 0 ≤ t.2 by omega) k3
  exact okT_iff.mpr ⟨mn_ge r1.1 r2.1, mn_lt_mx (fun q => by have := ixO_inj p k1 (by omega) (by omega) k3 q; omega), mx_lt r1.2 r2.2⟩
theorem re_untie {m : Int} {ts : List Tie} {t : Nat} (h : okW m ts = true) (ht : t < ts.length) : f_raw_edited [.val (webD m ts), .val (untieE (t : Int))] = .ok (.val (webD m (ts.eraseIdx t))) [] := by
  obtain ⟨m1, m2, l40, ho⟩ := okW_iff.mp h
  have hwo := ev_without (m := m) (t := t) l40
  have hw := ev_is_web (m := m) (ts := ts.eraseIdx t)
  rw [ok_erase h] at hw
  unfold f_raw_edited m_raw_edited
  rw [mkFn_ev]
  simp
  have ht' : (t : Int) < ts.length := by omega
  simp [webD, lotD] at hwo hw
  simp [untieE, wordE, webD, tsD, atI0, atI1, ht, ht']
  simp [tsD] at hwo hw
  simp [hwo, atI0, hw]
theorem re_fast {m : Int} {ts : List Tie} {t : Nat} {a b : Int} (h : okW m ts = true) (ht : t < ts.length) (e : tieAt ts (t : Int) = (a, b)) : f_raw_edited [.val (webD m ts), .val (fastE (t : Int))] = .ok (.val (webD (m - 1) (fastTs a b ts))) [] := by
  obtain ⟨m1, m2, l40, ho⟩ := okW_iff.mp h
  have hT := tieAt_ok ho (t := (t : Int)) (by omega) (by omega)
  rw [e] at hT
  obtain ⟨x, y, hwo⟩ := ev_fast h ht e
  have hw := ev_is_web (m := m - 1) (ts := fastTs a b ts)
  rw [ok_fast h hT.1 hT.2.1 hT.2.2] at hw
  unfold f_raw_edited m_raw_edited
  rw [mkFn_ev]
  simp
  have ht' : (t : Int) < ts.length := by omega
  simp [webD, lotD] at hwo hw
  simp [fastE, wordE, webD, tsD, atI0, atI1, ht, ht']
  simp [tsD] at hwo hw
  simp [hwo, atI0, hw]
theorem ints_all {L : List Int} : (L.all fun x => isIntD (.int x)) = true := by simp [isIntD]
theorem ok1_ints {L : List Int} : ok1 1 (.lst (L.map .int)) := ok1_lst fun x hx => by
  obtain ⟨n, _, rfl⟩ := List.mem_map.mp hx
  exact ok1_int
theorem ev_order {m : Int} {ts : List Tie} {o : List Int} (hw : okW m ts = true) (p : o.Perm (irange m)) : f_is_order [.val (webD m ts), .val (lotD o)] = .ok (.val (.bl true)) [] := by
  obtain ⟨m1, m2, l40, ho⟩ := okW_iff.mp hw
  have h4k := line4k
  have hl : (o.length : Int) = m := by have := p.length_eq; rw [irange_len] at this; omega
  have hs : sortA (.tup (o.map .int)) = some (.lst ((irange m).map .int)) := by
    rw [sortA_tup, sort_eq (irange_pw.imp fun h => by omega) p.symm]
  unfold f_is_order m_is_order
  rw [mkFn_ev]
  have e3 : inB m (o.length : Int) m = true := by unfold inB; simp [hl]
  simp [webD, lotD, atI0, e3]
  rw [comp_mapF [some (O.val (D.tup [D.int m, tsD ts])), some (O.val (D.tup (o.map .int))), none] o D.int (fun x => .bl (isIntD (.int x))) (by simp) (fun x hx => by simp [turnOk, isIntD]) (by omega)]
  simp [all_map, ints_all, hs, atI0, rgM_ok (show 0 ≤ m by omega) (show m ≤ 16777216 by omega), rgD_irange, eqD_refl (okD_of (ok1_ints (L := irange m)) (by omega))]
theorem re_turn {m : Int} {ts : List Tie} {o : List Int} (h : okW m ts = true) (p : o.Perm (irange m)) : f_raw_edited [.val (webD m ts), .val (turnE (lotD o))] = .ok (.val (webD m (turnTs o ts))) [] := by
  have hor := ev_order h p
  have htu := ev_turned h p
  have hw := ev_is_web (m := m) (ts := turnTs o ts)
  rw [ok_turn h p] at hw
  unfold f_raw_edited m_raw_edited
  rw [mkFn_ev]
  have hie := ie_turn (o := lotD o) rfl
  simp [hie]
  simp [turnE, wordE, atI0, atI1]
  simp [hor, htu, hw, atI0, atI1]
end L67

set_option Elab.async false
set_option linter.all false
set_option autoImplicit false
set_option maxRecDepth 100000
set_option maxHeartbeats 4000000
namespace L67
open PySem PySem.Spec PyProof.Rows L2 Mi

/-! ### edits that are refused -/
def Ref (m : Int) (ts : List Tie) (e : D) : Prop := f_raw_edited [.val (webD m ts), .val e] = .ok (.val .non) []
section
variable {m : Int} {ts : List Tie}
theorem ref_no {e : D} (h : f_is_edit [.val e] = .ok (.val (.bl false)) []) : Ref m ts e := by
  unfold Ref f_raw_edited m_raw_edited
  rw [mkFn_ev]
  simp [h]
theorem ref_tie {i j : Int} (h : ts.length ≤ 40) (hn : okT m (i, j) = false ∨ ts.length = 40) : Ref m ts (tieE i j) := by
  unfold Ref
  rw [re_tie h]
  unfold webO
  have : okW m (ts ++ [(i, j)]) = false := by
    cases e : okW m (ts ++ [(i, j)]) with
    | false => rfl
    | true =>
      obtain ⟨_, _, l, o⟩ := okW_iff.mp e
      rcases hn with hn | hn
      · rw [o (i, j) (by simp)] at hn; cases hn
      · rw [List.length_append] at l; simp at l; omega
  rw [this]
  rfl
theorem ref_place (h : m = 12) : Ref m ts placeE := by
  unfold Ref
  rw [re_place]
  unfold webO
  have : okW (m + 1) ts = false := by
    cases e : okW (m + 1) ts with
    | false => rfl
    | true =>
      obtain ⟨_, l, _, _⟩ := okW_iff.mp e
      omega
  rw [this]
  rfl
theorem ref_untie {t : Int} (h : ¬ (0 ≤ t ∧ t < ts.length)) : Ref m ts (untieE t) := by
  unfold Ref f_raw_edited m_raw_edited
  rw [mkFn_ev]
  simp
  by_cases h0 : 0 ≤ t
  · have h1 : ¬ t < ts.length := fun q => h ⟨h0, q⟩
    simp [untieE, wordE, webD, tsD, atI0, atI1, h0, h1]
  · simp [untieE, wordE, webD, tsD, atI0, atI1, h0]
theorem ref_fast {t : Int} (h : ¬ (0 ≤ t ∧ t < ts.length)) : Ref m ts (fastE t) := by
  unfold Ref f_raw_edited m_raw_edited
  rw [mkFn_ev]
  simp
  by_cases h0 : 0 ≤ t
  · have h1 : ¬ t < ts.length := fun q => h ⟨h0, q⟩
    simp [fastE, wordE, webD, tsD, atI0, atI1, h0, h1]
  · simp [fastE, wordE, webD, tsD, atI0, atI1, h0]
theorem ord_no {o : D} (h : f_is_sized [.val o, .val (.int m), .val (.int m)] = .ok (.val (.bl false)) []) : f_is_order [.val (webD m ts), .val o] = .ok (.val (.bl false)) [] := by
  unfold f_is_order m_is_order
  rw [mkFn_ev]
  simp [webD, atI0, h]
theorem web_non : f_is_web [.val .non] = .ok (.val (.bl false)) [] := by rfl
theorem ref_turn {o : D} (hs : noSet o = true) (h : f_is_sized [.val o, .val (.int m), .val (.int m)] = .ok (.val (.bl false)) []) : Ref m ts (turnE o) := by
  have hor := ord_no (ts := ts) h
  have hie := ie_turn hs
  unfold Ref f_raw_edited m_raw_edited
  rw [mkFn_ev]
  simp [hie]
  simp [turnE, wordE, atI0, atI1]
  simp [hor, web_non, atI0, atI1]
theorem ref_turn_t {xs : List D} (h : (xs.length : Int) ≠ m) : Ref m ts (turnE (.tup xs)) := ref_turn rfl (by
  rw [ev_is_sized_t]
  have : inB m (xs.length : Int) m = false := by
    unfold inB
    cases e : (decide (m ≤ (xs.length : Int)) && decide ((xs.length : Int) ≤ m)) with
    | false => rfl
    | true => simp at e; omega
  rw [this])
theorem ref_turn_l {xs : List D} : Ref m ts (turnE (.lst xs)) := ref_turn rfl (ev_is_sized_n rfl rfl)
theorem ref_turn_i {i : Int} : Ref m ts (turnE (.int i)) := ref_turn rfl (ev_is_sized_n rfl rfl)
/-! ### edited, replayed -/
theorem ev_edited {e d : D} (h : okW m ts = true) (he : f_raw_edited [.val (webD m ts), .val e] = .ok (.val d) []) (hd : isD false d .non = some (.val (.bl false))) : f_edited [.val (webD m ts), .val e] = .ok (.val d) [] := by
  unfold f_edited m_edited
  rw [mkFn_ev]
  simp [h, he, hd]
theorem ev_edited_no {e : D} (h : okW m ts = true) (he : Ref m ts e) : f_edited [.val (webD m ts), .val e] = .ex ⟨"NoEdit", none⟩ [] := by
  unfold Ref at he
  have hd : isD false .non .non = some (.val (.bl true)) := rfl
  unfold f_edited m_edited
  rw [mkFn_ev]
  simp [h, he, hd]
theorem isD_web {m' : Int} {ts' : List Tie} : isD false (webD m' ts') .non = some (.val (.bl false)) := rfl
theorem ev_refused {e : D} (h : okW m ts = true) (he : Ref m ts e) : f__law_refused [.val (webD m ts), .val e] = .ok (.val (.bl true)) [] := by
  have h1 := ev_edited_no h he
  have i1 : isa "NoEdit" "TreeError" = some true := by decide +kernel
  have i2 : isa "NoEdit" "NoEdit" = some true := by decide +kernel
  have i3 : isa "NoEdit" "ValueError" = some true := by decide +kernel
  have e1 : eqD (.str "edit") (.str "edit") = some (.val (.bl true)) := by kernel_rfl
  unfold f__law_refused m__law_refused
  rw [mkFn_ev]
  simp [mTry, h1, i1, i2, i3, mIsE, noXe, noXo, noXc, notAt, e1]
end
end L67

set_option Elab.async false
set_option linter.all false
set_option autoImplicit false
set_option maxRecDepth 100000
set_option maxHeartbeats 4000000
namespace L67
open PySem PySem.Spec PyProof.Rows L2 Mi

/-! ### replaying -/
abbrev Web := Int × List Tie
def wD (s : Web) : D := webD s.1 s.2
def okS (s : Web) : Prop := okW s.1 s.2 = true
def Step (s : Web) (e : D) (s' : Web) : Prop := okS s' ∧ f_raw_edited [.val (wD s), .val e] = .ok (.val (wD s')) []
structure Runs (s : Web) (es : List D) (f : Web) : Prop where
  ex : ∃ st : Nat → Web, st 0 = s ∧ st es.length = f ∧ ∀ i, i < es.length → Step (st i) (es.getD i .non) (st (i + 1))
theorem Runs.nil {s : Web} : Runs s [] s := ⟨⟨fun _ => s, rfl, rfl, fun i h => by simp at h⟩⟩
theorem Runs.snoc {s f f' : Web} {es : List D} {e : D} (h : Runs s es f) (k : Step f e f') : Runs s (es ++ [e]) f' := by
  obtain ⟨st, h0, h1, h2⟩ := h.ex
  refine ⟨⟨fun i => if i ≤ es.length then st i else f', ?_, ?_, fun i hi => ?_⟩⟩
  · simp [h0]
  · simp [show ¬ es.length + 1 ≤ es.length by omega]
  · rw [List.length_append, List.length_singleton] at hi
    by_cases hl : i < es.length
    · have e1 : (es ++ [e]).getD i .non = es.getD i .non := by
        simp [List.getD_eq_getElem?_getD, List.getElem?_append_left hl]
      rw [e1]
      simp only [show i ≤ es.length by omega, show i + 1 ≤ es.length by omega, if_true]
      exact h2 i hl
    · have hi' : i = es.length := by omega
      subst hi'
      have e1 : (es ++ [e]).getD es.length .non = e := by simp [List.getD_eq_getElem?_getD]
      rw [e1]
      simp only [Nat.le_refl, if_true, show ¬ es.length + 1 ≤ es.length by omega, if_false]
      rw [h1]
      exact k
def stopsD (n : Int) : D := .tup [.str "stops", .int n]
def goD (s : Web) : D := .tup [.str "web", wD s]
theorem enum_at {xs : List D} {i : Nat} {d : D} (h : (enumD xs)[i]? = some d) : i < xs.length ∧ d = .tup [.int (i : Nat), xs.getD i .non] := by
  rw [enumD_eq, List.getElem?_map, Option.map_eq_some_iff] at h
  obtain ⟨j, hj, rfl⟩ := h
  by_cases hl : i < xs.length
  · have : j = i := by simpa [hl] using hj.symm
    subst this
    exact ⟨hl, rfl⟩
  · rw [List.getElem?_eq_none (by simp; omega)] at hj; cases hj
theorem turn_step {s s' : Web} {e : D} {n : Int} {ed : D} {o2 o3 o4 : Option O} (h : Step s e s') :
    turnL (gTp [gNm false 2, gNm false 3]) (mSeq (mAsg (mCall 2 f_raw_edited (mCons (mVar 0) (mCons (mVar 3) (mNil)))) (gNm false 4)) (mSeq (mIfS (mTst (mBin (isD false) (mVar 4) (mC .non))) (mRet (mTup (mCons (mC (.str "stops")) (mCons (mVar 2) (mNil))))) (mSkip)) (mAsg (mVar 4) (gNm false 0)))) (.tup [.int n, e])
      [some (.val (wD s)), some (.val ed), o2, o3, o4] = .ok .nx [some (.val (wD s')), some (.val ed), some (.val (.int n)), some (.val e), some (.val (wD s'))] := by
  have h2 := h.2
  have hd : isD false (wD s') .non = some (.val (.bl false)) := rfl
  unfold turnL
  simp [h2, hd]
theorem turn_stop {s : Web} {e : D} {n : Int} {ed : D} {o2 o3 o4 : Option O} (h : Ref s.1 s.2 e) :
    turnL (gTp [gNm false 2, gNm false 3]) (mSeq (mAsg (mCall 2 f_raw_edited (mCons (mVar 0) (mCons (mVar 3) (mNil)))) (gNm false 4)) (mSeq (mIfS (mTst (mBin (isD false) (mVar 4) (mC .non))) (mRet (mTup (mCons (mC (.str "stops")) (mCons (mVar 2) (mNil))))) (mSkip)) (mAsg (mVar 4) (gNm false 0)))) (.tup [.int n, e])
      [some (.val (wD s)), some (.val ed), o2, o3, o4] = .ok (.rt (.o (.val (stopsD n)))) [some (.val (wD s)), some (.val ed), some (.val (.int n)), some (.val e), some (.val .non)] := by
  have h2 : f_raw_edited [.val (wD s), .val e] = .ok (.val .non) [] := h
  have hd : isD false .non .non = some (.val (.bl true)) := rfl
  unfold turnL
  simp [h2, hd, stopsD]
theorem ev_replayed {s f : Web} {es : List D} (h0 : okS s) (h : Runs s es f) : f_replayed [.val (wD s), .val (.tup es)] = .ok (.val (goD f)) [] := by
  obtain ⟨st, k0, k1, k2⟩ := h.ex
  have hc : f_check_web [.val (wD s)] = .ok (.val .non) [] := ev_check_web h0
  unfold f_replayed m_replayed
  rw [mkFn_ev]
  simp [hc]
  obtain ⟨ρ', h1, _, o2, o3, o4, rfl⟩ := loop_inv (g := gTp [gNm false 2, gNm false 3]) (b := mSeq (mAsg (mCall 2 f_raw_edited (mCons (mVar 0) (mCons (mVar 3) (mNil)))) (gNm false 4)) (mSeq (mIfS (mTst (mBin (isD false) (mVar 4) (mC .non))) (mRet (mTup (mCons (mC (.str "stops")) (mCons (mVar 2) (mNil))))) (mSkip)) (mAsg (mVar 4) (gNm false 0))))
    (fun i ρ => i ≤ es.length ∧ ∃ o2 o3 o4, ρ = [some (.val (wD (st i))), some (.val (.tup es)), o2, o3, o4]) (enumD es) 0 [some (.val (wD s)), some (.val (.tup es)), none, none, none] ⟨Nat.zero_le _, none, none, none, by rw [k0]⟩ (by
      rintro i d ρ hd ⟨_, o2, o3, o4, rfl⟩
      obtain ⟨hi, rfl⟩ := enum_at hd
      simp only [Nat.zero_add]
      exact ⟨_, .inl (turn_step (k2 i hi)), by omega, _, _, _, rfl⟩)
  have hl : (enumD es).length = es.length := by rw [enumD_eq]; simp
  simp only [Nat.zero_add, hl] at h1 ⊢
  rw [h1]
  simp [k1, goD]
theorem ev_replayed_no {s f : Web} {es : List D} {w x : D} (h0 : okS s) (h : Runs s es f) (hw : Ref f.1 f.2 w) : f_replayed [.val (wD s), .val (.tup (es ++ [w, x]))] = .ok (.val (stopsD es.length)) [] := by
  obtain ⟨st, k0, k1, k2⟩ := h.ex
  have hc : f_check_web [.val (wD s)] = .ok (.val .non) [] := ev_check_web h0
  unfold f_replayed m_replayed
  rw [mkFn_ev]
  simp [hc]
  rcases loop_ret (g := gTp [gNm false 2, gNm false 3]) (b := mSeq (mAsg (mCall 2 f_raw_edited (mCons (mVar 0) (mCons (mVar 3) (mNil)))) (gNm false 4)) (mSeq (mIfS (mTst (mBin (isD false) (mVar 4) (mC .non))) (mRet (mTup (mCons (mC (.str "stops")) (mCons (mVar 2) (mNil))))) (mSkip)) (mAsg (mVar 4) (gNm false 0))))
    (fun i ρ => i ≤ es.length ∧ ∃ o2 o3 o4, ρ = [some (.val (wD (st i))), some (.val (.tup (es ++ [w, x]))), o2, o3, o4]) (fun _ r _ => r = .o (.val (stopsD es.length))) (enumD (es ++ [w, x])) 0 [some (.val (wD s)), some (.val (.tup (es ++ [w, x]))), none, none, none] ⟨Nat.zero_le _, none, none, none, by rw [k0]⟩ (by
      rintro i d ρ hd ⟨hi, o2, o3, o4, rfl⟩
      obtain ⟨hi2, rfl⟩ := enum_at hd
      simp only [Nat.zero_add] at hi ⊢
      by_cases hl : i < es.length
      · have e1 : (es ++ [w, x]).getD i .non = es.getD i .non := by simp [List.getD_eq_getElem?_getD, List.getElem?_append_left hl]
        rw [e1]
        exact .inl ⟨_, .inl (turn_step (k2 i hl)), by omega, _, _, _, rfl⟩
      · have hi' : i = es.length := by omega
        subst hi'
        have e1 : (es ++ [w, x]).getD es.length .non = w := by simp [List.getD_eq_getElem?_getD]
        rw [e1, k1]
        exact .inr ⟨_, _, turn_stop hw, rfl⟩) with ⟨ρ', h1, hle, _⟩ | ⟨i, r, ρ', _, h1, rfl⟩
  · have hl : (enumD (es ++ [w, x])).length = es.length + 2 := by rw [enumD_eq]; simp
    omega
  · rw [h1]
    simp
theorem ev_replayed_l {s : Web} {es : List D} (h0 : okS s) : f_replayed [.val (wD s), .val (.lst es)] = .ok (.val (stopsD 0)) [] := by
  have hc : f_check_web [.val (wD s)] = .ok (.val .non) [] := ev_check_web h0
  have hi : isiO "tuple" (.lst es) = some (.val (.bl false)) := rfl
  unfold f_replayed m_replayed
  rw [mkFn_ev]
  simp [hc, hi, stopsD]
theorem ev_replayed_n {s : Web} (h0 : okS s) : f_replayed [.val (wD s), .val .non] = .ok (.val (stopsD 0)) [] := by
  have hc : f_check_web [.val (wD s)] = .ok (.val .non) [] := ev_check_web h0
  have hi : isiO "tuple" .non = some (.val (.bl false)) := rfl
  unfold f_replayed m_replayed
  rw [mkFn_ev]
  simp [hc, hi, stopsD]
/-! ### drawing -/
def scD (ns : List Int) : D := .scr (ns.map .int)
theorem ev_cell {ns : List Int} {p : Int} (h : 0 ≤ p) : ∃ c, f__law_cell [.val (scD ns), .val (.int p)] = .ok (.val (.int c)) [] := by
  unfold f__law_cell m__law_cell
  by_cases hl : p < ns.length
  · refine ⟨ns.getD p.toNat 0, ?_⟩
    have e : atI (ns.map D.int) p = some (.int (ns.getD p.toNat 0)) := by rw [atI_map, atI_getD 0 h hl]; rfl
    rw [mkFn_ev]
    simp [scD, hl, e]
  · refine ⟨0, ?_⟩
    rw [mkFn_ev]
    simp [scD, hl]
theorem ev_draw {ns : List Int} {p t m : Int} (hp : 0 ≤ p) (ht : 0 ≤ t) (ht2 : t ≤ 4096) (hm : 0 < m) : ∃ k, 0 ≤ k ∧ k < m ∧ f__law_draw [.val (scD ns), .val (.int p), .val (.int t), .val (.int m)] = .ok (.val (.int k)) [] := by
  obtain ⟨c, hc⟩ := ev_cell (ns := ns) hp
  have h18 : powD (.int 10) (.int 18) = some (.val (.int 1000000000000000000)) := powD_c (k := 18) (by omega) (by omega) (by omega)
  by_cases hb : (1000000000000000000 : Int) ≤ c
  · obtain ⟨ρ', h1, c', o5, o6, rfl⟩ := loop_inv (g := gNm false 6) (b := mAsg (mBin fdivD (mVar 4) (mC (.int 1009))) (gNm false 4))
      (fun i ρ => ∃ c' o5 o6, ρ = [some (.val (scD ns)), some (.val (.int p)), some (.val (.int t)), some (.val (.int m)), some (.val (.int c')), o5, o6]) (rangeD 0 t.toNat) 0
      [some (.val (scD ns)), some (.val (.int p)), some (.val (.int t)), some (.val (.int m)), some (.val (.int c)), none, none] ⟨c, none, none, rfl⟩ (by
        rintro i d ρ hd ⟨c', o5, o6, rfl⟩
        have hf : fdivD (.int c') (.int 1009) = some (.val (.int (c'.fdiv 1009))) := fdivD_ii (by omega) (by omega)
        refine ⟨_, .inl ?_, c'.fdiv 1009, o5, some (.val d), rfl⟩
        unfold turnL
        simp [hf])
    have hmod : modD (.int c') (.int m) = some (.val (.int (c'.fmod m))) := modD_ii hm
    refine ⟨c'.fmod m, (fm_rg hm).1, (fm_rg hm).2, ?_⟩
    unfold f__law_draw m__law_draw
    rw [mkFn_ev]
    simp [hc, h18, hb, rngM_ok ht (show t ≤ 16777216 by omega)]
    rw [h1]
    simp [hmod]
  · have b1 : mulI c 48271 = true := mulI_r (by decide)
    have b2 : mulI p 7919 = true := mulI_r (by decide)
    have b3 : mulI t 69621 = true := mulI_r (by decide)
    have b4 : mulI t 16811 = true := mulI_r (by decide)
    have b5 : mulI 31 t = true := mulI_l (by decide)
    have m1 : modD (.int (c * 48271 + p * 7919 + t * 69621 + 11)) (.int 2147483647) = some (.val (.int ((c * 48271 + p * 7919 + t * 69621 + 11).fmod 2147483647))) := modD_ii (by omega)
    generalize hx1 : (c * 48271 + p * 7919 + t * 69621 + 11).fmod 2147483647 = x1 at m1
    have r1 := fm_rg (x := c * 48271 + p * 7919 + t * 69621 + 11) (n := 2147483647) (by omega)
    rw [hx1] at r1
    have p5 := powD_5 r1.1 r1.2
    have m2 : modD (.int (x1 ^ 5 + t * 16811)) (.int 2147483629) = some (.val (.int ((x1 ^ 5 + t * 16811).fmod 2147483629))) := modD_ii (by omega)
    generalize hx2 : (x1 ^ 5 + t * 16811).fmod 2147483629 = x2 at m2
    have r2 := fm_rg (x := x1 ^ 5 + t * 16811) (n := 2147483629) (by omega)
    rw [hx2] at r2
    have f1 : fdivD (.int x2) (.int 1009) = some (.val (.int (x2.fdiv 1009))) := fdivD_ii (by omega) (by omega)
    have b6 : mulI x2 (x2.fdiv 1009 + 69621 + 31 * t) = true := mulI_l (by omega)
    have m3 : modD (.int (x2 * (x2.fdiv 1009 + 69621 + 31 * t))) (.int 2147483587) = some (.val (.int ((x2 * (x2.fdiv 1009 + 69621 + 31 * t)).fmod 2147483587))) := modD_ii (by omega)
    generalize hx3 : (x2 * (x2.fdiv 1009 + 69621 + 31 * t)).fmod 2147483587 = x3 at m3
    have f2 : fdivD (.int x3) (.int 16) = some (.val (.int (x3.fdiv 16))) := fdivD_ii (by omega) (by omega)
    have m4 : modD (.int (x3.fdiv 16)) (.int m) = some (.val (.int ((x3.fdiv 16).fmod m))) := modD_ii hm
    refine ⟨(x3.fdiv 16).fmod m, (fm_rg hm).1, (fm_rg hm).2, ?_⟩
    unfold f__law_draw m__law_draw
    rw [mkFn_ev]
    simp [hc, h18, hb, mulD_ii b1, mulD_ii b2, mulD_ii b3, mulD_ii b4, mulD_ii b5, m1, p5, m2, f1, mulD_ii b6, m3, f2, m4]
end L67

set_option Elab.async false
set_option linter.all false
set_option autoImplicit false
set_option maxRecDepth 100000
set_option maxHeartbeats 4000000
namespace L67
open PySem PySem.Spec PyProof.Rows L2 Mi

/-! ### the law's webs -/
theorem range_at {n i : Nat} {d : D} (h : (rangeD 0 n)[i]? = some d) : i < n ∧ d = .int (i : Nat) := by
  unfold rangeD at h
  rw [List.getElem?_map, Option.map_eq_some_iff] at h
  obtain ⟨j, hj, rfl⟩ := h
  by_cases hl : i < n
  · have : j = i := by simpa [hl] using hj.symm
    subst this
    exact ⟨hl, by simp⟩
  · rw [List.getElem?_eq_none (by simp; omega)] at hj; cases hj
theorem ev_law_web {ns : List Int} : ∃ m ts, okW m ts = true ∧ m ≤ 8 ∧ f__law_web [.val (scD ns), .val (.int 0), .val (.int 4), .val (.int 8), .val (.int 9)] = .ok (.val (webD m ts)) [] := by
  obtain ⟨k, k0, k1, hk⟩ := ev_draw (ns := ns) (p := 0) (t := 4) (m := 8) (by omega) (by omega) (by omega) (by omega)
  obtain ⟨n, n0, n1, hn⟩ := ev_draw (ns := ns) (p := 0) (t := 5) (m := 10) (by omega) (by omega) (by omega) (by omega)
  obtain ⟨M, hM⟩ : ∃ M, 1 + k = M := ⟨_, rfl⟩
  have hmul : mulD (.int n) (.int (if 1 < M then 1 else 0)) = some (.val (.int (n * (if 1 < M then 1 else 0)))) := mulD_ii (mulI_l (by omega))
  have hN : 0 ≤ n * (if 1 < M then 1 else 0) ∧ n * (if 1 < M then 1 else 0) ≤ 9 ∧ (0 < n * (if 1 < M then 1 else 0) → 1 < M) := by
    by_cases h : 1 < M
    · rw [if_pos h]; omega
    · rw [if_neg h]; omega
  generalize hNe : n * (if 1 < M then (1 : Int) else 0) = N at hmul hN
  obtain ⟨N0, N1, N2⟩ := hN
  have h4k := line4k
  obtain ⟨ρ', h1, ts, o7, o8, o9, ho, hl, rfl⟩ := loop_inv (g := gNm false 7) (b := mSeq (mAsg (mCall 4 f__law_draw (mCons (mVar 0) (mCons (mVar 1) (mCons (mBin addD (mBin addD (mVar 2) (mC (.int 2))) (mBin mulD (mC (.int 2)) (mVar 7))) (mCons (mVar 5) (mNil)))))) (gNm false 8)) (mSeq (mAsg (mCall 4 f__law_draw (mCons (mVar 0) (mCons (mVar 1) (mCons (mBin addD (mBin addD (mVar 2) (mC (.int 3))) (mBin mulD (mC (.int 2)) (mVar 7))) (mCons (mBin max2D (mC (.int 1)) (mBin subD (mVar 5) (mC (.int 1)))) (mNil)))))) (gNm false 9)) (mSeq (mIfS (mTst (mBin geD (mVar 9) (mVar 8))) (mAsg (mBin addD (mVar 9) (mC (.int 1))) (gNm false 9)) (mSkip)) (mExpr (mMut 6 (mCons (mTup (mCons (mBin min2D (mVar 8) (mVar 9)) (mCons (mBin max2D (mVar 8) (mVar 9)) (mNil)))) (mNil)) appendG)))))
    (fun i ρ => ∃ ts o7 o8 o9, okTs M ts ∧ ts.length = i ∧ ρ = [some (.val (scD ns)), some (.val (.int 0)), some (.val (.int 4)), some (.val (.int 8)), some (.val (.int 9)), some (.val (.int M)), some (.lst (ts.map pD)), o7, o8, o9]) (rangeD 0 N.toNat) 0
    [some (.val (scD ns)), some (.val (.int 0)), some (.val (.int 4)), some (.val (.int 8)), some (.val (.int 9)), some (.val (.int M)), some (.lst []), none, none, none] ⟨[], none, none, none, (fun _ h => nomatch h), rfl, rfl⟩ (by
      rintro i d ρ hd ⟨ts, o7, o8, o9, ho, hl, rfl⟩
      obtain ⟨hi, rfl⟩ := range_at hd
      simp only [Nat.zero_add] at hl ⊢
      have hk1 : 1 < M := N2 (by omega)
      obtain ⟨a, a0, a1, ha⟩ := ev_draw (ns := ns) (p := 0) (t := 6 + 2 * (i : Int)) (m := M) (by omega) (by omega) (by omega) (by omega)
      have hmx : (if 1 < M - 1 then M - 1 else 1) = M - 1 := by split <;> omega
      obtain ⟨b, b0, b1, hb⟩ := ev_draw (ns := ns) (p := 0) (t := 7 + 2 * (i : Int)) (m := M - 1) (by omega) (by omega) (by omega) (by omega)
      have hm2 : mulD (.int 2) (.int (i : Int)) = some (.val (.int (2 * (i : Int)))) := mulD_ii (mulI_l (by decide))
      have hlen : (ts.map pD).length < sizeLine := by rw [List.length_map]; omega
      by_cases hab : a ≤ b
      · have hab2 : ¬ (b + 1 < a) := by omega
        have hab3 : a < b + 1 := by omega
        refine ⟨_, .inl ?_, ts ++ [(a, b + 1)], some (.val (.int (i : Int))), some (.val (.int a)), some (.val (.int (b + 1))), ?_, by simp [hl], rfl⟩
        · unfold turnL
          simp [ha, hmx, hb, hm2, hab, hab2, hab3, append_ok hlen, pD]
        · intro x hx
          rcases List.mem_append.mp hx with hx | hx
          · exact ho x hx
          · rcases List.mem_singleton.mp hx with rfl
            exact okT_iff.mpr (by simp only; omega)
      · have hab2 : b < a := by omega
        have hab3 : ¬ a < b := by omega
        refine ⟨_, .inl ?_, ts ++ [(b, a)], some (.val (.int (i : Int))), some (.val (.int a)), some (.val (.int b)), ?_, by simp [hl], rfl⟩
        · unfold turnL
          simp [ha, hmx, hb, hm2, hab, hab2, hab3, append_ok hlen, pD]
        · intro x hx
          rcases List.mem_append.mp hx with hx | hx
          · exact ho x hx
          · rcases List.mem_singleton.mp hx with rfl
            exact okT_iff.mpr (by simp only; omega))
  have hrl : (rangeD 0 N.toNat).length = N.toNat := by unfold rangeD; simp
  rw [hrl] at hl
  refine ⟨M, ts, okW_iff.mpr ⟨by omega, by omega, by omega, ho⟩, by omega, ?_⟩
  unfold f__law_web m__law_web
  rw [mkFn_ev]
  simp [hk, hM, hn, hmul, rngM_ok N0 (show N ≤ 16777216 by omega), h1]
  rfl
/-! the start -/
theorem ev_begin {ns : List Int} : ∃ m ts, okW m ts = true ∧ f__law_begin [.val (scD ns)] = .ok (.val (webD m ts)) [] := by
  obtain ⟨m, ts, hw, hm8, he⟩ := ev_law_web (ns := ns)
  obtain ⟨w, w0, w1, hd⟩ := ev_draw (ns := ns) (p := 0) (t := 0) (m := 4) (by omega) (by omega) (by omega) (by omega)
  obtain ⟨m1, m2, l40, ho⟩ := okW_iff.mp hw
  have ho12 : okTs 12 ts := fun x hx => by
    obtain ⟨a, b, c⟩ := okTs_at ho hx
    exact okT_iff.mpr ⟨a, b, by omega⟩
  have h4k := line4k
  simp only [webD, tsD] at he
  by_cases h0 : w = 0
  · refine ⟨12, ts, okW_iff.mpr ⟨by omega, by omega, l40, ho12⟩, ?_⟩
    unfold f__law_begin m__law_begin
    rw [mkFn_ev]
    simp [he, hd, h0, webD, tsD]
  · by_cases h1 : w = 1
    · by_cases hm : 1 < m
      · have hmu : mulD (.lst [.tup [.int 0, .int 1], .tup [.int 0, .int (m - 1)]]) (.int 40) = some (.lst ((List.replicate 40 [((0 : Int), (1 : Int)), (0, m - 1)]).flatten.map pD)) := by
          have := mulD_lst (xs := [.tup [.int 0, .int 1], .tup [.int 0, .int (m - 1)]]) (k := 40) (by omega) (by simp)
          rw [show ((40 : Nat) : Int) = 40 from rfl] at this
          rw [this]
          rfl
        generalize hx : (List.replicate 40 [((0 : Int), (1 : Int)), (0, m - 1)]).flatten = xs at hmu
        have hxl : xs.length = 80 := by rw [← hx]; rfl
        have had : addD (.lst (ts.map pD)) (.lst (xs.map pD)) = some (.lst ((ts ++ xs).map pD)) := by
          show (if _ then _ else _) = _
          rw [if_pos (by rw [List.length_map, List.length_map]; omega)]
          simp
        have hcut : cutD ((ts ++ xs).map pD) none (some 40) = ((ts ++ xs).take 40).map pD := by
          have := cut_take (xs := (ts ++ xs).map pD) (k := 40) (by rw [List.length_map, List.length_append]; omega)
          rw [show ((40 : Nat) : Int) = 40 from rfl] at this
          rw [this, List.map_take]
        refine ⟨m, (ts ++ xs).take 40, okW_iff.mpr ⟨by omega, by omega, by rw [List.length_take]; omega, fun x hx2 => ?_⟩, ?_⟩
        · rcases List.mem_append.mp (List.mem_of_mem_take hx2) with q | q
          · exact ho x q
          · rw [← hx] at q
            obtain ⟨l, hl, hq⟩ := List.mem_flatten.mp q
            rw [List.mem_replicate] at hl
            rw [hl.2] at hq
            simp only [List.mem_cons, List.not_mem_nil, or_false] at hq
            rcases hq with rfl | rfl
            · exact okT_iff.mpr (by simp only; omega)
            · exact okT_iff.mpr (by simp only; omega)
        · unfold f__law_begin m__law_begin
          rw [mkFn_ev]
          simp [he, hd, h1, hm, hmu, had, hcut, webD, tsD]
          rw [← List.map_append, hcut, List.map_take]
      · refine ⟨m, ts, hw, ?_⟩
        unfold f__law_begin m__law_begin
        rw [mkFn_ev]
        simp [he, hd, h1, hm, webD, tsD]
    · refine ⟨m, ts, hw, ?_⟩
      unfold f__law_begin m__law_begin
      rw [mkFn_ev]
      simp [he, hd, h0, h1, webD, tsD]
end L67

set_option Elab.async false
set_option linter.all false
set_option autoImplicit false
set_option maxRecDepth 100000
set_option maxHeartbeats 4000000
namespace L67
open PySem PySem.Spec PyProof.Rows L2 Mi

/-! ### a drawn order -/
theorem pick_perm : ∀ {l : List Int} {k : Nat}, k < l.length → (l.getD k 0 :: l.eraseIdx k).Perm l
  | [], _, h => absurd h (by simp)
  | a :: l, 0, _ => by simp
  | a :: l, k + 1, h => by
    have := pick_perm (l := l) (k := k) (by simpa using h)
    simp only [List.getD_cons_succ, List.eraseIdx_cons_succ]
    exact (List.Perm.swap a _ _).trans (List.Perm.cons a this)
theorem perm_pop {left found all : List Int} {k : Nat} (h : (found ++ left).Perm all) (hk : k < left.length) : ((found ++ [left.getD k 0]) ++ left.eraseIdx k).Perm all := by
  refine List.Perm.trans ?_ h
  rw [List.append_assoc]
  refine List.Perm.append_left _ ?_
  rw [show [left.getD k 0] ++ left.eraseIdx k = left.getD k 0 :: left.eraseIdx k from rfl]
  exact pick_perm hk
theorem er_map {α β} {f : α → β} : ∀ {l : List α} {k : Nat}, (l.map f).eraseIdx k = (l.eraseIdx k).map f
  | [], _ => by simp
  | _ :: _, 0 => by simp
  | _ :: l, k + 1 => by simp [er_map (l := l) (k := k)]
theorem ev_law_order {ns : List Int} {p m : Int} (hp : 0 ≤ p) (m1 : 1 ≤ m) (m2 : m ≤ 12) : ∃ o, o.Perm (irange m) ∧ f__law_order [.val (scD ns), .val (.int p), .val (.int 3), .val (.int m)] = .ok (.val (lotD o)) [] := by
  have h4k := line4k
  obtain ⟨ρ', h1, left, found, o6, hpm, hl, rfl⟩ := loop_inv (g := gNm false 6) (b := mExpr (mMut 5 (mCons (mMut 4 (mCons (mCall 4 f__law_draw (mCons (mVar 0) (mCons (mVar 1) (mCons (mBin addD (mVar 2) (mVar 6)) (mCons (mFn1 lenA (mVar 4)) (mNil)))))) (mNil)) popAtG) (mNil)) appendG))
    (fun i ρ => ∃ (left found : List Int) (o6 : Option O), (found ++ left).Perm (irange m) ∧ found.length = i ∧ ρ = [some (.val (scD ns)), some (.val (.int p)), some (.val (.int 3)), some (.val (.int m)), some (.lst (left.map .int)), some (.lst (found.map .int)), o6]) (rangeD 0 m.toNat) 0
    [some (.val (scD ns)), some (.val (.int p)), some (.val (.int 3)), some (.val (.int m)), some (.lst ((irange m).map .int)), some (.lst []), none] ⟨irange m, [], none, List.Perm.refl _, rfl, rfl⟩ (by
      rintro i d ρ hd ⟨left, found, o6, hpm, hl, rfl⟩
      obtain ⟨hi, rfl⟩ := range_at hd
      simp only [Nat.zero_add] at hl ⊢
      have hlen := hpm.length_eq
      rw [List.length_append, irange_len] at hlen
      have hpos : 0 < left.length := by omega
      obtain ⟨k, k0, k1, hk⟩ := ev_draw (ns := ns) (p := p) (t := 3 + (i : Int)) (m := (left.length : Int)) hp (by omega) (by omega) (by omega)
      have hkn : k.toNat < left.length := by omega
      have hpop : popAtG (.lst (left.map .int)) [.int k] = some (.int (left.getD k.toNat 0), .lst ((left.eraseIdx k.toNat).map .int)) := by
        rw [popAt_ok k0 (by rw [List.length_map]; exact k1) (by rw [List.length_map]; omega)]
        simp [List.getD_eq_getElem?_getD, hkn, er_map]
      refine ⟨_, .inl ?_, left.eraseIdx k.toNat, found ++ [left.getD k.toNat 0], some (.val (.int (i : Int))), perm_pop hpm hkn, by simp [hl], rfl⟩
      unfold turnL
      have hap : appendG (.lst (found.map .int)) [.int (left.getD k.toNat 0)] = some (.non, .lst ((found ++ [left.getD k.toNat 0]).map .int)) := by
        rw [append_ok (by rw [List.length_map]; omega)]
        simp
      simp only [List.getD_eq_getElem?_getD] at hpop hap
      simp [hk, hpop, hap])
  have hrl : (rangeD 0 m.toNat).length = m.toNat := by unfold rangeD; simp
  rw [hrl] at hl
  have hlen := hpm.length_eq
  rw [List.length_append, irange_len] at hlen
  have hle : left = [] := List.eq_nil_of_length_eq_zero (by omega)
  subst hle
  rw [List.append_nil] at hpm
  refine ⟨found, hpm, ?_⟩
  unfold f__law_order m__law_order
  rw [mkFn_ev]
  simp [rgM_ok (show 0 ≤ m by omega) (show m ≤ 16777216 by omega), rgD_irange, rngM_ok (show 0 ≤ m by omega) (show m ≤ 16777216 by omega), h1, lotD]
/-! ### a drawn edit -/
inductive IsEd (m : Int) (ts : List Tie) : D → Prop
  | tie {i j : Int} : okT m (i, j) = true → ts.length < 40 → IsEd m ts (tieE i j)
  | untie {t : Nat} : t < ts.length → IsEd m ts (untieE (t : Int))
  | fast {t : Nat} : t < ts.length → IsEd m ts (fastE (t : Int))
  | turn {o : List Int} : o.Perm (irange m) → IsEd m ts (turnE (lotD o))
  | place : m < 12 → IsEd m ts placeE
theorem neD_ts {ts : List Tie} (h : ts.length ≤ 40) : neD (tsD ts) (.tup []) = some (.val (.bl (!decide (ts = [])))) := by
  have k1 : okD (tsD ts) = true := okD_of (k := 2) (ok1_tup fun x hx => by
    obtain ⟨t, _, rfl⟩ := List.mem_map.mp hx
    exact ok1_tup fun y hy => by
      simp only [List.mem_cons, List.not_mem_nil, or_false] at hy
      rcases hy with rfl | rfl <;> exact ok1_int) (by omega)
  have k2 : okD (.tup []) = true := rfl
  unfold neD
  rw [k1, k2]
  cases ts with
  | nil => rfl
  | cons t ts =>
    have : eqv (tsD (t :: ts)) (.tup []) = false := by
      show PyData.eqv (py (tsD (t :: ts))) (py (.tup [])) = false
      simp [tsD, py, pyL, PyData.eqv, PyData.eqvAll]
    rw [this]
    simp
theorem ev_law_edit {ns : List Int} {p m : Int} {ts : List Tie} (hp : 0 ≤ p) (hw : okW m ts = true) : ∃ e, IsEd m ts e ∧ f__law_edit [.val (scD ns), .val (.int p), .val (webD m ts)] = .ok (.val e) [] := by
  obtain ⟨m1, m2, l40, ho⟩ := okW_iff.mp hw
  have h4k := line4k
  obtain ⟨w, w0, w1, hwd⟩ := ev_draw (ns := ns) (p := p) (t := 0) (m := 8) hp (by omega) (by omega) (by omega)
  have hne := neD_ts l40
  simp only [tsD] at hne
  by_cases c1 : w < 3 ∧ 1 < m ∧ ts.length < 40
  · obtain ⟨c1, c2, c3⟩ := c1
    have c3' : (ts.length : Int) < 40 := by omega
    obtain ⟨a, a0, a1, ha⟩ := ev_draw (ns := ns) (p := p) (t := 1) (m := m) hp (by omega) (by omega) (by omega)
    obtain ⟨b, b0, b1, hb⟩ := ev_draw (ns := ns) (p := p) (t := 2) (m := m - 1) hp (by omega) (by omega) (by omega)
    by_cases hab : a ≤ b
    · have hab2 : ¬ (b + 1 < a) := by omega
      have hab3 : a < b + 1 := by omega
      refine ⟨tieE a (b + 1), .tie (okT_iff.mpr (by simp only; omega)) c3, ?_⟩
      unfold f__law_edit m__law_edit
      rw [mkFn_ev]
      simp [webD, tsD, hwd, c1, c2, c3', ha, hb, hab, hab2, hab3, tieE, wordE]
    · have hab2 : b < a := by omega
      have hab3 : ¬ a < b := by omega
      refine ⟨tieE b a, .tie (okT_iff.mpr (by simp only; omega)) c3, ?_⟩
      unfold f__law_edit m__law_edit
      rw [mkFn_ev]
      simp [webD, tsD, hwd, c1, c2, c3', ha, hb, hab, hab2, hab3, tieE, wordE]
  · have first : ∀ {β : Type} (x y : M β) (ρ : Mi.Env), True := fun _ _ _ => trivial
    by_cases c2 : w < 5 ∧ ts ≠ []
    · obtain ⟨c2, c3⟩ := c2
      have hpos : 0 < ts.length := List.length_pos_iff.mpr c3
      obtain ⟨u, u0, u1, hu⟩ := ev_draw (ns := ns) (p := p) (t := 1) (m := 2) hp (by omega) (by omega) (by omega)
      obtain ⟨t, t0, t1, ht⟩ := ev_draw (ns := ns) (p := p) (t := 2) (m := (ts.length : Int)) hp (by omega) (by omega) (by omega)
      obtain ⟨n, rfl⟩ : ∃ n : Nat, t = (n : Int) := ⟨t.toNat, by omega⟩
      have hn : n < ts.length := by omega
      have hu2 : u = 0 ∨ u = 1 := by omega
      by_cases d1 : w < 3
      · by_cases d2 : 1 < m
        · have d3 : ¬ (ts.length : Int) < 40 := fun q => c1 ⟨d1, d2, by omega⟩
          rcases hu2 with rfl | rfl
          · refine ⟨untieE (n : Int), .untie hn, ?_⟩
            unfold f__law_edit m__law_edit
            rw [mkFn_ev]
            simp [webD, tsD, hwd, d1, d2, d3, c2, hne, c3, hu, ht, atI0, atI1, untieE, wordE]
          · refine ⟨fastE (n : Int), .fast hn, ?_⟩
            unfold f__law_edit m__law_edit
            rw [mkFn_ev]
            simp [webD, tsD, hwd, d1, d2, d3, c2, hne, c3, hu, ht, atI0, atI1, fastE, wordE]
        · rcases hu2 with rfl | rfl
          · refine ⟨untieE (n : Int), .untie hn, ?_⟩
            unfold f__law_edit m__law_edit
            rw [mkFn_ev]
            simp [webD, tsD, hwd, d1, d2, c2, hne, c3, hu, ht, atI0, atI1, untieE, wordE]
          · refine ⟨fastE (n : Int), .fast hn, ?_⟩
            unfold f__law_edit m__law_edit
            rw [mkFn_ev]
            simp [webD, tsD, hwd, d1, d2, c2, hne, c3, hu, ht, atI0, atI1, fastE, wordE]
      · rcases hu2 with rfl | rfl
        · refine ⟨untieE (n : Int), .untie hn, ?_⟩
          unfold f__law_edit m__law_edit
          rw [mkFn_ev]
          simp [webD, tsD, hwd, d1, c2, hne, c3, hu, ht, atI0, atI1, untieE, wordE]
        · refine ⟨fastE (n : Int), .fast hn, ?_⟩
          unfold f__law_edit m__law_edit
          rw [mkFn_ev]
          simp [webD, tsD, hwd, d1, c2, hne, c3, hu, ht, atI0, atI1, fastE, wordE]
    · obtain ⟨o, hop, hoe⟩ := ev_law_order (ns := ns) hp m1 m2
      have two : ∀ (q : w < 7 ∨ m = 12), f__law_edit [.val (scD ns), .val (.int p), .val (webD m ts)] = .ok (.val (turnE (lotD o))) [] := fun q => by
        unfold f__law_edit m__law_edit
        rw [mkFn_ev]
        by_cases d1 : w < 3 <;> by_cases d2 : 1 < m <;> by_cases d3 : (ts.length : Int) < 40 <;> by_cases d4 : w < 5 <;> by_cases d5 : ts = [] <;> by_cases d6 : w < 7 <;> by_cases d7 : m = 12 <;> first | (exfalso; first | omega | exact c1 ⟨d1, d2, by omega⟩ | exact c2 ⟨d4, d5⟩) | simp_all [webD, tsD, turnE, wordE]
      by_cases q : w < 7 ∨ m = 12
      · exact ⟨_, .turn hop, two q⟩
      · refine ⟨placeE, .place (by omega), ?_⟩
        unfold f__law_edit m__law_edit
        rw [mkFn_ev]
        by_cases d1 : w < 3 <;> by_cases d2 : 1 < m <;> by_cases d3 : (ts.length : Int) < 40 <;> by_cases d4 : w < 5 <;> by_cases d5 : ts = [] <;> by_cases d6 : w < 7 <;> by_cases d7 : m = 12 <;> first | (exfalso; first | omega | exact c1 ⟨d1, d2, by omega⟩ | exact c2 ⟨d4, d5⟩) | simp_all [webD, tsD, placeE, wordE]
end L67

set_option Elab.async false
set_option linter.all false
set_option autoImplicit false
set_option maxRecDepth 100000
set_option maxHeartbeats 4000000
namespace L67
open PySem PySem.Spec PyProof.Rows L2 Mi

/-! ### the law's own edits -/
theorem erase_td {α : Type} : ∀ (l : List α) (t : Nat), l.take t ++ l.drop (t + 1) = l.eraseIdx t
  | [], _ => by simp
  | _ :: _, 0 => by simp
  | a :: l, t + 1 => by simp [← erase_td l t]
theorem webO_ok {m : Int} {ts : List Tie} (h : okW m ts = true) : webO m ts = .val (webD m ts) := by unfold webO; rw [h]; rfl
theorem ev_law_edited {m : Int} {ts : List Tie} {e : D} (hw : okW m ts = true) (he : IsEd m ts e) : ∃ s', Step (m, ts) e s' ∧ f__law_edited [.val (webD m ts), .val e] = .ok (.val (wD s')) [] := by
  obtain ⟨m1, m2, l40, ho⟩ := okW_iff.mp hw
  have h4k := line4k
  cases he with
  | @tie i j hij hl =>
    have hok : okW m (ts ++ [(i, j)]) = true := okW_iff.mpr ⟨m1, m2, by simp; omega, fun x hx => by
      rcases List.mem_append.mp hx with q | q
      · exact ho x q
      · rcases List.mem_singleton.mp q with rfl; exact hij⟩
    refine ⟨(m, ts ++ [(i, j)]), ⟨hok, ?_⟩, ?_⟩
    · have := re_tie (m := m) (i := i) (j := j) l40
      rw [webO_ok hok] at this
      exact this
    · have ha : addD (.tup (ts.map pD)) (.tup [.tup [.int i, .int j]]) = some (.val (tsD (ts ++ [(i, j)]))) := by
        rw [addD_tup (by rw [List.length_map]; simp; omega)]
        simp [tsD, pD]
      unfold f__law_edited m__law_edited
      rw [mkFn_ev]
      simp [webD, tsD, tieE, wordE, atI0, atI1, wD]
      simp [ha, tsD, Mi.atI2]
  | @untie t ht =>
    refine ⟨(m, ts.eraseIdx t), ⟨ok_erase hw, re_untie hw ht⟩, ?_⟩
    have c1 : cutD (ts.map pD) none (some (t : Int)) = (ts.map pD).take t := cut_take (by rw [List.length_map]; omega)
    have c2 : cutD (ts.map pD) (some ((t + 1 : Nat) : Int)) none = (ts.map pD).drop (t + 1) := cut_drop (by rw [List.length_map]; omega)
    have ha : addD (.tup ((ts.map pD).take t)) (.tup ((ts.map pD).drop (t + 1))) = some (.val (tsD (ts.eraseIdx t))) := by
      rw [addD_tup (by simp; omega), erase_td, er_map]
      rfl
    rw [show ((t + 1 : Nat) : Int) = (t : Int) + 1 by omega] at c2
    unfold f__law_edited m__law_edited
    rw [mkFn_ev]
    simp [webD, tsD, untieE, wordE, atI0, atI1, wD, c1, c2]
    simp [ha, tsD]
  | @fast t ht =>
    obtain ⟨⟨a, b⟩, e⟩ : ∃ p : Tie, tieAt ts (t : Int) = p := ⟨_, rfl⟩
    have hT := tieAt_ok ho (t := (t : Int)) (by omega) (by omega)
    rw [e] at hT
    have hl := ev_lfast hw ht e
    refine ⟨(m - 1, fastTs a b ts), ⟨ok_fast hw hT.1 hT.2.1 hT.2.2, re_fast hw ht e⟩, ?_⟩
    have q : eqD (.str "fast") (.str "fast") = some (.val (.bl true)) := by kernel_rfl
    simp only [webD, tsD] at hl
    unfold f__law_edited m__law_edited
    rw [mkFn_ev]
    simp [webD, tsD, fastE, wordE, atI0, atI1, wD, q, hl]
  | @turn o hp =>
    have hl := ev_lturned hw hp
    refine ⟨(m, turnTs o ts), ⟨ok_turn hw hp, re_turn hw hp⟩, ?_⟩
    have q : eqD (.str "turn") (.str "fast") = some (.val (.bl false)) := by kernel_rfl
    simp only [webD, tsD] at hl
    unfold f__law_edited m__law_edited
    rw [mkFn_ev]
    simp [webD, tsD, turnE, wordE, atI0, atI1, wD, q, hl]
  | place h12 =>
    have hok : okW (m + 1) ts = true := okW_iff.mpr ⟨by omega, by omega, l40, fun x hx => by
      obtain ⟨a, b, c⟩ := okTs_at ho hx
      exact okT_iff.mpr ⟨a, b, by omega⟩⟩
    refine ⟨(m + 1, ts), ⟨hok, ?_⟩, ?_⟩
    · have := re_place (m := m) (ts := ts)
      rw [webO_ok hok] at this
      exact this
    · unfold f__law_edited m__law_edited
      rw [mkFn_ev]
      simp [webD, tsD, placeE, wordE, atI0, atI1, wD]
/-! ### the law's look at a web -/
theorem ok1_web {m : Int} {ts : List Tie} : ok1 3 (webD m ts) := ok1_tup fun x hx => by
  simp only [List.mem_cons, List.not_mem_nil, or_false] at hx
  rcases hx with rfl | rfl
  · exact ok1_mono ok1_int (by omega)
  · exact ok1_tup fun x hx => by
      obtain ⟨t, _, rfl⟩ := List.mem_map.mp hx
      exact ok1_tup fun y hy => by
        simp only [List.mem_cons, List.not_mem_nil, or_false] at hy
        rcases hy with rfl | rfl <;> exact ok1_int
theorem ev_law_is_web {m : Int} {ts : List Tie} : f__law_is_web [.val (webD m ts), .val (webD m ts)] = .ok (.val (.bl true)) [] := by
  have hq : eqD (webD m ts) (webD m ts) = some (.val (.bl true)) := eqD_refl (okD_of (k := 3) ok1_web (by omega))
  obtain ⟨ρ', h1, o2, rfl⟩ := loop_inv (g := gNm false 2) (b := mIfS (mOr (mNot (mTst (mFn1 (isiO "tuple") (mVar 2)))) (mOr (mTst (mBin neD (mFn1 lenA (mVar 2)) (mC (.int 2)))) (mOr (mNot (mTst (mCall 1 f__law_whole (mCons (mBin ixD (mVar 2) (mC (.int 0))) (mNil))))) (mNot (mTst (mCall 1 f__law_whole (mCons (mBin ixD (mVar 2) (mC (.int 1))) (mNil)))))))) (mRet (mC (.bl false))) (mSkip))
    (fun _ ρ => ∃ o2, ρ = [some (.val (webD m ts)), some (.val (webD m ts)), o2]) (ts.map pD) 0 [some (.val (webD m ts)), some (.val (webD m ts)), none] ⟨none, rfl⟩ (by
      rintro i d ρ hd ⟨o2, rfl⟩
      rw [List.getElem?_map, Option.map_eq_some_iff] at hd
      obtain ⟨t, ht, rfl⟩ := hd
      refine ⟨_, .inl ?_, some (.val (pD t)), rfl⟩
      have hi : isiO "tuple" (pD t) = some (.val (.bl true)) := rfl
      unfold turnL
      simp [hi]
      simp [pD, atI0, atI1])
  have hi : isiO "tuple" (webD m ts) = some (.val (.bl true)) := rfl
  have hi2 : isiO "tuple" (tsD ts) = some (.val (.bl true)) := rfl
  unfold f__law_is_web m__law_is_web
  rw [mkFn_ev]
  simp [hi]
  simp only [webD] at h1 hq ⊢
  simp [atI0, atI1, hi2]
  simp only [tsD] at h1 hq ⊢
  simp [h1, hq]
end L67

set_option Elab.async false
set_option linter.all false
set_option autoImplicit false
set_option maxRecDepth 100000
set_option maxHeartbeats 4000000
namespace L67
open PySem PySem.Spec PyProof.Rows L2 Mi

/-! ### odd edits -/
def od1 (m : Int) : List D := [.non, .str "place", .tup [], .lst [.str "place"], wordE "place" [.int 1], wordE "glue" [.int 0, .int 1], tieE 0 m, tieE (-1) 0]
def od3 (n : Int) : List D := [untieE n, untieE (-1), wordE "untie" [.non], fastE n, wordE "fast" [], wordE "tie" [.int 0]]
def od4 (m : Int) : List D := [turnE (.lst ((irange m).map .int)), turnE (.tup ((irange (m + 1)).map .int)), turnE (.tup (List.replicate (m + 1).toNat (.int 0)))]
def od5 : List D := [turnE (.tup []), wordE "tie" [.bl false, .bl true], wordE "untie" [.bl false], turnE (.int 0), .tup [.int 0, .int 1]]
def od6 (m : Int) : List D := if m = 12 then [placeE, placeE, placeE] else []
def od7 (n : Int) : List D := if n = 40 then [tieE 0 1, tieE 0 1, tieE 0 1] else []
def odds (m : Int) (ts : List Tie) : List D := od1 m ++ [tieE 0 0] ++ od3 ts.length ++ od4 m ++ od5 ++ od6 m ++ od7 ts.length
theorem ie1 : f_is_edit [.val .non] = .ok (.val (.bl false)) [] := by kernel_rfl
theorem ie2 : f_is_edit [.val (.str "place")] = .ok (.val (.bl false)) [] := by kernel_rfl
theorem ie3 : f_is_edit [.val (.tup [])] = .ok (.val (.bl false)) [] := by kernel_rfl
theorem ie4 : f_is_edit [.val (.lst [.str "place"])] = .ok (.val (.bl false)) [] := by kernel_rfl
theorem ie5 : f_is_edit [.val (wordE "place" [.int 1])] = .ok (.val (.bl false)) [] := by kernel_rfl
theorem ie6 : f_is_edit [.val (wordE "glue" [.int 0, .int 1])] = .ok (.val (.bl false)) [] := by kernel_rfl
theorem ie7 : f_is_edit [.val (wordE "untie" [.non])] = .ok (.val (.bl false)) [] := by kernel_rfl
theorem ie8 : f_is_edit [.val (wordE "fast" [])] = .ok (.val (.bl false)) [] := by kernel_rfl
theorem ie9 : f_is_edit [.val (wordE "tie" [.int 0])] = .ok (.val (.bl false)) [] := by kernel_rfl
theorem ie10 : f_is_edit [.val (wordE "tie" [.bl false, .bl true])] = .ok (.val (.bl false)) [] := by kernel_rfl
theorem ie11 : f_is_edit [.val (wordE "untie" [.bl false])] = .ok (.val (.bl false)) [] := by kernel_rfl
theorem ie12 : f_is_edit [.val (.tup [.int 0, .int 1])] = .ok (.val (.bl false)) [] := by kernel_rfl
theorem odds_ref {m : Int} {ts : List Tie} (h : okW m ts = true) : ∀ e ∈ odds m ts, Ref m ts e := by
  obtain ⟨m1, m2, l40, ho⟩ := okW_iff.mp h
  intro e he
  have nt : ∀ {i j : Int}, ¬ (0 ≤ i ∧ i < j ∧ j < m) → okT m (i, j) = false := fun {i j} q => by
    cases c : okT m (i, j) with
    | false => rfl
    | true => exact absurd (okT_iff.mp c) q
  unfold odds at he
  simp only [List.mem_append] at he
  rcases he with (((((he | he) | he) | he) | he) | he) | he
  · simp only [od1, List.mem_cons, List.not_mem_nil, or_false] at he
    rcases he with rfl | rfl | rfl | rfl | rfl | rfl | rfl | rfl
    · exact ref_no ie1
    · exact ref_no ie2
    · exact ref_no ie3
    · exact ref_no ie4
    · exact ref_no ie5
    · exact ref_no ie6
    · exact ref_tie l40 (.inl (nt (by omega)))
    · exact ref_tie l40 (.inl (nt (by omega)))
  · simp only [List.mem_cons, List.not_mem_nil, or_false] at he
    subst he
    exact ref_tie l40 (.inl (nt (by omega)))
  · simp only [od3, List.mem_cons, List.not_mem_nil, or_false] at he
    rcases he with rfl | rfl | rfl | rfl | rfl | rfl
    · exact ref_untie (by omega)
    · exact ref_untie (by omega)
    · exact ref_no ie7
    · exact ref_fast (by omega)
    · exact ref_no ie8
    · exact ref_no ie9
  · simp only [od4, List.mem_cons, List.not_mem_nil, or_false] at he
    rcases he with rfl | rfl | rfl
    · exact ref_turn_l
    · exact ref_turn_t (by rw [List.length_map, irange_len]; omega)
    · exact ref_turn_t (by rw [List.length_replicate]; omega)
  · simp only [od5, List.mem_cons, List.not_mem_nil, or_false] at he
    rcases he with rfl | rfl | rfl | rfl | rfl
    · exact ref_turn_t (by simp; omega)
    · exact ref_no ie10
    · exact ref_no ie11
    · exact ref_turn_i
    · exact ref_no ie12
  · unfold od6 at he
    split at he
    · simp only [List.mem_cons, List.not_mem_nil, or_false, or_self] at he
      subst he
      exact ref_place (by assumption)
    · cases he
  · unfold od7 at he
    split at he
    · simp only [List.mem_cons, List.not_mem_nil, or_false, or_self] at he
      subst he
      exact ref_tie l40 (.inr (by omega))
    · cases he
theorem addD_lst {xs ys : List D} (h : xs.length + ys.length ≤ sizeLine) : addD (.lst xs) (.lst ys) = some (.lst (xs ++ ys)) := by
  show (if _ then _ else _) = _
  rw [if_pos h]
theorem neg1 : negO (.int 1) = some (.val (.int (-1))) := by rfl
theorem ev_law_no_edit {ns : List Int} {p m : Int} {ts : List Tie} (hp : 0 ≤ p) (h : okW m ts = true) : ∃ e, Ref m ts e ∧ f__law_no_edit [.val (scD ns), .val (.int p), .val (webD m ts)] = .ok (.val e) [] := by
  obtain ⟨m1, m2, l40, ho⟩ := okW_iff.mp h
  have h4k := line4k
  have hlen : (odds m ts).length ≤ 64 := by
    simp only [odds, List.length_append]
    unfold od6 od7
    split <;> split <;> simp [od1, od3, od4, od5]
  have hpos : 23 ≤ (odds m ts).length := by
    simp only [odds, List.length_append]
    simp [od1, od3, od4, od5]
    omega
  obtain ⟨k, k0, k1, hk⟩ := ev_draw (ns := ns) (p := p) (t := 20) (m := ((odds m ts).length : Int)) hp (by omega) (by omega) (by omega)
  have hkn : k.toNat < (odds m ts).length := by omega
  have hat : atI (odds m ts) k = some ((odds m ts).getD k.toNat .non) := atI_getD .non k0 k1
  have hmem : (odds m ts).getD k.toNat .non ∈ odds m ts := by
    rw [List.getD_eq_getElem?_getD, List.getElem?_eq_getElem hkn]
    exact List.getElem_mem hkn
  refine ⟨_, odds_ref h _ hmem, ?_⟩
  have hmu : mulD (.lst [.int 0]) (.int (m + 1)) = some (.lst (List.replicate (m + 1).toNat (.int 0))) := by
    have := mulD_lst (xs := [.int 0]) (k := (m + 1).toNat) (by omega) (by simp; omega)
    rw [show (((m + 1).toNat : Nat) : Int) = m + 1 by omega] at this
    rw [this]
    simp
  have ap : ∀ {d : D}, appendG (.lst (od1 m)) [d] = some (.non, .lst (od1 m ++ [d])) := append_ok (by simp [od1]; omega)
  have a3 : addD (.lst (od1 m ++ [tieE 0 0])) (.lst (od3 ts.length)) = some (.lst (od1 m ++ [tieE 0 0] ++ od3 ts.length)) := addD_lst (by simp [od1, od3]; omega)
  have a4 : addD (.lst (od1 m ++ [tieE 0 0] ++ od3 ts.length)) (.lst (od4 m)) = some (.lst (od1 m ++ [tieE 0 0] ++ od3 ts.length ++ od4 m)) := addD_lst (by simp [od1, od3, od4]; omega)
  have a5 : addD (.lst (od1 m ++ [tieE 0 0] ++ od3 ts.length ++ od4 m)) (.lst od5) = some (.lst (od1 m ++ [tieE 0 0] ++ od3 ts.length ++ od4 m ++ od5)) := addD_lst (by simp [od1, od3, od4, od5]; omega)
  have a6 : addD (.lst (od1 m ++ [tieE 0 0] ++ od3 ts.length ++ od4 m ++ od5)) (.lst [placeE, placeE, placeE]) = some (.lst (od1 m ++ [tieE 0 0] ++ od3 ts.length ++ od4 m ++ od5 ++ [placeE, placeE, placeE])) := addD_lst (by simp [od1, od3, od4, od5]; omega)
  have a7 : addD (.lst (od1 m ++ [tieE 0 0] ++ od3 ts.length ++ od4 m ++ od5)) (.lst [tieE 0 1, tieE 0 1, tieE 0 1]) = some (.lst (od1 m ++ [tieE 0 0] ++ od3 ts.length ++ od4 m ++ od5 ++ [tieE 0 1, tieE 0 1, tieE 0 1])) := addD_lst (by simp [od1, od3, od4, od5]; omega)
  have a8 : addD (.lst (od1 m ++ [tieE 0 0] ++ od3 ts.length ++ od4 m ++ od5 ++ [placeE, placeE, placeE])) (.lst [tieE 0 1, tieE 0 1, tieE 0 1]) = some (.lst (od1 m ++ [tieE 0 0] ++ od3 ts.length ++ od4 m ++ od5 ++ [placeE, placeE, placeE] ++ [tieE 0 1, tieE 0 1, tieE 0 1])) := addD_lst (by simp [od1, od3, od4, od5]; omega)
  have r1 := fun ρ => rgM_ok (ρ := ρ) (f := .lst) (show 0 ≤ m by omega) (show m ≤ 16777216 by omega)
  have r2 := fun ρ => rgM_ok (ρ := ρ) (f := fun ds => .val (.tup ds)) (show 0 ≤ m + 1 by omega) (show m + 1 ≤ 16777216 by omega)
  simp only [rgD_irange] at r1 r2
  have ap' := @ap (tieE 0 0)
  have s1 : 1 ≤ sizeLine := by omega
  have s2 : 2 ≤ sizeLine := by omega
  have s3 : 3 ≤ sizeLine := by omega
  have s4 : 4 ≤ sizeLine := by omega
  have s5 : 5 ≤ sizeLine := by omega
  have s6 : 6 ≤ sizeLine := by omega
  have s7 : 7 ≤ sizeLine := by omega
  have s8 : 8 ≤ sizeLine := by omega
  have hL : ((odds m ts).length : Int) = 23 + (if m = 12 then 3 else 0) + (if (ts.length : Int) = 40 then 3 else 0) := by
    simp only [odds, List.length_append]
    unfold od6 od7
    split <;> split <;> simp [od1, od3, od4, od5]
  rw [hL] at hk
  unfold odds od6 od7 at hat ⊢
  simp only [od4] at hat a4 a5 a6 a7 a8 ⊢
  generalize List.replicate (m + 1).toNat (D.int 0) = Z at hat a4 a5 a6 a7 a8 hmu ⊢
  unfold f__law_no_edit m__law_no_edit
  rw [mkFn_ev]
  have q40 : ((ts.length : Int) = 40) ↔ ts.length = 40 := by omega
  by_cases q6 : m = 12 <;> by_cases q7 : ts.length = 40
  · have q7' := q40.mpr q7
    simp only [q6, q7', show (12 : Int) + 1 = 13 from rfl, if_true, if_false, od1, od3, od4, od5, tieE, untieE, fastE, turnE, placeE, wordE, List.cons_append, List.nil_append, List.append_nil, List.length_cons, List.length_nil] at hk hat ap' a3 a4 a5 a6 a7 a8 hmu r1 r2 ⊢
    simp [s1, s2, s3, s4, s5, s6, s7, s8, webD, tsD, ap', a3, a4, a5, a6, a7, a8, r1, r2, hmu, q6, q7]
    simp only [Int.reduceAdd, Int.add_zero] at hk
    simp only [hk]
    simp [hat]
  · have q7' : ¬ (ts.length : Int) = 40 := fun q => q7 (q40.mp q)
    simp only [q6, q7', show (12 : Int) + 1 = 13 from rfl, if_true, if_false, od1, od3, od4, od5, tieE, untieE, fastE, turnE, placeE, wordE, List.cons_append, List.nil_append, List.append_nil, List.length_cons, List.length_nil] at hk hat ap' a3 a4 a5 a6 a7 a8 hmu r1 r2 ⊢
    simp [s1, s2, s3, s4, s5, s6, s7, s8, webD, tsD, ap', a3, a4, a5, a6, a7, a8, r1, r2, hmu, q6, q7, q7']
    simp only [Int.reduceAdd, Int.add_zero] at hk
    simp only [hk]
    simp [hat]
  · have q7' := q40.mpr q7
    simp only [q6, q7', show (12 : Int) + 1 = 13 from rfl, if_true, if_false, od1, od3, od4, od5, tieE, untieE, fastE, turnE, placeE, wordE, List.cons_append, List.nil_append, List.append_nil, List.length_cons, List.length_nil] at hk hat ap' a3 a4 a5 a6 a7 a8 hmu r1 r2 ⊢
    simp [s1, s2, s3, s4, s5, s6, s7, s8, webD, tsD, ap', a3, a4, a5, a6, a7, a8, r1, r2, hmu, q6, q7, q7']
    simp only [Int.reduceAdd, Int.add_zero] at hk
    simp only [hk]
    simp [hat]
  · have q7' : ¬ (ts.length : Int) = 40 := fun q => q7 (q40.mp q)
    simp only [q6, q7', show (12 : Int) + 1 = 13 from rfl, if_true, if_false, od1, od3, od4, od5, tieE, untieE, fastE, turnE, placeE, wordE, List.cons_append, List.nil_append, List.append_nil, List.length_cons, List.length_nil] at hk hat ap' a3 a4 a5 a6 a7 a8 hmu r1 r2 ⊢
    simp [s1, s2, s3, s4, s5, s6, s7, s8, webD, tsD, ap', a3, a4, a5, a6, a7, a8, r1, r2, hmu, q6, q7, q7']
    simp only [Int.reduceAdd, Int.add_zero] at hk
    simp only [hk]
    simp [hat]
end L67

set_option Elab.async false
set_option linter.all false
set_option autoImplicit false
set_option maxRecDepth 100000
set_option maxHeartbeats 4000000
namespace L67
open PySem PySem.Spec PyProof.Rows L2 Mi

/-! ### heads as a function -/
def stp (a b y : Int) : Int := if y = a ∨ y = b then (if b < a then b else a) else y
theorem stp_cases (a b y : Int) : (stp a b y = a ∨ stp a b y = b ∨ stp a b y = y) ∧ stp a b y ≤ y := by unfold stp; split <;> (try split) <;> omega
theorem stp_idem (a b y : Int) : stp a b (stp a b y) = stp a b y := by
  unfold stp
  by_cases h : y = a ∨ y = b
  · rw [if_pos h]
    by_cases h2 : b < a
    · rw [if_pos h2, if_pos (by omega)]
    · rw [if_neg h2, if_pos (by omega)]
  · rw [if_neg h, if_neg h]
theorem stp_pos {a b y : Int} (h : y = a ∨ y = b) : stp a b y = if b < a then b else a := if_pos h
theorem stp_neg {a b y : Int} (h : ¬ (y = a ∨ y = b)) : stp a b y = y := if_neg h
theorem mn_ab (a b : Int) : (if b < a then b else a) = a ∨ (if b < a then b else a) = b := by split <;> omega
theorem stp_ker (a b y z : Int) : stp a b y = stp a b z ↔ y = z ∨ ((y = a ∨ y = b) ∧ (z = a ∨ z = b)) := by
  have e := mn_ab a b
  by_cases h : y = a ∨ y = b <;> by_cases h2 : z = a ∨ z = b
  · rw [stp_pos h, stp_pos h2]
    exact ⟨fun _ => .inr ⟨h, h2⟩, fun _ => rfl⟩
  · rw [stp_pos h, stp_neg h2]
    refine ⟨fun q => absurd (q ▸ e) h2, fun q => ?_⟩
    rcases q with q | q
    · exact absurd (q ▸ h) h2
    · exact absurd q.2 h2
  · rw [stp_neg h, stp_pos h2]
    refine ⟨fun q => absurd (q ▸ e) h, fun q => ?_⟩
    rcases q with q | q
    · exact absurd (q ▸ h2) h
    · exact absurd q.1 h
  · rw [stp_neg h, stp_neg h2]
    exact ⟨fun q => .inl q, fun q => q.elim id fun q => absurd q.1 h⟩
theorem stp_comm (a b y : Int) : stp a b y = stp b a y := by
  by_cases h : y = a ∨ y = b
  · rw [stp_pos h, stp_pos h.symm]
    split <;> split <;> omega
  · rw [stp_neg h, stp_neg fun q => h q.symm]
def stepF (ts : List Tie) (f : Int → Int) (t : Int) : Int → Int := fun x => stp (f (tieAt ts t).1) (f (tieAt ts t).2) (f x)
def hF (ts : List Tie) (L : List Int) : Int → Int := L.foldl (stepF ts) id
theorem getD_map {m : Int} {f : Int → Int} {i : Int} (h0 : 0 ≤ i) (h1 : i < m) : ((irange m).map f).getD i.toNat 0 = f i := by
  rw [List.getD_eq_getElem?_getD, irange_get h0 h1]; rfl
theorem stepH_map {m : Int} {ts : List Tie} {f : Int → Int} {t : Int} (h : 0 ≤ (tieAt ts t).1 ∧ (tieAt ts t).1 < (tieAt ts t).2 ∧ (tieAt ts t).2 < m) : stepH ts ((irange m).map f) t = (irange m).map (stepF ts f t) := by
  unfold stepH
  rw [getD_map h.1 (by omega), getD_map (by omega) h.2.2]
  simp only
  split
  · rename_i e
    apply List.map_congr_left
    intro x _
    unfold stepF stp
    split <;> (try split) <;> omega
  · rw [List.map_map]; rfl
theorem heads_fold {m : Int} {ts : List Tie} (ho : okTs m ts) : ∀ (L : List Int) (f : Int → Int), inRg ts L → L.foldl (stepH ts) ((irange m).map f) = (irange m).map (L.foldl (stepF ts) f)
  | [], _, _ => rfl
  | t :: L, f, h => by
    have ht := h t (by simp)
    rw [List.foldl_cons, List.foldl_cons, stepH_map (tieAt_ok ho ht.1 ht.2)]
    exact heads_fold ho L _ fun x hx => h x (by simp [hx])
theorem headsF_eq {m : Int} {ts : List Tie} {L : List Int} (ho : okTs m ts) (h : inRg ts L) : headsF m ts L = (irange m).map (hF ts L) := by
  have := heads_fold ho L id h
  rw [List.map_id] at this
  exact this
def Good (m : Int) (f : Int → Int) : Prop := ∀ x, 0 ≤ x → x < m → 0 ≤ f x ∧ f x ≤ x ∧ f (f x) = f x
theorem good_step {m : Int} {ts : List Tie} {f : Int → Int} {t : Int} (g : Good m f) (h : 0 ≤ (tieAt ts t).1 ∧ (tieAt ts t).1 < (tieAt ts t).2 ∧ (tieAt ts t).2 < m) : Good m (stepF ts f t) := by
  intro x h0 h1
  obtain ⟨p1, p2, p3⟩ := g _ h.1 (show (tieAt ts t).1 < m by omega)
  obtain ⟨q1, q2, q3⟩ := g _ (show 0 ≤ (tieAt ts t).2 by omega) h.2.2
  obtain ⟨r1, r2, r3⟩ := g x h0 h1
  unfold stepF
  generalize f (tieAt ts t).1 = a at *
  generalize f (tieAt ts t).2 = b at *
  generalize f x = y at *
  obtain ⟨c, d⟩ := stp_cases a b y
  have e : f (stp a b y) = stp a b y := by rcases c with c | c | c <;> rw [c] <;> assumption
  refine ⟨?_, by omega, ?_⟩
  · rcases c with c | c | c <;> rw [c] <;> assumption
  · rw [e, stp_idem]
theorem good_fold {m : Int} {ts : List Tie} (ho : okTs m ts) : ∀ (L : List Int) (f : Int → Int), inRg ts L → Good m f → Good m (L.foldl (stepF ts) f)
  | [], _, _, g => g
  | t :: L, f, h, g => by
    have ht := h t (by simp)
    exact good_fold ho L _ (fun x hx => h x (by simp [hx])) (good_step g (tieAt_ok ho ht.1 ht.2))
theorem good_hF {m : Int} {ts : List Tie} {L : List Int} (ho : okTs m ts) (h : inRg ts L) : Good m (hF ts L) := good_fold ho L id h fun x h0 _ => ⟨h0, Int.le_refl _, rfl⟩
/-! two webs in parallel -/
def Rel (m : Int) (π f g : Int → Int) : Prop := ∀ u v, 0 ≤ u → u < m → 0 ≤ v → v < m → (f u = f v ↔ g (π u) = g (π v))
theorem tieAt_turn {ts : List Tie} {o : List Int} {t : Int} (h0 : 0 ≤ t) (h1 : t < ts.length) : tieAt (turnTs o ts) t = (mnI (ixO o (tieAt ts t).1) (ixO o (tieAt ts t).2), mxI (ixO o (tieAt ts t).1) (ixO o (tieAt ts t).2)) := by
  have hl : t.toNat < ts.length := by omega
  unfold tieAt turnTs
  rw [List.getD_eq_getElem?_getD, List.getD_eq_getElem?_getD, List.getElem?_map, List.getElem?_eq_getElem hl]
  rfl
theorem stp_mm {g : Int → Int} {x y z : Int} : stp (g (mnI x y)) (g (mxI x y)) z = stp (g x) (g y) z := by
  unfold mnI mxI
  by_cases h : y < x
  · rw [if_pos h, if_neg (by omega)]; exact stp_comm _ _ _
  · rw [if_neg h]
    by_cases h2 : y > x
    · rw [if_pos h2]
    · rw [if_neg h2, show y = x by omega]
theorem rel_fold {m : Int} {ts : List Tie} {o : List Int} (ho : okTs m ts) : ∀ (L : List Int) (f g : Int → Int), inRg ts L → Rel m (ixO o) f g → Rel m (ixO o) (L.foldl (stepF ts) f) (L.foldl (stepF (turnTs o ts)) g)
  | [], _, _, _, r => r
  | t :: L, f, g, h, r => by
    have ht := h t (by simp)
    obtain ⟨k1, k2, k3⟩ := tieAt_ok ho ht.1 ht.2
    refine rel_fold ho L _ _ (fun x hx => h x (by simp [hx])) fun u v u0 u1 v0 v1 => ?_
    unfold stepF
    rw [tieAt_turn ht.1 ht.2]
    simp only
    rw [stp_mm, stp_mm, stp_ker, stp_ker, r u v u0 u1 v0 v1, r u _ u0 u1 k1 (by omega), r u _ u0 u1 (by omega) k3, r v _ v0 v1 k1 (by omega), r v _ v0 v1 (by omega) k3]
/-! parts -/
def clsL (m : Int) (f : Int → Int) (h : Int) : List Int := (irange m).filter fun x => decide (f x = h)
def partsL (m : Int) (f : Int → Int) : List (List Int) := (ordL ((irange m).map f)).map (clsL m f)
theorem mem_ordL {H : List Int} {k : Int} : k ∈ ordL H ↔ k ∈ H := by
  unfold ordL
  rw [(List.mergeSort_perm _ _).mem_iff, mem_ddp]
theorem ordL_nd {H : List Int} : (ordL H).Nodup := by
  unfold ordL
  exact (List.mergeSort_perm _ _).nodup_iff.mpr ddp_nodup
theorem ordL_pw {H : List Int} : (ordL H).Pairwise (· < ·) := by
  have a := sort_pw (ddp H)
  have b := ordL_nd (H := H)
  unfold ordL at b ⊢
  exact (List.Pairwise.and a b).imp fun h => by omega
theorem mem_clsL {m : Int} {f : Int → Int} {h x : Int} : x ∈ clsL m f h ↔ (0 ≤ x ∧ x < m) ∧ f x = h := by
  unfold clsL
  rw [List.mem_filter, mem_irange, decide_eq_true_eq]
theorem clsL_pw {m : Int} {f : Int → Int} {h : Int} : (clsL m f h).Pairwise (· < ·) := irange_pw.filter _
theorem cls_sort {m : Int} {o : List Int} {f g : Int → Int} (p : o.Perm (irange m)) (hf : Good m f) (r : Rel m (ixO o) f g) {h : Int} (h0 : 0 ≤ h) (h1 : h < m) (hh : f h = h) : ((clsL m f h).map (ixO o)).mergeSort iLe = clsL m g (g (ixO o h)) := by
  have nd : ((clsL m f h).map (ixO o)).Nodup := by
    rw [List.nodup_iff_pairwise_ne, List.pairwise_map]
    refine List.Pairwise.imp_of_mem (fun {a b} ha hb q e => ?_) (clsL_pw (m := m) (f := f) (h := h))
    have ha' := mem_clsL.mp ha
    have hb' := mem_clsL.mp hb
    have := ixO_inj p ha'.1.1 ha'.1.2 hb'.1.1 hb'.1.2 e
    omega
  refine sort_eq (clsL_pw.imp fun h => by omega) (perm_of_mem (clsL_pw.imp fun h => by omega) nd fun y => ?_)
  rw [mem_clsL, List.mem_map]
  constructor
  · rintro ⟨⟨y0, y1⟩, hy⟩
    have hyr : y.toNat < o.length := by rw [p.length_eq, irange_len]; omega
    have hx : o[y.toNat] ∈ o := List.getElem_mem hyr
    have hx' := (perm_mem p).mp hx
    have nd' : o.Nodup := p.nodup_iff.mpr irange_nd
    have hix : ixO o o[y.toNat] = y := by
      unfold ixO
      rw [List.Nodup.idxOf_getElem nd' _ hyr]
      omega
    refine ⟨o[y.toNat], mem_clsL.mpr ⟨hx', ?_⟩, hix⟩
    have := (r _ _ hx'.1 hx'.2 h0 h1).mpr (by rw [hix]; exact hy)
    rw [this, hh]
  · rintro ⟨x, hx, rfl⟩
    obtain ⟨⟨x0, x1⟩, hx⟩ := mem_clsL.mp hx
    exact ⟨ixO_rg p x0 x1, (r _ _ x0 x1 h0 h1).mp (by rw [hx, hh])⟩
theorem parts_perm {m : Int} {o : List Int} {f g : Int → Int} (p : o.Perm (irange m)) (hf : Good m f) (r : Rel m (ixO o) f g) : ((partsL m f).map fun c => (c.map (ixO o)).mergeSort iLe).Perm (partsL m g) := by
  have hm : ∀ h ∈ ordL ((irange m).map f), 0 ≤ h ∧ h < m ∧ f h = h := fun h hh => by
    rw [mem_ordL, List.mem_map] at hh
    obtain ⟨x, hx, rfl⟩ := hh
    have hx := mem_irange.mp hx
    obtain ⟨a, b, c⟩ := hf x hx.1 hx.2
    exact ⟨a, by omega, c⟩
  unfold partsL
  rw [List.map_map]
  have e : (ordL ((irange m).map f)).map ((fun c => (c.map (ixO o)).mergeSort iLe) ∘ clsL m f) = ((ordL ((irange m).map f)).map fun h => g (ixO o h)).map (clsL m g) := by
    rw [List.map_map]
    apply List.map_congr_left
    intro h hh
    obtain ⟨a, b, c⟩ := hm h hh
    exact cls_sort p hf r a b c
  rw [e]
  refine List.Perm.map _ (perm_of_mem ?_ ordL_nd fun k => ?_)
  · rw [List.nodup_iff_pairwise_ne, List.pairwise_map]
    refine List.Pairwise.imp_of_mem (fun {a b} ha hb q e => ?_) (ordL_pw (H := (irange m).map f))
    obtain ⟨a0, a1, a2⟩ := hm a ha
    obtain ⟨b0, b1, b2⟩ := hm b hb
    have := (r a b a0 a1 b0 b1).mpr e
    omega
  · rw [List.mem_map, mem_ordL, List.mem_map]
    constructor
    · rintro ⟨h, hh, rfl⟩
      obtain ⟨a0, a1, a2⟩ := hm h hh
      exact ⟨ixO o h, mem_irange.mpr (ixO_rg p a0 a1), rfl⟩
    · rintro ⟨y, hy, rfl⟩
      obtain ⟨y0, y1⟩ := mem_irange.mp hy
      have hyr : y.toNat < o.length := by rw [p.length_eq, irange_len]; omega
      have hx : o[y.toNat] ∈ o := List.getElem_mem hyr
      have hx' := (perm_mem p).mp hx
      have nd' : o.Nodup := p.nodup_iff.mpr irange_nd
      have hix : ixO o o[y.toNat] = y := by
        unfold ixO
        rw [List.Nodup.idxOf_getElem nd' _ hyr]
        omega
      obtain ⟨c0, c1, c2⟩ := hf _ hx'.1 hx'.2
      refine ⟨f o[y.toNat], ?_, ?_⟩
      · rw [mem_ordL]
        exact List.mem_map.mpr ⟨_, mem_irange.mpr hx', rfl⟩
      · rw [(r _ _ c0 (by omega) hx'.1 hx'.2).mp c2, hix]
end L67

set_option Elab.async false
set_option linter.all false
set_option autoImplicit false
set_option maxRecDepth 100000
set_option maxHeartbeats 4000000
namespace L67
open PySem PySem.Spec PyProof.Rows L2 Mi

/-! ### rows of numbers sorted -/
def rLe (a b : List Int) : Bool := decide (a ≤ b)
theorem py_lot {L : List Int} : py (lotD L) = .tuple (L.map .int) := by
  unfold lotD
  simp only [py]
  congr 1
  induction L with
  | nil => rfl
  | cons x L ih => simp only [List.map_cons, pyL, ih, py]
theorem dLe_lot {a b : List Int} : dLe (lotD a) (lotD b) = rLe a b := by
  have h := congrFun (congrFun (PySem.W.dataLe_rows (fun b : List Int => b)) a) b
  unfold dLe rLe
  rw [← h]
  show PySem.W.sortLe _ _ _ _ _ = PySem.W.sortLe _ _ _ _ _
  unfold PySem.W.sortLe
  simp only [py_lot]
  rfl
theorem alike_ints : ∀ a b : List Int, PySem.W.alikeAll (a.map .int) (b.map .int) = true
  | [], _ => by simp [PySem.W.alikeAll]
  | _ :: _, [] => by simp [PySem.W.alikeAll]
  | x :: a, y :: b => by simp [PySem.W.alikeAll, PySem.W.alike, alike_ints a b]
theorem ok1_lot {L : List Int} : ok1 1 (lotD L) := ok1_tup fun x hx => by
  obtain ⟨n, _, rfl⟩ := List.mem_map.mp hx
  exact ok1_int
theorem sortOk_rows {dl : List (List Int)} (ne : ∀ x ∈ dl, x ≠ []) : sortOk (dl.map lotD) = true := by
  unfold sortOk
  simp only [Bool.and_eq_true, Bool.or_eq_true, List.all_eq_true, List.mem_map, decide_eq_true_eq]
  refine ⟨⟨⟨?_, .inl ?_⟩, ?_⟩, ?_⟩
  · rintro _ ⟨n, _, rfl⟩; exact okD_of ok1_lot (by omega)
  · rintro _ ⟨n, hn, rfl⟩
    have := ne n hn
    cases n with
    | nil => exact absurd rfl this
    | cons x n => rfl
  · rintro _ ⟨n, _, rfl⟩ _ ⟨k, _, rfl⟩
    rw [py_lot, py_lot]
    simp only [PySem.W.alike]
    exact alike_ints n k
  · rintro _ ⟨n, _, rfl⟩
    have := (ok1_lot (L := n)).2
    omega
theorem sort_rows {xs dl : List (List Int)} (h : xs.Pairwise (· ≤ ·)) (p : xs.Perm dl) (ne : ∀ x ∈ dl, x ≠ []) : sortA (.lst (dl.map lotD)) = some (.lst (xs.map lotD)) := by
  have e : sortD (.lst (dl.map lotD)) = some (.lst (xs.map lotD)) := by
    show (if sortOk (dl.map lotD) then _ else _) = _
    rw [sortOk_rows ne, if_pos rfl]
    congr 2
    rw [← List.map_mergeSort (r := rLe) (f := lotD) (s := dLe) fun a _ b _ => dLe_lot.symm]
    congr 1
    have pw : (dl.mergeSort rLe).Pairwise (· ≤ ·) := (List.pairwise_mergeSort (le := rLe) (fun a b c h1 h2 => by
      unfold rLe at *
      simp only [decide_eq_true_eq] at *
      exact List.le_trans h1 h2) (fun a b => by
      unfold rLe
      simp only [Bool.or_eq_true, decide_eq_true_eq]
      exact List.le_total a b) dl).imp fun h => by simpa [rLe] using h
    exact (List.Perm.eq_of_pairwise (le := fun a b => a ≤ b) (fun a b _ _ h1 h2 => List.le_antisymm h1 h2) h pw (p.trans (List.mergeSort_perm _ _).symm)).symm
  unfold sortA
  rw [e]
  rfl
theorem cls_head {m : Int} {f : Int → Int} (g : Good m f) {h : Int} (hh : h ∈ ordL ((irange m).map f)) : ∃ l, clsL m f h = h :: l := by
  rw [mem_ordL, List.mem_map] at hh
  obtain ⟨x, hx, rfl⟩ := hh
  have hx := mem_irange.mp hx
  obtain ⟨a, b, c⟩ := g x hx.1 hx.2
  have hm : f x ∈ clsL m f (f x) := mem_clsL.mpr ⟨⟨a, by omega⟩, c⟩
  cases e : clsL m f (f x) with
  | nil => rw [e] at hm; cases hm
  | cons y l =>
    refine ⟨l, ?_⟩
    have hy : y ∈ clsL m f (f x) := by rw [e]; simp
    have hy' := mem_clsL.mp hy
    have hle : f x ≤ y := by
      have := (g y hy'.1.1 hy'.1.2).2.1
      omega
    have pw := clsL_pw (m := m) (f := f) (h := f x)
    rw [e] at pw hm
    have := (List.pairwise_cons.mp pw).1
    rcases List.mem_cons.mp hm with q | q
    · rw [← q]
    · have := this _ q
      omega
theorem parts_ne {m : Int} {f : Int → Int} (g : Good m f) : ∀ c ∈ partsL m f, c ≠ [] := fun c hc => by
  unfold partsL at hc
  obtain ⟨h, hh, rfl⟩ := List.mem_map.mp hc
  obtain ⟨l, e⟩ := cls_head g hh
  rw [e]
  simp
theorem parts_pw {m : Int} {f : Int → Int} (g : Good m f) : (partsL m f).Pairwise (· ≤ ·) := by
  unfold partsL
  rw [List.pairwise_map]
  refine List.Pairwise.imp_of_mem (fun {a b} ha hb q => ?_) (ordL_pw (H := (irange m).map f))
  obtain ⟨l, e⟩ := cls_head g ha
  obtain ⟨k, e2⟩ := cls_head g hb
  rw [e, e2]
  exact List.le_of_lt (List.Lex.rel q)
/-! ### parts, as the program makes them -/
def partsD (m : Int) (f : Int → Int) : D := .tup ((partsL m f).map lotD)
theorem partsL_len {m : Int} {f : Int → Int} : (partsL m f).length ≤ m.toNat := by
  unfold partsL ordL
  rw [List.length_map, (List.mergeSort_perm _ _).length_eq]
  have := ddp_length ((irange m).map f)
  rw [List.length_map, irange_len] at this
  exact this
theorem ev_parts {m : Int} {ts : List Tie} {L : List Int} (hw : okW m ts = true) (hL : inRg ts L) : f_raw_parts [.val (webD m ts), .val (lotD L)] = .ok (.val (partsD m (hF ts L))) [] := by
  obtain ⟨m1, m2, l40, ho⟩ := okW_iff.mp hw
  have h4k := line4k
  have hH := ev_heads (m := m) (ts := ts) (L := L) (by omega) (by omega) ho hL
  rw [headsF_eq ho hL] at hH
  generalize hF ts L = f at hH ⊢
  have hil := irange_len (m := m)
  have hs1 : setD (.lst (((irange m).map f).map .int)) = some (.val (.set (ddp ((irange m).map f)))) := setD_lst (by rw [List.length_map]; omega)
  have hs2 : sortA (.set (ddp ((irange m).map f))) = some (.lst ((ordL ((irange m).map f)).map .int)) :=
    sortA_set (by have := ddp_length ((irange m).map f); rw [List.length_map] at this; omega)
  have hol : (ordL ((irange m).map f)).length ≤ m.toNat := by
    have := partsL_len (m := m) (f := f)
    unfold partsL at this
    rwa [List.length_map] at this
  have ef : List.map D.int ((irange m).map f) = (irange m).map fun x => D.int (f x) := by rw [List.map_map]; rfl
  rw [ef] at hH hs1
  have inner : ∀ h : Int, mComp [4] (mRange1 (mBin ixD (mVar 0) (mC (.int 0)))) (gNm false 4) (mTst (mBin eqD (mBin ixD (mVar 2) (mVar 4)) (mVar 3))) (mVar 4) [some (.val (webD m ts)), some (.val (lotD L)), some (.lst ((irange m).map fun x => D.int (f x))), some (.val (.int h)), none] = .ok (.o (.lst ((clsL m f h).map .int))) [some (.val (webD m ts)), some (.val (lotD L)), some (.lst ((irange m).map fun x => D.int (f x))), some (.val (.int h)), none] := fun h => by
    rw [comp_selF [some (.val (webD m ts)), some (.val (lotD L)), some (.lst ((irange m).map fun x => D.int (f x))), some (.val (.int h)), none] (irange m) .int (fun x => decide (f x = h)) .int (by simp [webD, atI0, rngM_ok (show 0 ≤ m by omega) (show m ≤ 16777216 by omega), rangeD_irange]) (fun x hx => by
      have hx' := mem_irange.mp hx
      have e : atI ((irange m).map fun x => D.int (f x)) x = some (.int (f x)) := by
        rw [atI_nn hx'.1, irange_get hx'.1 hx'.2]
      by_cases c : f x = h <;> simp [turnOk, e, c]) (by omega)]
    rfl
  generalize lotD L = LD at hH inner ⊢
  unfold f_raw_parts m_raw_parts
  rw [mkFn_ev]
  simp [hH, hs1, hs2]
  rw [comp_mapF [some (.val (webD m ts)), some (.val LD), some (.lst ((irange m).map fun x => D.int (f x))), none, none] (ordL ((irange m).map f)) .int (fun h => lotD (clsL m f h)) (by simp [hs1, hs2]) (fun h hh => by
    simp [turnOk, inner, lotD]) (by omega)]
  simp [partsD, partsL]
theorem ev_parts_by {m : Int} {ts : List Tie} {L : List Int} (hw : okW m ts = true) (hL : inRg ts L) (hl : L.length ≤ 4096) (hr : risB L = true) : f_parts_by [.val (webD m ts), .val (lotD L)] = .ok (.val (partsD m (hF ts L))) [] := by
  have h4k := line4k
  have hc := ev_check_lot (m := m) (ts := ts) (L := L) hw (by omega) (List.all_eq_true.mpr fun x hx => by
    have := hL x hx
    unfold inB
    simp only [Bool.and_eq_true, decide_eq_true_eq]
    omega) hr
  unfold f_parts_by m_parts_by
  rw [mkFn_ev]
  simp [hc, ev_parts hw hL]
theorem ris_irange {m : Int} : risB (irange m) = true := by
  have key : ∀ (l : List Int), l.Pairwise (· < ·) → risB l = true := by
    intro l h
    unfold risB
    cases l with
    | nil => rfl
    | cons a l =>
      simp only [List.drop_succ_cons, List.drop_zero]
      induction l generalizing a with
      | nil => rfl
      | cons b l ih =>
        rw [List.pairwise_cons] at h
        rw [List.zip_cons_cons, List.all_cons, ih b h.2]
        have := h.1 b (by simp)
        simpa using this
  exact key _ irange_pw
theorem rg_whole {ts : List Tie} : inRg ts (irange ts.length) := fun x hx => mem_irange.mp hx
theorem ev_parts_turned {m : Int} {ts : List Tie} {o : List Int} (hw : okW m ts = true) (p : o.Perm (irange m)) : f__law_parts_turned [.val (webD m ts), .val (lotD o)] = .ok (.val (.bl true)) [] := by
  obtain ⟨m1, m2, l40, ho⟩ := okW_iff.mp hw
  have h4k := line4k
  have hwt := ok_turn hw p
  have hlt : (turnTs o ts).length = ts.length := by unfold turnTs; rw [List.length_map]
  obtain ⟨W, hW⟩ : ∃ W, irange (ts.length : Int) = W := ⟨_, rfl⟩
  have hWl : W.length = ts.length := by rw [← hW, irange_len]; omega
  have rW : inRg ts W := by rw [← hW]; exact rg_whole
  have rW' : inRg (turnTs o ts) W := fun x hx => by have := rW x hx; rw [hlt]; exact this
  have hris : risB W = true := by rw [← hW]; exact ris_irange
  have h1 := ev_parts_by hw rW (by omega) hris
  have h2 := ev_parts_by hwt rW' (by omega) hris
  have h3 : f_edited [.val (webD m ts), .val (turnE (lotD o))] = .ok (.val (webD m (turnTs o ts))) [] := ev_edited hw (re_turn hw p) isD_web
  have hc := ev_called m2 p
  have hf := good_hF ho rW
  have hg := good_hF (okW_iff.mp hwt).2.2.2 rW'
  have r : Rel m (ixO o) (hF ts W) (hF (turnTs o ts) W) := rel_fold ho W id id rW fun u v u0 u1 v0 v1 => ⟨fun e => congrArg (ixO o) (show u = v from e), fun e => ixO_inj p u0 u1 v0 v1 e⟩
  generalize hF ts W = f at h1 hf r
  generalize hF (turnTs o ts) W = g at h2 hg r
  have hpp := parts_perm p hf r
  have hso : sortA (.lst (((partsL m f).map fun c => (c.map (ixO o)).mergeSort iLe).map lotD)) = some (.lst ((partsL m g).map lotD)) :=
    sort_rows (parts_pw hg) hpp.symm fun x hx => parts_ne hg x (hpp.mem_iff.mp hx)
  have hq : eqD (partsD m g) (partsD m g) = some (.val (.bl true)) := eqD_refl (okD_of (k := 2) (ok1_tup fun x hx => by
    obtain ⟨c, _, rfl⟩ := List.mem_map.mp hx
    exact ok1_lot) (by omega))
  have hpl := partsL_len (m := m) (f := f)
  have hwh : rgD 0 (ts.length : Int) = W.map .int := by rw [rgD_irange, hW]
  have hcl : ∀ c ∈ partsL m f, c.length ≤ 12 ∧ ∀ x ∈ c, 0 ≤ x ∧ x < m := fun c hc => by
    unfold partsL at hc
    obtain ⟨h, _, rfl⟩ := List.mem_map.mp hc
    refine ⟨?_, fun x hx => (mem_clsL.mp hx).1⟩
    have := List.length_filter_le (fun x => decide (f x = h)) (irange m)
    rw [irange_len] at this
    unfold clsL
    omega
  unfold f__law_parts_turned m__law_parts_turned
  rw [mkFn_ev]
  unfold turnE wordE at h3
  have hix : ixD (webD m ts) (.int 1) = some (.val (tsD ts)) := by simp [webD, atI1]
  have hlen : lenA (tsD ts) = some (.val (.int ts.length)) := by simp [tsD]
  generalize webD m ts = wd at *
  generalize webD m (turnTs o ts) = wt at *
  generalize hod : lotD o = od at *
  have hwl : (D.tup (W.map .int)) = lotD W := rfl
  simp [hix, hlen, rgM_ok (show 0 ≤ (ts.length : Int) by omega) (show (ts.length : Int) ≤ 16777216 by omega), hwh, hc, hwl]
  generalize lotD W = wh at *
  have inner : ∀ c ∈ partsL m f, mComp [6] (mIter (mVar 5)) (gNm false 6) (mYes) (mBin ixD (mVar 3) (mVar 6)) [some (.val wd), some (.val od), some (.val wh), some (.lst ((irange m).map fun x => D.int (ixO o x))), none, some (.val (lotD c)), none] = .ok (.o (.lst ((c.map (ixO o)).map .int))) [some (.val wd), some (.val od), some (.val wh), some (.lst ((irange m).map fun x => D.int (ixO o x))), none, some (.val (lotD c)), none] := fun c hc => by
    obtain ⟨hc1, hc2⟩ := hcl c hc
    rw [comp_mapF [some (.val wd), some (.val od), some (.val wh), some (.lst ((irange m).map fun x => D.int (ixO o x))), none, some (.val (lotD c)), none] c .int (fun x => .int (ixO o x)) (by simp [lotD]) (fun x hx => by
      have hx' := hc2 x hx
      have e : atI ((irange m).map fun x => D.int (ixO o x)) x = some (.int (ixO o x)) := by
        rw [atI_nn hx'.1, irange_get hx'.1 hx'.2]
      simp [turnOk, e]) (by omega)]
    rw [List.map_map]
    rfl
  rw [comp_mapF [some (.val wd), some (.val od), some (.val wh), some (.lst ((irange m).map fun x => D.int (ixO o x))), none, none, none] (partsL m f) lotD (fun c => lotD ((c.map (ixO o)).mergeSort iLe)) (by simp [h1, partsD]) (fun c hc => by
    have h1 := inner c hc
    have h2 := sortA_lst (c.map (ixO o))
    rw [List.map_map] at h1 h2
    simp only [lotD] at h1
    simp [turnOk, h1, h2, lotD]) (by omega)]
  rw [List.map_map] at hso
  simp only [Function.comp_def] at hso
  have hq' : eqD (partsD m g) (.tup ((partsL m g).map lotD)) = some (.val (.bl true)) := hq
  simp [h3, h2, hso, hq']
end L67

set_option Elab.async false
set_option linter.all false
set_option autoImplicit false
set_option maxRecDepth 100000
set_option maxHeartbeats 4000000
namespace L67
open PySem PySem.Spec PyProof.Rows L2 Mi

/-! ### an edit done -/
theorem lot1_ok {m : Int} {ts : List Tie} {t : Nat} (hw : okW m ts = true) (ht : t < ts.length) : f_check_lot [.val (webD m ts), .val (lotD [(t : Int)])] = .ok (.val .non) [] := by
  have h4k := line4k
  exact ev_check_lot hw (by simp <;> omega) (by simp [inB]; try omega) rfl
theorem ev_without_f {m : Int} {ts : List Tie} {t : Nat} (hw : okW m ts = true) (ht : t < ts.length) : f_without [.val (webD m ts), .val (lotD [(t : Int)])] = .ok (.val (.tup [webD m (ts.eraseIdx t), keptD ts.length t])) [] := by
  unfold f_without m_without
  rw [mkFn_ev]
  simp [lot1_ok hw ht, ev_without (okW_iff.mp hw).2.2.1]
theorem ev_fast_f {m : Int} {ts : List Tie} {t : Nat} {a b : Int} (hw : okW m ts = true) (ht : t < ts.length) (e : tieAt ts (t : Int) = (a, b)) :
    ∃ x y, f_fast [.val (webD m ts), .val (lotD [(t : Int)])] = .ok (.val (.tup [webD (m - 1) (fastTs a b ts), x, y])) [] := by
  obtain ⟨x, y, h⟩ := ev_fast hw ht e
  refine ⟨x, y, ?_⟩
  unfold f_fast m_fast
  rw [mkFn_ev]
  simp [lot1_ok hw ht, h]
theorem step_same {s s' : Web} {e d : D} (h : Step s e s') (k : f_raw_edited [.val (wD s), .val e] = .ok (.val d) []) : wD s' = d := by
  have := h.2.symm.trans k
  injection this with a b
  injection a
theorem ev_law_done {s s' : Web} {e : D} (h0 : okS s) (he : IsEd s.1 s.2 e) (hs : Step s e s') : f__law_done [.val (wD s), .val e, .val (wD s')] = .ok (.val (.bl true)) [] := by
  obtain ⟨m, ts⟩ := s
  have hw : okW m ts = true := h0
  have h1 : f_edited [.val (webD m ts), .val e] = .ok (.val (wD s')) [] := ev_edited hw hs.2 isD_web
  have h2 : f__law_is_web [.val (wD s'), .val (wD s')] = .ok (.val (.bl true)) [] := ev_law_is_web
  have h3 : f_is_web [.val (wD s')] = .ok (.val (.bl true)) [] := by
    have := ev_is_web (m := s'.1) (ts := s'.2)
    rw [show okW s'.1 s'.2 = true from hs.1] at this
    exact this
  have h4 : isD true (.bl true) (.bl true) = some (.val (.bl false)) := rfl
  have q1 : neD (.str "turn") (.str "turn") = some (.val (.bl false)) := by kernel_rfl
  have q2 : neD (.str "tie") (.str "turn") = some (.val (.bl true)) := by kernel_rfl
  have q3 : neD (.str "place") (.str "turn") = some (.val (.bl true)) := by kernel_rfl
  have q4 : eqD (.str "fast") (.str "fast") = some (.val (.bl true)) := by kernel_rfl
  have q5 : eqD (.str "turn") (.str "fast") = some (.val (.bl false)) := by kernel_rfl
  have q6 : eqD (.str "tie") (.str "fast") = some (.val (.bl false)) := by kernel_rfl
  have q7 : eqD (.str "place") (.str "fast") = some (.val (.bl false)) := by kernel_rfl
  have q8 : eqD (.str "tie") (.str "untie") = some (.val (.bl false)) := by kernel_rfl
  have q9 : eqD (.str "place") (.str "untie") = some (.val (.bl false)) := by kernel_rfl
  have ew : wD (m, ts) = webD m ts := rfl
  rw [ew]
  unfold f__law_done m__law_done
  rw [mkFn_ev]
  cases he with
  | @tie i j hij hl =>
    simp only [tieE, wordE] at *
    generalize webD m ts = wd at *
    simp [h1, h2, h3, h4, q2, q6, q8, atI0]
  | @untie t ht =>
    have k := step_same hs (re_untie hw ht)
    have k2 := ev_without_f hw ht
    rw [← k] at k2
    simp only [untieE, wordE, lotD, List.map_cons, List.map_nil] at *
    generalize webD m ts = wd at *
    simp [h1, h2, h3, h4, k2, atI0, atI1]
  | @fast t ht =>
    obtain ⟨⟨a, b⟩, e⟩ : ∃ p : Tie, tieAt ts (t : Int) = p := ⟨_, rfl⟩
    have k := step_same hs (re_fast hw ht e)
    obtain ⟨x, y, k2⟩ := ev_fast_f hw ht e
    rw [← k] at k2
    simp only [fastE, wordE, lotD, List.map_cons, List.map_nil] at *
    generalize webD m ts = wd at *
    simp [h1, h2, h3, h4, k2, q4, atI0, atI1]
  | @turn o hp =>
    have k2 := ev_parts_turned hw hp
    simp only [turnE, wordE] at *
    generalize webD m ts = wd at *
    generalize lotD o = od at *
    simp [h1, h2, h3, h4, k2, q1, q5, atI0, atI1]
  | place h12 =>
    simp only [placeE, wordE] at *
    generalize webD m ts = wd at *
    simp [h1, h2, h3, h4, q3, q7, q9, atI0, atI1]
/-! ### the law -/
theorem ok_stops {n : Int} : okD (stopsD n) = true := okD_of (k := 1) (ok1_tup fun x hx => by
  simp only [List.mem_cons, List.not_mem_nil, or_false] at hx
  rcases hx with rfl | rfl
  · exact ⟨by kernel_rfl, Nat.le_refl _⟩
  · exact ok1_int) (by omega)
theorem range_at2 {a : Int} {n i : Nat} {d : D} (h : (rangeD a n)[i]? = some d) : i < n ∧ d = .int (a + (i : Nat)) := by
  unfold rangeD at h
  rw [List.getElem?_map, Option.map_eq_some_iff] at h
  obtain ⟨j, hj, rfl⟩ := h
  by_cases hl : i < n
  · have : j = i := by simpa [hl] using hj.symm
    subst this
    exact ⟨hl, rfl⟩
  · rw [List.getElem?_eq_none (by simp; omega)] at hj; cases hj
theorem law_true (ns : List Int) (hn : ns.length ≤ 63) : ∃ ρ, f_law [.val (.scr (ns.map Mi.D.int))] = .ok (.val (.bl true)) ρ := by
  refine ⟨[], ?_⟩
  have h4k := line4k
  have esc : D.scr (ns.map Mi.D.int) = scD ns := rfl
  rw [esc]
  obtain ⟨m0, t0, hw0, hb⟩ := ev_begin (ns := ns)
  obtain ⟨s0, hs0⟩ : ∃ s0 : Web, s0 = (m0, t0) := ⟨_, rfl⟩
  have ho0 : okS s0 := by rw [hs0]; exact hw0
  have hb : f__law_begin [.val (scD ns)] = .ok (.val (wD s0)) [] := by rw [hs0]; exact hb
  have hls : lenA (scD ns) = some (.val (.int ns.length)) := by simp [scD]
  have hbody : ∃ b, b = (mSeq (mAsg (mCall 3 f__law_no_edit (mCons (mVar 0) (mCons (mVar 4) (mCons (mVar 2) (mNil))))) (gNm false 6)) (mSeq (mIfS (mNot (mTst (mCall 2 f__law_refused (mCons (mVar 2) (mCons (mVar 6) (mNil)))))) (mRet (mC (.bl false))) (mSkip)) (mSeq (mAsg (mCall 2 f_replayed (mCons (mVar 1) (mCons (mBin addD (mFn1 tupD (mVar 3)) (mTup (mCons (mVar 6) (mCons (mTup (mCons (mC (.str "place")) (mNil))) (mNil))))) (mNil)))) (gNm false 5)) (mSeq (mIfS (mOr (mTst (mBin neD (mVar 5) (mTup (mCons (mC (.str "stops")) (mCons (mFn1 lenA (mVar 3)) (mNil)))))) (mNot (mTst (mCall 1 f__law_whole (mCons (mBin ixD (mVar 5) (mC (.int 1))) (mNil)))))) (mRet (mC (.bl false))) (mSkip)) (mSeq (mAsg (mCall 3 f__law_edit (mCons (mVar 0) (mCons (mVar 4) (mCons (mVar 2) (mNil))))) (gNm false 7)) (mSeq (mAsg (mCall 2 f__law_edited (mCons (mVar 2) (mCons (mVar 7) (mNil)))) (gNm false 8)) (mSeq (mIfS (mNot (mTst (mCall 3 f__law_done (mCons (mVar 2) (mCons (mVar 7) (mCons (mVar 8) (mNil))))))) (mRet (mC (.bl false))) (mSkip)) (mSeq (mExpr (mMut 3 (mCons (mVar 7) (mNil)) appendG)) (mAsg (mVar 8) (gNm false 2)))))))))) := ⟨_, rfl⟩
  obtain ⟨b, eb⟩ := hbody
  obtain ⟨K, hK, hK0⟩ : ∃ K : Int, K ≤ 64 ∧ 0 ≤ K ∧ K = (if 6 < (if 31 < (ns.length : Int) then (31 : Int) else ns.length) then (if 31 < (ns.length : Int) then (31 : Int) else ns.length) else 6) := ⟨_, by split <;> (try split) <;> omega, by split <;> (try split) <;> omega, rfl⟩
  obtain ⟨ρ', h1, s, es, o4, o5, o6, o7, o8, hs, hr, hl, rfl⟩ := loop_inv (g := gNm false 4) (b := b)
    (fun i ρ => ∃ (s : Web) (es : List D) (o4 o5 o6 o7 o8 : Option O), okS s ∧ Runs s0 es s ∧ es.length = i ∧ ρ = [some (.val (scD ns)), some (.val (wD s0)), some (.val (wD s)), some (.lst es), o4, o5, o6, o7, o8]) (rangeD 1 (K - 1).toNat) 0
    [some (.val (scD ns)), some (.val (wD s0)), some (.val (wD s0)), some (.lst []), none, none, none, none, none] ⟨s0, [], none, none, none, none, none, ho0, Runs.nil, rfl, rfl⟩ (by
      rintro i d ρ hd ⟨s, es, o4, o5, o6, o7, o8, hs, hr, hl, rfl⟩
      obtain ⟨hi, rfl⟩ := range_at2 hd
      simp only [Nat.zero_add] at hl ⊢
      obtain ⟨w, hwr, hw⟩ := ev_law_no_edit (ns := ns) (p := 1 + (i : Int)) (by omega) hs
      obtain ⟨e, he, hed⟩ := ev_law_edit (ns := ns) (p := 1 + (i : Int)) (by omega) hs
      obtain ⟨s', hst, hle⟩ := ev_law_edited hs he
      have hdn := ev_law_done hs he hst
      have hrf := ev_refused hs hwr
      have hrp := ev_replayed_no (x := placeE) ho0 hr hwr
      have hne : neD (stopsD es.length) (stopsD es.length) = some (.val (.bl false)) := neD_refl ok_stops
      have hap : appendG (.lst es) [e] = some (.non, .lst (es ++ [e])) := append_ok (by omega)
      have had : addD (.tup es) (.tup [w, placeE]) = some (.val (.tup (es ++ [w, placeE]))) := addD_tup (by simp; omega)
      refine ⟨_, .inl ?_, s', es ++ [e], some (.val (.int (1 + (i : Int)))), some (.val (stopsD es.length)), some (.val w), some (.val e), some (.val (wD s')), hst.1, hr.snoc hst, by simp [hl], rfl⟩
      change f__law_no_edit [.val (scD ns), .val (.int (1 + (i : Int))), .val (wD s)] = _ at hw
      change f__law_edit [.val (scD ns), .val (.int (1 + (i : Int))), .val (wD s)] = _ at hed
      change f__law_edited [.val (wD s), _] = _ at hle
      change f__law_refused [.val (wD s), _] = _ at hrf
      rw [eb]
      unfold turnL
      simp only [placeE, wordE, stopsD] at had hrp hne ⊢
      simp [hw, hrf, had, hrp, hne, hed, hle, hdn, hap, atI0, atI1])
  have hrl : (rangeD 1 (K - 1).toNat).length = (K - 1).toNat := by unfold rangeD; simp
  rw [hrl] at hl
  have hrp := ev_replayed ho0 hr
  have hrl2 := ev_replayed_l (es := es) ho0
  have hrn := ev_replayed_n ho0
  have hq : eqD (stopsD 0) (stopsD 0) = some (.val (.bl true)) := eqD_refl ok_stops
  have hwb : neD (.str "web") (.str "web") = some (.val (.bl false)) := by kernel_rfl
  have hlw : f__law_is_web [.val (wD s), .val (wD s)] = .ok (.val (.bl true)) [] := ev_law_is_web
  have hti : isiO "tuple" (goD s) = some (.val (.bl true)) := rfl
  unfold f_law m_law
  rw [← eb, mkFn_ev]
  simp only [stopsD, goD] at hrp hrl2 hrn hq hti
  simp [hb, hls]
  rw [← hK0.2]
  rw [show (K - 1).toNat = K.toNat - 1 by omega] at h1
  have htl : tupD (.lst es) = some (.val (.tup es)) := rfl
  simp [rng2M_ok (show (0 : Int) ≤ 1 by omega) (show (1 : Int) ≤ 16777216 by omega) hK0.1 (show K ≤ 16777216 by omega), h1]
  simp [hrp, hrl2, hrn, hq, hti, hlw, hwb, atI0, atI1]
end L67

set_option Elab.async false
set_option linter.all false
set_option maxRecDepth 100000
set_option maxHeartbeats 0
open PySem PySem.W PySem.Calls PyProof.Rows
theorem PySem.Challenge.cw_treesapartways_k67_whole_edits_of_webs_holds : PySem.Challenge.rw_treesapartways_k67_whole_edits_of_webs.Holds := by
  w_on; o_law
  refine HandSHeadRun.head_any (r := OpenLaw.row PySem.Challenge.rw_treesapartways_k67_whole_edits_of_webs) (q := view (OpenLaw.row PySem.Challenge.rw_treesapartways_k67_whole_edits_of_webs).prog [51]) (H := L67.hk) (ob := L67.ob) (M := 6000) (loose := L67.loose) (d := HandSHeadRun.topDef (OpenLaw.row PySem.Challenge.rw_treesapartways_k67_whole_edits_of_webs).prog 51) (kwd := []) L67.ob_eq
    (by kernel_rfl) (fun s => by kernel_rfl) L67.run (by kernel_rfl) (by kernel_rfl) (by kernel_rfl) (by rfl) (by first | assumption | decide +kernel) (by decide +kernel) ⟨rfl, rfl, rfl, rfl, rfl, by decide +kernel⟩ ?hw ?hc
  case hw => w_witness2
  case hc =>
    refine L2.walk_ofE (l := PySem.Challenge.rw_treesapartways_k67_whole_edits_of_webs) (n := 63) (k := 10) (x := "script") (CX := L2.CX0) rfl (by decide) (by kernel_rfl) ⟨rfl, by decide, by decide⟩ ?F (fun _ _ _ _ z => z)
    intro w mg fa h Y G hmg0
    obtain ⟨K, KX, c⟩ := Y
    have hmg : mg ("law" : PySem.Str) = some (.ref fa) := by
      have e : (HandSHeadRun.topDef (OpenLaw.row PySem.Challenge.rw_treesapartways_k67_whole_edits_of_webs).prog 51).name = ("law" : PySem.Str) := by kernel_rfl
      rw [← e]
      exact hmg0
    obtain ⟨fd, hb, hF⟩ := L67.facts (P := (PySem.Challenge.rw_treesapartways_k67_whole_edits_of_webs).prog) (w := w) KX G hmg c
    exact ⟨K, fd, (fun vs H Q _ => Mi.spM ⟨PySem.Challenge.rw_treesapartways_k67_whole_edits_of_webs.prog, w, K, mg, 0⟩ false 1 L67.f_law vs H Q fun _ _ _ => False), KX, hb, fun H a ns hl _ hS => Mi.law_sp (L67.law_true ns hl) hS, fun base _ _ => Mi.fn_calm (hF base)⟩

