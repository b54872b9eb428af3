import PyProof.Rows.All
import HandS.ForMost
import HandS.ForExc
import HandS.AnyAll
import HandS.Style
import HandS.TupAny
import HandS.Deep
import HandS.WideBits
import KE.LtData
import HandS.Defaults
import HandS.ExcCtx
import HandS.Walk
import HandS.Rev
import HandS.GenCall
import HandS.GenList
import HandS.TupMul
import HandS.TupLen
import HandS.Conv
import HandS.IsInst
import KE.SortData
import KE.DataMinMax
import HandS.More
import HandS.RevTup
import HandS.HeadWalk
import HandS.HeadHook4
import KE.IntBitsLaws
import KE.Datum
import KE.DatumOrd
import KE.GoesMore
import HandS.SetFor
import HandS.Remove
import HandS.Star
import HandS.Exc
import HandS.ExcOwn
import HandS.HotCalls
import HandS.ExcIs
import HandS.Gcd
import HandS.Wide
import HandS.Head0
import HandS.Head1
import HandS.Head2
import HandS.HeadEnd
import HandS.Head3
import PySem.Challenge.RW_skisheld_k37_whole_figures_on_posts
set_option Elab.async false
set_option linter.all false
set_option maxRecDepth 100000
set_option maxHeartbeats 4000000
namespace Vs
open PySem PySem.Spec PyProof.Rows L2
abbrev St := L2.St

abbrev D := PyData

/-- a slot: nothing known; shared data; a list or dict that this name alone owns; one that the caller owns and hands in to be changed; the law's script -/
inductive Sl where
  | un | im (d : D) | own (d : D) | par (d : D) | scr (ns : List Int)
abbrev Sts := List Sl

inductive Res (α : Type) where
  | ok (a : α) (st : Sts) | exc (c : Str) (st : Sts) | bad
def Res.bind {α β : Type} (x : Res α) (f : α → Sts → Res β) : Res β := match x with
  | .ok a st => f a st
  | .exc c st => .exc c st
  | .bad => .bad
theorem Res.ok_bind {α β : Type} (a : α) (st : Sts) (f : α → Sts → Res β) : (Res.ok a st).bind f = f a st := rfl
theorem Res.exc_bind {α β : Type} (c : Str) (st : Sts) (f : α → Sts → Res β) : (Res.exc c st : Res α).bind f = .exc c st := rfl
theorem Res.bad_bind {α β : Type} (f : α → Sts → Res β) : (Res.bad : Res α).bind f = .bad := rfl
/-- what a piece of code comes to -/
inductive Out where
  | nx (st : Sts) | rt (d : D) (st : Sts) | bk (st : Sts) | ct (st : Sts) | exc (c : Str) (st : Sts) | bad
abbrev Ev := Sts → Res D
abbrev Et := Sts → Res Bool
abbrev Ea := Sts → Res (List D)
abbrev Es := Sts → Out

/-! ### data in the heap -/
def keyD : Key → D
  | .inl i => .int i
  | .inr x => .str x
def keyT (k : List Key) : D := .tuple (k.map keyD)
/-- a list of the text's own written part -/
def LK (K : PySem.W.Frag) (a : Addr) (xs : List V) : Prop :=
  ∃ (o : Obj) (its : Array Value) (n : Nat), K.lookup a = some o ∧ o.cls = .type "list" ∧ o.dict = none ∧ o.data = .seq its n ∧ its.size ≤ sizeLine ∧ Vals xs its.toList
mutual
/-- d stands at v; no list or dict within it stands at an address of B -/
inductive Rep (K : PySem.W.Frag) (B : Addr → Prop) (H : Hp) : D → V → Prop
  | non : Rep K B H .none .non
  | bl (b : Bool) : Rep K B H (.bool b) (.bl b)
  | int (i : Int) : Rep K B H (.int i) (.int i)
  | str (x : Str) : Rep K B H (.str x) (.str x)
  | tup {a : Addr} {xs : List V} {ds : List D} : H a = some (.tup xs) → RepA K B H ds xs → Rep K B H (.tuple ds) (.ref a)
  | lst {a : Addr} {xs : List V} {ds : List D} : Rd H a (.lst xs) → ¬ B a → RepA K B H ds xs → Rep K B H (.list ds) (.ref a)
  | dK {a : Addr} {es : List (Key × V)} {kvs : List (D × D)} : Rd H a (.dK es) → ¬ B a → kvs.map (·.1) = es.map (fun e => keyD e.1) → RepA K B H (kvs.map (·.2)) (es.map (·.2)) → Rep K B H (.dict kvs) (.ref a)
  | dT {a : Addr} {es : List (List Key × V)} {kvs : List (D × D)} : Rd H a (.dT es) → ¬ B a → kvs.map (·.1) = es.map (fun e => keyT e.1) → RepA K B H (kvs.map (·.2)) (es.map (·.2)) → Rep K B H (.dict kvs) (.ref a)
inductive RepA (K : PySem.W.Frag) (B : Addr → Prop) (H : Hp) : List D → List V → Prop
  | nil : RepA K B H [] []
  | cons {d : D} {v : V} {ds : List D} {vs : List V} : Rep K B H d v → RepA K B H ds vs → RepA K B H (d :: ds) (v :: vs)
end
/-- an owned list or dict at a -/
inductive OwnRep (K : PySem.W.Frag) (B : Addr → Prop) (H : Hp) : D → Addr → Prop
  | lst {a : Addr} {xs : List V} {ds : List D} : H a = some (.lst xs) → RepA K B H ds xs → OwnRep K B H (.list ds) a
  | dK {a : Addr} {es : List (Key × V)} {kvs : List (D × D)} : H a = some (.dK es) → kvs.map (·.1) = es.map (fun e => keyD e.1) → RepA K B H (kvs.map (·.2)) (es.map (·.2)) → OwnRep K B H (.dict kvs) a
  | dT {a : Addr} {es : List (List Key × V)} {kvs : List (D × D)} : H a = some (.dT es) → kvs.map (·.1) = es.map (fun e => keyT e.1) → RepA K B H (kvs.map (·.2)) (es.map (·.2)) → OwnRep K B H (.dict kvs) a
/-- r: the outermost list or dict may be an owned one -/
def RepR (r : Bool) (K : PySem.W.Frag) (B : Addr → Prop) (H : Hp) (d : D) (v : V) : Prop := Rep K B H d v ∨ (r = true ∧ ∃ a, v = .ref a ∧ OwnRep K B H d a)

/-- what must stand as it stood, M being what may change -/
def Fx (M : Addr → Prop) (a : Addr) : HO → Prop
  | .tbl _ => False
  | .tup _ => True
  | .frz _ _ => True
  | _ => ¬ M a
structure Kp (M : Addr → Prop) (H H' : Hp) : Prop where
  at' : ∀ a o, H a = some o → Fx M a o → H' a = some o
  dom : ∀ a, H a ≠ none → H' a ≠ none

section
variable {K : PySem.W.Frag} {B B' M M' : Addr → Prop} {H H' H1 H2 : Hp} {d : D} {v : V} {ds : List D} {vs : List V} {a : Addr}
theorem Fx.mono (h : ∀ b, M b → M' b) {o : HO} (x : Fx M' a o) : Fx M a o := by
  cases o <;> first | exact x | exact fun z => x (h _ z)
theorem Kp.refl (M : Addr → Prop) (H : Hp) : Kp M H H := ⟨fun _ _ e _ => e, fun _ h => h⟩
theorem Kp.mono (h : ∀ b, M b → M' b) (k : Kp M H H') : Kp M' H H' := ⟨fun a o e x => k.at' a o e (x.mono h), k.dom⟩
theorem Kp.trans (k : Kp M H H1) (k' : Kp M' H1 H2) (h : ∀ b, M' b → M b ∨ H b = none) : Kp M H H2 := ⟨fun a o e x => by
  refine k'.at' a o (k.at' a o e x) ?_
  have nn : ∀ (hm : ¬ M a), ¬ M' a := fun hm z => (h a z).elim hm fun q => by rw [e] at q; cases q
  cases o <;> first | exact x | exact nn x, fun a n => k'.dom a (k.dom a n)⟩
theorem Kp.upd {p : Addr} {o : HO} (h : H p = none) : Kp M H (L2.upd H p o) := ⟨fun a u e _ => by rw [upd_ne (ne_of_none e h)]; exact e, fun a n => by
  by_cases e : a = p
  · rw [e, upd_same]; intro z; cases z
  · rw [upd_ne e]; exact n⟩
theorem Kp.same (h : Same H H') : Kp M H H' := ⟨fun a o e _ => h a o e, fun a n z => by
  cases e : H a with
  | none => exact n e
  | some o => rw [h a o e] at z; cases z⟩
theorem Kp.put {p : Addr} {o : HO} (hM : M p) (hm : Mut (H p)) : Kp M H (L2.upd H p o) := ⟨fun a u e x => by
  by_cases ea : a = p
  · subst ea
    rw [e] at hm
    cases u <;> first | exact absurd hM x | exact hm.elim
  · rw [upd_ne ea]; exact e, fun a n => by
  by_cases e : a = p
  · rw [e, upd_same]; intro z; cases z
  · rw [upd_ne e]; exact n⟩
theorem Kp.sqT {xs : List V} (k : Kp M H H') (h : SqT K H a xs) : SqT K H' a xs := by
  rcases h with (h | ⟨o, h⟩) | h
  · exact .inl (.inl (k.at' _ _ h True.intro))
  · exact .inl (.inr ⟨o, k.at' _ _ h True.intro⟩)
  · exact .inr h
theorem Kp.rd {u : HO} (k : Kp M H H') (hu : ¬ M a → Fx M a u) (h : Rd H a u) (n : ¬ M a) : Rd H' a u := by
  rcases h with h | ⟨o, h⟩
  · exact .inl (k.at' _ _ h (hu n))
  · exact .inr ⟨o, k.at' _ _ h True.intro⟩
theorem rd_there {u : HO} (h : Rd H a u) : H a ≠ none := by
  rcases h with h | ⟨o, h⟩ <;> (rw [h]; intro z; cases z)

mutual
theorem Rep.step (k : Kp M H H') (hM : ∀ b, M b → B b) (hB : ∀ b, B' b → B b ∨ H b = none) : ∀ {d : D} {v : V}, Rep K B H d v → Rep K B' H' d v
  | _, _, .non => .non
  | _, _, .bl b => .bl b
  | _, _, .int i => .int i
  | _, _, .str x => .str x
  | _, _, .tup s r => .tup (k.at' _ _ s True.intro) (r.step k hM hB)
  | _, _, .lst s n r => .lst (k.rd (fun z => z) s fun z => n (hM _ z)) (fun z => (hB _ z).elim n (rd_there s)) (r.step k hM hB)
  | _, _, .dK s n e r => .dK (k.rd (fun z => z) s fun z => n (hM _ z)) (fun z => (hB _ z).elim n (rd_there s)) e (r.step k hM hB)
  | _, _, .dT s n e r => .dT (k.rd (fun z => z) s fun z => n (hM _ z)) (fun z => (hB _ z).elim n (rd_there s)) e (r.step k hM hB)
theorem RepA.step (k : Kp M H H') (hM : ∀ b, M b → B b) (hB : ∀ b, B' b → B b ∨ H b = none) : ∀ {ds : List D} {vs : List V}, RepA K B H ds vs → RepA K B' H' ds vs
  | _, _, .nil => .nil
  | _, _, .cons a b => .cons (a.step k hM hB) (b.step k hM hB)
end
/-- the script at a -/
def ScrAt (K : PySem.W.Frag) (B : Addr → Prop) (H : Hp) (ns : List Int) (a : Addr) : Prop := (Rd H a (.lst (ns.map V.int)) ∧ ¬ B a) ∨ LK K a (ns.map V.int)
theorem ScrAt.step {ns : List Int} (k : Kp M H H') (hM : ∀ b, M b → B b) (hB : ∀ b, B' b → B b ∨ H b = none) (h : ScrAt K B H ns a) : ScrAt K B' H' ns a := h.imp (fun ⟨s, n⟩ => ⟨k.rd (fun z => z) s fun z => n (hM _ z), fun z => (hB _ z).elim n (rd_there s)⟩) id
theorem ScrAt.sql {ns : List Int} (h : ScrAt K B H ns a) : SqL K H a (ns.map V.int) := h.elim (fun h => .inl h.1) .inr
theorem RepA.length : ∀ {ds : List D} {vs : List V}, RepA K B H ds vs → ds.length = vs.length
  | _, _, .nil => rfl
  | _, _, .cons _ b => by rw [List.length_cons, List.length_cons, b.length]
theorem RepA.get : ∀ {ds : List D} {vs : List V} {i : Nat} {v : V}, RepA K B H ds vs → vs[i]? = some v → ∃ d, ds[i]? = some d ∧ Rep K B H d v
  | _, _, _, _, .nil, e => by simp at e
  | _, _, 0, _, .cons r _, e => by simp at e; subst e; exact ⟨_, rfl, r⟩
  | _, _, i + 1, v, .cons _ t, e => by
    obtain ⟨d, h1, h2⟩ := RepA.get (i := i) (v := v) t (by simpa using e)
    exact ⟨d, by simpa using h1, h2⟩
theorem RepA.getD : ∀ {ds : List D} {vs : List V} {i : Nat} {d : D}, RepA K B H ds vs → ds[i]? = some d → ∃ v, vs[i]? = some v ∧ Rep K B H d v
  | _, _, _, _, .nil, e => by simp at e
  | _, _, 0, _, .cons r _, e => by simp at e; subst e; exact ⟨_, rfl, r⟩
  | _, _, i + 1, d, .cons _ t, e => by
    obtain ⟨v, h1, h2⟩ := RepA.getD (i := i) (d := d) t (by simpa using e)
    exact ⟨v, by simpa using h1, h2⟩
theorem RepA.append : ∀ {ds es : List D} {vs us : List V}, RepA K B H ds vs → RepA K B H es us → RepA K B H (ds ++ es) (vs ++ us)
  | _, _, _, _, .nil, s => s
  | _, _, _, _, .cons r t, s => .cons r (t.append s)
theorem RepA.take : ∀ {ds : List D} {vs : List V} (n : Nat), RepA K B H ds vs → RepA K B H (ds.take n) (vs.take n)
  | _, _, 0, _ => .nil
  | _, _, _ + 1, .nil => .nil
  | _, _, n + 1, .cons r t => .cons r (t.take n)
theorem RepA.drop : ∀ {ds : List D} {vs : List V} (n : Nat), RepA K B H ds vs → RepA K B H (ds.drop n) (vs.drop n)
  | _, _, 0, r => r
  | _, _, _ + 1, .nil => .nil
  | _, _, n + 1, .cons _ t => t.drop n
theorem RepA.set {d : D} {v : V} (r : Rep K B H d v) : ∀ {ds : List D} {vs : List V} (i : Nat), RepA K B H ds vs → RepA K B H (ds.set i d) (vs.set i v)
  | _, _, _, .nil => .nil
  | _, _, 0, .cons _ t => .cons r t
  | _, _, i + 1, .cons q t => .cons q (t.set r i)
theorem RepA.reverse (h : RepA K B H ds vs) : RepA K B H ds.reverse vs.reverse := by
  have : ∀ {ds : List D} {vs : List V}, RepA K B H ds vs → ∀ {es us}, RepA K B H es us → RepA K B H (ds.reverseAux es) (vs.reverseAux us) := by
    intro ds
    induction ds with
    | nil => intro vs h es us r; cases h; exact r
    | cons d ds ih => intro vs h es us r; cases h with | cons a b => exact ih b (.cons a r)
  exact this h .nil
theorem RepA.dropLast (h : RepA K B H ds vs) : RepA K B H ds.dropLast vs.dropLast := by
  rw [List.dropLast_eq_take, List.dropLast_eq_take, h.length]
  exact h.take _
theorem RepA.rep (h : RepA K B H ds vs) : ∀ k : Nat, RepA K B H (List.replicate k ds).flatten (List.replicate k vs).flatten
  | 0 => .nil
  | k + 1 => by
    rw [List.replicate_succ, List.replicate_succ, List.flatten_cons, List.flatten_cons]
    exact h.append (h.rep k)
theorem RepA.eraseIdx : ∀ {ds : List D} {vs : List V} (i : Nat), RepA K B H ds vs → RepA K B H (ds.eraseIdx i) (vs.eraseIdx i)
  | _, _, _, .nil => .nil
  | _, _, 0, .cons _ t => t
  | _, _, i + 1, .cons q t => .cons q (t.eraseIdx i)
theorem RepA.ints : ∀ (ns : List Int), RepA K B H (ns.map .int) (ns.map .int)
  | [] => .nil
  | n :: ns => .cons (.int n) (RepA.ints ns)

theorem OwnRep.step (k : Kp M H H') (hM : ∀ b, M b → B b) (hB : ∀ b, B' b → B b ∨ H b = none) (n : ¬ M a) : OwnRep K B H d a → OwnRep K B' H' d a
  | .lst s r => .lst (k.at' _ _ s n) (r.step k hM hB)
  | .dK s e r => .dK (k.at' _ _ s n) e (r.step k hM hB)
  | .dT s e r => .dT (k.at' _ _ s n) e (r.step k hM hB)
theorem OwnRep.there : OwnRep K B H d a → H a ≠ none
  | .lst s _ => by rw [s]; intro z; cases z
  | .dK s _ _ => by rw [s]; intro z; cases z
  | .dT s _ _ => by rw [s]; intro z; cases z
theorem OwnRep.mut : OwnRep K B H d a → Mut (H a)
  | .lst s _ => by rw [s]; trivial
  | .dK s _ _ => by rw [s]; trivial
  | .dT s _ _ => by rw [s]; trivial
/-- an owned one, given out -/
theorem OwnRep.rep (n : ¬ B a) : OwnRep K B H d a → Rep K B H d (.ref a)
  | .lst s r => .lst (.inl s) n r
  | .dK s e r => .dK (.inl s) n e r
  | .dT s e r => .dT (.inl s) n e r
end

/-! ### the slots -/
def getO (st : Sts) (i : Nat) : Option D := match st[i]? with
  | some (.own d) => some d
  | some (.par d) => some d
  | _ => none
/-- an owned slot's data changed -/
def setO (st : Sts) (i : Nat) (d : D) : Sts := match st[i]? with
  | some (.own _) => st.set i (.own d)
  | some (.par _) => st.set i (.par d)
  | _ => st
abbrev Owd (st : Sts) (i : Nat) (d : D) : Prop := getO st i = some d
def Own (σ : St) (st : Sts) (a : Addr) : Prop := ∃ i d, Owd st i d ∧ σ[i]? = some (some (.ref a))
abbrev Bd (F : Addr → Prop) (σ : St) (st : Sts) : Addr → Prop := fun a => F a ∨ Own σ st a
structure RepS (K : PySem.W.Frag) (T F : Addr → Prop) (H : Hp) (σ : St) (st : Sts) : Prop where
  dom : ∀ a, F a → H a ≠ none
  len : σ.length = st.length
  im : ∀ (i : Nat) d, st[i]? = some (.im d) → ∃ v, σ[i]? = some (some v) ∧ Rep K (Bd F σ st) H d v
  ow : ∀ (i : Nat) d, Owd st i d → ∃ a, σ[i]? = some (some (.ref a)) ∧ ¬ F a ∧ OwnRep K (Bd F σ st) H d a
  scr : ∀ (i : Nat) ns, st[i]? = some (.scr ns) → ∃ a, σ[i]? = some (some (.ref a)) ∧ ScrAt K (Bd F σ st) H ns a
  dis : ∀ (i j : Nat) d e a, Owd st i d → Owd st j e → σ[i]? = some (some (.ref a)) → σ[j]? = some (some (.ref a)) → i = j
  tab : ∀ P, T P → GxR.TabG H P

/-- behind an expression -/
structure XGo (m : Bool) (σ : St) (H H' : Hp) (st st' : Sts) : Prop where
  kp : Kp (fun a => m = true ∧ Own σ st a) H H'
  sub : ∀ a, Own σ st' a → Own σ st a
  par : ∀ (i : Nat) d, st[i]? = some (.par d) → ∃ d', st'[i]? = some (.par d')
  pure : m = false → st' = st
/-- behind a statement -/
structure SGo (σ : St) (H : Hp) (st : Sts) (σ' : St) (H' : Hp) (st' : Sts) : Prop where
  kp : Kp (Own σ st) H H'
  sub : ∀ a, Own σ' st' a → Own σ st a ∨ H a = none
  par : ∀ (i : Nat) d, st[i]? = some (.par d) → ∃ d', st'[i]? = some (.par d') ∧ σ'[i]? = σ[i]?
section
variable {K : PySem.W.Frag} {T F F' : Addr → Prop} {H H' H1 H2 : Hp} {σ σ' σ1 σ2 : St} {st st' st1 st2 : Sts} {m m' m1 m2 r : Bool} {d : D} {v : V} {a p : Addr} {o : HO}
theorem XGo.refl : XGo m σ H H st st := ⟨Kp.refl _ _, fun _ h => h, fun _ d e => ⟨d, e⟩, fun _ => rfl⟩
theorem XGo.mono (h : m = true → m' = true) (x : XGo m σ H H' st st') : XGo m' σ H H' st st' :=
  ⟨x.kp.mono fun _ z => ⟨h z.1, z.2⟩, x.sub, x.par, fun e => x.pure (by cases m with | false => rfl | true => rw [h rfl] at e; cases e)⟩
theorem XGo.trans (x : XGo m σ H H1 st st1) (y : XGo m' σ H1 H2 st1 st2) : XGo (m || m') σ H H2 st st2 where
  kp := by
    have a := x.kp.mono (M' := fun a => (m || m') = true ∧ Own σ st a) fun _ z => ⟨by rw [z.1]; rfl, z.2⟩
    exact a.trans y.kp fun b z => .inl ⟨by rw [z.1, Bool.or_true], x.sub b z.2⟩
  sub := fun a h => x.sub a (y.sub a h)
  par := fun i d e => by
    obtain ⟨d', e'⟩ := x.par i d e
    exact y.par i d' e'
  pure := fun e => by
    rw [Bool.or_eq_false_iff] at e
    rw [y.pure e.2, x.pure e.1]
theorem XGo.same (h : Kp (fun _ => False) H H') : XGo m σ H H' st st := ⟨h.mono fun _ z => z.elim, fun _ z => z, fun _ d e => ⟨d, e⟩, fun _ => rfl⟩
theorem XGo.sgo (x : XGo m σ H H' st st') : SGo σ H st σ H' st' :=
  ⟨x.kp.mono fun _ z => z.2, fun a h => .inl (x.sub a h), fun i d e => let ⟨d', e'⟩ := x.par i d e; ⟨d', e', rfl⟩⟩
theorem SGo.refl : SGo σ H st σ H st := ⟨Kp.refl _ _, fun _ h => .inl h, fun _ d e => ⟨d, e, rfl⟩⟩
theorem SGo.trans (x : SGo σ H st σ1 H1 st1) (y : SGo σ1 H1 st1 σ2 H2 st2) : SGo σ H st σ2 H2 st2 where
  kp := x.kp.trans y.kp x.sub
  sub := fun a h => by
    rcases y.sub a h with h1 | h1
    · exact x.sub a h1
    · cases e : H a with
      | none => exact .inr rfl
      | some o =>
        exact (x.kp.dom a (by rw [e]; intro z; cases z) h1).elim
  par := fun i d e => by
    obtain ⟨d', e', q⟩ := x.par i d e
    obtain ⟨d'', e'', q'⟩ := y.par i d' e'
    exact ⟨d'', e'', q'.trans q⟩
end
theorem getO_im {st : Sts} {i : Nat} {d : D} (h : st[i]? = some (.im d)) : getO st i = none := by unfold getO; rw [h]
theorem getO_scr {st : Sts} {i : Nat} {ns : List Int} (h : st[i]? = some (.scr ns)) : getO st i = none := by unfold getO; rw [h]
theorem getO_or {st : Sts} {i : Nat} {d : D} (h : getO st i = some d) : st[i]? = some (.own d) ∨ st[i]? = some (.par d) := by
  unfold getO at h
  split at h
  · rename_i e; cases h; exact .inl e
  · rename_i e; cases h; exact .inr e
  · cases h
theorem getO_lt {st : Sts} {i : Nat} {d : D} (h : getO st i = some d) : i < st.length := by
  rcases getO_or h with e | e <;> exact (List.getElem?_eq_some_iff.mp e).1
theorem setO_length {st : Sts} {i : Nat} {d : D} : (setO st i d).length = st.length := by
  unfold setO; split <;> simp
theorem setO_ne {st : Sts} {i j : Nat} {d : D} (h : j ≠ i) : (setO st i d)[j]? = st[j]? := by
  unfold setO; split <;> first | rw [List.getElem?_set_ne (Ne.symm h)] | rfl
theorem getO_set {st : Sts} {i : Nat} {d e : D} (h : getO st i = some e) : getO (setO st i d) i = some d := by
  have hl := getO_lt h
  rcases getO_or h with q | q
  · unfold setO; rw [q]; unfold getO; simp [hl]
  · unfold setO; rw [q]; unfold getO; simp [hl]
theorem getO_congr {st st' : Sts} {i : Nat} (h : st[i]? = st'[i]?) : getO st i = getO st' i := by unfold getO; rw [h]
theorem getO_setNe {st : Sts} {i j : Nat} {d : D} (h : j ≠ i) : getO (setO st i d) j = getO st j := getO_congr (setO_ne h)
theorem own_setO {σ : St} {st : Sts} {i : Nat} {d e : D} {a : Addr} (h : getO st i = some e) : Own σ (setO st i d) a ↔ Own σ st a := by
  constructor
  · rintro ⟨j, x, h1, h2⟩
    by_cases ej : j = i
    · subst ej; exact ⟨j, e, h, h2⟩
    · exact ⟨j, x, by rw [Owd, getO_setNe ej] at h1; exact h1, h2⟩
  · rintro ⟨j, x, h1, h2⟩
    by_cases ej : j = i
    · subst ej; exact ⟨j, d, getO_set h, h2⟩
    · exact ⟨j, x, by rw [Owd, getO_setNe ej]; exact h1, h2⟩

section
variable {K : PySem.W.Frag} {T F F' : Addr → Prop} {H H' H1 H2 : Hp} {σ σ' σ1 σ2 : St} {st st' st1 st2 : Sts} {m m' m1 m2 r : Bool} {d : D} {v : V} {a p : Addr} {o : HO} {i : Nat} {B : Addr → Prop}
theorem RepS.own_there (R : RepS K T F H σ st) (h : Own σ st a) : H a ≠ none := by
  obtain ⟨i, d, h1, h2⟩ := h
  obtain ⟨b, e, _, q⟩ := R.ow i d h1
  rw [h2] at e; cases e
  exact q.there
theorem RepS.bd_there (R : RepS K T F H σ st) (h : Bd F σ st a) : H a ≠ none := h.elim (R.dom a) R.own_there
theorem RepS.own_mut (R : RepS K T F H σ st) (h : Own σ st a) : Mut (H a) := by
  obtain ⟨i, d, h1, h2⟩ := h
  obtain ⟨b, e, _, q⟩ := R.ow i d h1
  rw [h2] at e; cases e
  exact q.mut
/-- all that stands is kept -/
theorem RepS.kept (R : RepS K T F H σ st) (k : Kp (fun _ => False) H H') (t : ∀ P, T P → GxR.TabG H P → GxR.TabG H' P) : RepS K T F H' σ st where
  dom := fun a h => k.dom a (R.dom a h)
  len := R.len
  im := fun i d e => let ⟨v, h1, h2⟩ := R.im i d e; ⟨v, h1, h2.step k (fun _ z => z.elim) fun _ z => .inl z⟩
  ow := fun i d e => let ⟨a, h1, h2, h3⟩ := R.ow i d e; ⟨a, h1, h2, h3.step k (fun _ z => z.elim) (fun _ z => .inl z) fun z => z⟩
  scr := fun i ns e => let ⟨a, h1, h2⟩ := R.scr i ns e; ⟨a, h1, h2.step k (fun _ z => z.elim) fun _ z => .inl z⟩
  dis := R.dis
  tab := fun P h => t P h (R.tab P h)
theorem tab_upd (h : H p = none) {P : Addr} (t : GxR.TabG H P) : GxR.TabG (L2.upd H p o) P := by
  obtain ⟨ps, e, q⟩ := t
  exact ⟨ps, by rw [upd_ne (ne_of_none e h)]; exact e, q⟩
theorem RepS.upd (R : RepS K T F H σ st) (h : H p = none) : RepS K T F (L2.upd H p o) σ st := R.kept (Kp.upd h) fun _ _ t => tab_upd h t
theorem RepS.same (R : RepS K T F H σ st) (h : Same H H') : RepS K T F H' σ st := R.kept (Kp.same h) fun _ _ ⟨ps, e, q⟩ => ⟨ps, h _ _ e, q⟩
/-- what is represented stays so -/
theorem Rep.kept (k : Kp (fun _ => False) H H') (h : Rep K B H d v) : Rep K B H' d v := h.step k (fun _ z => z.elim) fun _ z => .inl z
theorem RepA.kept {ds : List D} {vs : List V} (k : Kp (fun _ => False) H H') (h : RepA K B H ds vs) : RepA K B H' ds vs := h.step k (fun _ z => z.elim) fun _ z => .inl z
theorem Rep.upd (h : Rep K B H d v) (n : H p = none) : Rep K B (L2.upd H p o) d v := h.kept (Kp.upd n)
theorem RepA.upd {ds : List D} {vs : List V} (h : RepA K B H ds vs) (n : H p = none) : RepA K B (L2.upd H p o) ds vs := h.kept (Kp.upd n)
theorem RepR.kept (k : Kp (fun _ => False) H H') (h : RepR r K B H d v) : RepR r K B H' d v := h.elim (fun h => .inl (h.kept k)) fun ⟨e, a, h1, h2⟩ => .inr ⟨e, a, h1, h2.step k (fun _ z => z.elim) (fun _ z => .inl z) fun z => z⟩
theorem RepR.mono {r' : Bool} (h : r = true → r' = true) (x : RepR r K B H d v) : RepR r' K B H d v := x.imp id fun ⟨e, z⟩ => ⟨h e, z⟩
theorem RepR.clean (x : RepR false K B H d v) : Rep K B H d v := x.elim id fun ⟨e, _⟩ => by cases e
/-- a clean value, behind an expression -/
theorem Rep.go (h : Rep K (Bd F σ st) H d v) (x : XGo m σ H H' st st') : Rep K (Bd F σ st') H' d v := h.step x.kp (fun _ z => .inr z.2) fun a z => .inl (z.imp id (x.sub a))
theorem RepA.go {ds : List D} {vs : List V} (h : RepA K (Bd F σ st) H ds vs) (x : XGo m σ H H' st st') : RepA K (Bd F σ st') H' ds vs := h.step x.kp (fun _ z => .inr z.2) fun a z => .inl (z.imp id (x.sub a))
theorem RepR.go (h : RepR r K (Bd F σ st) H d v) (x : XGo m σ H H' st st') (hm : r = true → m = false) : RepR r K (Bd F σ st') H' d v := by
  rcases h with h | ⟨e, a, h1, h2⟩
  · exact .inl (h.go x)
  · refine .inr ⟨e, a, h1, ?_⟩
    have hm := hm e
    rw [x.pure hm]
    exact h2.step x.kp (fun _ z => .inr z.2) (fun a z => .inl z) fun z => by rw [hm] at z; cases z.1
/-- an owned slot's content is changed -/
theorem RepS.put {e : D} (R : RepS K T F H σ st) (hi : getO st i = some e) (ha : σ[i]? = some (some (.ref a))) (k : Kp (fun b => b = a) H H') (t : ∀ P, T P → GxR.TabG H P → GxR.TabG H' P)
    (new : OwnRep K (Bd F σ st) H' d a) : RepS K T F H' σ (setO st i d) := by
  have oa : Own σ st a := ⟨i, e, hi, ha⟩
  have nF : ¬ F a := by
    obtain ⟨b, h1, h2, _⟩ := R.ow i e hi
    rw [ha] at h1; cases h1; exact h2
  have hM : ∀ b, b = a → Bd F σ st b := fun b q => by rw [q]; exact .inr oa
  have hB : ∀ b, Bd F σ (setO st i d) b → Bd F σ st b ∨ H b = none := fun b z => .inl (z.imp id (own_setO hi).mp)
  refine ⟨fun b h => k.dom b (R.dom b h), R.len.trans setO_length.symm, fun j x hj => ?_, fun j x hj => ?_, fun j ns hj => ?_, fun j l x y b h1 h2 h3 h4 => ?_, fun P h => t P h (R.tab P h)⟩
  · have ne : j ≠ i := fun q => by
      subst q
      have := getO_set (d := d) hi
      rw [getO_im hj] at this; cases this
    rw [setO_ne ne] at hj
    obtain ⟨v, h1, h2⟩ := R.im j x hj
    exact ⟨v, h1, h2.step k hM hB⟩
  · by_cases ne : j = i
    · subst ne
      rw [Owd, getO_set hi] at hj; cases hj
      refine ⟨a, ha, nF, new.step (Kp.refl (fun _ => False) H') (fun _ z => z.elim) (fun b z => .inl (z.imp id (own_setO hi).mp)) fun z => z⟩
    · rw [Owd, getO_setNe ne] at hj
      obtain ⟨b, h1, h2, h3⟩ := R.ow j x hj
      have nb : b ≠ a := fun q => by
        subst q
        exact ne (R.dis j i x e b hj hi h1 ha)
      exact ⟨b, h1, h2, h3.step k hM hB nb⟩
  · have ne : j ≠ i := fun q => by
      subst q
      have := getO_set (d := d) hi
      rw [getO_scr hj] at this; cases this
    rw [setO_ne ne] at hj
    obtain ⟨b, h1, h2⟩ := R.scr j ns hj
    exact ⟨b, h1, h2.step k hM hB⟩
  · have g : ∀ {j : Nat} {x : D}, getO (setO st i d) j = some x → ∃ y, getO st j = some y := fun {j x} h => by
      by_cases ne : j = i
      · subst ne; exact ⟨e, hi⟩
      · rw [getO_setNe ne] at h; exact ⟨x, h⟩
    obtain ⟨x', h1'⟩ := g h1
    obtain ⟨y', h2'⟩ := g h2
    exact R.dis j l x' y' b h1' h2' h3 h4
theorem setO_par {j : Nat} {x : D} (h : st[j]? = some (.par x)) : ∃ y, (setO st i d)[j]? = some (.par y) := by
  by_cases e : j = i
  · subst e
    refine ⟨d, ?_⟩
    unfold setO
    rw [h]
    simp [(List.getElem?_eq_some_iff.mp h).1]
  · exact ⟨x, by rw [setO_ne e]; exact h⟩
theorem XGo.put {e : D} (hi : getO st i = some e) (ha : σ[i]? = some (some (.ref a))) (k : Kp (fun b => b = a) H H') : XGo true σ H H' st (setO st i d) :=
  ⟨k.mono fun b q => ⟨rfl, by rw [q]; exact ⟨i, e, hi, ha⟩⟩, fun b z => (own_setO hi).mp z, fun j x h => setO_par h, fun q => by cases q⟩
theorem Kp.put1 (hm : Mut (H a)) : Kp (fun b => b = a) H (L2.upd H a o) := Kp.put rfl hm
theorem tab_put {P : Addr} (hm : Mut (H a)) (t : GxR.TabG H P) : GxR.TabG (L2.upd H a o) P := by
  obtain ⟨ps, e, q⟩ := t
  have ne : P ≠ a := fun z => by rw [← z, e] at hm; exact hm.elim
  exact ⟨ps, by rw [upd_ne ne]; exact e, q⟩
end

/-! ### the judgement of expressions -/
/-- what is wanted of an exception: its class, the slots, the heap -/
abbrev Wx := Value → Option Addr → St → Hp → Prop
def RG {α β : Type} (X : Cx) (T : Addr → Prop) (W : Wx) (m : Bool) (rel : (Addr → Prop) → Hp → α → β → Prop) (F : Addr → Prop) (σ : St) (H : Hp) (st : Sts) (Q : β → Hp → Prop) : Res α → Prop
  | .ok d st' => ∀ v H', RepS X.K T F H' σ st' → XGo m σ H H' st st' → rel (Bd F σ st') H' d v → Q v H'
  | .exc c st' => ∀ H' C, X.mg c = some (.ref C) → RepS X.K T F H' σ st' → XGo true σ H H' st st' → W (.ref C) none σ H'
  | .bad => False
/-- generic reading of a part of code that hands on something -/
def tG {α β : Type} (X : Cx) (T : Addr → Prop) (W : Wx) (m : Bool) (rel : (Addr → Prop) → Hp → α → β → Prop) (f : Sts → Res α) : St → Hp → (β → Hp → Prop) → Prop :=
  fun σ H Q => ∃ F st, RepS X.K T F H σ st ∧ RG X T W m rel F σ H st Q (f st)
abbrev RV (X : Cx) (T : Addr → Prop) (W : Wx) (m r : Bool) (F : Addr → Prop) (σ : St) (H : Hp) (st : Sts) (Q : VK) : Res D → Prop := RG X T W m (fun B H d v => RepR r X.K B H d v) F σ H st Q
abbrev tV (X : Cx) (T : Addr → Prop) (W : Wx) (m r : Bool) (f : Ev) : TE := tG X T W m (fun B H d v => RepR r X.K B H d v) f
structure VE (X : Cx) (T : Addr → Prop) (W : Wx) (m r : Bool) (e : Expr) (f : Ev) : Prop where
  pe : PE X e (tV X T W m r f)
theorem pe_weak {X : Cx} {e : Expr} {t t' : TE} (h : PE X e t) (w : ∀ σ H Q, t' σ H Q → t σ H Q) : PE X e t' := ⟨fun pins s σ H Q I q => h.run pins s σ H Q I (w σ H Q q)⟩
section
variable {X : Cx} {T F : Addr → Prop} {W : Wx} {m m' m1 m2 r r' r1 r2 : Bool} {σ : St} {H H' H1 H2 : Hp} {st st' st1 st2 : Sts} {Q Q' : VK} {e : Expr} {f f' : Ev} {α β γ δ : Type} {rel : (Addr → Prop) → Hp → α → β → Prop} {rel' : (Addr → Prop) → Hp → γ → δ → Prop} {Qa : β → Hp → Prop} {Qc : δ → Hp → Prop}
theorem orL {a b : Bool} : a = true → (a || b) = true := fun h => by rw [h]; rfl
theorem orR {a b : Bool} : b = true → (a || b) = true := fun h => by rw [h, Bool.or_true]
theorem XGo.tr (x : XGo m1 σ H H1 st st1) (y : XGo m2 σ H1 H2 st1 st2) (h1 : m1 = true → m = true) (h2 : m2 = true → m = true) : XGo m σ H H2 st st2 :=
  (x.trans y).mono fun z => by
    rw [Bool.or_eq_true] at z
    exact z.elim h1 h2
theorem XGo.then (x : XGo m σ H H1 st st1) (k : Kp (fun _ => False) H1 H2) : XGo m σ H H2 st st1 := (x.trans (XGo.same (m := false) k)).mono fun z => by
  rw [Bool.or_false] at z; exact z
/-- from where one stands now (H1, st1), what was wanted from where one began (H, st) -/
theorem RG.back' (g : XGo m1 σ H H1 st st1) {x : Res α} (h : RG X T W m rel F σ H st Qa x) (h1 : m1 = true → m = true := by exact orL) (h2 : m2 = true → m = true := by exact orR) : RG X T W m2 rel F σ H1 st1 Qa x := by
  cases x with
  | ok d st' => exact fun v H' R y q => h v H' R (g.tr y h1 h2) q
  | exc c st' => exact fun H' C hc R y => h H' C hc R (g.tr y (fun _ => rfl) fun _ => rfl)
  | bad => exact h
theorem RG.mono {x : Res α} {rel2 : (Addr → Prop) → Hp → α → β → Prop} {Qa' : β → Hp → Prop} (h : RG X T W m rel F σ H st Qa x) (hm : m' = true → m = true) (hr : ∀ B H a b, rel2 B H a b → rel B H a b) (hQ : ∀ v H', Qa v H' → Qa' v H') : RG X T W m' rel2 F σ H st Qa' x := by
  cases x with
  | ok d st' => exact fun v H' R y q => hQ _ _ (h v H' R (y.mono hm) (hr _ _ _ _ q))
  | exc c st' => exact h
  | bad => exact h
theorem VE.weak (h : VE X T W m r e f) (hm : m = true → m' = true) (hr : r = true → r' = true) : VE X T W m' r' e f :=
  ⟨pe_weak h.pe fun σ H Q ⟨F, st, R, q⟩ => ⟨F, st, R, q.mono hm (fun _ _ _ _ z => z.mono hr) fun _ _ z => z⟩⟩
theorem VE.congr (h : VE X T W m r e f) (hf : ∀ st, f' st = f st) : VE X T W m r e f' :=
  ⟨pe_weak h.pe fun σ H Q ⟨F, st, R, q⟩ => ⟨F, st, R, by rw [← hf]; exact q⟩⟩
/-- the first part of a row -/
theorem tG.first {ff : Sts → Res α} {g : α → Sts → Res γ} {m0 : Bool} {Q' : β → Hp → Prop} (R : RepS X.K T F H σ st) (h : RG X T W m rel' F σ H st Qc ((ff st).bind g))
    (k : ∀ d st' v H', ff st = .ok d st' → RepS X.K T F H' σ st' → XGo m0 σ H H' st st' → rel (Bd F σ st') H' d v → RG X T W m rel' F σ H st Qc (g d st') → Q' v H') : tG X T W m0 rel ff σ H Q' := by
  refine ⟨F, st, R, ?_⟩
  cases e : ff st with
  | ok d st' => rw [e] at h; exact fun v H' R' y q => k d st' v H' e R' y q h
  | exc c st' => rw [e] at h; exact h
  | bad => rw [e] at h; exact h
/-- the whole is the part -/
theorem tG.whole {ff : Sts → Res α} {m0 : Bool} (R : RepS X.K T F H σ st) (h : RG X T W m rel F σ H st Qa (ff st)) (hm : m0 = true → m = true) : tG X T W m0 rel ff σ H Qa := ⟨F, st, R, h.mono hm (fun _ _ _ _ z => z) fun _ _ z => z⟩
end
end Vs

set_option Elab.async false
set_option linter.all false
set_option maxRecDepth 100000
set_option maxHeartbeats 4000000
namespace Vs
open PySem PySem.Spec PyProof.Rows L2

def ofO {α : Type} (o : Option α) (st : Sts) : Res α := match o with
  | some d => .ok d st
  | none => .bad
/-- one after the other -/
def bin (g : D → D → Option D) (fa fb : Ev) : Ev := fun st => (fa st).bind fun x st1 => (fb st1).bind fun y st2 => ofO (g x y) st2
def una (g : D → Option D) (fa : Ev) : Ev := fun st => (fa st).bind fun x st1 => ofO (g x) st1
/-- what an operation may count on, and what it is to reach -/
abbrev Fin' (X : Cx) (T F : Addr → Prop) (σ : St) (H : Hp) (st : Sts) (d : D) (Q : VK) : Prop :=
  ∀ v H', RepS X.K T F H' σ st → Kp (fun _ => False) H H' → Rep X.K (Bd F σ st) H' d v → Q v H'
def OpV (X : Cx) (T : Addr → Prop) (r1 r2 : Bool) (rr : R2) (g : D → D → Option D) : Prop :=
  ∀ (F : Addr → Prop) (σ : St) (H : Hp) (st : Sts) (x y : V) (dx dy d : D) (Q : VK), RepS X.K T F H σ st → RepR r1 X.K (Bd F σ st) H dx x → RepR r2 X.K (Bd F σ st) H dy y → g dx dy = some d →
    Fin' X T F σ H st d Q → rr x y H Q
def UnV (X : Cx) (T : Addr → Prop) (r1 : Bool) (rr : V → Hp → VK → Prop) (g : D → Option D) : Prop :=
  ∀ (F : Addr → Prop) (σ : St) (H : Hp) (st : Sts) (x : V) (dx d : D) (Q : VK), RepS X.K T F H σ st → RepR r1 X.K (Bd F σ st) H dx x → g dx = some d →
    Fin' X T F σ H st d Q → rr x H Q
section
variable {X : Cx} {T F : Addr → Prop} {W : Wx} {m m1 m2 r r1 r2 : Bool} {σ : St} {H H1 : Hp} {st st1 : Sts} {Q Q' : VK} {a b : Expr} {fa fb : Ev} {g : D → D → Option D} {rr : R2}
theorem Fin'.flat {d : D} {v : V} (q : Fin' X T F σ H st d Q) (R : RepS X.K T F H σ st) (h : Rep X.K (Bd F σ st) H d v) : Q v H := q v H R (Kp.refl _ _) h
theorem Fin'.new {d : D} {p : Addr} {o : HO} (q : Fin' X T F σ H st d Q) (R : RepS X.K T F H σ st) (hp : H p = none) (h : Rep X.K (Bd F σ st) (upd H p o) d (.ref p)) : Q (.ref p) (upd H p o) := q _ _ (R.upd hp) (Kp.upd hp) h
theorem RepS.bd_new {p : Addr} (R : RepS X.K T F H σ st) (hp : H p = none) : ¬ Bd F σ st p := fun z => R.bd_there z hp
theorem RG.fin {d : Option D} (g : XGo m1 σ H H1 st st1) (h : RV X T W m r F σ H st Q (ofO d st1)) (h1 : m1 = true → m = true) : ∃ e, d = some e ∧ Fin' X T F σ H1 st1 e Q := by
  cases d with
  | none => exact h.elim
  | some e => exact ⟨e, rfl, fun v H' R k q => h v H' R ((g.then k).mono h1) (.inl q)⟩
theorem tOp_of (ho : OpV X T r1 r2 rr g) (hr : r1 = true → m2 = false) (R : RepS X.K T F H σ st) (h : RV X T W (m1 || m2) r F σ H st Q (bin g fa fb st)) : tOp rr (tV X T W m1 r1 fa) (tV X T W m2 r2 fb) σ H Q := by
  refine tG.first R h fun d1 st1 v1 H1 e1 R1 y1 q1 h1 => ?_
  refine tG.first R1 (h1.back' (m2 := m2) y1) fun d2 st2 v2 H2 e2 R2 y2 q2 h2 => ?_
  obtain ⟨d, eg, q⟩ := RG.fin y2 h2 id
  exact ho F σ H2 st2 v1 v2 d1 d2 d Q R2 (q1.go y2 hr) q2 eg q
theorem VE.binop {op : Operator} {pos : Pos} (hop : OpR X (binaryOp op) rr) (ho : OpV X T r1 r2 rr g) (ha : VE X T W m1 r1 a fa) (hb : VE X T W m2 r2 b fb) (hr : r1 = true → m2 = false := by first | (intro h; cases h; done) | (intro _; rfl)) : VE X T W (m1 || m2) false (.BinOp a op b pos) (bin g fa fb) :=
  ⟨pe_weak (pe_op hop ha.pe hb.pe) fun σ H Q ⟨F, st, R, q⟩ => tOp_of ho hr R q⟩
theorem VE.cmp {op : CmpOp} {pos : Pos} (hop : OpR X (compareOp op) rr) (ho : OpV X T r1 r2 rr g) (ha : VE X T W m1 r1 a fa) (hb : VE X T W m2 r2 b fb) (hm : behindInMarks op b = false := by first | exact nobehind _ (by decide) (by decide) | rfl) (hr : r1 = true → m2 = false := by first | (intro h; cases h; done) | (intro _; rfl)) : VE X T W (m1 || m2) false (.Compare a [op] [b] pos) (bin g fa fb) :=
  ⟨pe_weak (pe_cmpR hop ha.pe hb.pe hm) fun σ H Q ⟨F, st, R, q⟩ => tOp_of ho hr R q⟩
theorem VE.ix {pos : Pos} (hop : IxR X rr) (ho : OpV X T r1 r2 rr g) (ha : VE X T W m1 r1 a fa) (hb : VE X T W m2 r2 b fb) (hs : PlainIx b := by exact fun _ _ => rfl) (hr : r1 = true → m2 = false := by first | (intro h; cases h; done) | (intro _; rfl)) : VE X T W (m1 || m2) false (.Subscript a b pos) (bin g fa fb) :=
  ⟨pe_weak (pe_ix hop ha.pe hb.pe hs) fun σ H Q ⟨F, st, R, q⟩ => tOp_of ho hr R q⟩
theorem VE.un {op : UnaryOp} {pos : Pos} {ru : V → Hp → VK → Prop} {gu : D → Option D} (hop : UnR X (unaryOp op) ru) (ho : UnV X T r1 ru gu) (ha : VE X T W m1 r1 a fa) : VE X T W m1 false (.UnaryOp op a pos) (una gu fa) :=
  ⟨pe_weak (pe_un hop ha.pe) fun σ H Q ⟨F, st, R, q⟩ => by
    refine tG.first R q fun d1 st1 v1 H1 e1 R1 y1 q1 h1 => ?_
    obtain ⟨d, eg, q⟩ := RG.fin y1 h1 id
    exact ho F σ H1 st1 v1 d1 d Q R1 q1 eg q⟩
end

/-! ### names, constants -/
def vIm (i : Nat) : Ev := fun st => match st[i]? with
  | some (.im d) => .ok d st
  | _ => .bad
/-- an owned (or shared) one, looked at -/
def vOwn (i : Nat) : Ev := fun st => match getO st i with
  | some d => .ok d st
  | none => .bad
/-- an owned one, given away: from here on it is shared -/
def vGive (i : Nat) : Ev := fun st => match st[i]? with
  | some (.own d) => .ok d (st.set i (.im d))
  | _ => .bad
def vC (d : D) : Ev := fun st => .ok d st
section
variable {X : Cx} {T F : Addr → Prop} {W : Wx} {m r : Bool} {i : Nat} {x : Str} {pos : Pos}
theorem VE.im (hN : X.N[i]? = some x) (hv : Vis X.env.scope x) (hd : (x == ("__debug__" : Str)) = false := by decide) (hcd : (x == ("__classdict__" : Str)) = false := by decide) : VE X T W false false (.Name x pos) (vIm i) :=
  ⟨pe_weak (pe_var hN hv hd hcd) fun σ H Q ⟨F, st, R, q⟩ => by
    unfold vIm at q
    split at q
    · rename_i d e
      obtain ⟨v, h1, h2⟩ := R.im i d e
      exact ⟨v, h1, q v H R XGo.refl (.inl h2)⟩
    · exact q.elim⟩
theorem VE.own (hN : X.N[i]? = some x) (hv : Vis X.env.scope x) (hd : (x == ("__debug__" : Str)) = false := by decide) (hcd : (x == ("__classdict__" : Str)) = false := by decide) : VE X T W false true (.Name x pos) (vOwn i) :=
  ⟨pe_weak (pe_var hN hv hd hcd) fun σ H Q ⟨F, st, R, q⟩ => by
    unfold vOwn at q
    split at q
    · rename_i d e
      obtain ⟨a, h1, h2, h3⟩ := R.ow i d e
      exact ⟨.ref a, h1, q _ H R XGo.refl (.inr ⟨rfl, a, rfl, h3⟩)⟩
    · exact q.elim⟩
theorem own_give {σ : St} {st : Sts} {d : D} (h : st[i]? = some (.own d)) {a : Addr} : Own σ (st.set i (.im d)) a → Own σ st a := by
  have hl := (List.getElem?_eq_some_iff.mp h).1
  rintro ⟨j, y, h1, h2⟩
  by_cases e : j = i
  · subst e
    rw [Owd, getO_im (d := d) (by simp [hl])] at h1; cases h1
  · refine ⟨j, y, ?_, h2⟩
    rw [Owd] at h1 ⊢
    rw [← h1]
    exact getO_congr (by rw [List.getElem?_set_ne (Ne.symm e)])
theorem RepS.give {K : PySem.W.Frag} {σ : St} {H : Hp} {st : Sts} {d : D} (R : RepS K T F H σ st) (h : st[i]? = some (.own d)) :
    RepS K T F H σ (st.set i (.im d)) ∧ ∃ a, σ[i]? = some (some (.ref a)) ∧ Rep K (Bd F σ (st.set i (.im d))) H d (.ref a) := by
  have hl := (List.getElem?_eq_some_iff.mp h).1
  have hO : getO st i = some d := by unfold getO; rw [h]
  obtain ⟨a, h1, h2, h3⟩ := R.ow i d hO
  have hB : ∀ b, Bd F σ (st.set i (.im d)) b → Bd F σ st b ∨ H b = none := fun b z => .inl (z.imp id (own_give h))
  have na : ¬ Bd F σ (st.set i (.im d)) a := by
    rintro (z | ⟨j, y, g1, g2⟩)
    · exact h2 z
    · have e : j ≠ i := fun e => by
        subst e
        rw [Owd, getO_im (d := d) (by simp [hl])] at g1; cases g1
      have g1' : getO st j = some y := by rw [← g1]; exact getO_congr (by rw [List.getElem?_set_ne (Ne.symm e)])
      exact e (R.dis j i y d a g1' hO g2 h1)
  have rp : Rep K (Bd F σ (st.set i (.im d))) H d (.ref a) := (h3.step (Kp.refl (fun _ => False) H) (fun _ z => z.elim) hB fun z => z).rep na
  refine ⟨⟨R.dom, by rw [List.length_set]; exact R.len, fun j x hj => ?_, fun j x hj => ?_, fun j ns hj => ?_, fun j l x y b g1 g2 g3 g4 => ?_, R.tab⟩, a, h1, rp⟩
  · by_cases e : j = i
    · subst e
      simp [hl] at hj; subst hj
      exact ⟨_, h1, rp⟩
    · rw [List.getElem?_set_ne (Ne.symm e)] at hj
      obtain ⟨v, k1, k2⟩ := R.im j x hj
      exact ⟨v, k1, k2.step (Kp.refl (fun _ => False) H) (fun _ z => z.elim) hB⟩
  · have e : j ≠ i := fun e => by
      subst e
      rw [Owd, getO_im (d := d) (by simp [hl])] at hj; cases hj
    have hj' : getO st j = some x := by rw [← hj]; exact getO_congr (by rw [List.getElem?_set_ne (Ne.symm e)])
    obtain ⟨b, k1, k2, k3⟩ := R.ow j x hj'
    exact ⟨b, k1, k2, k3.step (Kp.refl (fun _ => False) H) (fun _ z => z.elim) hB fun z => z⟩
  · have e : j ≠ i := fun e => by
      subst e
      simp [hl] at hj
    rw [List.getElem?_set_ne (Ne.symm e)] at hj
    obtain ⟨b, k1, k2⟩ := R.scr j ns hj
    exact ⟨b, k1, k2.step (Kp.refl (fun _ => False) H) (fun _ z => z.elim) hB⟩
  · have g : ∀ {j : Nat} {x : D}, getO (st.set i (.im d)) j = some x → getO st j = some x := fun {j x} h0 => by
      have e : j ≠ i := fun e => by
        subst e
        rw [getO_im (d := d) (by simp [hl])] at h0; cases h0
      rw [← h0]; exact getO_congr (by rw [List.getElem?_set_ne (Ne.symm e)])
    exact R.dis j l x y b (g g1) (g g2) g3 g4
theorem VE.give (hN : X.N[i]? = some x) (hv : Vis X.env.scope x) (hd : (x == ("__debug__" : Str)) = false := by decide) (hcd : (x == ("__classdict__" : Str)) = false := by decide) : VE X T W true false (.Name x pos) (vGive i) :=
  ⟨pe_weak (pe_var hN hv hd hcd) fun σ H Q ⟨F, st, R, q⟩ => by
    unfold vGive at q
    split at q
    · rename_i d e
      obtain ⟨R', a, h1, h2⟩ := R.give e
      refine ⟨.ref a, h1, q _ H R' ⟨Kp.refl _ _, fun b => own_give e, fun j y h => ⟨y, ?_⟩, fun z => by cases z⟩ (.inl h2)⟩
      rw [List.getElem?_set_ne, h]
      rintro rfl
      rw [e] at h; cases h
    · exact q.elim⟩
theorem VE.cst {d : D} {v : V} {e : Expr} (hp : PE X e (tC v)) (h : ∀ K B H, Rep K B H d v) : VE X T W false false e (vC d) :=
  ⟨pe_weak hp fun σ H Q ⟨F, st, R, q⟩ => q v H R XGo.refl (.inl (h _ _ _))⟩
theorem VE.int {i : Int} {j : Nat} : VE X T W false false (.Constant (.int i) j pos) (vC (.int i)) := .cst pe_int fun _ _ _ => .int i
theorem VE.str {x : Str} {j : Nat} : VE X T W false false (.Constant (.str x) j pos) (vC (.str x)) := .cst pe_str fun _ _ _ => .str x
theorem VE.non {j : Nat} : VE X T W false false (.Constant .none j pos) (vC .none) := .cst pe_non fun _ _ _ => .non
end
end Vs

set_option Elab.async false
set_option linter.all false
set_option maxRecDepth 100000
set_option maxHeartbeats 4000000
namespace Vs
open PySem PySem.Spec PyProof.Rows L2

/-! ### tests -/
abbrev tT (X : Cx) (T : Addr → Prop) (W : Wx) (m : Bool) (f : Et) : TT := tG X T W m (fun _ _ (a b : Bool) => a = b) f
structure VT (X : Cx) (T : Addr → Prop) (W : Wx) (m : Bool) (e : Expr) (f : Et) : Prop where
  pt : PT X e (tT X T W m f)
/-- a test whatever its whole is -/
structure VW (X : Cx) (T : Addr → Prop) (W : Wx) (m : Bool) (e : Expr) (f : Et) : Prop where
  pw : PW X e (tT X T W m f)
theorem pt_weak {X : Cx} {e : Expr} {t t' : TT} (h : PT X e t) (w : ∀ σ H Q, t' σ H Q → t σ H Q) : PT X e t' := ⟨fun pins s σ H Q I q => h.run pins s σ H Q I (w σ H Q q)⟩
theorem pw_weak {X : Cx} {e : Expr} {t t' : TT} (h : PW X e t) (w : ∀ σ H Q, t' σ H Q → t σ H Q) : PW X e t' := ⟨fun wh pins s σ H Q I q => h.run wh pins s σ H Q I (w σ H Q q)⟩
theorem VW.vt {X : Cx} {T : Addr → Prop} {W : Wx} {m : Bool} {e : Expr} {f : Et} (h : VW X T W m e f) : VT X T W m e f := ⟨h.pw.pt⟩
def asB (d : D) : Option Bool := match d with
  | .bool b => some b
  | _ => none
/-- a value that is a bool, as a test -/
def tst (f : Ev) : Et := fun st => (f st).bind fun d st1 => ofO (asB d) st1
def nt (f : Et) : Et := fun st => (f st).bind fun b st1 => .ok (!b) st1
def an (f g : Et) : Et := fun st => (f st).bind fun b st1 => if b = true then g st1 else .ok false st1
def orr (f g : Et) : Et := fun st => (f st).bind fun b st1 => if b = true then .ok true st1 else g st1
/-- a test as a value -/
def val (f : Et) : Ev := fun st => (f st).bind fun b st1 => .ok (.bool b) st1
def iff (c : Et) (f g : Ev) : Ev := fun st => (c st).bind fun b st1 => if b = true then f st1 else g st1
theorem RepR.isB {K : PySem.W.Frag} {B : Addr → Prop} {H : Hp} {b : Bool} {v : V} {r : Bool} (h : RepR r K B H (.bool b) v) : v = .bl b := by
  rcases h with h | ⟨_, a, _, h⟩
  · cases h; rfl
  · cases h
theorem asB_some {d : D} {b : Bool} (h : asB d = some b) : d = .bool b := by
  unfold asB at h; split at h <;> first | (cases h; rfl) | cases h
section
variable {X : Cx} {T F : Addr → Prop} {W : Wx} {m m' m1 m2 m3 r r1 r2 : Bool} {σ : St} {H H1 : Hp} {st st1 : Sts} {a b c e : Expr} {fa fb fc : Ev} {f f' g : Et} {pos : Pos} {rest : List Expr}
theorem VT.weak (h : VT X T W m e f) (hm : m = true → m' = true) : VT X T W m' e f := ⟨pt_weak h.pt fun σ H Q ⟨F, st, R, q⟩ => ⟨F, st, R, q.mono hm (fun _ _ _ _ z => z) fun _ _ z => z⟩⟩
theorem VT.congr (h : VT X T W m e f) (hf : ∀ st, f' st = f st) : VT X T W m e f' := ⟨pt_weak h.pt fun σ H Q ⟨F, st, R, q⟩ => ⟨F, st, R, by rw [← hf]; exact q⟩⟩
theorem tst_of {Q : Bool → Hp → Prop} {t : TE} (R : RepS X.K T F H σ st) (h : RG X T W m (fun _ _ (a b : Bool) => a = b) F σ H st Q (tst fa st)) (k : ∀ Q', tV X T W m r fa σ H Q' → t σ H Q') : tTest t σ H Q := by
  refine k _ (tG.first (m0 := m) (rel := fun B H d v => RepR r X.K B H d v) R h fun d1 st1 v1 H1 e1 R1 y1 q1 h1 => ?_)
  cases e : asB d1 with
  | none => rw [e] at h1; exact h1.elim
  | some b =>
    rw [e] at h1
    rw [asB_some e] at q1
    exact ⟨b, q1.isB, h1 b H1 R1 y1 rfl⟩
/-- a call, a name, an item .. that hands on a bool -/
theorem VT.val (h : VE X T W m r e fa) (he : ∀ whole, isTrue e X.env whole = (do let v ← whole; standAt e.pos; holding [v] (truthy v)) := by intro _; rfl) : VT X T W m e (tst fa) :=
  ⟨pt_weak (pt_val h.pe he) fun σ H Q ⟨F, st, R, q⟩ => tst_of R q fun _ z => z⟩
theorem VT.cmp {op : CmpOp} {rr : R2} {go : D → D → Option D} (hop : OpR X (compareOp op) rr) (ho : OpV X T r1 r2 rr go) (ha : VE X T W m1 r1 a fa) (hb : VE X T W m2 r2 b fb) (hm : behindInMarks op b = false := by first | exact nobehind _ (by decide) (by decide) | rfl) (hr : r1 = true → m2 = false := by first | (intro h; cases h; done) | (intro _; rfl)) :
    VT X T W (m1 || m2) (.Compare a [op] [b] pos) (tst (bin go fa fb)) :=
  ⟨pt_weak (pt_cmpR hop ha.pe hb.pe hm) fun σ H Q ⟨F, st, R, q⟩ => tst_of (r := false) R q fun Q' ⟨F', st', R', q'⟩ => tOp_of ho hr R' q'⟩
theorem VT.nt (h : VT X T W m e f) : VT X T W m (.UnaryOp .Not e pos) (nt f) :=
  ⟨pt_weak (pt_not h.pt) fun σ H Q ⟨F, st, R, q⟩ => tG.first R q fun b st1 v H1 e1 R1 y1 q1 h1 => h1 (!v) H1 R1 y1 (by rw [q1])⟩
theorem VW.an1 (h : VT X T W m a f) : VW X T W m (.BoolOp .And [a] pos) f := ⟨pw_and1 h.pt⟩
theorem VW.or1 (h : VT X T W m a f) : VW X T W m (.BoolOp .Or [a] pos) f := ⟨pw_or1 h.pt⟩
theorem VW.an (h : VT X T W m1 a f) (h2 : VW X T W m2 (.BoolOp .And (b :: rest) pos) g) : VW X T W (m1 || m2) (.BoolOp .And (a :: b :: rest) pos) (Vs.an f g) :=
  ⟨pw_weak (pw_and h.pt h2.pw) fun σ H Q ⟨F, st, R, q⟩ => tG.first (m0 := m1) R q fun b st1 v H1 e1 R1 y1 q1 h1 => by
    subst q1
    cases b with
    | true => exact tG.whole R1 (h1.back' y1) fun z => z
    | false => exact h1 false H1 R1 (y1.mono orL) rfl⟩
theorem VW.orr (h : VT X T W m1 a f) (h2 : VW X T W m2 (.BoolOp .Or (b :: rest) pos) g) : VW X T W (m1 || m2) (.BoolOp .Or (a :: b :: rest) pos) (Vs.orr f g) :=
  ⟨pw_weak (pw_or h.pt h2.pw) fun σ H Q ⟨F, st, R, q⟩ => tG.first (m0 := m1) R q fun b st1 v H1 e1 R1 y1 q1 h1 => by
    subst q1
    cases b with
    | false => exact tG.whole R1 (h1.back' y1) fun z => z
    | true => exact h1 true H1 R1 (y1.mono orL) rfl⟩
/-! the same as values; both parts are bools -/
/-- e's value is the bool of f -/
structure VB (X : Cx) (T : Addr → Prop) (W : Wx) (m : Bool) (e : Expr) (f : Et) : Prop where
  pe : PE X e (fun σ H Q => tT X T W m f σ H fun b H' => Q (.bl b) H')
theorem VB.val (h : VE X T W m r e fa) : VB X T W m e (tst fa) :=
  ⟨pe_weak h.pe fun σ H Q ⟨F, st, R, q⟩ => tG.first R q fun d1 st1 v1 H1 e1 R1 y1 q1 h1 => by
    cases e : asB d1 with
    | none => rw [e] at h1; exact h1.elim
    | some b =>
      rw [e] at h1
      rw [asB_some e] at q1
      rw [q1.isB]
      exact h1 b H1 R1 y1 rfl⟩
theorem VB.ve (h : VB X T W m e f) : VE X T W m false e (Vs.val f) :=
  ⟨pe_weak h.pe fun σ H Q ⟨F, st, R, q⟩ => tG.first R q fun b st1 v H1 e1 R1 y1 q1 h1 => h1 (.bl v) H1 R1 y1 (.inl (by rw [q1]; exact .bl _))⟩
theorem VB.one {op} (h : VB X T W m a f) : VB X T W m (.BoolOp op [a] pos) f := ⟨pe_one h.pe⟩
theorem VB.an (h : VB X T W m1 a f) (h2 : VB X T W m2 (.BoolOp .And (b :: rest) pos) g) : VB X T W (m1 || m2) (.BoolOp .And (a :: b :: rest) pos) (Vs.an f g) :=
  ⟨pe_weak (pe_and h.pe h2.pe) fun σ H Q ⟨F, st, R, q⟩ => tG.first (m0 := m1) R q fun b st1 v H1 e1 R1 y1 q1 h1 => by
    subst q1
    refine ⟨b, rfl, ?_⟩
    cases b with
    | true => exact tG.whole R1 (h1.back' y1) fun z => z
    | false => exact h1 false H1 R1 (y1.mono orL) rfl⟩
theorem VB.orr (h : VB X T W m1 a f) (h2 : VB X T W m2 (.BoolOp .Or (b :: rest) pos) g) : VB X T W (m1 || m2) (.BoolOp .Or (a :: b :: rest) pos) (Vs.orr f g) :=
  ⟨pe_weak (pe_or h.pe h2.pe) fun σ H Q ⟨F, st, R, q⟩ => tG.first (m0 := m1) R q fun b st1 v H1 e1 R1 y1 q1 h1 => by
    subst q1
    refine ⟨b, rfl, ?_⟩
    cases b with
    | false => exact tG.whole R1 (h1.back' y1) fun z => z
    | true => exact h1 true H1 R1 (y1.mono orL) rfl⟩
theorem VB.nt (h : VB X T W m e f) : VB X T W m (.UnaryOp .Not e pos) (Vs.nt f) :=
  ⟨pe_weak (pe_not h.pe) fun σ H Q ⟨F, st, R, q⟩ => tG.first R q fun b st1 v H1 e1 R1 y1 q1 h1 => ⟨v, rfl, h1 (!v) H1 R1 y1 (by rw [q1])⟩⟩
/-- a if c else b -/
theorem VE.iff (hc : VT X T W m1 c f) (ha : VE X T W m2 r a fa) (hb : VE X T W m2 r b fb) : VE X T W (m1 || m2) r (.IfExp c a b pos) (Vs.iff f fa fb) :=
  ⟨pe_weak (pe_ifExp hc.pt ha.pe hb.pe) fun σ H Q ⟨F, st, R, q⟩ => tG.first (m0 := m1) R q fun b st1 v H1 e1 R1 y1 q1 h1 => by
    subst q1
    cases b with
    | true => exact tG.whole R1 (h1.back' y1) fun z => z
    | false => exact tG.whole R1 (h1.back' y1) fun z => z⟩
/-- a op b op' c, all of it shared -/
def chain (g g' : D → D → Option D) (fa fb fc : Ev) : Ev := fun st => (fa st).bind fun x st1 => (fb st1).bind fun y st2 => (ofO ((g x y).bind asB) st2).bind fun k st3 => if k = true then (fc st3).bind fun z st4 => ofO (g' y z) st4 else .ok (.bool false) st3
theorem tChain_of {rr rr' : R2} {g g' : D → D → Option D} {Q : VK} (ho : OpV X T false false rr g) (ho' : OpV X T false false rr' g') (R : RepS X.K T F H σ st)
    (h : RV X T W (m1 || (m2 || m3)) r F σ H st Q (chain g g' fa fb fc st)) : tChain rr rr' (tV X T W m1 false fa) (tV X T W m2 false fb) (tV X T W m3 false fc) σ H Q := by
  refine tG.first (m0 := m1) R h fun d1 st1 v1 H1 e1 R1 y1 q1 h1 => ?_
  have h1 := h1.back' (m2 := m2 || m3) y1
  refine tG.first (m0 := m2) R1 h1 fun d2 st2 v2 H2 e2 R2 y2 q2 h2 => ?_
  have h2 := h2.back' (m2 := m3) y2
  cases eg : g d1 d2 with
  | none => rw [eg] at h2; exact h2.elim
  | some d3 =>
    rw [eg] at h2
    cases eb : asB d3 with
    | none =>
      have e : (ofO ((some d3).bind asB) st2 : Res Bool) = .bad := by show ofO (asB d3) st2 = _; rw [eb]; rfl
      rw [e] at h2
      exact h2.elim
    | some k =>
      have e : (ofO ((some d3).bind asB) st2 : Res Bool) = .ok k st2 := by show ofO (asB d3) st2 = _; rw [eb]; rfl
      rw [e, Res.ok_bind] at h2
      have e3 := asB_some eb
      subst e3
      refine ho F σ H2 st2 v1 v2 d1 d2 _ _ R2 (q1.go y2 fun z => by cases z) q2 eg fun v3 H3 R3 k3 q3 => ⟨k, RepR.isB (.inl q3 : RepR false _ _ _ _ _), ?_⟩
      have y3 : XGo m3 σ H2 H3 st2 st2 := XGo.same k3
      cases k with
      | false => exact h2 _ _ R3 y3 (.inl (.bl false))
      | true =>
        refine tG.first (m0 := m3) R3 ((show RV X T W m3 r F σ H2 st2 Q ((fc st2).bind fun z st4 => ofO (g' d2 z) st4) from h2).back' (m1 := false) (XGo.same k3) (fun z => by cases z) fun z => z) fun d4 st4 v4 H4 e4 R4 y4 q4 h4 => ?_
        obtain ⟨e, eg', q⟩ := RG.fin y4 h4 id
        exact ho' F σ H4 st4 v2 v4 d2 d4 e Q R4 ((q2.go (XGo.same (m := false) k3) fun z => by cases z).go y4 fun z => by cases z) q4 eg' q
theorem VE.chain {op op' : CmpOp} {rr rr' : R2} {g g' : D → D → Option D} (hop : OpR X (compareOp op) rr) (ho : OpV X T false false rr g) (hop' : OpR X (compareOp op') rr') (ho' : OpV X T false false rr' g') (ha : VE X T W m1 false a fa) (hb : VE X T W m2 false b fb) (hc : VE X T W m3 false c fc)
    (hm : lastMarks [op, op'] [b, c] = false := by with_unfolding_all rfl) : VE X T W (m1 || (m2 || m3)) false (.Compare a [op, op'] [b, c] pos) (Vs.chain g g' fa fb fc) :=
  ⟨pe_weak (pe_chain hop hop' ha.pe hb.pe hc.pe hm) fun σ H Q ⟨F, st, R, q⟩ => tChain_of ho ho' R q⟩
theorem VT.chain {op op' : CmpOp} {rr rr' : R2} {g g' : D → D → Option D} (hop : OpR X (compareOp op) rr) (ho : OpV X T false false rr g) (hop' : OpR X (compareOp op') rr') (ho' : OpV X T false false rr' g') (ha : VE X T W m1 false a fa) (hb : VE X T W m2 false b fb) (hc : VE X T W m3 false c fc)
    (hm : lastMarks [op, op'] [b, c] = false := by with_unfolding_all rfl) : VT X T W (m1 || (m2 || m3)) (.Compare a [op, op'] [b, c] pos) (tst (Vs.chain g g' fa fb fc)) :=
  ⟨pt_weak (pt_chain hop hop' ha.pe hb.pe hc.pe hm) fun σ H Q ⟨F, st, R, q⟩ => tst_of (r := false) R q fun Q' ⟨F', st', R', q'⟩ => tChain_of ho ho' R' q'⟩
end
end Vs

set_option Elab.async false
set_option linter.all false
set_option maxRecDepth 100000
set_option maxHeartbeats 4000000
namespace Vs
open PySem PySem.Spec PyProof.Rows L2

/-! ### what data is, for the rules over data of any depth -/
section
variable {K : PySem.W.Frag} {B : Addr → Prop} {H : Hp} {r : Bool}
mutual
theorem Rep.dp : ∀ {d : D} {v : V}, Rep K B H d v → d.canLay0 = true → Dp K H v d
  | _, _, .non, _ => .non
  | _, _, .bl b, _ => .bl b
  | _, _, .int i, _ => .int i
  | _, _, .str x, _ => .str x
  | _, _, .tup s r, h => .tup (SqT.of s) (r.dp (by simpa [PyData.canLay0] using h))
  | _, _, .lst s _ r, h => .lst (.inl s) (r.dp (by simpa [PyData.canLay0] using h))
  | _, _, .dK _ _ _ _, h => by simp [PyData.canLay0] at h
  | _, _, .dT _ _ _ _, h => by simp [PyData.canLay0] at h
theorem RepA.dp : ∀ {ds : List D} {vs : List V}, RepA K B H ds vs → PyData.canLayAll0 ds = true → DpAll K H vs ds
  | _, _, .nil, _ => .nil
  | _, _, .cons a b, h => by
    have h' := h
    simp only [PyData.canLayAll0, Bool.and_eq_true] at h'
    exact .cons (a.dp h'.1) (b.dp h'.2)
end
theorem RepR.dp {d : D} {v : V} (h : RepR r K B H d v) (s : SeqAt.shaped d = true) : Dp K H v d := by
  have s := SeqAt.canLay_of_shaped s
  rcases h with h | ⟨_, a, rfl, h⟩
  · exact h.dp s
  · cases h with
    | lst e q => exact .lst (SqL.of e) (q.dp (by simpa [PyData.canLay0] using s))
    | dK _ _ _ => simp [PyData.canLay0] at s
    | dT _ _ _ => simp [PyData.canLay0] at s
theorem RepR.isI {i : Int} {v : V} (h : RepR r K B H (.int i) v) : v = .int i := by
  rcases h with h | ⟨_, a, _, h⟩ <;> cases h <;> rfl
theorem RepR.isS {x : Str} {v : V} (h : RepR r K B H (.str x) v) : v = .str x := by
  rcases h with h | ⟨_, a, _, h⟩ <;> cases h <;> rfl
theorem RepR.isN {v : V} (h : RepR r K B H .none v) : v = .non := by
  rcases h with h | ⟨_, a, _, h⟩ <;> cases h <;> rfl
theorem RepR.isT {ds : List D} {v : V} (h : RepR r K B H (.tuple ds) v) : ∃ a xs, v = .ref a ∧ H a = some (.tup xs) ∧ RepA K B H ds xs := by
  rcases h with h | ⟨_, a, _, h⟩
  · cases h with | tup s q => exact ⟨_, _, rfl, s, q⟩
  · cases h
theorem RepR.isL {ds : List D} {v : V} (h : RepR r K B H (.list ds) v) : ∃ a xs, v = .ref a ∧ Rd H a (.lst xs) ∧ RepA K B H ds xs := by
  rcases h with h | ⟨_, a, rfl, h⟩
  · cases h with | lst s _ q => exact ⟨_, _, rfl, s, q⟩
  · cases h with | lst s q => exact ⟨_, _, rfl, .inl s, q⟩
theorem RepR.nonIff {d : D} {v : V} (h : RepR r K B H d v) : decide (v = .non) = (match d with | .none => true | _ => false) := by
  rcases h with h | ⟨_, a, rfl, h⟩
  · cases h <;> simp
  · cases h <;> simp
end

section
variable {X : Cx} {T : Addr → Prop} {r1 r2 : Bool}
theorem OpV.or {ra rb : R2} {ga gb g : D → D → Option D} (ha : OpV X T r1 r2 ra ga) (hb : OpV X T r1 r2 rb gb) (hg : ∀ x y d, g x y = some d → ga x y = some d ∨ gb x y = some d) : OpV X T r1 r2 (fun x y H Q => ra x y H Q ∨ rb x y H Q) g := by
  intro F σ H st x y dx dy d Q R q1 q2 e k
  rcases hg dx dy d e with e | e
  · exact .inl (ha F σ H st x y dx dy d Q R q1 q2 e k)
  · exact .inr (hb F σ H st x y dx dy d Q R q1 q2 e k)
/-! ### ints -/
def ii (C : Int → Int → Bool) (f : Int → Int → D) (x y : D) : Option D := match x, y with
  | .int i, .int j => if C i j = true then some (f i j) else none
  | _, _ => none
theorem ii_some {C : Int → Int → Bool} {f : Int → Int → D} {x y d : D} (h : ii C f x y = some d) : ∃ i j, x = .int i ∧ y = .int j ∧ C i j = true ∧ d = f i j := by
  unfold ii at h
  split at h
  · split at h
    · rename_i c; cases h; exact ⟨_, _, rfl, rfl, c, rfl⟩
    · cases h
  · cases h
theorem opv_ii {P : Int → Int → Prop} {C : Int → Int → Bool} {g : Int → Int → V} {f : Int → Int → D} (hC : ∀ i j, C i j = true → P i j) (hf : ∀ K B H i j, Rep K B H (f i j) (g i j)) : OpV X T r1 r2 (rI P g) (ii C f) := by
  intro F σ H st x y dx dy d Q R q1 q2 e k
  obtain ⟨i, j, rfl, rfl, c, rfl⟩ := ii_some e
  exact ⟨i, j, q1.isI, q2.isI, hC i j c, k.flat R (hf _ _ _ i j)⟩
theorem opv_ii0 {C : Int → Int → Bool} {g : Int → Int → V} {f : Int → Int → D} (hf : ∀ K B H i j, Rep K B H (f i j) (g i j)) : OpV X T r1 r2 (rI0 g) (ii C f) := by
  intro F σ H st x y dx dy d Q R q1 q2 e k
  obtain ⟨i, j, rfl, rfl, c, rfl⟩ := ii_some e
  exact ⟨i, j, q1.isI, q2.isI, k.flat R (hf _ _ _ i j)⟩
abbrev tt2 : Int → Int → Bool := fun _ _ => true
/-- the sizes of a product -/
def mulOk (i j : Int) : Bool := decide (Builtin.Int.intBits i + Builtin.Int.intBits j ≤ 134217728)
theorem mulOk_of {i j : Int} {a b : Nat} (ha : i.natAbs < 2 ^ a) (hb : j.natAbs < 2 ^ b) (h : a + b ≤ 134217728) : mulOk i j = true := by
  have q := mulx_ok ha hb h
  unfold CMulX at q
  exact decide_eq_true (by omega)
def divOk (i j : Int) : Bool := decide (0 < j ∧ j.natAbs.log2 < 9000)
def powOk (i j : Int) : Bool := decide (0 ≤ j ∧ j ≤ 1000000 ∧ i.natAbs < 2 ^ 64)
def subD : D → D → Option D := ii tt2 fun i j => .int (i - j)
def fdivD : D → D → Option D := ii divOk fun i j => .int (i / j)
def modD : D → D → Option D := ii (fun _ j => decide (0 < j)) fun i j => .int (i % j)
def powD : D → D → Option D := ii powOk fun i j => .int (i ^ j.toNat)
def shrD : D → D → Option D := ii (fun _ j => decide (0 ≤ j)) fun i j => .int (i / 2 ^ j.toNat)
def shlD : D → D → Option D := ii powOk fun i j => .int (i * 2 ^ j.toNat)
def xorD : D → D → Option D := ii tt2 fun i j => .int (Builtin.bitXor i j)
theorem v_sub : OpV X T r1 r2 (rI0 fun i j => .int (i - j)) subD := opv_ii0 fun _ _ _ i j => .int _
theorem v_fdiv : OpV X T r1 r2 (rI CDivW fun i j => .int (i / j)) fdivD := opv_ii (fun i j h => (of_decide_eq_true h : 0 < j ∧ j.natAbs.log2 < 9000)) fun _ _ _ i j => .int _
theorem v_mod : OpV X T r1 r2 (rI (fun _ j => 0 < j) fun i j => .int (i % j)) modD := opv_ii (fun i j h => of_decide_eq_true h) fun _ _ _ i j => .int _
theorem v_pow : OpV X T r1 r2 (rI CPow fun i j => .int (i ^ j.toNat)) powD := opv_ii (fun i j h => (of_decide_eq_true h : 0 ≤ j ∧ j ≤ 1000000 ∧ i.natAbs < 2 ^ 64)) fun _ _ _ i j => .int _
theorem v_shr : OpV X T r1 r2 (rI (fun _ j => 0 ≤ j) fun i j => .int (i / 2 ^ j.toNat)) shrD := opv_ii (fun i j h => of_decide_eq_true h) fun _ _ _ i j => .int _
theorem v_shl : OpV X T r1 r2 (rI CPow fun i j => .int (i * 2 ^ j.toNat)) shlD := opv_ii (fun i j h => (of_decide_eq_true h : 0 ≤ j ∧ j ≤ 1000000 ∧ i.natAbs < 2 ^ 64)) fun _ _ _ i j => .int _
theorem v_xor : OpV X T r1 r2 (rI0 fun i j => .int (Builtin.bitXor i j)) xorD := opv_ii0 fun _ _ _ i j => .int _

/-! ### + -/
def addD : D → D → Option D
  | .int i, .int j => some (.int (i + j))
  | .str x, .str y => if x.length + y.length ≤ sizeLine then some (.str (x ++ y)) else none
  | .tuple xs, .tuple ys => if xs.length + ys.length ≤ sizeLine then some (.tuple (xs ++ ys)) else none
  | .list xs, .list ys => if xs.length + ys.length ≤ sizeLine then some (.list (xs ++ ys)) else none
  | _, _ => none
/-- xs + ys, both to be read -/
def rCatR : R2 := fun x y H Q => ∃ l b xs zs, x = .ref l ∧ y = .ref b ∧ Rd H l (.lst xs) ∧ Rd H b (.lst zs) ∧ xs.length + zs.length ≤ sizeLine ∧ ∀ p, H p = none → Q (.ref p) (upd H p (.lst (xs ++ zs)))
theorem rdLst {P : Program} {w : World} {pins : List (Addr × Obj)} {σ : St} {H : Hp} {s : Shared} {a : Addr} {xs : List V} (I : Inv X pins σ H s) (h : Rd H a (.lst xs)) :
    xs.length ≤ sizeLine ∧ ∃ (its : List Value) (n : Nat), Vals xs its ∧ xs.length = its.length ∧ s.heap.get? a = some { cls := .type "list", data := .seq its.toArray n } := by
  obtain ⟨z, its, n, r, e⟩ := h.ok I.hok
  exact ⟨z, its, n, r, r.length, e⟩
theorem op_catR : OpR X (binaryOp .Add) rCatR := by
  intro pins s σ H x y v u Q I rx ry h
  obtain ⟨l, b, xs, zs, rfl, rfl, hH, hB, hz, q⟩ := h
  cases rx
  cases ry
  obtain ⟨z, its, n, r, hl, e⟩ := rdLst (P := X.prog) (w := X.w) I hH
  obtain ⟨z2, its2, n2, r2, hl2, e2⟩ := rdLst (P := X.prog) (w := X.w) I hB
  refine PySem.P.add_list e e2 ?_ (by rw [List.size_toArray, List.size_toArray]; omega)
  rw [show its.toArray ++ its2.toArray = (its ++ its2).toArray by simp]
  exact ⟨.ref _, _, I.lnew (t' := s.toks) (r.append r2) (by rw [List.length_append]; omega), rfl, q _ I.fresh⟩
def rAddA (K : PySem.W.Frag) : R2 := fun x y H Q => rI0 (fun i j => .int (i + j)) x y H Q ∨ (∃ i j, x = .str i ∧ y = .str j ∧ i.length + j.length ≤ sizeLine ∧ Q (.str (i ++ j)) H) ∨ rCatA K x y H Q ∨ rCatR x y H Q
theorem op_addA : OpR X (binaryOp .Add) (rAddA X.K) := op_add.or (op_add_str.or (op_catA.or op_catR))
theorem v_add : OpV X T r1 r2 (rAddA X.K) addD := by
  intro F σ H st x y dx dy d Q R q1 q2 e k
  unfold addD at e
  split at e
  · cases e
    exact .inl ⟨_, _, q1.isI, q2.isI, k.flat R (.int _)⟩
  · split at e
    · cases e
      rename_i h
      exact .inr (.inl ⟨_, _, q1.isS, q2.isS, h, k.flat R (.str _)⟩)
    · cases e
  · split at e
    · cases e
      rename_i h
      obtain ⟨a, us, rfl, s1, p1⟩ := q1.isT
      obtain ⟨b, ws, rfl, s2, p2⟩ := q2.isT
      refine .inr (.inr (.inl ⟨a, b, us, ws, rfl, rfl, SqT.of s1, SqT.of s2, by rw [← p1.length, ← p2.length]; exact h, fun e0 => ?_, fun _ e0 => ?_, fun _ _ p hp => ?_⟩))
      · subst e0
        cases p1
        exact k.flat R (.tup s2 p2)
      · subst e0
        cases p2
        rw [List.append_nil] at k
        exact k.flat R (.tup s1 p1)
      · exact k.new R hp (.tup upd_same ((p1.append p2).upd hp))
    · cases e
  · split at e
    · cases e
      rename_i h
      obtain ⟨a, us, rfl, s1, p1⟩ := q1.isL
      obtain ⟨b, ws, rfl, s2, p2⟩ := q2.isL
      exact .inr (.inr (.inr ⟨a, b, us, ws, rfl, rfl, s1, s2, by rw [← p1.length, ← p2.length]; exact h, fun p hp => k.new R hp (.lst (.inl upd_same) (R.bd_new hp) ((p1.append p2).upd hp))⟩))
    · cases e
  · cases e

/-! ### comparisons -/
def ltD (x y : D) : Option D := match x, y with
  | .int i, .int j => some (.bool (decide (i < j)))
  | .str a, .str b => some (.bool (decide (a.cps.toList < b.cps.toList)))
  | .tuple xs, .tuple ys => if PySem.W.alikeAll xs ys = true ∧ SeqAt.shaped x = true ∧ SeqAt.shaped y = true then some (.bool (PySem.W.dataLt x y)) else none
  | _, _ => none
def gtD : D → D → Option D := ii tt2 fun i j => .bool (decide (j < i))
def leD (x y : D) : Option D := match x, y with
  | .int i, .int j => some (.bool (decide (i ≤ j)))
  | .str a, .str b => some (.bool (decide (a.cps.toList ≤ b.cps.toList)))
  | _, _ => none
def geD : D → D → Option D := ii tt2 fun i j => .bool (decide (j ≤ i))
theorem v_gt : OpV X T r1 r2 (rI0 fun i j => .bl (decide (j < i))) gtD := opv_ii0 fun _ _ _ i j => .bl _
theorem v_ge : OpV X T r1 r2 (rI0 fun i j => .bl (decide (j ≤ i))) geD := opv_ii0 fun _ _ _ i j => .bl _
/-- a < b of tuples that are alike -/
def rLtD (K : PySem.W.Frag) : R2 := fun x y H Q => ∃ ds es, Dp K H x (.tuple ds) ∧ Dp K H y (.tuple es) ∧ PySem.W.alikeAll ds es = true ∧ SeqAt.shaped (.tuple ds) = true ∧ Q (.bl (PySem.W.dataLt (.tuple ds) (.tuple es))) H
theorem op_ltData (hu : X.A.units + 64 < cLine) : OpR X (compareOp .Lt) (rLtD X.K) := by
  intro pins s σ H x y v u Q I rx ry h
  obtain ⟨ds, es, hd, he, ha, sd, q⟩ := h
  obtain ⟨as, k1⟩ := Dp.reads I _ x v hd rx
  obtain ⟨bs, k2⟩ := Dp.reads I _ y u he ry
  have hal : PySem.W.alike (.tuple ds) (.tuple es) = true := by simpa [PySem.W.alike] using ha
  have hdp := SeqAt.depth_of_shaped sd
  exact PySem.W.rcLt_alike _ _ X.A s v u as bs k1 k2 hal (fun z => by cases z) (by omega) X.prog X.w X.xe _ ⟨.bl _, H, I, rfl, q⟩
end
end Vs

set_option Elab.async false
set_option linter.all false
set_option maxRecDepth 100000
set_option maxHeartbeats 4000000
namespace Vs
open PySem PySem.Spec PyProof.Rows L2
section
variable {X : Cx} {T : Addr → Prop} {r1 r2 : Bool}
/-! ### == != in, not in, is -/
def shp (x : D) : Bool := SeqAt.shaped x
def eqD (x y : D) : Option D := if shp x = true ∧ shp y = true then some (.bool (PyData.eqv x y)) else none
def neD (x y : D) : Option D := if shp x = true ∧ shp y = true then some (.bool (!PyData.eqv x y)) else none
theorem v_eq : OpV X T r1 r2 (rEqD X.K) eqD := by
  intro F σ H st x y dx dy d Q R q1 q2 e k
  unfold eqD at e
  split at e
  · rename_i c; cases e
    exact ⟨dx, dy, q1.dp c.1, q2.dp c.2, c.1, c.2, k.flat R (.bl _)⟩
  · cases e
theorem v_ne : OpV X T r1 r2 (rNeD X.K) neD := by
  intro F σ H st x y dx dy d Q R q1 q2 e k
  unfold neD at e
  split at e
  · rename_i c; cases e
    exact ⟨dx, dy, q1.dp c.1, q2.dp c.2, c.1, c.2, k.flat R (.bl _)⟩
  · cases e
def inL (d : D) (ds : List D) : Bool := ds.any fun z => PyData.eqv z d
/-- a text of one sign within a text, else by its places -/
def inS (x z : Str) : Bool := match x.cps.toList with
  | [c] => decide (c ∈ z.cps.toList)
  | _ => !(Builtin.Str.occurrences z x 0 z.length 1).isEmpty
def inD (x y : D) : Option Bool := match y with
  | .list ds => if shp x = true ∧ shp (.list ds) = true then some (inL x ds) else none
  | .tuple ds => if shp x = true ∧ shp (.tuple ds) = true then some (inL x ds) else none
  | .str z => (match x with
    | .str y => some (inS y z)
    | _ => none)
  | _ => none
def isIn (x y : D) : Option D := (inD x y).map .bool
def notIn (x y : D) : Option D := (inD x y).map fun b => .bool (!b)
def rInA (K : PySem.W.Frag) (neg : Bool) : R2 := fun x y H Q => ∃ d ds, Dp K H x d ∧ (Dp K H y (.list ds) ∨ Dp K H y (.tuple ds)) ∧ SeqAt.shaped d = true ∧ PyData.canLayAll0 ds = true ∧ Q (.bl (if neg then !inL d ds else inL d ds)) H
theorem op_inA (hu : X.A.units + 65 < cLine) : OpR X (compareOp .In) (rInA X.K false) := by
  intro pins s σ H x y v u Q I rx ry h
  obtain ⟨d, ds, hd, he, sd, se, q⟩ := h
  obtain ⟨as, r1⟩ := Dp.reads I d x v hd rx
  rcases he with he | he
  · obtain ⟨bs, r2⟩ := Dp.reads I _ y u he ry
    exact SeqAt.in_list_reads r2 r1 se (SeqAt.canLay_of_shaped sd) (room_in_shaped sd hu) ⟨.bl _, H, I, rfl, q⟩
  · obtain ⟨bs, r2⟩ := Dp.reads I _ y u he ry
    exact SeqAt.in_tuple_reads r2 r1 se (SeqAt.canLay_of_shaped sd) (room_in_shaped sd hu) ⟨.bl _, H, I, rfl, q⟩
theorem op_notInA (hu : X.A.units + 65 < cLine) : OpR X (compareOp .NotIn) (rInA X.K true) := by
  intro pins s σ H x y v u Q I rx ry h
  obtain ⟨d, ds, hd, he, sd, se, q⟩ := h
  obtain ⟨as, r1⟩ := Dp.reads I d x v hd rx
  rcases he with he | he
  · obtain ⟨bs, r2⟩ := Dp.reads I _ y u he ry
    exact SeqAt.notIn_list_reads r2 r1 se (SeqAt.canLay_of_shaped sd) (room_in_shaped sd hu) ⟨.bl _, H, I, rfl, q⟩
  · obtain ⟨bs, r2⟩ := Dp.reads I _ y u he ry
    exact SeqAt.notIn_tuple_reads r2 r1 se (SeqAt.canLay_of_shaped sd) (room_in_shaped sd hu) ⟨.bl _, H, I, rfl, q⟩
def rInT (neg : Bool) : R2 := fun x y H Q => ∃ i j, x = .str i ∧ y = .str j ∧ Q (.bl (if neg then !inS i j else inS i j)) H
theorem op_inT : OpR X (compareOp .In) (rInT false) := by
  intro pins s σ H x y v u Q I rx ry h
  obtain ⟨i, j, rfl, rfl, q⟩ := h
  by_cases h1 : ∃ c, i.cps.toList = [c]
  · obtain ⟨c, hc⟩ := h1
    have e : i = ⟨#[c]⟩ := by
      obtain ⟨a⟩ := i
      simp only at hc
      have : a = #[c] := by rw [← Array.toList_inj, hc]
      rw [this]
    refine op_in_sign pins s σ H _ _ v u Q I rx ry ⟨c, j, by rw [e], rfl, ?_⟩
    have : inS i j = decide (c ∈ j.cps.toList) := by unfold inS; rw [hc]
    rw [← this]; exact q
  · refine op_in_str pins s σ H _ _ v u Q I rx ry ⟨i, j, rfl, rfl, ?_⟩
    have : inS i j = !(Builtin.Str.occurrences j i 0 j.length 1).isEmpty := by
      unfold inS
      split
      · rename_i c hc; exact absurd ⟨c, hc⟩ h1
      · rfl
    rw [← this]; exact q
theorem op_notInT : OpR X (compareOp .NotIn) (rInT true) := by
  intro pins s σ H x y v u Q I rx ry h
  obtain ⟨i, j, rfl, rfl, q⟩ := h
  by_cases h1 : ∃ c, i.cps.toList = [c]
  · obtain ⟨c, hc⟩ := h1
    have e : i = ⟨#[c]⟩ := by
      obtain ⟨a⟩ := i
      simp only at hc
      have : a = #[c] := by rw [← Array.toList_inj, hc]
      rw [this]
    refine op_notIn_sign pins s σ H _ _ v u Q I rx ry ⟨c, j, by rw [e], rfl, ?_⟩
    have : inS i j = decide (c ∈ j.cps.toList) := by unfold inS; rw [hc]
    rw [← this]; exact q
  · refine op_notIn_str pins s σ H _ _ v u Q I rx ry ⟨i, j, rfl, rfl, ?_⟩
    have : inS i j = !(Builtin.Str.occurrences j i 0 j.length 1).isEmpty := by
      unfold inS
      split
      · rename_i c hc; exact absurd ⟨c, hc⟩ h1
      · rfl
    rw [← this]; exact q
theorem v_inBoth {neg : Bool} {g : D → D → Option D} (hg : ∀ x y d, g x y = some d → ∃ b, inD x y = some b ∧ d = .bool (if neg then !b else b)) : OpV X T r1 r2 (fun x y H Q => rInA X.K neg x y H Q ∨ rInT neg x y H Q) g := by
  intro F σ H st x y dx dy d Q R q1 q2 e k
  obtain ⟨b, e', rfl⟩ := hg _ _ _ e
  clear e
  have e := e'
  clear e'
  unfold inD at e
  split at e
  · split at e
    · rename_i c; cases e
      exact .inl ⟨dx, _, q1.dp c.1, .inl (q2.dp c.2), c.1, by have := SeqAt.canLay_of_shaped c.2; simpa [PyData.canLay0] using this, k.flat R (.bl _)⟩
    · cases e
  · split at e
    · rename_i c; cases e
      exact .inl ⟨dx, _, q1.dp c.1, .inr (q2.dp c.2), c.1, by have := SeqAt.canLay_of_shaped c.2; simpa [PyData.canLay0] using this, k.flat R (.bl _)⟩
    · cases e
  · split at e
    · cases e
      exact .inr ⟨_, _, q1.isS, q2.isS, k.flat R (.bl _)⟩
    · cases e
  · cases e
theorem v_in : OpV X T r1 r2 (fun x y H Q => rInA X.K false x y H Q ∨ rInT false x y H Q) isIn := v_inBoth fun x y d e => by
  unfold isIn at e
  cases h : inD x y with
  | none => rw [h] at e; cases e
  | some b => rw [h] at e; cases e; exact ⟨b, rfl, rfl⟩
theorem v_notIn : OpV X T r1 r2 (fun x y H Q => rInA X.K true x y H Q ∨ rInT true x y H Q) notIn := v_inBoth fun x y d e => by
  unfold notIn at e
  cases h : inD x y with
  | none => rw [h] at e; cases e
  | some b => rw [h] at e; cases e; exact ⟨b, rfl, rfl⟩
def isNo (x : D) : Bool := match x with
  | .none => true
  | _ => false
theorem RepR.noIff {K : PySem.W.Frag} {B : Addr → Prop} {H : Hp} {r : Bool} {d : D} {v : V} (h : RepR r K B H d v) : decide (v = .non) = isNo d := by
  rw [h.nonIff]; cases d <;> rfl
def isD' (x y : D) : Option Bool := match y with
  | .none => some (isNo x)
  | .bool b => (match x with
    | .bool a => some (decide (a = b))
    | _ => none)
  | _ => none
def isD (x y : D) : Option D := (isD' x y).map .bool
def isNotD (x y : D) : Option D := (isD' x y).map fun b => .bool (!b)
theorem v_is : OpV X T r1 r2 (fun x y H Q => (y = .non ∧ Q (.bl (decide (x = .non))) H) ∨ rIsB x y H Q) isD := by
  intro F σ H st x y dx dy d Q R q1 q2 e k
  unfold isD at e
  cases h : isD' dx dy with
  | none => rw [h] at e; cases e
  | some b =>
    rw [h] at e; cases e
    unfold isD' at h
    split at h
    · cases h
      refine .inl ⟨q2.isN, ?_⟩
      rw [q1.noIff]
      exact k.flat R (.bl _)
    · split at h
      · cases h
        exact .inr ⟨_, _, q1.isB, q2.isB, k.flat R (.bl _)⟩
      · cases h
    · cases h
theorem v_isNot : OpV X T r1 r2 (fun x y H Q => (y = .non ∧ Q (.bl (!decide (x = .non))) H) ∨ rNotB x y H Q) isNotD := by
  intro F σ H st x y dx dy d Q R q1 q2 e k
  unfold isNotD at e
  cases h : isD' dx dy with
  | none => rw [h] at e; cases e
  | some b =>
    rw [h] at e; cases e
    unfold isD' at h
    split at h
    · cases h
      refine .inl ⟨q2.isN, ?_⟩
      rw [q1.noIff]
      exact k.flat R (.bl _)
    · split at h
      · cases h
        exact .inr ⟨_, _, q1.isB, q2.isB, k.flat R (.bl _)⟩
      · cases h
    · cases h
/-! ### < <= -/
def rLtA (K : PySem.W.Frag) : R2 := fun x y H Q => rI0 (fun i j => .bl (decide (i < j))) x y H Q ∨ (∃ i j, x = .str i ∧ y = .str j ∧ Q (.bl (decide (i.cps.toList < j.cps.toList))) H) ∨ rLtD K x y H Q
theorem op_ltA (hu : X.A.units + 64 < cLine) : OpR X (compareOp .Lt) (rLtA X.K) := op_lt.or (op_lt_str.or (op_ltData hu))
theorem v_lt : OpV X T r1 r2 (rLtA X.K) ltD := by
  intro F σ H st x y dx dy d Q R q1 q2 e k
  unfold ltD at e
  split at e
  · cases e
    exact .inl ⟨_, _, q1.isI, q2.isI, k.flat R (.bl _)⟩
  · cases e
    exact .inr (.inl ⟨_, _, q1.isS, q2.isS, k.flat R (.bl _)⟩)
  · split at e
    · rename_i c; cases e
      exact .inr (.inr ⟨_, _, q1.dp c.2.1, q2.dp c.2.2, c.1, c.2.1, k.flat R (.bl _)⟩)
    · cases e
  · cases e
def rLeA : R2 := fun x y H Q => rI0 (fun i j => .bl (decide (i ≤ j))) x y H Q ∨ (∃ i j, x = .str i ∧ y = .str j ∧ Q (.bl (!decide (j.cps.toList < i.cps.toList))) H)
theorem op_leA : OpR X (compareOp .LtE) rLeA := op_le.or op_le_str
theorem v_le : OpV X T r1 r2 rLeA leD := by
  intro F σ H st x y dx dy d Q R q1 q2 e k
  unfold leD at e
  split at e
  · cases e
    exact .inl ⟨_, _, q1.isI, q2.isI, k.flat R (.bl _)⟩
  · rename_i a b
    cases e
    refine .inr ⟨_, _, q1.isS, q2.isS, k.flat R ?_⟩
    have : (!decide (b.cps.toList < a.cps.toList)) = decide (a.cps.toList ≤ b.cps.toList) := by
      by_cases h : b.cps.toList < a.cps.toList
      · rw [decide_eq_true h, decide_eq_false (List.not_le.mpr h)]; rfl
      · rw [decide_eq_false h, decide_eq_true (List.not_lt.mp h)]; rfl
    rw [this]; exact .bl _
  · cases e
/-! ### * -/
def rRepR : R2 := fun x y H Q => ∃ l k xs, x = .ref l ∧ y = .int k ∧ H l = some (.lst xs) ∧ -(2 ^ 63) ≤ k ∧ k < 2 ^ 63 ∧ xs.length * k.toNat ≤ sizeLine ∧
  ∀ p, H p = none → Q (.ref p) (upd H p (.lst (List.replicate k.toNat xs).flatten))
/-! ### items -/
def atD (x y : D) : Option D := match y with
  | .int i => (match x with
    | .list ds => atI ds i
    | .tuple ds => atI ds i
    | .str z => if z.length ≤ sizeLine then (atI z.cps.toList i).map fun c => .str ⟨#[c]⟩ else none
    | _ => none)
  | _ => none
theorem atI_rep {K : PySem.W.Frag} {B : Addr → Prop} {H : Hp} {ds : List D} {xs : List V} {i : Int} {d : D} (p : RepA K B H ds xs) (h : atI ds i = some d) : ∃ v, atI xs i = some v ∧ Rep K B H d v := by
  unfold atI at h ⊢
  rw [← p.length]
  cases e : ixN ds.length i with
  | none => rw [e] at h; cases h
  | some j =>
    rw [e] at h
    obtain ⟨v, h1, h2⟩ := p.getD h
    exact ⟨v, h1, h2⟩
theorem v_at : OpV X T r1 r2 (rIx X.K) atD := by
  intro F σ H st x y dx dy d Q R q1 q2 e k
  unfold atD at e
  split at e
  · split at e
    · obtain ⟨a, us, rfl, s1, p1⟩ := q1.isL
      obtain ⟨v, h1, h2⟩ := atI_rep p1 e
      exact .inl ⟨a, us, _, v, rfl, q2.isI, .inl s1, h1, k.flat R h2⟩
    · obtain ⟨a, us, rfl, s1, p1⟩ := q1.isT
      obtain ⟨v, h1, h2⟩ := atI_rep p1 e
      exact .inr (.inl ⟨a, us, _, v, rfl, q2.isI, SqT.of s1, h1, k.flat R h2⟩)
    · split at e
      · rename_i z hz
        rename_i j z
        cases h : atI z.cps.toList j with
        | none => rw [h] at e; cases e
        | some c =>
          rw [h] at e; cases e
          exact .inr (.inr ⟨z, _, c, q1.isS, q2.isI, by assumption, h, k.flat R (.str _)⟩)
      · cases e
    · cases e
  · cases e
end
/-! ### slices -/
def cutL {α : Type} (xs : List α) (lo hi : Option Int) : List α := (xs.drop (HT.sIx xs.length 0 lo)).take (HT.sIx xs.length xs.length hi - HT.sIx xs.length 0 lo)
def cutD (x : D) (lo hi : Option Int) : Option D := match x with
  | .list ds => some (.list (cutL ds lo hi))
  | .tuple ds => some (.tuple (cutL ds lo hi))
  | .str z => if z.length ≤ sizeLine then some (.str (cutS z lo hi)) else none
  | _ => none
def asI (d : D) : Option Int := match d with
  | .int i => some i
  | _ => none
abbrev Eo := Sts → Res (Option Int)
def pNo : Eo := fun st => .ok none st
def pAt (f : Ev) : Eo := fun st => (f st).bind fun d st1 => match asI d with
  | some i => .ok (some i) st1
  | none => .bad
def cut (fa : Ev) (fl fh : Eo) : Ev := fun st => (fa st).bind fun x st1 => (fl st1).bind fun l st2 => (fh st2).bind fun h st3 => ofO (cutD x l h) st3
structure VO (X : Cx) (T : Addr → Prop) (W : Wx) (e : Option Expr) (f : Eo) : Prop where
  po : PO X e (tG X T W false (fun _ _ (a b : Option Int) => a = b) f)
theorem po_weak {X : Cx} {e : Option Expr} {t t' : TO} (h : PO X e t) (w : ∀ σ H Q, t' σ H Q → t σ H Q) : PO X e t' := ⟨fun pins s σ H Q I q => h.run pins s σ H Q I (w σ H Q q)⟩
section
variable {X : Cx} {T : Addr → Prop} {W : Wx} {m r : Bool} {e : Expr} {f : Ev}
theorem VO.no : VO X T W none pNo := ⟨po_weak po_none fun σ H Q ⟨F, st, R, q⟩ => q none H R XGo.refl rfl⟩
theorem VO.at' (h : VE X T W false r e f) : VO X T W (some e) (pAt f) := ⟨po_weak (po_some h.pe) fun σ H Q ⟨F, st, R, q⟩ => by
  refine tG.first R q fun d1 st1 v1 H1 e1 R1 y1 q1 h1 => ?_
  unfold asI at h1
  split at h1
  · rename_i i he
    split at he
    · cases he
      exact ⟨_, q1.isI, h1 (some _) H1 R1 y1 rfl⟩
    · cases he
  · exact h1.elim⟩
theorem cutL_rep {K : PySem.W.Frag} {B : Addr → Prop} {H : Hp} {ds : List D} {xs : List V} {lo hi : Option Int} (p : RepA K B H ds xs) : RepA K B H (cutL ds lo hi) (cutV xs lo hi) := by
  unfold cutL cutV
  rw [p.length]
  exact (p.drop _).take _
theorem cutV_whole {xs : List V} {lo hi : Option Int} (h : HT.sIx xs.length 0 lo = 0 ∧ HT.sIx xs.length xs.length hi = xs.length) : cutV xs lo hi = xs := by
  unfold cutV
  rw [h.1, h.2, List.drop_zero, Nat.sub_zero, List.take_length]
theorem VE.cut {lo hi : Option Expr} {fl fh : Eo} {p2 pos : Pos} (ha : VE X T W m r e f) (hl : VO X T W lo fl) (hh : VO X T W hi fh) : VE X T W m false (.Subscript e (.Slice lo hi none p2) pos) (Vs.cut f fl fh) :=
  ⟨pe_weak (pe_slice (sl_list.or (sl_tupA.or sl_str)) ha.pe hl.po hh.po) fun σ H Q ⟨F, st, R, q⟩ => by
    refine tG.first (m0 := m) R q fun d1 st1 v1 H1 e1 R1 y1 q1 h1 => ?_
    have h1 := h1.back' (m2 := false) y1 id (fun z => by cases z)
    refine tG.first (m0 := false) R1 h1 fun o1 st2 l H2 e2 R2 y2 q2 h2 => ?_
    have h2 := h2.back' (m2 := false) y2 id id
    refine tG.first (m0 := false) R2 h2 fun o2 st3 u H3 e3 R3 y3 q3 h3 => ?_
    subst q2 q3
    obtain ⟨d, eg, k⟩ := RG.fin y3 h3 id
    have q1 := (q1.go y2 fun _ => rfl).go y3 fun _ => rfl
    unfold cutD at eg
    split at eg
    · cases eg
      obtain ⟨a, us, rfl, s1, p1⟩ := q1.isL
      exact .inl ⟨a, us, rfl, .inl s1, fun p hp => k.new R3 hp (.lst (.inl upd_same) (R3.bd_new hp) ((cutL_rep p1).upd hp))⟩
    · cases eg
      obtain ⟨a, us, rfl, s1, p1⟩ := q1.isT
      refine .inr (.inl ⟨a, us, rfl, SqT.of s1, fun hw => ?_, fun _ p hp => k.new R3 hp (.tup upd_same ((cutL_rep p1).upd hp))⟩)
      have := cutL_rep (lo := o1) (hi := o2) p1
      rw [cutV_whole hw] at this
      exact k.flat R3 (.tup s1 this)
    · split at eg
      · cases eg
        exact .inr (.inr ⟨_, q1.isS, by assumption, k.flat R3 (.str _)⟩)
      · cases eg
    · cases eg⟩
end
end Vs

set_option Elab.async false
set_option linter.all false
set_option maxRecDepth 100000
set_option maxHeartbeats 4000000
namespace Vs
open PySem PySem.Spec PyProof.Rows L2

/-! ### slots are set -/
/-- the slot is not one that the caller owns -/
def noPar (st : Sts) (i : Nat) : Bool := match st[i]? with
  | some (.par _) => false
  | _ => true
theorem noPar_ne {st : Sts} {i : Nat} {d : D} (h : noPar st i = true) : st[i]? ≠ some (.par d) := fun e => by
  unfold noPar at h; rw [e] at h; cases h
section
variable {K : PySem.W.Frag} {T F : Addr → Prop} {H : Hp} {σ : St} {st : Sts} {d : D} {v : V} {a : Addr} {i : Nat} {s : Sl} {o : Option V}
theorem getO_setO2 {j : Nat} (h : j ≠ i) : getO (st.set i s) j = getO st j := getO_congr (by rw [List.getElem?_set_ne (Ne.symm h)])
theorem own_set {b : Addr} (h : Own (σ.set i o) (st.set i s) b) : Own σ st b ∨ ((∃ d, s = .own d ∨ s = .par d) ∧ o = some (.ref b) ∧ i < σ.length) := by
  obtain ⟨j, y, h1, h2⟩ := h
  by_cases e : j = i
  · subst e
    have hl := getO_lt h1
    rw [List.length_set] at hl
    have hs : j < σ.length := by
      have := (List.getElem?_eq_some_iff.mp h2).1
      rwa [List.length_set] at this
    rw [List.getElem?_set_self hs] at h2
    refine .inr ⟨⟨y, ?_⟩, Option.some.inj h2, hs⟩
    rcases getO_or h1 with q | q
    · rw [List.getElem?_set_self hl] at q; exact .inl (Option.some.inj q)
    · rw [List.getElem?_set_self hl] at q; exact .inr (Option.some.inj q)
  · rw [Owd, getO_setO2 e] at h1
    rw [List.getElem?_set_ne (Ne.symm e)] at h2
    exact .inl ⟨j, y, h1, h2⟩
/-- the slot is set; what stood in it is forgotten -/
theorem RepS.set (R : RepS K T F H σ st)
    (F' : Addr → Prop) (R' : RepS K T F' H σ st) (hF : ∀ b, F b → F' b) (hO : ∀ b, Own (σ.set i o) (st.set i s) b → F' b ∨ Own σ st b)
    (h1 : ∀ d, s = .im d → ∃ v, o = some v ∧ Rep K (Bd F' σ st) H d v)
    (h2 : ∀ d, (s = .own d ∨ s = .par d) → ∃ a, o = some (.ref a) ∧ ¬ F a ∧ ¬ Own σ st a ∧ OwnRep K (Bd F' σ st) H d a)
    (h3 : ∀ ns, s ≠ .scr ns) : RepS K T F H (σ.set i o) (st.set i s) := by
  have hB' : ∀ b, Bd F (σ.set i o) (st.set i s) b → Bd F' σ st b ∨ H b = none := fun b z => .inl (z.elim (fun z => .inl (hF b z)) fun z => hO b z)
  have k0 := Kp.refl (fun _ => False) H
  by_cases hi : i < st.length
  · have hs : i < σ.length := by rw [R.len]; exact hi
    refine ⟨R.dom, by rw [List.length_set, List.length_set]; exact R.len, fun j x hj => ?_, fun j x hj => ?_, fun j ns hj => ?_, fun j l x y b g1 g2 g3 g4 => ?_, R.tab⟩
    · by_cases e : j = i
      · subst e
        rw [List.getElem?_set_self hi] at hj
        obtain ⟨v, e1, e2⟩ := h1 x (Option.some.inj hj)
        exact ⟨v, by rw [List.getElem?_set_self hs, e1], e2.step k0 (fun _ z => z.elim) hB'⟩
      · rw [List.getElem?_set_ne (Ne.symm e)] at hj ⊢
        obtain ⟨v, e1, e2⟩ := R'.im j x hj
        exact ⟨v, e1, e2.step k0 (fun _ z => z.elim) hB'⟩
    · by_cases e : j = i
      · subst e
        have q : s = .own x ∨ s = .par x := by
          rcases getO_or hj with q | q
          · rw [List.getElem?_set_self hi] at q; exact .inl (Option.some.inj q)
          · rw [List.getElem?_set_self hi] at q; exact .inr (Option.some.inj q)
        obtain ⟨a, e1, e2, _, e3⟩ := h2 x q
        exact ⟨a, by rw [List.getElem?_set_self hs, e1], e2, e3.step k0 (fun _ z => z.elim) hB' fun z => z⟩
      · rw [Owd, getO_setO2 e] at hj
        obtain ⟨b, e1, _, e2⟩ := R'.ow j x hj
        obtain ⟨b', e1', nF, _⟩ := R.ow j x hj
        rw [e1] at e1'; cases e1'
        exact ⟨b, by rw [List.getElem?_set_ne (Ne.symm e)]; exact e1, nF, e2.step k0 (fun _ z => z.elim) hB' fun z => z⟩
    · by_cases e : j = i
      · subst e
        rw [List.getElem?_set_self hi] at hj
        exact absurd (Option.some.inj hj) (h3 ns)
      · rw [List.getElem?_set_ne (Ne.symm e)] at hj ⊢
        obtain ⟨b, e1, e2⟩ := R'.scr j ns hj
        exact ⟨b, e1, e2.step k0 (fun _ z => z.elim) hB'⟩
    · have key : ∀ {j : Nat} {x : D}, j = i → getO (st.set i s) j = some x → (σ.set i o)[j]? = some (some (V.ref b)) → ¬ Own σ st b := fun {j x} e g h => by
        subst e
        have q : s = .own x ∨ s = .par x := by
          rcases getO_or g with q | q
          · rw [List.getElem?_set_self hi] at q; exact .inl (Option.some.inj q)
          · rw [List.getElem?_set_self hi] at q; exact .inr (Option.some.inj q)
        obtain ⟨a, e1, _, e2, _⟩ := h2 x q
        rw [List.getElem?_set_self hs, e1] at h
        cases h
        exact e2
      by_cases ej : j = i
      · by_cases el : l = i
        · exact ej.trans el.symm
        · have n := key ej g1 g3
          rw [Owd, getO_setO2 el] at g2
          rw [List.getElem?_set_ne (Ne.symm el)] at g4
          exact absurd ⟨l, y, g2, g4⟩ n
      · by_cases el : l = i
        · have n := key el g2 g4
          rw [Owd, getO_setO2 ej] at g1
          rw [List.getElem?_set_ne (Ne.symm ej)] at g3
          exact absurd ⟨j, x, g1, g3⟩ n
        · rw [Owd, getO_setO2 ej] at g1
          rw [Owd, getO_setO2 el] at g2
          rw [List.getElem?_set_ne (Ne.symm ej)] at g3
          rw [List.getElem?_set_ne (Ne.symm el)] at g4
          exact R.dis j l x y b g1 g2 g3 g4
  · have e1 : st.set i s = st := List.set_eq_of_length_le (Nat.le_of_not_lt hi)
    have e2 : σ.set i o = σ := List.set_eq_of_length_le (by rw [R.len]; exact Nat.le_of_not_lt hi)
    rw [e1, e2]
    exact R
theorem own_set_no {b : Addr} (hs : ∀ d, s ≠ .own d ∧ s ≠ .par d) (h : Own (σ.set i o) (st.set i s) b) : Own σ st b := by
  rcases own_set h with h | ⟨⟨d, h⟩, _⟩
  · exact h
  · exact h.elim (fun e => ((hs d).1 e).elim) fun e => ((hs d).2 e).elim
theorem RepS.setV (R : RepS K T F H σ st) (h : Rep K (Bd F σ st) H d v) : RepS K T F H (σ.set i (some v)) (st.set i (.im d)) :=
  R.set F R (fun _ z => z) (fun b z => .inr (own_set_no (fun _ => ⟨(fun z => by cases z), fun z => by cases z⟩) z)) (fun d' e => by cases e; exact ⟨v, rfl, h⟩) (fun d' e => by rcases e with e | e <;> cases e) fun _ e => by cases e
theorem RepS.setU (R : RepS K T F H σ st) : RepS K T F H σ (st.set i .un) := by
  have h := R.set (i := i) (o := σ[i]?.getD none) (s := .un) F R (fun _ z => z) (fun b z => .inr (own_set_no (fun _ => ⟨(fun z => by cases z), fun z => by cases z⟩) z)) (fun d' e => by cases e) (fun d' e => by rcases e with e | e <;> cases e) fun _ e => by cases e
  have e : σ.set i (σ[i]?.getD none) = σ := by
    by_cases hi : i < σ.length
    · rw [List.getElem?_eq_getElem hi]; simp
    · exact List.set_eq_of_length_le (Nat.le_of_not_lt hi)
  rw [e] at h
  exact h
theorem RepS.more {F' : Addr → Prop} (R : RepS K T F' H σ st) (h : ∀ b, F b → F' b) : RepS K T F H σ st := by
  have k0 := Kp.refl (fun _ => False) H
  have hB : ∀ b, Bd F σ st b → Bd F' σ st b ∨ H b = none := fun b z => .inl (z.imp (h b) id)
  exact ⟨fun a z => R.dom a (h a z), R.len, fun j x hj => let ⟨v, e1, e2⟩ := R.im j x hj; ⟨v, e1, e2.step k0 (fun _ z => z.elim) hB⟩,
    fun j x hj => let ⟨b, e1, e2, e3⟩ := R.ow j x hj; ⟨b, e1, fun z => e2 (h b z), e3.step k0 (fun _ z => z.elim) hB fun z => z⟩,
    fun j x hj => let ⟨b, e1, e2⟩ := R.scr j x hj; ⟨b, e1, e2.step k0 (fun _ z => z.elim) hB⟩, R.dis, R.tab⟩
/-- an address that is forbidden besides -/
abbrev And1 (F : Addr → Prop) (a : Addr) : Addr → Prop := fun b => F b ∨ b = a
theorem RepS.setW (R : RepS K T (And1 F a) H σ st) (n : ¬ Bd F σ st a) (h : OwnRep K (Bd (And1 F a) σ st) H d a) : RepS K T F H (σ.set i (some (.ref a))) (st.set i (.own d)) :=
  (R.more (F := F) fun _ z => .inl z).set (And1 F a) R (fun _ z => .inl z) (fun b z => by
    rcases own_set z with z | ⟨_, z, _⟩
    · exact .inr z
    · cases z; exact .inl (.inr rfl)) (fun d' e => by cases e) (fun d' e => by
    rcases e with e | e
    · cases e
      exact ⟨a, rfl, fun z => n (.inl z), fun z => n (.inr z), h⟩
    · cases e) fun _ e => by cases e
/-- one more object, untouchable -/
theorem RepS.and1 {p : Addr} {u : HO} (R : RepS K T F H σ st) (hp : H p = none) : RepS K T (And1 F p) (L2.upd H p u) σ st := by
  have k0 : Kp (fun _ => False) H (L2.upd H p u) := Kp.upd hp
  have hB : ∀ b, Bd (And1 F p) σ st b → Bd F σ st b ∨ H b = none := fun b z => by
    rcases z with (z | z) | z
    · exact .inl (.inl z)
    · exact .inr (by rw [z]; exact hp)
    · exact .inl (.inr z)
  refine ⟨fun b z => ?_, R.len, fun j x hj => let ⟨v, e1, e2⟩ := R.im j x hj; ⟨v, e1, e2.step k0 (fun _ z => z.elim) hB⟩,
    fun j x hj => let ⟨b, e1, e2, e3⟩ := R.ow j x hj; ⟨b, e1, fun z => ?_, e3.step k0 (fun _ z => z.elim) hB fun z => z⟩,
    fun j x hj => let ⟨b, e1, e2⟩ := R.scr j x hj; ⟨b, e1, e2.step k0 (fun _ z => z.elim) hB⟩, R.dis, fun P h => tab_upd hp (R.tab P h)⟩
  · rcases z with z | z
    · exact k0.dom b (R.dom b z)
    · rw [z, upd_same]; intro q; cases q
  · rcases z with z | z
    · exact e2 z
    · exact e3.there (by rw [z]; exact hp)
end

/-! ### new lists and dicts -/
/-- d is a new list or dict that nothing else holds -/
def RF (X : Cx) (T : Addr → Prop) (W : Wx) (m : Bool) (F : Addr → Prop) (σ : St) (H : Hp) (st : Sts) (Q : VK) : Res D → Prop
  | .ok d st' => ∀ a H', RepS X.K T (And1 F a) H' σ st' → ¬ Bd F σ st' a → XGo m σ H H' st st' → OwnRep X.K (Bd (And1 F a) σ st') H' d a → H a = none → Q (.ref a) H'
  | .exc c st' => ∀ H' C, X.mg c = some (.ref C) → RepS X.K T F H' σ st' → XGo true σ H H' st st' → W (.ref C) none σ H'
  | .bad => False
structure VF (X : Cx) (T : Addr → Prop) (W : Wx) (m : Bool) (e : Expr) (f : Ev) : Prop where
  pe : PE X e (fun σ H Q => ∃ F st, RepS X.K T F H σ st ∧ RF X T W m F σ H st Q (f st))
section
variable {X : Cx} {T F : Addr → Prop} {W : Wx} {m m1 m2 r : Bool} {σ : St} {H H1 : Hp} {st st1 : Sts} {Q : VK} {e : Expr} {f : Ev} {x : Res D} {α β : Type} {rel : (Addr → Prop) → Hp → α → β → Prop}
theorem VF.ve (h : VF X T W m e f) : VE X T W m false e f := ⟨pe_weak h.pe fun σ H Q ⟨F, st, R, q⟩ => by
  refine ⟨F, st, R, ?_⟩
  cases e : f st with
  | ok d st' =>
    rw [e] at q
    exact fun a H' R' n y o z => q (.ref a) H' (R'.more fun _ z => .inl z) y (.inl ((o.step (Kp.refl (fun _ => False) H') (fun _ z => z.elim) (fun b z => .inl (z.imp (fun z => .inl z) id)) fun z => z).rep n))
  | exc c st' => rw [e] at q; exact q
  | bad => rw [e] at q; exact q⟩
theorem RF.back (g : XGo m1 σ H H1 st st1) (h : RF X T W m F σ H st Q x) (h1 : m1 = true → m = true := by exact orL) (h2 : m2 = true → m = true := by exact orR) : RF X T W m2 F σ H1 st1 Q x := by
  cases x with
  | ok d st' => exact fun a H' R n y o z => h a H' R n (g.tr y h1 h2) o (by
      cases e : H a with
      | none => rfl
      | some u => exact (g.kp.dom a (by rw [e]; intro z; cases z) z).elim)
  | exc c st' => exact fun H' C hc R y => h H' C hc R (g.tr y (fun _ => rfl) fun _ => rfl)
  | bad => exact h
theorem tG.firstF {ff : Sts → Res α} {g : α → Sts → Res D} {m0 : Bool} {Q' : β → Hp → Prop} (R : RepS X.K T F H σ st) (h : RF X T W m F σ H st Q ((ff st).bind g))
    (k : ∀ d st' v H', ff st = .ok d st' → RepS X.K T F H' σ st' → XGo m0 σ H H' st st' → rel (Bd F σ st') H' d v → RF X T W m F σ H st Q (g d st') → Q' v H') : tG X T W m0 rel ff σ H Q' := by
  refine ⟨F, st, R, ?_⟩
  cases e : ff st with
  | ok d st' => rw [e] at h; exact fun v H' R' y q => k d st' v H' e R' y q h
  | exc c st' => rw [e] at h; exact h
  | bad => rw [e] at h; exact h
/-- what a new object is to hold -/
inductive NewRep (K : PySem.W.Frag) (B : Addr → Prop) (H : Hp) : D → HO → Prop
  | lst {xs : List V} {ds : List D} : RepA K B H ds xs → NewRep K B H (.list ds) (.lst xs)
  | dK {es : List (Key × V)} {kvs : List (D × D)} : kvs.map (·.1) = es.map (fun e => keyD e.1) → RepA K B H (kvs.map (·.2)) (es.map (·.2)) → NewRep K B H (.dict kvs) (.dK es)
  | dT {es : List (List Key × V)} {kvs : List (D × D)} : kvs.map (·.1) = es.map (fun e => keyT e.1) → RepA K B H (kvs.map (·.2)) (es.map (·.2)) → NewRep K B H (.dict kvs) (.dT es)
theorem NewRep.own {K : PySem.W.Frag} {B B' : Addr → Prop} {d : D} {u : HO} {p : Addr} (h : NewRep K B H d u) (hp : H p = none) (hB : ∀ b, B' b → B b ∨ b = p) : OwnRep K B' (upd H p u) d p := by
  have k0 : Kp (fun _ => False) H (L2.upd H p u) := Kp.upd hp
  have hB' : ∀ b, B' b → B b ∨ H b = none := fun b z => (hB b z).imp id fun e => by rw [e]; exact hp
  cases h with
  | lst q => exact .lst upd_same (q.step k0 (fun _ z => z.elim) hB')
  | dK e q => exact .dK upd_same e (q.step k0 (fun _ z => z.elim) hB')
  | dT e q => exact .dT upd_same e (q.step k0 (fun _ z => z.elim) hB')
/-- it is made at last -/
theorem RF.new {d : Option D} (g : XGo m1 σ H H1 st st1) (h : RF X T W m F σ H st Q (ofO d st1)) (R : RepS X.K T F H1 σ st1) (h1 : m1 = true → m = true := by exact fun z => z) :
    ∃ e, d = some e ∧ ∀ (u : HO) (p : Addr), H1 p = none → NewRep X.K (Bd F σ st1) H1 e u → Q (.ref p) (upd H1 p u) := by
  cases d with
  | none => exact h.elim
  | some e =>
    refine ⟨e, rfl, fun u p hp ho => h p (upd H1 p u) (R.and1 hp) (R.bd_new hp) ((g.then (Kp.upd hp)).mono h1) (ho.own hp fun b z => ?_) ?_⟩
    · rcases z with (z | z) | z
      · exact .inl (.inl z)
      · exact .inr z
      · exact .inl (.inr z)
    · cases e : H p with
      | none => rfl
      | some u => exact (g.kp.dom p (by rw [e]; intro z; cases z) hp).elim
end
end Vs

set_option Elab.async false
set_option linter.all false
set_option maxRecDepth 100000
set_option maxHeartbeats 4000000
namespace Vs
open PySem PySem.Spec PyProof.Rows L2

/-! ### Out: one more way, a new list or dict handed back -/
inductive Ou where
  | nx (st : Sts) | rt (d : D) (st : Sts) | rf (d : D) (st : Sts) | bk (st : Sts) | ct (st : Sts) | exc (c : Str) (st : Sts) | bad
abbrev Es' := Sts → Ou
def bindS {α : Type} (x : Res α) (g : α → Sts → Ou) : Ou := match x with
  | .ok d st' => g d st'
  | .exc c st' => .exc c st'
  | .bad => .bad
def RS (X : Cx) (T : Addr → Prop) (W : Wx) (F : Addr → Prop) (σ : St) (H : Hp) (st : Sts) (D : Ends) : Ou → Prop
  | .nx st' => ∀ σ' H', RepS X.K T F H' σ' st' → SGo σ H st σ' H' st' → D.nx σ' H'
  | .bk st' => ∀ σ' H', RepS X.K T F H' σ' st' → SGo σ H st σ' H' st' → D.bk σ' H'
  | .ct st' => ∀ σ' H', RepS X.K T F H' σ' st' → SGo σ H st σ' H' st' → D.ct σ' H'
  | .rt d st' => ∀ v σ' H', RepS X.K T F H' σ' st' → SGo σ H st σ' H' st' → Rep X.K (Bd F σ' st') H' d v → D.rt v H'
  | .rf d st' => ∀ a σ' H', RepS X.K T (And1 F a) H' σ' st' → ¬ Bd F σ' st' a → SGo σ H st σ' H' st' → OwnRep X.K (Bd (And1 F a) σ' st') H' d a → (Own σ st a ∨ H a = none) → D.rt (.ref a) H'
  | .exc c st' => ∀ σ' H' C, X.mg c = some (.ref C) → RepS X.K T F H' σ' st' → SGo σ H st σ' H' st' → W (.ref C) none σ' H'
  | .bad => False
def tVS (X : Cx) (T : Addr → Prop) (W : Wx) (f : Es') : TS := fun D σ H => ∃ F st, RepS X.K T F H σ st ∧ RS X T W F σ H st D (f st)
structure VS (X : Cx) (T : Addr → Prop) (W : Wx) (s : Stmt) (f : Es') : Prop where
  ps : PS X s (tVS X T W f)
structure VSs (X : Cx) (T : Addr → Prop) (W : Wx) (s : List Stmt) (f : Es') : Prop where
  ps : PSs X s (tVS X T W f)
theorem ps_weak {X : Cx} {s : Stmt} {t t' : TS} (h : PS X s t) (w : ∀ D σ H, t' D σ H → t D σ H) : PS X s t' := ⟨fun pins s σ H D I q => h.run pins s σ H D I (w D σ H q)⟩
theorem pss_weak {X : Cx} {s : List Stmt} {t t' : TS} (h : PSs X s t) (w : ∀ D σ H, t' D σ H → t D σ H) : PSs X s t' := ⟨fun pins s σ H D I q => h.run pins s σ H D I (w D σ H q)⟩
section
variable {X : Cx} {T F : Addr → Prop} {W : Wx} {m r : Bool} {σ σ1 : St} {H H1 : Hp} {st st1 : Sts} {D D' : Ends} {o : Ou}
theorem dom_back {M : Addr → Prop} (k : Kp M H H1) {a : Addr} (h : H1 a = none) : H a = none := by
  cases e : H a with
  | none => rfl
  | some u => exact (k.dom a (by rw [e]; intro z; cases z) h).elim
theorem RS.back (g : SGo σ H st σ1 H1 st1) (h : RS X T W F σ H st D o) : RS X T W F σ1 H1 st1 D o := by
  cases o with
  | nx st' => exact fun σ' H' R y => h σ' H' R (g.trans y)
  | bk st' => exact fun σ' H' R y => h σ' H' R (g.trans y)
  | ct st' => exact fun σ' H' R y => h σ' H' R (g.trans y)
  | rt d st' => exact fun v σ' H' R y => h v σ' H' R (g.trans y)
  | rf d st' => exact fun a σ' H' R n y q z => h a σ' H' R n (g.trans y) q (z.elim (fun z => g.sub a z) fun z => .inr (dom_back g.kp z))
  | exc c st' => exact fun σ' H' C hc R y => h σ' H' C hc R (g.trans y)
  | bad => exact h
theorem RS.mono (h : RS X T W F σ H st D o) (hn : ∀ σ H, D.nx σ H → D'.nx σ H) (hb : ∀ σ H, D.bk σ H → D'.bk σ H) (hc : ∀ σ H, D.ct σ H → D'.ct σ H) (hr : ∀ v H, D.rt v H → D'.rt v H) : RS X T W F σ H st D' o := by
  cases o with
  | nx st' => exact fun σ' H' R y => hn _ _ (h σ' H' R y)
  | bk st' => exact fun σ' H' R y => hb _ _ (h σ' H' R y)
  | ct st' => exact fun σ' H' R y => hc _ _ (h σ' H' R y)
  | rt d st' => exact fun v σ' H' R y q => hr _ _ (h v σ' H' R y q)
  | rf d st' => exact fun a σ' H' R n y q z => hr _ _ (h a σ' H' R n y q z)
  | exc c st' => exact h
  | bad => exact h
/-- an expression begins a statement -/
theorem tG.firstS {α β : Type} {rel : (Addr → Prop) → Hp → α → β → Prop} {ff : Sts → Res α} {g : α → Sts → Ou} {m0 : Bool} {Q' : β → Hp → Prop} (R : RepS X.K T F H σ st)
    (h : RS X T W F σ H st D (bindS (ff st) g))
    (k : ∀ d st' v H', ff st = .ok d st' → RepS X.K T F H' σ st' → XGo m0 σ H H' st st' → rel (Bd F σ st') H' d v → RS X T W F σ H st D (g d st') → Q' v H') : tG X T W m0 rel ff σ H Q' := by
  refine ⟨F, st, R, ?_⟩
  cases e : ff st with
  | ok d st' => rw [e] at h; exact fun v H' R' y q => k d st' v H' e R' y q h
  | exc c st' => rw [e] at h; exact fun H' C hc R y => h σ H' C hc R y.sgo
  | bad => rw [e] at h; exact h
end
/-! ### blocks -/
def sNil : Es' := fun st => .nx st
def sSeq (f g : Es') : Es' := fun st => match f st with
  | .nx st' => g st'
  | o => o
section
variable {X : Cx} {T F : Addr → Prop} {W : Wx} {m r : Bool} {σ σ1 : St} {H H1 : Hp} {st st1 : Sts} {D D' : Ends} {o : Ou} {s : Stmt} {ss : List Stmt} {f g : Es'} {e : Expr} {fe : Ev} {pos : Pos}
theorem VSs.nil : VSs X T W [] sNil := ⟨pss_weak pss_nil fun D σ H ⟨F, st, R, q⟩ => q σ H R SGo.refl⟩
theorem seq_of {t u : TS} (h1 : ∀ D σ H, tVS X T W f D σ H → t D σ H) (h2 : ∀ D σ H, tVS X T W g D σ H → u D σ H) : ∀ D σ H, tVS X T W (sSeq f g) D σ H → tSeq t u D σ H := fun D σ H ⟨F, st, R, q⟩ => by
  refine h1 _ σ H ⟨F, st, R, ?_⟩
  unfold sSeq at q
  cases e : f st with
  | nx st' =>
    rw [e] at q
    exact fun σ' H' R' y => h2 D σ' H' ⟨F, st', R', q.back y⟩
  | bk st' => rw [e] at q; exact q
  | ct st' => rw [e] at q; exact q
  | rt d st' => rw [e] at q; exact q
  | rf d st' => rw [e] at q; exact q
  | exc c st' => rw [e] at q; exact q
  | bad => rw [e] at q; exact q
theorem VSs.cons (h1 : VS X T W s f) (h2 : VSs X T W ss g) : VSs X T W (s :: ss) (sSeq f g) := ⟨pss_weak (pss_cons h1.ps h2.ps) (seq_of (fun _ _ _ z => z) fun _ _ _ z => z)⟩
theorem VSs.one (h1 : VS X T W s f) : VSs X T W [s] f := ⟨pss_one h1.ps⟩
theorem VS.congr (h : VS X T W s f) (hf : ∀ st, g st = f st) : VS X T W s g := ⟨ps_weak h.ps fun D σ H ⟨F, st, R, q⟩ => ⟨F, st, R, by rw [← hf]; exact q⟩⟩
theorem VSs.congr (h : VSs X T W ss f) (hf : ∀ st, g st = f st) : VSs X T W ss g := ⟨pss_weak h.ps fun D σ H ⟨F, st, R, q⟩ => ⟨F, st, R, by rw [← hf]; exact q⟩⟩

/-! ### assignments -/
/-- name i = e, shared -/
def sSet (i : Nat) (fe : Ev) : Es' := fun st => bindS (fe st) fun d st' => if noPar st' i = true then .nx (st'.set i (.im d)) else .bad
/-- name i = a new list or dict -/
def sOwn (i : Nat) (fe : Ev) : Es' := fun st => bindS (fe st) fun d st' => if noPar st' i = true then .nx (st'.set i (.own d)) else .bad
theorem par_set {i j : Nat} {x : Vs.D} {s : Sl} {v : Option V} (hn : noPar st i = true) (h : st[j]? = some (.par x)) : ∃ d', (st.set i s)[j]? = some (.par d') ∧ (σ.set i v)[j]? = σ[j]? := by
  have ne : i ≠ j := fun e => by subst e; exact noPar_ne hn h
  exact ⟨x, by rw [List.getElem?_set_ne ne]; exact h, List.getElem?_set_ne ne⟩
theorem SGo.setV {i : Nat} {d : Vs.D} {v : V} (y : SGo σ H st σ1 H1 st1) (hn : noPar st1 i = true) : SGo σ H st (σ1.set i (some v)) H1 (st1.set i (.im d)) :=
  y.trans ⟨Kp.refl _ _, fun b z => .inl (own_set_no (fun _ => ⟨(fun z => by cases z), fun z => by cases z⟩) z), fun j x h => par_set hn h⟩
theorem SGo.setW {i : Nat} {d : Vs.D} {a : Addr} (y : SGo σ H st σ1 H1 st1) (hn : noPar st1 i = true) (ha : H a = none) : SGo σ H st (σ1.set i (some (.ref a))) H1 (st1.set i (.own d)) where
  kp := y.kp
  sub := fun b z => by
    rcases own_set z with z | ⟨_, z, _⟩
    · exact y.sub b z
    · cases z; exact .inr ha
  par := fun j x h => by
    obtain ⟨d', e, q⟩ := y.par j x h
    obtain ⟨d'', e', q'⟩ := par_set (σ := σ1) (s := .own d) (v := some (.ref a)) hn e
    exact ⟨d'', e', q'.trans q⟩
theorem set_read {i : Nat} (R : RepS X.K T F H σ st) (q : RS X T W F σ H st D (sSet i fe st)) : tV X T W m false fe σ H fun x H1 => D.nx (σ.set i (some x)) H1 := by
  refine tG.firstS R q fun d st1 v H1 e1 R1 y1 q1 h1 => ?_
  split at h1
  · exact h1 _ _ (R1.setV q1.clean) (y1.sgo.setV (by assumption))
  · exact h1.elim
theorem own_read {i : Nat} (R : RepS X.K T F H σ st) (q : RS X T W F σ H st D (sOwn i fe st)) : RF X T W m F σ H st (fun x H1 => D.nx (σ.set i (some x)) H1) (fe st) := by
  unfold sOwn bindS at q
  cases e : fe st with
  | ok d st' =>
    rw [e] at q
    intro a H' R' n y o z
    dsimp only at q
    split at q
    · exact q _ _ (R'.setW n o) (y.sgo.setW (by assumption) z)
    · exact q.elim
  | exc c st' => rw [e] at q; exact fun H' C hc R y => q σ H' C hc R y.sgo
  | bad => rw [e] at q; exact q
theorem VS.set {i : Nat} {x : Str} {pos' : Pos} (hN : X.N.Nodup) (hi : X.N[i]? = some x) (hx : Loc X.env.scope x) (he : VE X T W m false e fe) (hs : swapsWith e (some (.Name x pos')) pos.line X.env = pure false := by rfl) (hf : X.fn x = true ∨ X.env.scope.names.lookup x = some .local := by first | exact .inl rfl | exact .inr rfl | assumption) :
    VS X T W (.Assign [.Name x pos'] e pos) (sSet i fe) := ⟨ps_weak (ps_set hN hi hx he.pe hs hf) fun D σ H ⟨F, st, R, q⟩ => set_read R q⟩
theorem VS.own {i : Nat} {x : Str} {pos' : Pos} (hN : X.N.Nodup) (hi : X.N[i]? = some x) (hx : Loc X.env.scope x) (he : VF X T W m e fe) (hs : swapsWith e (some (.Name x pos')) pos.line X.env = pure false := by rfl) (hf : X.fn x = true ∨ X.env.scope.names.lookup x = some .local := by first | exact .inl rfl | exact .inr rfl | assumption) :
    VS X T W (.Assign [.Name x pos'] e pos) (sOwn i fe) := ⟨ps_weak (ps_set hN hi hx he.pe hs hf) fun D σ H ⟨F, st, R, q⟩ => ⟨F, st, R, own_read R q⟩⟩
/-- an expression for what it does -/
def sEx (fe : Ev) : Es' := fun st => bindS (fe st) fun _ st' => .nx st'
theorem VS.ex (he : VE X T W m r e fe) (hs : swapsWith e none pos.line X.env = pure false := by rfl) : VS X T W (.Expr e pos) (sEx fe) :=
  ⟨ps_weak (ps_expr he.pe hs) fun D σ H ⟨F, st, R, q⟩ => tG.firstS R q fun d st1 v H1 e1 R1 y1 q1 h1 => h1 σ H1 R1 y1.sgo⟩
def sRet (fe : Ev) : Es' := fun st => bindS (fe st) fun d st' => .rt d st'
def sRetF (fe : Ev) : Es' := fun st => bindS (fe st) fun d st' => .rf d st'
/-- an owned one is handed back -/
def sRetO (i : Nat) : Es' := fun st => match st[i]? with
  | some (.own d) => .rf d (st.set i .un)
  | _ => .bad
theorem VS.ret (he : VE X T W m false e fe) : VS X T W (.Return (some e) pos) (sRet fe) :=
  ⟨ps_weak (ps_ret he.pe) fun D σ H ⟨F, st, R, q⟩ => tG.firstS R q fun d st1 v H1 e1 R1 y1 q1 h1 => h1 v σ H1 R1 y1.sgo q1.clean⟩
theorem VS.retF (he : VF X T W m e fe) : VS X T W (.Return (some e) pos) (sRetF fe) :=
  ⟨ps_weak (ps_ret he.pe) fun D σ H ⟨F, st, R, q⟩ => by
    refine ⟨F, st, R, ?_⟩
    unfold sRetF bindS at q
    cases e : fe st with
    | ok d st' => rw [e] at q; exact fun a H' R' n y o z => q a σ H' R' n y.sgo o (.inr z)
    | exc c st' => rw [e] at q; exact fun H' C hc R y => q σ H' C hc R y.sgo
    | bad => rw [e] at q; exact q⟩
theorem VS.retN : VS X T W (.Return none pos) (sRet (vC .none)) := ⟨ps_weak ps_retN fun D σ H ⟨F, st, R, q⟩ => q .non σ H R SGo.refl .non⟩
/-- an owned slot is let go, its list forbidden from here on -/
theorem RepS.letgo {K : PySem.W.Frag} {i : Nat} {d : Vs.D} (R : RepS K T F H σ st) (h : st[i]? = some (.own d)) :
    ∃ a, σ[i]? = some (some (.ref a)) ∧ RepS K T (And1 F a) H σ (st.set i .un) ∧ ¬ Bd F σ (st.set i .un) a ∧ OwnRep K (Bd (And1 F a) σ (st.set i .un)) H d a ∧ Own σ st a := by
  have hO : getO st i = some d := by unfold getO; rw [h]
  have hl := (List.getElem?_eq_some_iff.mp h).1
  obtain ⟨a, h1, h2, h3⟩ := R.ow i d hO
  have oa : Own σ st a := ⟨i, d, hO, h1⟩
  have k0 := Kp.refl (fun _ => False) H
  have gO : ∀ {j : Nat} {x : Vs.D}, getO (st.set i .un) j = some x → j ≠ i ∧ getO st j = some x := fun {j x} g => by
    have e : j ≠ i := fun e => by
      subst e
      have : getO (st.set j .un) j = none := by unfold getO; simp [hl]
      rw [this] at g; cases g
    exact ⟨e, by rw [← getO_setO2 (s := .un) e]; exact g⟩
  have oS : ∀ {b : Addr}, Own σ (st.set i .un) b → Own σ st b := fun {b} ⟨j, x, g1, g2⟩ => ⟨j, x, (gO g1).2, g2⟩
  have hB : ∀ b, Bd (And1 F a) σ (st.set i .un) b → Bd F σ st b ∨ H b = none := fun b z => by
    rcases z with (z | z) | z
    · exact .inl (.inl z)
    · exact .inl (.inr (by rw [z]; exact oa))
    · exact .inl (.inr (oS z))
  have na : ¬ Bd F σ (st.set i .un) a := by
    rintro (z | ⟨j, x, g1, g2⟩)
    · exact h2 z
    · obtain ⟨e, g1'⟩ := gO g1
      exact e (R.dis j i x d a g1' hO g2 h1)
  refine ⟨a, h1, ⟨fun b z => ?_, by rw [List.length_set]; exact R.len, fun j x hj => ?_, fun j x hj => ?_, fun j ns hj => ?_, fun j l x y b g1 g2 g3 g4 => R.dis j l x y b (gO g1).2 (gO g2).2 g3 g4, R.tab⟩, na, h3.step k0 (fun _ z => z.elim) hB fun z => z, oa⟩
  · rcases z with z | z
    · exact R.dom b z
    · rw [z]; exact R.own_there oa
  · have e : j ≠ i := fun e => by subst e; simp [hl] at hj
    rw [List.getElem?_set_ne (Ne.symm e)] at hj
    obtain ⟨v, e1, e2⟩ := R.im j x hj
    exact ⟨v, e1, e2.step k0 (fun _ z => z.elim) hB⟩
  · obtain ⟨e, hj'⟩ := gO hj
    obtain ⟨b, e1, e2, e3⟩ := R.ow j x hj'
    refine ⟨b, e1, fun z => ?_, e3.step k0 (fun _ z => z.elim) hB fun z => z⟩
    rcases z with z | z
    · exact e2 z
    · subst z; exact na (.inr ⟨j, x, hj, e1⟩)
  · have e : j ≠ i := fun e => by subst e; simp [hl] at hj
    rw [List.getElem?_set_ne (Ne.symm e)] at hj
    obtain ⟨b, e1, e2⟩ := R.scr j ns hj
    exact ⟨b, e1, e2.step k0 (fun _ z => z.elim) hB⟩
theorem SGo.letgo {i : Nat} (hn : noPar st i = true) : SGo σ H st σ H (st.set i .un) :=
  ⟨Kp.refl _ _, fun b ⟨j, x, g1, g2⟩ => .inl (by
    by_cases e : j = i
    · subst e
      have hl := getO_lt g1
      rw [List.length_set] at hl
      have : getO (st.set j .un) j = none := by unfold getO; simp [hl]
      rw [Owd, this] at g1; cases g1
    · rw [Owd, getO_setO2 e] at g1; exact ⟨j, x, g1, g2⟩), fun j x h => by
    obtain ⟨d', e, _⟩ := par_set (σ := σ) (s := .un) (v := none) hn h
    exact ⟨d', e, rfl⟩⟩
theorem noPar_own {i : Nat} {d : Vs.D} (h : st[i]? = some (.own d)) : noPar st i = true := by unfold noPar; rw [h]
theorem VS.retO {i : Nat} {x : Str} {pos' : Pos} (hN : X.N[i]? = some x) (hv : Vis X.env.scope x) (hd : (x == ("__debug__" : Str)) = false := by decide) (hcd : (x == ("__classdict__" : Str)) = false := by decide) : VS X T W (.Return (some (.Name x pos')) pos) (sRetO i) :=
  ⟨ps_weak (ps_ret (pe_var hN hv hd hcd)) fun D σ H ⟨F, st, R, q⟩ => by
    unfold sRetO at q
    split at q
    · rename_i d e
      obtain ⟨a, h1, h2, h3, h4, h5⟩ := R.letgo e
      exact ⟨.ref a, h1, q a σ H h2 h3 (SGo.letgo (noPar_own e)) h4 (.inl h5)⟩
    · exact q.elim⟩
theorem VS.pass : VS X T W (.Pass pos) sNil := ⟨ps_weak ps_pass fun D σ H ⟨F, st, R, q⟩ => q σ H R SGo.refl⟩
theorem VS.bk : VS X T W (.Break pos) (fun st => .bk st) := ⟨ps_weak ps_break fun D σ H ⟨F, st, R, q⟩ => q σ H R SGo.refl⟩
theorem VS.ct : VS X T W (.Continue pos) (fun st => .ct st) := ⟨ps_weak ps_continue fun D σ H ⟨F, st, R, q⟩ => q σ H R SGo.refl⟩
def sIf (c : Et) (f g : Es') : Es' := fun st => bindS (c st) fun b st' => if b = true then f st' else g st'
theorem VS.if {c : Expr} {a b : List Stmt} {fc : Et} (hc : VT X T W m c fc) (ha : VSs X T W a f) (hb : VSs X T W b g) : VS X T W (.If c a b pos) (sIf fc f g) :=
  ⟨ps_weak (ps_if hc.pt ha.ps hb.ps) fun D σ H ⟨F, st, R, q⟩ => by
    refine tG.firstS R q fun d st1 v H1 e1 R1 y1 q1 h1 => ?_
    subst q1
    cases d with
    | true => exact ⟨F, st1, R1, h1.back y1.sgo⟩
    | false => exact ⟨F, st1, R1, h1.back y1.sgo⟩⟩
/-! ### what is no longer asked is forgotten -/
def wipe1 (st : Sts) (i : Nat) : Sts := if noPar st i = true then st.set i .un else st
def wipes : List Nat → Sts → Sts
  | [], st => st
  | i :: l, st => wipes l (wipe1 st i)
theorem RepS.wipe1 {K : PySem.W.Frag} {i : Nat} (R : RepS K T F H σ st) : RepS K T F H σ (wipe1 st i) ∧ SGo σ H st σ H (wipe1 st i) := by
  unfold Vs.wipe1
  split
  · exact ⟨R.setU, SGo.letgo (by assumption)⟩
  · exact ⟨R, SGo.refl⟩
theorem RepS.wipes {K : PySem.W.Frag} : ∀ (l : List Nat) {st : Sts}, RepS K T F H σ st → RepS K T F H σ (wipes l st) ∧ SGo σ H st σ H (wipes l st)
  | [], _, R => ⟨R, SGo.refl⟩
  | i :: l, st, R => by
    obtain ⟨R1, g1⟩ := R.wipe1 (i := i)
    obtain ⟨R2, g2⟩ := RepS.wipes l R1
    exact ⟨R2, g1.trans g2⟩
def sWipe (l : List Nat) (f : Es') : Es' := fun st => f (wipes l st)
theorem VSs.wipe (l : List Nat) (h : VSs X T W ss f) : VSs X T W ss (sWipe l f) := ⟨pss_weak h.ps fun D σ H ⟨F, st, R, q⟩ => by
  obtain ⟨R1, g1⟩ := RepS.wipes l R
  exact ⟨F, _, R1, RS.back g1 q⟩⟩
end
end Vs

set_option Elab.async false
set_option linter.all false
set_option maxRecDepth 100000
set_option maxHeartbeats 4000000
namespace Vs
open PySem PySem.Spec PyProof.Rows L2

/-! ### arguments -/
def RepL (r : Bool) (K : PySem.W.Frag) (B : Addr → Prop) (H : Hp) : List D → List V → Prop
  | [], [] => True
  | d :: ds, v :: vs => RepR r K B H d v ∧ RepL r K B H ds vs
  | _, _ => False
abbrev tA (X : Cx) (T : Addr → Prop) (W : Wx) (m r : Bool) (f : Ea) : TA := tG X T W m (fun B H ds vs => RepL r X.K B H ds vs) f
structure VA (X : Cx) (T : Addr → Prop) (W : Wx) (m r : Bool) (es : List Expr) (f : Ea) : Prop where
  pa : PA X es (tA X T W m r f)
theorem pa_weak {X : Cx} {es : List Expr} {t t' : TA} (h : PA X es t) (w : ∀ σ H Q, t' σ H Q → t σ H Q) : PA X es t' := ⟨fun pos pins s σ H Q I q => h.run pos pins s σ H Q I (w σ H Q q)⟩
def aNil : Ea := fun st => .ok [] st
def aCons (f : Ev) (g : Ea) : Ea := fun st => (f st).bind fun d st1 => (g st1).bind fun ds st2 => .ok (d :: ds) st2
theorem RepL.clean {K : PySem.W.Frag} {B : Addr → Prop} {H : Hp} : ∀ {ds : List D} {vs : List V}, RepL false K B H ds vs → RepA K B H ds vs
  | [], [], _ => .nil
  | _ :: _, _ :: _, ⟨a, b⟩ => .cons a.clean (RepL.clean b)
  | [], _ :: _, h => h.elim
  | _ :: _, [], h => h.elim
theorem RepL.one {K : PySem.W.Frag} {B : Addr → Prop} {H : Hp} {r : Bool} {d : D} {vs : List V} (h : RepL r K B H [d] vs) : ∃ v, vs = [v] ∧ RepR r K B H d v := by
  cases vs with
  | nil => exact h.elim
  | cons v vs =>
    cases vs with
    | nil => exact ⟨v, rfl, h.1⟩
    | cons _ _ => exact h.2.elim
theorem RepL.two {K : PySem.W.Frag} {B : Addr → Prop} {H : Hp} {r : Bool} {d e : D} {vs : List V} (h : RepL r K B H [d, e] vs) : ∃ v u, vs = [v, u] ∧ RepR r K B H d v ∧ RepR r K B H e u := by
  cases vs with
  | nil => exact h.elim
  | cons v vs =>
    obtain ⟨u, rfl, q⟩ := RepL.one h.2
    exact ⟨v, u, rfl, h.1, q⟩
section
variable {X : Cx} {T F : Addr → Prop} {W : Wx} {m m1 m2 r : Bool} {σ : St} {H : Hp} {st : Sts} {Q : VK} {e : Expr} {es : List Expr} {f : Ev} {g fa : Ea} {x : Str} {p pos : Pos}
theorem VA.nil : VA X T W false r [] aNil := ⟨pa_weak pa_nil fun σ H Q ⟨F, st, R, q⟩ => q [] H R XGo.refl trivial⟩
theorem VA.cons (ha : VE X T W m1 r e f) (hb : VA X T W m2 r es g) (hs : starEach (e :: es) X.env = (false, eval e X.env) :: starEach es X.env := by rfl) (hr : r = true → m2 = false := by first | (intro h; cases h; done) | (intro _; rfl)) : VA X T W (m1 || m2) r (e :: es) (aCons f g) :=
  ⟨pa_weak (pa_cons ha.pe hb.pa hs) fun σ H Q ⟨F, st, R, q⟩ => by
    refine tG.first (m0 := m1) R q fun d1 st1 v1 H1 e1 R1 y1 q1 h1 => ?_
    have h1 := h1.back' (m2 := m2) y1
    refine tG.first (m0 := m2) R1 h1 fun ds st2 vs H2 e2 R2 y2 q2 h2 => ?_
    exact h2 _ H2 R2 y2 ⟨q1.go y2 hr, q2⟩⟩
theorem RepL.up {K : PySem.W.Frag} {B : Addr → Prop} {H : Hp} : ∀ {ds : List D} {vs : List V}, RepL false K B H ds vs → RepL r K B H ds vs
  | [], [], _ => trivial
  | _ :: _, _ :: _, ⟨a, b⟩ => ⟨a.mono (fun z => by cases z), RepL.up b⟩
  | [], _ :: _, h => h.elim
  | _ :: _, [], h => h.elim
theorem VA.weak (h : VA X T W m1 false es g) : VA X T W m1 r es g := ⟨pa_weak h.pa fun σ H Q ⟨F, st, R, q⟩ => ⟨F, st, R, q.mono (fun z => z) (fun B H ds vs z => z.up) fun _ _ z => z⟩⟩

/-! ### built-in functions by name -/
def callB (go : List D → Option D) (fa : Ea) : Ev := fun st => (fa st).bind fun ds st1 => ofO (go ds) st1
def CallV (X : Cx) (T : Addr → Prop) (r : Bool) (rr : List V → Hp → VK → Prop) (go : List D → Option D) : Prop :=
  ∀ (F : Addr → Prop) (σ : St) (H : Hp) (st : Sts) (xs : List V) (ds : List D) (d : D) (Q : VK), RepS X.K T F H σ st → RepL r X.K (Bd F σ st) H ds xs → go ds = some d → Fin' X T F σ H st d Q → rr xs H Q
/-- .. that make a new list or dict -/
def CallF (X : Cx) (T : Addr → Prop) (r : Bool) (rr : List V → Hp → VK → Prop) (go : List D → Option D) : Prop :=
  ∀ (F : Addr → Prop) (σ : St) (H : Hp) (st : Sts) (xs : List V) (ds : List D) (d : D) (Q : VK), RepS X.K T F H σ st → RepL r X.K (Bd F σ st) H ds xs → go ds = some d →
    (∀ (u : HO) (p : Addr), H p = none → NewRep X.K (Bd F σ st) H d u → Q (.ref p) (upd H p u)) → rr xs H Q
theorem tCB_of {rr : List V → Hp → VK → Prop} {go : List D → Option D} (ho : CallV X T r rr go) (R : RepS X.K T F H σ st) (h : RV X T W m false F σ H st Q (callB go fa st)) : tCB rr (tA X T W m r fa) σ H Q := by
  refine tG.first R h fun ds st1 vs H1 e1 R1 y1 q1 h1 => ?_
  obtain ⟨d, eg, q⟩ := RG.fin y1 h1 id
  exact ho F σ H1 st1 vs ds d Q R1 q1 eg q
theorem tCBF_of {rr : List V → Hp → VK → Prop} {go : List D → Option D} (ho : CallF X T r rr go) (R : RepS X.K T F H σ st) (h : RF X T W m F σ H st Q (callB go fa st)) : tCB rr (tA X T W m r fa) σ H Q := by
  refine tG.firstF R h fun ds st1 vs H1 e1 R1 y1 q1 h1 => ?_
  obtain ⟨d, eg, q⟩ := RF.new y1 h1 R1
  exact ho F σ H1 st1 vs ds d Q R1 q1 eg q
theorem VE.callB {id : String} {rr : List V → Hp → VK → Prop} {go : List D → Option D} (hc : CallR X (.builtin id) rr) (ho : CallV X T r rr go) (hg : Gl X x) (hm : X.mg x = none) (hv : bootBuiltins x = some (.builtin id)) (ha : VA X T W m r (e :: es) fa) (hn : x ≠ "__name__" := by decide) (hdb : (x == ("__debug__" : Str)) = false := by decide)
    (he : starEach (e :: es) X.env = (false, eval e X.env) :: starEach es X.env := by rfl) (hpl : (backTo pos (starEach es X.env)).any (·.1) = false := by rfl) : VE X T W m false (.Call (.Name x p) (e :: es) [] pos) (Vs.callB go fa) :=
  ⟨pe_weak (pe_callB hc hg hm hv ha.pa hn hdb he hpl) fun σ H Q ⟨F, st, R, q⟩ => tCB_of ho R q⟩
theorem VE.callT {id : String} {rr : List V → Hp → VK → Prop} {go : List D → Option D} (hc : CallR X (.type id) rr) (ho : CallV X T r rr go) (hg : Gl X x) (hm : X.mg x = none) (hv : bootBuiltins x = some (.type id)) (ha : VA X T W m r (e :: es) fa) (hn : x ≠ "__name__" := by decide) (hdb : (x == ("__debug__" : Str)) = false := by decide)
    (he : starEach (e :: es) X.env = (false, eval e X.env) :: starEach es X.env := by rfl) (hpl : (backTo pos (starEach es X.env)).any (·.1) = false := by rfl) : VE X T W m false (.Call (.Name x p) (e :: es) [] pos) (Vs.callB go fa) :=
  ⟨pe_weak (pe_callTy hc hg hm hv ha.pa hn hdb he hpl) fun σ H Q ⟨F, st, R, q⟩ => tCB_of ho R q⟩
theorem VF.callB {id : String} {rr : List V → Hp → VK → Prop} {go : List D → Option D} (hc : CallR X (.builtin id) rr) (ho : CallF X T r rr go) (hg : Gl X x) (hm : X.mg x = none) (hv : bootBuiltins x = some (.builtin id)) (ha : VA X T W m r (e :: es) fa) (hn : x ≠ "__name__" := by decide) (hdb : (x == ("__debug__" : Str)) = false := by decide)
    (he : starEach (e :: es) X.env = (false, eval e X.env) :: starEach es X.env := by rfl) (hpl : (backTo pos (starEach es X.env)).any (·.1) = false := by rfl) : VF X T W m (.Call (.Name x p) (e :: es) [] pos) (Vs.callB go fa) :=
  ⟨pe_weak (pe_callB hc hg hm hv ha.pa hn hdb he hpl) fun σ H Q ⟨F, st, R, q⟩ => tCBF_of ho R q⟩
theorem VF.callT {id : String} {rr : List V → Hp → VK → Prop} {go : List D → Option D} (hc : CallR X (.type id) rr) (ho : CallF X T r rr go) (hg : Gl X x) (hm : X.mg x = none) (hv : bootBuiltins x = some (.type id)) (ha : VA X T W m r (e :: es) fa) (hn : x ≠ "__name__" := by decide) (hdb : (x == ("__debug__" : Str)) = false := by decide)
    (he : starEach (e :: es) X.env = (false, eval e X.env) :: starEach es X.env := by rfl) (hpl : (backTo pos (starEach es X.env)).any (·.1) = false := by rfl) : VF X T W m (.Call (.Name x p) (e :: es) [] pos) (Vs.callB go fa) :=
  ⟨pe_weak (pe_callTy hc hg hm hv ha.pa hn hdb he hpl) fun σ H Q ⟨F, st, R, q⟩ => tCBF_of ho R q⟩
/-! ### displays -/
def szL (n : Nat) : Bool := decide (n ≤ sizeLine)
def mkT (ds : List D) : Option D := if szL ds.length = true then some (.tuple ds) else none
def mkL (ds : List D) : Option D := if szL ds.length = true then some (.list ds) else none
theorem RepA.len_le {K : PySem.W.Frag} {B : Addr → Prop} {ds : List D} {vs : List V} (h : RepA K B H ds vs) (z : szL ds.length = true) : vs.length ≤ sizeLine := by rw [← h.length]; exact of_decide_eq_true z
theorem VE.tup {k : Nat} (ha : VA X T W m false es fa) : VE X T W m false (.Tuple es k pos) (Vs.callB mkT fa) :=
  ⟨pe_weak (pe_tup ha.pa) fun σ H Q ⟨F, st, R, q⟩ => by
    refine tG.first R q fun ds st1 vs H1 e1 R1 y1 q1 h1 => ?_
    obtain ⟨d, eg, q⟩ := RG.fin y1 h1 id
    unfold mkT at eg
    split at eg
    · cases eg
      have q1 := q1.clean
      exact ⟨q1.len_le (by assumption), fun p hp => q.new R1 hp (.tup upd_same (q1.upd hp))⟩
    · cases eg⟩
theorem VF.lst (ha : VA X T W m false es fa) : VF X T W m (.List es pos) (Vs.callB mkL fa) :=
  ⟨pe_weak (pe_lst ha.pa) fun σ H Q ⟨F, st, R, q⟩ => by
    refine tG.firstF R q fun ds st1 vs H1 e1 R1 y1 q1 h1 => ?_
    obtain ⟨d, eg, q⟩ := RF.new y1 h1 R1
    unfold mkL at eg
    split at eg
    · cases eg
      have q1 := q1.clean
      exact ⟨q1.len_le (by assumption), fun p hp => q _ p hp (.lst q1)⟩
    · cases eg⟩
end

/-! ### defs of the program: their promises -/
/-- the parameters at the entry: io, the list that is handed in to be changed -/
def par0 (io : Option (Addr × D)) (ds : List D) : Sts := match io with
  | none => ds.map .im
  | some (_, l) => .par l :: ds.map .im
/-- behind a call -/
structure CGo (K : PySem.W.Frag) (T B : Addr → Prop) (io : Option (Addr × D)) (H H' : Hp) (st' : Sts) : Prop where
  kp : Kp (fun b => io.map (·.1) = some b) H H'
  tab : ∀ P, T P → GxR.TabG H' P
  io : ∀ a l, io = some (a, l) → ∃ l', st'[0]? = some (.par l') ∧ OwnRep K B H' l' a
def RC (mg : Str → Option Value) (K : PySem.W.Frag) (T B : Addr → Prop) (io : Option (Addr × D)) (H : Hp) (Q : VK) (E : XK) : Ou → Prop
  | .nx st' => ∀ H', CGo K T B io H H' st' → Q .non H'
  | .rt d st' => ∀ v H', CGo K T B io H H' st' → Rep K B H' d v → Q v H'
  | .rf d st' => ∀ a H', CGo K T B io H H' st' → OwnRep K (fun b => B b ∨ b = a) H' d a → H a = none → Q (.ref a) H'
  | .exc c st' => ∀ H' C, mg c = some (.ref C) → CGo K T B io H H' st' → E (.ref C) none H'
  | _ => False
/-- called with the data ds (and, where io is said, a list ahead of them) it does what M says -/
def spM (mg : Str → Option Value) (K : PySem.W.Frag) (T : Addr → Prop) (io : Bool) (n : Nat) (M : Es') : Sp := fun vs H Q E => ∃ (B : Addr → Prop) (l : Option (Addr × D)) (ds : List D), vs.length = n ∧ l.isSome = io ∧ (∀ a, B a → H a ≠ none) ∧ (∀ P, T P → GxR.TabG H P) ∧
  (match l with
    | none => RepA K B H ds vs
    | some (a, d) => B a ∧ ∃ vs', vs = .ref a :: vs' ∧ OwnRep K B H d a ∧ RepA K B H ds vs') ∧ RC mg K T B l H Q E (M (par0 l ds))
theorem repA_get {K : PySem.W.Frag} {B : Addr → Prop} {H : Hp} {ds : List D} {vs : List V} (h : RepA K B H ds vs) {i : Nat} {d : D} (e : (ds.map Sl.im)[i]? = some (.im d)) : ∃ v, vs[i]? = some v ∧ Rep K B H d v := by
  rw [List.getElem?_map] at e
  cases q : ds[i]? with
  | none => rw [q] at e; cases e
  | some x => rw [q] at e; cases e; exact h.getD q
/-- the frame at the entry of a def: n parameters, N names -/
def full (N : Nat) (ps : Sts) : Sts := ps ++ List.replicate (N - ps.length) .un
theorem full_get {N : Nat} {ps : Sts} {i : Nat} {s : Sl} (h : (full N ps)[i]? = some s) : s = .un ∨ ps[i]? = some s := by
  unfold full at h
  by_cases hi : i < ps.length
  · rw [List.getElem?_append_left hi] at h; exact .inr h
  · rw [List.getElem?_append_right (Nat.le_of_not_lt hi), List.getElem?_replicate] at h
    split at h
    · exact .inl (Option.some.inj h).symm
    · cases h
theorem start_get {N : List Str} {vs : List V} {i : Nat} {v : V} (h : vs[i]? = some v) : (L2.start N vs)[i]? = some (some v) := by
  unfold L2.start
  have hl := (List.getElem?_eq_some_iff.mp h).1
  rw [List.getElem?_append_left (by simpa using hl), List.getElem?_map, h]; rfl
/-- the state at a def's entry -/
theorem entry_rep {K : PySem.W.Frag} {T B : Addr → Prop} {H : Hp} {N : List Str} {l : Option (Addr × D)} {ds : List D} {vs : List V} (hn : vs.length ≤ N.length) (hd : ∀ a, B a → H a ≠ none) (ht : ∀ P, T P → GxR.TabG H P)
    (h : match l with
      | none => RepA K B H ds vs
      | some (a, d) => B a ∧ ∃ vs', vs = .ref a :: vs' ∧ OwnRep K B H d a ∧ RepA K B H ds vs') :
    RepS K T (fun b => B b ∧ l.map (·.1) ≠ some b) H (L2.start N vs) (full N.length (par0 l ds)) ∧ (∀ b, Own (L2.start N vs) (full N.length (par0 l ds)) b ↔ l.map (·.1) = some b) := by
  have k0 := Kp.refl (fun _ => False) H
  cases l with
  | none =>
    have hlen : vs.length = ds.length := h.length.symm
    have noO : ∀ {i : Nat} {d : D}, getO (full N.length (par0 none ds)) i = some d → False := fun {i d} g => by
      rcases getO_or g with q | q
      · rcases full_get q with q | q
        · cases q
        · simp only [par0, List.getElem?_map] at q
          cases e : ds[i]? <;> rw [e] at q <;> cases q
      · rcases full_get q with q | q
        · cases q
        · simp only [par0, List.getElem?_map] at q
          cases e : ds[i]? <;> rw [e] at q <;> cases q
    have hOwn : ∀ b, Own (L2.start N vs) (full N.length (par0 none ds)) b → False := fun b ⟨i, d, g, _⟩ => noO g
    refine ⟨⟨fun a z => hd a z.1, ?_, fun i d e => ?_, fun i d g => (noO g).elim, fun i ns e => ?_, fun i j d e a g _ _ _ => (noO g).elim, ht⟩, fun b => ⟨fun z => (hOwn b z).elim, fun z => by cases z⟩⟩
    · simp [L2.start, full, par0, hlen] <;> omega
    · rcases full_get e with q | q
      · cases q
      · obtain ⟨v, e1, e2⟩ := repA_get h q
        exact ⟨v, start_get e1, e2.step k0 (fun _ z => z.elim) fun b z => .inl (z.elim (fun z => z.1) fun z => (hOwn b z).elim)⟩
    · rcases full_get e with q | q
      · cases q
      · simp only [par0, List.getElem?_map] at q
        cases e : ds[i]? <;> rw [e] at q <;> cases q
  | some ad =>
    obtain ⟨a, d0⟩ := ad
    obtain ⟨hBa, vs', rfl, ho, hr⟩ := h
    have hlen : vs'.length = ds.length := hr.length.symm
    have s0 : (L2.start N (V.ref a :: vs'))[0]? = some (some (.ref a)) := start_get rfl
    have p0 : ∀ {i : Nat} {s : Sl}, (full N.length (par0 (some (a, d0)) ds))[i]? = some s → s = .un ∨ (i = 0 ∧ s = .par d0) ∨ ∃ j d, i = j + 1 ∧ s = .im d ∧ ds[j]? = some d := fun {i s} e => by
      rcases full_get e with q | q
      · exact .inl q
      · cases i with
        | zero => exact .inr (.inl ⟨rfl, (Option.some.inj q).symm⟩)
        | succ j =>
          simp only [par0, List.getElem?_cons_succ, List.getElem?_map] at q
          cases e : ds[j]? with
          | none => rw [e] at q; cases q
          | some d => rw [e] at q; exact .inr (.inr ⟨j, d, rfl, (Option.some.inj q).symm, e⟩)
    have gO : ∀ {i : Nat} {d : D}, getO (full N.length (par0 (some (a, d0)) ds)) i = some d → i = 0 ∧ d = d0 := fun {i d} g => by
      rcases getO_or g with q | q
      · rcases p0 q with q | ⟨_, q⟩ | ⟨_, _, _, q, _⟩ <;> cases q
      · rcases p0 q with q | ⟨e, q⟩ | ⟨_, _, _, q, _⟩
        · cases q
        · cases q; exact ⟨e, rfl⟩
        · cases q
    have g0 : getO (full N.length (par0 (some (a, d0)) ds)) 0 = some d0 := by
      have : (full N.length (par0 (some (a, d0)) ds))[0]? = some (.par d0) := by simp [full, par0]
      unfold getO; rw [this]
    have hOwn : ∀ b, Own (L2.start N (V.ref a :: vs')) (full N.length (par0 (some (a, d0)) ds)) b ↔ some a = some b := fun b =>
      ⟨fun ⟨i, d, g, e⟩ => by
        obtain ⟨rfl, rfl⟩ := gO g
        rw [s0] at e; cases e; rfl, fun e => by cases e; exact ⟨0, d0, g0, s0⟩⟩
    have hB : ∀ b, Bd (fun b => B b ∧ (some (a, d0) : Option (Addr × D)).map (·.1) ≠ some b) (L2.start N (V.ref a :: vs')) (full N.length (par0 (some (a, d0)) ds)) b → B b ∨ H b = none := fun b z => .inl (z.elim (fun z => z.1) fun z => by
      have := (hOwn b).mp z
      cases this; exact hBa)
    refine ⟨⟨fun b z => hd b z.1, ?_, fun i d e => ?_, fun i d g => ?_, fun i ns e => ?_, fun i j d e b g1 g2 _ _ => (gO g1).1.trans (gO g2).1.symm, ht⟩, hOwn⟩
    · simp [L2.start, full, par0, hlen] <;> omega
    · rcases p0 e with q | ⟨_, q⟩ | ⟨j, d', rfl, q, e'⟩
      · cases q
      · cases q
      · cases q
        obtain ⟨v, e1, e2⟩ := hr.getD e'
        exact ⟨v, start_get (by simpa using e1), e2.step k0 (fun _ z => z.elim) hB⟩
    · obtain ⟨rfl, rfl⟩ := gO g
      exact ⟨a, s0, fun z => z.2 rfl, ho.step k0 (fun _ z => z.elim) hB fun z => z⟩
    · rcases p0 e with q | ⟨_, q⟩ | ⟨_, _, _, q, _⟩ <;> cases q
end Vs
namespace Vs
open PySem PySem.Spec PyProof.Rows L2
/-- THE RULE for a def, its code's object said -/
theorem okC {P : Program} {w : World} {K : PySem.W.Frag} {mg : Str → Option Value} {base : Heap} {x qual : Str} {params : Arguments} {body : List Stmt} {scope : Scope} {dvs : List V} {kws : List (Str × V)} {f : Addr} {fd : FuncData} {CX : CXT} {N ps : List Str} {k : Nat} {sp : Sp} (F : FunD K x qual params body scope dvs kws f fd) (S : FnScope N ps scope) (len : ∀ vs H Q E, sp vs H Q E → vs.length = ps.length)
    (hbody : ∀ (A : Around) (outer : List Env) (s : Shared) (H : Hp) (vs : List V) (Q : VK) (E : XK), Room k (A.deeper (envOfC qual scope s.heap.objs.size f fd.code)) → sp vs H Q E →
      ∃ t, PSs (cxOf CX P w K mg base N qual scope f fd.code A outer s H E) body t ∧ t { nx := fun _ H' => Q .non H', rt := Q } (L2.start N vs) H) : FnOk P w K mg base CX (k + 1) f fd ps sp := by
  obtain ⟨oc, od, dV, kV, doc, pm, an, cdv, ct, osl, rfl, lk, hcd, _, _⟩ := F.ex
  exact fn_of lk hcd S len fun A outer s H vs Q E hr hsp => hbody A outer s H vs Q E hr hsp
/-- THE RULE for a def: from its body -/
theorem fn_ok {P : Program} {w : World} {K : PySem.W.Frag} {mg : Str → Option Value} {base : Heap} {T : Addr → Prop} {x qual : Str} {s : Stmt} {f : Addr} {fd : FuncData} {N ps : List Str} {k : Nat} {io : Bool} {M : Es'}
    (Fn : FunD K x qual (defArgs s) (defBody s) (defScope s) [] [] f fd) (S : FnScope N ps (defScope s)) (hps : ps.length ≤ N.length)
    (body : ∀ (A : Around) (outer : List Env) (sh : Shared) (H : Hp) (E : XK), Room k (A.deeper (envOfC qual (defScope s) sh.heap.objs.size f fd.code)) →
      VSs (cxOf (L2N.CX P w) P w K mg base N qual (defScope s) f fd.code A outer sh H E) T (fun cls d _ H => E cls d H) (defBody s) M) :
    FnOk P w K mg base (L2N.CX P w) (k + 1) f fd ps (spM mg K T io ps.length fun p => M (full N.length p)) := by
  refine okC Fn S (fun vs H Q E h => by obtain ⟨B, l, ds, h1, _⟩ := h; exact h1) fun A outer sh H vs Q E hr h => ?_
  obtain ⟨B, l, ds, h1, h2, hd, ht, hrep, hc⟩ := h
  refine ⟨_, (body A outer sh H E hr).ps, ?_⟩
  obtain ⟨R, hO⟩ := entry_rep (N := N) (by rw [h1]; exact hps) hd ht hrep
  refine ⟨_, _, R, ?_⟩
  -- behind the body
  have back : ∀ {σ' : St} {H' : Hp} {st' : Sts}, RepS K T (fun b => B b ∧ l.map (·.1) ≠ some b) H' σ' st' → SGo (L2.start N vs) H (full N.length (par0 l ds)) σ' H' st' →
      CGo K T B l H H' st' ∧ ∀ b, B b → Bd (fun b => B b ∧ l.map (·.1) ≠ some b) σ' st' b := fun {σ' H' st'} R' g => by
    have hB : ∀ b, B b → Bd (fun b => B b ∧ l.map (·.1) ≠ some b) σ' st' b := fun b hb => by
      by_cases e : l.map (·.1) = some b
      · refine .inr ?_
        cases l with
        | none => cases e
        | some ad =>
          obtain ⟨a, d0⟩ := ad
          cases e
          obtain ⟨d', e1, e2⟩ := g.par 0 d0 (by simp [full, par0])
          obtain ⟨_, vs', rfl, _⟩ := hrep
          exact ⟨0, d', by unfold Owd getO; rw [e1], by rw [e2]; exact start_get rfl⟩
      · exact .inl ⟨hb, e⟩
    refine ⟨⟨g.kp.mono fun b z => (hO b).mp z, R'.tab, fun a d0 e => ?_⟩, hB⟩
    subst e
    obtain ⟨d', e1, e2⟩ := g.par 0 d0 (by simp [full, par0])
    obtain ⟨_, vs', rfl, _⟩ := hrep
    obtain ⟨b, q1, q2, q3⟩ := R'.ow 0 d' (by unfold Owd getO; rw [e1])
    have e3 : σ'[0]? = some (some (.ref a)) := by rw [e2]; exact start_get rfl
    rw [e3] at q1; cases q1
    exact ⟨d', e1, q3.step (Kp.refl (fun _ => False) H') (fun _ z => z.elim) (fun b z => .inl (hB b z)) fun z => z⟩
  have hc : RC mg K T B l H Q E (M (full N.length (par0 l ds))) := hc
  revert hc
  cases eM : M (full N.length (par0 l ds)) with
  | nx st' => exact fun hc σ' H' R' g => hc H' (back R' g).1
  | bk st' => exact fun hc => hc.elim
  | ct st' => exact fun hc => hc.elim
  | bad => exact fun hc => hc.elim
  | rt d st' =>
    intro hc v σ' H' R' g q
    obtain ⟨c, hB⟩ := back R' g
    exact hc v H' c (q.step (Kp.refl (fun _ => False) H') (fun _ z => z.elim) fun b z => .inl (hB b z))
  | exc c st' => exact fun hc σ' H' C hC R' g => hc H' C hC (back R' g).1
  | rf d st' =>
    intro hc a σ' H' R' n g q z
    have R'' := R'.more (F := fun b => B b ∧ l.map (·.1) ≠ some b) fun _ z => .inl z
    obtain ⟨c, hB⟩ := back R'' g
    refine hc a H' c (q.step (Kp.refl (fun _ => False) H') (fun _ z => z.elim) (fun b z => ?_) fun z => z) ?_
    · rcases z with z | z
      · exact .inl ((hB b z).imp (fun z => .inl z) id)
      · exact .inl (.inl (.inr z))
    · rcases z with z | z
      · have e := (hO a).mp z
        refine (n ?_).elim
        cases l with
        | none => cases e
        | some ad =>
          obtain ⟨a', d0⟩ := ad
          cases e
          exact hB a' hrep.1
      · exact z

/-! ### a call of such a def -/
def resP (st : Sts) : Ou → Res D
  | .rt d _ => .ok d st
  | .rf d _ => .ok d st
  | .nx _ => .ok .none st
  | .exc c _ => .exc c st
  | _ => .bad
/-- it hands back a new list or dict -/
def resF (st : Sts) : Ou → Res D
  | .rf d _ => .ok d st
  | .exc c _ => .exc c st
  | _ => .bad
def parOf (st : Sts) : Option D := match st[0]? with
  | some (Sl.par l) => some l
  | _ => none
theorem parOf_of {st : Sts} {l : D} (h : st[0]? = some (.par l)) : parOf st = some l := by unfold parOf; rw [h]
def upP (i : Nat) (st st' : Sts) : Sts := match parOf st' with
  | some l => setO st i l
  | none => st
def resD (i : Nat) (st : Sts) : Ou → Res D
  | .rt d st' => .ok d (upP i st st')
  | .rf d st' => .ok d (upP i st st')
  | .nx st' => .ok .none (upP i st st')
  | .exc c st' => .exc c (upP i st st')
  | _ => .bad
/-- only data go in -/
def callP (M : Es') (fa : Ea) : Ev := fun st => (fa st).bind fun ds st1 => resP st1 (M (ds.map Sl.im))
def callF (M : Es') (fa : Ea) : Ev := fun st => (fa st).bind fun ds st1 => resF st1 (M (ds.map Sl.im))
/-- .. and a list that i owns, to be changed -/
def callD (i : Nat) (M : Es') (fa : Ea) : Ev := fun st => if (getO st i).isSome = true then (fa st).bind fun ds st1 => match getO st1 i with
  | none => .bad
  | some l => resD i st1 (M (Sl.par l :: ds.map Sl.im)) else .bad
section
variable {X : Cx} {T F : Addr → Prop} {W : Wx} {m r : Bool} {σ : St} {H : Hp} {st : Sts} {Q : VK} {e : Expr} {es : List Expr} {fa : Ea} {x : Str} {p pos : Pos} {k n : Nat} {f : Addr} {fd : FuncData} {ps : List Str} {M : Es'}
theorem callP_read (n : Nat) (R : RepS X.K T F H σ st) {ds : List D} {vs : List V} (hn : vs.length = n) (q : RepA X.K (Bd F σ st) H ds vs)
    (h : RV X T W false false F σ H st Q (resP st (M (ds.map Sl.im)))) : spM X.mg X.K T false n M vs H Q (WE W σ) := by
  refine ⟨Bd F σ st, none, ds, hn, rfl, fun a z => R.bd_there z, R.tab, q, ?_⟩
  show RC X.mg X.K T (Bd F σ st) none H Q (WE W σ) (M (ds.map Sl.im))
  have go : ∀ {H' : Hp} {st' : Sts}, CGo X.K T (Bd F σ st) none H H' st' → RepS X.K T F H' σ st ∧ XGo false σ H H' st st := fun {H' st'} c =>
    have kp : Kp (fun _ => False) H H' := c.kp.mono fun _ z => by cases z
    ⟨R.kept kp fun P h _ => c.tab P h, XGo.same kp⟩
  revert h
  cases eM : M (ds.map Sl.im) with
  | nx st' => exact fun h H' c => h .non H' (go c).1 (go c).2 (.inl .non)
  | bk st' => exact fun h => h.elim
  | ct st' => exact fun h => h.elim
  | bad => exact fun h => h.elim
  | rt d st' => exact fun h v H' c z => h v H' (go c).1 (go c).2 (.inl z)
  | exc c st' => exact fun h H' C hC c => h H' C hC (go c).1 ((go c).2.mono fun z => by cases z)
  | rf d st' =>
    intro h a H' c o z
    refine h (.ref a) H' (go c).1 (go c).2 (.inl ((o.step (Kp.refl (fun _ => False) H') (fun _ z => z.elim) (fun b z => .inl (.inl z)) fun z => z).rep fun q => ?_))
    exact R.bd_there q z
theorem callF_read (n : Nat) (R : RepS X.K T F H σ st) {ds : List D} {vs : List V} (hn : vs.length = n) (q : RepA X.K (Bd F σ st) H ds vs)
    (h : RF X T W m F σ H st Q (resF st (M (ds.map Sl.im)))) : spM X.mg X.K T false n M vs H Q (WE W σ) := by
  refine ⟨Bd F σ st, none, ds, hn, rfl, fun a z => R.bd_there z, R.tab, q, ?_⟩
  show RC X.mg X.K T (Bd F σ st) none H Q (WE W σ) (M (ds.map .im))
  have go : ∀ {H' : Hp} {st' : Sts}, CGo X.K T (Bd F σ st) none H H' st' → Kp (fun _ => False) H H' := fun {H' st'} c => c.kp.mono fun _ z => by cases z
  revert h
  cases eM : M (ds.map .im) with
  | nx st' => exact fun h => h.elim
  | bk st' => exact fun h => h.elim
  | ct st' => exact fun h => h.elim
  | bad => exact fun h => h.elim
  | rt d st' => exact fun h => h.elim
  | exc c st' => exact fun h H' C hC c => h H' C hC (R.kept (go c) fun P h _ => c.tab P h) (XGo.same (go c))
  | rf d st' =>
    intro h a H' c o z
    have na : ¬ Bd F σ st a := fun q => R.bd_there q z
    refine h a H' ?_ na (XGo.same (go c)) (o.step (Kp.refl (fun _ => False) H') (fun _ z => z.elim) (fun b z => .inl ?_) fun z => z) z
    · have R' := R.kept (go c) fun P h _ => c.tab P h
      have k0 := Kp.refl (fun _ => False) H'
      have kp := go c
      have hB : ∀ b, Bd (And1 F a) σ st b → Bd F σ st b ∨ H b = none := fun b q => by
        rcases q with (q | q) | q
        · exact .inl (.inl q)
        · exact .inr (by rw [q]; exact z)
        · exact .inl (.inr q)
      refine ⟨fun b q => ?_, R.len, fun j x hj => let ⟨v, e1, e2⟩ := R.im j x hj; ⟨v, e1, e2.step kp (fun _ z => z.elim) hB⟩,
        fun j x hj => let ⟨b, e1, e2, e3⟩ := R.ow j x hj; ⟨b, e1, fun q => ?_, e3.step kp (fun _ z => z.elim) hB fun z => z⟩,
        fun j x hj => let ⟨b, e1, e2⟩ := R.scr j x hj; ⟨b, e1, e2.step kp (fun _ z => z.elim) hB⟩, R.dis, R'.tab⟩
      · rcases q with q | q
        · exact R'.dom b q
        · rw [q]; exact o.there
      · rcases q with q | q
        · exact e2 q
        · exact na (.inr ⟨j, x, hj, by rw [← q]; exact e1⟩)
    · rcases z with (z | z) | z
      · exact .inl (.inl z)
      · exact .inr z
      · exact .inl (.inr z)
/-- the list that i owns goes in -/
theorem callD_read (n : Nat) {i : Nat} {l : D} (R : RepS X.K T F H σ st) (hi : getO st i = some l) {a : Addr} (ha : σ[i]? = some (some (.ref a))) {ds : List D} {vs : List V} (hn : (V.ref a :: vs).length = n) (q : RepA X.K (Bd F σ st) H ds vs)
    (h : RV X T W true false F σ H st Q (resD i st (M (Sl.par l :: ds.map Sl.im)))) : spM X.mg X.K T true n M (V.ref a :: vs) H Q (WE W σ) := by
  obtain ⟨a', e1, nF, oa⟩ := R.ow i l hi
  rw [ha] at e1; cases e1
  refine ⟨Bd F σ st, some (a, l), ds, hn, rfl, fun a z => R.bd_there z, R.tab, ⟨.inr ⟨i, l, hi, ha⟩, vs, rfl, oa, q⟩, ?_⟩
  show RC X.mg X.K T (Bd F σ st) (some (a, l)) H Q (WE W σ) (M (Sl.par l :: ds.map Sl.im))
  have kq : ∀ {H' : Hp} {st' : Sts}, CGo X.K T (Bd F σ st) (some (a, l)) H H' st' → Kp (fun b => b = a) H H' := fun {H' st'} c => c.kp.mono fun b z => by cases z; rfl
  have go : ∀ {H' : Hp} {st' : Sts} {l' : D}, st'[0]? = some (.par l') → CGo X.K T (Bd F σ st) (some (a, l)) H H' st' → RepS X.K T F H' σ (setO st i l') ∧ XGo true σ H H' st (setO st i l') := fun {H' st' l'} e c => by
    obtain ⟨l2, e2, o2⟩ := c.io a l rfl
    rw [e] at e2; cases e2
    exact ⟨R.put hi ha (kq c) (fun P h _ => c.tab P h) o2, XGo.put hi ha (kq c)⟩
  have clean : ∀ {H' : Hp} {l' d : D} {v : V}, Rep X.K (Bd F σ st) H' d v → RepR false X.K (Bd F σ (setO st i l')) H' d v := fun {H' l' d v} z => .inl (z.step (Kp.refl (fun _ => False) H') (fun _ z => z.elim) fun b z => .inl (z.imp id (own_setO hi).mp))
  have par : ∀ {H' : Hp} {st' : Sts}, CGo X.K T (Bd F σ st) (some (a, l)) H H' st' → ∃ l', st'[0]? = some (.par l') := fun {H' st'} c => let ⟨l2, e2, _⟩ := c.io a l rfl; ⟨l2, e2⟩
  revert h
  cases eM : M (Sl.par l :: ds.map Sl.im) with
  | bk st' => exact fun h => h.elim
  | ct st' => exact fun h => h.elim
  | bad => exact fun h => h.elim
  | nx st' =>
    intro h H' c
    obtain ⟨l', e⟩ := par c
    have hu : upP i st st' = setO st i l' := by unfold upP; rw [parOf_of e]
    simp only [resD, hu] at h
    exact h .non H' (go e c).1 (go e c).2 (.inl .non)
  | rt d st' =>
    intro h v H' c z
    obtain ⟨l', e⟩ := par c
    have hu : upP i st st' = setO st i l' := by unfold upP; rw [parOf_of e]
    simp only [resD, hu] at h
    exact h v H' (go e c).1 (go e c).2 (clean z)
  | exc c st' =>
    intro h H' C hC c
    obtain ⟨l', e⟩ := par c
    have hu : upP i st st' = setO st i l' := by unfold upP; rw [parOf_of e]
    simp only [resD, hu] at h
    exact h H' C hC (go e c).1 (go e c).2
  | rf d st' =>
    intro h b H' c o z
    obtain ⟨l', e⟩ := par c
    have hu : upP i st st' = setO st i l' := by unfold upP; rw [parOf_of e]
    simp only [resD, hu] at h
    exact h (.ref b) H' (go e c).1 (go e c).2 (clean ((o.step (Kp.refl (fun _ => False) H') (fun _ z => z.elim) (fun b z => .inl (.inl z)) fun z => z).rep fun q => R.bd_there q z))
/-- f(e, ..) -/
theorem VE.call (tk : L2N.Takes X W) (Fn : FnOk X.prog X.w X.K X.mg X.base (L2N.CX X.prog X.w) k f fd ps (spM X.mg X.K T false n M)) (hr : Room k X.A) (hg : Gl X x) (hm : X.mg x = some (.ref f)) (hk : PySem.W.keepIn X.K (.ref f) = true) (hb : Binds X.K fd ps [])
    (ha : VA X T W m false (e :: es) fa) (hn : (e :: es).length = n := by rfl) (hl : ∀ st ds st', fa st = .ok ds st' → ds.length = n) (hdb : (x == ("__debug__" : Str)) = false := by decide) (he : starEach (e :: es) X.env = (false, eval e X.env) :: starEach es X.env := by rfl) (hpl : (backTo pos (starEach es X.env)).any (·.1) = false := by rfl) :
    VE X T W m false (.Call (.Name x p) (e :: es) [] pos) (callP M fa) :=
  ⟨pe_weak (pe_callS Fn hr hg hm hk hb (fun σ => L2N.passAt tk σ) ha.pa hdb he hpl) fun σ H Q ⟨F, st, R, q⟩ => by
    refine tG.first (m0 := m) R q fun ds st1 vs H1 e1 R1 y1 q1 h1 => ?_
    have q1 := q1.clean
    exact callP_read n R1 (by rw [← q1.length]; exact hl _ _ _ e1) q1 (h1.back' (m2 := false) y1 (fun z => z) fun z => by cases z)⟩
theorem VF.call (tk : L2N.Takes X W) (Fn : FnOk X.prog X.w X.K X.mg X.base (L2N.CX X.prog X.w) k f fd ps (spM X.mg X.K T false n M)) (hr : Room k X.A) (hg : Gl X x) (hm : X.mg x = some (.ref f)) (hk : PySem.W.keepIn X.K (.ref f) = true) (hb : Binds X.K fd ps [])
    (ha : VA X T W m false (e :: es) fa) (hl : ∀ st ds st', fa st = .ok ds st' → ds.length = n) (hdb : (x == ("__debug__" : Str)) = false := by decide) (he : starEach (e :: es) X.env = (false, eval e X.env) :: starEach es X.env := by rfl) (hpl : (backTo pos (starEach es X.env)).any (·.1) = false := by rfl) :
    VF X T W m (.Call (.Name x p) (e :: es) [] pos) (callF M fa) :=
  ⟨pe_weak (pe_callS Fn hr hg hm hk hb (fun σ => L2N.passAt tk σ) ha.pa hdb he hpl) fun σ H Q ⟨F, st, R, q⟩ => by
    refine tG.firstF (m0 := m) R q fun ds st1 vs H1 e1 R1 y1 q1 h1 => ?_
    have q1 := q1.clean
    exact callF_read (m := m) n R1 (by rw [← q1.length]; exact hl _ _ _ e1) q1 (h1.back (m2 := m) y1 (fun z => z) fun z => z)⟩
/-- f(name, e, ..): the name's own list goes in -/
theorem RepS.own_at {K : PySem.W.Frag} {i : Nat} {l : D} (R : RepS K T F H σ st) (hi : getO st i = some l) : ∃ a, σ[i]? = some (some (.ref a)) := let ⟨a, h, _⟩ := R.ow i l hi; ⟨a, h⟩
theorem VE.callD {i : Nat} {y : Str} {py : Pos} (tk : L2N.Takes X W) (Fn : FnOk X.prog X.w X.K X.mg X.base (L2N.CX X.prog X.w) k f fd ps (spM X.mg X.K T true n M)) (hr : Room k X.A) (hg : Gl X x) (hm : X.mg x = some (.ref f)) (hk : PySem.W.keepIn X.K (.ref f) = true) (hb : Binds X.K fd ps [])
    (hN : X.N[i]? = some y) (hv : Vis X.env.scope y)
    (ha : VA X T W m false es fa) (hl : ∀ st ds st', fa st = .ok ds st' → ds.length + 1 = n) (hst : starEach ((.Name y py) :: es) X.env = (false, eval (.Name y py) X.env) :: starEach es X.env := by rfl)
    (hd : (y == ("__debug__" : Str)) = false := by decide) (hcd : (y == ("__classdict__" : Str)) = false := by decide)
    (hdb : (x == ("__debug__" : Str)) = false := by decide) (he : starEach (.Name y py :: es) X.env = (false, eval (.Name y py) X.env) :: starEach es X.env := by rfl) (hpl : (backTo pos (starEach es X.env)).any (·.1) = false := by rfl) :
    VE X T W true false (.Call (.Name x p) (.Name y py :: es) [] pos) (callD i M fa) :=
  ⟨pe_weak (pe_callS Fn hr hg hm hk hb (fun σ => L2N.passAt tk σ) (pa_cons (pe_var hN hv hd hcd) ha.pa hst) hdb he hpl) fun σ H Q ⟨F, st, R, q⟩ => by
    unfold Vs.callD at q
    split at q
    · rename_i h0
      obtain ⟨l0, g0⟩ := Option.isSome_iff_exists.mp h0
      obtain ⟨a, ha'⟩ := R.own_at g0
      refine ⟨.ref a, ha', ?_⟩
      refine tG.first (m0 := m) R q fun ds st1 vs H1 e1 R1 y1 q1 h1 => ?_
      have q1 := q1.clean
      cases g1 : getO st1 i with
      | none => rw [g1] at h1; exact h1.elim
      | some l =>
        rw [g1] at h1
        exact callD_read n R1 g1 ha' (by rw [List.length_cons, ← q1.length]; exact hl _ _ _ e1) q1 (h1.back' (m2 := true) y1 (fun _ => rfl) fun z => z)
    · exact q.elim⟩
end
end Vs

set_option Elab.async false
set_option linter.all false
set_option maxRecDepth 100000
set_option maxHeartbeats 4000000
namespace Vs
open PySem PySem.Spec PyProof.Rows L2

/-! ### what a loop walks -/
/-- J walks the data ds, while all but M stands as in H -/
def Jw (K : PySem.W.Frag) (T B M : Addr → Prop) (H : Hp) (J : It) (ds : List D) : Prop := ∃ (G : Hp → Prop) (Y : Nat → Hp → V → Hp → Prop), Walk J ds.length G Y ∧ (∀ H1, Kp M H H1 → G H1) ∧
  ∀ (i : Nat) (H1 : Hp) (B1 : Addr → Prop) (v : V) (H2 : Hp), i < ds.length → Kp M H H1 → (∀ b, B1 b → B b ∨ H b = none) → Y i H1 v H2 →
    Kp (fun _ => False) H1 H2 ∧ (∀ P, T P → GxR.TabG H1 P → GxR.TabG H2 P) ∧ ∃ d, ds[i]? = some d ∧ Rep K B1 H2 d v
theorem Jw.weak {K : PySem.W.Frag} {T B M M' : Addr → Prop} {H : Hp} {J : It} {ds : List D} (j : Jw K T B M H J ds) (h : ∀ b, M' b → M b) : Jw K T B M' H J ds := by
  obtain ⟨G, Y, w, hG, it⟩ := j
  exact ⟨G, Y, w, fun H1 k => hG H1 (k.mono h), fun i H1 B1 v H2 hi k => it i H1 B1 v H2 hi (k.mono h)⟩
abbrev Ei := Sts → Res (List D)
structure VI (X : Cx) (T : Addr → Prop) (W : Wx) (m : Bool) (tg iter : Expr) (f : Ei) : Prop where
  pi : PI X tg iter (fun σ H R => ∃ F st, RepS X.K T F H σ st ∧ RG X T W m (fun _ _ (_ : List D) (_ : It) => True) F σ H st (fun _ _ => True) (f st) ∧ ∀ ds st', f st = .ok ds st' → ∀ J H', RepS X.K T F H' σ st' → XGo m σ H H' st st' → Jw X.K T (Bd F σ st') (Bd F σ st') H' J ds → R J H')
theorem pi_weak {X : Cx} {tg iter : Expr} {t t' : TI} (h : PI X tg iter t) (w : ∀ σ H R, t' σ H R → t σ H R) : PI X tg iter t' := ⟨fun pins s σ H R I q => h.run pins s σ H R I (w σ H R q)⟩
section
variable {X : Cx} {T F : Addr → Prop} {W : Wx} {m m1 m2 r : Bool} {σ : St} {H H1 : Hp} {st st1 : Sts} {tg iter : Expr} {R : It → Hp → Prop}
/-- a source's reading, from its first part on -/
theorem vi_first {α β : Type} {rel : (Addr → Prop) → Hp → α → β → Prop} {ff : Sts → Res α} {g : α → Sts → Res (List D)} {m0 : Bool} {Q' : β → Hp → Prop} (RR : RepS X.K T F H σ st)
    (h : RG X T W m (fun _ _ (_ : List D) (_ : It) => True) F σ H st (fun _ _ => True) ((ff st).bind g)) (k' : ∀ ds st', (ff st).bind g = .ok ds st' → ∀ J H', RepS X.K T F H' σ st' → XGo m σ H H' st st' → Jw X.K T (Bd F σ st') (Bd F σ st') H' J ds → R J H')
    (k : ∀ d st' v H', ff st = .ok d st' → RepS X.K T F H' σ st' → XGo m0 σ H H' st st' → rel (Bd F σ st') H' d v → RG X T W m (fun _ _ (_ : List D) (_ : It) => True) F σ H st (fun _ _ => True) (g d st') →
      (∀ ds st2, g d st' = .ok ds st2 → ∀ J H', RepS X.K T F H' σ st2 → XGo m σ H H' st st2 → Jw X.K T (Bd F σ st2) (Bd F σ st2) H' J ds → R J H') → Q' v H') : tG X T W m0 rel ff σ H Q' := by
  refine tG.first RR h fun d st' v H' e R' y q h1 => k d st' v H' e R' y q h1 fun ds st2 e2 => k' ds st2 (by rw [e]; exact e2)
/-- the items of a list or tuple, the signs of a text -/
def itemsOf (d : D) : Option (List D) := match d with
  | .list ds => some ds
  | .tuple ds => some ds
  | .str z => some (z.cps.toList.map fun c => .str ⟨#[c]⟩)
  | _ => none
def iVal (f : Ev) : Ei := fun st => (f st).bind fun d st1 => ofO (itemsOf d) st1
def iAny (K : PySem.W.Frag) (tl : TE) : TI := fun σ H R => tl σ H fun x H1 => (∃ a, x = .ref a ∧ (∃ xs, SqL K H1 a xs) ∧ R (Itl K a) H1) ∨ (∃ a, x = .ref a ∧ (∃ xs, SqT K H1 a xs) ∧ R (Itt K a) H1) ∨ ∃ z, x = .str z ∧ R (Its z) H1
/-- a piece that hands on its value as it is -/
theorem pi_any {l : Expr} {tl : TE} (hl : PE X l tl) : PI X tg l (iAny X.K tl) := by
  refine ⟨fun pins s σ H R I h => ?_⟩
  refine thn (hl.run pins s σ H _ I h) fun v s1 ⟨x, H1, I1, r1, q1⟩ => ?_
  rcases q1 with ⟨a, rfl, ⟨xs, hq⟩, q⟩ | ⟨a, rfl, ⟨xs, hq⟩, q⟩ | ⟨z, rfl, q⟩
  · cases r1
    obtain ⟨its, rv, p, hz⟩ := I1.list hq
    exact wpAny_pyIter_list p.isList (pi_one (tk := s1.toks) I1 _ (turn_list a _) ⟨_, Heap.get?_push_size _ rfl, rfl, rfl⟩ q)
  · cases r1
    obtain ⟨its, rv, p, hz⟩ := I1.tuple hq
    exact wpAny_pyIter_tuple (show s1.heap.IsTuple a its.toArray from p) (pi_one (tk := s1.toks) I1 _ (turn_tuple a _) ⟨_, Heap.get?_push_size _ rfl, rfl, rfl⟩ q)
  · obtain ⟨t, rfl⟩ := r1
    cases ha : z.cps.all (· < 128)
    · exact wpAny_pyIter_wide ha (pi_one (tk := s1.toks) I1 _ (turn_str _ z t "str_iterator" (.inr rfl)) ⟨_, Heap.get?_push_size _ rfl, rfl, rfl⟩ q)
    · exact wpAny_pyIter_ascii ha (pi_one (tk := s1.toks) I1 _ (turn_str _ z t "str_ascii_iterator" (.inl rfl)) ⟨_, Heap.get?_push_size _ rfl, rfl, rfl⟩ q)
theorem jw_list {K : PySem.W.Frag} {B M : Addr → Prop} {ds : List D} {a : Addr} {xs : List V} (hM : ∀ b, M b → B b) (hr : Rd H a (.lst xs)) (n : ¬ M a) (q : RepA K B H ds xs) : Jw K T B M H (Itl K a) ds := by
  refine ⟨fun H => SqL K H a xs, YAt xs, by rw [q.length]; exact walk_list, fun H1 k => .inl (k.rd (fun z => z) hr n), fun i H1 B1 v H2 hi k hB y => ?_⟩
  obtain ⟨rfl, e⟩ := y
  obtain ⟨d, e1, e2⟩ := q.get e
  exact ⟨Kp.refl _ _, fun _ _ z => z, d, e1, e2.step k hM hB⟩
theorem jw_tup {K : PySem.W.Frag} {B M : Addr → Prop} {ds : List D} {a : Addr} {xs : List V} (hM : ∀ b, M b → B b) (hr : SqT K H a xs) (q : RepA K B H ds xs) : Jw K T B M H (Itt K a) ds := by
  refine ⟨fun H => SqT K H a xs, YAt xs, by rw [q.length]; exact walk_tup, fun H1 k => k.sqT hr, fun i H1 B1 v H2 hi k hB y => ?_⟩
  obtain ⟨rfl, e⟩ := y
  obtain ⟨d, e1, e2⟩ := q.get e
  exact ⟨Kp.refl _ _, fun _ _ z => z, d, e1, e2.step k hM hB⟩
theorem jw_str {K : PySem.W.Frag} {B M : Addr → Prop} {z : Str} : Jw K T B M H (Its z) (z.cps.toList.map fun c => .str ⟨#[c]⟩) := by
  refine ⟨fun _ => True, _, by rw [List.length_map, Array.length_toList]; exact walk_str, fun _ _ => trivial, fun i H1 B1 v H2 hi k hB y => ?_⟩
  obtain ⟨rfl, c, e, rfl⟩ := y
  exact ⟨Kp.refl _ _, fun _ _ z => z, .str ⟨#[c]⟩, by rw [List.getElem?_map, Array.getElem?_toList, e]; rfl, .str _⟩
/-- .. its items as data that are ints -/
theorem jw_fn {K : PySem.W.Frag} {B M : Addr → Prop} {J : It} {n : Nat} {g : Nat → Int} (w : Walk J n (fun _ => True) (YFn fun i => .int (g i))) : Jw K T B M H J ((List.range n).map fun i => .int (g i)) := by
  refine ⟨fun _ => True, _, by rw [List.length_map, List.length_range]; exact w, fun _ _ => trivial, fun i H1 B1 v H2 hi k hB y => ?_⟩
  obtain ⟨rfl, rfl⟩ := y
  rw [List.length_map, List.length_range] at hi
  exact ⟨Kp.refl _ _, fun _ _ z => z, .int (g i), by rw [List.getElem?_map, List.getElem?_range hi]; rfl, .int _⟩
theorem VI.val {e : Expr} {f : Ev} (h : VE X T W m false e f) : VI X T W m tg e (iVal f) := ⟨pi_weak (pi_any h.pe) fun σ H R ⟨F, st, RR, q, k'⟩ => by
  refine vi_first RR q k' fun d st1 v H1 e1 R1 y1 q1 h1 k1 => ?_
  cases ei : itemsOf d with
  | none => rw [ei] at h1; exact h1.elim
  | some ds =>
    have k2 := k1 ds st1 (by rw [ei]; rfl)
    have hM : ∀ b, Bd F σ st1 b → Bd F σ st1 b := fun b z => z
    unfold itemsOf at ei
    split at ei
    · cases ei
      have q1 := q1.clean
      cases q1 with
      | lst s n q => exact .inl ⟨_, rfl, ⟨_, .inl s⟩, k2 _ H1 R1 y1 (jw_list hM s (fun z => n (hM _ z)) q)⟩
    · cases ei
      obtain ⟨a, xs, rfl, s, q⟩ := q1.isT
      exact .inr (.inl ⟨a, rfl, ⟨_, SqT.of s⟩, k2 _ H1 R1 y1 (jw_tup hM (SqT.of s) q)⟩)
    · cases ei
      have e := q1.isS
      exact .inr (.inr ⟨_, e, k2 _ H1 R1 y1 jw_str⟩)
    · cases ei⟩
/-! range -/
def inR (i : Int) : Bool := decide (-(2 ^ 62) ≤ i ∧ i < 2 ^ 62)
def rg (i j : Int) : List D := (List.range (j - i).toNat).map fun (k : Nat) => .int (i + (k : Int))
def rgD : List D → Option (List D)
  | [.int j] => if inR j = true then some (rg 0 j) else none
  | [.int i, .int j] => if inR i = true ∧ inR j = true then some (rg i j) else none
  | _ => none
def iRg (fa : Ea) : Ei := fun st => (fa st).bind fun ds st1 => ofO (rgD ds) st1
theorem rgD_some {ds es : List D} (h : rgD ds = some es) : (∃ j, ds = [.int j] ∧ inR j = true ∧ es = rg 0 j) ∨ ∃ i j, ds = [.int i, .int j] ∧ inR i = true ∧ inR j = true ∧ es = rg i j := by
  unfold rgD at h
  split at h
  · split at h
    · cases h; exact .inl ⟨_, rfl, by assumption, rfl⟩
    · cases h
  · split at h
    · rename_i c; cases h; exact .inr ⟨_, _, rfl, c.1, c.2, rfl⟩
    · cases h
  · cases h
theorem VI.rg1 {a : Expr} {fa : Ea} {p pos : Pos} (hg : Gl X "range") (hm : X.mg "range" = none) (ha : VA X T W m false [a] fa) (hn : ∀ st ds st', fa st = .ok ds st' → ds.length = 1) (hs : starEach [a] X.env = [(false, eval a X.env)] := by rfl) : VI X T W m tg (.Call (.Name "range" p) [a] [] pos) (iRg fa) :=
  ⟨pi_weak (pi_range1 hg hm ha.pa hs) fun σ H R ⟨F, st, RR, q, k'⟩ => by
    refine vi_first RR q k' fun ds st1 vs H1 e1 R1 y1 q1 h1 k1 => ?_
    cases er : rgD ds with
    | none => rw [er] at h1; exact h1.elim
    | some es =>
      have k2 := k1 es st1 (by rw [er]; rfl)
      rcases rgD_some er with ⟨j, rfl, c, rfl⟩ | ⟨i, j, rfl, _⟩
      · obtain ⟨v, rfl, q2⟩ := RepL.one q1
        have c' := of_decide_eq_true c
        refine ⟨j, by rw [q2.isI], c'.1, c'.2, k2 _ H1 R1 y1 ?_⟩
        have := jw_fn (K := X.K) (T := T) (H := H1) (B := Bd F σ st1) (M := Bd F σ st1) (walk_range (lo := 0) (n := j.toNat))
        unfold rg
        rw [Int.sub_zero]
        exact this
      · have := hn _ _ _ e1
        cases this⟩
theorem VI.rg2 {a b : Expr} {fa : Ea} {p pos : Pos} (hg : Gl X "range") (hm : X.mg "range" = none) (ha : VA X T W m false [a, b] fa) (hn : ∀ st ds st', fa st = .ok ds st' → ds.length = 2) (hs : starEach [a, b] X.env = [(false, eval a X.env), (false, eval b X.env)] := by rfl) (hs2 : starEach [b] X.env = [(false, eval b X.env)] := by rfl) :
    VI X T W m tg (.Call (.Name "range" p) [a, b] [] pos) (iRg fa) :=
  ⟨pi_weak (pi_range2 hg hm ha.pa hs hs2) fun σ H R ⟨F, st, RR, q, k'⟩ => by
    refine vi_first RR q k' fun ds st1 vs H1 e1 R1 y1 q1 h1 k1 => ?_
    cases er : rgD ds with
    | none => rw [er] at h1; exact h1.elim
    | some es =>
      have k2 := k1 es st1 (by rw [er]; rfl)
      rcases rgD_some er with ⟨j, rfl, c, rfl⟩ | ⟨i, j, rfl, c1, c2, rfl⟩
      · have := hn _ _ _ e1
        cases this
      · obtain ⟨v, u, rfl, q2, q3⟩ := RepL.two q1
        have c1 := of_decide_eq_true c1
        have c2 := of_decide_eq_true c2
        exact ⟨i, j, by rw [q2.isI, q3.isI], ⟨c1.1, c1.2, c2.1, c2.2⟩, k2 _ H1 R1 y1 (jw_fn walk_range)⟩⟩
end
/-! ### targets -/
/-- what is set by it is undone by forgetting -/
def Bk {α : Type} (sl : List Nat) (g : α → Sts → Option Sts) : Prop := ∀ d st st1, g d st = some st1 → st1.length = st.length ∧ ∀ j, (j ∉ sl → st1[j]? = st[j]?) ∧ (j ∈ sl → noPar st j = true → noPar st1 j = true)
structure VG (X : Cx) (T : Addr → Prop) (sl : List Nat) (tg : Expr) (g : D → Sts → Option Sts) : Prop where
  bk : Bk sl g
  pg : PG X tg (fun v σ H Q => ∃ F st d st', RepS X.K T F H σ st ∧ Rep X.K (Bd F σ st) H d v ∧ g d st = some st' ∧ ∀ σ', RepS X.K T F H σ' st' → SGo σ H st σ' H st' → (∀ vs, (∀ i ∈ sl, i ∈ vs) → wipe σ' vs = wipe σ vs) → Q σ' H)
structure VGs (X : Cx) (T : Addr → Prop) (sl : List Nat) (tgs : List Expr) (g : List D → Sts → Option Sts) : Prop where
  bk : Bk sl g
  pg : PGs X tgs (fun vs σ H Q => ∃ F st ds st', RepS X.K T F H σ st ∧ RepA X.K (Bd F σ st) H ds vs ∧ g ds st = some st' ∧ ∀ σ', RepS X.K T F H σ' st' → SGo σ H st σ' H st' → (∀ vs, (∀ i ∈ sl, i ∈ vs) → wipe σ' vs = wipe σ vs) → Q σ' H)
theorem pg_weak {X : Cx} {tg : Expr} {t t' : TG} (h : PG X tg t) (w : ∀ v σ H Q, t' v σ H Q → t v σ H Q) : PG X tg t' := ⟨fun pins s σ H v u Q I r q => h.run pins s σ H v u Q I r (w v σ H Q q)⟩
theorem pgs_weak {X : Cx} {tg : List Expr} {t t' : TGs} (h : PGs X tg t) (w : ∀ v σ H Q, t' v σ H Q → t v σ H Q) : PGs X tg t' := ⟨fun pins s σ H v u Q I r q => h.run pins s σ H v u Q I r (w v σ H Q q)⟩
theorem wipe_set {σ : St} {i : Nat} {o : Option V} : ∀ {vs : List Nat}, i ∈ vs → wipe (σ.set i o) vs = wipe σ vs
  | v :: vs, h => by
    unfold wipe
    by_cases e : i ∈ vs
    · rw [wipe_set e]
    · have e' : i = v := (List.mem_cons.mp h).elim id fun z => (e z).elim
      subst e'
      have key : ∀ (vs : List Nat) (τ : St), i ∉ vs → wipe (τ.set i o) vs = (wipe τ vs).set i o := by
        intro vs
        induction vs with
        | nil => intro τ _; rfl
        | cons w ws ih =>
          intro τ hn
          have h1 : i ≠ w := fun z => hn (by rw [z]; exact List.mem_cons_self)
          have h2 : i ∉ ws := fun z => hn (List.mem_cons_of_mem _ z)
          show (wipe (τ.set i o) ws).set w none = ((wipe τ ws).set w none).set i o
          rw [ih τ h2, List.set_comm _ _ h1]
      rw [key vs σ e, List.set_set]
def gN (i : Nat) : D → Sts → Option Sts := fun d st => if noPar st i = true then some (st.set i (.im d)) else none
def gNil' : List D → Sts → Option Sts := fun ds st => match ds with
  | [] => some st
  | _ => none
def gCons' (g : D → Sts → Option Sts) (h : List D → Sts → Option Sts) : List D → Sts → Option Sts := fun ds st => match ds with
  | d :: r => (g d st).bind (h r)
  | [] => none
/-- (a, b, ..) = a tuple -/
def gT (h : List D → Sts → Option Sts) : D → Sts → Option Sts := fun d st => match d with
  | .tuple ds => h ds st
  | _ => none
section
variable {X : Cx} {T F : Addr → Prop} {W : Wx} {pos : Pos} {i : Nat} {x : Str} {sl sl' : List Nat} {e : Expr} {es : List Expr} {g : D → Sts → Option Sts} {h : List D → Sts → Option Sts}
theorem VG.name (hN : X.N.Nodup) (hi : X.N[i]? = some x) (hx : Loc X.env.scope x) (hf : X.fn x = true ∨ X.env.scope.names.lookup x = some .local := by first | exact .inl rfl | exact .inr rfl | assumption) : VG X T [i] (.Name x pos) (gN i) :=
  ⟨(fun d st st1 e => by
    unfold gN at e
    split at e
    · cases e
      refine ⟨List.length_set, fun j => ⟨fun h => List.getElem?_set_ne fun z => h (by simp [z]), fun h _ => ?_⟩⟩
      have : j = i := by simpa using h
      subst this
      by_cases hl : j < st.length
      · simp [noPar, hl]
      · rw [List.set_eq_of_length_le (Nat.le_of_not_lt hl)]; assumption
    · cases e), pg_weak (pg_name hN hi hx hf) fun v σ H Q ⟨F, st, d, st', R, q, e, k⟩ => by
    unfold gN at e
    split at e
    · cases e
      exact k _ (R.setV q) (SGo.refl.setV (by assumption)) fun vs hv => wipe_set (hv i (by simp))
    · cases e⟩
theorem VGs.nil : VGs X T [] [] gNil' := ⟨(fun d st st1 e => by
    unfold gNil' at e
    split at e
    · cases e; exact ⟨rfl, fun j => ⟨fun _ => rfl, fun h => by cases h⟩⟩
    · cases e), pgs_weak pgs_nil fun vs σ H Q ⟨F, st, ds, st', R, q, e, k⟩ => by
  unfold gNil' at e
  split at e
  · cases e; cases q
    exact ⟨rfl, k σ R SGo.refl fun _ _ => rfl⟩
  · cases e⟩
theorem sgo_rep {K : PySem.W.Frag} {σ σ' : St} {H : Hp} {st st' : Sts} {ds : List D} {vs : List V} (y : SGo σ H st σ' H st') (q : RepA K (Bd F σ st) H ds vs) : RepA K (Bd F σ' st') H ds vs :=
  q.step (Kp.refl (fun _ => False) H) (fun _ z => z.elim) fun b z => by
    rcases z with z | z
    · exact .inl (.inl z)
    · exact (y.sub b z).imp (fun z => .inr z) id
theorem VGs.cons (h1 : VG X T sl e g) (h2 : VGs X T sl' es h) (hs : (assignEach (e :: es) X.env).map (·.2) = assign e X.env :: (assignEach es X.env).map (·.2) := by rfl) : VGs X T (sl ++ sl') (e :: es) (gCons' g h) :=
  ⟨(fun ds st st2 e => by
    cases ds with
    | nil => cases e
    | cons d r =>
      have e : (g d st).bind (h r) = some st2 := e
      cases eg : g d st with
      | none => rw [eg] at e; cases e
      | some st1 =>
        rw [eg] at e
        obtain ⟨l1, b1⟩ := h1.bk d st st1 eg
        obtain ⟨l2, b2⟩ := h2.bk r st1 st2 e
        refine ⟨l2.trans l1, fun j => ⟨fun hj => ?_, fun hj hn => ?_⟩⟩
        · rw [List.mem_append, not_or] at hj
          rw [(b2 j).1 hj.2, (b1 j).1 hj.1]
        · have n1 : noPar st1 j = true := by
            by_cases q : j ∈ sl
            · exact (b1 j).2 q hn
            · unfold noPar; rw [(b1 j).1 q]; exact hn
          by_cases q : j ∈ sl'
          · exact (b2 j).2 q n1
          · unfold noPar; rw [(b2 j).1 q]; exact n1), pgs_weak (pgs_cons h1.pg h2.pg hs) fun vs σ H Q ⟨F, st, ds, st', R, q, e, k⟩ => by
    cases q with
    | nil => unfold gCons' at e; cases e
    | @cons d v r us q1 q2 =>
      have e : (g d st).bind (h r) = some st' := e
      cases eg : g d st with
      | none => rw [eg] at e; cases e
      | some st1 =>
        rw [eg] at e
        refine ⟨v, us, rfl, F, st, d, st1, R, q1, eg, fun σ1 R1 y1 w1 => ⟨F, st1, r, st', R1, sgo_rep y1 q2, e, fun σ2 R2 y2 w2 => k σ2 R2 (y1.trans y2) fun vs hv => ?_⟩⟩
        rw [w2 vs fun i hi => hv i (List.mem_append_right _ hi), w1 vs fun i hi => hv i (List.mem_append_left _ hi)]⟩
theorem VG.tup {k n : Nat} (hc : X.calm = true) (h1 : VGs X T sl es h) (hl : ∀ ds st st', h ds st = some st' → ds.length = n) (hn : (assignEach es X.env).length = n := by rfl) (hst : (assignEach es X.env).findIdx? (·.1) = none := by rfl) : VG X T sl (.Tuple es k pos) (gT h) :=
  ⟨(fun d st st1 e => by
    unfold gT at e
    split at e
    · exact h1.bk _ _ _ e
    · cases e), pg_weak (pg_tup hc h1.pg hn hst) fun v σ H Q ⟨F, st, d, st', R, q, e, kk⟩ => by
    unfold gT at e
    split at e
    · cases q with
      | tup s q => exact ⟨_, _, rfl, SqT.of s, by rw [← q.length]; exact hl _ _ _ e, F, st, _, st', R, q, e, kk⟩
    · cases e⟩
end
end Vs

set_option Elab.async false
set_option linter.all false
set_option maxRecDepth 100000
set_option maxHeartbeats 4000000
namespace Vs
open PySem PySem.Spec PyProof.Rows L2

/-- a for over data; wp: the slots that are forgotten between two turns -/
def forS (wp : List Nat) (g : D → Sts → Option Sts) (body : Es') : List D → Sts → Ou
  | [], st => .nx st
  | d :: ds, st => match g d st with
    | none => .bad
    | some st1 => match body st1 with
      | .nx st2 => forS wp g body ds (wipes wp st2)
      | .ct st2 => forS wp g body ds (wipes wp st2)
      | .bk st2 => .nx (wipes wp st2)
      | o => o
def sFor (wp : List Nat) (fi : Ei) (g : D → Sts → Option Sts) (body : Es') : Es' := fun st => bindS (fi st) fun ds st1 => forS wp g body ds (wipes wp st1)
def whileS (wp : List Nat) (c : Et) (body : Es') : Nat → Sts → Ou
  | 0, _ => .bad
  | n + 1, st => bindS (c st) fun b st1 => if b = true then (match body st1 with
      | .nx st2 => whileS wp c body n (wipes wp st2)
      | .ct st2 => whileS wp c body n (wipes wp st2)
      | .bk st2 => .nx (wipes wp st2)
      | o => o) else .nx st1
def sWhile (wp : List Nat) (fu : Sts → Nat) (c : Et) (body : Es') : Es' := fun st => whileS wp c body (fu (wipes wp st)) (wipes wp st)
section
variable {X : Cx} {T F : Addr → Prop} {W : Wx} {m r : Bool} {σ : St} {H : Hp} {st : Sts} {D' : Ends} {tg iter : Expr} {body : List Stmt} {fi : Ei} {fb : Es'} {g : D → Sts → Option Sts} {sl : List Nat} {pos : Pos} {wp : List Nat}
theorem for_read {tb : TS} {gg : TG} {J : It} {ds : List D} (R0 : RepS X.K T F H σ st) (jw : Jw X.K T (Bd F σ st) (Own σ st) H J ds)
    (hg : ∀ v σ H Q, (∃ F st d st', RepS X.K T F H σ st ∧ Rep X.K (Bd F σ st) H d v ∧ g d st = some st' ∧ ∀ σ', RepS X.K T F H σ' st' → SGo σ H st σ' H st' → (∀ vs, (∀ i ∈ sl, i ∈ vs) → wipe σ' vs = wipe σ vs) → Q σ' H) → gg v σ H Q)
    (hb : ∀ D σ H, tVS X T W fb D σ H → tb D σ H) (q : RS X T W F σ H st D' (forS wp g fb ds st)) :
    ∃ Wi : Nat → Nat → St → Hp → Prop, (∃ m, Wi 0 m σ H) ∧ ∀ i m σ H, Wi i m σ H →
      (J.stop i H ∧ D'.nx σ H) ∨ (J.go i H ∧ ∃ N : St → Hp → Prop, (∀ σ' H', N σ' H' → ∃ m', m' < m ∧ Wi (i + 1) m' σ' H') ∧ ∀ x H', J.yld i H x H' → gg x σ H' fun σ2 H2 => tb { D' with nx := N, ct := N, bk := D'.nx } σ2 H2) := by
  obtain ⟨G, Y, wk, hG, item⟩ := jw
  refine ⟨fun i m σ' H' => m = ds.length - i ∧ i ≤ ds.length ∧ ∃ st', RepS X.K T F H' σ' st' ∧ SGo σ H st σ' H' st' ∧ RS X T W F σ H st D' (forS wp g fb (ds.drop i) st'), ⟨ds.length, by simp, Nat.zero_le _, st, R0, SGo.refl, q⟩, ?_⟩
  rintro i m σ1 H1 ⟨rfl, hi, st1, R1, y1, q1⟩
  have g1 : G H1 := hG H1 y1.kp
  by_cases hlt : i < ds.length
  · refine .inr ⟨wk.goes i H1 hlt g1, fun σ' H' => ∃ st', RepS X.K T F H' σ' st' ∧ SGo σ H st σ' H' st' ∧ RS X T W F σ H st D' (forS wp g fb (ds.drop (i + 1)) st'), fun σ' H' h => ⟨ds.length - (i + 1), by omega, rfl, hlt, h⟩, fun x H2 y => ?_⟩
    obtain ⟨k2, t2, d, ed, rd⟩ := item i H1 (Bd F σ1 st1) x H2 hlt y1.kp (fun b z => z.elim (fun z => .inl (.inl z)) fun z => (y1.sub b z).imp (fun z => .inr z) id) (wk.yields i H1 x H2 hlt g1 y)
    have R2 := R1.kept k2 t2
    have y2 : SGo σ H st σ1 H2 st1 := y1.trans (XGo.same (m := false) k2).sgo
    have ed' : ds.drop i = d :: ds.drop (i + 1) := by
      rw [List.drop_eq_getElem_cons hlt]
      have := (List.getElem?_eq_getElem hlt).symm.trans ed
      rw [Option.some.inj this]
    rw [ed'] at q1
    cases eg : g d st1 with
    | none => simp only [forS, eg] at q1; exact q1.elim
    | some st3 =>
      simp only [forS, eg] at q1
      refine hg x σ1 H2 _ ⟨F, st1, d, st3, R2, rd, eg, fun σ3 R3 y3 _ => hb _ σ3 H2 ⟨F, st3, R3, ?_⟩⟩
      have y3' := y2.trans y3
      cases eb : fb st3 with
      | nx st4 =>
        rw [eb] at q1
        intro σ4 H4 R4 y4
        obtain ⟨R5, y5⟩ := RepS.wipes wp R4
        exact ⟨_, R5, (y3'.trans y4).trans y5, q1⟩
      | ct st4 =>
        rw [eb] at q1
        intro σ4 H4 R4 y4
        obtain ⟨R5, y5⟩ := RepS.wipes wp R4
        exact ⟨_, R5, (y3'.trans y4).trans y5, q1⟩
      | bk st4 =>
        rw [eb] at q1
        intro σ4 H4 R4 y4
        obtain ⟨R5, y5⟩ := RepS.wipes wp R4
        exact q1 σ4 H4 R5 ((y3'.trans y4).trans y5)
      | rt d' st4 => rw [eb] at q1; exact (RS.back y3' q1 : RS X T W F σ3 H2 st3 D' (.rt d' st4))
      | rf d' st4 => rw [eb] at q1; exact (RS.back y3' q1 : RS X T W F σ3 H2 st3 D' (.rf d' st4))
      | exc c st4 => rw [eb] at q1; exact (RS.back y3' q1 : RS X T W F σ3 H2 st3 D' (.exc c st4))
      | bad => rw [eb] at q1; exact q1.elim
  · have e : i = ds.length := by omega
    subst e
    rw [List.drop_length] at q1
    exact .inl ⟨wk.stops H1 g1, q1 σ1 H1 R1 y1⟩
theorem VS.for (hp : PassesOwn (model X.prog X.w) X.A X.env X.xe) (hc : X.calm = true) (hi : VI X T W m tg iter fi) (hg : VG X T sl tg g) (hb : VSs X T W body fb) (hs : ∀ x, foldedSetIterable iter X.env x = pure x := by intro _; rfl) :
    VS X T W (.For tg iter body [] pos) (sFor wp fi g fb) :=
  ⟨ps_weak (ps_for hp hc hi.pi hg.pg hb.ps hs) fun D σ H ⟨F, st, R, q⟩ => by
    refine ⟨F, st, R, ?_, fun ds st' e J H' R' y jw => ?_⟩
    · unfold sFor bindS at q
      cases e : fi st with
      | ok ds st' => exact fun _ _ _ _ _ => trivial
      | exc c st' => rw [e] at q; exact fun H' C hC R' y => q σ H' C hC R' y.sgo
      | bad => rw [e] at q; exact q.elim
    · unfold sFor bindS at q
      rw [e] at q
      obtain ⟨R1, y1⟩ := RepS.wipes wp R'
      have jw' : Jw X.K T (Bd F σ (wipes wp st')) (Own σ (wipes wp st')) H' J ds := by
        obtain ⟨G, Y, wk, hG, item⟩ := jw.weak (M' := Own σ st') fun _ z => .inr z
        have hO : ∀ b, Own σ (wipes wp st') b → Own σ st' b := fun b z => by
          rcases y1.sub b z with z1 | z1
          · exact z1
          · exact (R1.own_there z z1).elim
        exact ⟨G, Y, wk, fun H1 k => hG H1 (k.mono hO), fun i H1 B1 v H2 hi k hB yy => item i H1 B1 v H2 hi (k.mono hO) (fun b z => (hB b z).imp (fun z => z.imp id (hO b)) id) yy⟩
      exact for_read R1 jw' (fun _ _ _ _ z => z) (fun _ _ _ z => z) (RS.back (y.sgo.trans y1) q)⟩
theorem VS.while {c : Expr} {fc : Et} (fu : Sts → Nat) (hp : PassesOwn (model X.prog X.w) X.A X.env X.xe) (hc : VT X T W m c fc) (hb : VSs X T W body fb) : VS X T W (.While c body [] pos) (sWhile wp fu fc fb) :=
  ⟨ps_weak (ps_while hp hc.pt hb.ps) fun D σ H ⟨F, st, R, q⟩ => by
    obtain ⟨R1, y1⟩ := RepS.wipes wp R
    have q := RS.back y1 q
    show ∃ W' : Nat → St → Hp → Prop, _
    refine ⟨fun n σ' H' => ∃ st', RepS X.K T F H' σ' st' ∧ SGo σ H (wipes wp st) σ' H' st' ∧ RS X T W F σ H (wipes wp st) D (whileS wp fc fb n st'), ⟨_, _, R1, SGo.refl, q⟩, ?_⟩
    rintro n σ2 H2 ⟨st2, R2, y2, q2⟩
    cases n with
    | zero => exact q2.elim
    | succ n =>
      refine tG.firstS R2 (RS.back y2 q2) fun b st3 v H3 e3 R3 y3 q3 h3 => ?_
      subst q3
      have y3' := y2.trans y3.sgo
      cases b with
      | false => exact h3 σ2 H3 R3 y3.sgo
      | true =>
        rw [if_pos rfl]
        refine ⟨fun σ' H' => ∃ st', RepS X.K T F H' σ' st' ∧ SGo σ H (wipes wp st) σ' H' st' ∧ RS X T W F σ H (wipes wp st) D (whileS wp fc fb n st'), fun σ' H' z => ⟨n, Nat.lt_succ_self n, z⟩, F, st3, R3, ?_⟩
        have q4 : RS X T W F σ H (wipes wp st) D (match fb st3 with
          | .nx st2 => whileS wp fc fb n (wipes wp st2)
          | .ct st2 => whileS wp fc fb n (wipes wp st2)
          | .bk st2 => .nx (wipes wp st2)
          | o => o) := by
          have q2' := q2
          unfold whileS bindS at q2'
          rw [e3] at q2'
          exact q2'
        cases eb : fb st3 with
        | nx st4 =>
          rw [eb] at q4
          intro σ4 H4 R4 y4
          obtain ⟨R5, y5⟩ := RepS.wipes wp R4
          exact ⟨_, R5, (y3'.trans y4).trans y5, q4⟩
        | ct st4 =>
          rw [eb] at q4
          intro σ4 H4 R4 y4
          obtain ⟨R5, y5⟩ := RepS.wipes wp R4
          exact ⟨_, R5, (y3'.trans y4).trans y5, q4⟩
        | bk st4 =>
          rw [eb] at q4
          intro σ4 H4 R4 y4
          obtain ⟨R5, y5⟩ := RepS.wipes wp R4
          exact q4 σ4 H4 R5 ((y3'.trans y4).trans y5)
        | rt d' st4 => rw [eb] at q4; exact (RS.back y3' q4 : RS X T W F σ2 H3 st3 D (.rt d' st4))
        | rf d' st4 => rw [eb] at q4; exact (RS.back y3' q4 : RS X T W F σ2 H3 st3 D (.rf d' st4))
        | exc c st4 => rw [eb] at q4; exact (RS.back y3' q4 : RS X T W F σ2 H3 st3 D (.exc c st4))
        | bad => rw [eb] at q4; exact q4.elim⟩
end
end Vs

set_option Elab.async false
set_option linter.all false
set_option maxRecDepth 100000
set_option maxHeartbeats 4000000
namespace Vs
open PySem PySem.Spec PyProof.Rows L2

/-! ### wiped slots -/
def allUn (vs : List Nat) (st : Sts) : Bool := vs.all fun i => match st[i]? with
  | some .un => true
  | none => true
  | _ => false
theorem allUn_at {vs : List Nat} {st : Sts} (h : allUn vs st = true) {i : Nat} (hi : i ∈ vs) {s : Sl} (e : st[i]? = some s) : s = .un := by
  have := List.all_eq_true.mp h i hi
  rw [e] at this
  cases s <;> first | rfl | cases this
theorem wipe1_get {st : Sts} {i j : Nat} : (wipe1 st i)[j]? = if j = i ∧ noPar st i = true ∧ j < st.length then some .un else st[j]? := by
  unfold wipe1
  by_cases hn : noPar st i = true
  · rw [if_pos hn]
    by_cases e : j = i
    · subst e
      by_cases hl : j < st.length
      · rw [if_pos ⟨rfl, hn, hl⟩, List.getElem?_set_self hl]
      · rw [if_neg fun z => hl z.2.2, List.set_eq_of_length_le (Nat.le_of_not_lt hl)]
    · rw [if_neg fun z => e z.1, List.getElem?_set_ne (Ne.symm e)]
  · rw [if_neg hn, if_neg fun z => hn z.2.1]
theorem wipe1_length {st : Sts} {i : Nat} : (wipe1 st i).length = st.length := by unfold wipe1; split <;> simp
theorem noPar_wipe1 {st : Sts} {i j : Nat} (h : noPar st j = true) : noPar (wipe1 st i) j = true := by
  unfold noPar
  rw [wipe1_get]
  by_cases c : j = i ∧ noPar st i = true ∧ j < st.length
  · rw [if_pos c]
  · rw [if_neg c]; exact h
theorem wipes_get : ∀ {vs : List Nat} {st : Sts} {j : Nat}, (∀ i ∈ vs, noPar st i = true) → (wipes vs st)[j]? = if j ∈ vs ∧ j < st.length then some .un else st[j]?
  | [], st, j, _ => by simp [wipes]
  | i :: vs, st, j, h => by
    show (wipes vs (wipe1 st i))[j]? = _
    rw [wipes_get fun k hk => noPar_wipe1 (h k (List.mem_cons_of_mem _ hk)), wipe1_length, wipe1_get]
    by_cases e : j ∈ vs
    · by_cases hl : j < st.length
      · rw [if_pos ⟨e, hl⟩, if_pos ⟨List.mem_cons_of_mem _ e, hl⟩]
      · rw [if_neg fun z => hl z.2, if_neg fun z => hl z.2.2, if_neg fun z => hl z.2]
    · rw [if_neg fun z => e z.1]
      by_cases e2 : j = i
      · by_cases hl : j < st.length
        · rw [if_pos ⟨e2, h i List.mem_cons_self, hl⟩, if_pos ⟨by rw [e2]; exact List.mem_cons_self, hl⟩]
        · rw [if_neg fun z => hl z.2.2, if_neg fun z => hl z.2]
      · rw [if_neg fun z => e2 z.1, if_neg fun z => (List.mem_cons.mp z.1).elim e2 e]
theorem wipes_length : ∀ {vs : List Nat} {st : Sts}, (wipes vs st).length = st.length
  | [], _ => rfl
  | i :: vs, st => by show (wipes vs (wipe1 st i)).length = _; rw [wipes_length, wipe1_length]
theorem allUn_noPar {vs : List Nat} {st : Sts} (h : allUn vs st = true) {i : Nat} (hi : i ∈ vs) : noPar st i = true := by
  unfold noPar
  split
  · rename_i d e
    have := allUn_at h hi e
    cases this
  · rfl
theorem allUn_wipes {vs : List Nat} {st : Sts} (h : ∀ i ∈ vs, noPar st i = true) : allUn vs (wipes vs st) = true := by
  unfold allUn
  rw [List.all_eq_true]
  intro i hi
  rw [wipes_get h]
  by_cases hl : i < st.length
  · rw [if_pos ⟨hi, hl⟩]
  · rw [if_neg fun z => hl z.2, List.getElem?_eq_none (Nat.le_of_not_lt hl)]
/-- set by a target, then forgotten -/
theorem wipes_back {α : Type} {sl vs : List Nat} {g : α → Sts → Option Sts} (bk : Bk sl g) {d : α} {st st1 : Sts} (e : g d st = some st1) (hs : ∀ i ∈ sl, i ∈ vs) (hu : allUn vs st = true) : wipes vs st1 = st ∧ ∀ i ∈ vs, noPar st1 i = true := by
  obtain ⟨l, b⟩ := bk d st st1 e
  have np : ∀ i ∈ vs, noPar st1 i = true := fun i hi => by
    have hn := allUn_noPar hu hi
    by_cases q : i ∈ sl
    · exact (b i).2 q hn
    · unfold noPar; rw [(b i).1 q]; exact hn
  refine ⟨List.ext_getElem? fun j => ?_, np⟩
  rw [wipes_get np, l]
  by_cases hj : j ∈ vs
  · by_cases hl : j < st.length
    · rw [if_pos ⟨hj, hl⟩, List.getElem?_eq_getElem hl, allUn_at hu hj (List.getElem?_eq_getElem hl)]
    · rw [if_neg fun z => hl z.2, (List.getElem?_eq_none (Nat.le_of_not_lt (by rw [l]; exact hl))), List.getElem?_eq_none (Nat.le_of_not_lt hl)]
  · rw [if_neg fun z => hj z.1]
    exact (b j).1 fun q => hj (hs j q)
section
variable {K : PySem.W.Frag} {T F : Addr → Prop} {H : Hp} {σ τ : St} {st : Sts} {vs : List Nat}
/-- the slots may be others where nothing is said of them -/
theorem RepS.slots (R : RepS K T F H σ st) (hl : τ.length = σ.length) (h : ∀ (j : Nat) s, st[j]? = some s → s ≠ .un → τ[j]? = σ[j]?) : RepS K T F H τ st ∧ ∀ b, Own τ st b ↔ Own σ st b := by
  have hs : ∀ {j : Nat} {d : D}, getO st j = some d → τ[j]? = σ[j]? := fun {j d} g => by
    rcases getO_or g with q | q
    · exact h j _ q (by intro z; cases z)
    · exact h j _ q (by intro z; cases z)
  have hO : ∀ b, Own τ st b ↔ Own σ st b := fun b => ⟨fun ⟨j, d, g, e⟩ => ⟨j, d, g, by rw [← hs g]; exact e⟩, fun ⟨j, d, g, e⟩ => ⟨j, d, g, by rw [hs g]; exact e⟩⟩
  have k0 := Kp.refl (fun _ => False) H
  have hB : ∀ b, Bd F τ st b → Bd F σ st b ∨ H b = none := fun b z => .inl (z.imp id (hO b).mp)
  refine ⟨⟨R.dom, hl.trans R.len, fun j d e => ?_, fun j d g => ?_, fun j ns e => ?_, fun i j d e a g1 g2 e1 e2 => R.dis i j d e a g1 g2 (by rw [← hs g1]; exact e1) (by rw [← hs g2]; exact e2), R.tab⟩, hO⟩
  · obtain ⟨v, e1, e2⟩ := R.im j d e
    exact ⟨v, by rw [h j _ e (by intro z; cases z)]; exact e1, e2.step k0 (fun _ z => z.elim) hB⟩
  · obtain ⟨a, e1, e2, e3⟩ := R.ow j d g
    exact ⟨a, by rw [hs g]; exact e1, e2, e3.step k0 (fun _ z => z.elim) hB fun z => z⟩
  · obtain ⟨a, e1, e2⟩ := R.scr j ns e
    exact ⟨a, by rw [h j _ e (by intro z; cases z)]; exact e1, e2.step k0 (fun _ z => z.elim) hB⟩
theorem wipe_agree (hu : allUn vs st = true) : ∀ (j : Nat) s, st[j]? = some s → s ≠ .un → (wipe σ vs)[j]? = σ[j]? := fun j s e n => by
  by_cases hj : j ∈ vs
  · exact (n (allUn_at hu hj e)).elim
  · exact wipe_out hj
end
end Vs
namespace Vs
open PySem PySem.Spec PyProof.Rows L2
/-- an exception is not foreseen here -/
def Res.bindN {α β : Type} (x : Res α) (f : α → Sts → Res β) : Res β := match x with
  | .ok a st => f a st
  | _ => .bad
def compS (vs : List Nat) (g : D → Sts → Option Sts) (ft : Et) (fe : Ev) : List D → List D → Sts → Res D
  | [], acc, st => .ok (.list acc) st
  | d :: ds, acc, st => match g d st with
    | none => .bad
    | some st1 => (ft st1).bindN fun b st2 => if b = true then (fe st2).bindN fun y st3 => if acc.length < sizeLine ∧ allUn vs (wipes vs st3) = true then compS vs g ft fe ds (acc ++ [y]) (wipes vs st3) else .bad
      else if allUn vs (wipes vs st2) = true then compS vs g ft fe ds acc (wipes vs st2) else .bad
/-- [elt for tg in iter if ..] -/
def cmp1 (vs : List Nat) (fi : Ei) (g : D → Sts → Option Sts) (ft : Et) (fe : Ev) : Ev := fun st => (fi st).bind fun ds st1 => if allUn vs st1 = true then compS vs g ft fe ds [] st1 else .bad
/-- a clause's tests -/
structure VTs (X : Cx) (T : Addr → Prop) (W : Wx) (m : Bool) (es : List Expr) (f : Et) : Prop where
  pt : PTs X es (tT X T W m f)
def tYes' : Et := fun st => .ok true st
abbrev WN : Wx := fun _ _ _ _ => False
theorem VTs.nil {X : Cx} {T : Addr → Prop} {W : Wx} {m : Bool} : VTs X T W m [] tYes' := ⟨⟨fun pins s σ H Q I ⟨F, st, R, q⟩ => pts_nil.run pins s σ H Q I (q true H R XGo.refl rfl)⟩⟩
theorem VTs.one {X : Cx} {T : Addr → Prop} {W : Wx} {m : Bool} {c : Expr} {f : Et} (h : VT X T W m c f) : VTs X T W m [c] f := ⟨pts_one h.pt⟩
theorem Kp.putNew {M : Addr → Prop} {H H1 : Hp} {p : Addr} {o : HO} (k : Kp M H H1) (h : H p = none) : Kp M H (L2.upd H1 p o) := ⟨fun a u e x => by rw [upd_ne (ne_of_none e h)]; exact k.at' a u e x, fun a n => by
  by_cases e : a = p
  · rw [e, upd_same]; intro z; cases z
  · rw [upd_ne e]; exact k.dom a n⟩
/-- the block's own list grows -/
theorem RepS.grow {K : PySem.W.Frag} {T F : Addr → Prop} {H : Hp} {σ : St} {st : Sts} {p : Addr} {xs ys : List V} (R : RepS K T (And1 F p) H σ st) (hp : H p = some (.lst xs)) :
    RepS K T (And1 F p) (L2.upd H p (.lst ys)) σ st ∧ ∀ {ds : List D} {us : List V}, RepA K (Bd (And1 F p) σ st) H ds us → RepA K (Bd (And1 F p) σ st) (L2.upd H p (.lst ys)) ds us := by
  have k : Kp (fun b => b = p) H (L2.upd H p (.lst ys)) := Kp.put1 (by rw [hp]; trivial)
  have hM : ∀ b, b = p → Bd (And1 F p) σ st b := fun b e => .inl (.inr e)
  have hB : ∀ b, Bd (And1 F p) σ st b → Bd (And1 F p) σ st b ∨ H b = none := fun b z => .inl z
  refine ⟨⟨fun b z => k.dom b (R.dom b z), R.len, fun j x hj => let ⟨v, e1, e2⟩ := R.im j x hj; ⟨v, e1, e2.step k hM hB⟩, fun j x hj => let ⟨b, e1, e2, e3⟩ := R.ow j x hj; ⟨b, e1, e2, e3.step k hM hB fun z => e2 (.inr z)⟩,
    fun j x hj => let ⟨b, e1, e2⟩ := R.scr j x hj; ⟨b, e1, e2.step k hM hB⟩, R.dis, fun P h => tab_put (by rw [hp]; trivial) (R.tab P h)⟩, fun q => q.step k hM hB⟩
theorem bindN_ok {α β : Type} {x : Res α} {f : α → Sts → Res β} {X : Cx} {T : Addr → Prop} {W : Wx} {m : Bool} {F : Addr → Prop} {σ : St} {H : Hp} {st : Sts} {Q : VK} {y : Res β → Res D}
    (hy : y .bad = .bad) (h : RF X T W m F σ H st Q (y (x.bindN f))) : ∃ a st', x = .ok a st' ∧ RF X T W m F σ H st Q (y (f a st')) := by
  cases x with
  | ok a st' => exact ⟨a, st', rfl, h⟩
  | exc c st' => have h : RF X T W m F σ H st Q (y .bad) := h; rw [hy] at h; exact h.elim
  | bad => have h : RF X T W m F σ H st Q (y .bad) := h; rw [hy] at h; exact h.elim
section
variable {X : Cx} {T F : Addr → Prop} {W : Wx} {m mi mb : Bool} {σ : St} {H : Hp} {st : Sts} {Q : VK} {fi : Ei} {g : D → Sts → Option Sts} {ft : Et} {fe : Ev} {vs sl : List Nat}
/-- where the block stands: σ, H1, st1 at its start; D its list -/
structure Blk (X : Cx) (T F : Addr → Prop) (mb : Bool) (vs : List Nat) (p : Addr) (σ : St) (H1 : Hp) (st1 : Sts) (acc : List D) (H' : Hp) (st' : Sts) : Prop where
  rep : RepS X.K T (And1 F p) H' σ st'
  un : allUn vs st' = true
  kp : Kp (fun a => mb = true ∧ Own σ st1 a) H1 H'
  sub : ∀ a, Own σ st' a → Own σ st1 a
  par : ∀ (i : Nat) d, st1[i]? = some (.par d) → ∃ d', st'[i]? = some (.par d')
  pure : mb = false → st' = st1
  lst : ∃ xs, H' p = some (.lst xs) ∧ RepA X.K (Bd (And1 F p) σ st') H' acc xs
/-- one item more -/
theorem blk_step {p : Addr} {H1 H2 H3 : Hp} {st1 st2 st3 : Sts} {acc : List D} (b : Blk X T F mb vs p σ H1 st1 acc H2 st2) (hp : H1 p = none) {σ3 : St} (hw : wipe σ3 vs = wipe σ vs) (hun : allUn vs (wipes vs st3) = true)
    (R3 : RepS X.K T (And1 F p) H3 σ3 st3) (k : Kp (fun a => mb = true ∧ Own σ st2 a) H2 H3) (sub : ∀ a, Own σ3 st3 a → Own σ st2 a) (par : ∀ (i : Nat) d, st2[i]? = some (.par d) → ∃ d', st3[i]? = some (.par d')) (pure : mb = false → wipes vs st3 = st2) :
    Blk X T F mb vs p σ H1 st1 acc H3 (wipes vs st3) ∧ (∀ a, Own σ (wipes vs st3) a ↔ Own σ3 (wipes vs st3) a) := by
  obtain ⟨R4, y4⟩ := RepS.wipes vs R3
  have agree : ∀ (j : Nat) s, (wipes vs st3)[j]? = some s → s ≠ .un → σ[j]? = σ3[j]? := fun j s e n => by
    rw [← wipe_agree (σ := σ) hun j s e n, ← hw, wipe_agree (σ := σ3) hun j s e n]
  have hlen : σ.length = σ3.length := by
    have := congrArg List.length hw
    rw [wipe_length, wipe_length] at this
    exact this.symm
  obtain ⟨R5, hO⟩ := R4.slots hlen agree
  have sub' : ∀ a, Own σ (wipes vs st3) a → Own σ st2 a := fun a z => by
    rcases y4.sub a ((hO a).mp z) with z1 | z1
    · exact sub a z1
    · exact (R4.own_there ((hO a).mp z) z1).elim
  obtain ⟨xs, e1, e2⟩ := b.lst
  have np : ¬ Own σ st2 p := fun z => by
    obtain ⟨i, d, g1, g2⟩ := z
    obtain ⟨a, q1, q2, _⟩ := b.rep.ow i d g1
    rw [g2] at q1; cases q1
    exact q2 (.inr rfl)
  refine ⟨⟨R5, hun, b.kp.trans k fun a z => .inl ⟨z.1, b.sub a z.2⟩, fun a z => b.sub a (sub' a z), fun i d e => ?_, fun e => (pure e).trans (b.pure e), xs, k.at' _ _ e1 (fun z => np z.2), ?_⟩, hO⟩
  · obtain ⟨d', e'⟩ := b.par i d e
    obtain ⟨d'', e''⟩ := par i d' e'
    obtain ⟨d3, e3, _⟩ := y4.par i d'' e''
    exact ⟨d3, e3⟩
  · exact e2.step k (fun a z => .inr z.2) fun a z => .inl (z.imp id (sub' a))
theorem comp_read {wi : TI} {gg : TG} {tt : TT} {te : TE} (hi : ∀ σ H R, (∃ F st, RepS X.K T F H σ st ∧ RG X T W mi (fun _ _ (_ : List D) (_ : It) => True) F σ H st (fun _ _ => True) (fi st) ∧ ∀ ds st', fi st = .ok ds st' → ∀ J H', RepS X.K T F H' σ st' → XGo mi σ H H' st st' → Jw X.K T (Bd F σ st') (Bd F σ st') H' J ds → R J H') → wi σ H R)
    (bk : Bk sl g) (hsl : ∀ i ∈ sl, i ∈ vs)
    (hg : ∀ v σ H Q, (∃ F st d st', RepS X.K T F H σ st ∧ Rep X.K (Bd F σ st) H d v ∧ g d st = some st' ∧ ∀ σ', RepS X.K T F H σ' st' → SGo σ H st σ' H st' → (∀ vs, (∀ i ∈ sl, i ∈ vs) → wipe σ' vs = wipe σ vs) → Q σ' H) → gg v σ H Q)
    (ht : ∀ σ H Q, tT X T WN mb ft σ H Q → tt σ H Q) (he : ∀ σ H Q, tV X T WN mb false fe σ H Q → te σ H Q)
    (R : RepS X.K T F H σ st) (q : RF X T W (mi || mb) F σ H st Q (cmp1 vs fi g ft fe st)) : tLc wi gg tt te vs σ H Q := by
  refine hi σ H _ ⟨F, st, R, ?_, fun ds st1 e J H1 R1 y1 jw p hp => ?_⟩
  · cases e : fi st with
    | ok ds st' => exact fun _ _ _ _ _ => trivial
    | exc c st' => unfold cmp1 at q; rw [e] at q; exact q
    | bad => unfold cmp1 at q; rw [e] at q; exact q.elim
  unfold cmp1 at q
  rw [e] at q
  have q : RF X T W (mi || mb) F σ H st Q (if allUn vs st1 = true then compS vs g ft fe ds [] st1 else .bad) := q
  split at q
  case isFalse => exact q.elim
  rename_i hun
  obtain ⟨G, Y, wk, hG, item⟩ := jw.weak (M' := Own σ st1) fun _ z => .inr z
  have nB : ∀ b, Bd (And1 F p) σ st1 b → Bd F σ st1 b ∨ H1 b = none := fun b z => by
    rcases z with (z | z) | z
    · exact .inl (.inl z)
    · exact .inr (by rw [z]; exact hp)
    · exact .inl (.inr z)
  refine ⟨fun i n H' => n = ds.length - i ∧ i ≤ ds.length ∧ ∃ acc st', Blk X T F mb vs p σ H1 st1 acc H' st' ∧ RF X T W (mi || mb) F σ H st Q (compS vs g ft fe (ds.drop i) acc st'),
    ⟨ds.length, by simp, Nat.zero_le _, [], st1, ⟨R1.and1 hp, hun, Kp.upd hp, fun _ z => z, fun _ d e => ⟨d, e⟩, fun _ => rfl, [], upd_same, .nil⟩, q⟩, ?_⟩
  rintro i n H2 ⟨rfl, hi, acc, st2, b, q2⟩
  have g2 : G H2 := hG H2 (b.kp.mono fun _ z => z.2)
  by_cases hlt : i < ds.length
  · refine .inr ⟨wk.goes i H2 hlt g2, fun H' => ∃ acc st', Blk X T F mb vs p σ H1 st1 acc H' st' ∧ RF X T W (mi || mb) F σ H st Q (compS vs g ft fe (ds.drop (i + 1)) acc st'), fun H' h => ⟨ds.length - (i + 1), by omega, rfl, hlt, h⟩, fun x H3 y => ?_⟩
    obtain ⟨k3, t3, d, ed, rd⟩ := item i H2 (Bd (And1 F p) σ st2) x H3 hlt (b.kp.mono fun _ z => z.2) (fun c z => nB c (z.imp id (b.sub c))) (wk.yields i H2 x H3 hlt g2 y)
    have ed' : ds.drop i = d :: ds.drop (i + 1) := by
      rw [List.drop_eq_getElem_cons hlt]
      have := (List.getElem?_eq_getElem hlt).symm.trans ed
      rw [Option.some.inj this]
    rw [ed'] at q2
    cases eg : g d st2 with
    | none => simp only [compS, eg] at q2; exact q2.elim
    | some st3 =>
      simp only [compS, eg] at q2
      -- in the block's slots
      have R3 := b.rep.kept k3 t3
      obtain ⟨Rw, hOw⟩ := R3.slots (τ := wipe σ vs) (wipe_length σ vs) (wipe_agree b.un)
      have rdw : Rep X.K (Bd (And1 F p) (wipe σ vs) st2) H3 d x := rd.step (Kp.refl (fun _ => False) H3) (fun _ z => z.elim) fun c z => .inl (z.imp id (hOw c).mp)
      obtain ⟨hback, hnp⟩ := wipes_back bk eg hsl b.un
      refine hg x (wipe σ vs) H3 _ ⟨And1 F p, st2, d, st3, Rw, rdw, eg, fun σ4 R4 y4 w4 => ?_⟩
      have hw4 : wipe σ4 vs = wipe σ vs := by
        rw [w4 vs hsl]
        have : ∀ (vs us : List Nat) (τ : St), (∀ i ∈ us, i ∈ vs) → wipe (wipe τ us) vs = wipe τ vs := by
          intro vs us
          induction us with
          | nil => intro τ _; rfl
          | cons u us ih =>
            intro τ h
            show wipe ((wipe τ us).set u none) vs = _
            rw [wipe_set (h u List.mem_cons_self), ih τ fun i hi => h i (List.mem_cons_of_mem _ hi)]
        exact this vs vs σ fun _ z => z
      refine ⟨hw4, ht σ4 H3 _ ?_⟩
      obtain ⟨bb, st5, et, q3⟩ := bindN_ok (y := id) rfl q2
      refine ⟨And1 F p, st3, R4, ?_⟩
      rw [et]
      intro bv H5 R5 y5 ebv
      have ebv : bb = bv := ebv
      subst ebv
      have q3 : RF X T W (mi || mb) F σ H st Q (if bb = true then (fe st5).bindN fun y st3 => if acc.length < sizeLine ∧ allUn vs (wipes vs st3) = true then compS vs g ft fe (ds.drop (i + 1)) (acc ++ [y]) (wipes vs st3) else .bad else if allUn vs (wipes vs st5) = true then compS vs g ft fe (ds.drop (i + 1)) acc (wipes vs st5) else .bad) := q3
      -- what has been kept since the turn's begin
      have sub3 : ∀ a, Own σ4 st3 a → Own σ st2 a := fun a z => by
        rcases y4.sub a z with z1 | z1
        · exact (hOw a).mp z1
        · exact (R4.own_there z z1).elim
      have kp5 : Kp (fun a => mb = true ∧ Own σ st2 a) H2 H5 := (k3.mono fun _ z => z.elim).trans y5.kp fun a z => .inl ⟨z.1, sub3 a z.2⟩
      have par5 : ∀ (i : Nat) d, st2[i]? = some (.par d) → ∃ d', st5[i]? = some (.par d') := fun i d e => by
        obtain ⟨d', e', _⟩ := y4.par i d e
        exact y5.par i d' e'
      have np5 : mb = false → st5 = st3 := y5.pure
      cases bb with
      | false =>
        rw [if_neg Bool.false_ne_true] at q3 ⊢
        split at q3
        case isFalse => exact q3.elim
        rename_i hun5
        obtain ⟨b5, _⟩ := blk_step b hp hw4 hun5 R5 kp5 (fun a z => sub3 a (y5.sub a z)) par5 fun z => by rw [np5 z]; exact hback
        exact ⟨acc, _, b5, q3⟩
      | true =>
        rw [if_pos rfl] at q3 ⊢
        obtain ⟨yd, st6, ee, q4⟩ := bindN_ok (y := id) rfl q3
        have q4 : RF X T W (mi || mb) F σ H st Q (if acc.length < sizeLine ∧ allUn vs (wipes vs st6) = true then compS vs g ft fe (ds.drop (i + 1)) (acc ++ [yd]) (wipes vs st6) else .bad) := q4
        split at q4
        case isFalse => exact q4.elim
        rename_i hc
        refine he σ4 H5 _ ⟨And1 F p, st5, R5, ?_⟩
        rw [ee]
        intro yv H6 R6 y6 ry
        have kp6 : Kp (fun a => mb = true ∧ Own σ st2 a) H2 H6 := kp5.trans y6.kp fun a z => .inl ⟨z.1, sub3 a (y5.sub a z.2)⟩
        obtain ⟨b6, hO6⟩ := blk_step b hp hw4 hc.2 R6 kp6 (fun a z => sub3 a (y5.sub a (y6.sub a z))) (fun i d e => let ⟨d', e'⟩ := par5 i d e; y6.par i d' e') fun z => by rw [y6.pure z, np5 z]; exact hback
        obtain ⟨us, e1, e2⟩ := b6.lst
        refine ⟨us, e1, by rw [← e2.length]; exact hc.1, acc ++ [yd], _, ?_, q4⟩
        obtain ⟨Rg, hgr⟩ := b6.rep.grow (ys := us ++ [yv]) e1
        have ry' : Rep X.K (Bd (And1 F p) σ (wipes vs st6)) H6 yd yv := ry.clean.step (Kp.refl (fun _ => False) H6) (fun _ z => z.elim) fun c z => by
          rcases z with z | z
          · exact .inl (.inl z)
          · rcases (RepS.wipes vs R6).2.sub c ((hO6 c).mp z) with z1 | z1
            · exact .inl (.inr z1)
            · exact .inr z1
        exact ⟨Rg, b6.un, b6.kp.putNew hp, b6.sub, b6.par, b6.pure, _, upd_same, hgr (e2.append (.cons ry' .nil))⟩
  · have e : i = ds.length := by omega
    subst e
    rw [List.drop_length] at q2
    obtain ⟨xs, e1, e2⟩ := b.lst
    have np : ¬ Bd F σ st2 p := fun z => by
      rcases z with z | z
      · exact R1.dom p z hp
      · exact R1.own_there (b.sub p z) hp
    refine .inl ⟨wk.stops H2 g2, q2 p H2 b.rep np (y1.tr (m2 := mb) ⟨b.kp, b.sub, b.par, b.pure⟩ orL orR) (.lst e1 e2) (dom_back y1.kp hp)⟩
end
end Vs
namespace Vs
open PySem PySem.Spec PyProof.Rows L2
section
variable {X : Cx} {T : Addr → Prop} {W : Wx} {mi mb : Bool} {fi : Ei} {g : D → Sts → Option Sts} {ft : Et} {fe : Ev} {sl : List Nat} {elt tg iter : Expr} {ifs : List Expr} {scope : Scope} {own : List (Str × Nat)} {pos spos py : Pos} {y : Str} {i : Nat}
theorem VF.comp (hc : X.calm = true) (hN : X.N.Nodup) (hi : VI X T W mi tg iter fi) (ok : BlkOk X.N X.env.scope scope own) (hsl : ∀ i ∈ sl, i ∈ own.map (·.2))
    (hg : ∀ (s : Shared) (H : Hp) (C : Addr) (cl : List (Str × Addr)) (fp : List Addr), VG (X.blk s H scope (compEnvC scope cl C X.env) fp) T sl tg g)
    (ht : ∀ (s : Shared) (H : Hp) (C : Addr) (cl : List (Str × Addr)) (fp : List Addr), VTs (X.blk s H scope (compEnvC scope cl C X.env) fp) T WN mb ifs ft)
    (he : ∀ (s : Shared) (H : Hp) (C : Addr) (cl : List (Str × Addr)) (fp : List Addr), VE (X.blk s H scope (compEnvC scope cl C X.env) fp) T WN mb false elt fe) (hs : ∀ x, foldedSetIterable iter X.env x = pure x := by intro _; rfl) {vsO : List Nat} (hvs : vsO = own.map (·.2) := by rfl) :
    VF X T W (mi || mb) (.ListComp elt [⟨tg, iter, ifs, 0⟩] scope pos) (cmp1 vsO fi g ft fe) := by
  subst hvs
  exact ⟨pe_weak (pe_lc hc hN hi.pi ok (fun s H C cl fp => (hg s H C cl fp).pg) (fun s H C cl fp => (ht s H C cl fp).pt) (fun s H C cl fp => (he s H C cl fp).pe) hs) fun σ H Q ⟨F, st, R, q⟩ =>
    comp_read (fun _ _ _ z => z) (hg X.s_0 (fun _ => none) 0 [] []).bk hsl (fun _ _ _ _ z => z) (fun _ _ _ z => z) (fun _ _ _ z => z) R q⟩
/-- name = [elt for ..] on one line, the name a local -/
theorem VS.ownC (hc : X.calm = true) (hN : X.N.Nodup) (hy : X.N[i]? = some y) (hyl : X.env.scope.names.lookup y = some .local) (hsw : swapsWith (.ListComp elt [⟨tg, iter, ifs, 0⟩] scope pos) (some (.Name y py)) spos.line X.env = pure true)
    (hi : VI X T W mi tg iter fi) (ok : BlkOk X.N X.env.scope scope own) (hsl : ∀ i ∈ sl, i ∈ own.map (·.2))
    (hg : ∀ (s : Shared) (H : Hp) (C : Addr) (cl : List (Str × Addr)) (fp : List Addr), VG (X.blk s H scope (compEnvC scope cl C X.env) fp) T sl tg g)
    (ht : ∀ (s : Shared) (H : Hp) (C : Addr) (cl : List (Str × Addr)) (fp : List Addr), VTs (X.blk s H scope (compEnvC scope cl C X.env) fp) T WN mb ifs ft)
    (he : ∀ (s : Shared) (H : Hp) (C : Addr) (cl : List (Str × Addr)) (fp : List Addr), VE (X.blk s H scope (compEnvC scope cl C X.env) fp) T WN mb false elt fe) (hs : ∀ x, foldedSetIterable iter X.env x = pure x := by intro _; rfl) {vsO : List Nat} (hvs : vsO = own.map (·.2) := by rfl) :
    VS X T W (.Assign [.Name y py] (.ListComp elt [⟨tg, iter, ifs, 0⟩] scope pos) spos) (sOwn i (cmp1 vsO fi g ft fe)) := by
  subst hvs
  exact ⟨ps_weak (ps_setLc hc hN hy hyl hsw hi.pi ok (fun s H C cl fp => (hg s H C cl fp).pg) (fun s H C cl fp => (ht s H C cl fp).pt) (fun s H C cl fp => (he s H C cl fp).pe) hs) fun D σ H ⟨F, st, R, q⟩ =>
    comp_read (fun _ _ _ z => z) (hg X.s_0 (fun _ => none) 0 [] []).bk hsl (fun _ _ _ _ z => z) (fun _ _ _ z => z) (fun _ _ _ z => z) R (own_read R q)⟩
/-- .. shared from the start -/
theorem VS.setC (hc : X.calm = true) (hN : X.N.Nodup) (hy : X.N[i]? = some y) (hyl : X.env.scope.names.lookup y = some .local) (hsw : swapsWith (.ListComp elt [⟨tg, iter, ifs, 0⟩] scope pos) (some (.Name y py)) spos.line X.env = pure true)
    (hi : VI X T W mi tg iter fi) (ok : BlkOk X.N X.env.scope scope own) (hsl : ∀ i ∈ sl, i ∈ own.map (·.2))
    (hg : ∀ (s : Shared) (H : Hp) (C : Addr) (cl : List (Str × Addr)) (fp : List Addr), VG (X.blk s H scope (compEnvC scope cl C X.env) fp) T sl tg g)
    (ht : ∀ (s : Shared) (H : Hp) (C : Addr) (cl : List (Str × Addr)) (fp : List Addr), VTs (X.blk s H scope (compEnvC scope cl C X.env) fp) T WN mb ifs ft)
    (he : ∀ (s : Shared) (H : Hp) (C : Addr) (cl : List (Str × Addr)) (fp : List Addr), VE (X.blk s H scope (compEnvC scope cl C X.env) fp) T WN mb false elt fe) (hs : ∀ x, foldedSetIterable iter X.env x = pure x := by intro _; rfl) {vsO : List Nat} (hvs : vsO = own.map (·.2) := by rfl) :
    VS X T W (.Assign [.Name y py] (.ListComp elt [⟨tg, iter, ifs, 0⟩] scope pos) spos) (sSet i (cmp1 vsO fi g ft fe)) := by
  subst hvs
  exact ⟨ps_weak (ps_setLc hc hN hy hyl hsw hi.pi ok (fun s H C cl fp => (hg s H C cl fp).pg) (fun s H C cl fp => (ht s H C cl fp).pt) (fun s H C cl fp => (he s H C cl fp).pe) hs) fun D σ H ⟨F, st, R, q⟩ => by
    refine comp_read (W := W) (F := F) (st := st) (ft := ft) (fe := fe) (mb := mb) (fun _ _ _ z => z) (hg X.s_0 (fun _ => none) 0 [] []).bk hsl (fun _ _ _ _ z => z) (fun _ _ _ z => z) (fun _ _ _ z => z) R ?_
    unfold sSet bindS at q
    cases e : cmp1 (own.map (·.2)) fi g ft fe st with
    | ok d st' =>
      rw [e] at q
      intro a H' R' n yg o z
      dsimp only at q
      split at q
      · have rp : Rep X.K (Bd F σ st') H' d (.ref a) := (o.step (Kp.refl (fun _ => False) H') (fun _ z => z.elim) (fun b z => .inl (z.imp (fun z => .inl z) id)) fun z => z).rep n
        exact q _ _ ((R'.more fun _ z => .inl z).setV rp) (yg.sgo.setV (by assumption))
      · exact q.elim
    | exc c st' => rw [e] at q; exact fun H' C hc R y => q σ H' C hc R y.sgo
    | bad => rw [e] at q; exact q⟩
end
end Vs

set_option Elab.async false
set_option linter.all false
set_option maxRecDepth 100000
set_option maxHeartbeats 4000000
namespace Vs
open PySem PySem.Spec PyProof.Rows L2 GenW

/-! ### a generator expression's own context -/
abbrev gxOf (X : Cx) (s : Shared) (H : Hp) (cenv : Env) (fp : List Addr) (pn : List (Addr × Obj)) : Cx :=
  { X with A := X.A.in1.in1.deeper cenv, s_0 := s, H_0 := H, env := cenv, outer := X.stack, stack := cenv :: X.stack, ex := fp, fn := fun _ => false, pn := pn, xe := fun _ _ => False }
structure GenB (N : List Str) (sc scope : Scope) (own : List (Str × Nat)) : Prop where
  kind : scope.kind = .function
  co : scope.isCoroutine = false
  cell : ∀ y ∈ scope.names, y.2 ≠ .cell
  dot : scope.names.lookup (".0" : Str) = some NameKind.local
  uniq : ∀ y ∈ scope.names, scope.names.lookup y.1 = some y.2
  ix : ∀ p ∈ own, N[p.2]? = some p.1
  free : ∀ y ∈ scope.names, y.2 = .free → sc.names.lookup y.1 = some .cell ∨ sc.names.lookup y.1 = some .free
  own : ∀ y ∈ scope.names, y.2 = .local → y.1 ∈ own.map (·.1) ∨ y.1 ∉ N
theorem room_gx {X : Cx} {s : Shared} {H : Hp} {cenv : Env} {fp : List Addr} {pn : List (Addr × Obj)} {k : Nat} (r : Room (k + 1) X.A) : Room k (gxOf X s H cenv fp pn).A :=
  ⟨r.hd, by have := r.dp; show X.A.depth + 1 + 3 * k + 5 < _; omega, by have := r.un; show X.A.units + 1 + 1 + 3 + 16 * k + 200 < _; omega⟩
section
variable {X : Cx} {pins : List (Addr × Obj)} {σ : St} {H : Hp} {s : Shared}
theorem gx_start {scope : Scope} {own : List (Str × Nat)} {fp : List Addr} {code : Value} {go : Obj} {h' : Heap} {it : Addr} {gs : GenState} {tk : Nat} (I : Inv X pins σ H s) (ok : GenB X.N X.env.scope scope own) (hN : X.N.Nodup) (hfp : ∀ b ∈ fp, FpOk X pins H b ∧ b < s.heap.objs.size)
    (hn : h'.Ns s.heap.objs.size (fun y => if y = ".0" then some (.ref it) else none)) (hs : Heap.SameBut s.heap.objs.size (s.heap.push { cls := .type "frame", data := .dict #[] }) h') (hgo : ∀ v, go.data ≠ .cell v) (hgp : (h'.push go).get? h'.objs.size = some go) (hgb : gs.bare = true) :
    Inv (gxOf X s H (genEnv scope (cloFrom X.env.cells scope.names []) s.heap.objs.size code builtinsNs X.env) fp [(h'.objs.size, go)]) [] (wipe σ (own.map (·.2))) H { s with gens := s.gens.push gs, toks := tk, heap := h'.push go } := by
  have hfree : ∀ y ∈ scope.names, y.2 = .free → ∃ c, X.env.cells.lookup y.1 = some c := fun y hy e => by
    rcases ok.free y hy e with k | k
    · exact I.ok.has _ (.inl k)
    · exact I.ok.has _ (.inr k)
  generalize hcenv : genEnv scope (cloFrom X.env.cells scope.names []) s.heap.objs.size code builtinsNs X.env = cenv
  have hsz : h'.objs.size = s.heap.objs.size + 1 := by rw [hs.1, Heap.size_push]
  have kp1 : ∀ b o, s.heap.get? b = some o → h'.get? b = some o := fun b o e => hs.extBut b o (Nat.ne_of_lt (Heap.lt_size e)) (Heap.get?_push_of_some _ e)
  have kp : ∀ b o, s.heap.get? b = some o → (h'.push go).get? b = some o := fun b o e => Heap.get?_push_of_some _ (kp1 b o e)
  have hL : cenv.locals = s.heap.objs.size := by rw [← hcenv]; rfl
  have hcl : cenv.cells = cloFrom X.env.cells scope.names [] := by rw [← hcenv]; rfl
  have hsc : cenv.scope = scope := by rw [← hcenv]; rfl
  have cm : ∀ {y c}, (y, c) ∈ cloFrom X.env.cells scope.names [] → X.env.cells.lookup y = some c ∧ c < s.heap.objs.size := fun {y c} hm => by
    rcases cloFrom_mem hm with hm | ⟨h1, rfl⟩
    · cases hm
    · obtain ⟨c, hc⟩ := hfree _ h1 rfl
      rw [hc]
      obtain ⟨w, z⟩ := I.cell _ _ hc
      exact ⟨rfl, z.lt⟩
  have mem : ∀ {y c}, cenv.cells.lookup y = some c → X.env.cells.lookup y = some c ∧ c < s.heap.objs.size := fun {y c} e => by
    rw [hcl] at e
    exact cm (PySem.mem_of_lookup e)
  have look : ∀ {y}, scope.names.lookup y = some .free → ∃ c, cenv.cells.lookup y = some c ∧ X.env.cells.lookup y = some c := fun {y} hl => by
    have hy : (y, NameKind.free) ∈ scope.names := PySem.mem_of_lookup hl
    obtain ⟨c', e'⟩ := mem_lookup (cloFrom_has (cells := X.env.cells) (acc := []) hy)
    rw [← hcl] at e'
    exact ⟨c', e', (mem e').1⟩
  have okB : (gxOf X s H cenv fp [(h'.objs.size, go)]).Ok := by
    refine ⟨I.ok.mod, by show cenv.scope.kind = _; rw [hsc]; exact ok.kind, by show cenv.globals = _; rw [← hcenv]; exact I.ok.glob, by show cenv.builtins = _; rw [← hcenv]; rfl, by show s.heap.objs.size ≤ cenv.locals; rw [hL]; exact Nat.le_refl _,
      fun y z c e1 e2 => ?_, fun y hy => ?_, fun y c z e => ?_, I.ok.hd, ?_, .inr ⟨rfl, ?_⟩, fun b hb => ⟨?_, fun y c e z => ?_⟩, I.bs, Nat.le_trans I.ok.bsz I.sz, fun b o e hb => ?_, fun b hb z => ?_, I.stack, I.stkFree⟩
    · exact I.ok.inj y z c (mem e1).1 (mem e2).1
    · show ∃ c, cenv.cells.lookup y = some c
      have key : scope.names.lookup y = some .free → ∃ c, cenv.cells.lookup y = some c := fun e => let ⟨c, h1, _⟩ := look e; ⟨c, h1⟩
      have hy : cenv.scope.names.lookup y = some .cell ∨ cenv.scope.names.lookup y = some .free := hy
      rw [hsc] at hy
      rcases hy with hy | hy
      · exact (ok.cell _ (PySem.mem_of_lookup hy) rfl).elim
      · exact key hy
    · exact absurd (show (false = true) from z) Bool.false_ne_true
    · exact Around.frames_deeper (A := X.A.in1.in1) I.ok.frames
    · show cenv.frame = some cenv.locals
      rw [← hcenv]; rfl
    · show b ≠ cenv.locals
      rw [hL]; exact Nat.ne_of_lt (hfp b hb).2
    · exact (hfp b hb).1.2.2.2.2.1 y c (mem e).1 z
    · rcases (hfp b hb).1.2.2.2.1 with z | z
      · exact I.ok.noex b o e z
      · exact absurd (Nat.lt_of_lt_of_le (Heap.lt_size e) (Nat.le_trans I.ok.bsz z)) (Nat.lt_irrefl _)
    · rcases List.mem_cons.mp (I.stkSub b z) with z | z
      · exact (hfp b hb).1.2.1 z
      · exact (hfp b hb).1.2.2.1 z
  refine ⟨okB, rfl, AllBare.push I.bare hgb, Un.kept kp, ⟨fun y => if y = ".0" then some (.ref it) else none, ?_, fun i y av e1 e2 e3 => ?_⟩, fun y c e => ?_, ?_, fun y c e => ?_, fun p hp => ?_, I.hok.kept kp, by rw [wipe_length]; exact I.len⟩
  · show Heap.Ns _ cenv.locals _
    rw [hL]
    exact hn.push _
  · obtain ⟨e2, hne⟩ := wipe_some e2
    have e3 : Vis cenv.scope y := e3
    rw [hsc] at e3
    have hfr : scope.names.lookup y = some .free := by
      rcases e3 with e3 | e3 | e3
      · rcases ok.own _ (PySem.mem_of_lookup e3) rfl with e' | e'
        · obtain ⟨p, hp, hpy⟩ := List.mem_map.mp e'
          have e5 := ok.ix p hp
          have : p.1 = y := hpy
          rw [this] at e5
          exact (hne (List.mem_map.mpr ⟨p, hp, nodup_ix hN e5 e1⟩)).elim
        · exact (e' (List.mem_of_getElem? e1)).elim
      · exact (ok.cell _ (PySem.mem_of_lookup e3) rfl).elim
      · exact e3
    obtain ⟨m, hn, hl⟩ := I.loc
    have hvis : Vis X.env.scope y := (ok.free _ (PySem.mem_of_lookup hfr) rfl).elim (fun k => .inr (.inl k)) (fun k => .inr (.inr k))
    obtain ⟨w, r, q⟩ := hl i y av e1 e2 hvis
    refine ⟨w, r, .inr ⟨.inr (by show cenv.scope.names.lookup y = _; rw [hsc]; exact hfr), ?_⟩⟩
    obtain ⟨c, h1, h2⟩ := look hfr
    rcases q with ⟨k, _⟩ | ⟨_, c', e', z⟩
    · have k : X.env.scope.names.lookup y = some .local := k
      rcases ok.free _ (PySem.mem_of_lookup hfr) rfl with k' | k' <;> rw [show X.env.scope.names.lookup y = _ from k'] at k <;> cases k
    · rw [h2] at e'; cases e'
      exact ⟨c, h1, z.keeps kp⟩
  · obtain ⟨h1, _⟩ := mem (show cenv.cells.lookup y = some c from e)
    obtain ⟨w, z⟩ := I.cell y c h1
    exact ⟨w, z.keeps kp⟩
  · show H cenv.locals = none
    rw [hL]; exact I.hok.fresh (Nat.le_refl _)
  · exact I.freeC y c (mem (show cenv.cells.lookup y = some c from e)).1
  · have hp : p ∈ [(h'.objs.size, go)] := by
      rcases List.mem_append.mp hp with z | z
      · exact z
      · cases z
    rw [List.mem_singleton.mp hp]
    refine ⟨hgp, I.hok.fresh (by rw [hsz]; exact Nat.le_succ _), ?_, ?_, hgo⟩
    · show h'.objs.size ≠ cenv.locals
      rw [hL, hsz]; exact Nat.succ_ne_self _
    · intro z
      have z : h'.objs.size ∈ frs X.stack := z
      rcases List.mem_cons.mp (I.stkSub _ z) with q | q
      · have := I.lt
        have : (h'.objs.size : Nat) < s.heap.objs.size := by rw [q]; exact I.lt
        omega
      · exact I.nofs (by rw [hsz]; exact Nat.le_succ _) q
end
end Vs

set_option Elab.async false
set_option linter.all false
set_option maxRecDepth 100000
set_option maxHeartbeats 4000000
namespace Vs
open PySem PySem.Spec PyProof.Rows L2 GenW

section
variable {X : Cx} {pins : List (Addr × Obj)} {σ : St} {H : Hp} {s : Shared}
/-- the generator's code object is found or laid in the def's table -/
theorem gen_code {c P : Addr} {scope : Scope} {gpos : Pos} {E : Value → Shared → Prop} {Q : Value → Addr → Shared → Prop} (TB : GxR.TabB X.base X.mg c P) (hcode : X.env.code = .ref c) (I : Inv X pins σ H s) (ht : GxR.TabG H P)
    (hQ : ∀ code h' tk H2, GxR.Tabbed P H H2 → Inv X pins σ H2 { s with heap := h', toks := tk } → s.heap.objs.size ≤ h'.objs.size → (∀ b o, b ≠ P → s.heap.get? b = some o → h'.get? b = some o) → Q code builtinsNs { s with heap := h', toks := tk }) :
    wpAny (model X.prog X.w) X.A (genexprCode X.env gpos (X.env.qual ++ "<genexpr>") scope) (fun code s3 => wpAny (model X.prog X.w) X.A (builtinsFor X.env.globals X.env.builtins) (fun bi s4 => Q code bi s4) E s3) E s := by
  obtain ⟨ps, hP, htr⟩ := ht
  have hPs : s.heap.get? P = some { cls := .none, data := .fields ps } := I.hok P _ hP
  have cd : PySem.W.CodeHd s.heap c P := TB.code.keeps I.bk
  have cont : ∀ (code : Value) (h3 : Heap) (tk : Nat) (ps' : Array Value), Heap.ExtBut P s.heap h3 → s.heap.objs.size ≤ h3.objs.size → h3.get? P = some { cls := .none, data := .fields ps' } → (∃ more, ps' = ps ++ more) → TriplesOk ps'.toList →
      wpAny (model X.prog X.w) X.A (builtinsFor X.env.globals X.env.builtins) (fun bi s4 => Q code bi s4) E { s with heap := h3, toks := tk } := by
    intro code h3 tk ps' hx hsz hP3 hmore ht3
    obtain ⟨bm, ob, e1, e2, e3, e4, e5, e6, e7, e8⟩ := TB.bm
    have keep3 : ∀ b u, b ≠ P → s.heap.get? b = some u → h3.get? b = some u := fun b u hb e => hx b u hb e
    refine wpAny_builtinsFor (m := X.mg) (by rw [I.ok.glob]; exact (I.mod.glob.keeps I.bk).extBut hx TB.gP) e1 e2 (keep3 _ _ e4 (I.bk _ _ e5)) e6 e7 e8 ?_
    obtain ⟨more, em⟩ := hmore
    refine hQ code h3 tk (L2.upd H P (.tbl (ps ++ more))) ⟨⟨ps ++ more, upd_same, by rw [← em]; exact ht3⟩, fun b hb => upd_ne hb⟩ ?_ hsz keep3
    exact GxR.inv_tab (more := more) (h' := h3) (g' := s.gens) (d' := s.drawn) (t' := tk) I hP (fun b u hb e => keep3 b u hb e) (by rw [← em]; exact hP3) I.bare
  cases hf : codeAmong gpos ps.toList with
  | none =>
    refine wpAny_genexprCodeX hcode (cd.code hPs htr) (cd.tab hPs) hf fun c' h' tk hx hge hlt hco' _ htab' _ => ?_
    obtain ⟨o1, vs, f1, tf, fl, tg, inF, tx, tt, op, _, _, _, _, _, _, _, _, _, htr', _⟩ := hco'
    exact cont _ h' tk _ hx (Nat.le_trans hge (Nat.le_of_lt hlt)) htab'.2 ⟨_, rfl⟩ htr'
  | some cv =>
    refine wpAny_genexprCode_hit hcode (cd.code hPs htr) hf ?_
    exact cont cv s.heap s.toks ps (Heap.ExtBut.refl _ _) (Nat.le_refl _) hPs ⟨#[], by simp⟩ htr
end
end Vs

set_option Elab.async false
set_option linter.all false
set_option maxRecDepth 100000
set_option maxHeartbeats 4000000
namespace Vs
open PySem PySem.Spec PyProof.Rows L2 GenW

/-! ### the generator's own turns -/
/-- a truth value is handed out; only cont is gone on from -/
def BY (G : Cx) (cont : Bool) (Gd : Bool → Hp → Prop) : Protocol := fun _ _ v s kap => ∃ c : Bool, v = .bool c ∧ (∃ ip σ' H', Inv G ip σ' H' s ∧ (c ≠ cont → Gd c H')) ∧ (c = cont → ∀ Gn tk, AllBare Gn → kap (.send .none) { s with gens := Gn, toks := tk })
def BR (G : Cx) (cont : Bool) (Gd : Bool → Hp → Prop) : GenEnd := fun _ _ r s => r = .ok .next ∧ ∃ ip σ' H', Inv G ip σ' H' s ∧ Gd cont H'
theorem Inv.gens {X : Cx} {pins : List (Addr × Obj)} {σ : St} {H : Hp} {s : Shared} {Gn : Array GenState} {tk : Nat} (I : Inv X pins σ H s) (h : AllBare Gn) : Inv X pins σ H { s with gens := Gn, toks := tk } :=
  I.call' (s' := { s with gens := Gn, toks := tk }) (ch := []) rfl Un.refl I.hok h fun b z => by simp at z
/-- the turns of one clause -/
structure Turns1 (J : It) (σ : St) (vs : List Nat) (gg : TG) (tt : TT) (te : TE) (cont : Bool) (Gd : Bool → Hp → Prop) (W : Nat → Nat → Hp → Prop) : Prop where
  turn : ∀ i m H, W i m H → (J.stop i H ∧ Gd cont H) ∨ (J.go i H ∧ ∃ N : Hp → Prop, (∀ H', N H' → ∃ m', m' < m ∧ W (i + 1) m' H') ∧
    ∀ x H', J.yld i H x H' → gg x (wipe σ vs) H' fun σ2 H2 => wipe σ2 vs = wipe σ vs ∧ tt σ2 H2 fun b H3 => if b = true then te σ2 H3 fun y H4 => ∃ c, y = .bl c ∧ (if c = cont then N H4 else Gd c H4) else N H3)
theorem seg_gen1 {G : Cx} {A : Around} {elt tg iter : Expr} {ifs : List Expr} {scope : Scope} {pos : Pos} {it : Addr} {fp : List Addr} {tn : Nat → Heap → Prop} {J : It} {gg : TG} {tt : TT} {te : TE} {cont : Bool} {Gd : Bool → Hp → Prop} {σ : St} {vs : List Nat} {W : Nat → Nat → Hp → Prop}
    (hx : G.xe = fun _ _ => False) (hover : A.over (.compLoop (.GeneratorExp elt [⟨tg, iter, ifs, 0⟩] scope pos) 0 (.ref it) .none G.env) [] = G.A) (hco : G.env.scope.isCoroutine = false) (hc : G.calm = true) (hex : G.ex = fp) (hpn : ∀ p ∈ G.pn, ∀ b ∈ fp, p.1 ≠ b)
    (T : Turn G.prog G.w G.K tg J fp it tn) (hg : PG G tg gg) (ht : PTs G ifs tt) (he : PE G elt te) (tr : Turns1 J σ vs gg tt te cont Gd W) :
    ∀ (m n i : Nat) (s₀ s : Shared) (H1 : Hp), m < n → W i m H1 → Inv G [] (wipe σ vs) H1 s → tn i s.heap → (∀ b ∈ fp, H1 b = none) →
      Seg (model G.prog G.w) A (BR G cont Gd) (BY G cont Gd) n s₀ (.compLoop (.GeneratorExp elt [⟨tg, iter, ifs, 0⟩] scope pos) 0 (.ref it) .none G.env)
        ((model G.prog G.w).den (.compLoop (.GeneratorExp elt [⟨tg, iter, ifs, 0⟩] scope pos) 0 (.ref it) .none G.env)) [] s := by
  intro m
  induction m using Nat.strongRecOn with
  | _ m ih =>
  intro n i s₀ s H1 hmn hw I st nfp
  have stat : ∀ {σ' : St} {H' : Hp} {s' : Shared}, Inv G [] σ' H' s' → (∀ b ∈ fp, H' b = none) → ∀ b ∈ fp, FpOk G [] H' b := fun {σ' H' s'} I' hn b hb => by
    have hb' : b ∈ G.ex := by rw [hex]; exact hb
    exact ⟨hn b hb, (I'.ok.exf b hb').1, I'.ok.exfs b hb', .inl hb', fun x c e => (I'.ok.exf b hb').2 x c e, fun p hp => by
      rw [List.append_nil] at hp
      exact hpn p hp b hb⟩
  obtain ⟨n, rfl⟩ : ∃ n', n = n' + 1 := ⟨n - 1, by omega⟩
  show Seg _ A _ _ _ s₀ _ ((compTurn (.GeneratorExp elt [⟨tg, iter, ifs, 0⟩] scope pos) 0 (.ref it) .none G.env).onRaise (leaving G.env)) [] s
  rw [compTurn_gen, Sem.onRaise_eq_wrap]
  refine seg_bind_wrap (wpAny_standAt ?_)
  refine seg_bind_wrap ?_
  rw [hover]
  rcases tr.turn i m H1 hw with ⟨stop, gd⟩ | ⟨go, N, hN, step⟩
  · refine thnF (T.done G rfl rfl rfl hc i [] s _ H1 (fun _ _ => False) I (stat I nfp) st stop) fun r s6 ⟨hr, I6⟩ => ?_
    subst hr
    exact seg_end (.ok .next) ⟨rfl, _, _, _, I6, gd⟩
  · refine thnF (T.item G rfl rfl rfl hc i [] s _ H1 (fun _ _ => False) I (stat I nfp) st go) fun r s6 ⟨u, hr, h6⟩ => ?_
    subst hr
    refine seg_bind_wrap ?_
    rw [hover]
    refine thnF h6 fun _ s7 ⟨x, H7, I7, r7, y7, st7, n7⟩ => ?_
    have I7' := I7.pinned (stat I7 n7) (T.obj _ _ st7)
    refine seg_bind_wrap ?_
    rw [hover]
    have a1 := hg.run _ s7 _ H7 x u _ I7' r7 (step x H7 y7)
    rw [hx] at a1
    refine thnF a1 fun _ s8 ⟨σ8, H8, I8, hw8, q8⟩ => ?_
    refine seg_bind_wrap ?_
    rw [hover]
    have a2 := ht.run _ s8 σ8 H8 _ I8 q8
    rw [hx] at a2
    refine thnF a2 fun b s9 ⟨H9, I9, q9⟩ => ?_
    have hl8 : (wipe σ vs).length = σ8.length := by rw [← hw8, wipe_length]
    have hk8 : ∀ (j : Nat) v, (wipe σ vs)[j]? = some (some v) → σ8[j]? = some (some v) := fun j v e => by
      rw [← hw8] at e
      exact (wipe_some e).1
    -- the turn's end
    have fin : ∀ {n' : Nat} {s₁ s' : Shared} {H' : Hp}, m ≤ n' → Inv G ([] ++ pinsAt fp s7.heap) σ8 H' s' → N H' →
        Seg (model G.prog G.w) A (BR G cont Gd) (BY G cont Gd) n' s₁ (.compLoop (.GeneratorExp elt [⟨tg, iter, ifs, 0⟩] scope pos) 0 (.ref it) .none G.env)
          ((model G.prog G.w).den (.compLoop (.GeneratorExp elt [⟨tg, iter, ifs, 0⟩] scope pos) 0 (.ref it) .none G.env)) [] s' := fun {n' s₁ s' H'} hle I' nx => by
      obtain ⟨m', hm, w'⟩ := hN H' nx
      have pin' : ∀ b ∈ fp, ∀ o, s7.heap.get? b = some o → s'.heap.get? b = some o ∧ H' b = none := fun b hb o e =>
        let z := I'.pin (b, o) (List.mem_append_right _ (List.mem_append_right _ (mem_pinsAt hb e)))
        ⟨z.1, z.2.1⟩
      refine ih m' hm n' (i + 1) s₁ s' H' (Nat.lt_of_lt_of_le hm hle) w' ((I'.unpinned (pins := [])).weak hl8 hk8) (T.keep _ _ _ st7 fun b hb o e => (pin' b hb o e).1) fun b hb => ?_
      obtain ⟨o, e, _⟩ := T.obj _ _ st7 b hb
      exact (pin' b hb o e).2
    cases b with
    | false =>
      simp only [Bool.false_eq_true, if_false] at q9 ⊢
      exact seg_again rfl (fin (by omega) I9 q9)
    | true =>
      simp only [if_true] at q9 ⊢
      have hy : ∀ v, yieldOut G.env v = yieldValue v := fun v => by simp only [yieldOut, hco, Bool.false_eq_true, if_false]
      simp only [hy]
      rw [Sem.bind_eq_wrap', Sem.bind_eq_wrap', Sem.wrap_wrap, Sem.wrap_wrap]
      refine seg_wrap ?_
      rw [hover]
      have a3 := he.run _ s9 σ8 H9 _ I9 q9
      rw [hx] at a3
      refine thnF a3 fun z s10 ⟨yv, H10, I10, r10, c, hcv, nx⟩ => ?_
      subst hcv
      have r10 : z = .bool c := r10
      subst r10
      refine seg_at (seg_yield rfl rfl rfl ⟨c, rfl, ⟨_, _, _, I10, fun hne => ?_⟩, fun hce Gn tk hgb => ?_⟩)
      · rw [if_neg hne] at nx; exact nx
      · rw [if_pos hce] at nx
        exact seg_again rfl (fin (by omega) (Inv.gens I10 hgb) nx)
end Vs

set_option Elab.async false
set_option linter.all false
set_option maxRecDepth 100000
set_option maxHeartbeats 4000000
namespace Vs
open PySem PySem.Spec PyProof.Rows L2 GenW

theorem seg_genStart1 {prog : Program} {w : World} {A : Around} {R : GenEnd} {Y : Protocol} {n : Nat} {elt tg iter : Expr} {ifs : List Expr} {scope : Scope} {pos : Pos} {it : Addr} {fp : List Addr} {tn : Nat → Heap → Prop} {J : It} {K : PySem.W.Frag} {cenv : Env} {s₀ s : Shared}
    (T : Turn prog w K tg J fp it tn) (st : tn 0 s.heap)
    (loop : Seg (model prog w) A R Y n s₀ (.compLoop (.GeneratorExp elt [⟨tg, iter, ifs, 0⟩] scope pos) 0 (.ref it) .none cenv) ((model prog w).den (.compLoop (.GeneratorExp elt [⟨tg, iter, ifs, 0⟩] scope pos) 0 (.ref it) .none cenv)) [] s) :
    Seg (model prog w) A R Y n s₀ (.compStart (.GeneratorExp elt [⟨tg, iter, ifs, 0⟩] scope pos) 0 (.ref it) .none cenv) ((model prog w).den (.compStart (.GeneratorExp elt [⟨tg, iter, ifs, 0⟩] scope pos) 0 (.ref it) .none cenv)) [] s := by
  show Seg _ A _ _ _ s₀ _ ((compStart (.GeneratorExp elt [⟨tg, iter, ifs, 0⟩] scope pos) 0 (.ref it) .none cenv).onRaise (leaving cenv)) [] s
  unfold compStart
  rw [Sem.onRaise_eq_wrap]
  show Seg _ A _ _ _ s₀ _ ((ask >>= _).wrap _ _ _ _) [] s
  refine seg_bind_wrap (wpAny_askSetting ?_)
  split
  · exact seg_again rfl loop
  · first
      | exact seg_bind_wrap (wpAny_rule (seg_bind_wrap (wpAny_standAt (seg_bind_wrap (T.self _ 0 s _ _ st (seg_again rfl loop))))))
      | (refine seg_bind_wrap (wpAny_rule ?_); show Seg _ A _ _ _ s₀ _ ((standAt iter.pos >>= _).wrap _ _ _ _) [] s; exact seg_bind_wrap (wpAny_standAt (seg_bind_wrap (T.self _ 0 s _ _ st (seg_again rfl loop)))))

section
variable {G : Cx} {A : Around} {cont : Bool} {Gd : Bool → Hp → Prop} {R : Result → Shared → Prop} {a : Addr} {g : Nat} {go : Obj}
theorem isGen_of (hpn : G.pn = [(a, go)]) (hgen : ∀ h : Heap, h.get? a = some go → h.IsGen a g) {ip : List (Addr × Obj)} {σ' : St} {H' : Hp} {s : Shared} (I : Inv G ip σ' H' s) : s.heap.IsGen a g :=
  hgen _ (I.pin (a, go) (List.mem_append_left _ (by rw [hpn]; exact List.mem_singleton.mpr rfl))).1
/-- what is kept of the end -/
def BEnd (G : Cx) (Gd : Bool → Hp → Prop) (R : Result → Shared → Prop) : Prop := ∀ (c : Bool) (s1 : Shared) (ip : List (Addr × Obj)) (σ' : St) (H' : Hp), Inv G ip σ' H' s1 → Gd c H' → ∀ h' Gn tk, (∀ b o, s1.heap.get? b = some o → h'.get? b = some o) → AllBare Gn → R (.ok (.ret (.bool c))) { s1 with heap := h', gens := Gn, toks := tk }
/-- one round of all.loop, any.loop -/
theorem next_bool (hh : A.handled = none) (hd : A.depth < recursionLimit) (hpn : G.pn = [(a, go)]) (hgen : ∀ h : Heap, h.get? a = some go → h.IsGen a g) {n : Nat} {s : Shared} {Q : Option Value → Shared → Prop} {E : Value → Shared → Prop} (hg : s.heap.IsGen a g) (hl : s.heap.NoLimit)
    (hgo : ∃ gs, s.gens[g]? = some gs ∧ gs.Goes (model G.prog G.w) A.in1 (BR G cont Gd) (BY G cont Gd) (n + 1) (.send .none) (s.setGen g .running))
    (hstop : ∀ s1 ip σ' H', Inv G ip σ' H' s1 → Gd cont H' → ∀ h' Gn, (∀ b o, s1.heap.get? b = some o → h'.get? b = some o) → AllBare Gn → Q none { s1 with heap := h', gens := Gn })
    (hout : ∀ c s1 ip σ' H', c ≠ cont → Inv G ip σ' H' s1 → Gd c H' → ∀ Gn, AllBare Gn → Q (some (.bool c)) { s1 with gens := Gn })
    (hgo2 : ∀ s1, s1.heap.IsGen a g → s1.heap.NoLimit → (∃ gs, s1.gens[g]? = some gs ∧ gs.Goes (model G.prog G.w) A.in1 (BR G cont Gd) (BY G cont Gd) n (.send .none) (s1.setGen g .running)) → Q (some (.bool cont)) s1) :
    wpAny (model G.prog G.w) A (pyNext (.ref a)) Q E s := by
  obtain ⟨gs, hgs, hgo⟩ := hgo
  have hgl : g < s.gens.size := (Array.getElem?_eq_some_iff.mp hgs).1
  refine wpAny_gsz (n := g + 1) hgl (wpAny_pyNext_genexpQ (P := fun n s₀ s₁ => ∃ ip σ' H', Inv G ip σ' H' s₁ ∧ Gd cont H') hh hl hd hg hgs hgo (fun v s₁ gs' hb hv => ?_) (fun s₁ hp h' hk => ?_))
  · obtain ⟨c, rfl, ⟨ip, σ', H', I, gd⟩, hk⟩ := hv
    intro hsz
    have hsz1 : g < s₁.gens.size := by
      have q : (s₁.setGen g gs').gens.size = s₁.gens.size := setGen_size _ _ _
      have hsz' : g + 1 ≤ (s₁.setGen g gs').gens.size := hsz
      omega
    have hba : AllBare (s₁.setGen g gs').gens := allBare_setGen I.bare hb
    by_cases hc : c = cont
    · subst hc
      refine hgo2 _ (isGen_of hpn hgen (Inv.gens (tk := s₁.toks) I hba)) I.nolimit ⟨gs', setGen_at hsz1, ?_⟩
      exact hk rfl ((s₁.setGen g gs').setGen g .running).gens s₁.toks (allBare_setGen (s := s₁.setGen g gs') hba rfl)
    · exact hout c s₁ ip σ' H' hc I (gd hc) _ hba
  · obtain ⟨ip, σ', H', I, gd⟩ := hp
    intro _
    exact hstop s₁ ip σ' H' I gd h' _ hk (allBare_setGen I.bare rfl)
theorem loop_all (hh : A.handled = none) (hd : A.depth < recursionLimit) (hpn : G.pn = [(a, go)]) (hgen : ∀ h : Heap, h.get? a = some go → h.IsGen a g) (hend : BEnd G Gd R) : ∀ (n : Nat) (s : Shared), s.heap.IsGen a g → s.heap.NoLimit →
    (∃ gs, s.gens[g]? = some gs ∧ gs.Goes (model G.prog G.w) A.in1.in1 (BR G true Gd) (BY G true Gd) n (.send .none) (s.setGen g .running)) → codeAny (model G.prog G.w) A (.builtin "all.loop" ⟨[.ref a], []⟩) R s := by
  have step : ∀ (n : Nat) (s : Shared), s.heap.IsGen a g → s.heap.NoLimit → (∃ gs, s.gens[g]? = some gs ∧ gs.Goes (model G.prog G.w) A.in1.in1 (BR G true Gd) (BY G true Gd) (n + 1) (.send .none) (s.setGen g .running)) →
      (∀ s1, s1.heap.IsGen a g → s1.heap.NoLimit → (∃ gs, s1.gens[g]? = some gs ∧ gs.Goes (model G.prog G.w) A.in1.in1 (BR G true Gd) (BY G true Gd) n (.send .none) (s1.setGen g .running)) → codeAny (model G.prog G.w) A (.builtin "all.loop" ⟨[.ref a], []⟩) R s1) →
      codeAny (model G.prog G.w) A (.builtin "all.loop" ⟨[.ref a], []⟩) R s := fun n s hg hl hgo ih => by
    refine codeAny_builtin F.entry_all_loop ?_
    rw [Around.under_plainId F.plain_all_loop _]
    show wpAny _ A.in1 (pyNext (.ref a) >>= _) _ _ s
    refine wpAny_bind (next_bool (A := A.in1) hh hd hpn hgen hg hl hgo (fun s1 ip σ' H' I gd h' Gn hk hb => ?_) (fun c s1 ip σ' H' hc I gd Gn hb => ?_) fun s1 hg1 hl1 hgo1 => ?_)
    · refine wpAny_bind (wpAny_rule (wpAny_pure ?_))
      exact hend true s1 ip σ' H' I gd h' Gn s1.toks hk hb
    · refine wpAny_bind (wpAny_holding (wpAny_truthy_bool ?_))
      refine wpAny_bind (wpAny_letGo ?_)
      have hc' : c = false := by cases c with | false => rfl | true => exact (hc rfl).elim
      subst hc'
      simp only [Bool.false_eq_true, if_false]
      refine wpAny_bind (wpAny_rule (wpAny_pure ?_))
      exact hend false s1 ip σ' H' I gd s1.heap Gn s1.toks (fun _ _ e => e) hb
    · refine wpAny_bind (wpAny_holding (wpAny_truthy_bool ?_))
      refine wpAny_bind (wpAny_letGo ?_)
      simp only [if_true]
      exact wpAny_pure ⟨plainId_quiet F.plain_all_loop _, ih s1 hg1 hl1 hgo1⟩
  intro n
  induction n with
  | zero =>
    intro s hg hl ⟨gs, hgs, hgo⟩
    -- no turn is left, yet the end may come
    refine codeAny_builtin F.entry_all_loop ?_
    rw [Around.under_plainId F.plain_all_loop _]
    show wpAny _ A.in1 (pyNext (.ref a) >>= _) _ _ s
    refine wpAny_bind (wpAny_pyNext_genexpQ (P := fun n s₀ s₁ => ∃ ip σ' H', Inv G ip σ' H' s₁ ∧ Gd true H') hh hl hd hg hgs hgo (fun v s₁ gs' hb hv => ?_) (fun s₁ hp h' hk => ?_))
    · obtain ⟨c, rfl, ⟨ip, σ', H', I, gd⟩, hk⟩ := hv
      by_cases hc : c = true
      · exact (hk hc s₁.gens s₁.toks I.bare).elim
      · have hc' : c = false := by cases c with | false => rfl | true => exact (hc rfl).elim
        subst hc'
        refine wpAny_bind (wpAny_holding (wpAny_truthy_bool ?_))
        refine wpAny_bind (wpAny_letGo ?_)
        simp only [Bool.false_eq_true, if_false]
        refine wpAny_bind (wpAny_rule (wpAny_pure ?_))
        exact hend false s₁ ip σ' H' I (gd hc) s₁.heap _ s₁.toks (fun _ _ e => e) (allBare_setGen I.bare hb)
    · obtain ⟨ip, σ', H', I, gd⟩ := hp
      refine wpAny_bind (wpAny_rule (wpAny_pure ?_))
      exact hend true s₁ ip σ' H' I gd h' _ s₁.toks hk (allBare_setGen I.bare rfl)
  | succ n ih => exact fun s hg hl hgo => step n s hg hl hgo ih
theorem loop_any (hh : A.handled = none) (hd : A.depth < recursionLimit) (hpn : G.pn = [(a, go)]) (hgen : ∀ h : Heap, h.get? a = some go → h.IsGen a g) (hend : BEnd G Gd R) : ∀ (n : Nat) (s : Shared), s.heap.IsGen a g → s.heap.NoLimit →
    (∃ gs, s.gens[g]? = some gs ∧ gs.Goes (model G.prog G.w) A.in1.in1 (BR G false Gd) (BY G false Gd) n (.send .none) (s.setGen g .running)) → codeAny (model G.prog G.w) A (.builtin "any.loop" ⟨[.ref a], []⟩) R s := by
  intro n
  induction n with
  | zero =>
    intro s hg hl ⟨gs, hgs, hgo⟩
    refine codeAny_builtin F.entry_any_loop ?_
    rw [Around.under_plainId F.plain_any_loop _]
    show wpAny _ A.in1 (pyNext (.ref a) >>= _) _ _ s
    refine wpAny_bind (wpAny_pyNext_genexpQ (P := fun n s₀ s₁ => ∃ ip σ' H', Inv G ip σ' H' s₁ ∧ Gd false H') hh hl hd hg hgs hgo (fun v s₁ gs' hb hv => ?_) (fun s₁ hp h' hk => ?_))
    · obtain ⟨c, rfl, ⟨ip, σ', H', I, gd⟩, hk⟩ := hv
      by_cases hc : c = false
      · exact (hk hc s₁.gens s₁.toks I.bare).elim
      · have hc' : c = true := by cases c with | true => rfl | false => exact (hc rfl).elim
        subst hc'
        refine wpAny_bind (wpAny_holding (wpAny_truthy_bool ?_))
        refine wpAny_bind (wpAny_letGo ?_)
        simp only [if_true]
        refine wpAny_bind (wpAny_rule (wpAny_pure ?_))
        exact hend true s₁ ip σ' H' I (gd hc) s₁.heap _ s₁.toks (fun _ _ e => e) (allBare_setGen I.bare hb)
    · obtain ⟨ip, σ', H', I, gd⟩ := hp
      refine wpAny_bind (wpAny_rule (wpAny_pure ?_))
      exact hend false s₁ ip σ' H' I gd h' _ s₁.toks hk (allBare_setGen I.bare rfl)
  | succ n ih =>
    intro s hg hl hgo
    refine codeAny_builtin F.entry_any_loop ?_
    rw [Around.under_plainId F.plain_any_loop _]
    show wpAny _ A.in1 (pyNext (.ref a) >>= _) _ _ s
    refine wpAny_bind (next_bool (A := A.in1) hh hd hpn hgen hg hl hgo (fun s1 ip σ' H' I gd h' Gn hk hb => ?_) (fun c s1 ip σ' H' hc I gd Gn hb => ?_) fun s1 hg1 hl1 hgo1 => ?_)
    · refine wpAny_bind (wpAny_rule (wpAny_pure ?_))
      exact hend false s1 ip σ' H' I gd h' Gn s1.toks hk hb
    · refine wpAny_bind (wpAny_holding (wpAny_truthy_bool ?_))
      refine wpAny_bind (wpAny_letGo ?_)
      have hc' : c = true := by cases c with | true => rfl | false => exact (hc rfl).elim
      subst hc'
      simp only [if_true]
      refine wpAny_bind (wpAny_rule (wpAny_pure ?_))
      exact hend true s1 ip σ' H' I gd s1.heap Gn s1.toks (fun _ _ e => e) hb
    · refine wpAny_bind (wpAny_holding (wpAny_truthy_bool ?_))
      refine wpAny_bind (wpAny_letGo ?_)
      simp only [Bool.false_eq_true, if_false]
      exact wpAny_pure ⟨plainId_quiet F.plain_any_loop _, ih s1 hg1 hl1 hgo1⟩
end
end Vs

set_option Elab.async false
set_option linter.all false
set_option maxRecDepth 100000
set_option maxHeartbeats 4000000
namespace Vs
open PySem PySem.Spec PyProof.Rows L2 GenW

theorem over_comp {A : Around} {elt : Expr} {gens : List Comprehension} {scope : Scope} {pos : Pos} {it acc : Value} {env : Env} : A.over (.compLoop (.GeneratorExp elt gens scope pos) 0 it acc env) [] = A.deeper env := by
  first
    | rfl
    | (obtain ⟨hd, d, fr, gs, u⟩ := A; simp [Around.over, Around.deeper, marksOver, frameCount, unitsOf, envsOf, guardsOf, pushEnvs, pushGuards, Code.envs, Code.env?, Code.isFrame, Code.guards, Code.isGuard, Code.weight, Code.frames, Code.isCreation, Code.isCaller, Code.cUnits])
/-- a generator at a, ready to be asked -/
structure GReady (X : Cx) (pins : List (Addr × Obj)) (σ : St) (cont : Bool) (Gd : Bool → Hp → Prop) (a : Addr) (s5 : Shared) (G : Cx) (go : Obj) (g n : Nat) : Prop where
  prog : G.prog = X.prog
  w : G.w = X.w
  pn : G.pn = [(a, go)]
  gen : ∀ h : Heap, h.get? a = some go → h.IsGen a g
  is : s5.heap.IsGen a g
  lim : s5.heap.NoLimit
  goes : ∃ gs, s5.gens[g]? = some gs ∧ gs.Goes (model G.prog G.w) X.A.in1.in1 (BR G cont Gd) (BY G cont Gd) n (.send .none) (s5.setGen g .running)
  back : ∀ s1 ip σ' H', Inv G ip σ' H' s1 → ∀ h' Gn tk, (∀ b o, s1.heap.get? b = some o → h'.get? b = some o) → AllBare Gn → Inv X pins σ H' { s1 with heap := h', gens := Gn, toks := tk }
def tGen1 (P : Addr) (wi : TI) (gg : TG) (tt : TT) (te : TE) (vs : List Nat) (cont : Bool) : TE := fun σ H Q => wi σ H fun J H1 => GxR.TabG H1 P ∧ ∀ H2, GxR.Tabbed P H1 H2 → ∃ W : Nat → Nat → Hp → Prop, (∃ m, W 0 m H2) ∧ Turns1 J σ vs gg tt te cont (fun c H' => Q (.bl c) H') W
section
variable {X : Cx} {pins : List (Addr × Obj)} {σ : St} {H : Hp} {s : Shared} {c P : Addr} {elt tg iter : Expr} {ifs : List Expr} {scope : Scope} {own : List (Str × Nat)} {gpos pos p : Pos} {wi : TI} {gg : TG} {tt : TT} {te : TE} {cont : Bool}
theorem Tabbed_none {P b : Addr} {H1 H2 : Hp} (t : GxR.TabG H1 P) (x : GxR.Tabbed P H1 H2) (h : H1 b = none) : H2 b = none := by
  obtain ⟨ps, e, _⟩ := t
  rw [x.2 b (fun z => by rw [z, e] at h; cases h)]
  exact h
theorem gen_make1 {Q : VK} {Q' : Value → Shared → Prop} {k : Nat} (hr : Room k X.A) (hc : X.calm = true) (hN : X.N.Nodup) (TB : GxR.TabB X.base X.mg c P) (hcode : X.env.code = .ref c) (ok : GenB X.N X.env.scope scope own) (hi : PI X tg iter wi)
    (hg : ∀ (s : Shared) (H : Hp) (C : Addr) (cl : List (Str × Addr)) (cd : Value) (fp : List Addr) (pn : List (Addr × Obj)), PG (gxOf X s H (genEnv scope cl C cd builtinsNs X.env) fp pn) tg gg)
    (ht : ∀ (s : Shared) (H : Hp) (C : Addr) (cl : List (Str × Addr)) (cd : Value) (fp : List Addr) (pn : List (Addr × Obj)), PTs (gxOf X s H (genEnv scope cl C cd builtinsNs X.env) fp pn) ifs tt)
    (he : ∀ (s : Shared) (H : Hp) (C : Addr) (cl : List (Str × Addr)) (cd : Value) (fp : List Addr) (pn : List (Addr × Obj)), PE (gxOf X s H (genEnv scope cl C cd builtinsNs X.env) fp pn) elt te)
    (hs : ∀ v, genFold iter X.env v = pure v) (I : Inv X pins σ H s) (h : tGen1 P wi gg tt te (own.map (·.2)) cont σ H Q)
    (hQ : ∀ a s5 G go g n, GReady X pins σ cont (fun c H' => Q (.bl c) H') a s5 G go g n → Q' (.ref a) s5) :
    wpAny (model X.prog X.w) X.A (eval (.GeneratorExp elt [⟨tg, iter, ifs, 0⟩] scope gpos) X.env) Q' X.xe s := by
  have hfree : ∀ y ∈ scope.names, y.2 = .free → ∃ c, X.env.cells.lookup y.1 = some c := fun y hy e => by
    rcases ok.free y hy e with k | k
    · exact I.ok.has _ (.inl k)
    · exact I.ok.has _ (.inr k)
  refine wpAny_GeneratorExp_make ok.co (closure_ok hfree) ok.cell ok.dot ok.kind (by have := hr.dp; omega) ?_ hs
  refine thn (hi.run pins s σ H _ I h) fun xv s1 h1 => thn h1 fun itv s2 h2 => ?_
  obtain ⟨it, fp, tn, J, H2, rfl, I2, T, st2, f2, tb, q2⟩ := h2
  refine ⟨I2.nolimit, gen_code TB hcode I2 tb fun code h3 tk3 H3 tab I3 hsz3 kp3 => ?_⟩
  intro h' hn' hs'
  obtain ⟨W, ⟨m0, w0⟩, tr⟩ := q2 H3 tab
  generalize hs4 : ({ s2 with heap := h3, toks := tk3 } : Shared) = s4 at I3 hn' hs' ⊢
  have e4 : s4.heap = h3 := by rw [← hs4]
  have g4 : s4.os = s2.os := by rw [← hs4]
  have fpP : ∀ b ∈ fp, b ≠ P := fun b hb z => by
    have q := (f2 b hb).1
    rw [z] at q
    obtain ⟨ps, e, _⟩ := tb
    rw [e] at q; cases q
  have keep4 : ∀ b ∈ fp, ∀ o, s2.heap.get? b = some o → s4.heap.get? b = some o := fun b hb o e => by rw [e4]; exact kp3 b o (fpP b hb) e
  have f4 : ∀ b ∈ fp, FpOk X pins H3 b ∧ b < s4.heap.objs.size := fun b hb => by
    obtain ⟨o, e, _⟩ := T.obj _ _ st2 b hb
    refine ⟨⟨Tabbed_none tb tab (f2 b hb).1, (f2 b hb).2⟩, ?_⟩
    exact Heap.lt_size (keep4 b hb o e)
  have hsz : h'.objs.size = s4.heap.objs.size + 1 := by rw [hs'.1, Heap.size_push]
  have keep6 : ∀ (go : Obj) b o, s4.heap.get? b = some o → (h'.push go).get? b = some o := fun go b o e => Heap.get?_push_of_some _ (hs'.extBut b o (Nat.ne_of_lt (Heap.lt_size e)) (Heap.get?_push_of_some _ e))
  have main : ∀ (go : Obj) (nm qn : Value) (tk5 : Nat), go.cls = .type "generator" → go.data = .fields #[.int s4.gens.size 0, nm, qn] → go.slots = #[] → (∀ h : Heap, (h.push go).get? h.objs.size = some go) →
      Q' (.ref h'.objs.size) { s4 with gens := s4.gens.push (.fresh (.compStart (.GeneratorExp elt [⟨tg, iter, ifs, 0⟩] scope gpos) 0 (.ref it) .none (genEnv scope (cloFrom X.env.cells scope.names []) s4.heap.objs.size code builtinsNs X.env))), toks := tk5, heap := h'.push go } := by
    intro go nm qn tk5 hgc hgd0 hgs hgp
    have hgen : ∀ h : Heap, h.get? h'.objs.size = some go → h.IsGen h'.objs.size s4.gens.size := fun h e => ⟨go, nm, qn, e, hgc, hgd0, hgs⟩
    have hgdc : ∀ v, go.data ≠ .cell v := fun v q => by rw [hgd0] at q; cases q
    have I5 := gx_start (own := own) (fp := fp) (code := code) (tk := tk5) I3 ok hN f4 hn' hs' hgdc (hgp h') (gs := .fresh (.compStart (.GeneratorExp elt [⟨tg, iter, ifs, 0⟩] scope gpos) 0 (.ref it) .none (genEnv scope (cloFrom X.env.cells scope.names []) s4.heap.objs.size code builtinsNs X.env))) rfl
    have pg := hg s4 H3 s4.heap.objs.size (cloFrom X.env.cells scope.names []) code fp [(h'.objs.size, go)]
    have pt := ht s4 H3 s4.heap.objs.size (cloFrom X.env.cells scope.names []) code fp [(h'.objs.size, go)]
    have pe := he s4 H3 s4.heap.objs.size (cloFrom X.env.cells scope.names []) code fp [(h'.objs.size, go)]
    generalize hce : genEnv scope (cloFrom X.env.cells scope.names []) s4.heap.objs.size code builtinsNs X.env = ce at I5 pg pt pe ⊢
    have hco : ce.scope.isCoroutine = false := by rw [← hce]; exact ok.co
    have st5 : tn 0 (h'.push go) := T.keep _ _ _ st2 fun b hb o e => keep6 go b o (keep4 b hb o e)
    refine hQ _ _ (gxOf X s4 H3 ce fp [(h'.objs.size, go)]) go s4.gens.size (m0 + 1) ⟨rfl, rfl, rfl, hgen, hgen _ (hgp h'), I5.nolimit, ⟨_, Array.getElem?_push_size .., rfl, ?_⟩, fun s1 ip σ' H' J' h1' Gn tk hk hb => ?_⟩
    · refine seg_genStart1 T st5 ?_
      have I6 : Inv (gxOf X s4 H3 ce fp [(h'.objs.size, go)]) [] (wipe σ (own.map (·.2))) H3 _ := Inv.gens (tk := tk5) I5 (allBare_setGen (g := s4.gens.size) (x := .running) I5.bare rfl)
      refine seg_gen1 (G := gxOf X s4 H3 ce fp [(h'.objs.size, go)]) (A := X.A.in1.in1) (vs := own.map (·.2)) rfl over_comp hco hc rfl (fun p hp b hb z => ?_) T pg pt pe tr m0 (m0 + 1) 0 _ _ H3 (Nat.lt_succ_self _) w0 I6 st5 fun b hb => (f4 b hb).1.1
      rw [List.mem_singleton.mp hp] at z
      have hlt := (f4 b hb).2
      have z : h'.objs.size = b := z
      rw [← z, hsz] at hlt
      exact Nat.not_succ_lt_self hlt
    · -- back in the def's context
      have J2 : Inv X pins σ H' s1 := I3.call' (ch := fp) J'.os J'.base J'.hok J'.bare fun b hb => ⟨(f4 b hb).1.2.2.2.1, (f4 b hb).1.2.1, (f4 b hb).1.2.2.2.2.1, (f4 b hb).1.2.2.2.2.2⟩
      exact Inv.gens (s := { s1 with heap := h1' }) (J2.kept (t' := s1.toks) hk) hb
  exact main _ _ _ _ rfl rfl rfl fun h => Heap.get?_push_size _ rfl
theorem pe_all1 {k : Nat} (hr : Room k X.A) (hc : X.calm = true) (hN : X.N.Nodup) (hgl : Gl X "all") (hm : X.mg "all" = none) (TB : GxR.TabB X.base X.mg c P) (hcode : X.env.code = .ref c) (ok : GenB X.N X.env.scope scope own) (hi : PI X tg iter wi)
    (hg : ∀ (s : Shared) (H : Hp) (C : Addr) (cl : List (Str × Addr)) (cd : Value) (fp : List Addr) (pn : List (Addr × Obj)), PG (gxOf X s H (genEnv scope cl C cd builtinsNs X.env) fp pn) tg gg)
    (ht : ∀ (s : Shared) (H : Hp) (C : Addr) (cl : List (Str × Addr)) (cd : Value) (fp : List Addr) (pn : List (Addr × Obj)), PTs (gxOf X s H (genEnv scope cl C cd builtinsNs X.env) fp pn) ifs tt)
    (he : ∀ (s : Shared) (H : Hp) (C : Addr) (cl : List (Str × Addr)) (cd : Value) (fp : List Addr) (pn : List (Addr × Obj)), PE (gxOf X s H (genEnv scope cl C cd builtinsNs X.env) fp pn) elt te)
    (hs : ∀ v, genFold iter X.env v = pure v := by intro _; rfl) (hb : bootBuiltins "all" = some (.builtin "all") := by kernel_rfl)
    (hst : starEach [.GeneratorExp elt [⟨tg, iter, ifs, 0⟩] scope gpos] X.env = (false, eval (.GeneratorExp elt [⟨tg, iter, ifs, 0⟩] scope gpos) X.env) :: starEach [] X.env := by rfl) :
    PE X (.Call (.Name "all" p) [.GeneratorExp elt [⟨tg, iter, ifs, 0⟩] scope gpos] [] pos) (tGen1 P wi gg tt te (own.map (·.2)) true) := by
  refine ⟨fun pins s σ H Q I h => ?_⟩
  refine wpAny_Call_Name_kw (ld_blt I hgl hm hb ?_)
  refine PyProof.Rows.callWith_builtin1 ?_ hst (by rfl)
  rw [hst]
  show wpAny _ _ (spliced ((false, eval (.GeneratorExp elt [⟨tg, iter, ifs, 0⟩] scope gpos) X.env) :: backTo pos (starEach [] X.env))) _ _ s
  refine Calls.spliced_cons (gen_make1 hr hc hN TB hcode ok hi hg ht he hs I h fun a s5 G go g n R => ?_)
  refine Calls.spliced_nil ?_
  refine call_function_tree F.kind_all F.plain_all F.entry_all (F.args_all1 _) ?_
  unfold Builtin.«all»
  refine wpAny_bind (m := oneArg "all" _) (wpAny_pure ?_)
  refine wpAny_bind (wpAny_pyIter_gen R.is ?_)
  refine wpAny_pure ⟨plainId_quiet F.plain_all_loop _, ?_⟩
  have e1 := R.prog
  have e2 := R.w
  rw [← e1, ← e2]
  exact loop_all (A := X.A) hr.hd hr.depth R.pn R.gen (fun c s1 ip σ' H' I' gd h' Gn tk hk hb => ⟨.bl c, H', R.back s1 ip σ' H' I' h' Gn tk hk hb, rfl, gd⟩) n s5 R.is R.lim R.goes
theorem pe_any1 {k : Nat} (hr : Room k X.A) (hc : X.calm = true) (hN : X.N.Nodup) (hgl : Gl X "any") (hm : X.mg "any" = none) (TB : GxR.TabB X.base X.mg c P) (hcode : X.env.code = .ref c) (ok : GenB X.N X.env.scope scope own) (hi : PI X tg iter wi)
    (hg : ∀ (s : Shared) (H : Hp) (C : Addr) (cl : List (Str × Addr)) (cd : Value) (fp : List Addr) (pn : List (Addr × Obj)), PG (gxOf X s H (genEnv scope cl C cd builtinsNs X.env) fp pn) tg gg)
    (ht : ∀ (s : Shared) (H : Hp) (C : Addr) (cl : List (Str × Addr)) (cd : Value) (fp : List Addr) (pn : List (Addr × Obj)), PTs (gxOf X s H (genEnv scope cl C cd builtinsNs X.env) fp pn) ifs tt)
    (he : ∀ (s : Shared) (H : Hp) (C : Addr) (cl : List (Str × Addr)) (cd : Value) (fp : List Addr) (pn : List (Addr × Obj)), PE (gxOf X s H (genEnv scope cl C cd builtinsNs X.env) fp pn) elt te)
    (hs : ∀ v, genFold iter X.env v = pure v := by intro _; rfl)
    (hst : starEach [.GeneratorExp elt [⟨tg, iter, ifs, 0⟩] scope gpos] X.env = (false, eval (.GeneratorExp elt [⟨tg, iter, ifs, 0⟩] scope gpos) X.env) :: starEach [] X.env := by rfl) :
    PE X (.Call (.Name "any" p) [.GeneratorExp elt [⟨tg, iter, ifs, 0⟩] scope gpos] [] pos) (tGen1 P wi gg tt te (own.map (·.2)) false) := by
  refine ⟨fun pins s σ H Q I h => ?_⟩
  refine wpAny_Call_Name_kw (ld_blt I hgl hm boot_any ?_)
  refine PyProof.Rows.callWith_builtin1 ?_ hst (by rfl)
  rw [hst]
  show wpAny _ _ (spliced ((false, eval (.GeneratorExp elt [⟨tg, iter, ifs, 0⟩] scope gpos) X.env) :: backTo pos (starEach [] X.env))) _ _ s
  refine Calls.spliced_cons (gen_make1 hr hc hN TB hcode ok hi hg ht he hs I h fun a s5 G go g n R => ?_)
  refine Calls.spliced_nil ?_
  refine call_function_tree F.kind_any F.plain_any F.entry_any (F.args_any1 _) ?_
  unfold Builtin.«any»
  refine wpAny_bind (m := oneArg "any" _) (wpAny_pure ?_)
  refine wpAny_bind (wpAny_pyIter_gen R.is ?_)
  refine wpAny_pure ⟨plainId_quiet F.plain_any_loop _, ?_⟩
  have e1 := R.prog
  have e2 := R.w
  rw [← e1, ← e2]
  exact loop_any (A := X.A) hr.hd hr.depth R.pn R.gen (fun c s1 ip σ' H' I' gd h' Gn tk hk hb => ⟨.bl c, H', R.back s1 ip σ' H' I' h' Gn tk hk hb, rfl, gd⟩) n s5 R.is R.lim R.goes
end
end Vs

set_option Elab.async false
set_option linter.all false
set_option maxRecDepth 100000
set_option maxHeartbeats 4000000
namespace Vs
open PySem PySem.Spec PyProof.Rows L2 GenW

theorem gturn2_out (elt t0 i0 t1 i1 : Expr) (ifs0 ifs1 : List Expr) (scope : Scope) (pos : Pos) (it acc : Value) (env : Env) :
    compTurn (.GeneratorExp elt [⟨t0, i0, ifs0, 0⟩, ⟨t1, i1, ifs1, 0⟩] scope pos) 0 it acc env = (do
      standAt i0.pos
      match ← pyNext it with
      | none => pure (.done .next)
      | some v =>
        letOwnedTupleGo t0 it v
        assign t0 env v
        let mut ok := true
        for c in ifs0 do
          if ok then ok ← isTrue c env (eval c env)
        if ok then
          let x ← eval i1 env
          standAt i1.pos
          let x ← foldedSetIterable i1 env x
          let _ ← runOwn (.compStart (.GeneratorExp elt [⟨t0, i0, ifs0, 0⟩, ⟨t1, i1, ifs1, 0⟩] scope pos) 1 (← holding [x] (pyIter x)) acc env) env
        again (.compLoop (.GeneratorExp elt [⟨t0, i0, ifs0, 0⟩, ⟨t1, i1, ifs1, 0⟩] scope pos) 0 it acc env)) := by rfl
theorem gturn2_in (elt t0 i0 t1 i1 : Expr) (ifs0 ifs1 : List Expr) (scope : Scope) (pos : Pos) (it acc : Value) (env : Env) :
    compTurn (.GeneratorExp elt [⟨t0, i0, ifs0, 0⟩, ⟨t1, i1, ifs1, 0⟩] scope pos) 1 it acc env = (do
      standAt i1.pos
      match ← pyNext it with
      | none => pure (.done .next)
      | some v =>
        letOwnedTupleGo t1 it v
        assign t1 env v
        let mut ok := true
        for c in ifs1 do
          if ok then ok ← isTrue c env (eval c env)
        if ok then
          (do let v ← eval elt env; standAt elt.pos; let _ ← yieldOut env v)
        again (.compLoop (.GeneratorExp elt [⟨t0, i0, ifs0, 0⟩, ⟨t1, i1, ifs1, 0⟩] scope pos) 1 it acc env)) := by rfl
abbrev g2 (elt t0 i0 t1 i1 : Expr) (ifs0 ifs1 : List Expr) (scope : Scope) (pos : Pos) : Expr := .GeneratorExp elt [⟨t0, i0, ifs0, 0⟩, ⟨t1, i1, ifs1, 0⟩] scope pos
/-- the turns of the inner clause; Dn: the inner is through -/
structure TurnsI (J : It) (σ : St) (vs : List Nat) (gg : TG) (tt : TT) (te : TE) (cont : Bool) (Gd : Bool → Hp → Prop) (Dn : Nat → Hp → Prop) (W : Nat → Nat → Hp → Prop) : Prop where
  turn : ∀ i m H, W i m H → (J.stop i H ∧ Dn m H) ∨ (J.go i H ∧ ∃ N : Hp → Prop, (∀ H', N H' → ∃ m', m' < m ∧ W (i + 1) m' H') ∧
    ∀ x H', J.yld i H x H' → gg x (wipe σ vs) H' fun σ2 H2 => wipe σ2 vs = wipe σ vs ∧ tt σ2 H2 fun b H3 => if b = true then te σ2 H3 fun y H4 => ∃ c, y = .bl c ∧ (if c = cont then N H4 else Gd c H4) else N H3)
section
variable {G : Cx} {A : Around} {elt t0 i0 t1 i1 : Expr} {ifs0 ifs1 : List Expr} {scope : Scope} {pos : Pos} {cont : Bool} {Gd : Bool → Hp → Prop} {σ : St} {vs : List Nat}
theorem seg_gen2i {it1 : Addr} {fp1 : List Addr} {tn1 : Nat → Heap → Prop} {J1 : It} {gg : TG} {tt : TT} {te : TE} {pinsO : List (Addr × Obj)} {W : Nat → Nat → Hp → Prop} {Dn : Nat → Hp → Prop} {fr : Frame}
    (hx : G.xe = fun _ _ => False) (hover : A.over (.compLoop (g2 elt t0 i0 t1 i1 ifs0 ifs1 scope pos) 1 (.ref it1) .none G.env) [fr] = G.A) (hsp : splitAtGen [fr] = none) (hgd : [fr].any Frame.guarded = false) (hco : G.env.scope.isCoroutine = false) (hc : G.calm = true)
    (stat : ∀ {H' : Hp}, (∀ b ∈ fp1, H' b = none) → ∀ b ∈ fp1, FpOk G pinsO H' b)
    (T : Turn G.prog G.w G.K t1 J1 fp1 it1 tn1) (hg : PG G t1 gg) (ht : PTs G ifs1 tt) (he : PE G elt te) (tr : TurnsI J1 σ vs gg tt te cont Gd Dn W)
    (hdone : ∀ (k n : Nat) (s₀ s : Shared) (H' : Hp), k < n → Dn k H' → Inv G pinsO (wipe σ vs) H' s → Seg (model G.prog G.w) A (BR G cont Gd) (BY G cont Gd) n s₀ (.compLoop (g2 elt t0 i0 t1 i1 ifs0 ifs1 scope pos) 1 (.ref it1) .none G.env) (leafOf (.ok .next)) [fr] s) :
    ∀ (m n i : Nat) (s₀ s : Shared) (H1 : Hp), m < n → W i m H1 → Inv G pinsO (wipe σ vs) H1 s → tn1 i s.heap → (∀ b ∈ fp1, H1 b = none) →
      Seg (model G.prog G.w) A (BR G cont Gd) (BY G cont Gd) n s₀ (.compLoop (g2 elt t0 i0 t1 i1 ifs0 ifs1 scope pos) 1 (.ref it1) .none G.env)
        ((model G.prog G.w).den (.compLoop (g2 elt t0 i0 t1 i1 ifs0 ifs1 scope pos) 1 (.ref it1) .none G.env)) [fr] s := by
  intro m
  induction m using Nat.strongRecOn with
  | _ m ih =>
  intro n i s₀ s H1 hmn hw I st nfp
  obtain ⟨n, rfl⟩ : ∃ n', n = n' + 1 := ⟨n - 1, by omega⟩
  show Seg _ A _ _ _ s₀ _ ((compTurn (g2 elt t0 i0 t1 i1 ifs0 ifs1 scope pos) 1 (.ref it1) .none G.env).onRaise (fun x => do noteFrame x G.env; theTreesLotGoes x)) [fr] s
  rw [gturn2_in, Sem.onRaise_eq_wrap]
  refine seg_bind_wrap (wpAny_standAt ?_)
  refine seg_bind_wrap ?_
  rw [hover]
  rcases tr.turn i m H1 hw with ⟨stop, dn⟩ | ⟨go, N, hN, step⟩
  · refine thnF (T.done G rfl rfl rfl hc i _ s _ H1 (fun _ _ => False) I (stat nfp) st stop) fun r s6 ⟨hr, I6⟩ => ?_
    subst hr
    exact hdone m (n + 1) s₀ s6 H1 hmn dn I6
  · refine thnF (T.item G rfl rfl rfl hc i _ s _ H1 (fun _ _ => False) I (stat nfp) st go) fun r s6 ⟨u, hr, h6⟩ => ?_
    subst hr
    refine seg_bind_wrap ?_
    rw [hover]
    refine thnF h6 fun _ s7 ⟨x, H7, I7, r7, y7, st7, n7⟩ => ?_
    have I7' := I7.pinned (stat n7) (T.obj _ _ st7)
    refine seg_bind_wrap ?_
    rw [hover]
    have a1 := hg.run _ s7 _ H7 x u _ I7' r7 (step x H7 y7)
    rw [hx] at a1
    refine thnF a1 fun _ s8 ⟨σ8, H8, I8, hw8, q8⟩ => ?_
    refine seg_bind_wrap ?_
    rw [hover]
    have a2 := ht.run _ s8 σ8 H8 _ I8 q8
    rw [hx] at a2
    refine thnF a2 fun b s9 ⟨H9, I9, q9⟩ => ?_
    have hl8 : (wipe σ vs).length = σ8.length := by rw [← hw8, wipe_length]
    have hk8 : ∀ (j : Nat) v, (wipe σ vs)[j]? = some (some v) → σ8[j]? = some (some v) := fun j v e => by
      rw [← hw8] at e
      exact (wipe_some e).1
    have fin : ∀ {n' : Nat} {s₁ s' : Shared} {H' : Hp}, m ≤ n' → Inv G (pinsO ++ pinsAt fp1 s7.heap) σ8 H' s' → N H' →
        Seg (model G.prog G.w) A (BR G cont Gd) (BY G cont Gd) n' s₁ (.compLoop (g2 elt t0 i0 t1 i1 ifs0 ifs1 scope pos) 1 (.ref it1) .none G.env)
          ((model G.prog G.w).den (.compLoop (g2 elt t0 i0 t1 i1 ifs0 ifs1 scope pos) 1 (.ref it1) .none G.env)) [fr] s' := fun {n' s₁ s' H'} hle I' nx => by
      obtain ⟨m', hm, w'⟩ := hN H' nx
      have pin' : ∀ b ∈ fp1, ∀ o, s7.heap.get? b = some o → s'.heap.get? b = some o ∧ H' b = none := fun b hb o e =>
        let z := I'.pin (b, o) (List.mem_append_right _ (List.mem_append_right _ (mem_pinsAt hb e)))
        ⟨z.1, z.2.1⟩
      refine ih m' hm n' (i + 1) s₁ s' H' (Nat.lt_of_lt_of_le hm hle) w' ((I'.unpinned (pins := pinsO)).weak hl8 hk8) (T.keep _ _ _ st7 fun b hb o e => (pin' b hb o e).1) fun b hb => ?_
      obtain ⟨o, e, _⟩ := T.obj _ _ st7 b hb
      exact (pin' b hb o e).2
    cases b with
    | false =>
      simp only [Bool.false_eq_true, if_false] at q9 ⊢
      exact seg_again rfl (fin (by omega) I9 q9)
    | true =>
      simp only [if_true] at q9 ⊢
      have hy : ∀ v, yieldOut G.env v = yieldValue v := fun v => by simp only [yieldOut, hco, Bool.false_eq_true, if_false]
      simp only [hy]
      rw [Sem.bind_eq_wrap', Sem.bind_eq_wrap', Sem.wrap_wrap, Sem.wrap_wrap]
      refine seg_wrap ?_
      rw [hover]
      have a3 := he.run _ s9 σ8 H9 _ I9 q9
      rw [hx] at a3
      refine thnF a3 fun z s10 ⟨yv, H10, I10, r10, c, hcv, nx⟩ => ?_
      subst hcv
      have r10 : z = .bool c := r10
      subst r10
      refine seg_at (seg_yield hsp rfl hgd ⟨c, rfl, ⟨_, _, _, I10, fun hne => ?_⟩, fun hce Gn tk hgb => ?_⟩)
      · rw [if_neg hne] at nx; exact nx
      · rw [if_pos hce] at nx
        exact seg_again rfl (fin (by omega) (Inv.gens I10 hgb) nx)
theorem seg_start2i {R : GenEnd} {Y : Protocol} {n : Nat} {it1 : Addr} {fp1 : List Addr} {tn1 : Nat → Heap → Prop} {J1 : It} {fr : Frame} {s₀ s : Shared} {cenv : Env} {prog : Program} {w : World} {K : PySem.W.Frag}
    (T : Turn prog w K t1 J1 fp1 it1 tn1) (st : tn1 0 s.heap)
    (loop : Seg (model prog w) A R Y n s₀ (.compLoop (g2 elt t0 i0 t1 i1 ifs0 ifs1 scope pos) 1 (.ref it1) .none cenv) ((model prog w).den (.compLoop (g2 elt t0 i0 t1 i1 ifs0 ifs1 scope pos) 1 (.ref it1) .none cenv)) [fr] s) :
    Seg (model prog w) A R Y n s₀ (.compStart (g2 elt t0 i0 t1 i1 ifs0 ifs1 scope pos) 1 (.ref it1) .none cenv) ((model prog w).den (.compStart (g2 elt t0 i0 t1 i1 ifs0 ifs1 scope pos) 1 (.ref it1) .none cenv)) [fr] s := by
  show Seg _ A _ _ _ s₀ _ ((compStart (g2 elt t0 i0 t1 i1 ifs0 ifs1 scope pos) 1 (.ref it1) .none cenv).onRaise (fun x => do noteFrame x cenv; standAt theWindowsPlace)) [fr] s
  unfold compStart
  rw [Sem.onRaise_eq_wrap]
  show Seg _ A _ _ _ s₀ _ ((ask >>= _).wrap _ _ _ _) [fr] s
  refine seg_bind_wrap (wpAny_askSetting ?_)
  split
  · exact seg_again rfl loop
  · first
      | exact seg_bind_wrap (wpAny_rule (seg_bind_wrap (wpAny_standAt (seg_bind_wrap (T.self _ 0 s _ _ st (seg_again rfl loop))))))
      | (refine seg_bind_wrap (wpAny_rule ?_); show Seg _ A _ _ _ s₀ _ ((standAt i1.pos >>= _).wrap _ _ _ _) [fr] s; exact seg_bind_wrap (wpAny_standAt (seg_bind_wrap (T.self _ 0 s _ _ st (seg_again rfl loop)))))
/-- the turns of two clauses -/
structure Turns2 (J : It) (σ : St) (vs vs1 : List Nat) (gg : TG) (tt : TT) (wi1 : TI) (gg1 : TG) (tt1 : TT) (te : TE) (cont : Bool) (Gd : Bool → Hp → Prop) (W : Nat → Nat → Hp → Prop) : Prop where
  turn : ∀ i m H, W i m H → (J.stop i H ∧ Gd cont H) ∨ (J.go i H ∧ ∀ x H', J.yld i H x H' → gg x (wipe σ vs) H' fun σ2 H2 => wipe σ2 vs = wipe σ vs ∧ tt σ2 H2 fun b H3 =>
    if b = true then wi1 σ2 H3 fun J1 H4 => ∃ W1 : Nat → Nat → Hp → Prop, (∃ k, k < m ∧ W1 0 k H4) ∧ TurnsI J1 σ2 vs1 gg1 tt1 te cont Gd (fun k H' => ∃ m', m' ≤ k ∧ m' < m ∧ W (i + 1) m' H') W1
    else ∃ m', m' < m ∧ W (i + 1) m' H3)
theorem seg_gen2 {it : Addr} {fp : List Addr} {tn : Nat → Heap → Prop} {J : It} {gg gg1 : TG} {tt tt1 : TT} {te : TE} {wi1 : TI} {vs1 : List Nat} {W : Nat → Nat → Hp → Prop}
    (hx : G.xe = fun _ _ => False) (hover : A.over (.compLoop (g2 elt t0 i0 t1 i1 ifs0 ifs1 scope pos) 0 (.ref it) .none G.env) [] = G.A) (hco : G.env.scope.isCoroutine = false) (hc : G.calm = true) (hex : G.ex = fp) (hpn : ∀ p ∈ G.pn, ∀ b ∈ fp, p.1 ≠ b) (hv : ∀ i ∈ vs1, i ∈ vs)
    (T : Turn G.prog G.w G.K t0 J fp it tn) (hg : PG G t0 gg) (ht : PTs G ifs0 tt) (hi1 : PI G t1 i1 wi1) (hg1 : PG G t1 gg1) (ht1 : PTs G ifs1 tt1) (he : PE G elt te) (hs1 : ∀ env x, foldedSetIterable i1 env x = pure x) (tr : Turns2 J σ vs vs1 gg tt wi1 gg1 tt1 te cont Gd W) :
    ∀ (m n i : Nat) (s₀ s : Shared) (H1 : Hp), m < n → W i m H1 → Inv G [] (wipe σ vs) H1 s → tn i s.heap → (∀ b ∈ fp, H1 b = none) →
      Seg (model G.prog G.w) A (BR G cont Gd) (BY G cont Gd) n s₀ (.compLoop (g2 elt t0 i0 t1 i1 ifs0 ifs1 scope pos) 0 (.ref it) .none G.env)
        ((model G.prog G.w).den (.compLoop (g2 elt t0 i0 t1 i1 ifs0 ifs1 scope pos) 0 (.ref it) .none G.env)) [] s := by
  intro m
  induction m using Nat.strongRecOn with
  | _ m ih =>
  intro n i s₀ s H1 hmn hw I st nfp
  have stat : ∀ {σ' : St} {H' : Hp} {s' : Shared}, Inv G [] σ' H' s' → (∀ b ∈ fp, H' b = none) → ∀ b ∈ fp, FpOk G [] H' b := fun {σ' H' s'} I' hn b hb => by
    have hb' : b ∈ G.ex := by rw [hex]; exact hb
    exact ⟨hn b hb, (I'.ok.exf b hb').1, I'.ok.exfs b hb', .inl hb', fun x c e => (I'.ok.exf b hb').2 x c e, fun p hp => by
      rw [List.append_nil] at hp
      exact hpn p hp b hb⟩
  show Seg _ A _ _ _ s₀ _ ((compTurn (g2 elt t0 i0 t1 i1 ifs0 ifs1 scope pos) 0 (.ref it) .none G.env).onRaise (leaving G.env)) [] s
  rw [gturn2_out, Sem.onRaise_eq_wrap]
  refine seg_bind_wrap (wpAny_standAt ?_)
  refine seg_bind_wrap ?_
  rw [hover]
  rcases tr.turn i m H1 hw with ⟨stop, gd⟩ | ⟨go, step⟩
  · refine thnF (T.done G rfl rfl rfl hc i [] s _ H1 (fun _ _ => False) I (stat I nfp) st stop) fun r s6 ⟨hr, I6⟩ => ?_
    subst hr
    exact seg_end (.ok .next) ⟨rfl, _, _, _, I6, gd⟩
  · refine thnF (T.item G rfl rfl rfl hc i [] s _ H1 (fun _ _ => False) I (stat I nfp) st go) fun r s6 ⟨u, hr, h6⟩ => ?_
    subst hr
    refine seg_bind_wrap ?_
    rw [hover]
    refine thnF h6 fun _ s7 ⟨x, H7, I7, r7, y7, st7, n7⟩ => ?_
    have I7' := I7.pinned (stat I7 n7) (T.obj _ _ st7)
    refine seg_bind_wrap ?_
    rw [hover]
    have a1 := hg.run _ s7 _ H7 x u _ I7' r7 (step x H7 y7)
    rw [hx] at a1
    refine thnF a1 fun _ s8 ⟨σ8, H8, I8, hw8, q8⟩ => ?_
    refine seg_bind_wrap ?_
    rw [hover]
    have a2 := ht.run _ s8 σ8 H8 _ I8 q8
    rw [hx] at a2
    refine thnF a2 fun b s9 ⟨H9, I9, q9⟩ => ?_
    have hl8 : (wipe σ vs).length = σ8.length := by rw [← hw8, wipe_length]
    have hk8 : ∀ (j : Nat) v, (wipe σ vs)[j]? = some (some v) → σ8[j]? = some (some v) := fun j v e => by
      rw [← hw8] at e
      exact (wipe_some e).1
    have hk9 : ∀ (j : Nat) v, (wipe σ vs)[j]? = some (some v) → (wipe σ8 vs1)[j]? = some (some v) := fun j v e => by
      rw [← hw8] at e
      obtain ⟨e1, e2⟩ := wipe_some e
      rw [wipe_out fun z => e2 (hv j z)]
      exact e1
    have fin : ∀ {n' m' : Nat} {σ9 : St} {s₁ s' : Shared} {H' : Hp}, m' < n' → m' < m → Inv G ([] ++ pinsAt fp s7.heap) σ9 H' s' → (wipe σ vs).length = σ9.length → (∀ (j : Nat) v, (wipe σ vs)[j]? = some (some v) → σ9[j]? = some (some v)) → W (i + 1) m' H' →
        Seg (model G.prog G.w) A (BR G cont Gd) (BY G cont Gd) n' s₁ (.compLoop (g2 elt t0 i0 t1 i1 ifs0 ifs1 scope pos) 0 (.ref it) .none G.env)
          ((model G.prog G.w).den (.compLoop (g2 elt t0 i0 t1 i1 ifs0 ifs1 scope pos) 0 (.ref it) .none G.env)) [] s' := fun {n' m' σ9 s₁ s' H'} hlt hm I' hl hk w' => by
      have pin' : ∀ b ∈ fp, ∀ o, s7.heap.get? b = some o → s'.heap.get? b = some o ∧ H' b = none := fun b hb o e =>
        let z := I'.pin (b, o) (List.mem_append_right _ (List.mem_append_right _ (mem_pinsAt hb e)))
        ⟨z.1, z.2.1⟩
      refine ih m' hm n' (i + 1) s₁ s' H' hlt w' ((I'.unpinned (pins := [])).weak hl hk) (T.keep _ _ _ st7 fun b hb o e => (pin' b hb o e).1) fun b hb => ?_
      obtain ⟨o, e, _⟩ := T.obj _ _ st7 b hb
      exact (pin' b hb o e).2
    cases b with
    | false =>
      simp only [Bool.false_eq_true, if_false] at q9 ⊢
      obtain ⟨m', hm, w'⟩ := q9
      exact seg_again rfl (fin (Nat.lt_trans hm hmn) hm I9 hl8 hk8 w')
    | true =>
      simp only [if_true] at q9 ⊢
      refine seg_bind_wrap ?_
      rw [hover]
      have a3 := hi1.run _ s9 σ8 H9 _ I9 q9
      rw [hx] at a3
      refine thnF a3 fun xv s10 hx10 => ?_
      refine seg_bind_wrap (wpAny_standAt ?_)
      rw [hs1]
      refine seg_bind_wrap (wpAny_pure ?_)
      refine seg_bind_wrap ?_
      rw [hover]
      refine wpAny_holding (thnF hx10 fun itv s11 h11 => ?_)
      obtain ⟨it1, fp1, tn1, J1, H11, e1, I11, T1, st11, f11, W1, ⟨k1, hk1, w1⟩, tr1⟩ := h11
      subst e1
      rw [Sem.bind_eq_wrap', Sem.wrap_wrap]
      refine seg_call fun p => ?_
      refine seg_start2i T1 st11 ?_
      refine seg_gen2i (G := G) (pinsO := [] ++ pinsAt fp s7.heap) hx ((over_loop rfl rfl).trans hover) rfl rfl hco hc (fun hn b hb => ⟨hn b hb, (f11 b hb).2⟩) T1 hg1 ht1 he tr1 (fun k n' s₀' s' H' hkn ⟨m', hm1, hm2, w'⟩ I' => ?_) k1 n 0 s₀ s11 H11 (by omega) w1
        (I11.weak (wipe_length _ _) (fun j v e => (wipe_some e).1)) st11 fun b hb => (f11 b hb).1
      refine seg_leaf (.ok .next) ?_
      exact seg_again rfl (fin (by omega) hm2 I' (hl8.trans (wipe_length σ8 vs1).symm) hk9 w')
end
end Vs

set_option Elab.async false
set_option linter.all false
set_option maxRecDepth 100000
set_option maxHeartbeats 4000000
namespace Vs
open PySem PySem.Spec PyProof.Rows L2 GenW

theorem eval_gen2 (elt t0 i0 t1 i1 : Expr) (ifs0 ifs1 : List Expr) (scope : Scope) (pos : Pos) (env : Env) (hco : scope.isCoroutine = false) :
    eval (g2 elt t0 i0 t1 i1 ifs0 ifs1 scope pos) env = (do
      let x ← eval i0 env
      standAt i0.pos
      let x ← genFold i0 env x
      let it ← holding [x] (pyIter x)
      enterFrame
      let cl ← closureFor scope env
      let code ← genexprCode env pos (env.qual ++ "<genexpr>") scope
      let bi ← builtinsFor env.globals env.builtins
      let cenv ← newFunctionEnv scope env.globals cl [(".0", it)] (env.qual ++ "<genexpr>.") none code none bi
      newGenerator (.compStart (g2 elt t0 i0 t1 i1 ifs0 ifs1 scope pos) 0 it .none cenv) "<genexpr>" (env.qual ++ "<genexpr>")) := by
  rw [arm_eval_GeneratorExp]
  simp only [hco, Bool.false_eq_true, if_false]
  cases i0 <;> rfl
theorem make_gen2 {M : Model} {A : Around} {E : Value → Shared → Prop} {s : Shared} {env : Env} {elt t0 i0 t1 i1 : Expr} {ifs0 ifs1 : List Expr} {scope : Scope} {cl : List (Str × Addr)} {pos : Pos} {Q : Value → Shared → Prop}
    (hco : scope.isCoroutine = false) (hclos : closureFor scope env = pure cl) (hcell : ∀ y ∈ scope.names, y.2 ≠ .cell) (h0 : scope.names.lookup (".0" : Str) = some NameKind.local) (hkind : scope.kind = .function)
    (hroom : A.depth < recursionLimit)
    (h : wpAny M A (eval i0 env) (fun xv s₁ => wpAny M A (pyIter xv) (fun it s₂ => s₂.heap.NoLimit ∧
      wpAny M A (genexprCode env pos (env.qual ++ "<genexpr>") scope) (fun code s₃ => wpAny M A (builtinsFor env.globals env.builtins) (fun bi s₄ =>
        ∀ h', h'.Ns s₄.heap.objs.size (fun y => if y = ".0" then some it else none) → Heap.SameBut s₄.heap.objs.size (s₄.heap.push { cls := .type "frame", data := .dict #[] }) h' →
          Q (.ref h'.objs.size) { s₄ with
            gens := s₄.gens.push (.fresh (.compStart (g2 elt t0 i0 t1 i1 ifs0 ifs1 scope pos) 0 it .none (genEnv scope cl s₄.heap.objs.size code bi env))),
            toks := s₄.toks + 1 + 1 + 1,
            heap := h'.push { cls := .type "generator", data := .fields #[.int s₄.gens.size 0, .str "<genexpr>" (s₄.toks + 1), .str (env.qual ++ "<genexpr>") (s₄.toks + 1 + 1)] } }) E s₃) E s₂) E s₁) E s)
    (hs : ∀ x, genFold i0 env x = pure x) :
    wpAny M A (eval (g2 elt t0 i0 t1 i1 ifs0 ifs1 scope pos) env) Q E s := by
  rw [eval_gen2 _ _ _ _ _ _ _ _ _ _ hco, hclos]
  refine wpAny_bind (wpAny_mono h (fun xv s₁ h₁ => ?_) fun _ _ e => e)
  refine wpAny_bind (wpAny_standAt ?_)
  refine wpAny_bind (wpAny_of_eq (hs xv) ?_)
  refine wpAny_bind (wpAny_holding (wpAny_mono h₁ (fun it s₂ h₂ => ?_) fun _ _ e => e))
  refine wpAny_bind (wpAny_enterFrame h₂.1 hroom ?_)
  refine wpAny_bind (wpAny_pure ?_)
  refine wpAny_bind (wpAny_mono h₂.2 (fun code s₃ h₃ => ?_) fun _ _ e => e)
  refine wpAny_bind (wpAny_mono h₃ (fun bi s₄ h₄ => ?_) fun _ _ e => e)
  have hbinds : ∀ y ∈ ([((".0" : Str), it)] : List (Str × Value)), scope.names.lookup y.1 = some NameKind.local := by
    intro y hy
    rcases List.mem_cons.mp hy with rfl | hy
    · exact h0
    · cases hy
  refine wpAny_bind (wpAny_newFunctionEnv hcell hbinds (fun h' hn' hs' => ?_) hkind)
  have e : (fun y : Str => ([((".0" : Str), it)] : List (Str × Value)).reverse.lookup y) = fun y : Str => if y = (".0" : Str) then some it else none := by
    funext y
    by_cases hy : y = ".0"
    · subst hy; simp
    · have : (y == (".0" : Str)) = false := by simpa using hy
      simp [List.lookup, this, hy]
  rw [e] at hn'
  simp only [newGenerator, newFields]
  refine wpAny_bind (wpAny_newGen (wpAny_bind (wpAny_mkText (wpAny_bind (wpAny_mkText (wpAny_newObj_type ?_ (by size_fits)))))))
  exact h₄ h' hn' hs'
theorem seg_genStart2 {prog : Program} {w : World} {A : Around} {R : GenEnd} {Y : Protocol} {n : Nat} {elt t0 i0 t1 i1 : Expr} {ifs0 ifs1 : List Expr} {scope : Scope} {pos : Pos} {it : Addr} {fp : List Addr} {tn : Nat → Heap → Prop} {J : It} {K : PySem.W.Frag} {cenv : Env} {s₀ s : Shared}
    (T : Turn prog w K t0 J fp it tn) (st : tn 0 s.heap)
    (loop : Seg (model prog w) A R Y n s₀ (.compLoop (g2 elt t0 i0 t1 i1 ifs0 ifs1 scope pos) 0 (.ref it) .none cenv) ((model prog w).den (.compLoop (g2 elt t0 i0 t1 i1 ifs0 ifs1 scope pos) 0 (.ref it) .none cenv)) [] s) :
    Seg (model prog w) A R Y n s₀ (.compStart (g2 elt t0 i0 t1 i1 ifs0 ifs1 scope pos) 0 (.ref it) .none cenv) ((model prog w).den (.compStart (g2 elt t0 i0 t1 i1 ifs0 ifs1 scope pos) 0 (.ref it) .none cenv)) [] s := by
  show Seg _ A _ _ _ s₀ _ ((compStart (g2 elt t0 i0 t1 i1 ifs0 ifs1 scope pos) 0 (.ref it) .none cenv).onRaise (leaving cenv)) [] s
  unfold compStart
  rw [Sem.onRaise_eq_wrap]
  show Seg _ A _ _ _ s₀ _ ((ask >>= _).wrap _ _ _ _) [] s
  refine seg_bind_wrap (wpAny_askSetting ?_)
  split
  · exact seg_again rfl loop
  · first
      | exact seg_bind_wrap (wpAny_rule (seg_bind_wrap (wpAny_standAt (seg_bind_wrap (T.self _ 0 s _ _ st (seg_again rfl loop))))))
      | (refine seg_bind_wrap (wpAny_rule ?_); show Seg _ A _ _ _ s₀ _ ((standAt i0.pos >>= _).wrap _ _ _ _) [] s; exact seg_bind_wrap (wpAny_standAt (seg_bind_wrap (T.self _ 0 s _ _ st (seg_again rfl loop)))))
def tGen2 (P : Addr) (wi : TI) (gg : TG) (tt : TT) (wi1 : TI) (gg1 : TG) (tt1 : TT) (te : TE) (vs vs1 : List Nat) (cont : Bool) : TE := fun σ H Q => wi σ H fun J H1 => GxR.TabG H1 P ∧ ∀ H2, GxR.Tabbed P H1 H2 → ∃ W : Nat → Nat → Hp → Prop, (∃ m, W 0 m H2) ∧ Turns2 J σ vs vs1 gg tt wi1 gg1 tt1 te cont (fun c H' => Q (.bl c) H') W
section
variable {X : Cx} {pins : List (Addr × Obj)} {σ : St} {H : Hp} {s : Shared} {c P : Addr} {elt tg iter tg1 iter1 : Expr} {ifs ifs1 : List Expr} {scope : Scope} {own : List (Str × Nat)} {gpos pos p : Pos} {wi wi1 : TI} {gg gg1 : TG} {tt tt1 : TT} {te : TE} {cont : Bool} {vs1 : List Nat}
theorem gen_make2 {Q : VK} {Q' : Value → Shared → Prop} {k : Nat} (hr : Room k X.A) (hc : X.calm = true) (hN : X.N.Nodup) (TB : GxR.TabB X.base X.mg c P) (hcode : X.env.code = .ref c) (ok : GenB X.N X.env.scope scope own) (hi : PI X tg iter wi)
    (hg : ∀ (s : Shared) (H : Hp) (C : Addr) (cl : List (Str × Addr)) (cd : Value) (fp : List Addr) (pn : List (Addr × Obj)), PG (gxOf X s H (genEnv scope cl C cd builtinsNs X.env) fp pn) tg gg)
    (ht : ∀ (s : Shared) (H : Hp) (C : Addr) (cl : List (Str × Addr)) (cd : Value) (fp : List Addr) (pn : List (Addr × Obj)), PTs (gxOf X s H (genEnv scope cl C cd builtinsNs X.env) fp pn) ifs tt)
    (hv : ∀ i ∈ vs1, i ∈ own.map (·.2))
    (hi1 : ∀ (s : Shared) (H : Hp) (C : Addr) (cl : List (Str × Addr)) (cd : Value) (fp : List Addr) (pn : List (Addr × Obj)), PI (gxOf X s H (genEnv scope cl C cd builtinsNs X.env) fp pn) tg1 iter1 wi1)
    (hg1 : ∀ (s : Shared) (H : Hp) (C : Addr) (cl : List (Str × Addr)) (cd : Value) (fp : List Addr) (pn : List (Addr × Obj)), PG (gxOf X s H (genEnv scope cl C cd builtinsNs X.env) fp pn) tg1 gg1)
    (ht1 : ∀ (s : Shared) (H : Hp) (C : Addr) (cl : List (Str × Addr)) (cd : Value) (fp : List Addr) (pn : List (Addr × Obj)), PTs (gxOf X s H (genEnv scope cl C cd builtinsNs X.env) fp pn) ifs1 tt1)
    (he : ∀ (s : Shared) (H : Hp) (C : Addr) (cl : List (Str × Addr)) (cd : Value) (fp : List Addr) (pn : List (Addr × Obj)), PE (gxOf X s H (genEnv scope cl C cd builtinsNs X.env) fp pn) elt te)
    (hs : ∀ v, genFold iter X.env v = pure v) (hs1 : ∀ env x, foldedSetIterable iter1 env x = pure x) (I : Inv X pins σ H s) (h : tGen2 P wi gg tt wi1 gg1 tt1 te (own.map (·.2)) vs1 cont σ H Q)
    (hQ : ∀ a s5 G go g n, GReady X pins σ cont (fun c H' => Q (.bl c) H') a s5 G go g n → Q' (.ref a) s5) :
    wpAny (model X.prog X.w) X.A (eval (.GeneratorExp elt [⟨tg, iter, ifs, 0⟩, ⟨tg1, iter1, ifs1, 0⟩] scope gpos) X.env) Q' X.xe s := by
  have hfree : ∀ y ∈ scope.names, y.2 = .free → ∃ c, X.env.cells.lookup y.1 = some c := fun y hy e => by
    rcases ok.free y hy e with k | k
    · exact I.ok.has _ (.inl k)
    · exact I.ok.has _ (.inr k)
  refine make_gen2 ok.co (closure_ok hfree) ok.cell ok.dot ok.kind (by have := hr.dp; omega) ?_ hs
  refine thn (hi.run pins s σ H _ I h) fun xv s1 h1 => thn h1 fun itv s2 h2 => ?_
  obtain ⟨it, fp, tn, J, H2, rfl, I2, T, st2, f2, tb, q2⟩ := h2
  refine ⟨I2.nolimit, gen_code TB hcode I2 tb fun code h3 tk3 H3 tab I3 hsz3 kp3 => ?_⟩
  intro h' hn' hs'
  obtain ⟨W, ⟨m0, w0⟩, tr⟩ := q2 H3 tab
  generalize hs4 : ({ s2 with heap := h3, toks := tk3 } : Shared) = s4 at I3 hn' hs' ⊢
  have e4 : s4.heap = h3 := by rw [← hs4]
  have g4 : s4.os = s2.os := by rw [← hs4]
  have fpP : ∀ b ∈ fp, b ≠ P := fun b hb z => by
    have q := (f2 b hb).1
    rw [z] at q
    obtain ⟨ps, e, _⟩ := tb
    rw [e] at q; cases q
  have keep4 : ∀ b ∈ fp, ∀ o, s2.heap.get? b = some o → s4.heap.get? b = some o := fun b hb o e => by rw [e4]; exact kp3 b o (fpP b hb) e
  have f4 : ∀ b ∈ fp, FpOk X pins H3 b ∧ b < s4.heap.objs.size := fun b hb => by
    obtain ⟨o, e, _⟩ := T.obj _ _ st2 b hb
    refine ⟨⟨Tabbed_none tb tab (f2 b hb).1, (f2 b hb).2⟩, ?_⟩
    exact Heap.lt_size (keep4 b hb o e)
  have hsz : h'.objs.size = s4.heap.objs.size + 1 := by rw [hs'.1, Heap.size_push]
  have keep6 : ∀ (go : Obj) b o, s4.heap.get? b = some o → (h'.push go).get? b = some o := fun go b o e => Heap.get?_push_of_some _ (hs'.extBut b o (Nat.ne_of_lt (Heap.lt_size e)) (Heap.get?_push_of_some _ e))
  have main : ∀ (go : Obj) (nm qn : Value) (tk5 : Nat), go.cls = .type "generator" → go.data = .fields #[.int s4.gens.size 0, nm, qn] → go.slots = #[] → (∀ h : Heap, (h.push go).get? h.objs.size = some go) →
      Q' (.ref h'.objs.size) { s4 with gens := s4.gens.push (.fresh (.compStart (.GeneratorExp elt [⟨tg, iter, ifs, 0⟩, ⟨tg1, iter1, ifs1, 0⟩] scope gpos) 0 (.ref it) .none (genEnv scope (cloFrom X.env.cells scope.names []) s4.heap.objs.size code builtinsNs X.env))), toks := tk5, heap := h'.push go } := by
    intro go nm qn tk5 hgc hgd0 hgs hgp
    have hgen : ∀ h : Heap, h.get? h'.objs.size = some go → h.IsGen h'.objs.size s4.gens.size := fun h e => ⟨go, nm, qn, e, hgc, hgd0, hgs⟩
    have hgdc : ∀ v, go.data ≠ .cell v := fun v q => by rw [hgd0] at q; cases q
    have I5 := gx_start (own := own) (fp := fp) (code := code) (tk := tk5) I3 ok hN f4 hn' hs' hgdc (hgp h') (gs := .fresh (.compStart (.GeneratorExp elt [⟨tg, iter, ifs, 0⟩, ⟨tg1, iter1, ifs1, 0⟩] scope gpos) 0 (.ref it) .none (genEnv scope (cloFrom X.env.cells scope.names []) s4.heap.objs.size code builtinsNs X.env))) rfl
    have pg := hg s4 H3 s4.heap.objs.size (cloFrom X.env.cells scope.names []) code fp [(h'.objs.size, go)]
    have pt := ht s4 H3 s4.heap.objs.size (cloFrom X.env.cells scope.names []) code fp [(h'.objs.size, go)]
    have pi1 := hi1 s4 H3 s4.heap.objs.size (cloFrom X.env.cells scope.names []) code fp [(h'.objs.size, go)]
    have pg1 := hg1 s4 H3 s4.heap.objs.size (cloFrom X.env.cells scope.names []) code fp [(h'.objs.size, go)]
    have pt1 := ht1 s4 H3 s4.heap.objs.size (cloFrom X.env.cells scope.names []) code fp [(h'.objs.size, go)]
    have pe := he s4 H3 s4.heap.objs.size (cloFrom X.env.cells scope.names []) code fp [(h'.objs.size, go)]
    generalize hce : genEnv scope (cloFrom X.env.cells scope.names []) s4.heap.objs.size code builtinsNs X.env = ce at I5 pg pt pi1 pg1 pt1 pe ⊢
    have hco : ce.scope.isCoroutine = false := by rw [← hce]; exact ok.co
    have st5 : tn 0 (h'.push go) := T.keep _ _ _ st2 fun b hb o e => keep6 go b o (keep4 b hb o e)
    refine hQ _ _ (gxOf X s4 H3 ce fp [(h'.objs.size, go)]) go s4.gens.size (m0 + 1) ⟨rfl, rfl, rfl, hgen, hgen _ (hgp h'), I5.nolimit, ⟨_, Array.getElem?_push_size .., rfl, ?_⟩, fun s1 ip σ' H' J' h1' Gn tk hk hb => ?_⟩
    · refine seg_genStart2 T st5 ?_
      have I6 : Inv (gxOf X s4 H3 ce fp [(h'.objs.size, go)]) [] (wipe σ (own.map (·.2))) H3 _ := Inv.gens (tk := tk5) I5 (allBare_setGen (g := s4.gens.size) (x := .running) I5.bare rfl)
      refine seg_gen2 (G := gxOf X s4 H3 ce fp [(h'.objs.size, go)]) (A := X.A.in1.in1) (vs := own.map (·.2)) rfl over_comp hco hc rfl (fun p hp b hb z => ?_) hv T pg pt pi1 pg1 pt1 pe hs1 tr m0 (m0 + 1) 0 _ _ H3 (Nat.lt_succ_self _) w0 I6 st5 fun b hb => (f4 b hb).1.1
      rw [List.mem_singleton.mp hp] at z
      have hlt := (f4 b hb).2
      have z : h'.objs.size = b := z
      rw [← z, hsz] at hlt
      exact Nat.not_succ_lt_self hlt
    · -- back in the def's context
      have J2 : Inv X pins σ H' s1 := I3.call' (ch := fp) J'.os J'.base J'.hok J'.bare fun b hb => ⟨(f4 b hb).1.2.2.2.1, (f4 b hb).1.2.1, (f4 b hb).1.2.2.2.2.1, (f4 b hb).1.2.2.2.2.2⟩
      exact Inv.gens (s := { s1 with heap := h1' }) (J2.kept (t' := s1.toks) hk) hb
  exact main _ _ _ _ rfl rfl rfl fun h => Heap.get?_push_size _ rfl
theorem pe_all2 {k : Nat} (hr : Room k X.A) (hc : X.calm = true) (hN : X.N.Nodup) (hgl : Gl X "all") (hm : X.mg "all" = none) (TB : GxR.TabB X.base X.mg c P) (hcode : X.env.code = .ref c) (ok : GenB X.N X.env.scope scope own) (hi : PI X tg iter wi)
    (hg : ∀ (s : Shared) (H : Hp) (C : Addr) (cl : List (Str × Addr)) (cd : Value) (fp : List Addr) (pn : List (Addr × Obj)), PG (gxOf X s H (genEnv scope cl C cd builtinsNs X.env) fp pn) tg gg)
    (ht : ∀ (s : Shared) (H : Hp) (C : Addr) (cl : List (Str × Addr)) (cd : Value) (fp : List Addr) (pn : List (Addr × Obj)), PTs (gxOf X s H (genEnv scope cl C cd builtinsNs X.env) fp pn) ifs tt)
    (hv : ∀ i ∈ vs1, i ∈ own.map (·.2))
    (hi1 : ∀ (s : Shared) (H : Hp) (C : Addr) (cl : List (Str × Addr)) (cd : Value) (fp : List Addr) (pn : List (Addr × Obj)), PI (gxOf X s H (genEnv scope cl C cd builtinsNs X.env) fp pn) tg1 iter1 wi1)
    (hg1 : ∀ (s : Shared) (H : Hp) (C : Addr) (cl : List (Str × Addr)) (cd : Value) (fp : List Addr) (pn : List (Addr × Obj)), PG (gxOf X s H (genEnv scope cl C cd builtinsNs X.env) fp pn) tg1 gg1)
    (ht1 : ∀ (s : Shared) (H : Hp) (C : Addr) (cl : List (Str × Addr)) (cd : Value) (fp : List Addr) (pn : List (Addr × Obj)), PTs (gxOf X s H (genEnv scope cl C cd builtinsNs X.env) fp pn) ifs1 tt1)
    (he : ∀ (s : Shared) (H : Hp) (C : Addr) (cl : List (Str × Addr)) (cd : Value) (fp : List Addr) (pn : List (Addr × Obj)), PE (gxOf X s H (genEnv scope cl C cd builtinsNs X.env) fp pn) elt te)
    (hs : ∀ v, genFold iter X.env v = pure v := by intro _; rfl) (hs1 : ∀ env x, foldedSetIterable iter1 env x = pure x := by intro _ _; rfl) (hb : bootBuiltins "all" = some (.builtin "all") := by kernel_rfl)
    (hst : starEach [.GeneratorExp elt [⟨tg, iter, ifs, 0⟩, ⟨tg1, iter1, ifs1, 0⟩] scope gpos] X.env = (false, eval (.GeneratorExp elt [⟨tg, iter, ifs, 0⟩, ⟨tg1, iter1, ifs1, 0⟩] scope gpos) X.env) :: starEach [] X.env := by rfl) :
    PE X (.Call (.Name "all" p) [.GeneratorExp elt [⟨tg, iter, ifs, 0⟩, ⟨tg1, iter1, ifs1, 0⟩] scope gpos] [] pos) (tGen2 P wi gg tt wi1 gg1 tt1 te (own.map (·.2)) vs1 true) := by
  refine ⟨fun pins s σ H Q I h => ?_⟩
  refine wpAny_Call_Name_kw (ld_blt I hgl hm hb ?_)
  refine PyProof.Rows.callWith_builtin1 ?_ hst (by rfl)
  rw [hst]
  show wpAny _ _ (spliced ((false, eval (.GeneratorExp elt [⟨tg, iter, ifs, 0⟩, ⟨tg1, iter1, ifs1, 0⟩] scope gpos) X.env) :: backTo pos (starEach [] X.env))) _ _ s
  refine Calls.spliced_cons (gen_make2 hr hc hN TB hcode ok hi hg ht hv hi1 hg1 ht1 he hs hs1 I h fun a s5 G go g n R => ?_)
  refine Calls.spliced_nil ?_
  refine call_function_tree F.kind_all F.plain_all F.entry_all (F.args_all1 _) ?_
  unfold Builtin.«all»
  refine wpAny_bind (m := oneArg "all" _) (wpAny_pure ?_)
  refine wpAny_bind (wpAny_pyIter_gen R.is ?_)
  refine wpAny_pure ⟨plainId_quiet F.plain_all_loop _, ?_⟩
  have e1 := R.prog
  have e2 := R.w
  rw [← e1, ← e2]
  exact loop_all (A := X.A) hr.hd hr.depth R.pn R.gen (fun c s1 ip σ' H' I' gd h' Gn tk hk hb => ⟨.bl c, H', R.back s1 ip σ' H' I' h' Gn tk hk hb, rfl, gd⟩) n s5 R.is R.lim R.goes
theorem pe_any2 {k : Nat} (hr : Room k X.A) (hc : X.calm = true) (hN : X.N.Nodup) (hgl : Gl X "any") (hm : X.mg "any" = none) (TB : GxR.TabB X.base X.mg c P) (hcode : X.env.code = .ref c) (ok : GenB X.N X.env.scope scope own) (hi : PI X tg iter wi)
    (hg : ∀ (s : Shared) (H : Hp) (C : Addr) (cl : List (Str × Addr)) (cd : Value) (fp : List Addr) (pn : List (Addr × Obj)), PG (gxOf X s H (genEnv scope cl C cd builtinsNs X.env) fp pn) tg gg)
    (ht : ∀ (s : Shared) (H : Hp) (C : Addr) (cl : List (Str × Addr)) (cd : Value) (fp : List Addr) (pn : List (Addr × Obj)), PTs (gxOf X s H (genEnv scope cl C cd builtinsNs X.env) fp pn) ifs tt)
    (hv : ∀ i ∈ vs1, i ∈ own.map (·.2))
    (hi1 : ∀ (s : Shared) (H : Hp) (C : Addr) (cl : List (Str × Addr)) (cd : Value) (fp : List Addr) (pn : List (Addr × Obj)), PI (gxOf X s H (genEnv scope cl C cd builtinsNs X.env) fp pn) tg1 iter1 wi1)
    (hg1 : ∀ (s : Shared) (H : Hp) (C : Addr) (cl : List (Str × Addr)) (cd : Value) (fp : List Addr) (pn : List (Addr × Obj)), PG (gxOf X s H (genEnv scope cl C cd builtinsNs X.env) fp pn) tg1 gg1)
    (ht1 : ∀ (s : Shared) (H : Hp) (C : Addr) (cl : List (Str × Addr)) (cd : Value) (fp : List Addr) (pn : List (Addr × Obj)), PTs (gxOf X s H (genEnv scope cl C cd builtinsNs X.env) fp pn) ifs1 tt1)
    (he : ∀ (s : Shared) (H : Hp) (C : Addr) (cl : List (Str × Addr)) (cd : Value) (fp : List Addr) (pn : List (Addr × Obj)), PE (gxOf X s H (genEnv scope cl C cd builtinsNs X.env) fp pn) elt te)
    (hs : ∀ v, genFold iter X.env v = pure v := by intro _; rfl) (hs1 : ∀ env x, foldedSetIterable iter1 env x = pure x := by intro _ _; rfl)
    (hst : starEach [.GeneratorExp elt [⟨tg, iter, ifs, 0⟩, ⟨tg1, iter1, ifs1, 0⟩] scope gpos] X.env = (false, eval (.GeneratorExp elt [⟨tg, iter, ifs, 0⟩, ⟨tg1, iter1, ifs1, 0⟩] scope gpos) X.env) :: starEach [] X.env := by rfl) :
    PE X (.Call (.Name "any" p) [.GeneratorExp elt [⟨tg, iter, ifs, 0⟩, ⟨tg1, iter1, ifs1, 0⟩] scope gpos] [] pos) (tGen2 P wi gg tt wi1 gg1 tt1 te (own.map (·.2)) vs1 false) := by
  refine ⟨fun pins s σ H Q I h => ?_⟩
  refine wpAny_Call_Name_kw (ld_blt I hgl hm boot_any ?_)
  refine PyProof.Rows.callWith_builtin1 ?_ hst (by rfl)
  rw [hst]
  show wpAny _ _ (spliced ((false, eval (.GeneratorExp elt [⟨tg, iter, ifs, 0⟩, ⟨tg1, iter1, ifs1, 0⟩] scope gpos) X.env) :: backTo pos (starEach [] X.env))) _ _ s
  refine Calls.spliced_cons (gen_make2 hr hc hN TB hcode ok hi hg ht hv hi1 hg1 ht1 he hs hs1 I h fun a s5 G go g n R => ?_)
  refine Calls.spliced_nil ?_
  refine call_function_tree F.kind_any F.plain_any F.entry_any (F.args_any1 _) ?_
  unfold Builtin.«any»
  refine wpAny_bind (m := oneArg "any" _) (wpAny_pure ?_)
  refine wpAny_bind (wpAny_pyIter_gen R.is ?_)
  refine wpAny_pure ⟨plainId_quiet F.plain_any_loop _, ?_⟩
  have e1 := R.prog
  have e2 := R.w
  rw [← e1, ← e2]
  exact loop_any (A := X.A) hr.hd hr.depth R.pn R.gen (fun c s1 ip σ' H' I' gd h' Gn tk hk hb => ⟨.bl c, H', R.back s1 ip σ' H' I' h' Gn tk hk hb, rfl, gd⟩) n s5 R.is R.lim R.goes
end
end Vs

set_option Elab.async false
set_option linter.all false
set_option maxRecDepth 100000
set_option maxHeartbeats 4000000
namespace Vs
open PySem PySem.Spec PyProof.Rows L2 GenW

/-- one item of a generator: not foreseen; passed over; handed out -/
def gItem (g : D → Sts → Option Sts) (ft : Et) (fe : Ev) (st : Sts) (d : D) : Option (Option Bool) := match g d st with
  | none => none
  | some st1 => match ft st1 with
    | .ok false _ => some none
    | .ok true _ => match fe st1 with
      | .ok (.bool c) _ => some (some c)
      | _ => none
    | _ => none
/-- all (cont = true), any (cont = false) -/
def gB1 (cont : Bool) (it : D → Option (Option Bool)) : List D → Option Bool
  | [] => some cont
  | d :: ds => match it d with
    | none => none
    | some none => gB1 cont it ds
    | some (some c) => if c = cont then gB1 cont it ds else some c
def rBool (st : Sts) : Option Bool → Res D
  | some c => .ok (.bool c) st
  | none => .bad
def fGen1 (vs : List Nat) (cont : Bool) (fi : Ei) (g : D → Sts → Option Sts) (ft : Et) (fe : Ev) : Ev := fun st => (fi st).bind fun ds st1 => if allUn vs st1 = true then rBool st1 (gB1 cont (gItem g ft fe st1) ds) else .bad
theorem Kp0.trans {H H1 H2 : Hp} {st : Sts} {σ : St} (a : Kp (fun _ => False) H H1) (b : Kp (fun a => false = true ∧ Own σ st a) H1 H2) : Kp (fun _ => False) H H2 := a.trans b fun c z => by cases z.1
section
variable {X : Cx} {T F : Addr → Prop} {σ : St} {H H3 : Hp} {st st1 : Sts} {g : D → Sts → Option Sts} {ft : Et} {fe : Ev} {vs sl : List Nat} {N : Hp → Prop} {Gd : Bool → Hp → Prop} {cont : Bool} {gg : TG} {tt : TT} {te : TE} {x : V} {d : D}
theorem gturn (bk : Bk sl g) (hsl : ∀ i ∈ sl, i ∈ vs) (hun : allUn vs st = true)
    (hg : ∀ v σ H Q, (∃ F st d st', RepS X.K T F H σ st ∧ Rep X.K (Bd F σ st) H d v ∧ g d st = some st' ∧ ∀ σ', RepS X.K T F H σ' st' → SGo σ H st σ' H st' → (∀ vs, (∀ i ∈ sl, i ∈ vs) → wipe σ' vs = wipe σ vs) → Q σ' H) → gg v σ H Q)
    (ht : ∀ σ H Q, tT X T WN false ft σ H Q → tt σ H Q) (he : ∀ σ H Q, tV X T WN false false fe σ H Q → te σ H Q)
    (R : RepS X.K T F H σ st) (rd : Rep X.K (Bd F σ st) H d x)
    (hk : match gItem g ft fe st d with | none => False | some none => ∀ H', RepS X.K T F H' σ st → Kp (fun _ => False) H H' → N H' | some (some c) => ∀ H', RepS X.K T F H' σ st → Kp (fun _ => False) H H' → if c = cont then N H' else Gd c H') :
    gg x (wipe σ vs) H fun σ2 H2 => wipe σ2 vs = wipe σ vs ∧ tt σ2 H2 fun b H3 => if b = true then te σ2 H3 fun y H4 => ∃ c, y = .bl c ∧ (if c = cont then N H4 else Gd c H4) else N H3 := by
  cases eg : g d st with
  | none => unfold gItem at hk; rw [eg] at hk; exact hk.elim
  | some st3 =>
    unfold gItem at hk
    rw [eg] at hk
    obtain ⟨Rw, hOw⟩ := R.slots (τ := wipe σ vs) (wipe_length σ vs) (wipe_agree hun)
    have rdw : Rep X.K (Bd F (wipe σ vs) st) H d x := rd.step (Kp.refl (fun _ => False) H) (fun _ z => z.elim) fun c z => .inl (z.imp id (hOw c).mp)
    obtain ⟨hback, hnp⟩ := wipes_back bk eg hsl hun
    refine hg x (wipe σ vs) H _ ⟨F, st, d, st3, Rw, rdw, eg, fun σ4 R4 y4 w4 => ?_⟩
    have hw4 : wipe σ4 vs = wipe σ vs := by
      rw [w4 vs hsl]
      have : ∀ (vs us : List Nat) (τ : St), (∀ i ∈ us, i ∈ vs) → wipe (wipe τ us) vs = wipe τ vs := by
        intro vs us
        induction us with
        | nil => intro τ _; rfl
        | cons u us ih =>
          intro τ h
          show wipe ((wipe τ us).set u none) vs = _
          rw [wipe_set (h u List.mem_cons_self), ih τ fun i hi => h i (List.mem_cons_of_mem _ hi)]
      exact this vs vs σ fun _ z => z
    -- back from the turn's slots
    have fin : ∀ {H' : Hp}, RepS X.K T F H' σ4 st3 → RepS X.K T F H' σ st := fun {H'} R' => by
      obtain ⟨R5, _⟩ := RepS.wipes vs R'
      rw [hback] at R5
      have agree : ∀ (j : Nat) s, st[j]? = some s → s ≠ .un → σ[j]? = σ4[j]? := fun j s e n => by
        rw [← wipe_agree (σ := σ) hun j s e n, ← hw4, wipe_agree (σ := σ4) hun j s e n]
      have hlen : σ.length = σ4.length := by
        have := congrArg List.length hw4
        rw [wipe_length, wipe_length] at this
        exact this.symm
      exact (R5.slots hlen agree).1
    refine ⟨hw4, ht σ4 H _ ⟨F, st3, R4, ?_⟩⟩
    cases et : ft st3 with
    | exc c st' => dsimp only at hk; rw [et] at hk; exact hk.elim
    | bad => dsimp only at hk; rw [et] at hk; exact hk.elim
    | ok b st4 =>
      dsimp only at hk
      rw [et] at hk
      intro bv H5 R5 y5 ebv
      have ebv : b = bv := ebv
      subst ebv
      have e5 : st4 = st3 := y5.pure rfl
      subst e5
      have k5 : Kp (fun _ => False) H H5 := y5.kp.mono fun _ z => by cases z.1
      cases b with
      | false => rw [if_neg Bool.false_ne_true]; exact hk H5 (fin R5) k5
      | true =>
        rw [if_pos rfl]
        dsimp only at hk
        refine he σ4 H5 _ ⟨F, st4, R5, ?_⟩
        cases ee : fe st4 with
        | exc c st' => rw [ee] at hk; exact hk.elim
        | bad => rw [ee] at hk; exact hk.elim
        | ok y st5 =>
          rw [ee] at hk
          intro v H6 R6 y6 ry
          cases y with
          | bool c =>
            have e6 : st5 = st4 := y6.pure rfl
            subst e6
            exact ⟨c, ry.isB, hk H6 (fin R6) (Kp0.trans k5 y6.kp)⟩
          | none => exact hk.elim
          | int _ => exact hk.elim
          | str _ => exact hk.elim
          | list _ => exact hk.elim
          | tuple _ => exact hk.elim
          | dict _ => exact hk.elim
theorem tabbed_kp {P : Addr} {H1 H2 : Hp} (t : GxR.TabG H1 P) (x : GxR.Tabbed P H1 H2) : Kp (fun _ => False) H1 H2 ∧ ∀ P', GxR.TabG H1 P' → GxR.TabG H2 P' := by
  obtain ⟨ps, e, _⟩ := t
  refine ⟨⟨fun a o ea fx => ?_, fun a n => ?_⟩, fun P' h => ?_⟩
  · rw [x.2 a fun z => ?_]
    · exact ea
    · rw [z, e] at ea; cases ea; exact fx
  · by_cases z : a = P
    · obtain ⟨qs, e2, _⟩ := x.1
      rw [z, e2]; intro q; cases q
    · rw [x.2 a z]; exact n
  · by_cases z : P' = P
    · rw [z]; exact x.1
    · obtain ⟨qs, e2, h2⟩ := h
      exact ⟨qs, by rw [x.2 P' z]; exact e2, h2⟩
end
section
variable {X : Cx} {T F : Addr → Prop} {W : Wx} {mi r : Bool} {σ : St} {H : Hp} {st : Sts} {Q : VK} {fi : Ei} {g : D → Sts → Option Sts} {ft : Et} {fe : Ev} {vs sl : List Nat} {cont : Bool}
theorem gen1_read {P : Addr} {wi : TI} {gg : TG} {tt : TT} {te : TE} (hi : ∀ σ H R, (∃ F st, RepS X.K T F H σ st ∧ RG X T W mi (fun _ _ (_ : List D) (_ : It) => True) F σ H st (fun _ _ => True) (fi st) ∧ ∀ ds st', fi st = .ok ds st' → ∀ J H', RepS X.K T F H' σ st' → XGo mi σ H H' st st' → Jw X.K T (Bd F σ st') (Bd F σ st') H' J ds → R J H') → wi σ H R)
    (hP : T P) (bk : Bk sl g) (hsl : ∀ i ∈ sl, i ∈ vs)
    (hg : ∀ v σ H Q, (∃ F st d st', RepS X.K T F H σ st ∧ Rep X.K (Bd F σ st) H d v ∧ g d st = some st' ∧ ∀ σ', RepS X.K T F H σ' st' → SGo σ H st σ' H st' → (∀ vs, (∀ i ∈ sl, i ∈ vs) → wipe σ' vs = wipe σ vs) → Q σ' H) → gg v σ H Q)
    (ht : ∀ σ H Q, tT X T WN false ft σ H Q → tt σ H Q) (he : ∀ σ H Q, tV X T WN false false fe σ H Q → te σ H Q)
    (R : RepS X.K T F H σ st) (q : RV X T W mi r F σ H st Q (fGen1 vs cont fi g ft fe st)) : tGen1 P wi gg tt te vs cont σ H Q := by
  refine hi σ H _ ⟨F, st, R, ?_, fun ds st1 e J H1 R1 y1 jw => ⟨R1.tab P hP, fun H2 tab => ?_⟩⟩
  · cases e : fi st with
    | ok ds st' => exact fun _ _ _ _ _ => trivial
    | exc c st' => unfold fGen1 at q; rw [e] at q; exact q
    | bad => unfold fGen1 at q; rw [e] at q; exact q.elim
  unfold fGen1 at q
  rw [e] at q
  have q : RV X T W mi r F σ H st Q (if allUn vs st1 = true then rBool st1 (gB1 cont (gItem g ft fe st1) ds) else .bad) := q
  split at q
  case isFalse => exact q.elim
  rename_i hun
  obtain ⟨k2, t2⟩ := tabbed_kp (R1.tab P hP) tab
  have R2 := R1.kept k2 fun P' _ h => t2 P' h
  obtain ⟨G, Y, wk, hG, item⟩ := jw.weak (M' := Own σ st1) fun _ z => .inr z
  have emp : ∀ {H' : Hp}, Kp (fun _ => False) H1 H' → Kp (Own σ st1) H1 H' := fun k => k.mono fun _ z => z.elim
  have outc : ∀ (c : Bool) (H' : Hp), RepS X.K T F H' σ st1 → Kp (fun _ => False) H1 H' → RV X T W mi r F σ H st Q (rBool st1 (some c)) → Q (.bl c) H' := fun c H' R' k q => q (.bl c) H' R' (y1.then k) (.inl (.bl c))
  refine ⟨fun i m H' => m = ds.length - i ∧ i ≤ ds.length ∧ RepS X.K T F H' σ st1 ∧ Kp (fun _ => False) H1 H' ∧ RV X T W mi r F σ H st Q (rBool st1 (gB1 cont (gItem g ft fe st1) (ds.drop i))), ⟨ds.length, by simp, Nat.zero_le _, R2, k2, q⟩, ⟨?_⟩⟩
  rintro i m H' ⟨rfl, hi, R', k', q'⟩
  have g2 : G H' := hG H' (emp k')
  by_cases hlt : i < ds.length
  · refine .inr ⟨wk.goes i H' hlt g2, fun H'' => RepS X.K T F H'' σ st1 ∧ Kp (fun _ => False) H1 H'' ∧ RV X T W mi r F σ H st Q (rBool st1 (gB1 cont (gItem g ft fe st1) (ds.drop (i + 1)))), fun H'' h => ⟨ds.length - (i + 1), by omega, rfl, hlt, h⟩, fun x H3 y => ?_⟩
    obtain ⟨k3, t3, d, ed, rd⟩ := item i H' (Bd F σ st1) x H3 hlt (emp k') (fun c z => .inl z) (wk.yields i H' x H3 hlt g2 y)
    have ed' : ds.drop i = d :: ds.drop (i + 1) := by
      rw [List.drop_eq_getElem_cons hlt]
      have := (List.getElem?_eq_getElem hlt).symm.trans ed
      rw [Option.some.inj this]
    rw [ed'] at q'
    refine gturn bk hsl hun hg ht he (R'.kept k3 t3) rd ?_
    have kk : ∀ {H'' : Hp}, Kp (fun _ => False) H3 H'' → Kp (fun _ => False) H1 H'' := fun k4 => (k'.trans k3 fun _ z => z.elim).trans k4 fun _ z => z.elim
    cases ei : gItem g ft fe st1 d with
    | none => simp only [gB1, ei] at q'; exact q'.elim
    | some o =>
      cases o with
      | none =>
        simp only [gB1, ei] at q'
        exact fun H'' R'' k4 => ⟨R'', kk k4, q'⟩
      | some c =>
        simp only [gB1, ei] at q'
        intro H'' R'' k4
        split
        · rename_i hc
          rw [if_pos hc] at q'
          exact ⟨R'', kk k4, q'⟩
        · rename_i hc
          rw [if_neg hc] at q'
          exact outc c H'' R'' (kk k4) q'
  · have e : i = ds.length := by omega
    subst e
    rw [List.drop_length] at q'
    exact .inl ⟨wk.stops H' g2, outc cont H' R' k' q'⟩
end
section
variable {X : Cx} {T : Addr → Prop} {W : Wx} {mi r : Bool} {fi : Ei} {g : D → Sts → Option Sts} {ft : Et} {fe : Ev} {sl : List Nat} {elt tg iter : Expr} {ifs : List Expr} {scope : Scope} {own : List (Str × Nat)} {pos p gpos : Pos} {c P : Addr} {k : Nat}
theorem VE.all1 (hr : Room k X.A) (hc : X.calm = true) (hN : X.N.Nodup) (hgl : Gl X "all") (hm : X.mg "all" = none) (TB : GxR.TabB X.base X.mg c P) (hP : T P) (hcode : X.env.code = .ref c) (ok : GenB X.N X.env.scope scope own) (hi : VI X T W mi tg iter fi) (hsl : ∀ i ∈ sl, i ∈ own.map (·.2))
    (hg : ∀ (s : Shared) (H : Hp) (C : Addr) (cl : List (Str × Addr)) (cd : Value) (fp : List Addr) (pn : List (Addr × Obj)), VG (gxOf X s H (genEnv scope cl C cd builtinsNs X.env) fp pn) T sl tg g)
    (ht : ∀ (s : Shared) (H : Hp) (C : Addr) (cl : List (Str × Addr)) (cd : Value) (fp : List Addr) (pn : List (Addr × Obj)), VTs (gxOf X s H (genEnv scope cl C cd builtinsNs X.env) fp pn) T WN false ifs ft)
    (he : ∀ (s : Shared) (H : Hp) (C : Addr) (cl : List (Str × Addr)) (cd : Value) (fp : List Addr) (pn : List (Addr × Obj)), VE (gxOf X s H (genEnv scope cl C cd builtinsNs X.env) fp pn) T WN false false elt fe)
    (hs : ∀ v, genFold iter X.env v = pure v := by intro _; rfl) (hb : bootBuiltins "all" = some (.builtin "all") := by kernel_rfl)
    (hst : starEach [.GeneratorExp elt [⟨tg, iter, ifs, 0⟩] scope gpos] X.env = (false, eval (.GeneratorExp elt [⟨tg, iter, ifs, 0⟩] scope gpos) X.env) :: starEach [] X.env := by rfl) {vsO : List Nat} (hvs : vsO = own.map (·.2) := by rfl) :
    VE X T W mi r (.Call (.Name "all" p) [.GeneratorExp elt [⟨tg, iter, ifs, 0⟩] scope gpos] [] pos) (fGen1 vsO true fi g ft fe) := by
  subst hvs
  exact ⟨pe_weak (pe_all1 hr hc hN hgl hm TB hcode ok hi.pi (fun s H C cl cd fp pn => (hg s H C cl cd fp pn).pg) (fun s H C cl cd fp pn => (ht s H C cl cd fp pn).pt) (fun s H C cl cd fp pn => (he s H C cl cd fp pn).pe) hs hb hst) fun σ H Q ⟨F, st, R, q⟩ =>
    gen1_read (fun _ _ _ z => z) hP (hg X.s_0 (fun _ => none) 0 [] .none [] []).bk hsl (fun _ _ _ _ z => z) (fun _ _ _ z => z) (fun _ _ _ z => z) R q⟩
theorem VE.any1 (hr : Room k X.A) (hc : X.calm = true) (hN : X.N.Nodup) (hgl : Gl X "any") (hm : X.mg "any" = none) (TB : GxR.TabB X.base X.mg c P) (hP : T P) (hcode : X.env.code = .ref c) (ok : GenB X.N X.env.scope scope own) (hi : VI X T W mi tg iter fi) (hsl : ∀ i ∈ sl, i ∈ own.map (·.2))
    (hg : ∀ (s : Shared) (H : Hp) (C : Addr) (cl : List (Str × Addr)) (cd : Value) (fp : List Addr) (pn : List (Addr × Obj)), VG (gxOf X s H (genEnv scope cl C cd builtinsNs X.env) fp pn) T sl tg g)
    (ht : ∀ (s : Shared) (H : Hp) (C : Addr) (cl : List (Str × Addr)) (cd : Value) (fp : List Addr) (pn : List (Addr × Obj)), VTs (gxOf X s H (genEnv scope cl C cd builtinsNs X.env) fp pn) T WN false ifs ft)
    (he : ∀ (s : Shared) (H : Hp) (C : Addr) (cl : List (Str × Addr)) (cd : Value) (fp : List Addr) (pn : List (Addr × Obj)), VE (gxOf X s H (genEnv scope cl C cd builtinsNs X.env) fp pn) T WN false false elt fe)
    (hs : ∀ v, genFold iter X.env v = pure v := by intro _; rfl)
    (hst : starEach [.GeneratorExp elt [⟨tg, iter, ifs, 0⟩] scope gpos] X.env = (false, eval (.GeneratorExp elt [⟨tg, iter, ifs, 0⟩] scope gpos) X.env) :: starEach [] X.env := by rfl) {vsO : List Nat} (hvs : vsO = own.map (·.2) := by rfl) :
    VE X T W mi r (.Call (.Name "any" p) [.GeneratorExp elt [⟨tg, iter, ifs, 0⟩] scope gpos] [] pos) (fGen1 vsO false fi g ft fe) := by
  subst hvs
  exact ⟨pe_weak (pe_any1 hr hc hN hgl hm TB hcode ok hi.pi (fun s H C cl cd fp pn => (hg s H C cl cd fp pn).pg) (fun s H C cl cd fp pn => (ht s H C cl cd fp pn).pt) (fun s H C cl cd fp pn => (he s H C cl cd fp pn).pe) hs hst) fun σ H Q ⟨F, st, R, q⟩ =>
    gen1_read (fun _ _ _ z => z) hP (hg X.s_0 (fun _ => none) 0 [] .none [] []).bk hsl (fun _ _ _ _ z => z) (fun _ _ _ z => z) (fun _ _ _ z => z) R q⟩
end
end Vs

set_option Elab.async false
set_option linter.all false
set_option maxRecDepth 100000
set_option maxHeartbeats 4000000
namespace Vs
open PySem PySem.Spec PyProof.Rows L2 GenW

/-- one item of the first clause: not foreseen; passed over; the second clause's slots and items -/
def gOuter (g : D → Sts → Option Sts) (ft : Et) (vs1 : List Nat) (fi1 : Ei) (st : Sts) (d : D) : Option (Option (Sts × List D)) := match g d st with
  | none => none
  | some st1 => match ft st1 with
    | .ok false _ => some none
    | .ok true _ => match fi1 st1 with
      | .ok ds _ => if allUn vs1 st1 = true then some (some (st1, ds)) else none
      | _ => none
    | _ => none
def gB2 (cont : Bool) (ou : D → Option (Option (Sts × List D))) (it : Sts → D → Option (Option Bool)) : List D → Option Bool
  | [] => some cont
  | d :: ds => match ou d with
    | none => none
    | some none => gB2 cont ou it ds
    | some (some (st1, es)) => match gB1 cont (it st1) es with
      | none => none
      | some c => if c = cont then gB2 cont ou it ds else some c
def cnt2 (ou : D → Option (Option (Sts × List D))) : List D → Nat
  | [] => 0
  | d :: ds => 1 + (match ou d with | some (some (_, es)) => es.length | _ => 0) + cnt2 ou ds
def fGen2 (vs vs1 : List Nat) (cont : Bool) (fi : Ei) (g : D → Sts → Option Sts) (ft : Et) (fi1 : Ei) (g1 : D → Sts → Option Sts) (ft1 : Et) (fe : Ev) : Ev := fun st => (fi st).bind fun ds st1 => if allUn vs st1 = true then rBool st1 (gB2 cont (gOuter g ft vs1 fi1 st1) (gItem g1 ft1 fe) ds) else .bad
section
variable {X : Cx} {T F : Addr → Prop} {W : Wx} {mi r : Bool} {σ : St} {H : Hp} {st : Sts} {Q : VK} {fi fi1 : Ei} {g g1 : D → Sts → Option Sts} {ft ft1 : Et} {fe : Ev} {vs vs1 sl sl1 : List Nat} {cont : Bool}
theorem gen2_read {P : Addr} {wi wi1 : TI} {gg gg1 : TG} {tt tt1 : TT} {te : TE} (hi : ∀ σ H R, (∃ F st, RepS X.K T F H σ st ∧ RG X T W mi (fun _ _ (_ : List D) (_ : It) => True) F σ H st (fun _ _ => True) (fi st) ∧ ∀ ds st', fi st = .ok ds st' → ∀ J H', RepS X.K T F H' σ st' → XGo mi σ H H' st st' → Jw X.K T (Bd F σ st') (Bd F σ st') H' J ds → R J H') → wi σ H R)
    (hP : T P) (bk : Bk sl g) (hsl : ∀ i ∈ sl, i ∈ vs) (bk1 : Bk sl1 g1) (hsl1 : ∀ i ∈ sl1, i ∈ vs1)
    (hg : ∀ v σ H Q, (∃ F st d st', RepS X.K T F H σ st ∧ Rep X.K (Bd F σ st) H d v ∧ g d st = some st' ∧ ∀ σ', RepS X.K T F H σ' st' → SGo σ H st σ' H st' → (∀ vs, (∀ i ∈ sl, i ∈ vs) → wipe σ' vs = wipe σ vs) → Q σ' H) → gg v σ H Q)
    (ht : ∀ σ H Q, tT X T WN false ft σ H Q → tt σ H Q)
    (hi1 : ∀ σ H R, (∃ F st, RepS X.K T F H σ st ∧ RG X T WN false (fun _ _ (_ : List D) (_ : It) => True) F σ H st (fun _ _ => True) (fi1 st) ∧ ∀ ds st', fi1 st = .ok ds st' → ∀ J H', RepS X.K T F H' σ st' → XGo false σ H H' st st' → Jw X.K T (Bd F σ st') (Bd F σ st') H' J ds → R J H') → wi1 σ H R)
    (hg1 : ∀ v σ H Q, (∃ F st d st', RepS X.K T F H σ st ∧ Rep X.K (Bd F σ st) H d v ∧ g1 d st = some st' ∧ ∀ σ', RepS X.K T F H σ' st' → SGo σ H st σ' H st' → (∀ vs, (∀ i ∈ sl1, i ∈ vs) → wipe σ' vs = wipe σ vs) → Q σ' H) → gg1 v σ H Q)
    (ht1 : ∀ σ H Q, tT X T WN false ft1 σ H Q → tt1 σ H Q) (he : ∀ σ H Q, tV X T WN false false fe σ H Q → te σ H Q)
    (R : RepS X.K T F H σ st) (q : RV X T W mi r F σ H st Q (fGen2 vs vs1 cont fi g ft fi1 g1 ft1 fe st)) : tGen2 P wi gg tt wi1 gg1 tt1 te vs vs1 cont σ H Q := by
  refine hi σ H _ ⟨F, st, R, ?_, fun ds st1 e J H1 R1 y1 jw => ⟨R1.tab P hP, fun H2 tab => ?_⟩⟩
  · cases e : fi st with
    | ok ds st' => exact fun _ _ _ _ _ => trivial
    | exc c st' => unfold fGen2 at q; rw [e] at q; exact q
    | bad => unfold fGen2 at q; rw [e] at q; exact q.elim
  unfold fGen2 at q
  rw [e] at q
  have q : RV X T W mi r F σ H st Q (if allUn vs st1 = true then rBool st1 (gB2 cont (gOuter g ft vs1 fi1 st1) (gItem g1 ft1 fe) ds) else .bad) := q
  split at q
  case isFalse => exact q.elim
  rename_i hun
  obtain ⟨k2, t2⟩ := tabbed_kp (R1.tab P hP) tab
  have R2 := R1.kept k2 fun P' _ h => t2 P' h
  obtain ⟨G, Y, wk, hG, item⟩ := jw.weak (M' := Own σ st1) fun _ z => .inr z
  have emp : ∀ {H' : Hp}, Kp (fun _ => False) H1 H' → Kp (Own σ st1) H1 H' := fun k => k.mono fun _ z => z.elim
  have outc : ∀ (c : Bool) (H' : Hp), RepS X.K T F H' σ st1 → Kp (fun _ => False) H1 H' → RV X T W mi r F σ H st Q (rBool st1 (some c)) → Q (.bl c) H' := fun c H' R' k q => q (.bl c) H' R' (y1.then k) (.inl (.bl c))
  generalize hou : gOuter g ft vs1 fi1 st1 = ou at q
  let WW : Nat → Nat → Hp → Prop := fun i m H' => m = cnt2 ou (ds.drop i) ∧ i ≤ ds.length ∧ RepS X.K T F H' σ st1 ∧ Kp (fun _ => False) H1 H' ∧ RV X T W mi r F σ H st Q (rBool st1 (gB2 cont ou (gItem g1 ft1 fe) (ds.drop i)))
  refine ⟨WW, ⟨cnt2 ou ds, ⟨by simp, Nat.zero_le _, R2, k2, q⟩⟩, ⟨?_⟩⟩
  rintro i m H' ⟨rfl, hi', R', k', q'⟩
  have g2 : G H' := hG H' (emp k')
  by_cases hlt : i < ds.length
  · refine .inr ⟨wk.goes i H' hlt g2, fun x H3 y => ?_⟩
    obtain ⟨k3, t3, d, ed, rd⟩ := item i H' (Bd F σ st1) x H3 hlt (emp k') (fun c z => .inl z) (wk.yields i H' x H3 hlt g2 y)
    have ed' : ds.drop i = d :: ds.drop (i + 1) := by
      rw [List.drop_eq_getElem_cons hlt]
      have := (List.getElem?_eq_getElem hlt).symm.trans ed
      rw [Option.some.inj this]
    rw [ed'] at q' ⊢
    have R3 := R'.kept k3 t3
    have kk3 : Kp (fun _ => False) H1 H3 := k'.trans k3 fun _ z => z.elim
    have hou' : ou d = gOuter g ft vs1 fi1 st1 d := by rw [hou]
    unfold gOuter at hou'
    cases eg : g d st1 with
    | none => rw [eg] at hou'; dsimp only at hou'; simp only [gB2, hou'] at q'; exact q'.elim
    | some st3 =>
      rw [eg] at hou'
      dsimp only at hou'
      obtain ⟨Rw, hOw⟩ := R3.slots (τ := wipe σ vs) (wipe_length σ vs) (wipe_agree hun)
      have rdw : Rep X.K (Bd F (wipe σ vs) st1) H3 d x := rd.step (Kp.refl (fun _ => False) H3) (fun _ z => z.elim) fun c z => .inl (z.imp id (hOw c).mp)
      obtain ⟨hback, hnp⟩ := wipes_back bk eg hsl hun
      refine hg x (wipe σ vs) H3 _ ⟨F, st1, d, st3, Rw, rdw, eg, fun σ4 R4 y4 w4 => ?_⟩
      have hw4 : wipe σ4 vs = wipe σ vs := by
        rw [w4 vs hsl]
        have : ∀ (vs us : List Nat) (τ : St), (∀ i ∈ us, i ∈ vs) → wipe (wipe τ us) vs = wipe τ vs := by
          intro vs us
          induction us with
          | nil => intro τ _; rfl
          | cons u us ih =>
            intro τ h
            show wipe ((wipe τ us).set u none) vs = _
            rw [wipe_set (h u List.mem_cons_self), ih τ fun i hi => h i (List.mem_cons_of_mem _ hi)]
        exact this vs vs σ fun _ z => z
      have fin : ∀ {H' : Hp}, RepS X.K T F H' σ4 st3 → RepS X.K T F H' σ st1 := fun {H'} R' => by
        obtain ⟨R5, _⟩ := RepS.wipes vs R'
        rw [hback] at R5
        have agree : ∀ (j : Nat) s, st1[j]? = some s → s ≠ .un → σ[j]? = σ4[j]? := fun j s e n => by
          rw [← wipe_agree (σ := σ) hun j s e n, ← hw4, wipe_agree (σ := σ4) hun j s e n]
        have hlen : σ.length = σ4.length := by
          have := congrArg List.length hw4
          rw [wipe_length, wipe_length] at this
          exact this.symm
        exact (R5.slots hlen agree).1
      refine ⟨hw4, ht σ4 H3 _ ⟨F, st3, R4, ?_⟩⟩
      cases et : ft st3 with
      | exc c st' => rw [et] at hou'; dsimp only at hou'; simp only [gB2, hou'] at q'; exact q'.elim
      | bad => rw [et] at hou'; dsimp only at hou'; simp only [gB2, hou'] at q'; exact q'.elim
      | ok b st4 =>
        rw [et] at hou'
        intro bv H5 R5 y5 ebv
        have ebv : b = bv := ebv
        subst ebv
        have e5 : st4 = st3 := y5.pure rfl
        subst e5
        have k5 : Kp (fun _ => False) H1 H5 := Kp0.trans kk3 y5.kp
        cases b with
        | false =>
          rw [if_neg Bool.false_ne_true]
          dsimp only at hou'
          simp only [gB2, hou'] at q'
          refine ⟨cnt2 ou (ds.drop (i + 1)), ?_, rfl, hlt, fin R5, k5, q'⟩
          simp only [cnt2]; omega
        | true =>
          rw [if_pos rfl]
          dsimp only at hou'
          refine hi1 σ4 H5 _ ⟨F, st4, R5, ?_, fun es st5 e1 J1 H6 R6 y6 jw1 => ?_⟩
          · cases e1 : fi1 st4 with
            | ok es st' => exact fun _ _ _ _ _ => trivial
            | exc c st' => rw [e1] at hou'; dsimp only at hou'; simp only [gB2, hou'] at q'; exact q'.elim
            | bad => rw [e1] at hou'; dsimp only at hou'; simp only [gB2, hou'] at q'; exact q'.elim
          have e6 : st5 = st4 := y6.pure rfl
          subst e6
          rw [e1] at hou'
          dsimp only at hou'
          have k6 : Kp (fun _ => False) H1 H6 := Kp0.trans k5 y6.kp
          by_cases hun1 : allUn vs1 st5 = true
          · rw [if_pos hun1] at hou'
            simp only [gB2, hou'] at q'
            obtain ⟨G1, Y1, wk1, hG1, item1⟩ := jw1.weak (M' := Own σ4 st5) fun _ z => .inr z
            have emp1 : ∀ {H' : Hp}, Kp (fun _ => False) H6 H' → Kp (Own σ4 st5) H6 H' := fun k => k.mono fun _ z => z.elim
            have cc : cnt2 ou (d :: ds.drop (i + 1)) = 1 + es.length + cnt2 ou (ds.drop (i + 1)) := by simp only [cnt2, hou']
            refine ⟨fun j k H' => k = (es.length - j) + cnt2 ou (ds.drop (i + 1)) ∧ j ≤ es.length ∧ RepS X.K T F H' σ4 st5 ∧ Kp (fun _ => False) H6 H' ∧ RV X T W mi r F σ H st Q (rBool st1 (match gB1 cont (gItem g1 ft1 fe st5) (es.drop j) with | none => none | some c => if c = cont then gB2 cont ou (gItem g1 ft1 fe) (ds.drop (i + 1)) else some c)), ⟨es.length + cnt2 ou (ds.drop (i + 1)), by omega, by simp, Nat.zero_le _, R6, Kp.refl _ _, q'⟩, ⟨?_⟩⟩
            rintro j k H7 ⟨rfl, hj, R7, k7, q7⟩
            have gg7 : G1 H7 := hG1 H7 (emp1 k7)
            by_cases hjlt : j < es.length
            · refine .inr ⟨wk1.goes j H7 hjlt gg7, fun H'' => RepS X.K T F H'' σ4 st5 ∧ Kp (fun _ => False) H6 H'' ∧ RV X T W mi r F σ H st Q (rBool st1 (match gB1 cont (gItem g1 ft1 fe st5) (es.drop (j + 1)) with | none => none | some c => if c = cont then gB2 cont ou (gItem g1 ft1 fe) (ds.drop (i + 1)) else some c)), fun H'' h => ⟨es.length - (j + 1) + cnt2 ou (ds.drop (i + 1)), by omega, rfl, hjlt, h⟩, fun x8 H8 y8 => ?_⟩
              obtain ⟨k8, t8, d8, ed8, rd8⟩ := item1 j H7 (Bd F σ4 st5) x8 H8 hjlt (emp1 k7) (fun c z => .inl z) (wk1.yields j H7 x8 H8 hjlt gg7 y8)
              have ed8' : es.drop j = d8 :: es.drop (j + 1) := by
                rw [List.drop_eq_getElem_cons hjlt]
                have := (List.getElem?_eq_getElem hjlt).symm.trans ed8
                rw [Option.some.inj this]
              rw [ed8'] at q7
              refine gturn bk1 hsl1 hun1 hg1 ht1 he (R7.kept k8 t8) rd8 ?_
              have kk : ∀ {H'' : Hp}, Kp (fun _ => False) H8 H'' → Kp (fun _ => False) H6 H'' := fun k4 => (k7.trans k8 fun _ z => z.elim).trans k4 fun _ z => z.elim
              cases ei : gItem g1 ft1 fe st5 d8 with
              | none => simp only [gB1, ei] at q7; exact q7.elim
              | some o =>
                cases o with
                | none =>
                  simp only [gB1, ei] at q7
                  exact fun H'' R'' k4 => ⟨R'', kk k4, q7⟩
                | some c =>
                  simp only [gB1, ei] at q7
                  intro H'' R'' k4
                  split
                  · rename_i hcc
                    simp only [if_pos hcc] at q7
                    exact ⟨R'', kk k4, q7⟩
                  · rename_i hcc
                    simp only [if_neg hcc] at q7
                    exact outc c H'' (fin R'') (k6.trans (kk k4) fun _ z => z.elim) q7
            · have ej : j = es.length := by omega
              subst ej
              rw [List.drop_length] at q7
              simp only [gB1, if_pos] at q7
              refine .inl ⟨wk1.stops H7 gg7, cnt2 ou (ds.drop (i + 1)), by omega, by omega, rfl, hlt, fin R7, k6.trans k7 fun _ z => z.elim, q7⟩
          · rw [if_neg hun1] at hou'
            simp only [gB2, hou'] at q'
            exact q'.elim
  · have e : i = ds.length := by omega
    subst e
    rw [List.drop_length] at q'
    exact .inl ⟨wk.stops H' g2, outc cont H' R' k' q'⟩
end
section
variable {X : Cx} {T : Addr → Prop} {W : Wx} {mi r : Bool} {fi fi1 : Ei} {g g1 : D → Sts → Option Sts} {ft ft1 : Et} {fe : Ev} {sl sl1 vs1 : List Nat} {elt tg iter tg1 iter1 : Expr} {ifs ifs1 : List Expr} {scope : Scope} {own : List (Str × Nat)} {pos p gpos : Pos} {c P : Addr} {k : Nat}
theorem VE.all2 (hr : Room k X.A) (hc : X.calm = true) (hN : X.N.Nodup) (hgl : Gl X "all") (hm : X.mg "all" = none) (TB : GxR.TabB X.base X.mg c P) (hP : T P) (hcode : X.env.code = .ref c) (ok : GenB X.N X.env.scope scope own) (hi : VI X T W mi tg iter fi) (hsl : ∀ i ∈ sl, i ∈ own.map (·.2))
    (hg : ∀ (s : Shared) (H : Hp) (C : Addr) (cl : List (Str × Addr)) (cd : Value) (fp : List Addr) (pn : List (Addr × Obj)), VG (gxOf X s H (genEnv scope cl C cd builtinsNs X.env) fp pn) T sl tg g)
    (ht : ∀ (s : Shared) (H : Hp) (C : Addr) (cl : List (Str × Addr)) (cd : Value) (fp : List Addr) (pn : List (Addr × Obj)), VTs (gxOf X s H (genEnv scope cl C cd builtinsNs X.env) fp pn) T WN false ifs ft)
    (hv : ∀ i ∈ vs1, i ∈ own.map (·.2)) (hsl1 : ∀ i ∈ sl1, i ∈ vs1)
    (hi1 : ∀ (s : Shared) (H : Hp) (C : Addr) (cl : List (Str × Addr)) (cd : Value) (fp : List Addr) (pn : List (Addr × Obj)), VI (gxOf X s H (genEnv scope cl C cd builtinsNs X.env) fp pn) T WN false tg1 iter1 fi1)
    (hg1 : ∀ (s : Shared) (H : Hp) (C : Addr) (cl : List (Str × Addr)) (cd : Value) (fp : List Addr) (pn : List (Addr × Obj)), VG (gxOf X s H (genEnv scope cl C cd builtinsNs X.env) fp pn) T sl1 tg1 g1)
    (ht1 : ∀ (s : Shared) (H : Hp) (C : Addr) (cl : List (Str × Addr)) (cd : Value) (fp : List Addr) (pn : List (Addr × Obj)), VTs (gxOf X s H (genEnv scope cl C cd builtinsNs X.env) fp pn) T WN false ifs1 ft1)
    (he : ∀ (s : Shared) (H : Hp) (C : Addr) (cl : List (Str × Addr)) (cd : Value) (fp : List Addr) (pn : List (Addr × Obj)), VE (gxOf X s H (genEnv scope cl C cd builtinsNs X.env) fp pn) T WN false false elt fe)
    (hs : ∀ v, genFold iter X.env v = pure v := by intro _; rfl) (hs1 : ∀ env x, foldedSetIterable iter1 env x = pure x := by intro _ _; rfl) (hb : bootBuiltins "all" = some (.builtin "all") := by kernel_rfl)
    (hst : starEach [.GeneratorExp elt [⟨tg, iter, ifs, 0⟩, ⟨tg1, iter1, ifs1, 0⟩] scope gpos] X.env = (false, eval (.GeneratorExp elt [⟨tg, iter, ifs, 0⟩, ⟨tg1, iter1, ifs1, 0⟩] scope gpos) X.env) :: starEach [] X.env := by rfl) {vsO : List Nat} (hvs : vsO = own.map (·.2) := by rfl) :
    VE X T W mi r (.Call (.Name "all" p) [.GeneratorExp elt [⟨tg, iter, ifs, 0⟩, ⟨tg1, iter1, ifs1, 0⟩] scope gpos] [] pos) (fGen2 vsO vs1 true fi g ft fi1 g1 ft1 fe) := by
  subst hvs
  exact ⟨pe_weak (pe_all2 hr hc hN hgl hm TB hcode ok hi.pi (fun s H C cl cd fp pn => (hg s H C cl cd fp pn).pg) (fun s H C cl cd fp pn => (ht s H C cl cd fp pn).pt) hv (fun s H C cl cd fp pn => (hi1 s H C cl cd fp pn).pi) (fun s H C cl cd fp pn => (hg1 s H C cl cd fp pn).pg) (fun s H C cl cd fp pn => (ht1 s H C cl cd fp pn).pt) (fun s H C cl cd fp pn => (he s H C cl cd fp pn).pe) hs hs1 hb hst) fun σ H Q ⟨F, st, R, q⟩ =>
    gen2_read (fun _ _ _ z => z) hP (hg X.s_0 (fun _ => none) 0 [] .none [] []).bk hsl (hg1 X.s_0 (fun _ => none) 0 [] .none [] []).bk hsl1 (fun _ _ _ _ z => z) (fun _ _ _ z => z) (fun _ _ _ z => z) (fun _ _ _ _ z => z) (fun _ _ _ z => z) (fun _ _ _ z => z) R q⟩
end
end Vs

set_option Elab.async false
set_option linter.all false
set_option maxRecDepth 100000
set_option maxHeartbeats 4000000
namespace Vs
open PySem PySem.Spec PyProof.Rows L2

section
variable {X : Cx} {T : Addr → Prop} {W : Wx} {m r : Bool} {pos p p2 : Pos} {x : Str}
theorem VE.bool {b : Bool} {j : Nat} : VE X T W false false (.Constant (.bool b) j pos) (vC (.bool b)) := .cst pe_bl fun _ _ _ => .bl b
/-- a constant of the module -/
theorem VE.glob {v : V} {u : Value} {d : D} (hg : Gl X x) (hm : X.mg x = some u) (rv : RelV v u) (h : ∀ K B H, Rep K B H d v) (hd : (x == ("__debug__" : Str)) = false := by decide) : VE X T W false false (.Name x pos) (vC d) := .cst (pe_glob hg hm rv hd) h
theorem VE.globI {i : Int} {t : Tok} (hg : Gl X x) (hm : X.mg x = some (.int i t)) (hd : (x == ("__debug__" : Str)) = false := by decide) : VE X T W false false (.Name x pos) (vC (.int i)) := VE.glob (v := .int i) hg hm ⟨t, rfl⟩ (fun _ _ _ => .int i) hd
theorem VE.globS {z : Str} {t : Tok} (hg : Gl X x) (hm : X.mg x = some (.str z t)) (hd : (x == ("__debug__" : Str)) = false := by decide) : VE X T W false false (.Name x pos) (vC (.str z)) := VE.glob (v := .str z) hg hm ⟨t, rfl⟩ (fun _ _ _ => .str z) hd

theorem CallR.or {f : Value} {r1 r2 : List V → Hp → VK → Prop} (h1 : CallR X f r1) (h2 : CallR X f r2) : CallR X f (fun xs H Q => r1 xs H Q ∨ r2 xs H Q) := fun pins s σ H xs us Q I rv h => h.elim (h1 pins s σ H xs us Q I rv) (h2 pins s σ H xs us Q I rv)

/-! ### times -/
def mulD (x y : D) : Option D := match x, y with
  | .int i, .int j => if mulOk i j = true then some (.int (i * j)) else none
  | .tuple ds, .int k => if ds ≠ [] ∧ 2 ≤ k ∧ k ≤ 1000 ∧ ds.length ≤ 1000 then some (.tuple (List.replicate k.toNat ds).flatten) else none
  | .list ds, .int k => if -(2 ^ 63) ≤ k ∧ k < 2 ^ 63 ∧ ds.length * k.toNat ≤ sizeLine then some (.list (List.replicate k.toNat ds).flatten) else none
  | _, _ => none
def rMulL : R2 := fun x y H Q => ∃ l k xs, x = .ref l ∧ y = .int k ∧ Rd H l (.lst xs) ∧ -(2 ^ 63) ≤ k ∧ k < 2 ^ 63 ∧ xs.length * k.toNat ≤ sizeLine ∧
  ∀ p, H p = none → Q (.ref p) (upd H p (.lst (List.replicate k.toNat xs).flatten))
/-- a list that is locked is copied in the abstract heap only for the rule's sake -/
theorem op_repR : OpR X (binaryOp .Mult) rMulL := by
  intro pins s σ H x y v u Q I rx ry h
  obtain ⟨l, k, xs, rfl, rfl, hH, h1, h2, hz, q⟩ := h
  cases rx
  obtain ⟨t, rfl⟩ := ry
  obtain ⟨z, its, n, r, hl, e⟩ := rdLst (P := X.prog) (w := X.w) I hH
  have hlen : its.toArray.size * k.toNat ≤ sizeLine := by rw [List.size_toArray, ← hl]; exact hz
  have hcap : ¬ its.toArray.size * k.toNat > (2 ^ 63 - 1) / 8 := by
    have : (sizeLine : Nat) ≤ (2 ^ 63 - 1) / 8 := by decide
    omega
  have hfit : ¬ (!Builtin.List.listFitsIndex k) = true := by
    rw [fitsIndex_both h1 h2]
    exact Bool.false_ne_true
  have hlong : ¬ Builtin.List.listTooLong (its.toArray.size * k.toNat) = true := by
    rw [notLongL hlen]
    exact Bool.false_ne_true
  have hnew : List.foldl (fun x1 x2 => x1 ++ x2) #[] (List.replicate (if its.toArray.isEmpty = true then 0 else k.toNat) its.toArray) = (List.replicate k.toNat its).flatten.toArray := by
    have f0 : ∀ m : Nat, List.foldl (fun x1 x2 => x1 ++ x2) #[] (List.replicate m its.toArray) = (List.replicate m its).flatten.toArray := fun m => by
      have := foldl_rep its m []
      rw [List.nil_append] at this
      exact this
    rw [f0]
    cases its with
    | nil => simp
    | cons a r' => rw [if_neg (by simp)]
  refine wpAny_binaryOp_repeat_ref (T := "list") (U := "int") (by decide) ⟨_, e, rfl⟩ (fun s' => typeIs_int s' k t) noFill_list_mul F.fills_int_mul F.slot_int_rmul repeat_list F.slot_int_index.lookup
    (call_meets F.slot_int_rmul (typeIs_int s k t) F.entry_int_rmul (F.args_int_rmul_2 _ _) (int___rmul___int_list k t l its.toArray n)
      ⟨e, rfl, ⟨_, e, rfl⟩, call_meets F.slot_list_mul ⟨_, e, rfl⟩ F.entry_list_mul (F.args_list_mul_2 _ _) (AutoListH.list___mul___list_int_3 l its.toArray n k t hfit hcap hlong) ⟨e, ?_⟩⟩)
  rw [hnew]
  exact ⟨.ref _, _, I.lnew (t' := s.toks) (r.rep k.toNat) (by rw [PyProof.Rows.lm_len_rep_flat, Nat.mul_comm]; exact hz), rfl, q _ I.fresh⟩
def rMulA (K : PySem.W.Frag) : R2 := fun x y H Q => rI CMulX (fun i j => .int (i * j)) x y H Q ∨ rRepT K x y H Q ∨ rMulL x y H Q
theorem op_mulA : OpR X (binaryOp .Mult) (rMulA X.K) := op_mulX.or (op_repT.or op_repR)
theorem v_mul {r1 r2 : Bool} : OpV X T r1 r2 (rMulA X.K) mulD := by
  intro F σ H st x y dx dy d Q R q1 q2 e k
  unfold mulD at e
  split at e
  · split at e
    · cases e
      rename_i i j h
      have h' := of_decide_eq_true h
      exact .inl ⟨i, j, q1.isI, q2.isI, (by show CMulX i j; unfold CMulX; omega), k.flat R (.int _)⟩
    · cases e
  · split at e
    · cases e
      rename_i ds kk h
      obtain ⟨a, us, rfl, s1, p1⟩ := q1.isT
      have hl := p1.length
      refine .inr (.inl ⟨a, kk, us, rfl, q2.isI, SqT.of s1, fun z => ?_, h.2.1, h.2.2.1, by omega, fun p hp => k.new R hp (.tup upd_same ((p1.rep _).upd hp))⟩)
      subst z
      cases p1
      exact h.1 rfl
    · cases e
  · split at e
    · cases e
      rename_i ds kk h
      obtain ⟨a, us, rfl, s1, p1⟩ := q1.isL
      exact .inr (.inr ⟨a, kk, us, rfl, q2.isI, s1, h.1, h.2.1, by rw [← p1.length]; exact h.2.2, fun p hp => k.new R hp (.lst (.inl upd_same) (R.bd_new hp) ((p1.rep _).upd hp))⟩)
    · cases e
  · cases e

/-! ### len -/
def lenD : List D → Option D
  | [.list ds] => some (.int ds.length)
  | [.tuple ds] => some (.int ds.length)
  | [.str z] => if szL z.length = true then some (.int z.length) else none
  | _ => none
/-- len of a dict that is not locked -/
def rLen (K : PySem.W.Frag) : List V → Hp → VK → Prop := fun xs H Q => (∃ p ys, xs = [.ref p] ∧ (SqL K H p ys ∨ SqT K H p ys) ∧ Q (.int ys.length) H) ∨ ∃ z, xs = [.str z] ∧ z.length ≤ sizeLine ∧ Q (.int z.length) H
theorem cr_len : CallR X (.builtin "len") (rLen X.K) := call_len_seq.or call_len_str
theorem v_len : CallV X T r (rLen X.K) lenD := by
  intro F σ H st xs ds d Q R q e k
  unfold lenD at e
  split at e
  · cases e
    obtain ⟨v, rfl, q2⟩ := RepL.one q
    obtain ⟨a, us, rfl, s1, p1⟩ := q2.isL
    exact .inl ⟨a, us, rfl, .inl (.inl s1), k.flat R (by rw [p1.length]; exact .int _)⟩
  · cases e
    obtain ⟨v, rfl, q2⟩ := RepL.one q
    obtain ⟨a, us, rfl, s1, p1⟩ := q2.isT
    exact .inl ⟨a, us, rfl, .inr (SqT.of s1), k.flat R (by rw [p1.length]; exact .int _)⟩
  · split at e
    · cases e
      rename_i h
      obtain ⟨v, rfl, q2⟩ := RepL.one q
      exact .inr ⟨_, by rw [q2.isS], of_decide_eq_true h, k.flat R (.int _)⟩
    · cases e
  · cases e
/-! ### abs, int, max, min of ints -/
def absD : List D → Option D
  | [.int i] => some (.int (if i < 0 then -i else i))
  | _ => none
theorem v_abs : CallV X T r (fun xs H Q => ∃ i, xs = [.int i] ∧ Q (.int (if i < 0 then -i else i)) H) absD := by
  intro F σ H st xs ds d Q R q e k
  unfold absD at e
  split at e
  · cases e
    obtain ⟨v, rfl, q2⟩ := RepL.one q
    exact ⟨_, by rw [q2.isI], k.flat R (.int _)⟩
  · cases e
def intD : List D → Option D
  | [.int i] => some (.int i)
  | [.bool b] => some (.int (if b then 1 else 0))
  | _ => none
theorem v_int : CallV X T r (fun xs H Q => (∃ i, xs = [.int i] ∧ Q (.int i) H) ∨ ∃ k, xs = [.bl k] ∧ Q (.int (if k then 1 else 0)) H) intD := by
  intro F σ H st xs ds d Q R q e k
  unfold intD at e
  split at e
  · cases e
    obtain ⟨v, rfl, q2⟩ := RepL.one q
    exact .inl ⟨_, by rw [q2.isI], k.flat R (.int _)⟩
  · cases e
    obtain ⟨v, rfl, q2⟩ := RepL.one q
    exact .inr ⟨_, by rw [q2.isB], k.flat R (.int _)⟩
  · cases e
def max2D : List D → Option D
  | [.int i, .int j] => some (.int (if j > i then j else i))
  | _ => none
def min2D : List D → Option D
  | [.int i, .int j] => some (.int (if j < i then j else i))
  | _ => none
theorem v_max2 : CallV X T r (fun xs H Q => ∃ i j, xs = [.int i, .int j] ∧ Q (.int (if j > i then j else i)) H) max2D := by
  intro F σ H st xs ds d Q R q e k
  unfold max2D at e
  split at e
  · cases e
    obtain ⟨v, u, rfl, q2, q3⟩ := RepL.two q
    exact ⟨_, _, by rw [q2.isI, q3.isI], k.flat R (.int _)⟩
  · cases e
theorem v_min2 : CallV X T r (fun xs H Q => ∃ i j, xs = [.int i, .int j] ∧ Q (.int (if j < i then j else i)) H) min2D := by
  intro F σ H st xs ds d Q R q e k
  unfold min2D at e
  split at e
  · cases e
    obtain ⟨v, u, rfl, q2, q3⟩ := RepL.two q
    exact ⟨_, _, by rw [q2.isI, q3.isI], k.flat R (.int _)⟩
  · cases e
/-! ### sum of a list of ints -/
def intsOf : List D → Option (List Int)
  | [] => some []
  | .int i :: r => (intsOf r).map (i :: ·)
  | _ => none
theorem intsOf_some : ∀ {ds : List D} {ns : List Int}, intsOf ds = some ns → ds = ns.map .int
  | [], ns, h => by cases h; rfl
  | .int i :: r, ns, h => by
    cases e : intsOf r with
    | none => simp [intsOf, e] at h
    | some ms =>
      simp [intsOf, e] at h
      subst h
      rw [intsOf_some e]; rfl
  | .none :: _, _, h => by cases h
  | .bool _ :: _, _, h => by cases h
  | .str _ :: _, _, h => by cases h
  | .list _ :: _, _, h => by cases h
  | .tuple _ :: _, _, h => by cases h
  | .dict _ :: _, _, h => by cases h
theorem intsOf_map (ns : List Int) : intsOf (ns.map .int) = some ns := by
  induction ns with
  | nil => rfl
  | cons n ns ih => simp [intsOf, ih]
theorem RepA.isInts {K : PySem.W.Frag} {B : Addr → Prop} {H : Hp} : ∀ {ns : List Int} {vs : List V}, RepA K B H (ns.map .int) vs → vs = ns.map .int
  | [], _, .nil => rfl
  | n :: ns, _, .cons a b => by cases a; rw [RepA.isInts b]; rfl
def sumD : List D → Option D
  | [.list ds] => (intsOf ds).map fun ns => .int ns.sum
  | _ => none
theorem v_sum : CallV X T r (rSum X.K) sumD := by
  intro F σ H st xs ds d Q R q e k
  unfold sumD at e
  split at e
  · rename_i es
    cases ei : intsOf es with
    | none => rw [ei] at e; cases e
    | some ns =>
      rw [ei] at e
      cases e
      obtain ⟨v, rfl, q2⟩ := RepL.one q
      obtain ⟨a, us, rfl, s1, p1⟩ := q2.isL
      rw [intsOf_some ei] at p1
      exact ⟨a, ns, rfl, by rw [← p1.isInts]; exact .inl s1, k.flat R (.int _)⟩
  · cases e
/-! ### list, tuple -/
def listD : List D → Option D
  | [.list ds] => some (.list ds)
  | [.tuple ds] => some (.list ds)
  | _ => none
theorem v_list : CallF X T r (fun xs H Q => ∃ p ys, xs = [.ref p] ∧ (SqL X.K H p ys ∨ SqT X.K H p ys) ∧ ∀ l, H l = none → Q (.ref l) (upd H l (.lst ys))) listD := by
  intro F σ H st xs ds d Q R q e k
  unfold listD at e
  split at e
  · cases e
    obtain ⟨v, rfl, q2⟩ := RepL.one q
    obtain ⟨a, us, rfl, s1, p1⟩ := q2.isL
    exact ⟨a, us, rfl, .inl (.inl s1), fun l hl => k _ l hl (.lst p1)⟩
  · cases e
    obtain ⟨v, rfl, q2⟩ := RepL.one q
    obtain ⟨a, us, rfl, s1, p1⟩ := q2.isT
    exact ⟨a, us, rfl, .inr (SqT.of s1), fun l hl => k _ l hl (.lst p1)⟩
  · cases e
def tupleD : List D → Option D
  | [.list ds] => some (.tuple ds)
  | [.tuple ds] => some (.tuple ds)
  | _ => none
theorem v_tuple : CallV X T r (fun xs H Q => ∃ p ys, xs = [.ref p] ∧ ((SqL X.K H p ys ∧ ∀ l, H l = none → Q (.ref l) (upd H l (.tup ys))) ∨ (SqT X.K H p ys ∧ Q (.ref p) H))) tupleD := by
  intro F σ H st xs ds d Q R q e k
  unfold tupleD at e
  split at e
  · cases e
    obtain ⟨v, rfl, q2⟩ := RepL.one q
    obtain ⟨a, us, rfl, s1, p1⟩ := q2.isL
    exact ⟨a, us, rfl, .inl ⟨.inl s1, fun l hl => k.new R hl (.tup upd_same (p1.upd hl))⟩⟩
  · cases e
    obtain ⟨v, rfl, q2⟩ := RepL.one q
    obtain ⟨a, us, rfl, s1, p1⟩ := q2.isT
    exact ⟨a, us, rfl, .inr ⟨SqT.of s1, k.flat R (.tup s1 p1)⟩⟩
  · cases e
end
end Vs

set_option Elab.async false
set_option linter.all false
set_option maxRecDepth 100000
set_option maxHeartbeats 4000000
namespace Vs
open PySem PySem.Spec PyProof.Rows L2

section
variable {X : Cx} {T F : Addr → Prop} {W : Wx} {m r : Bool} {σ : St} {H : Hp} {st : Sts} {pos p p2 : Pos} {x : Str} {e : Expr} {f : Ev}
/-! ### isinstance(x, T), T a built-in type -/
def tyName : D → Option String
  | .none => some "NoneType"
  | .bool _ => some "bool"
  | .int _ => some "int"
  | .str _ => some "str"
  | .list _ => some "list"
  | .tuple _ => some "tuple"
  | .dict _ => none
theorem RepR.tyX {K : PySem.W.Frag} {B : Addr → Prop} {d : D} {v : V} {n : String} (h : RepR r K B H d v) (e : tyName d = some n) : TyX K H v (.type n) := by
  rcases h with h | ⟨_, a, rfl, h⟩
  · cases h with
    | non => cases e; exact .base .non
    | bl b => cases e; exact .base (.bl b)
    | int i => cases e; exact .base (.int i)
    | str z => cases e; exact .base (.str z)
    | tup s q =>
      cases e
      exact .base (.tup s)
    | lst s n q =>
      cases e
      rcases s with s | ⟨o, s⟩
      · exact .base (.lst s)
      · exact .base (.frz s)
    | dK _ _ _ _ => cases e
    | dT _ _ _ _ => cases e
  · cases h with
    | lst s q => cases e; exact .base (.lst s)
    | dK _ _ _ => cases e
    | dT _ _ _ => cases e
/-- what isinstance tells of data -/
def isTy (t : String) (d : D) : Option Bool := (tyName d).bind fun n => kitB n t
def isF (t : String) (f : Ev) : Ev := fun st => (f st).bind fun d st1 => ofO ((isTy t d).map .bool) st1
theorem VE.isinst {t : String} {tn : Str} (hg : Gl X "isinstance") (hm : X.mg "isinstance" = none) (hgt : Gl X tn) (hmt : X.mg tn = none) (hbt : bootBuiltins tn = some (.type t)) (he : VE X T W m r e f)
    (hn : tn ≠ "__name__" := by decide) (hd : (tn == ("__debug__" : Str)) = false := by decide)
    (hs : starEach [e, .Name tn p2] X.env = (false, eval e X.env) :: starEach [.Name tn p2] X.env := by rfl) (hs2 : starEach [.Name tn p2] X.env = (false, eval (.Name tn p2) X.env) :: starEach [] X.env := by rfl) (hpl : (backTo pos (starEach [.Name tn p2] X.env)).any (·.1) = false := by rfl) :
    VE X T W m false (.Call (.Name "isinstance" p) [e, .Name tn p2] [] pos) (isF t f) :=
  ⟨pe_weak (pe_callB call_isi hg hm boot_isinstance (pa_cons he.pe (pa_cons (pe_bltn (v := .ty t) hgt hmt hbt rfl hn hd) pa_nil hs2) hs) (by decide) (by decide) hs hpl) fun σ H Q ⟨F, st, R, q⟩ => by
    refine tG.first R q fun d st1 v H1 e1 R1 y1 q1 h1 => ?_
    obtain ⟨b, eb, q⟩ := RG.fin y1 h1 id
    cases et : tyName d with
    | none => simp [isTy, et] at eb
    | some n =>
      simp only [isTy, et, Option.bind_some, Option.map_eq_some_iff] at eb
      obtain ⟨c, ek, rfl⟩ := eb
      exact ⟨v, .ty t, .type n, .type t, c, rfl, .ty t, q1.tyX et, kit_ty ek, q.flat R1 (.bl c)⟩⟩

/-! ### sorted, min, max of data that are alike -/
def alikes (ds : List D) : Bool := ds.all fun d => ds.all fun e => PySem.W.alike d e
def isTup1 : D → Bool
  | .tuple (_ :: _) => true
  | _ => false
def noTN : D → Bool
  | .tuple _ => false
  | .none => false
  | _ => true
def noN : D → Bool
  | .none => false
  | _ => true
def sortOk (ds : List D) : Bool := alikes ds && (ds.all isTup1 || ds.all noTN) && SeqAt.shaped (.list ds)
theorem alikes_all {ds : List D} (h : alikes ds = true) : ∀ d ∈ ds, ∀ e ∈ ds, PySem.W.alike d e = true := fun d hd e he => List.all_eq_true.mp (List.all_eq_true.mp h d hd) e he
theorem shaped_items {ds : List D} (h : SeqAt.shaped (.list ds) = true) : PyData.canLayAll0 ds = true ∧ ∀ d ∈ ds, d.depth ≤ 64 := by
  have h1 := SeqAt.canLay_of_shaped h
  have h2 := SeqAt.depth_of_shaped h
  refine ⟨by simpa [PyData.canLay0] using h1, fun d hd => ?_⟩
  have h2 : PyData.depthAll ds + 1 ≤ 64 := by simpa [PyData.depth] using h2
  have : ∀ {es : List D}, d ∈ es → d.depth ≤ PyData.depthAll es := by
    intro es he
    induction es with
    | nil => cases he
    | cons x xs ih =>
      rw [PyData.depthAll]
      rcases List.mem_cons.mp he with e | he
      · rw [e]; exact Nat.le_max_left _ _
      · exact Nat.le_trans (ih he) (Nat.le_max_right _ _)
  have := this hd
  omega
abbrev sorts (ds : List D) : List D := ds.mergeSort (PySem.W.dataLe false id)
def sortedD : List D → Option D
  | [.list ds] => if sortOk ds = true then some (.list (sorts ds)) else none
  | _ => none
def rSortA (K : PySem.W.Frag) : List V → Hp → VK → Prop := fun vs H Q => ∃ (a : Addr) (us : List V) (ds : List D), vs = [.ref a] ∧ SqL K H a us ∧ DpAll K H us ds ∧ sortOk ds = true ∧
  ∀ (zs : List (D × V)) (p : Addr), zs = (ds.zip us).mergeSort (PySem.W.dataLe false Prod.fst) → H p = none → Q (.ref p) (upd H p (.lst (zs.map Prod.snd)))
theorem dp_each {K : PySem.W.Frag} {pins : List (Addr × Obj)} {s : Shared} (I : Inv X pins σ H s) : ∀ {ds : List D} {us : List V} {its : List Value}, DpAll X.K H us ds → Vals us its →
    PySem.W.EachIs (fun (v : Value) (b : D × V) => RelV b.2 v) its (ds.zip us) ∧ PySem.W.EachIs (fun (v : Value) (b : D × V) => ∃ as, Reads s.heap v (Prod.fst b) as) its (ds.zip us)
  | [], _, _, h, r => by cases h; cases r; exact ⟨.nil, .nil⟩
  | d :: ds, _, _, h, r => by
    cases h with
    | cons h1 h2 =>
      cases r with
      | cons r1 r2 =>
        obtain ⟨a, b⟩ := dp_each (K := K) I h2 r2
        exact ⟨.cons r1 a, .cons (Dp.reads I d _ _ h1 r1) b⟩
theorem each_vals : ∀ {zs : List (D × V)} {out : List Value}, PySem.W.EachIs (fun (v : Value) (b : D × V) => RelV b.2 v) out zs → Vals (zs.map Prod.snd) out
  | _, _, .nil => .nil
  | _, _, .cons h t => .cons h (each_vals t)
theorem dp_length {K : PySem.W.Frag} : ∀ {ds : List D} {us : List V}, DpAll K H us ds → us.length = ds.length
  | _, _, .nil => rfl
  | _, _, .cons _ t => by rw [List.length_cons, List.length_cons, dp_length t]
theorem cr_sortA (hu : X.A.units + 128 < cLine) : CallR X (.builtin "sorted") (rSortA X.K) := by
  intro pins s σ H vs us Q I rv h
  obtain ⟨a, us', ds, rfl, hs, hd, ok, q⟩ := h
  obtain ⟨its, ru, hl, _⟩ := I.list hs
  rw [Vals.ref1 rv]
  unfold sortOk at ok
  simp only [Bool.and_eq_true, Bool.or_eq_true] at ok
  obtain ⟨⟨ok1, ok2⟩, ok3⟩ := ok
  obtain ⟨s1, s2⟩ := shaped_items ok3
  have hlen := dp_length hd
  have em : (ds.zip us').map Prod.fst = ds := List.map_fst_zip (by omega)
  obtain ⟨e1, e2⟩ := dp_each (K := X.K) I hd ru
  have hz : us'.length ≤ sizeLine := by
    obtain ⟨its', _, _, hz'⟩ := I.list hs
    exact hz'
  refine PySem.W.sorted_data (bs := ds.zip us') (enc := Prod.fst) hl.isList e1 e2 ?_ ?_ (by rw [List.length_zip]; omega) (fun b hb => ?_) fun out ho eo => ?_
  · rw [em]; exact fun d hd d' hd' => alikes_all ok1 d hd d' hd'
  · rw [em]
    rcases ok2 with o | o
    · refine .inl fun d hd => ?_
      have := List.all_eq_true.mp o d hd
      unfold isTup1 at this
      split at this
      · exact ⟨_, _, rfl⟩
      · cases this
    · refine .inr fun d hd => ?_
      have := List.all_eq_true.mp o d hd
      unfold noTN at this
      split at this
      · cases this
      · cases this
      · exact ⟨by intro z; simp_all, fun xs z => by simp_all⟩
  · have := s2 b.1 (List.of_mem_zip hb).1
    show X.A.units + 2 + b.1.depth < cLine
    omega
  · obtain ⟨ep, he'⟩ := PyProof.Rows.sortedAll_at s.heap its out.toArray
    have rv' := each_vals eo
    have hzl : (((ds.zip us').mergeSort (PySem.W.dataLe false Prod.fst)).map Prod.snd).length ≤ sizeLine := by rw [List.length_map, List.length_mergeSort, List.length_zip]; omega
    exact ⟨.ref _, upd H (s.heap.objs.size + 1) (.lst (((ds.zip us').mergeSort (PySem.W.dataLe false Prod.fst)).map Prod.snd)), I.laid (t' := s.toks) (fun _ _ => PyProof.Rows.sortedAll_old) (Nat.le_succ _) ⟨hzl, out, ep, rv', he'⟩, rfl, q _ _ rfl (I.hok.fresh (Nat.le_succ _))⟩
theorem repA_zip {K : PySem.W.Frag} {B : Addr → Prop} : ∀ {ds : List D} {us : List V}, RepA K B H ds us → ∀ z ∈ ds.zip us, Rep K B H z.1 z.2
  | _, _, .nil, z, h => by simp at h
  | _, _, .cons a b, z, h => by
    rw [List.zip_cons_cons] at h
    rcases List.mem_cons.mp h with e | h
    · rw [e]; exact a
    · exact repA_zip b z h
theorem repA_of {K : PySem.W.Frag} {B : Addr → Prop} : ∀ {zs : List (D × V)}, (∀ z ∈ zs, Rep K B H z.1 z.2) → RepA K B H (zs.map Prod.fst) (zs.map Prod.snd)
  | [], _ => .nil
  | z :: zs, h => .cons (h z List.mem_cons_self) (repA_of fun w hw => h w (List.mem_cons_of_mem _ hw))
theorem sort_fst {ds : List D} {us : List V} (h : us.length = ds.length) : ((ds.zip us).mergeSort (PySem.W.dataLe false Prod.fst)).map Prod.fst = sorts ds := by
  have em : (ds.zip us).map Prod.fst = ds := List.map_fst_zip (by omega)
  have := List.map_mergeSort (r := PySem.W.dataLe false (Prod.fst : D × V → D)) (s := PySem.W.dataLe false id) (f := Prod.fst) (l := ds.zip us) fun a _ b _ => rfl
  rw [this, em]
theorem v_sorted : CallF X T r (rSortA X.K) sortedD := by
  intro F σ H st xs ds d Q R q e k
  unfold sortedD at e
  split at e
  · split at e
    · cases e
      rename_i es ok
      obtain ⟨v, rfl, q2⟩ := RepL.one q
      obtain ⟨a, us, rfl, s1, p1⟩ := q2.isL
      have ok' := ok
      unfold sortOk at ok'
      simp only [Bool.and_eq_true] at ok'
      refine ⟨a, us, es, rfl, .inl s1, p1.dp (shaped_items ok'.2).1, ok, fun zs pp ez hp => k _ pp hp ?_⟩
      have hz : RepA X.K (Bd F σ st) H (zs.map Prod.fst) (zs.map Prod.snd) := repA_of fun z hz => repA_zip p1 z (by rw [ez] at hz; exact List.mem_mergeSort.mp hz)
      rw [ez, sort_fst p1.length.symm, ← ez] at hz
      exact .lst hz
    · cases e
  · cases e
/-! min, max -/
def minOk (ds : List D) : Bool := alikes ds && ds.all noN && SeqAt.shaped (.list ds)
def minLD : List D → Option D
  | [.list (d :: ds)] => if minOk (d :: ds) = true then some (PySem.W.minD d ds) else none
  | [.tuple (d :: ds)] => if minOk (d :: ds) = true then some (PySem.W.minD d ds) else none
  | _ => none
def maxLD : List D → Option D
  | [.list (d :: ds)] => if minOk (d :: ds) = true then some (PySem.W.maxD d ds) else none
  | [.tuple (d :: ds)] => if minOk (d :: ds) = true then some (PySem.W.maxD d ds) else none
  | _ => none
/-- min(x), max(x): the place where it stands -/
def rBest (K : PySem.W.Frag) (best : D → List D → D) : List V → Hp → VK → Prop := fun vs H Q => ∃ (a : Addr) (us : List V) (d : D) (ds : List D), vs = [.ref a] ∧ (SqL K H a us ∨ SqT K H a us) ∧ DpAll K H us (d :: ds) ∧ minOk (d :: ds) = true ∧
  ∀ (i : Nat) (v : V), us[i]? = some v → (d :: ds)[i]? = some (best d ds) → Q v H
theorem minOk_of {ds : List D} (h : minOk ds = true) : PySem.W.AlikeAll ds ∧ PyData.depthAll ds ≤ 63 := by
  unfold minOk at h
  simp only [Bool.and_eq_true] at h
  obtain ⟨⟨h1, h2⟩, h3⟩ := h
  refine ⟨⟨alikes_all h1, fun x hx z => ?_⟩, ?_⟩
  · have := List.all_eq_true.mp h2 x hx
    rw [z] at this; cases this
  · have h2 := SeqAt.depth_of_shaped h3
    have h2 : PyData.depthAll ds + 1 ≤ 64 := by simpa [PyData.depth] using h2
    omega
theorem readsAll_get {h : Heap} : ∀ {vs : List Value} {xs : List D} {as : List Addr}, ReadsAll h vs xs as → ∀ (i : Nat) (v : Value), vs[i]? = some v → ∃ d bs, xs[i]? = some d ∧ Reads h v d bs
  | _, _, _, .nil, _, _, hv => by simp at hv
  | _, _, _, .cons r rs, 0, v, hv => by
    have e := Option.some.inj (show some _ = some v from hv)
    subst e
    exact ⟨_, _, rfl, r⟩
  | _, _, _, .cons r rs, i + 1, v, hv => by
    obtain ⟨d, bs, a, b⟩ := readsAll_get rs i v (by simpa using hv)
    exact ⟨d, bs, by simpa using a, b⟩
theorem best_fin {best : D → List D → D} {pins : List (Addr × Obj)} {s : Shared} {Q : VK} {us : List V} {its : List Value} {d : D} {ds : List D} {as : List Addr} (I : Inv X pins σ H s) (rv : Vals us its) (hr : ReadsAll s.heap its (d :: ds) as)
    (q : ∀ (i : Nat) (v : V), us[i]? = some v → (d :: ds)[i]? = some (best d ds) → Q v H) {i : Nat} {v : Value} {h' : Heap} {tk : Nat} {bs : List Addr} (e : its[i]? = some v) (rb : Reads h' v (best d ds) bs) (k : ∀ b o, s.heap.get? b = some o → h'.get? b = some o) :
    ∃ (x : V) (H' : Hp), Inv X pins σ H' { s with heap := h', toks := tk } ∧ RelV x v ∧ Q x H' := by
  obtain ⟨d', bs', e1, r1⟩ := readsAll_get hr i v e
  have ed : best d ds = d' := (reads_det (fun b o e _ => k b o e) r1 rb).1
  have hl := rv.length
  obtain ⟨x, ex⟩ : ∃ x, us[i]? = some x := by
    have := (List.getElem?_eq_some_iff.mp e).1
    exact ⟨us[i]'(by omega), List.getElem?_eq_getElem _⟩
  obtain ⟨u, eu, ru⟩ := rv.get ex
  rw [e] at eu
  cases eu
  exact ⟨x, H, I.kept k, ru, q i x ex (by rw [ed]; exact e1)⟩
theorem cr_minA (hc : X.calm = true) (hu : X.A.units + 128 < cLine) : CallR X (.builtin "min") (rBest X.K PySem.W.minD) := by
  intro pins s σ H vs us Q I rv h
  obtain ⟨a, us', d, ds, rfl, hs, hd, ok, q⟩ := h
  obtain ⟨ok1, ok2⟩ := minOk_of ok
  rw [Vals.ref1 rv]
  rcases hs with hs | hs
  · obtain ⟨its, ru, hl, _⟩ := I.list hs
    obtain ⟨as, hr⟩ := Dp.readsAll I _ _ its hd ru
    refine PySem.W.min_list_data (I.ok.hd hc) hl.isList (by rw [List.toList_toArray]; exact hr) ok1 (by omega) fun i v h' tk bs e rb k => ?_
    exact best_fin I ru hr q (by simpa using e) rb k
  · obtain ⟨its, ru, hl, _⟩ := I.tuple hs
    obtain ⟨as, hr⟩ := Dp.readsAll I _ _ its hd ru
    refine PySem.W.min_tuple_data (I.ok.hd hc) (show s.heap.IsTuple a its.toArray from hl) (by rw [List.toList_toArray]; exact hr) ok1 (by omega) fun i v h' tk bs e rb k => ?_
    exact best_fin I ru hr q (by simpa using e) rb k
theorem cr_maxA (hc : X.calm = true) (hu : X.A.units + 128 < cLine) : CallR X (.builtin "max") (rBest X.K PySem.W.maxD) := by
  intro pins s σ H vs us Q I rv h
  obtain ⟨a, us', d, ds, rfl, hs, hd, ok, q⟩ := h
  obtain ⟨ok1, ok2⟩ := minOk_of ok
  rw [Vals.ref1 rv]
  rcases hs with hs | hs
  · obtain ⟨its, ru, hl, _⟩ := I.list hs
    obtain ⟨as, hr⟩ := Dp.readsAll I _ _ its hd ru
    refine PySem.W.max_list_data (I.ok.hd hc) hl.isList (by rw [List.toList_toArray]; exact hr) ok1 (by omega) fun i v h' tk bs e rb k => ?_
    exact best_fin I ru hr q (by simpa using e) rb k
  · obtain ⟨its, ru, hl, _⟩ := I.tuple hs
    obtain ⟨as, hr⟩ := Dp.readsAll I _ _ its hd ru
    refine PySem.W.max_tuple_data (I.ok.hd hc) (show s.heap.IsTuple a its.toArray from hl) (by rw [List.toList_toArray]; exact hr) ok1 (by omega) fun i v h' tk bs e rb k => ?_
    exact best_fin I ru hr q (by simpa using e) rb k
theorem minOk_canLay {ds : List D} (h : minOk ds = true) : PyData.canLayAll0 ds = true := by
  unfold minOk at h
  simp only [Bool.and_eq_true] at h
  exact (shaped_items h.2).1
theorem v_best {best : D → List D → D} {go : List D → Option D} (hgo : ∀ xs e, go xs = some e → ∃ d ds, (xs = [.list (d :: ds)] ∨ xs = [.tuple (d :: ds)]) ∧ minOk (d :: ds) = true ∧ e = best d ds) : CallV X T r (rBest X.K best) go := by
  intro F σ H st xs ds d Q R q e k
  obtain ⟨y, ys, hx, ok, rfl⟩ := hgo _ _ e
  rcases hx with rfl | rfl
  · obtain ⟨v, rfl, q2⟩ := RepL.one q
    obtain ⟨a, us, rfl, s1, p1⟩ := q2.isL
    refine ⟨a, us, y, ys, rfl, .inl (.inl s1), p1.dp (minOk_canLay ok), ok, fun i v ev ed => k.flat R ?_⟩
    obtain ⟨d', e1, e2⟩ := p1.get ev
    rw [ed] at e1; cases e1
    exact e2
  · obtain ⟨v, rfl, q2⟩ := RepL.one q
    obtain ⟨a, us, rfl, s1, p1⟩ := q2.isT
    refine ⟨a, us, y, ys, rfl, .inr (SqT.of s1), p1.dp (minOk_canLay ok), ok, fun i v ev ed => k.flat R ?_⟩
    obtain ⟨d', e1, e2⟩ := p1.get ev
    rw [ed] at e1; cases e1
    exact e2
theorem v_minL : CallV X T r (rBest X.K PySem.W.minD) minLD := v_best fun xs e h => by
  unfold minLD at h
  split at h
  · split at h
    · cases h; exact ⟨_, _, .inl rfl, by assumption, rfl⟩
    · cases h
  · split at h
    · cases h; exact ⟨_, _, .inr rfl, by assumption, rfl⟩
    · cases h
  · cases h
theorem v_maxL : CallV X T r (rBest X.K PySem.W.maxD) maxLD := v_best fun xs e h => by
  unfold maxLD at h
  split at h
  · split at h
    · cases h; exact ⟨_, _, .inl rfl, by assumption, rfl⟩
    · cases h
  · split at h
    · cases h; exact ⟨_, _, .inr rfl, by assumption, rfl⟩
    · cases h
  · cases h
end
end Vs

set_option Elab.async false
set_option linter.all false
set_option maxRecDepth 100000
set_option maxHeartbeats 4000000
namespace HT
open PySem PySem.Spec PyProof.Rows L2
section
variable {prog : Program} {w : World} {A : Around} {E : Value → Shared → Prop} {s : Shared}
theorem adjust_rev (n : Nat) : Builtin.Slice.sliceAdjust none none (-1) (n : Int) = ((n : Int) - 1, -1) := by
  unfold Builtin.Slice.sliceAdjust
  simp
theorem places_rev (n : Nat) : Builtin.Slice.slicePlaces ((n : Int) - 1) (-1) (-1) = n := by
  unfold Builtin.Slice.slicePlaces
  simp
  omega
theorem pick_rev (xs : Array Value) : ((List.range xs.size).filterMap fun (m : Nat) => xs[((xs.size : Int) - 1 + (m : Int) * (-1)).toNat]?).toArray = xs.toList.reverse.toArray := by
  have key : ∀ l : List Value, (List.range l.length).filterMap (fun (m : Nat) => l[l.length - 1 - m]?) = l.reverse := by
    intro l
    apply List.ext_getElem?
    intro i
    have e : (List.range l.length).filterMap (fun (m : Nat) => l[l.length - 1 - m]?) = (List.range l.length).map (fun (m : Nat) => l.getD (l.length - 1 - m) .none) := by
      have fm : ∀ (f : Nat → Option Value) (g : Nat → Value) (ms : List Nat), (∀ m ∈ ms, f m = some (g m)) → ms.filterMap f = ms.map g := by
        intro f g ms
        induction ms with
        | nil => intro _; rfl
        | cons m ms ih =>
          intro h
          rw [List.filterMap_cons_some (h m List.mem_cons_self), List.map_cons, ih fun k hk => h k (List.mem_cons_of_mem _ hk)]
      refine fm _ _ _ fun m hm => ?_
      have hm := List.mem_range.mp hm
      have : l.length - 1 - m < l.length := by omega
      rw [List.getElem?_eq_getElem this]
      simp [List.getD, this]
    rw [e, List.getElem?_map]
    by_cases h : i < l.length
    · rw [List.getElem?_range h, List.getElem?_reverse h]
      have : l.length - 1 - i < l.length := by omega
      simp [List.getD, List.getElem?_eq_getElem this]
    · rw [List.getElem?_eq_none (by simpa using h), List.getElem?_eq_none (by simpa using h)]; rfl
  have e : (fun (m : Nat) => xs[((xs.size : Int) - 1 + (m : Int) * (-1)).toNat]?) = fun m => xs.toList[xs.toList.length - 1 - m]? := by
    funext m
    have : ((xs.size : Int) - 1 + (m : Int) * (-1)).toNat = xs.toList.length - 1 - m := by rw [Array.length_toList]; omega
    rw [this, Array.getElem?_toList]
  rw [e]
  have := key xs.toList
  rw [Array.length_toList] at this
  rw [Array.length_toList]
  rw [this]
theorem getItem_tuple_rev {t sl : Addr} {items : Array Value} {tk : Tok} {Q : Value → Shared → Prop} (ht : IsTup s.heap t items) (hs : s.heap.IsSliceOf sl .none .none (.int (-1) tk))
    (h : Q (.ref s.heap.objs.size) { s with heap := s.heap.push { cls := .type "tuple", data := .seq items.toList.reverse.toArray } })
    (hsz : items.size ≤ sizeLine) : wpAny (model prog w) A (getItem (.ref t) (.ref sl)) Q E s := by
  have htake : sizeOk (.seq items.toList.reverse.toArray) := by
    show items.toList.reverse.toArray.size ≤ sizeLine
    simpa using hsz
  obtain ⟨os, hos, hcs, hds⟩ := id hs
  have hTs : s.TypeIs (.ref sl) "slice" := ⟨os, hos, hcs⟩
  unfold getItem
  try with_reducible refine wpAny_holding ?_
  first | refine wpAny_bind (wpAny_pure ?_) | skip
  refine wpAny_bind (wpAny_sequenceKey ht.typeIs (by decide) ?_)
  refine wpAny_bind (wpAny_callSpecial?_slot (name := Str.ofString "__getitem__") ht.typeIs PyProof.Rows.slot_tuple_getitem
    (wpAny_call_entry PyProof.Rows.slot_tuple_getitem ht.typeIs entry_tuple_getitem ?_ (args_tuple_getitem _ _)))
  show wpAny _ _ (Builtin.Tuple.tupleItemsOf (.ref t) >>= _) _ _ s
  refine wpAny_bind (tupleItemsOf_ ht ?_)
  refine wpAny_bind (wpAny_typeOf hTs ?_)
  rw [if_pos (by decide)]
  have app : ∀ (Q : Int × Int × Nat → Shared → Prop), Q ((items.size : Int) - 1, -1, items.size) s → wpAny (model prog w) A.in1 (Builtin.Slice.sliceApplied (.ref sl) (pure (items.size : Int))) Q (fun _ _ => False) s := by
    intro Q h
    unfold Builtin.Slice.sliceApplied Builtin.Slice.sliceFields
    refine wpAny_bind (wpAny_bind (wpAny_field hos hds (x := .none) rfl (wpAny_bind (wpAny_field hos hds (x := .none) rfl (wpAny_bind (wpAny_field hos hds (x := .int (-1) tk) rfl (wpAny_pure ?_)))))))
    refine wpAny_bind (slicePart_int ?_)
    show wpAny _ _ (if ((-1 : Int) == 0) = true then _ else _) _ _ s
    rw [if_neg (by decide)]
    refine wpAny_bind (slicePart_none (wpAny_bind (slicePart_none (wpAny_bind (wpAny_pure ?_)))))
    show wpAny _ _ (match Builtin.Slice.sliceAdjust none none (-1) (items.size : Int) with | (lo, hi) => pure (lo, (-1 : Int), Builtin.Slice.slicePlaces lo hi (-1))) _ _ s
    rw [adjust_rev]
    show wpAny _ _ (pure ((items.size : Int) - 1, (-1 : Int), Builtin.Slice.slicePlaces ((items.size : Int) - 1) (-1) (-1))) _ _ s
    rw [places_rev]
    exact wpAny_pure h
  refine wpAny_bind (wpAny_mono (app _ ?_) (fun _ _ z => z) fun _ _ z => z.elim)
  have hno : ¬ (((((items.size : Int) - 1) == 0 && (-1 : Int) == 1) && items.size == items.size) = true) := by
    intro q
    simp at q
  show wpAny _ _ (if (((items.size : Int) - 1) == 0 && (-1 : Int) == 1 && items.size == items.size) = true then _ else _) _ _ s
  rw [if_neg hno, pick_rev]
  first
    | exact wpAny_bind (m := Builtin.Tuple.tupleExact _) (wpAny_newObj_type (wpAny_pure ⟨_, rfl, wpAny_pure h⟩) htake)
    | exact wpAny_bind (m := Builtin.Tuple.tupleExact _) (wpAny_newObj_type (wpAny_bind (wpAny_pure (wpAny_pure ⟨_, rfl, wpAny_pure h⟩))) htake)
    | exact wpAny_bind (wpAny_bind (m := Builtin.Tuple.tupleExact _) (wpAny_newObj_type (wpAny_pure (wpAny_pure ⟨_, rfl, wpAny_pure h⟩)) htake))
    | exact wpAny_bind (wpAny_bind (m := Builtin.Tuple.tupleExact _) (wpAny_newObj_type (wpAny_pure ⟨_, rfl, wpAny_pure h⟩) htake))
end
end HT
namespace Vs
open PySem PySem.Spec PyProof.Rows L2
/-- x[::-1] of a list or a tuple -/
def tRevA (K : PySem.W.Frag) (te : TE) : TE := fun σ H Q => te σ H fun x H1 => (∃ a xs, x = .ref a ∧ SqL K H1 a xs ∧ ∀ p, H1 p = none → Q (.ref p) (upd H1 p (.lst xs.reverse))) ∨ ∃ a xs, x = .ref a ∧ SqT K H1 a xs ∧ ∀ p, H1 p = none → Q (.ref p) (upd H1 p (.tup xs.reverse))
section
variable {X : Cx} {T : Addr → Prop} {W : Wx} {m r : Bool}
theorem pe_revA {e : Expr} {te : TE} {k : Nat} {p1 p2 p3 pos : Pos} (he : PE X e te) : PE X (.Subscript e (.Slice none none (some (.UnaryOp .USub (.Constant (.int 1) k p1) p2)) p3) pos) (tRevA X.K te) := by
  refine ⟨fun pins s σ H Q I h => ?_⟩
  refine Subscript_ (thn (he.run pins s σ H _ I h) fun v s1 ⟨x, H1, I1, r1, q1⟩ => ?_)
  have hst : PO X (some (.UnaryOp .USub (.Constant (.int 1) k p1) p2)) (tPart (tUn (rU fun i => .int (-i)) (tC (.int 1)))) := po_some (pe_un un_neg pe_int)
  refine wpAny_Slice (thn (po_none.run pins s1 σ H1 (fun o H2 => o = none ∧ H2 = H1) I1 ⟨rfl, rfl⟩) fun vl s2 ⟨l, H2, I2, pl, el, e2⟩ => ?_)
  subst el e2
  refine thn (po_none.run pins s2 σ H2 (fun o H3 => o = none ∧ H3 = H2) I2 ⟨rfl, rfl⟩) fun vu s3 ⟨u, H3, I3, pu, eu, e3⟩ => ?_
  subst eu e3
  refine thn (hst.run pins s3 σ H3 (fun o H4 => o = some (-1) ∧ H4 = H3) I3 ⟨1, rfl, -1, rfl, rfl, rfl⟩) fun vs s4 ⟨o, H4, I4, ps, eo, e4⟩ => ?_
  subst eo e4
  have I5 : Inv X pins σ H4 { s4 with heap := s4.heap.push { cls := .type "slice", data := .fields #[vl, vu, vs] } } := I4.kept (t' := s4.toks) fun b ob q => Heap.get?_push_of_some _ q
  rcases q1 with ⟨a, xs, ex, hx, q⟩ | ⟨a, xs, ex, hx, q⟩
  · subst ex
    cases r1
    obtain ⟨its, r, ht, hz⟩ := I5.list hx
    have hlen := r.length
    show wpAny (model X.prog X.w) X.A (subscriptTail e (.Slice none none (some (.UnaryOp .USub (.Constant (.int 1) k p1) p2)) p3) (.ref a) (.ref s4.heap.objs.size)) (EP X pins σ Q) X.xe { s4 with heap := s4.heap.push { cls := .type "slice", data := .fields #[vl, vu, vs] } }
    refine tail_any (ops := [.ref a, .ref s4.heap.objs.size]) ht.isList.typeIs (PySem.slot_list_getitem.lookup) ?_ (by with_unfolding_all rfl)
    refine wpAny_getItem_list_slice ht.isList (Heap.IsSliceOf.new _ vl vu vs) pl pu ps (by decide) ?_ (by rw [List.size_toArray]; omega)
    rw [PySem.W.krv_pick]
    refine ⟨.ref _, _, I5.laid (t' := s4.toks) (o := .lst xs.reverse) (fun b ob q => Heap.get?_push_of_some _ q) (Nat.le_refl _) ?_, rfl, q _ (I5.hok.fresh (Nat.le_refl _))⟩
    exact ⟨by rw [List.length_reverse]; exact hz, _, 0, r.reverse, Heap.get?_push_size _ rfl⟩
  · subst ex
    cases r1
    obtain ⟨its, r, ht, hz⟩ := I5.tuple hx
    have hlen := r.length
    show wpAny (model X.prog X.w) X.A (subscriptTail e (.Slice none none (some (.UnaryOp .USub (.Constant (.int 1) k p1) p2)) p3) (.ref a) (.ref s4.heap.objs.size)) (EP X pins σ Q) X.xe { s4 with heap := s4.heap.push { cls := .type "slice", data := .fields #[vl, vu, vs] } }
    refine tail_any (ops := [.ref a, .ref s4.heap.objs.size]) ht.typeIs (PyProof.Rows.slot_tuple_getitem.lookup) ?_ (by with_unfolding_all rfl)
    cases pl; cases pu; cases ps
    refine HT.getItem_tuple_rev ht (Heap.IsSliceOf.new _ _ _ _) ?_ (by rw [List.size_toArray]; omega)
    refine ⟨.ref _, _, I5.laid (t' := s4.toks) (o := .tup xs.reverse) (fun b ob q => Heap.get?_push_of_some _ q) (Nat.le_refl _) ?_, rfl, q _ (I5.hok.fresh (Nat.le_refl _))⟩
    exact ⟨by rw [List.length_reverse]; exact hz, _, r.reverse, IsTup.new _ _⟩
def revD : D → Option D
  | .list ds => some (.list ds.reverse)
  | .tuple ds => some (.tuple ds.reverse)
  | _ => none
def rv (f : Ev) : Ev := fun st => (f st).bind fun d st1 => ofO (revD d) st1
theorem VE.rev {e : Expr} {f : Ev} {k : Nat} {p1 p2 p3 pos : Pos} (he : VE X T W m r e f) : VE X T W m false (.Subscript e (.Slice none none (some (.UnaryOp .USub (.Constant (.int 1) k p1) p2)) p3) pos) (rv f) :=
  ⟨pe_weak (pe_revA he.pe) fun σ H Q ⟨F, st, R, q⟩ => by
    refine tG.first R q fun d st1 v H1 e1 R1 y1 q1 h1 => ?_
    obtain ⟨d', eg, k⟩ := RG.fin y1 h1 id
    unfold revD at eg
    split at eg
    · cases eg
      obtain ⟨a, us, rfl, s1, p1⟩ := q1.isL
      exact .inl ⟨a, us, rfl, .inl s1, fun p hp => k.new R1 hp (.lst (.inl upd_same) (R1.bd_new hp) (p1.reverse.upd hp))⟩
    · cases eg
      obtain ⟨a, us, rfl, s1, p1⟩ := q1.isT
      exact .inr ⟨a, us, rfl, SqT.of s1, fun p hp => k.new R1 hp (.tup upd_same (p1.reverse.upd hp))⟩
    · cases eg⟩
end
end Vs

set_option Elab.async false
set_option linter.all false
set_option maxRecDepth 100000
set_option maxHeartbeats 4000000
namespace L2
open PySem PySem.Spec PyProof.Rows
section
variable {prog : Program} {w : World} {A : Around} {E : Value → Shared → Prop}
abbrev TK (prog : Program) (w : World) := tupleKind (mixKind prog w)
theorem dictOfH_keep {h h' : Heap} {S : Addr} {xs : List (List Key × Addr × Value)} (m : h.DictOfH (TK prog w) S xs) (kS : ∀ o, h.get? S = some o → h'.get? S = some o) (kk : ∀ x ∈ xs, ∀ o, h.get? x.2.1 = some o → h'.get? x.2.1 = some o) : h'.DictOfH (TK prog w) S xs := by
  obtain ⟨o, es, ep, ho, hc, hd, he, hi, hn⟩ := m
  refine ⟨o, es, ep, kS o ho, hc, hd, he, fun x hx => ?_, hn⟩
  obtain ⟨q, its, n, h1, h2⟩ := hi x hx
  exact ⟨q, its, n, kk x hx q h1, h2⟩
theorem mem_storedH {xs : List (List Key × Addr × Value)} {k : List Key} {a : Addr} {v : Value} {x : List Key × Addr × Value} (h : x ∈ storedH xs k a v) : x.2.1 = a ∨ ∃ y ∈ xs, y.2.1 = x.2.1 := by
  unfold storedH at h
  split at h
  · obtain ⟨y, hy, e⟩ := List.mem_map.mp h
    refine .inr ⟨y, hy, ?_⟩
    rw [← e]; unfold putAt; split <;> rfl
  · rcases List.mem_append.mp h with h | h
    · exact .inr ⟨x, h, rfl⟩
    · rw [List.mem_singleton.mp h]; exact .inl rfl
theorem storedH_length_le (xs : List (List Key × Addr × Value)) (k : List Key) (a : Addr) (v : Value) : (storedH xs k a v).length ≤ xs.length + 1 := by
  unfold storedH
  split
  · rw [List.length_map]; omega
  · rw [List.length_append]; simp
def mergedH (xs : List (List Key × Addr × Value)) (ps : List (List Key × Addr × Value)) : List (List Key × Addr × Value) := ps.foldl (fun acc p => storedH acc p.1 p.2.1 p.2.2) xs
theorem upd_loopT {R : Result → Shared → Prop} {S I l : Addr} {items : Array Value} {res : Value} (hh : A.handled = none) (hu : A.units + 1 < cLine) (hlI : l ≠ I) (hSI : S ≠ I) (hSl : S ≠ l) :
    ∀ (rest : List (List Key × Addr × Value)) (i : Nat) (acc : List (List Key × Addr × Value)) (ix : Int) (t : Tok) (s : Shared), items.size = i + rest.length → acc.length + rest.length ≤ sizeLine →
      (∀ (j : Nat) (q : List Key × Addr × Value), rest[j]? = some q → q.2.1 ≠ S ∧ q.2.1 ≠ I ∧ (TK prog w).is s.heap q.1 q.2.1 ∧ ∃ (b : Addr), items[i + j]? = some (.ref b) ∧ b ≠ S ∧ b ≠ I ∧ IsTup s.heap b #[.ref q.2.1, q.2.2]) →
      (∀ x ∈ acc, x.2.1 ≠ S ∧ x.2.1 ≠ I) →
      s.heap.IsListIter I l i → s.heap.IsList l items → s.heap.DictOfH (TK prog w) S acc →
      (∀ h' tk, h'.DictOfH (TK prog w) S (mergedH acc rest) → (∀ b o, b ≠ S → b ≠ I → s.heap.get? b = some o → h'.get? b = some o) → R (.ok (.ret res)) { s with heap := h', toks := tk }) →
      codeAny (model prog w) A (.builtin "dict.update.loop" ⟨[.ref S, .ref I, .int ix t, res], []⟩) R s
  | [], i, acc, ix, t, s, hsz, hln, ht, ha, hit, hl, hm, hR => by
    refine codeAny_builtin ud_entry ?_
    rw [Around.under_plainId ud_plain _]
    show wpAny _ A.in1 (pyNext (.ref I) >>= _) _ _ s
    refine wpAny_bind (wpAny_pyNext_list_end (A := A.in1) hh hit hl (by first | exact Array.getElem?_eq_none (Nat.le_of_eq hsz) | (simp at hsz; simp; omega)) fun h' he => ?_)
    show wpAny _ A.in1 (Builtin.Dict.addKeywords S [] >>= _) _ _ _
    refine wpAny_bind (wpAny_pure (wpAny_pure ?_))
    exact hR h' s.toks (dictOfH_keep hm (fun o e => he S o hSI e) fun x hx o e => he _ o (ha x hx).2 e) fun b o _ hb e => he b o hb e
  | q :: rest, i, acc, ix, t, s, hsz, hln, ht, ha, hit, hl, hm, hR => by
    obtain ⟨qS, qI, hk, b, hb, hbS, hbI, htup⟩ := ht 0 q rfl
    rw [List.length_cons] at hsz hln
    refine codeAny_builtin ud_entry ?_
    rw [Around.under_plainId ud_plain _]
    show wpAny _ A.in1 (pyNext (.ref I) >>= _) _ _ s
    refine wpAny_bind (wpAny_pyNext_list_item (x := .ref b) hit hl (by simpa using hb) fun h1 hit1 hs1 => ?_)
    have ht1 : IsTup h1 b #[.ref q.2.1, q.2.2] := htup.extBut hs1.extBut hbI
    have hl1 : h1.IsList l items := hl.extBut hs1.extBut hlI
    have k1 : ∀ c o, c ≠ I → s.heap.get? c = some o → h1.get? c = some o := fun c o n e => (hs1.2 c n).trans e
    have hm1 : h1.DictOfH (TK prog w) S acc := dictOfH_keep hm (fun o e => k1 S o hSI e) fun x hx o e => k1 _ o (ha x hx).2 e
    have hk1 : (TK prog w).is h1 q.1 q.2.1 := by
      obtain ⟨o, its, n, e1, e2⟩ := hk
      exact ⟨o, its, n, k1 _ _ qI e1, e2⟩
    obtain ⟨o, ho, hc, n, hd⟩ := id ht1
    show wpAny _ A.in1 (holding [Value.ref b] _ >>= _) _ _ _
    refine wpAny_bind (wpAny_holding ?_)
    refine wpAny_bind (wpAny_tryCatch ?_)
    unfold Builtin.Dict.pairItems
    refine wpAny_bind (wpAny_typeOf (T := "tuple") ⟨o, ho, hc⟩ ?_)
    rw [if_pos (by first | decide | rfl | simp)]
    refine wpAny_bind (wpAny_seqItems ho hd (wpAny_pure ?_))
    show wpAny _ A.in1 (holding [.ref q.2.1, q.2.2] (dictSet S (.ref q.2.1) q.2.2)) _ _ _
    refine wpAny_holding (wpAny_dictSet_heap (knd := TK prog w) (k := q.1) (tupleKind_room_in1 hu) hk1 hm1 (fun h2 hm2 hs2 => ?_) (by omega))
    have k2 : ∀ c o, c ≠ S → h1.get? c = some o → h2.get? c = some o := fun c o n e => (hs2.2 c n).trans e
    refine wpAny_pure ⟨plainId_quiet ud_plain _, upd_loopT (items := items) hh hu hlI hSI hSl rest (i + 1) (storedH acc q.1 q.2.1 q.2.2) (ix + 1) 0 _ (show items.size = i + 1 + rest.length by omega) ?_ (fun j q' e => ?_) (fun x hx => ?_) ?_ ?_ hm2 fun h' tk hd' k => ?_⟩
    · have z := storedH_length_le acc q.1 q.2.1 q.2.2
      omega
    · obtain ⟨a1, a2, ⟨o', its, n', e1, e2⟩, b', hb', hbS', hbI', htup'⟩ := ht (j + 1) q' (by simpa using e)
      refine ⟨a1, a2, ⟨o', its, n', k2 _ _ a1 (k1 _ _ a2 e1), e2⟩, b', ?_, hbS', hbI', (htup'.extBut hs1.extBut hbI').extBut hs2.extBut hbS'⟩
      rw [show i + 1 + j = i + (j + 1) by omega]
      exact hb'
    · rcases mem_storedH hx with e | ⟨y, hy, e⟩
      · rw [e]; exact ⟨qS, qI⟩
      · rw [← e]; exact ha y hy
    · exact hit1.at fun o' e => hs2.extBut I o' (Ne.symm hSI) e
    · exact hl1.extBut hs2.extBut (Ne.symm hSl)
    · exact hR h' tk hd' fun c oc h3 h4 e => k c oc h3 h4 (hs2.extBut c oc h3 (hs1.extBut c oc h4 e))
theorem call_dict_pairsT {s : Shared} {l : Addr} {ol : Obj} {items : Array Value} {n : Nat} {prs : List (List Key × Addr × Value)} {Q : Value → Shared → Prop} (hh : A.handled = none) (hu : A.units + 2 < cLine) (hl : s.heap.get? l = some ol) (hc : ol.cls = .type "list") (hd : ol.dict = none)
    (hdat : ol.data = .seq items n) (hsz : items.size = prs.length) (hln : prs.length ≤ sizeLine)
    (ht : ∀ (j : Nat) (q : List Key × Addr × Value), prs[j]? = some q → (TK prog w).is s.heap q.1 q.2.1 ∧ ∃ (b : Addr), items[j]? = some (.ref b) ∧ IsTup s.heap b #[.ref q.2.1, q.2.2])
    (h : ∀ h' tk, h'.DictOfH (TK prog w) s.heap.objs.size (mergedH [] prs) → (∀ b o, s.heap.get? b = some o → h'.get? b = some o) → Q (.ref s.heap.objs.size) { s with heap := h', toks := tk }) :
    wpAny (model prog w) A (call (.type "dict") [.ref l]) Q E s := by
  refine callType_codes (Q₁ := fun obj s₁ => obj = .ref s.heap.objs.size ∧ s₁ = { s with heap := s.heap.push { cls := .type "dict", data := .dict #[] } }) PySem.F.kt_called_dict (PySem.F.kt_typeCall_dict_1 _) PySem.F.entry_dict_init (kt_code_dict_new _ ⟨rfl, rfl⟩) ?_
  rintro obj s₁ ⟨rfl, rfl⟩
  have hnew : (s.heap.push { cls := .type "dict", data := .dict #[] }).DictOfH (TK prog w) s.heap.objs.size [] := Heap.DictOfH.new s.heap
  have k0 : ∀ b o, s.heap.get? b = some o → (s.heap.push { cls := .type "dict", data := .dict #[] }).get? b = some o := fun b o e => Heap.get?_push_of_some _ e
  refine ⟨Heap.DictOfH.typeIs (s := { s with heap := s.heap.push { cls := .type "dict", data := .dict #[] } }) hnew, PySem.F.args_dict_init_2 _ _, ?_⟩
  unfold Builtin.«dict.__init__»
  refine wpAny_bind ?_
  unfold Builtin.Dict.selfAndRest
  refine wpAny_bind (wpAny_notOrdered_dict (Heap.DictOfH.typeIs (s := { s with heap := s.heap.push { cls := .type "dict", data := .dict #[] } }) hnew) ?_)
  show wpAny _ _ (pure (s.heap.objs.size, [Value.ref l])) _ _ _
  refine wpAny_pure ?_
  show wpAny _ _ (Builtin.Dict.updateFrom "dict.__init__" s.heap.objs.size (.ref l) [] .none) _ _ _
  unfold Builtin.Dict.updateFrom
  refine wpAny_bind (wpAny_typeOf (T := "list") ⟨ol, k0 _ _ hl, hc⟩ ?_)
  rw [if_pos (by first | decide | rfl | simp)]
  refine wpAny_bind (miss_list (k0 _ _ hl) hc hdat hd hh fun h1 tk1 hk1 => ?_)
  rw [if_pos (show (none : Option Value).isNone = true from rfl)]
  refine wpAny_bind (wpAny_rule ?_)
  have hl1 : h1.IsList l items := ⟨ol, hk1 _ _ (k0 _ _ hl), hc, n, hdat⟩
  have hS1 : s.heap.objs.size < h1.objs.size := by
    have e : (s.heap.push { cls := .type "dict", data := .dict #[] }).get? s.heap.objs.size = some { cls := .type "dict", data := .dict #[] } := Heap.get?_push_size _ rfl
    exact Heap.lt_size (hk1 _ _ e)
  refine wpAny_bind (wpAny_pyIter_list hl1 ?_)
  have k2 : ∀ b o, h1.get? b = some o → (h1.push { cls := .type "list_iterator", data := .fields #[.ref l, .int 0 0] }).get? b = some o := fun b o e => Heap.get?_push_of_some _ e
  have hlt : l < s.heap.objs.size := Heap.lt_size hl
  have key := upd_loopT (prog := prog) (w := w) (A := A.in1) (R := wants (fun r s₂ => r = .none ∧ Q (.ref s.heap.objs.size) s₂) E) (S := s.heap.objs.size) (I := h1.objs.size) (l := l) (items := items) (res := Value.none) hh (by show A.units + 1 + 1 < _; omega)
    (Nat.ne_of_lt (Nat.lt_trans hlt hS1)) (Nat.ne_of_lt hS1) (Nat.ne_of_gt hlt) prs 0 [] 0 0
    { s with heap := h1.push { cls := .type "list_iterator", data := .fields #[.ref l, .int 0 0] }, toks := tk1 } (by rw [hsz, Nat.zero_add]) (by rw [List.length_nil, Nat.zero_add]; exact hln)
    (fun j q e => by
      obtain ⟨⟨o', its, n', e0, e00⟩, b, e1, e2⟩ := ht j q e
      have hb : b < s.heap.objs.size := e2.lt
      have hq : q.2.1 < s.heap.objs.size := Heap.lt_size e0
      exact ⟨Nat.ne_of_lt hq, Nat.ne_of_lt (Nat.lt_trans hq hS1), ⟨o', its, n', k2 _ _ (hk1 _ _ (k0 _ _ e0)), e00⟩, b, by rw [Nat.zero_add]; exact e1, Nat.ne_of_lt hb, Nat.ne_of_lt (Nat.lt_trans hb hS1), e2.keeps fun c o z => k2 _ _ (hk1 _ _ (k0 _ _ z))⟩)
    (fun x hx => by cases hx)
    ⟨_, Heap.get?_push_size _ rfl, rfl, rfl⟩ (hl1.at fun o e => k2 _ _ e) (dictOfH_keep hnew (fun o e => k2 _ _ (hk1 _ _ e)) fun x hx => by cases hx)
    (fun h' tk hd' k => ⟨rfl, h h' tk hd' fun b o e => k b o (Nat.ne_of_lt (Heap.lt_size e)) (Nat.ne_of_lt (Nat.lt_trans (Heap.lt_size e) hS1)) (k2 _ _ (hk1 _ _ (k0 _ _ e)))⟩)
  first
    | exact wpAny_pure ⟨plainId_quiet ud_plain _, key⟩
    | exact wpAny_bind (wpAny_pure (wpAny_pure ⟨plainId_quiet ud_plain _, key⟩))
end
def mergeT (kvs more : List (List Key × V)) : List (List Key × V) := more.foldl (fun acc kv => putK acc kv.1 kv.2) kvs
theorem KT.merge {H : Hp} : ∀ {more : List (List Key × V)} {rs : List (List Key × Addr × Value)} {kvs : List (List Key × V)} {vs : List (List Key × Addr × Value)}, KT H more rs → KT H kvs vs → KT H (mergeT kvs more) (mergedH vs rs) := by
  intro more rs kvs vs r
  unfold KT at r
  induction r generalizing kvs vs with
  | nil => intro q; exact q
  | @cons p q ps qs h t ih =>
    intro r0
    have e : KT H (putK kvs p.1 p.2) (storedH vs q.1 q.2.1 q.2.2) := by
      have := r0.put p.1 h.2.1 h.2.2
      rw [← h.1]
      exact this
    exact ih e
theorem length_mergeT : ∀ (more kvs : List (List Key × V)), (mergeT kvs more).length ≤ kvs.length + more.length
  | [], kvs => by show kvs.length ≤ kvs.length + 0; omega
  | p :: r, kvs => by
    have h1 := length_mergeT r (putK kvs p.1 p.2)
    have h2 := length_putK kvs p.1 p.2
    show (mergeT (putK kvs p.1 p.2) r).length ≤ _
    rw [List.length_cons]; omega
section
variable {X : Cx}
theorem pairsT_of {pins : List (Addr × Obj)} {σ : St} {H : Hp} {s : Shared} (I : Inv X pins σ H s) : ∀ {ps : List Addr} {kvs : List (List Key × V)}, Paired (fun p kv => ∃ kb, H kb = some (.tup (kv.1.map kV)) ∧ SqT X.K H p [.ref kb, kv.2]) ps kvs →
    ∃ prs : List (List Key × Addr × Value), KT H kvs prs ∧ prs.length = ps.length ∧ ∀ (j : Nat) (q : List Key × Addr × Value), prs[j]? = some q → (TK X.prog X.w).is s.heap q.1 q.2.1 ∧ ∃ (b : Addr), ps[j]? = some b ∧ IsTup s.heap b #[.ref q.2.1, q.2.2]
  | _, _, .nil => ⟨[], .nil, rfl, fun j q e => by simp at e⟩
  | _, _, .cons (a := p) (b := kv) h t => by
    obtain ⟨prs, r, hl, hp⟩ := pairsT_of I t
    obtain ⟨kb, hk, h⟩ := h
    obtain ⟨its, rv, ht, _⟩ := I.tuple h
    obtain ⟨u, y, ei, ru, ry⟩ := vals2 rv
    subst ei
    cases (show u = Value.ref kb from ru)
    refine ⟨(kv.1, kb, y) :: prs, .cons ⟨rfl, hk, ry⟩ r, by rw [List.length_cons, List.length_cons, hl], fun j q e => ?_⟩
    cases j with
    | zero =>
      have e' : (kv.1, kb, y) = q := Option.some.inj e
      subst e'
      exact ⟨key_of I.hok hk, p, rfl, ht⟩
    | succ j =>
      obtain ⟨e0, b, e1, e2⟩ := hp j q (by simpa using e)
      exact ⟨e0, b, by simpa using e1, e2⟩
/-- dict(xs) of a list of pairs (tuple, value) -/
def rDictPT (K : PySem.W.Frag) : List V → Hp → VK → Prop := fun xs H Q => ∃ (a : Addr) (ps : List Addr) (kvs : List (List Key × V)), xs = [.ref a] ∧ SqL K H a (ps.map V.ref) ∧ Paired (fun p kv => ∃ kb, H kb = some (.tup (kv.1.map kV)) ∧ SqT K H p [.ref kb, kv.2]) ps kvs ∧
    ∀ p, H p = none → Q (.ref p) (upd H p (.dT (mergeT [] kvs)))
theorem call_dictPT (hcalm : X.calm = true) (hu : X.A.units + 2 < cLine) : CallR X (.type "dict") (rDictPT X.K) := by
  intro pins s σ H xs us Q I r q
  obtain ⟨a, ps, kvs, ex, hq, hp, q⟩ := q
  subst ex
  obtain ⟨u, eu, rx⟩ := vals1 r
  subst eu
  cases rx
  obtain ⟨its, rv, pl, hz⟩ := I.list hq
  have ei := refs_at rv
  subst ei
  rw [List.length_map] at hz
  obtain ⟨prs, rel, hl, hpr⟩ := pairsT_of I hp
  obtain ⟨o, n, ho, hc, hd, hdat⟩ := pl
  refine call_dict_pairsT (prs := prs) (I.ok.hd hcalm) hu ho hc hd hdat (by simp [hl]) (by rw [hl]; exact hz) (fun j q' e => ?_) fun h' tk hd' k => ?_
  · obtain ⟨e0, b, e1, e2⟩ := hpr j q' e
    exact ⟨e0, b, by simp [e1], e2⟩
  · have hm : (s.heap.objs.size == sysModules) = false := beq_eq_false_iff_ne.mpr (Nat.ne_of_gt I.big)
    have hlen : (mergeT [] kvs).length ≤ sizeLine := by
      refine Nat.le_trans (length_mergeT kvs []) ?_
      rw [List.length_nil, Nat.zero_add, Paired.length rel, hl]
      exact hz
    obtain ⟨o2, es, ep, h1, h2, h3, h4, _, h5⟩ := hd'
    have fresh := I.hok.fresh (Nat.le_refl s.heap.objs.size)
    refine ⟨.ref s.heap.objs.size, upd H s.heap.objs.size (.dT (mergeT [] kvs)), I.laid (t' := tk) k (Nat.le_refl _) (show ObjOk X.prog X.w _ _ _ (.dT (mergeT [] kvs)) from ⟨hlen, hm, mergedH [] prs, ?_, o2, es, ep, h1, h2, h3, h4, h5⟩), rfl, q _ fresh⟩
    exact (KT.merge rel .nil).keeps fun c ys ec => by rw [upd_ne (ne_of_none ec fresh)]; exact ec
end
end L2

set_option Elab.async false
set_option linter.all false
set_option maxRecDepth 100000
set_option maxHeartbeats 4000000
namespace Vs
open PySem PySem.Spec PyProof.Rows L2

/-! ### dicts made of pairs -/
def putG {κ β : Type} [DecidableEq κ] (kvs : List (κ × β)) (k : κ) (v : β) : List (κ × β) :=
  if (kvs.any fun kv => decide (kv.1 = k)) = true then kvs.map (fun kv => if kv.1 = k then (kv.1, v) else kv) else kvs ++ [(k, v)]
def mergeG {κ β : Type} [DecidableEq κ] (kvs more : List (κ × β)) : List (κ × β) := more.foldl (fun acc kv => putG acc kv.1 kv.2) kvs
def keyOf : D → Option Key
  | .int i => some (.inl i)
  | .str x => some (.inr x)
  | _ => none
def keysOf : List D → Option (List Key)
  | [] => some []
  | d :: ds => match keyOf d, keysOf ds with
    | some k, some ks => some (k :: ks)
    | _, _ => none
def keyTOf : D → Option (List Key)
  | .tuple ds => keysOf ds
  | _ => none
theorem keyOf_some {d : D} {k : Key} (h : keyOf d = some k) : d = keyD k := by
  cases d <;> simp [keyOf] at h <;> subst h <;> rfl
theorem keysOf_some : ∀ {ds : List D} {ks : List Key}, keysOf ds = some ks → ds = ks.map keyD
  | [], ks, h => by cases h; rfl
  | d :: ds, ks, h => by
    unfold keysOf at h
    split at h
    · rename_i k ks' e1 e2
      cases h
      rw [keyOf_some e1, keysOf_some e2]; rfl
    · cases h
theorem keyTOf_some {d : D} {k : List Key} (h : keyTOf d = some k) : d = keyT k := by
  cases d <;> simp [keyTOf] at h
  unfold keyT
  rw [keysOf_some h]
/-- the pairs of a list -/
def pairsOf {κ : Type} (f : D → Option κ) : List D → Option (List (κ × D))
  | [] => some []
  | .tuple [k, v] :: r => match f k, pairsOf f r with
    | some k', some r' => some ((k', v) :: r')
    | _, _ => none
  | _ => none
def dictPD : List D → Option D
  | [.list ds] => match pairsOf keyOf ds with
    | some ps => some (.dict ((mergeG [] ps).map fun p => (keyD p.1, p.2)))
    | none => match pairsOf keyTOf ds with
      | some ps => some (.dict ((mergeG [] ps).map fun p => (keyT p.1, p.2)))
      | none => none
  | _ => none
section
variable {K : PySem.W.Frag} {B : Addr → Prop} {H : Hp}
theorem rep_keyD {k : Key} : Rep K B H (keyD k) (kV k) := by
  cases k
  · exact .int _
  · exact .str _
theorem repA_keys : ∀ ks : List Key, RepA K B H (ks.map keyD) (ks.map kV)
  | [] => .nil
  | k :: ks => .cons rep_keyD (repA_keys ks)
theorem repA_keys_inv : ∀ {ks : List Key} {us : List V}, RepA K B H (ks.map keyD) us → us = ks.map kV
  | [], _, .nil => rfl
  | k :: ks, _, .cons a b => by
    rw [List.map_cons, repA_keys_inv b]
    cases k with
    | inl i => cases a; rfl
    | inr x => cases a; rfl
/-- the entries stand alike -/
abbrev PR {κ : Type} (K : PySem.W.Frag) (B : Addr → Prop) (H : Hp) : List (κ × D) → List (κ × V) → Prop := Paired fun p q => p.1 = q.1 ∧ Rep K B H p.2 q.2
theorem PR.any {κ : Type} [DecidableEq κ] {ps : List (κ × D)} {qs : List (κ × V)} (r : PR K B H ps qs) (k : κ) : (ps.any fun kv => decide (kv.1 = k)) = (qs.any fun kv => decide (kv.1 = k)) := by
  induction r with
  | nil => rfl
  | cons h t ih => rw [List.any_cons, List.any_cons, ih, h.1]
theorem PR.put {κ : Type} [DecidableEq κ] {ps : List (κ × D)} {qs : List (κ × V)} (r : PR K B H ps qs) (k : κ) {d : D} {v : V} (h : Rep K B H d v) : PR K B H (putG ps k d) (putK qs k v) := by
  unfold putG putK
  rw [r.any k]
  by_cases c : (qs.any fun kv => decide (kv.1 = k)) = true
  · rw [if_pos c, if_pos c]
    clear c
    induction r with
    | nil => exact .nil
    | @cons p q _ _ h1 t ih =>
      rw [List.map_cons, List.map_cons]
      refine .cons ?_ ih
      by_cases e : p.1 = k
      · rw [if_pos e, if_pos (h1.1 ▸ e)]; exact ⟨h1.1, h⟩
      · rw [if_neg e, if_neg (fun z => e (h1.1.trans z))]; exact h1
  · rw [if_neg c, if_neg c]
    exact Paired.snoc r ⟨rfl, h⟩
theorem PR.mergeK {more : List (Key × D)} {rs : List (Key × V)} (r : PR K B H more rs) : ∀ {ps : List (Key × D)} {qs : List (Key × V)}, PR K B H ps qs → PR K B H (mergeG ps more) (L2.mergeK qs rs) := by
  induction r with
  | nil => intro ps qs r0; exact r0
  | @cons p q _ _ h t ih =>
    intro ps qs r0
    refine ih ?_
    have := r0.put p.1 h.2
    show PR K B H (putG ps p.1 p.2) (putK qs q.1 q.2)
    rw [← h.1]; exact this
theorem PR.mergeT {more : List (List Key × D)} {rs : List (List Key × V)} (r : PR K B H more rs) : ∀ {ps : List (List Key × D)} {qs : List (List Key × V)}, PR K B H ps qs → PR K B H (mergeG ps more) (L2.mergeT qs rs) := by
  induction r with
  | nil => intro ps qs r0; exact r0
  | @cons p q _ _ h t ih =>
    intro ps qs r0
    refine ih ?_
    have := r0.put p.1 h.2
    show PR K B H (putG ps p.1 p.2) (putK qs q.1 q.2)
    rw [← h.1]; exact this
theorem PR.split {κ : Type} {f : κ → D} {ps : List (κ × D)} {qs : List (κ × V)} (r : PR K B H ps qs) : (ps.map fun p => (f p.1, p.2)).map (·.1) = qs.map (fun e => f e.1) ∧ RepA K B H ((ps.map fun p => (f p.1, p.2)).map (·.2)) (qs.map (·.2)) := by
  induction r with
  | nil => exact ⟨rfl, .nil⟩
  | cons h t ih =>
    simp only [List.map_cons]
    exact ⟨by rw [ih.1, h.1], .cons h.2 ih.2⟩
/-- a pair's parts -/
theorem pair_inv {k v : D} {u : V} (h : Rep K B H (.tuple [k, v]) u) : ∃ p x y, u = .ref p ∧ H p = some (.tup [x, y]) ∧ Rep K B H k x ∧ Rep K B H v y := by
  cases h with
  | tup s q =>
    cases q with
    | cons a b =>
      cases b with
      | cons c e =>
        cases e
        exact ⟨_, _, _, rfl, s, a, c⟩
theorem pairsK_inv : ∀ {ds : List D} {us : List V} {ps : List (Key × D)}, RepA K B H ds us → pairsOf keyOf ds = some ps → ∃ (as : List Addr) (kvs : List (Key × V)), us = as.map V.ref ∧ Paired (fun p kv => SqT K H p [kV kv.1, kv.2]) as kvs ∧ PR K B H ps kvs
  | [], _, ps, h, e => by cases h; cases e; exact ⟨[], [], rfl, .nil, .nil⟩
  | d :: ds, _, ps, h, e => by
    cases h with
    | @cons _ u _ us a b =>
      unfold pairsOf at e
      split at e
      · rename_i h1; cases h1
      · rename_i k v r h1
        cases h1
        split at e
        · rename_i k' r' e1 e2
          cases e
          obtain ⟨as, kvs, rfl, p1, p2⟩ := pairsK_inv b e2
          obtain ⟨p, x, y, rfl, s, q1, q2⟩ := pair_inv a
          rw [keyOf_some e1] at q1
          have hx : x = kV k' := by
            cases k' with
            | inl i => cases q1; rfl
            | inr z => cases q1; rfl
          subst hx
          exact ⟨p :: as, (k', y) :: kvs, rfl, .cons (SqT.of s) p1, .cons ⟨rfl, q2⟩ p2⟩
        · cases e
      · cases e
theorem pairsT_inv : ∀ {ds : List D} {us : List V} {ps : List (List Key × D)}, RepA K B H ds us → pairsOf keyTOf ds = some ps →
    ∃ (as : List Addr) (kvs : List (List Key × V)), us = as.map V.ref ∧ Paired (fun p kv => ∃ kb, H kb = some (.tup (kv.1.map kV)) ∧ SqT K H p [.ref kb, kv.2]) as kvs ∧ PR K B H ps kvs
  | [], _, ps, h, e => by cases h; cases e; exact ⟨[], [], rfl, .nil, .nil⟩
  | d :: ds, _, ps, h, e => by
    cases h with
    | @cons _ u _ us a b =>
      unfold pairsOf at e
      split at e
      · rename_i h1; cases h1
      · rename_i k v r h1
        cases h1
        split at e
        · rename_i k' r' e1 e2
          cases e
          obtain ⟨as, kvs, rfl, p1, p2⟩ := pairsT_inv b e2
          obtain ⟨p, x, y, rfl, s, q1, q2⟩ := pair_inv a
          rw [keyTOf_some e1] at q1
          unfold keyT at q1
          cases q1 with
          | @tup kb xs _ sk qk =>
            have := repA_keys_inv qk
            subst this
            exact ⟨p :: as, (k', y) :: kvs, rfl, .cons ⟨kb, sk, SqT.of s⟩ p1, .cons ⟨rfl, q2⟩ p2⟩
        · cases e
      · cases e
end
section
variable {X : Cx} {T : Addr → Prop} {r : Bool}
/-- dict(xs) of a list of pairs -/
def rDictP (K : PySem.W.Frag) : List V → Hp → VK → Prop := fun xs H Q => (∃ (a : Addr) (ps : List Addr) (kvs : List (Key × V)), xs = [.ref a] ∧ SqL K H a (ps.map V.ref) ∧ Paired (fun p kv => SqT K H p [kV kv.1, kv.2]) ps kvs ∧
    ∀ p, H p = none → Q (.ref p) (upd H p (.dK (mergeK [] kvs)))) ∨ rDictPT K xs H Q
theorem cr_dictP (hc : X.calm = true) (hu : X.A.units + 2 < cLine) : CallR X (.type "dict") (rDictP X.K) := (call_dictP hc).or (call_dictPT hc hu)
theorem v_dictP : CallF X T r (rDictP X.K) dictPD := by
  intro F σ H st xs ds d Q R q e k
  unfold dictPD at e
  split at e
  · obtain ⟨v, rfl, q2⟩ := RepL.one q
    obtain ⟨a, us, rfl, s1, p1⟩ := q2.isL
    split at e
    · rename_i ps ep
      cases e
      obtain ⟨as, kvs, rfl, h1, h2⟩ := pairsK_inv p1 ep
      refine .inl ⟨a, as, kvs, rfl, .inl s1, h1, fun p hp => k _ p hp ?_⟩
      obtain ⟨e1, e2⟩ := (h2.mergeK (ps := []) (qs := []) .nil).split (f := keyD)
      exact .dK e1 e2
    · split at e
      · rename_i ps ep
        cases e
        obtain ⟨as, kvs, rfl, h1, h2⟩ := pairsT_inv p1 ep
        refine .inr ⟨a, as, kvs, rfl, .inl s1, h1, fun p hp => k _ p hp ?_⟩
        obtain ⟨e1, e2⟩ := (h2.mergeT (ps := []) (qs := []) .nil).split (f := keyT)
        exact .dT e1 e2
      · cases e
  · cases e
/-! list(d) -/
def keysD : List D → Option D
  | [.dict kvs] => some (.list (kvs.map (·.1)))
  | _ => none
def rListKD : List V → Hp → VK → Prop := fun xs H Q => (∃ (a : Addr) (kvs : List (Key × V)), xs = [.ref a] ∧ Rd H a (.dK kvs) ∧ ∀ p, H p = none → Q (.ref p) (upd H p (.lst (kvs.map fun kv => kV kv.1)))) ∨
  (∃ d kvs, xs = [V.ref d] ∧ Rd H d (.dT kvs) ∧ ∀ p bs, H p = none → IsKeys H kvs bs → Q (.ref p) (upd H p (.lst (bs.map V.ref))))
theorem cr_listKD (hc : X.calm = true) : CallR X (.type "list") rListKD := (call_listD hc).or (call_list_dT hc)
theorem repA_isKeys {K : PySem.W.Frag} {B : Addr → Prop} {H : Hp} : ∀ {kvs : List (List Key × V)} {bs : List Addr}, IsKeys H kvs bs → RepA K B H (kvs.map fun e => keyT e.1) (bs.map V.ref)
  | _, _, .nil => .nil
  | _, _, .cons h t => .cons (.tup h (repA_keys _)) (repA_isKeys t)
theorem dict_rd {K : PySem.W.Frag} {B : Addr → Prop} {H : Hp} {kvs : List (D × D)} {v : V} (h : RepR r K B H (.dict kvs) v) :
    (∃ a es, v = .ref a ∧ Rd H a (.dK es) ∧ kvs.map (·.1) = es.map (fun e => keyD e.1) ∧ RepA K B H (kvs.map (·.2)) (es.map (·.2))) ∨ ∃ a es, v = .ref a ∧ Rd H a (.dT es) ∧ kvs.map (·.1) = es.map (fun e => keyT e.1) ∧ RepA K B H (kvs.map (·.2)) (es.map (·.2)) := by
  rcases h with h | ⟨_, a, rfl, h⟩
  · cases h with
    | dK s n e q => exact .inl ⟨_, _, rfl, s, e, q⟩
    | dT s n e q => exact .inr ⟨_, _, rfl, s, e, q⟩
  · cases h with
    | dK s e q => exact .inl ⟨_, _, rfl, .inl s, e, q⟩
    | dT s e q => exact .inr ⟨_, _, rfl, .inl s, e, q⟩
theorem v_listKD : CallF X T r rListKD keysD := by
  intro F σ H st xs ds d Q R q e k
  unfold keysD at e
  split at e
  · cases e
    obtain ⟨v, rfl, q2⟩ := RepL.one q
    rcases dict_rd q2 with ⟨a, es, rfl, s, e1, q3⟩ | ⟨a, es, rfl, s, e1, q3⟩
    · refine .inl ⟨a, es, rfl, s, fun p hp => k _ p hp ?_⟩
      rw [e1]
      have : RepA X.K (Bd F σ st) H (es.map fun e => keyD e.1) (es.map fun kv => kV kv.1) := by
        have := repA_keys (K := X.K) (B := Bd F σ st) (H := H) (es.map (·.1))
        rw [List.map_map, List.map_map] at this
        exact this
      exact .lst this
    · refine .inr ⟨a, es, rfl, s, fun p bs hp hk => k _ p hp ?_⟩
      rw [e1]
      exact .lst (repA_isKeys hk)
  · cases e
end
end Vs

set_option Elab.async false
set_option linter.all false
set_option maxRecDepth 100000
set_option maxHeartbeats 4000000
namespace Vs
open PySem PySem.Spec PyProof.Rows L2

/-! ### several values at once, some of them new lists or dicts -/
abbrev Fs (F : Addr → Prop) (as : List Addr) : Addr → Prop := fun b => F b ∨ b ∈ as
inductive PRel (K : PySem.W.Frag) (B : Addr → Prop) (H : Hp) : List Bool → List D → List V → List Addr → Prop
  | nil : PRel K B H [] [] [] []
  | cl {d : D} {v : V} {ks : List Bool} {ds : List D} {vs : List V} {as : List Addr} : Rep K B H d v → PRel K B H ks ds vs as → PRel K B H (false :: ks) (d :: ds) (v :: vs) as
  | fr {d : D} {a : Addr} {ks : List Bool} {ds : List D} {vs : List V} {as : List Addr} : OwnRep K B H d a → a ∉ as → PRel K B H ks ds vs as → PRel K B H (true :: ks) (d :: ds) (.ref a :: vs) (a :: as)
theorem PRel.step {K : PySem.W.Frag} {B B' : Addr → Prop} {H H' : Hp} (k : Kp (fun _ => False) H H') (hB : ∀ b, B' b → B b ∨ H b = none) : ∀ {ks : List Bool} {ds : List D} {vs : List V} {as : List Addr}, PRel K B H ks ds vs as → PRel K B' H' ks ds vs as
  | _, _, _, _, .nil => .nil
  | _, _, _, _, .cl a b => .cl (a.step k (fun _ z => z.elim) hB) (b.step k hB)
  | _, _, _, _, .fr a n b => .fr (a.step k (fun _ z => z.elim) hB fun z => z) n (b.step k hB)
theorem PRel.length {K : PySem.W.Frag} {B : Addr → Prop} {H : Hp} : ∀ {ks : List Bool} {ds : List D} {vs : List V} {as : List Addr}, PRel K B H ks ds vs as → vs.length = ks.length
  | _, _, _, _, .nil => rfl
  | _, _, _, _, .cl _ b => by rw [List.length_cons, List.length_cons, b.length]
  | _, _, _, _, .fr _ _ b => by rw [List.length_cons, List.length_cons, b.length]
def RPa (X : Cx) (T : Addr → Prop) (W : Wx) (m : Bool) (ks : List Bool) (F : Addr → Prop) (σ : St) (H : Hp) (st : Sts) (Q : List V → Hp → Prop) : Res (List D) → Prop
  | .ok ds st' => ∀ vs as H', RepS X.K T (Fs F as) H' σ st' → (∀ a ∈ as, ¬ Bd F σ st' a) → XGo m σ H H' st st' → PRel X.K (Bd (Fs F as) σ st') H' ks ds vs as → (∀ a ∈ as, H a = none) → Q vs H'
  | .exc c st' => ∀ H' C, X.mg c = some (.ref C) → RepS X.K T F H' σ st' → XGo true σ H H' st st' → W (.ref C) none σ H'
  | .bad => False
structure VPa (X : Cx) (T : Addr → Prop) (W : Wx) (m : Bool) (ks : List Bool) (es : List Expr) (f : Ea) : Prop where
  pa : PA X es (fun σ H Q => ∃ F st, RepS X.K T F H σ st ∧ RPa X T W m ks F σ H st Q (f st))
section
variable {X : Cx} {T F : Addr → Prop} {W : Wx} {m m1 m2 : Bool} {σ : St} {H : Hp} {st : Sts} {e : Expr} {es : List Expr} {f : Ev} {g : Ea} {ks : List Bool}
theorem RPa.excBack {Q Q' : List V → Hp → Prop} {ks' : List Bool} {H1 : Hp} {st1 : Sts} {c : Str} {st2 : Sts} {mm : Bool} (y : XGo mm σ H H1 st st1) (q : ∀ H' C, X.mg c = some (.ref C) → RepS X.K T F H' σ st2 → XGo true σ H H' st st2 → W (.ref C) none σ H') {F' : Addr → Prop} (hF : ∀ b, F b → F' b) :
    ∀ H' C, X.mg c = some (.ref C) → RepS X.K T F' H' σ st2 → XGo true σ H1 H' st1 st2 → W (.ref C) none σ H' :=
  fun H' C hc R y2 => q H' C hc (R.more hF) (y.tr y2 (fun _ => rfl) fun _ => rfl)
theorem VPa.nil : VPa X T W false [] [] aNil := ⟨pa_weak pa_nil fun σ H Q ⟨F, st, R, q⟩ => q [] [] H (R.more fun b z => z.elim id fun z => by cases z) (fun a h => by cases h) XGo.refl .nil fun a h => by cases h⟩
theorem VPa.consV (ha : VE X T W m1 false e f) (hb : VPa X T W m2 ks es g) (hs : starEach (e :: es) X.env = (false, eval e X.env) :: starEach es X.env := by rfl) : VPa X T W (m1 || m2) (false :: ks) (e :: es) (aCons f g) :=
  ⟨pa_weak (pa_cons ha.pe hb.pa hs) fun σ H Q ⟨F, st, R, q⟩ => by
    refine ⟨F, st, R, ?_⟩
    unfold aCons at q
    cases ef : f st with
    | exc c st1 => rw [ef] at q; exact q
    | bad => rw [ef] at q; exact q
    | ok d st1 =>
      rw [ef] at q
      intro v H1 R1 y1 rep
      refine ⟨F, st1, R1, ?_⟩
      have q : RPa X T W (m1 || m2) (false :: ks) F σ H st Q ((g st1).bind fun ds st2 => .ok (d :: ds) st2) := q
      cases eg : g st1 with
      | exc c st2 => rw [eg] at q; exact RPa.excBack (Q := Q) (Q' := Q) (ks' := ks) y1 q fun _ z => z
      | bad => rw [eg] at q; exact q.elim
      | ok ds st2 =>
        rw [eg] at q
        intro vs as H2 R2 n2 y2 p2 z2
        refine q (v :: vs) as H2 R2 n2 (y1.tr y2 orL orR) (.cl (rep.clean.step y2.kp (fun _ z => .inr z.2) fun b z => ?_) p2) fun a h => dom_back y1.kp (z2 a h)
        rcases z with (z | z) | z
        · exact .inl (.inl z)
        · exact .inr (z2 b z)
        · exact .inl (.inr (y2.sub b z))⟩
theorem VPa.consF (ha : VF X T W m1 e f) (hb : VPa X T W m2 ks es g) (hs : starEach (e :: es) X.env = (false, eval e X.env) :: starEach es X.env := by rfl) : VPa X T W (m1 || m2) (true :: ks) (e :: es) (aCons f g) :=
  ⟨pa_weak (pa_cons ha.pe hb.pa hs) fun σ H Q ⟨F, st, R, q⟩ => by
    refine ⟨F, st, R, ?_⟩
    unfold aCons at q
    cases ef : f st with
    | exc c st1 => rw [ef] at q; exact q
    | bad => rw [ef] at q; exact q
    | ok d st1 =>
      rw [ef] at q
      intro a H1 R1 n1 y1 o1 z1
      refine ⟨And1 F a, st1, R1, ?_⟩
      have q : RPa X T W (m1 || m2) (true :: ks) F σ H st Q ((g st1).bind fun ds st2 => .ok (d :: ds) st2) := q
      cases eg : g st1 with
      | exc c st2 => rw [eg] at q; exact fun H' C hc R y2 => q H' C hc (R.more fun _ z => .inl z) (y1.tr y2 (fun _ => rfl) fun _ => rfl)
      | bad => rw [eg] at q; exact q.elim
      | ok ds st2 =>
        rw [eg] at q
        intro vs as H2 R2 n2 y2 p2 z2
        have hFs : ∀ b, Fs F (a :: as) b → Fs (And1 F a) as b := fun b z => by
          rcases z with z | z
          · exact .inl (.inl z)
          · rcases List.mem_cons.mp z with z | z
            · exact .inl (.inr z)
            · exact .inr z
        have nM : ¬ (m2 = true ∧ Own σ st1 a) := fun z => n1 (.inr z.2)
        have naa : a ∉ as := fun h => o1.there (z2 a h)
        refine q (.ref a :: vs) (a :: as) H2 (R2.more hFs) (fun b hb => ?_) (y1.tr y2 orL orR) (.fr (o1.step y2.kp (fun _ z => .inr z.2) (fun b z => ?_) nM) naa (p2.step (Kp.refl (fun _ => False) H2) fun b z => .inl (z.imp (hFs b) id))) fun b hb => ?_
        · rcases List.mem_cons.mp hb with e | hb
          · rw [e]
            rintro (z | z)
            · exact n1 (.inl z)
            · exact n1 (.inr (y2.sub a z))
          · exact fun z => n2 b hb (z.imp (fun z => .inl z) id)
        · rcases z with (z | z) | z
          · exact .inl (.inl (.inl z))
          · rcases List.mem_cons.mp z with z | z
            · exact .inl (.inl (.inr z))
            · exact .inr (z2 b z)
          · exact .inl (.inr (y2.sub b z))
        · rcases List.mem_cons.mp hb with e | hb
          · rw [e]; exact z1
          · exact dom_back y1.kp (z2 b hb)⟩
end
/-! the names are set -/
def pSet : List Nat → List Bool → List D → Sts → Option Sts
  | [], [], [], st => some st
  | i :: is, k :: ks, d :: ds, st => if noPar st i = true then pSet is ks ds (st.set i (if k = true then .own d else .im d)) else none
  | _, _, _, _ => none
def setAll : List Nat → List V → St → St
  | i :: is, v :: vs, σ => setAll is vs (σ.set i (some v))
  | _, _, σ => σ
theorem set_all {K : PySem.W.Frag} {T F : Addr → Prop} {H H0 : Hp} {σ0 : St} {st0 st' : Sts} : ∀ {is : List Nat} {ks : List Bool} {ds : List D} {vs : List V} {as : List Addr} {σ : St} {st : Sts}, pSet is ks ds st = some st' →
    RepS K T (Fs F as) H σ st → PRel K (Bd (Fs F as) σ st) H ks ds vs as → (∀ a ∈ as, ¬ Bd F σ st a) → (∀ a ∈ as, H0 a = none) → SGo σ0 H0 st0 σ H st → RepS K T F H (setAll is vs σ) st' ∧ SGo σ0 H0 st0 (setAll is vs σ) H st'
  | [], ks, ds, vs, as, σ, st, e, R, p, n, z, y => by
    cases p with
    | nil =>
      simp [pSet] at e
      subst e
      exact ⟨R.more fun b z => .inl z, y⟩
    | cl _ _ => simp [pSet] at e
    | fr _ _ _ => simp [pSet] at e
  | i :: is, ks, ds, vs, as, σ, st, e, R, p, n, z, y => by
    cases p with
    | nil => simp [pSet] at e
    | @cl d v ks ds vs as rep p =>
      unfold pSet at e
      split at e
      · rename_i hn
        rw [if_neg Bool.false_ne_true] at e
        have oS : ∀ b, Own (σ.set i (some v)) (st.set i (.im d)) b → Own σ st b := fun b q => own_set_no (fun _ => ⟨(fun z => by cases z), fun z => by cases z⟩) q
        refine set_all (is := is) e (R.setV rep) (p.step (Kp.refl (fun _ => False) H) fun b q => .inl (q.imp id (oS b))) (fun a ha q => n a ha (q.imp id (oS a))) z (y.setV hn)
      · cases e
    | @fr d a ks ds vs as o na p =>
      unfold pSet at e
      split at e
      · rename_i hn
        rw [if_pos rfl] at e
        have hF1 : ∀ b, And1 (Fs F as) a b → Fs F (a :: as) b := fun b q => by
          rcases q with (q | q) | q
          · exact .inl q
          · exact .inr (List.mem_cons_of_mem _ q)
          · exact .inr (by rw [q]; exact List.mem_cons_self)
        have hF2 : ∀ b, Fs F (a :: as) b → And1 (Fs F as) a b := fun b q => by
          rcases q with q | q
          · exact .inl (.inl q)
          · rcases List.mem_cons.mp q with q | q
            · exact .inr q
            · exact .inl (.inr q)
        have R1 : RepS K T (And1 (Fs F as) a) H σ st := R.more hF1
        have na1 : ¬ Bd (Fs F as) σ st a := by
          rintro ((q | q) | q)
          · exact n a List.mem_cons_self (.inl q)
          · exact na q
          · exact n a List.mem_cons_self (.inr q)
        have o1 : OwnRep K (Bd (And1 (Fs F as) a) σ st) H d a := o.step (Kp.refl (fun _ => False) H) (fun _ z => z.elim) (fun b q => .inl (q.imp (hF1 b) id)) fun z => z
        have oS : ∀ b, Own (σ.set i (some (.ref a))) (st.set i (.own d)) b → Own σ st b ∨ b = a := fun b q => by
          rcases own_set q with q | ⟨_, q, _⟩
          · exact .inl q
          · cases q; exact .inr rfl
        refine set_all (is := is) e (R1.setW na1 o1) (p.step (Kp.refl (fun _ => False) H) fun b q => .inl ?_) (fun b hb q => ?_) (fun b hb => z b (List.mem_cons_of_mem _ hb)) (y.setW hn (z a List.mem_cons_self))
        · rcases q with (q | q) | q
          · exact .inl (.inl q)
          · exact .inl (.inr (List.mem_cons_of_mem _ q))
          · rcases oS b q with q | q
            · exact .inr q
            · exact .inl (.inr (by rw [q]; exact List.mem_cons_self))
        · rcases q with q | q
          · exact n b (List.mem_cons_of_mem _ hb) (.inl q)
          · rcases oS b q with q | q
            · exact n b (List.mem_cons_of_mem _ hb) (.inr q)
            · exact na (by rw [← q]; exact hb)
      · cases e
def sPar (is : List Nat) (ks : List Bool) (fa : Ea) : Es' := fun st => bindS (fa st) fun ds st1 => match pSet is ks ds st1 with
  | some st2 => .nx st2
  | none => .bad
section
variable {X : Cx} {T F : Addr → Prop} {W : Wx} {m : Bool} {σ : St} {H : Hp} {st : Sts} {D : Ends} {fa : Ea} {ks : List Bool} {is : List Nat} {pt pos : Pos} {kt k2 : Nat} {pt2 : Pos}
theorem par_read {Q : List V → Hp → Prop} (R : RepS X.K T F H σ st) (q : RS X T W F σ H st D (sPar is ks fa st)) (hQ : ∀ vs H' (as : List Addr) st', vs.length = ks.length → RepS X.K T F H' (setAll is vs σ) st' → SGo σ H st (setAll is vs σ) H' st' → RS X T W F σ H st D (.nx st') → Q vs H') : ∃ F st, RepS X.K T F H σ st ∧ RPa X T W m ks F σ H st Q (fa st) := by
  refine ⟨F, st, R, ?_⟩
  unfold sPar bindS at q
  cases e : fa st with
  | exc c st1 => rw [e] at q; exact fun H' C hc R y => q σ H' C hc R y.sgo
  | bad => rw [e] at q; exact q
  | ok ds st1 =>
    rw [e] at q
    intro vs as H' R' n y p z
    dsimp only at q
    cases ep : pSet is ks ds st1 with
    | none => rw [ep] at q; exact q.elim
    | some st2 =>
      rw [ep] at q
      obtain ⟨R2, y2⟩ := set_all ep R' p n z y.sgo
      exact hQ vs H' as st2 p.length R2 y2 q
theorem VS.par2 {i j : Nat} {x y : Str} {a b : Expr} {px py : Pos} {k1 kk2 : Bool} (hc : X.calm = true) (hN : X.N.Nodup) (hi : X.N[i]? = some x) (hj : X.N[j]? = some y) (hij : i ≠ j)
    (hx : X.env.scope.names.lookup x = some .local) (hy : X.env.scope.names.lookup y = some .local) (ha : VPa X T W m [k1, kk2] [a, b] fa)
    (hw : swappedStores [.Tuple [.Name x px, .Name y py] kt pt] (.Tuple [a, b] k2 pt2) X.env = pure (some [x, y]))
    (hs : swapsWithSole [.Tuple [.Name x px, .Name y py] kt pt] (.Tuple [a, b] k2 pt2) pos.line X.env = pure false := by rfl) :
    VS X T W (.Assign [.Tuple [.Name x px, .Name y py] kt pt] (.Tuple [a, b] k2 pt2) pos) (sPar [i, j] [k1, kk2] fa) :=
  ⟨ps_weak (ps_par hc hN hi hj hij hx hy ha.pa hw hs) fun D σ H ⟨F, st, R, q⟩ => par_read R q fun vs H' as st' hl R2 y2 q2 => by
    obtain ⟨v, u, rfl⟩ : ∃ v u, vs = [v, u] := by
      match vs, hl with
      | [v, u], _ => exact ⟨v, u, rfl⟩
    exact ⟨v, u, rfl, q2 _ H' R2 y2⟩⟩
theorem VS.par3 {i j l : Nat} {x y z : Str} {a b c : Expr} {px py pz : Pos} {k1 kk2 k3 : Bool} (hc : X.calm = true) (hN : X.N.Nodup) (hi : X.N[i]? = some x) (hj : X.N[j]? = some y) (hl : X.N[l]? = some z) (hij : i ≠ j) (hil : i ≠ l) (hjl : j ≠ l)
    (hx : X.env.scope.names.lookup x = some .local) (hy : X.env.scope.names.lookup y = some .local) (hz : X.env.scope.names.lookup z = some .local) (ha : VPa X T W m [k1, kk2, k3] [a, b, c] fa)
    (hw : swappedStores [.Tuple [.Name x px, .Name y py, .Name z pz] kt pt] (.Tuple [a, b, c] k2 pt2) X.env = pure (some [x, y, z]))
    (hs : swapsWithSole [.Tuple [.Name x px, .Name y py, .Name z pz] kt pt] (.Tuple [a, b, c] k2 pt2) pos.line X.env = pure false := by rfl) :
    VS X T W (.Assign [.Tuple [.Name x px, .Name y py, .Name z pz] kt pt] (.Tuple [a, b, c] k2 pt2) pos) (sPar [i, j, l] [k1, kk2, k3] fa) :=
  ⟨ps_weak (ps_par3 hc hN hi hj hl hij hil hjl hx hy hz ha.pa hw hs) fun D σ H ⟨F, st, R, q⟩ => par_read R q fun vs H' as st' hl R2 y2 q2 => by
    obtain ⟨v, u, w, rfl⟩ : ∃ v u w, vs = [v, u, w] := by
      match vs, hl with
      | [v, u, w], _ => exact ⟨v, u, w, rfl⟩
    exact ⟨v, u, w, rfl, q2 _ H' R2 y2⟩⟩
/-! through a tuple -/
structure VNs (X : Cx) (is : List Nat) (tgs : List Expr) : Prop where
  pg : PGs X tgs (fun vs σ H Q => vs.length = is.length ∧ Q (setAll is vs σ) H)
theorem VNs.nil : VNs X [] [] := ⟨pgs_weak pgs_nil fun vs σ H Q ⟨hl, q⟩ => by
  have : vs = [] := List.eq_nil_of_length_eq_zero hl
  subst this
  exact ⟨rfl, q⟩⟩
theorem VNs.cons {i : Nat} {x : Str} {px : Pos} {tgs : List Expr} (hN : X.N.Nodup) (hi : X.N[i]? = some x) (hx : Loc X.env.scope x) (h : VNs X is tgs) (hs : (assignEach (.Name x px :: tgs) X.env).map (·.2) = assign (.Name x px) X.env :: (assignEach tgs X.env).map (·.2) := by rfl)
    (hf : X.fn x = true ∨ X.env.scope.names.lookup x = some .local := by first | exact .inl rfl | exact .inr rfl | assumption) : VNs X (i :: is) (.Name x px :: tgs) := ⟨pgs_weak (pgs_cons (pg_name hN hi hx hf) h.pg hs) fun vs σ H Q ⟨hl, q⟩ => by
  cases vs with
  | nil => cases hl
  | cons v vs => exact ⟨v, vs, rfl, by simpa using hl, q⟩⟩
theorem VS.parT {tgs es : List Expr} {n : Nat} (hc : X.calm = true) (ha : VPa X T W m ks es fa) (hg : VNs X is tgs) (hk : ks.length = is.length) (hk2 : is.length = n) (hz : n ≤ sizeLine) (hn : (assignEach tgs X.env).length = n := by rfl) (hst : (assignEach tgs X.env).findIdx? (·.1) = none := by rfl)
    (hs : swapsWithSole [.Tuple tgs kt pt] (.Tuple es k2 pt2) pos.line X.env = pure false := by rfl) (hw : swappedStores [.Tuple tgs kt pt] (.Tuple es k2 pt2) X.env = pure none := by rfl)
    (h1 : (assignEach [.Tuple tgs kt pt] X.env).map (·.2) = [assign (.Tuple tgs kt pt) X.env] := by rfl) : VS X T W (.Assign [.Tuple tgs kt pt] (.Tuple es k2 pt2) pos) (sPar is ks fa) :=
  ⟨ps_weak (ps_asg (pe_tup ha.pa) (pg_tup hc hg.pg hn hst) hs hw h1) fun D σ H ⟨F, st, R, q⟩ => par_read R q fun vs H' as st' hl R2 y2 q2 => by
    have hl' : vs.length = n := by rw [hl, hk, hk2]
    refine ⟨by omega, fun t ht => ⟨t, vs, rfl, SqT.of upd_same, hl', by rw [hl, hk], ?_⟩⟩
    have k0 : Kp (Own (setAll is vs σ) st') H' (upd H' t (.tup vs)) := Kp.upd ht
    exact q2 _ _ (R2.upd ht) (y2.trans ⟨k0, fun _ z => .inl z, fun j x h => ⟨x, h, rfl⟩⟩)⟩
end
end Vs

set_option Elab.async false
set_option linter.all false
set_option maxRecDepth 100000
set_option maxHeartbeats 4000000
namespace Vs
open PySem PySem.Spec PyProof.Rows L2

/-! ### what changes an owned list -/
def getL (st : Sts) (i : Nat) : Option (List D) := match getO st i with
  | some (.list ds) => some ds
  | _ => none
theorem getL_some {st : Sts} {i : Nat} {ds : List D} (h : getL st i = some ds) : getO st i = some (.list ds) := by
  unfold getL at h
  split at h
  · rename_i e; cases h; exact e
  · cases h
/-- go: the content and the arguments give the result and the new content -/
def MutL (X : Cx) (rr : V → List V → Hp → VK → Prop) (go : List D → List D → Option (D × List D)) : Prop :=
  ∀ (B : Addr → Prop) (H : Hp) (a : Addr) (us xs : List V) (cs ds cs' : List D) (res : D) (Q : VK), H a = some (.lst us) → RepA X.K B H cs us → RepA X.K B H ds xs → go cs ds = some (res, cs') →
    (∀ us' v, RepA X.K B H cs' us' → Rep X.K B H res v → Q v (upd H a (.lst us'))) → rr (.ref a) xs H Q
def mOn (i : Nat) (go : List D → List D → Option (D × List D)) (fa : Ea) : Ev := fun st => if (getL st i).isSome = true then (fa st).bind fun ds st1 => match getL st1 i with
  | some cs => match go cs ds with
    | some (res, cs') => .ok res (setO st1 i (.list cs'))
    | none => .bad
  | none => .bad else .bad
section
variable {X : Cx} {T F : Addr → Prop} {W : Wx} {m r : Bool} {σ : St} {H H' : Hp} {st : Sts} {Q : VK} {e : Expr} {es : List Expr} {fa : Ea} {i : Nat} {x : Str} {p apos pos : Pos} {go : List D → List D → Option (D × List D)} {rr : V → List V → Hp → VK → Prop}
theorem own_list {ds : List D} (R : RepS X.K T F H σ st) (h : getL st i = some ds) : ∃ a us, σ[i]? = some (some (.ref a)) ∧ ¬ F a ∧ H a = some (.lst us) ∧ RepA X.K (Bd F σ st) H ds us := by
  obtain ⟨a, e1, n, o⟩ := R.ow i _ (getL_some h)
  cases o with
  | lst s q => exact ⟨a, _, e1, n, s, q⟩
theorem mut_fin {a : Addr} {xs : List V} {ds : List D} {st1 : Sts} {H1 : Hp} (hm : MutL X rr go) (R1 : RepS X.K T F H1 σ st1) (y1 : XGo m σ H H1 st st1) (ha : σ[i]? = some (some (.ref a))) (hx : RepA X.K (Bd F σ st1) H1 ds xs)
    (q : RV X T W true r F σ H st Q (match getL st1 i with
      | some cs => match go cs ds with
        | some (res, cs') => .ok res (setO st1 i (.list cs'))
        | none => .bad
      | none => .bad)) : rr (.ref a) xs H1 Q := by
  cases eg : getL st1 i with
  | none => rw [eg] at q; exact q.elim
  | some cs =>
    rw [eg] at q
    obtain ⟨b, us, e1, nF, hb, rc⟩ := own_list R1 eg
    rw [ha] at e1; cases e1
    dsimp only at q
    cases ego : go cs ds with
    | none => rw [ego] at q; exact q.elim
    | some z =>
      obtain ⟨res, cs'⟩ := z
      rw [ego] at q
      refine hm (Bd F σ st1) H1 a us xs cs ds cs' res Q hb rc hx ego fun us' v ru rv => ?_
      have hi := getL_some eg
      have mu : Mut (H1 a) := by rw [hb]; trivial
      have k : Kp (fun b => b = a) H1 (upd H1 a (.lst us')) := Kp.put1 mu
      have hM : ∀ b, b = a → Bd F σ st1 b := fun b e => .inr ⟨i, _, hi, by rw [e]; exact ha⟩
      have R2 := R1.put (d := .list cs') hi ha k (fun P _ h => tab_put mu h) (.lst upd_same (ru.step k hM fun b z => .inl z))
      have y2 : XGo true σ H1 (upd H1 a (.lst us')) st1 (setO st1 i (.list cs')) := XGo.put hi ha k
      exact q v _ R2 (y1.tr y2 (fun _ => rfl) fun z => z) (.inl (rv.step k hM fun b z => .inl (z.imp id (own_setO hi).mp)))
theorem VE.mOn {id : String} {name : Str} (pa : PlainAttrs "list") (slot : Slot "list" name id) (hty : typeOf (.builtin id) = pure (.type "method_descriptor")) (hmt : MtR X id rr) (hm : MutL X rr go)
    (hN : X.N[i]? = some x) (hv : Vis X.env.scope x) (ha : VA X T W m false (e :: es) fa) (hd : (x == ("__debug__" : Str)) = false := by decide) (hcd : (x == ("__classdict__" : Str)) = false := by decide)
    (hbase : attributeBase (.Name x p) name X.env (eval (.Name x p) X.env) = eval (.Name x p) X.env := by rfl)
    (hfew : ((backTo pos (starEach (e :: es) X.env)).all (fun x => !x.1) && (backToKw pos (keywordEach [] X.env)).all (fun x => x.1.isSome)
      && decide ((e :: es).length + ([] : List Keyword).length + (if ([] : List Keyword).isEmpty then 0 else 1) < 30)) = true := by rfl)
    (hline : (apos.endLine == pos.line) = true := by rfl) (hs : starEach (e :: es) X.env = (false, eval e X.env) :: starEach es X.env := by rfl) (hplain : (backTo pos (starEach es X.env)).any (·.1) = false := by rfl) :
    VE X T W true r (.Call (.Attribute (.Name x p) name apos) (e :: es) [] pos) (Vs.mOn i go fa) :=
  ⟨pe_weak (pe_bm pa slot hty hmt (pe_var hN hv hd hcd) ha.pa hbase hfew hline hs hplain) fun σ H Q ⟨F, st, R, q⟩ => by
    unfold Vs.mOn at q
    split at q
    case isFalse => exact q.elim
    rename_i hsome
    obtain ⟨cs0, e0⟩ := Option.isSome_iff_exists.mp hsome
    obtain ⟨a, us, e1, nF, hb, rc⟩ := own_list R e0
    refine ⟨.ref a, e1, .inl ⟨rfl, us, .inl (.inl hb)⟩, ?_⟩
    refine tG.first (m0 := m) R q fun ds st1 vs H1 ef R1 y1 q1 h1 => ?_
    exact mut_fin hm R1 y1 e1 q1.clean h1⟩
theorem VE.mOn0 {id : String} {name : Str} (pa : PlainAttrs "list") (slot : Slot "list" name id) (hty : typeOf (.builtin id) = pure (.type "method_descriptor")) (hmt : MtR X id rr) (hm : MutL X rr go)
    (hN : X.N[i]? = some x) (hv : Vis X.env.scope x) (hd : (x == ("__debug__" : Str)) = false := by decide) (hcd : (x == ("__classdict__" : Str)) = false := by decide)
    (hbase : attributeBase (.Name x p) name X.env (eval (.Name x p) X.env) = eval (.Name x p) X.env := by rfl) (hline : (apos.endLine == pos.line) = true := by rfl) :
    VE X T W true r (.Call (.Attribute (.Name x p) name apos) [] [] pos) (Vs.mOn i go aNil) :=
  ⟨pe_weak (pe_bm0 pa slot hty hmt (pe_var hN hv hd hcd) hbase hline) fun σ H Q ⟨F, st, R, q⟩ => by
    unfold Vs.mOn at q
    split at q
    case isFalse => exact q.elim
    rename_i hsome
    obtain ⟨cs0, e0⟩ := Option.isSome_iff_exists.mp hsome
    obtain ⟨a, us, e1, nF, hb, rc⟩ := own_list R e0
    exact ⟨.ref a, e1, .inl ⟨rfl, us, .inl (.inl hb)⟩, mut_fin (m := false) hm R XGo.refl e1 .nil q⟩⟩
/-! append, pop -/
def goAppend (cs ds : List D) : Option (D × List D) := match ds with
  | [d] => if cs.length < sizeLine then some (.none, cs ++ [d]) else none
  | _ => none
theorem m_append : MutL X rAppend goAppend := by
  intro B H a us xs cs ds cs' res Q hb rc rx hg k
  unfold goAppend at hg
  split at hg
  · split at hg
    · rename_i h
      cases hg
      cases rx with
      | cons r1 r2 =>
        cases r2
        exact ⟨a, us, _, rfl, rfl, hb, by rw [← rc.length]; exact h, k _ .non (rc.append (.cons r1 .nil)) .non⟩
    · cases hg
  · cases hg
def goPop (cs ds : List D) : Option (D × List D) := match ds with
  | [] => (cs[cs.length - 1]?).map fun d => (d, cs.dropLast)
  | _ => none
theorem m_pop : MutL X rPop goPop := by
  intro B H a us xs cs ds cs' res Q hb rc rx hg k
  unfold goPop at hg
  split at hg
  · cases rx
    simp only [Option.map_eq_some_iff] at hg
    obtain ⟨d, e, e2⟩ := hg
    cases e2
    obtain ⟨v, ev, rv⟩ := rc.getD e
    exact ⟨a, us, v, rfl, rfl, hb, by rw [← rc.length]; exact ev, k _ v rc.dropLast rv⟩
  · cases hg
def goPopAt (cs ds : List D) : Option (D × List D) := match ds with
  | [.int j] => if -(2 ^ 63) ≤ j ∧ j < 2 ^ 63 then (seqIndex? j cs.length).bind fun k => (cs[k]?).map fun d => (d, cs.eraseIdx k) else none
  | _ => none
theorem m_popAt : MutL X rPopAt goPopAt := by
  intro B H a us xs cs ds cs' res Q hb rc rx hg k
  unfold goPopAt at hg
  split at hg
  · split at hg
    · rename_i h
      simp only [Option.bind_eq_some_iff, Option.map_eq_some_iff] at hg
      obtain ⟨kk, e0, d, e, e2⟩ := hg
      cases e2
      obtain ⟨v, ev, rv⟩ := rc.getD e
      cases rx with
      | cons r1 r2 =>
        cases r2
        cases r1
        exact ⟨a, us, _, kk, v, rfl, rfl, hb, h.1, h.2, by rw [← rc.length]; exact e0, ev, k _ v (rc.eraseIdx kk) rv⟩
    · cases hg
  · cases hg

/-! ### x op= e for ints -/
def sAug (i : Nat) (g : D → D → Option D) (fe : Ev) : Es' := fun st => match st[i]? with
  | some (.im d) => bindS (fe st) fun y st1 => match g d y with
    | some z => if noPar st1 i = true then .nx (st1.set i (.im z)) else .bad
    | none => .bad
  | _ => .bad
/-- in place: what is read first stands while e is told -/
def AugV (X : Cx) (ti : TIp) (g : D → D → Option D) : Prop := ∀ (T F : Addr → Prop) (σ : St) (H : Hp) (st : Sts) (x y : V) (dx dy d : D) (Q : VK), RepS X.K T F H σ st → Rep X.K (Bd F σ st) H dx x → Rep X.K (Bd F σ st) H dy y → g dx dy = some d → Fin' X T F σ H st d Q → ti x y H Q
theorem VS.aug {op : Operator} {ti : TIp} {g : D → D → Option D} {fe : Ev} {pos' : Pos} (hN : X.N.Nodup) (hi : X.N[i]? = some x) (hx : Loc X.env.scope x) (he : VE X T W m false e fe) (ho : PIp X op ti) (hg : AugV X ti g)
    (hf : X.fn x = true ∨ X.env.scope.names.lookup x = some .local := by first | exact .inl rfl | exact .inr rfl | assumption) : VS X T W (.AugAssign (.Name x pos') op e pos) (sAug i g fe) :=
  ⟨ps_weak (ps_aug hN hi hx he.pe ho hf) fun D σ H ⟨F, st, R, q⟩ => by
    unfold sAug at q
    split at q
    · rename_i d0 e0
      obtain ⟨v0, e1, r0⟩ := R.im i d0 e0
      refine ⟨v0, e1, tG.firstS R q fun y st1 v H1 ef R1 y1 q1 h1 => ?_⟩
      split at h1
      · rename_i z hz
        split at h1
        · rename_i hn
          have r1 : Rep X.K (Bd F σ st1) H1 d0 v0 := r0.step y1.kp (fun _ z => .inr z.2) fun b z => .inl (z.imp id (y1.sub b))
          refine hg T F σ H1 st1 v0 v d0 y z _ R1 r1 q1.clean hz fun w H2 R2 k2 rw' => ?_
          exact h1 _ _ (R2.setV rw') ((y1.then k2).sgo.setV hn)
        · exact h1.elim
      · exact h1.elim
    · exact q.elim⟩
theorem av_add : AugV X (ipI fun i j => i + j) (ii tt2 fun i j => .int (i + j)) := by
  intro T F σ H st x y dx dy d Q R rx ry e k
  obtain ⟨i, j, rfl, rfl, c, rfl⟩ := ii_some e
  cases rx; cases ry
  exact ⟨i, j, rfl, rfl, k.flat R (.int _)⟩
theorem av_sub : AugV X (ipI fun i j => i - j) (ii tt2 fun i j => .int (i - j)) := by
  intro T F σ H st x y dx dy d Q R rx ry e k
  obtain ⟨i, j, rfl, rfl, c, rfl⟩ := ii_some e
  cases rx; cases ry
  exact ⟨i, j, rfl, rfl, k.flat R (.int _)⟩
/-! ### (a, b, ..) = e -/
def sUn (g : D → Sts → Option Sts) (fe : Ev) : Es' := fun st => bindS (fe st) fun d st1 => match g d st1 with
  | some st2 => .nx st2
  | none => .bad
theorem VS.unp {sl : List Nat} {tg : Expr} {g : D → Sts → Option Sts} {fe : Ev} (he : VE X T W m false e fe) (hg : VG X T sl tg g) (hs : swapsWithSole [tg] e pos.line X.env = pure false := by rfl) (hw : swappedStores [tg] e X.env = pure none := by rfl)
    (h1 : (assignEach [tg] X.env).map (·.2) = [assign tg X.env] := by rfl) : VS X T W (.Assign [tg] e pos) (sUn g fe) :=
  ⟨ps_weak (ps_asg he.pe hg.pg hs hw h1) fun D σ H ⟨F, st, R, q⟩ => tG.firstS R q fun d st1 v H1 ef R1 y1 q1 h1 => by
    split at h1
    · rename_i st2 e2
      exact ⟨F, st1, d, st2, R1, q1.clean, e2, fun σ' R' y' _ => h1 σ' H1 R' (y1.sgo.trans y')⟩
    · exact h1.elim⟩
end
end Vs

set_option Elab.async false
set_option linter.all false
set_option maxRecDepth 100000
set_option maxHeartbeats 4000000
namespace Vs
open PySem PySem.Spec PyProof.Rows L2

/-! ### list comprehensions that change nothing -/
/-- what one item gives: nothing or one -/
def cItem (g : D → Sts → Option Sts) (ft : Et) (fe : Ev) (st : Sts) (d : D) : Option (List D) := match g d st with
  | none => none
  | some st1 => match ft st1 with
    | .ok false _ => some []
    | .ok true _ => match fe st1 with
      | .ok y _ => some [y]
      | _ => none
    | _ => none
def flatM {α : Type} (it : α → Option (List D)) : List α → Option (List D)
  | [] => some []
  | a :: as => (it a).bind fun xs => (flatM it as).map (xs ++ ·)
def rList (st : Sts) : Option (List D) → Res D
  | some ys => if szL ys.length = true then .ok (.list ys) st else .bad
  | none => .bad
/-- [elt for tg in iter if ..] -/
def cmpP (vs : List Nat) (fi : Ei) (g : D → Sts → Option Sts) (ft : Et) (fe : Ev) : Ev := fun st => (fi st).bind fun ds st1 => if allUn vs st1 = true then rList st1 (flatM (cItem g ft fe st1) ds) else .bad
/-- what one item of the first clause gives -/
def cOuter (g : D → Sts → Option Sts) (ft : Et) (vs1 : List Nat) (fi1 : Ei) (g1 : D → Sts → Option Sts) (ft1 : Et) (fe : Ev) (st : Sts) (d : D) : Option (List D) := match g d st with
  | none => none
  | some st1 => match ft st1 with
    | .ok false _ => some []
    | .ok true _ => match fi1 st1 with
      | .ok es _ => if allUn vs1 st1 = true then flatM (cItem g1 ft1 fe st1) es else none
      | _ => none
    | _ => none
/-- [elt for tg in iter if .. for tg1 in iter1 if ..] -/
def cmpP2 (vs vs1 : List Nat) (fi : Ei) (g : D → Sts → Option Sts) (ft : Et) (fi1 : Ei) (g1 : D → Sts → Option Sts) (ft1 : Et) (fe : Ev) : Ev := fun st => (fi st).bind fun ds st1 => if allUn vs st1 = true then rList st1 (flatM (cOuter g ft vs1 fi1 g1 ft1 fe st1) ds) else .bad
theorem flatM_len {α : Type} {it : α → Option (List D)} {a : α} {as : List α} {ys : List D} (h : flatM it (a :: as) = some ys) : ∃ xs zs, it a = some xs ∧ flatM it as = some zs ∧ ys = xs ++ zs := by
  unfold flatM at h
  simp only [Option.bind_eq_some_iff, Option.map_eq_some_iff] at h
  obtain ⟨xs, e1, zs, e2, e3⟩ := h
  exact ⟨xs, zs, e1, e2, e3.symm⟩
/-- the block's state: its list at p holds acc -/
structure CB (X : Cx) (T F : Addr → Prop) (p : Addr) (σ : St) (st : Sts) (H0 : Hp) (acc : List D) (H : Hp) : Prop where
  rep : RepS X.K T (And1 F p) H σ st
  kp : Kp (fun b => b = p) H0 H
  lst : ∃ us, H p = some (.lst us) ∧ RepA X.K (Bd (And1 F p) σ st) H acc us
section
variable {X : Cx} {T F : Addr → Prop} {σ : St} {H H0 : Hp} {st : Sts} {g : D → Sts → Option Sts} {ft : Et} {fe : Ev} {vs sl : List Nat} {p : Addr} {acc : List D}
theorem CB.kept {H' : Hp} (b : CB X T F p σ st H0 acc H) (k : Kp (fun _ => False) H H') (t : ∀ P, T P → GxR.TabG H P → GxR.TabG H' P) : CB X T F p σ st H0 acc H' := by
  obtain ⟨us, e1, e2⟩ := b.lst
  exact ⟨b.rep.kept k t, b.kp.trans k fun _ z => z.elim, us, k.at' _ _ e1 (fun z => z), e2.step k (fun _ z => z.elim) fun _ z => .inl z⟩
theorem CB.to {σ' : St} {st' : Sts} (b : CB X T F p σ st H0 acc H) (R : RepS X.K T (And1 F p) H σ' st') (h : ∀ c, Own σ' st' c → Own σ st c) : CB X T F p σ' st' H0 acc H := by
  obtain ⟨us, e1, e2⟩ := b.lst
  exact ⟨R, b.kp, us, e1, e2.step (Kp.refl (fun _ => False) H) (fun _ z => z.elim) fun c z => .inl (z.imp id (h c))⟩
theorem CB.put {y : D} {v : V} (b : CB X T F p σ st H0 acc H) (ry : Rep X.K (Bd (And1 F p) σ st) H y v) : ∃ us, H p = some (.lst us) ∧ us.length = acc.length ∧ CB X T F p σ st H0 (acc ++ [y]) (upd H p (.lst (us ++ [v]))) := by
  obtain ⟨us, e1, e2⟩ := b.lst
  obtain ⟨Rg, hgr⟩ := b.rep.grow (ys := us ++ [v]) e1
  have k : Kp (fun c => c = p) H (upd H p (.lst (us ++ [v]))) := Kp.put1 (by rw [e1]; trivial)
  exact ⟨us, e1, e2.length.symm, Rg, b.kp.trans k fun _ z => .inl z, _, upd_same, hgr (e2.append (.cons ry .nil))⟩
/-- into a turn's slots and back -/
structure TurnS (X : Cx) (T F : Addr → Prop) (p : Addr) (vs : List Nat) (σ σ4 : St) (st st3 : Sts) : Prop where
  w : wipe σ4 vs = wipe σ vs
  back : ∀ {H0 H' : Hp} {acc : List D}, CB X T F p σ4 st3 H0 acc H' → CB X T F p σ st H0 acc H'
  own : ∀ c, Own σ4 st3 c → Own σ st c
theorem turn_in {gg : TG} {x : V} {d : D} (bk : Bk sl g) (hsl : ∀ i ∈ sl, i ∈ vs) (hun : allUn vs st = true)
    (hg : ∀ v σ H Q, (∃ F st d st', RepS X.K T F H σ st ∧ Rep X.K (Bd F σ st) H d v ∧ g d st = some st' ∧ ∀ σ', RepS X.K T F H σ' st' → SGo σ H st σ' H st' → (∀ vs, (∀ i ∈ sl, i ∈ vs) → wipe σ' vs = wipe σ vs) → Q σ' H) → gg v σ H Q)
    (b : CB X T F p σ st H0 acc H) (rd : Rep X.K (Bd (And1 F p) σ st) H d x) {st3 : Sts} (eg : g d st = some st3) {Q : St → Hp → Prop} (hQ : ∀ σ4, TurnS X T F p vs σ σ4 st st3 → CB X T F p σ4 st3 H0 acc H → Q σ4 H) : gg x (wipe σ vs) H Q := by
  obtain ⟨Rw, hOw⟩ := b.rep.slots (τ := wipe σ vs) (wipe_length σ vs) (wipe_agree hun)
  have rdw : Rep X.K (Bd (And1 F p) (wipe σ vs) st) H d x := rd.step (Kp.refl (fun _ => False) H) (fun _ z => z.elim) fun c z => .inl (z.imp id (hOw c).mp)
  obtain ⟨hback, hnp⟩ := wipes_back bk eg hsl hun
  refine hg x (wipe σ vs) H _ ⟨And1 F p, st, d, st3, Rw, rdw, eg, fun σ4 R4 y4 w4 => ?_⟩
  have hw4 : wipe σ4 vs = wipe σ vs := by
    rw [w4 vs hsl]
    have : ∀ (vs us : List Nat) (τ : St), (∀ i ∈ us, i ∈ vs) → wipe (wipe τ us) vs = wipe τ vs := by
      intro vs us
      induction us with
      | nil => intro τ _; rfl
      | cons u us ih =>
        intro τ h
        show wipe ((wipe τ us).set u none) vs = _
        rw [wipe_set (h u List.mem_cons_self), ih τ fun i hi => h i (List.mem_cons_of_mem _ hi)]
    exact this vs vs σ fun _ z => z
  have agree : ∀ (j : Nat) s, st[j]? = some s → s ≠ .un → σ[j]? = σ4[j]? := fun j s e n => by
    rw [← wipe_agree (σ := σ) hun j s e n, ← hw4, wipe_agree (σ := σ4) hun j s e n]
  have hlen : σ.length = σ4.length := by
    have := congrArg List.length hw4
    rw [wipe_length, wipe_length] at this
    exact this.symm
  have sub4 : ∀ c, Own σ4 st3 c → Own σ st c := fun c z => by
    rcases y4.sub c z with z1 | z1
    · exact (hOw c).mp z1
    · exact (R4.own_there z z1).elim
  have sub5 : ∀ {H' : Hp} (R' : RepS X.K T (And1 F p) H' σ4 st3), RepS X.K T (And1 F p) H' σ st ∧ ∀ c, Own σ st c → Own σ4 st3 c := fun {H'} R' => by
    obtain ⟨R5, y5⟩ := RepS.wipes vs R'
    rw [hback] at R5 y5
    obtain ⟨R6, hO⟩ := R5.slots hlen agree
    exact ⟨R6, fun c z => by
      have z4 := (hO c).mp z
      rcases y5.sub c z4 with z1 | z1
      · exact z1
      · exact (R5.own_there z4 z1).elim⟩
  exact hQ σ4 ⟨hw4, fun {H0 H' acc} b' => let ⟨R6, h6⟩ := sub5 b'.rep; b'.to R6 h6, sub4⟩ (b.to R4 sub4)
/-- one item: its tests, the element, what is kept -/
theorem cturn {gg : TG} {tt : TT} {te : TE} {x : V} {d : D} {N : Hp → Prop} (bk : Bk sl g) (hsl : ∀ i ∈ sl, i ∈ vs) (hun : allUn vs st = true)
    (hg : ∀ v σ H Q, (∃ F st d st', RepS X.K T F H σ st ∧ Rep X.K (Bd F σ st) H d v ∧ g d st = some st' ∧ ∀ σ', RepS X.K T F H σ' st' → SGo σ H st σ' H st' → (∀ vs, (∀ i ∈ sl, i ∈ vs) → wipe σ' vs = wipe σ vs) → Q σ' H) → gg v σ H Q)
    (ht : ∀ σ H Q, tT X T WN false ft σ H Q → tt σ H Q) (he : ∀ σ H Q, tV X T WN false false fe σ H Q → te σ H Q)
    (b : CB X T F p σ st H0 acc H) (rd : Rep X.K (Bd (And1 F p) σ st) H d x) {xs : List D} (ei : cItem g ft fe st d = some xs) (hz : (acc ++ xs).length ≤ sizeLine) (hN : ∀ H', CB X T F p σ st H0 (acc ++ xs) H' → N H') :
    gg x (wipe σ vs) H fun σ2 H2 => wipe σ2 vs = wipe σ vs ∧ tt σ2 H2 fun b H3 => if b = true then te σ2 H3 fun y H4 => ∃ acc, H4 p = some (.lst acc) ∧ acc.length < sizeLine ∧ N (upd H4 p (.lst (acc ++ [y]))) else N H3 := by
  unfold cItem at ei
  cases eg : g d st with
  | none => rw [eg] at ei; cases ei
  | some st3 =>
    rw [eg] at ei
    refine turn_in bk hsl hun hg b rd eg fun σ4 t4 b4 => ⟨t4.w, ht σ4 H _ ⟨And1 F p, st3, b4.rep, ?_⟩⟩
    cases et : ft st3 with
    | exc c st' => dsimp only at ei; rw [et] at ei; cases ei
    | bad => dsimp only at ei; rw [et] at ei; cases ei
    | ok bb st4 =>
      dsimp only at ei
      rw [et] at ei
      intro bv H5 R5 y5 ebv
      have ebv : bb = bv := ebv
      subst ebv
      have e5 : st4 = st3 := y5.pure rfl
      subst e5
      have k5 : Kp (fun _ => False) H H5 := y5.kp.mono fun _ z => by cases z.1
      have b5 : CB X T F p σ4 st4 H0 acc H5 := by
        obtain ⟨us, e1, e2⟩ := b4.lst
        exact ⟨R5, b4.kp.trans k5 fun _ z => z.elim, us, k5.at' _ _ e1 (fun z => z), e2.step k5 (fun _ z => z.elim) fun _ z => .inl z⟩
      cases bb with
      | false =>
        rw [if_neg Bool.false_ne_true]
        cases ei
        exact hN H5 (by rw [List.append_nil]; exact t4.back b5)
      | true =>
        rw [if_pos rfl]
        dsimp only at ei
        refine he σ4 H5 _ ⟨And1 F p, st4, R5, ?_⟩
        cases ee : fe st4 with
        | exc c st' => rw [ee] at ei; cases ei
        | bad => rw [ee] at ei; cases ei
        | ok y st5 =>
          rw [ee] at ei
          cases ei
          intro v H6 R6 y6 ry
          have e6 : st5 = st4 := y6.pure rfl
          subst e6
          have k6 : Kp (fun _ => False) H5 H6 := y6.kp.mono fun _ z => by cases z.1
          have b6 : CB X T F p σ4 st5 H0 acc H6 := by
            obtain ⟨us, e1, e2⟩ := b5.lst
            exact ⟨R6, b5.kp.trans k6 fun _ z => z.elim, us, k6.at' _ _ e1 (fun z => z), e2.step k6 (fun _ z => z.elim) fun _ z => .inl z⟩
          obtain ⟨us, e1, e2, b7⟩ := b6.put ry.clean
          refine ⟨us, e1, by rw [List.length_append, List.length_singleton] at hz; omega, hN _ (t4.back b7)⟩
end
section
variable {X : Cx} {T F : Addr → Prop} {W : Wx} {mi : Bool} {σ : St} {H : Hp} {st : Sts} {Q : VK} {fi fi1 : Ei} {g g1 : D → Sts → Option Sts} {ft ft1 : Et} {fe : Ev} {vs vs1 sl sl1 : List Nat}
/-- the beginning and the end of both kinds -/
theorem CB.start {H1 : Hp} {st1 : Sts} {p : Addr} (R1 : RepS X.K T F H1 σ st1) (hp : H1 p = none) : CB X T F p σ st1 (upd H1 p (.lst [])) [] (upd H1 p (.lst [])) := ⟨R1.and1 hp, Kp.refl _ _, [], upd_same, .nil⟩
theorem CB.fin {H1 H2 : Hp} {st1 : Sts} {p : Addr} {ys : List D} (R1 : RepS X.K T F H1 σ st1) (y1 : XGo mi σ H H1 st st1) (hp : H1 p = none) (b : CB X T F p σ st1 (upd H1 p (.lst [])) ys H2) (q : RF X T W mi F σ H st Q (rList st1 (some ys))) : Q (.ref p) H2 := by
  unfold rList at q
  dsimp only at q
  split at q
  case isFalse => exact q.elim
  obtain ⟨us, e1, e2⟩ := b.lst
  have np : ¬ Bd F σ st1 p := fun z => R1.bd_there z hp
  have k : Kp (fun _ => False) H1 H2 := by
    have k0 : Kp (fun _ => False) H1 (upd H1 p (.lst [])) := Kp.upd hp
    exact ⟨fun a o ea fx => b.kp.at' a o (k0.at' a o ea fx) (by
      have ne : a ≠ p := fun z => by rw [z, hp] at ea; cases ea
      cases o <;> first | exact fx | exact fun z => ne z), fun a n => b.kp.dom a (k0.dom a n)⟩
  exact q p H2 b.rep np (y1.then k) (.lst e1 e2) (dom_back y1.kp hp)
theorem flatM_drop {α : Type} {it : α → Option (List D)} {as : List α} {i : Nat} {a : α} (e : as[i]? = some a) : as.drop i = a :: as.drop (i + 1) := by
  have hlt := (List.getElem?_eq_some_iff.mp e).1
  rw [List.drop_eq_getElem_cons hlt]
  have := (List.getElem?_eq_getElem hlt).symm.trans e
  rw [Option.some.inj this]
theorem compP_read {wi : TI} {gg : TG} {tt : TT} {te : TE} (hi : ∀ σ H R, (∃ F st, RepS X.K T F H σ st ∧ RG X T W mi (fun _ _ (_ : List D) (_ : It) => True) F σ H st (fun _ _ => True) (fi st) ∧ ∀ ds st', fi st = .ok ds st' → ∀ J H', RepS X.K T F H' σ st' → XGo mi σ H H' st st' → Jw X.K T (Bd F σ st') (Bd F σ st') H' J ds → R J H') → wi σ H R)
    (bk : Bk sl g) (hsl : ∀ i ∈ sl, i ∈ vs)
    (hg : ∀ v σ H Q, (∃ F st d st', RepS X.K T F H σ st ∧ Rep X.K (Bd F σ st) H d v ∧ g d st = some st' ∧ ∀ σ', RepS X.K T F H σ' st' → SGo σ H st σ' H st' → (∀ vs, (∀ i ∈ sl, i ∈ vs) → wipe σ' vs = wipe σ vs) → Q σ' H) → gg v σ H Q)
    (ht : ∀ σ H Q, tT X T WN false ft σ H Q → tt σ H Q) (he : ∀ σ H Q, tV X T WN false false fe σ H Q → te σ H Q)
    (R : RepS X.K T F H σ st) (q : RF X T W mi F σ H st Q (cmpP vs fi g ft fe st)) : tLc wi gg tt te vs σ H Q := by
  refine hi σ H _ ⟨F, st, R, ?_, fun ds st1 e J H1 R1 y1 jw p hp => ?_⟩
  · cases e : fi st with
    | ok ds st' => exact fun _ _ _ _ _ => trivial
    | exc c st' => unfold cmpP at q; rw [e] at q; exact q
    | bad => unfold cmpP at q; rw [e] at q; exact q.elim
  unfold cmpP at q
  rw [e] at q
  have q : RF X T W mi F σ H st Q (if allUn vs st1 = true then rList st1 (flatM (cItem g ft fe st1) ds) else .bad) := q
  split at q
  case isFalse => exact q.elim
  rename_i hun
  obtain ⟨G, Y, wk, hG, item⟩ := jw.weak (M' := Own σ st1) fun _ z => .inr z
  cases ef : flatM (cItem g ft fe st1) ds with
  | none => rw [ef] at q; exact q.elim
  | some ys =>
    rw [ef] at q
    have hz : ys.length ≤ sizeLine := by
      unfold rList at q
      dsimp only at q
      split at q
      · rename_i h; exact of_decide_eq_true h
      · exact q.elim
    have kpO : ∀ {H' : Hp}, Kp (fun b => b = p) (upd H1 p (.lst [])) H' → Kp (Own σ st1) H1 H' := fun {H'} k => by
      have k0 : Kp (fun _ => False) H1 (upd H1 p (.lst [])) := Kp.upd hp
      exact ⟨fun a o ea fx => k.at' a o (k0.at' a o ea (fx.mono fun _ z => z.elim)) (by
        have ne : a ≠ p := fun z => by rw [z, hp] at ea; cases ea
        cases o <;> first | exact fx | exact fun z => ne z), fun a n => k.dom a (k0.dom a n)⟩
    have nB : ∀ b, Bd (And1 F p) σ st1 b → Bd F σ st1 b ∨ H1 b = none := fun b z => by
      rcases z with (z | z) | z
      · exact .inl (.inl z)
      · exact .inr (by rw [z]; exact hp)
      · exact .inl (.inr z)
    refine ⟨fun i n H' => n = ds.length - i ∧ i ≤ ds.length ∧ ∃ acc zs, CB X T F p σ st1 (upd H1 p (.lst [])) acc H' ∧ flatM (cItem g ft fe st1) (ds.drop i) = some zs ∧ ys = acc ++ zs, ⟨ds.length, by simp, Nat.zero_le _, [], ys, CB.start R1 hp, ef, rfl⟩, ?_⟩
    rintro i n H2 ⟨rfl, hi', acc, zs, b, e2, ey⟩
    have g2 : G H2 := hG H2 (kpO b.kp)
    by_cases hlt : i < ds.length
    · refine .inr ⟨wk.goes i H2 hlt g2, fun H' => ∃ acc zs, CB X T F p σ st1 (upd H1 p (.lst [])) acc H' ∧ flatM (cItem g ft fe st1) (ds.drop (i + 1)) = some zs ∧ ys = acc ++ zs, fun H' h => ⟨ds.length - (i + 1), by omega, rfl, hlt, h⟩, fun x H3 y => ?_⟩
      obtain ⟨k3, t3, d, ed, rd⟩ := item i H2 (Bd (And1 F p) σ st1) x H3 hlt (kpO b.kp) nB (wk.yields i H2 x H3 hlt g2 y)
      rw [flatM_drop (it := cItem g ft fe st1) ed] at e2
      obtain ⟨xs, zs', ei, e3, rfl⟩ := flatM_len e2
      refine cturn bk hsl hun hg ht he (b.kept k3 t3) rd ei ?_ fun H' b' => ⟨acc ++ xs, zs', b', e3, by rw [ey, List.append_assoc]⟩
      rw [ey, ← List.append_assoc, List.length_append] at hz
      omega
    · have ei : i = ds.length := by omega
      subst ei
      rw [List.drop_length] at e2
      cases e2
      rw [List.append_nil] at ey
      subst ey
      exact .inl ⟨wk.stops H2 g2, CB.fin R1 y1 hp b q⟩
end
end Vs

set_option Elab.async false
set_option linter.all false
set_option maxRecDepth 100000
set_option maxHeartbeats 4000000
namespace Vs
open PySem PySem.Spec PyProof.Rows L2
section
variable {X : Cx} {T F : Addr → Prop} {W : Wx} {mi : Bool} {σ : St} {H : Hp} {st : Sts} {Q : VK} {fi fi1 : Ei} {g g1 : D → Sts → Option Sts} {ft ft1 : Et} {fe : Ev} {vs vs1 sl sl1 : List Nat}
theorem compP2_read {wi wi1 : TI} {gg gg1 : TG} {tt tt1 : TT} {te : TE} (hi : ∀ σ H R, (∃ F st, RepS X.K T F H σ st ∧ RG X T W mi (fun _ _ (_ : List D) (_ : It) => True) F σ H st (fun _ _ => True) (fi st) ∧ ∀ ds st', fi st = .ok ds st' → ∀ J H', RepS X.K T F H' σ st' → XGo mi σ H H' st st' → Jw X.K T (Bd F σ st') (Bd F σ st') H' J ds → R J H') → wi σ H R)
    (bk : Bk sl g) (hsl : ∀ i ∈ sl, i ∈ vs) (bk1 : Bk sl1 g1) (hsl1 : ∀ i ∈ sl1, i ∈ vs1)
    (hg : ∀ v σ H Q, (∃ F st d st', RepS X.K T F H σ st ∧ Rep X.K (Bd F σ st) H d v ∧ g d st = some st' ∧ ∀ σ', RepS X.K T F H σ' st' → SGo σ H st σ' H st' → (∀ vs, (∀ i ∈ sl, i ∈ vs) → wipe σ' vs = wipe σ vs) → Q σ' H) → gg v σ H Q)
    (ht : ∀ σ H Q, tT X T WN false ft σ H Q → tt σ H Q)
    (hi1 : ∀ σ H R, (∃ F st, RepS X.K T F H σ st ∧ RG X T WN false (fun _ _ (_ : List D) (_ : It) => True) F σ H st (fun _ _ => True) (fi1 st) ∧ ∀ ds st', fi1 st = .ok ds st' → ∀ J H', RepS X.K T F H' σ st' → XGo false σ H H' st st' → Jw X.K T (Bd F σ st') (Bd F σ st') H' J ds → R J H') → wi1 σ H R)
    (hg1 : ∀ v σ H Q, (∃ F st d st', RepS X.K T F H σ st ∧ Rep X.K (Bd F σ st) H d v ∧ g1 d st = some st' ∧ ∀ σ', RepS X.K T F H σ' st' → SGo σ H st σ' H st' → (∀ vs, (∀ i ∈ sl1, i ∈ vs) → wipe σ' vs = wipe σ vs) → Q σ' H) → gg1 v σ H Q)
    (ht1 : ∀ σ H Q, tT X T WN false ft1 σ H Q → tt1 σ H Q) (he : ∀ σ H Q, tV X T WN false false fe σ H Q → te σ H Q)
    (R : RepS X.K T F H σ st) (q : RF X T W mi F σ H st Q (cmpP2 vs vs1 fi g ft fi1 g1 ft1 fe st)) : tLc2 wi gg tt wi1 gg1 tt1 te vs vs1 σ H Q := by
  refine hi σ H _ ⟨F, st, R, ?_, fun ds st1 e J H1 R1 y1 jw p hp => ?_⟩
  · cases e : fi st with
    | ok ds st' => exact fun _ _ _ _ _ => trivial
    | exc c st' => unfold cmpP2 at q; rw [e] at q; exact q
    | bad => unfold cmpP2 at q; rw [e] at q; exact q.elim
  unfold cmpP2 at q
  rw [e] at q
  have q : RF X T W mi F σ H st Q (if allUn vs st1 = true then rList st1 (flatM (cOuter g ft vs1 fi1 g1 ft1 fe st1) ds) else .bad) := q
  split at q
  case isFalse => exact q.elim
  rename_i hun
  obtain ⟨G, Y, wk, hG, item⟩ := jw.weak (M' := Own σ st1) fun _ z => .inr z
  cases ef : flatM (cOuter g ft vs1 fi1 g1 ft1 fe st1) ds with
  | none => rw [ef] at q; exact q.elim
  | some ys =>
    rw [ef] at q
    have hz : ys.length ≤ sizeLine := by
      unfold rList at q
      dsimp only at q
      split at q
      · rename_i h; exact of_decide_eq_true h
      · exact q.elim
    have kpO : ∀ {H' : Hp}, Kp (fun b => b = p) (upd H1 p (.lst [])) H' → Kp (Own σ st1) H1 H' := fun {H'} k => by
      have k0 : Kp (fun _ => False) H1 (upd H1 p (.lst [])) := Kp.upd hp
      exact ⟨fun a o ea fx => k.at' a o (k0.at' a o ea (fx.mono fun _ z => z.elim)) (by
        have ne : a ≠ p := fun z => by rw [z, hp] at ea; cases ea
        cases o <;> first | exact fx | exact fun z => ne z), fun a n => k.dom a (k0.dom a n)⟩
    have nB : ∀ b, Bd (And1 F p) σ st1 b → Bd F σ st1 b ∨ H1 b = none := fun b z => by
      rcases z with (z | z) | z
      · exact .inl (.inl z)
      · exact .inr (by rw [z]; exact hp)
      · exact .inl (.inr z)
    generalize hH0 : upd H1 p (.lst []) = H0 at kpO
    have st0 : CB X T F p σ st1 H0 [] H0 := by rw [← hH0]; exact CB.start R1 hp
    refine ⟨fun i n H' => n = ds.length - i ∧ i ≤ ds.length ∧ ∃ acc zs, CB X T F p σ st1 H0 acc H' ∧ flatM (cOuter g ft vs1 fi1 g1 ft1 fe st1) (ds.drop i) = some zs ∧ ys = acc ++ zs, ⟨ds.length, by simp, Nat.zero_le _, [], ys, st0, ef, rfl⟩, ?_⟩
    rintro i n H2 ⟨rfl, hi', acc, zs, b, e2, ey⟩
    have g2 : G H2 := hG H2 (kpO b.kp)
    by_cases hlt : i < ds.length
    · refine .inr ⟨wk.goes i H2 hlt g2, fun H' => ∃ acc zs, CB X T F p σ st1 H0 acc H' ∧ flatM (cOuter g ft vs1 fi1 g1 ft1 fe st1) (ds.drop (i + 1)) = some zs ∧ ys = acc ++ zs, fun H' h => ⟨ds.length - (i + 1), by omega, rfl, hlt, h⟩, fun x H3 y => ?_⟩
      obtain ⟨k3, t3, d, ed, rd⟩ := item i H2 (Bd (And1 F p) σ st1) x H3 hlt (kpO b.kp) nB (wk.yields i H2 x H3 hlt g2 y)
      rw [flatM_drop (it := cOuter g ft vs1 fi1 g1 ft1 fe st1) ed] at e2
      obtain ⟨xs, zs', ei, e3, rfl⟩ := flatM_len e2
      have b3 := b.kept k3 t3
      unfold cOuter at ei
      cases eg : g d st1 with
      | none => rw [eg] at ei; cases ei
      | some st3 =>
        rw [eg] at ei
        refine turn_in bk hsl hun hg b3 rd eg fun σ4 t4 b4 => ⟨t4.w, ht σ4 H3 _ ⟨And1 F p, st3, b4.rep, ?_⟩⟩
        cases et : ft st3 with
        | exc c st' => dsimp only at ei; rw [et] at ei; cases ei
        | bad => dsimp only at ei; rw [et] at ei; cases ei
        | ok bb st4 =>
          dsimp only at ei
          rw [et] at ei
          intro bv H5 R5 y5 ebv
          have ebv : bb = bv := ebv
          subst ebv
          have e5 : st4 = st3 := y5.pure rfl
          subst e5
          have k5 : Kp (fun _ => False) H3 H5 := y5.kp.mono fun _ z => by cases z.1
          have b5 : CB X T F p σ4 st4 H0 acc H5 := by
            obtain ⟨us, e1, e2⟩ := b4.lst
            exact ⟨R5, b4.kp.trans k5 fun _ z => z.elim, us, k5.at' _ _ e1 (fun z => z), e2.step k5 (fun _ z => z.elim) fun _ z => .inl z⟩
          cases bb with
          | false =>
            rw [if_neg Bool.false_ne_true]
            cases ei
            exact ⟨acc, zs', t4.back b5, e3, by rw [ey]; rfl⟩
          | true =>
            rw [if_pos rfl]
            dsimp only at ei
            refine hi1 σ4 H5 _ ⟨And1 F p, st4, R5, ?_, fun es st5 e1 J1 H6 R6 y6 jw1 => ?_⟩
            · cases e1 : fi1 st4 with
              | ok es st' => exact fun _ _ _ _ _ => trivial
              | exc c st' => rw [e1] at ei; cases ei
              | bad => rw [e1] at ei; cases ei
            have e6 : st5 = st4 := y6.pure rfl
            subst e6
            rw [e1] at ei
            dsimp only at ei
            have k6 : Kp (fun _ => False) H5 H6 := y6.kp.mono fun _ z => by cases z.1
            have b6 : CB X T F p σ4 st5 H0 acc H6 := by
              obtain ⟨us, e1, e2⟩ := b5.lst
              exact ⟨R6, b5.kp.trans k6 fun _ z => z.elim, us, k6.at' _ _ e1 (fun z => z), e2.step k6 (fun _ z => z.elim) fun _ z => .inl z⟩
            split at ei
            case isFalse => cases ei
            rename_i hun1
            obtain ⟨G1, Y1, wk1, hG1, item1⟩ := jw1
            have kpI : ∀ {H' : Hp}, Kp (fun b => b = p) H6 H' → Kp (Bd (And1 F p) σ4 st5) H6 H' := fun k => k.mono fun b z => .inl (.inr z)
            refine ⟨fun j k H' => k = es.length - j ∧ j ≤ es.length ∧ ∃ acc' us', CB X T F p σ4 st5 H0 acc' H' ∧ Kp (fun b => b = p) H6 H' ∧ flatM (cItem g1 ft1 fe st5) (es.drop j) = some us' ∧ acc ++ xs = acc' ++ us', ⟨es.length, by simp, Nat.zero_le _, acc, xs, b6, Kp.refl _ _, ei, rfl⟩, ?_⟩
            rintro j k H7 ⟨rfl, hj, acc', us', b7, k7, e7, ea⟩
            have gg7 : G1 H7 := hG1 H7 (kpI k7)
            by_cases hjlt : j < es.length
            · refine .inr ⟨wk1.goes j H7 hjlt gg7, fun H' => ∃ acc' us', CB X T F p σ4 st5 H0 acc' H' ∧ Kp (fun b => b = p) H6 H' ∧ flatM (cItem g1 ft1 fe st5) (es.drop (j + 1)) = some us' ∧ acc ++ xs = acc' ++ us', fun H'' h => ⟨es.length - (j + 1), by omega, rfl, hjlt, h⟩, fun x8 H8 y8 => ?_⟩
              obtain ⟨k8, t8, d8, ed8, rd8⟩ := item1 j H7 (Bd (And1 F p) σ4 st5) x8 H8 hjlt (kpI k7) (fun c z => .inl z) (wk1.yields j H7 x8 H8 hjlt gg7 y8)
              rw [flatM_drop (it := cItem g1 ft1 fe st5) ed8] at e7
              obtain ⟨xs8, zs8, ei8, e8, rfl⟩ := flatM_len e7
              have b8 := b7.kept k8 t8
              have kk8 : Kp (fun b => b = p) H6 H8 := k7.trans k8 fun _ z => z.elim
              have hz8 : (acc' ++ xs8).length ≤ sizeLine := by
                have h1 : (acc ++ xs).length ≤ ys.length := by rw [ey]; simp only [List.length_append]; omega
                rw [ea] at h1
                simp only [List.length_append] at h1 ⊢
                omega
              -- from here on: what has been kept since H6
              obtain ⟨us7, f1, f2⟩ := b8.lst
              have b9 : CB X T F p σ4 st5 H8 acc' H8 := ⟨b8.rep, Kp.refl _ _, us7, f1, f2⟩
              refine cturn bk1 hsl1 hun1 hg1 ht1 he b9 rd8 ei8 hz8 fun H9 b10 => ⟨acc' ++ xs8, zs8, ⟨b10.rep, b8.kp.trans b10.kp fun _ z => .inl z, b10.lst⟩, kk8.trans b10.kp fun _ z => .inl z, e8, by rw [ea, List.append_assoc]⟩
            · have ej : j = es.length := by omega
              subst ej
              rw [List.drop_length] at e7
              cases e7
              rw [List.append_nil] at ea
              subst ea
              exact .inl ⟨wk1.stops H7 gg7, acc ++ xs, zs', t4.back b7, e3, by rw [ey, List.append_assoc]⟩
    · have ei : i = ds.length := by omega
      subst ei
      rw [List.drop_length] at e2
      cases e2
      rw [List.append_nil] at ey
      subst ey
      exact .inl ⟨wk.stops H2 g2, CB.fin R1 y1 hp (by rw [hH0]; exact b) q⟩
end
section
variable {X : Cx} {T : Addr → Prop} {W : Wx} {mi : Bool} {fi fi1 : Ei} {g g1 : D → Sts → Option Sts} {ft ft1 : Et} {fe : Ev} {sl sl1 vs1 : List Nat} {elt tg iter tg1 iter1 : Expr} {ifs ifs1 : List Expr} {scope : Scope} {own : List (Str × Nat)} {pos spos py : Pos} {y : Str} {i : Nat}
theorem VF.compP (hc : X.calm = true) (hN : X.N.Nodup) (hi : VI X T W mi tg iter fi) (ok : BlkOk X.N X.env.scope scope own) (hsl : ∀ i ∈ sl, i ∈ own.map (·.2))
    (hg : ∀ (s : Shared) (H : Hp) (C : Addr) (cl : List (Str × Addr)) (fp : List Addr), VG (X.blk s H scope (compEnvC scope cl C X.env) fp) T sl tg g)
    (ht : ∀ (s : Shared) (H : Hp) (C : Addr) (cl : List (Str × Addr)) (fp : List Addr), VTs (X.blk s H scope (compEnvC scope cl C X.env) fp) T WN false ifs ft)
    (he : ∀ (s : Shared) (H : Hp) (C : Addr) (cl : List (Str × Addr)) (fp : List Addr), VE (X.blk s H scope (compEnvC scope cl C X.env) fp) T WN false false elt fe) (hs : ∀ x, foldedSetIterable iter X.env x = pure x := by intro _; rfl) {vsO : List Nat} (hvs : vsO = own.map (·.2) := by rfl) :
    VF X T W mi (.ListComp elt [⟨tg, iter, ifs, 0⟩] scope pos) (cmpP vsO fi g ft fe) := by
  subst hvs
  exact ⟨pe_weak (pe_lc hc hN hi.pi ok (fun s H C cl fp => (hg s H C cl fp).pg) (fun s H C cl fp => (ht s H C cl fp).pt) (fun s H C cl fp => (he s H C cl fp).pe) hs) fun σ H Q ⟨F, st, R, q⟩ =>
    compP_read (fun _ _ _ z => z) (hg X.s_0 (fun _ => none) 0 [] []).bk hsl (fun _ _ _ _ z => z) (fun _ _ _ z => z) (fun _ _ _ z => z) R q⟩
theorem VS.ownCP (hc : X.calm = true) (hN : X.N.Nodup) (hy : X.N[i]? = some y) (hyl : X.env.scope.names.lookup y = some .local) (hsw : swapsWith (.ListComp elt [⟨tg, iter, ifs, 0⟩] scope pos) (some (.Name y py)) spos.line X.env = pure true)
    (hi : VI X T W mi tg iter fi) (ok : BlkOk X.N X.env.scope scope own) (hsl : ∀ i ∈ sl, i ∈ own.map (·.2))
    (hg : ∀ (s : Shared) (H : Hp) (C : Addr) (cl : List (Str × Addr)) (fp : List Addr), VG (X.blk s H scope (compEnvC scope cl C X.env) fp) T sl tg g)
    (ht : ∀ (s : Shared) (H : Hp) (C : Addr) (cl : List (Str × Addr)) (fp : List Addr), VTs (X.blk s H scope (compEnvC scope cl C X.env) fp) T WN false ifs ft)
    (he : ∀ (s : Shared) (H : Hp) (C : Addr) (cl : List (Str × Addr)) (fp : List Addr), VE (X.blk s H scope (compEnvC scope cl C X.env) fp) T WN false false elt fe) (hs : ∀ x, foldedSetIterable iter X.env x = pure x := by intro _; rfl) {vsO : List Nat} (hvs : vsO = own.map (·.2) := by rfl) :
    VS X T W (.Assign [.Name y py] (.ListComp elt [⟨tg, iter, ifs, 0⟩] scope pos) spos) (sOwn i (cmpP vsO fi g ft fe)) := by
  subst hvs
  exact ⟨ps_weak (ps_setLc hc hN hy hyl hsw hi.pi ok (fun s H C cl fp => (hg s H C cl fp).pg) (fun s H C cl fp => (ht s H C cl fp).pt) (fun s H C cl fp => (he s H C cl fp).pe) hs) fun D σ H ⟨F, st, R, q⟩ =>
    compP_read (fun _ _ _ z => z) (hg X.s_0 (fun _ => none) 0 [] []).bk hsl (fun _ _ _ _ z => z) (fun _ _ _ z => z) (fun _ _ _ z => z) R (own_read R q)⟩
/-- a fresh one that is shared from the start -/
theorem set_readF {F : Addr → Prop} {σ : St} {H : Hp} {st : Sts} {D : Ends} {f : Ev} (R : RepS X.K T F H σ st) (q : RS X T W F σ H st D (sSet i f st)) : RF X T W mi F σ H st (fun x H1 => D.nx (σ.set i (some x)) H1) (f st) := by
  unfold sSet bindS at q
  cases e : f st with
  | ok d st' =>
    rw [e] at q
    intro a H' R' n yg o z
    dsimp only at q
    split at q
    · have rp : Rep X.K (Bd F σ st') H' d (.ref a) := (o.step (Kp.refl (fun _ => False) H') (fun _ z => z.elim) (fun b z => .inl (z.imp (fun z => .inl z) id)) fun z => z).rep n
      exact q _ _ ((R'.more fun _ z => .inl z).setV rp) (yg.sgo.setV (by assumption))
    · exact q.elim
  | exc c st' => rw [e] at q; exact fun H' C hc R y => q σ H' C hc R y.sgo
  | bad => rw [e] at q; exact q
theorem VS.setCP (hc : X.calm = true) (hN : X.N.Nodup) (hy : X.N[i]? = some y) (hyl : X.env.scope.names.lookup y = some .local) (hsw : swapsWith (.ListComp elt [⟨tg, iter, ifs, 0⟩] scope pos) (some (.Name y py)) spos.line X.env = pure true)
    (hi : VI X T W mi tg iter fi) (ok : BlkOk X.N X.env.scope scope own) (hsl : ∀ i ∈ sl, i ∈ own.map (·.2))
    (hg : ∀ (s : Shared) (H : Hp) (C : Addr) (cl : List (Str × Addr)) (fp : List Addr), VG (X.blk s H scope (compEnvC scope cl C X.env) fp) T sl tg g)
    (ht : ∀ (s : Shared) (H : Hp) (C : Addr) (cl : List (Str × Addr)) (fp : List Addr), VTs (X.blk s H scope (compEnvC scope cl C X.env) fp) T WN false ifs ft)
    (he : ∀ (s : Shared) (H : Hp) (C : Addr) (cl : List (Str × Addr)) (fp : List Addr), VE (X.blk s H scope (compEnvC scope cl C X.env) fp) T WN false false elt fe) (hs : ∀ x, foldedSetIterable iter X.env x = pure x := by intro _; rfl) {vsO : List Nat} (hvs : vsO = own.map (·.2) := by rfl) :
    VS X T W (.Assign [.Name y py] (.ListComp elt [⟨tg, iter, ifs, 0⟩] scope pos) spos) (sSet i (cmpP vsO fi g ft fe)) := by
  subst hvs
  exact ⟨ps_weak (ps_setLc hc hN hy hyl hsw hi.pi ok (fun s H C cl fp => (hg s H C cl fp).pg) (fun s H C cl fp => (ht s H C cl fp).pt) (fun s H C cl fp => (he s H C cl fp).pe) hs) fun D σ H ⟨F, st, R, q⟩ =>
    compP_read (fun _ _ _ z => z) (hg X.s_0 (fun _ => none) 0 [] []).bk hsl (fun _ _ _ _ z => z) (fun _ _ _ z => z) (fun _ _ _ z => z) R (set_readF R q)⟩
theorem VF.compP2 (hc : X.calm = true) (hN : X.N.Nodup) (hi : VI X T W mi tg iter fi) (ok : BlkOk X.N X.env.scope scope own) (hv : ∀ i ∈ vs1, i ∈ own.map (·.2)) (hsl : ∀ i ∈ sl, i ∈ own.map (·.2)) (hsl1 : ∀ i ∈ sl1, i ∈ vs1)
    (hg : ∀ (s : Shared) (H : Hp) (C : Addr) (cl : List (Str × Addr)) (fp : List Addr), VG (X.blk s H scope (compEnvC scope cl C X.env) fp) T sl tg g)
    (ht : ∀ (s : Shared) (H : Hp) (C : Addr) (cl : List (Str × Addr)) (fp : List Addr), VTs (X.blk s H scope (compEnvC scope cl C X.env) fp) T WN false ifs ft)
    (hi1 : ∀ (s : Shared) (H : Hp) (C : Addr) (cl : List (Str × Addr)) (fp : List Addr), VI (X.blk s H scope (compEnvC scope cl C X.env) fp) T WN false tg1 iter1 fi1)
    (hg1 : ∀ (s : Shared) (H : Hp) (C : Addr) (cl : List (Str × Addr)) (fp : List Addr), VG (X.blk s H scope (compEnvC scope cl C X.env) fp) T sl1 tg1 g1)
    (ht1 : ∀ (s : Shared) (H : Hp) (C : Addr) (cl : List (Str × Addr)) (fp : List Addr), VTs (X.blk s H scope (compEnvC scope cl C X.env) fp) T WN false ifs1 ft1)
    (he : ∀ (s : Shared) (H : Hp) (C : Addr) (cl : List (Str × Addr)) (fp : List Addr), VE (X.blk s H scope (compEnvC scope cl C X.env) fp) T WN false false elt fe) (hs : ∀ x, foldedSetIterable iter X.env x = pure x := by intro _; rfl) (hs1 : ∀ env x, foldedSetIterable iter1 env x = pure x := by intro _ _; rfl) {vsO : List Nat} (hvs : vsO = own.map (·.2) := by rfl) :
    VF X T W mi (.ListComp elt [⟨tg, iter, ifs, 0⟩, ⟨tg1, iter1, ifs1, 0⟩] scope pos) (cmpP2 vsO vs1 fi g ft fi1 g1 ft1 fe) := by
  subst hvs
  exact ⟨pe_weak (pe_lc2 hc hN hi.pi ok hv (fun s H C cl fp => (hg s H C cl fp).pg) (fun s H C cl fp => (ht s H C cl fp).pt) (fun s H C cl fp => (hi1 s H C cl fp).pi) (fun s H C cl fp => (hg1 s H C cl fp).pg) (fun s H C cl fp => (ht1 s H C cl fp).pt) (fun s H C cl fp => (he s H C cl fp).pe) hs hs1) fun σ H Q ⟨F, st, R, q⟩ =>
    compP2_read (fun _ _ _ z => z) (hg X.s_0 (fun _ => none) 0 [] []).bk hsl (hg1 X.s_0 (fun _ => none) 0 [] []).bk hsl1 (fun _ _ _ _ z => z) (fun _ _ _ z => z) (fun _ _ _ z => z) (fun _ _ _ _ z => z) (fun _ _ _ z => z) (fun _ _ _ z => z) R q⟩
end
end Vs

set_option Elab.async false
set_option linter.all false
set_option maxRecDepth 100000
set_option maxHeartbeats 4000000
namespace Vs
open PySem PySem.Spec PyProof.Rows L2

/-! ### range(i, j, c); list(range(..)) -/
def rgcN (i j c : Int) : Nat := (Builtin.Range.rangeSize i j c).toNat
def rgcOk (i j c : Int) : Bool := decide (c ≠ 0 ∧ c.natAbs < 1073741824) && Builtin.Range.small i j c && decide (Builtin.Range.rangeSize i j c = (rgcN i j c : Int))
def rgc (i j c : Int) : List D := (List.range (rgcN i j c)).map fun (k : Nat) => .int (i + (k : Int) * c)
theorem rgcOk_of {i j c : Int} (h : rgcOk i j c = true) : RgC i j c (rgcN i j c) := by
  unfold rgcOk at h
  simp only [Bool.and_eq_true] at h
  have h1 := of_decide_eq_true h.1.1
  exact ⟨h1.1, h1.2, h.1.2, of_decide_eq_true h.2⟩
def rg3D : List D → Option (List D)
  | [.int i, .int j, .int c] => if rgcOk i j c = true then some (rgc i j c) else none
  | _ => none
def iRg3 (fa : Ea) : Ei := fun st => (fa st).bind fun ds st1 => ofO (rg3D ds) st1
theorem RepL.three {K : PySem.W.Frag} {B : Addr → Prop} {H : Hp} {r : Bool} {d e f : D} {vs : List V} (h : RepL r K B H [d, e, f] vs) : ∃ v u w, vs = [v, u, w] ∧ RepR r K B H d v ∧ RepR r K B H e u ∧ RepR r K B H f w := by
  cases vs with
  | nil => exact h.elim
  | cons v vs =>
    obtain ⟨u, w, rfl, q1, q2⟩ := RepL.two h.2
    exact ⟨v, u, w, rfl, h.1, q1, q2⟩
/-- the ends and the step, from one to three arguments -/
def rgArgs : List D → Option (Int × Int × Int)
  | [.int j] => some (0, j, 1)
  | [.int i, .int j] => some (i, j, 1)
  | [.int i, .int j, .int c] => some (i, j, c)
  | _ => none
def lrgD (ds : List D) : Option D := match rgArgs ds with
  | some (i, j, c) => if rgcOk i j c = true ∧ rgcN i j c ≤ 16777216 then some (.list (rgc i j c)) else none
  | none => none
section
variable {X : Cx} {T : Addr → Prop} {W : Wx} {m : Bool} {tg a b c : Expr} {es : List Expr} {fa : Ea} {p p2 pos pos2 : Pos}
theorem VI.rg3 (hg : Gl X "range") (hm : X.mg "range" = none) (ha : VA X T W m false [a, b, c] fa)
    (hs : starEach [a, b, c] X.env = (false, eval a X.env) :: starEach [b, c] X.env := by rfl) (hpl : (backTo pos (starEach [b, c] X.env)).any (·.1) = false := by rfl) : VI X T W m tg (.Call (.Name "range" p) [a, b, c] [] pos) (iRg3 fa) :=
  ⟨pi_weak (pi_range3 hg hm ha.pa hs hpl) fun σ H R ⟨F, st, RR, q, k'⟩ => by
    refine vi_first RR q k' fun ds st1 vs H1 e1 R1 y1 q1 h1 k1 => ?_
    cases er : rg3D ds with
    | none => rw [er] at h1; exact h1.elim
    | some es =>
      have k2 := k1 es st1 (by rw [er]; rfl)
      unfold rg3D at er
      split at er
      · split at er
        · rename_i i j cc hok
          cases er
          obtain ⟨v, u, w, rfl, q2, q3, q4⟩ := RepL.three q1
          exact ⟨i, j, cc, rgcN i j cc, by rw [q2.isI, q3.isI, q4.isI], rgcOk_of hok, k2 _ H1 R1 y1 (jw_fn (g := fun k => i + (k : Int) * cc) walk_rangeC)⟩
        · cases er
      · cases er⟩
/-- list(range(..)) -/
def tLr (ta : TA) : TE := fun σ H Q => ta σ H fun vs H1 => ∃ (i j c : Int) (n : Nat), (vs = [.int i, .int j, .int c] ∨ (vs = [.int i, .int j] ∧ c = 1) ∨ (vs = [.int j] ∧ i = 0 ∧ c = 1)) ∧ RgC i j c n ∧ n ≤ 2 ^ 24 ∧
  ∀ q, H1 q = none → Q (.ref q) (upd H1 q (.lst ((List.range n).map fun (k : Nat) => V.int (i + (k : Int) * c))))
theorem pe_lr {ta : TA} (hc : X.calm = true) (hg : Gl X "range") (hm : X.mg "range" = none) (hgl : Gl X "list") (hml : X.mg "list" = none) (ha : PA X (a :: es) ta) 
    (hs : starEach (a :: es) X.env = (false, eval a X.env) :: starEach es X.env := by rfl) (hpl : (backTo pos2 (starEach es X.env)).any (·.1) = false := by rfl)
    (hs2 : starEach [.Call (.Name "range" p2) (a :: es) [] pos2] X.env = (false, eval (.Call (.Name "range" p2) (a :: es) [] pos2) X.env) :: starEach [] X.env := by rfl) :
    PE X (.Call (.Name "list" p) [.Call (.Name "range" p2) (a :: es) [] pos2] [] pos) (tLr ta) := by
  refine ⟨fun pins s σ H Q I h => ?_⟩
  refine Call_ (ld_blt I hgl hml boot_list (PyProof.Rows.callWith_type1 (args_cons (Call_ (ld_blt I hg hm boot_range (PyProof.Rows.callWith_type1 (thn (ha.run pos2 pins s σ H _ I h) fun us s1 ⟨vs, H1, I1, r1, q1⟩ => ?_) hs hpl))) hs2) hs2))
  obtain ⟨i, j, k, n, e, ⟨c0, c1, c2, c3⟩, hn, q⟩ := q1
  have fin : ∀ {s2 : Shared} {r : Addr} {t u v : Tok}, Inv X pins σ H1 s2 → IsRange s2.heap r i j k t u v → wpAny (model X.prog X.w) X.A (call (.type "list") [.ref r]) (EP X pins σ Q) X.xe s2 := fun {s2 r t u v} I2 hr => by
    refine call_list_range (n := n) (I2.ok.hd hc) hr c2 c3 hn fun h' tk acc c' hk e' hi => ?_
    have hlen : acc.toList.length = n := by rw [Array.length_toList]; exact hi.1
    refine ⟨.ref s2.heap.objs.size, upd H1 s2.heap.objs.size (.lst ((List.range n).map fun (x : Nat) => V.int (i + (x : Int) * k))), I2.laid hk (Nat.le_refl _) (show ObjOk X.prog X.w _ _ _ (.lst ((List.range n).map fun (x : Nat) => V.int (i + (x : Int) * k))) from ⟨?_, acc.toList, c', ?_, ?_⟩), rfl, q _ (I2.hok.fresh (Nat.le_refl _))⟩
    · rw [List.length_map, List.length_range, sizeLine_eq]; omega
    · refine vals_of_at (by rw [List.length_map, List.length_range, hlen]) fun jj x w h1 h2 => ?_
      obtain ⟨t, ht⟩ := hi.2 jj w (by rw [← Array.getElem?_toList]; exact h2)
      rw [List.getElem?_map] at h1
      cases er : (List.range n)[jj]? with
      | none => rw [er] at h1; cases h1
      | some y =>
        rw [er] at h1
        cases h1
        have : y = jj := by
          obtain ⟨h3, h4⟩ := List.getElem?_eq_some_iff.mp er
          rw [List.getElem_range] at h4
          exact h4.symm
        subst this
        exact ⟨t, ht⟩
    · rw [Array.toArray_toList]; exact e'
  rcases e with e | ⟨e, ek⟩ | ⟨e, ei, ek⟩
  · subst e
    cases r1 with
    | cons r rr =>
      cases rr with
      | cons r' rr =>
        cases rr with
        | cons r'' rr =>
          cases rr
          obtain ⟨t, rfl⟩ := r
          obtain ⟨t', rfl⟩ := r'
          obtain ⟨t'', rfl⟩ := r''
          refine call_range_3 c0 ?_ (.inl (PyProof.noPylong_small c1))
          have I2 : Inv X pins σ H1 { s1 with heap := s1.heap.push { cls := .type "range", data := .fields #[.int i t, .int j t', .int k t''] } } := I1.kept (t' := s1.toks) fun b o e => Heap.get?_push_of_some _ e
          exact args_nil (fin I2 (IsRange.new ..))
  · subst e ek
    cases r1 with
    | cons r rr =>
      cases rr with
      | cons r' rr =>
        cases rr
        obtain ⟨t, rfl⟩ := r
        obtain ⟨t', rfl⟩ := r'
        refine call_range_2 ?_
        exact args_nil (fin (I1.kept fun b u e => Heap.get?_push_of_some _ e) (IsRange.new _ _ _ _ _ _ _))
  · subst e ei ek
    cases r1 with
    | cons r rr =>
      cases rr
      obtain ⟨t, rfl⟩ := r
      refine call_range_1 ?_
      exact args_nil (fin (I1.kept fun b u e => Heap.get?_push_of_some _ e) (IsRange.new _ _ _ _ _ _ _))
theorem VF.listRg (hc : X.calm = true) (hg : Gl X "range") (hm : X.mg "range" = none) (hgl : Gl X "list") (hml : X.mg "list" = none) (ha : VA X T W m false (a :: es) fa)
    (hs : starEach (a :: es) X.env = (false, eval a X.env) :: starEach es X.env := by rfl) (hpl : (backTo pos2 (starEach es X.env)).any (·.1) = false := by rfl)
    (hs2 : starEach [.Call (.Name "range" p2) (a :: es) [] pos2] X.env = (false, eval (.Call (.Name "range" p2) (a :: es) [] pos2) X.env) :: starEach [] X.env := by rfl) :
    VF X T W m (.Call (.Name "list" p) [.Call (.Name "range" p2) (a :: es) [] pos2] [] pos) (Vs.callB lrgD fa) :=
  ⟨pe_weak (pe_lr hc hg hm hgl hml ha.pa hs hpl hs2) fun σ H Q ⟨F, st, R, q⟩ => by
    refine tG.firstF R q fun ds st1 vs H1 e1 R1 y1 q1 h1 => ?_
    obtain ⟨d, eg, q⟩ := RF.new y1 h1 R1
    unfold lrgD at eg
    split at eg
    · split at eg
      · rename_i i j cc hargs hok
        cases eg
        have items : RepA X.K (Bd F σ st1) H1 (rgc i j cc) ((List.range (rgcN i j cc)).map fun (k : Nat) => V.int (i + (k : Int) * cc)) := by
          have := RepA.ints (K := X.K) (B := Bd F σ st1) (H := H1) ((List.range (rgcN i j cc)).map fun (k : Nat) => i + (k : Int) * cc)
          rw [List.map_map, List.map_map] at this
          exact this
        refine ⟨i, j, cc, rgcN i j cc, ?_, rgcOk_of hok.1, hok.2, fun p hp => q _ p hp (.lst items)⟩
        unfold rgArgs at hargs
        split at hargs
        · cases hargs
          obtain ⟨v, rfl, q2⟩ := RepL.one q1
          exact .inr (.inr ⟨by rw [q2.isI], rfl, rfl⟩)
        · cases hargs
          obtain ⟨v, u, rfl, q2, q3⟩ := RepL.two q1
          exact .inr (.inl ⟨by rw [q2.isI, q3.isI], rfl⟩)
        · cases hargs
          obtain ⟨v, u, w, rfl, q2, q3, q4⟩ := RepL.three q1
          exact .inl (by rw [q2.isI, q3.isI, q4.isI])
        · cases hargs
      · cases eg
    · cases eg⟩
end
end Vs

set_option Elab.async false
set_option linter.all false
set_option maxRecDepth 100000
set_option maxHeartbeats 4000000
namespace RT
open PySem PySem.Spec PyProof.Rows
section
variable {prog : Program} {w : World} {A : Around} {E : Value → Shared → Prop} {s : Shared}
theorem vs_list_init_rev {R : Result → Shared → Prop} {it l S : Addr} {items : Array Value} (hh : A.handled = none) (hit : s.heap.IsRevIter it l ((items.size : Int) - 1)) (hl : s.heap.IsList l items) (hne : l ≠ it) (hn : items.size ≤ sizeLine)
    (hSi : S ≠ it) (hSl : S ≠ l) (hS : s.heap.get? S = some { cls := .type "list", data := .seq #[] })
    (hR : ∀ h' tk acc' c', (∀ b o, b ≠ S → b ≠ it → s.heap.get? b = some o → h'.get? b = some o) → h'.get? S = some { cls := .type "list", dict := none, data := .seq acc' c', slots := #[] } →
      ItemsOf (fun i v => items[items.size - 1 - i]? = some v) acc' items.size → R (.ok (.ret .none)) { s with heap := h', toks := tk }) :
    wpAny (model prog w) A.in1 (Builtin.«list.__init__» ⟨[.ref S, .ref it], []⟩)
      (fun fin s' => match fin with | .done f => R (.ok f) s' | .again c' => c'.quiet = true ∧ codeAny (model prog w) A c' R s') (fun e s' => R (.error e) s') s := by
  have W := (Walks.listRev (prog := prog) (w := w) (A := A.in1) hh it l hne items).toS
  have hSf : S ∉ [it, l] := by simp only [List.mem_cons, List.not_mem_nil, or_false, not_or]; exact ⟨hSi, hSl⟩
  show wpAny _ _ (do let old ← Builtin.List.listItems (.ref S); Builtin.List.listUpdate (.ref S) (fun _ => #[]); letGo old.toList.reverse; Builtin.List.listExtendWith (.ref S) (.ref it) .none) _ _ s
  refine wpAny_bind ?_
  unfold Builtin.List.listItems
  refine wpAny_bind (wpAny_seqItems hS rfl (wpAny_pure ?_))
  show wpAny _ _ (updateSeq S (fun _ => #[]) >>= fun _ => letGo (#[] : Array Value).toList.reverse >>= fun _ => Builtin.List.listExtendWith (.ref S) (.ref it) .none) _ _ s
  refine wpAny_bind (wpAny_updateSeq hS rfl ?_)
  have hS₂ := Heap.get?_update_self (Obj.mapSeq (fun _ => (#[] : Array Value))) hS rfl
  have oth : ∀ b o, b ≠ S → s.heap.get? b = some o → (s.heap.update S (Obj.mapSeq (fun _ => (#[] : Array Value)))).get? b = some o :=
    fun b o hb e => (Heap.get?_update_other _ _ (Ne.symm hb)).trans e
  refine wpAny_bind (wpAny_letGo ?_)
  have hit1 : (s.heap.update S (Obj.mapSeq (fun _ => (#[] : Array Value)))).IsRevIter it l ((items.size : Int) - 1) := hit.at fun o e => oth it o (Ne.symm hSi) e
  have hl1 : (s.heap.update S (Obj.mapSeq (fun _ => (#[] : Array Value)))).IsList l items := by
    obtain ⟨o, ho, r⟩ := hl
    exact ⟨o, oth l o (Ne.symm hSl) ho, r⟩
  have hT : ({ s with heap := s.heap.update S (Obj.mapSeq (fun _ => (#[] : Array Value))) } : Shared).TypeIs (.ref it) "list_reverseiterator" := Heap.IsRevIter.typeIs (s := { s with heap := s.heap.update S (Obj.mapSeq (fun _ => (#[] : Array Value))) }) hit1
  have h1 : Builtin.List.listSameRef (.ref S) (.ref it) = false := by simp [Builtin.List.listSameRef, hSi]
  unfold Builtin.List.listExtendWith
  refine wpAny_bind (wpAny_typeOf hT ?_)
  rw [if_neg (by rw [h1]; decide)]
  refine wpAny_bind (wpAny_pyIter_revIter (s := { s with heap := s.heap.update S (Obj.mapSeq (fun _ => (#[] : Array Value))) }) hit1 ?_)
  refine wpAny_bind (wpAny_holding ?_)
  unfold Builtin.List.listLengthHint
  refine wpAny_bind (wpAny_specialOf hT nolen_lri ?_)
  show wpAny _ A.in1 (specialOf (Value.ref it) (Str.ofString "__length_hint__") >>= _) _ _ _
  refine wpAny_bind (wpAny_specialOf hT hint_lri ?_)
  generalize hid : ("list_reverseiterator.__length_hint__" : String) = id0
  wp_delta
  rw [show splitId id0 = some ("list_reverseiterator", "__length_hint__") from by subst hid; decide +kernel]
  subst hid
  refine wpAny_bind (wpAny_isInstance (b := true) hT (by rw [isSubtype_type]; kernel_rfl) ?_)
  refine wpAny_pure ?_
  rw [if_neg (by decide)]
  have e0 : ((items.size : Nat) : Int) - 1 - ((0 : Nat) : Int) = (items.size : Int) - 1 := by omega
  refine wpAny_pure ⟨plainId_quiet F.plain_extend_loop _, codeAny_extend_loopS W hn _ hSf _ items.size 0 _ _ _ rfl (Nat.zero_le _) ⟨Nat.zero_le _, by rw [e0]; exact hit1, hl1⟩ hS₂ (ItemsOf.nil _) fun s' acc' c' hm hS' hacc => ?_⟩
  rw [Moved.eq_with hm]
  refine hR s'.heap s'.toks acc' c' (fun b o hb hb2 e => hm.heap b o (fun hmem => ?_) (oth b o hb e)) hS' hacc
  rcases List.mem_cons.mp hmem with e' | hmem
  · exact hb e'
  · exact hb2 (List.mem_singleton.mp hmem)
theorem vs_call_list_rev {it l : Addr} {items : Array Value} {Q : Value → Shared → Prop} (hh : A.handled = none) (hit : s.heap.IsRevIter it l ((items.size : Int) - 1)) (hl : s.heap.IsList l items) (hne : l ≠ it) (hn : items.size ≤ sizeLine)
    (hQ : ∀ h' tk acc' c', (∀ b o, b ≠ it → s.heap.get? b = some o → h'.get? b = some o) →
      h'.get? s.heap.objs.size = some { cls := .type "list", dict := none, data := .seq acc' c', slots := #[] } → ItemsOf (fun i v => items[items.size - 1 - i]? = some v) acc' items.size → Q (.ref s.heap.objs.size) { s with heap := h', toks := tk }) :
    wpAny (model prog w) A (call (.type "list") [.ref it]) Q E s := by
  refine callType_codes (Q₁ := fun obj s₁ => obj = .ref s.heap.objs.size ∧ s₁ = { s with heap := s.heap.push { cls := .type "list", data := .seq #[] } }) F.called_list (F.typeCall_list_1 _) F.entry_list_init
    (code_list_new _ ⟨rfl, rfl⟩) fun obj s₁ h₁ => ?_
  obtain ⟨rfl, rfl⟩ := h₁
  obtain ⟨oi, hoi, _⟩ := id hit
  obtain ⟨ol, hol, _⟩ := id hl
  have hS : (s.heap.push { cls := .type "list", data := .seq #[] }).get? s.heap.objs.size = some { cls := .type "list", data := .seq #[] } := Heap.get?_push_size _ rfl
  refine ⟨⟨_, hS, rfl⟩, F.args_list_init_2 _ _, vs_list_init_rev (A := A.in1) (s := { s with heap := s.heap.push { cls := .type "list", data := .seq #[] } }) hh (hit.at fun o e => Heap.get?_push_of_some _ e) (hl.push _) hne hn (Nat.ne_of_gt (Heap.lt_size hoi)) (Nat.ne_of_gt (Heap.lt_size hol)) hS fun h' tk acc' c' hk hS' hacc => ?_⟩
  exact ⟨rfl, hQ h' tk acc' c' (fun b o hb e => hk b o (Nat.ne_of_lt (Heap.lt_size e)) hb (Heap.get?_push_of_some _ e)) hS' hacc⟩
end
end RT
namespace Vs
open PySem PySem.Spec PyProof.Rows L2 RT
/-- list(reversed(x)), x a list: a new list -/
def tLstRev (K : PySem.W.Frag) (te : TE) : TE := fun σ H Q => te σ H fun v H1 => ∃ (a : Addr) (xs : List V), v = .ref a ∧ SqL K H1 a xs ∧ ∀ q, H1 q = none → Q (.ref q) (upd H1 q (.lst xs.reverse))
section
variable {X : Cx}
theorem pe_lstRev {e : Expr} {te : TE} {p p2 pos pos2 : Pos} (hc : X.calm = true) (hg : Gl X "list") (hm : X.mg "list" = none) (hg2 : Gl X "reversed") (hm2 : X.mg "reversed" = none) (he : PE X e te)
    (hs : starEach [e] X.env = (false, eval e X.env) :: starEach [] X.env := by rfl)
    (hs2 : starEach [.Call (.Name "reversed" p2) [e] [] pos2] X.env = (false, eval (.Call (.Name "reversed" p2) [e] [] pos2) X.env) :: starEach [] X.env := by rfl) :
    PE X (.Call (.Name "list" p) [.Call (.Name "reversed" p2) [e] [] pos2] [] pos) (tLstRev X.K te) := by
  refine ⟨fun pins s σ H Q I h => ?_⟩
  refine Call_ (ld_blt I hg hm boot_list (PyProof.Rows.callWith_type1 (args_cons (Call_ (ld_blt I hg2 hm2 PyProof.Rows.boot_reversed (PyProof.Rows.callWith_type1 (args_cons (thn (he.run pins s σ H _ I h) fun u s1 ⟨v, H1, I1, r1, q1⟩ => args_nil ?_) hs) hs rfl))) hs2) hs2 rfl))
  obtain ⟨a, xs, ev, hq, q⟩ := q1
  subst ev
  obtain rfl : u = Value.ref a := r1
  obtain ⟨its, rv, p', hz⟩ := I1.list hq
  refine call_reversed_list p'.isList (args_nil ?_)
  have k0 : ∀ b o, s1.heap.get? b = some o → (s1.heap.push (revObj a ((its.toArray.size : Int) - 1))).get? b = some o := fun b o e => Heap.get?_push_of_some _ e
  have I2 : Inv X pins σ H1 { s1 with heap := s1.heap.push (revObj a ((its.toArray.size : Int) - 1)) } := I1.kept (t' := s1.toks) k0
  obtain ⟨f0, f1, f2, f3, f4, f5⟩ := I1.fpOk (H' := H1) (b := s1.heap.objs.size) (Nat.le_refl _) (I1.hok.fresh (Nat.le_refl _))
  have hl := p'.isList
  obtain ⟨ol, hol, _⟩ := id hl
  have hne : a ≠ s1.heap.objs.size := Nat.ne_of_lt (Heap.lt_size hol)
  have hn : its.toArray.size ≤ sizeLine := by rw [List.size_toArray, ← rv.length]; exact hz
  refine vs_call_list_rev (s := { s1 with heap := s1.heap.push (revObj a ((its.toArray.size : Int) - 1)) }) (I1.ok.hd hc) ⟨_, Heap.get?_push_size _ rfl, rfl, rfl⟩ (hl.push _) hne hn fun h' tk acc c' hk hS' hi => ?_
  have hsz : s1.heap.objs.size ≤ (s1.heap.push (revObj a ((its.toArray.size : Int) - 1))).objs.size := by
    show _ ≤ (s1.heap.objs.push _).size
    rw [Array.size_push]; exact Nat.le_succ _
  refine ⟨.ref (s1.heap.push (revObj a ((its.toArray.size : Int) - 1))).objs.size, upd H1 (s1.heap.push (revObj a ((its.toArray.size : Int) - 1))).objs.size (.lst xs.reverse), I1.laid (t' := tk) (fun b o e => hk b o (Nat.ne_of_lt (Heap.lt_size e)) (Heap.get?_push_of_some _ e)) hsz (show ObjOk X.prog X.w _ _ _ (.lst xs.reverse) from ⟨by rw [List.length_reverse]; exact hz, acc.toList, c', vals_rev rv hi, ?_⟩), rfl, q _ (I1.hok.fresh hsz)⟩
  rw [Array.toArray_toList]; exact hS'

def lrevD : D → Option D
  | .list ds => some (.list ds.reverse)
  | _ => none
def lrv (f : Ev) : Ev := fun st => (f st).bind fun d st1 => ofO (lrevD d) st1
section
variable {T F : Addr → Prop} {W : Wx} {m r : Bool} {σ : St} {H : Hp} {st : Sts} {i : Nat} {x : Str}
theorem VF.listRev {e : Expr} {f : Ev} {p p2 pos pos2 : Pos} (hc : X.calm = true) (hg : Gl X "list") (hm : X.mg "list" = none) (hg2 : Gl X "reversed") (hm2 : X.mg "reversed" = none) (he : VE X T W m r e f)
    (hs : starEach [e] X.env = (false, eval e X.env) :: starEach [] X.env := by rfl)
    (hs2 : starEach [.Call (.Name "reversed" p2) [e] [] pos2] X.env = (false, eval (.Call (.Name "reversed" p2) [e] [] pos2) X.env) :: starEach [] X.env := by rfl) :
    VF X T W m (.Call (.Name "list" p) [.Call (.Name "reversed" p2) [e] [] pos2] [] pos) (lrv f) :=
  ⟨pe_weak (pe_lstRev hc hg hm hg2 hm2 he.pe hs hs2) fun σ H Q ⟨F, st, R, q⟩ => by
    refine tG.firstF R q fun d st1 v H1 e1 R1 y1 q1 h1 => ?_
    obtain ⟨d', eg, k⟩ := RF.new y1 h1 R1
    unfold lrevD at eg
    split at eg
    · cases eg
      obtain ⟨a, us, rfl, s1, p1⟩ := q1.isL
      exact ⟨a, us, rfl, .inl s1, fun p hp => k _ p hp (.lst p1.reverse)⟩
    · cases eg⟩
/-! ### the script -/
def scrI (i : Nat) (st : Sts) : Res (List Int) := match st[i]? with
  | some (.scr ns) => .ok ns st
  | _ => .bad
def iScr (i : Nat) : Ei := fun st => (scrI i st).bind fun ns st1 => .ok (ns.map .int) st1
def lenScr (i : Nat) : Ev := fun st => (scrI i st).bind fun ns st1 => .ok (.int ns.length) st1
def ixScr (i : Nat) (fb : Ev) : Ev := fun st => (scrI i st).bind fun ns st1 => (fb st1).bind fun d st2 => ofO (atD (.list (ns.map .int)) d) st2
def cutScr (i : Nat) (fl fh : Eo) : Ev := fun st => (scrI i st).bind fun ns st1 => (fl st1).bind fun l st2 => (fh st2).bind fun h st3 => ofO (cutD (.list (ns.map .int)) l h) st3
theorem RepS.scr1 {K : PySem.W.Frag} {β : Type} {g : List Int → Sts → Res β} {rel : (Addr → Prop) → Hp → β → γ → Prop} {Q : γ → Hp → Prop} (R : RepS K T F H σ st) (h : RG X T W m rel F σ H st Q ((scrI i st).bind g)) :
    ∃ a ns, st[i]? = some (.scr ns) ∧ σ[i]? = some (some (.ref a)) ∧ ScrAt K (Bd F σ st) H ns a ∧ RG X T W m rel F σ H st Q (g ns st) := by
  unfold scrI at h
  split at h
  · rename_i ns e
    obtain ⟨a, h1, h2⟩ := R.scr i ns e
    exact ⟨a, ns, e, h1, h2, h⟩
  · exact h.elim
theorem jw_scr {K : PySem.W.Frag} {B : Addr → Prop} {ns : List Int} {a : Addr} (h : ScrAt K B H ns a) : Jw K T B B H (Itl K a) (ns.map .int) := by
  have q : RepA K B H (ns.map .int) (ns.map V.int) := RepA.ints ns
  refine ⟨fun H => SqL K H a (ns.map V.int), YAt (ns.map V.int), by rw [q.length]; exact walk_list, fun H1 k => (h.step (B' := B) k (fun _ z => z) fun _ z => .inl z).sql, fun i H1 B1 v H2 hi k hB y => ?_⟩
  obtain ⟨rfl, e⟩ := y
  obtain ⟨d, e1, e2⟩ := q.get e
  exact ⟨Kp.refl _ _, fun _ _ z => z, d, e1, e2.step k (fun _ z => z) hB⟩
theorem VI.scr {tg : Expr} {pos : Pos} (hN : X.N[i]? = some x) (hv : Vis X.env.scope x) (hd : (x == ("__debug__" : Str)) = false := by decide) (hcd : (x == ("__classdict__" : Str)) = false := by decide) : VI X T W m tg (.Name x pos) (iScr i) :=
  ⟨pi_weak (pi_any (pe_var hN hv hd hcd)) fun σ H R ⟨F, st, RR, q, k'⟩ => by
    obtain ⟨a, ns, e, h1, h2, _⟩ := RR.scr1 q
    have e2 : iScr i st = .ok (ns.map .int) st := by unfold iScr scrI; rw [e]; rfl
    exact ⟨_, h1, .inl ⟨a, rfl, ⟨_, h2.sql⟩, k' _ st e2 _ H RR XGo.refl (jw_scr h2)⟩⟩⟩
theorem VE.lenScr {p p2 pos : Pos} (hg : Gl X "len") (hm : X.mg "len" = none) (hN : X.N[i]? = some x) (hv : Vis X.env.scope x) (hd : (x == ("__debug__" : Str)) = false := by decide) (hcd : (x == ("__classdict__" : Str)) = false := by decide)
    (he : starEach [.Name x p2] X.env = (false, eval (.Name x p2) X.env) :: starEach [] X.env := by rfl) (hpl : (backTo pos (starEach [] X.env)).any (·.1) = false := by rfl) : VE X T W m false (.Call (.Name "len" p) [.Name x p2] [] pos) (lenScr i) :=
  ⟨pe_weak (pe_callB call_len_seq hg hm boot_len (pa_cons (pe_var hN hv hd hcd) pa_nil) (by decide) (by decide) he hpl) fun σ H Q ⟨F, st, R, q⟩ => by
    obtain ⟨a, ns, e, h1, h2, q⟩ := R.scr1 q
    refine ⟨_, h1, a, _, rfl, .inl h2.sql, ?_⟩
    rw [List.length_map]
    exact q _ H R XGo.refl (.inl (.int _))⟩
theorem VE.ixScr {b : Expr} {fb : Ev} {p pos : Pos} (hN : X.N[i]? = some x) (hv : Vis X.env.scope x) (hb : VE X T W false false b fb) (hs : PlainIx b := by exact fun _ _ => rfl) (hd : (x == ("__debug__" : Str)) = false := by decide) (hcd : (x == ("__classdict__" : Str)) = false := by decide) :
    VE X T W false false (.Subscript (.Name x p) b pos) (ixScr i fb) :=
  ⟨pe_weak (pe_ix ix_seq (pe_var hN hv hd hcd) hb.pe hs) fun σ H Q ⟨F, st, R, q⟩ => by
    obtain ⟨a, ns, e, h1, h2, q⟩ := R.scr1 q
    refine ⟨_, h1, ?_⟩
    refine tG.first R q fun d st1 v H1 e1 R1 y1 q1 h3 => ?_
    obtain ⟨d', eg, k⟩ := RG.fin y1 h3 id
    unfold atD at eg
    split at eg
    · obtain ⟨v, h4, h5⟩ := atI_rep (K := X.K) (B := Bd F σ st1) (H := H1) (RepA.ints ns) eg
      exact .inl ⟨a, _, _, v, rfl, q1.isI, (h2.step (B' := Bd F σ st) y1.kp (fun _ z => absurd z.1 Bool.false_ne_true) fun _ z => .inl z).sql, h4, k.flat R1 h5⟩
    · cases eg⟩
end
theorem VE.cutScr {lo hi : Option Expr} {fl fh : Eo} {p p2 pos : Pos} (hN : X.N[i]? = some x) (hv : Vis X.env.scope x) (hl : VO X T W lo fl) (hh : VO X T W hi fh) (hd : (x == ("__debug__" : Str)) = false := by decide) (hcd : (x == ("__classdict__" : Str)) = false := by decide) :
    VE X T W false false (.Subscript (.Name x p) (.Slice lo hi none p2) pos) (cutScr i fl fh) :=
  ⟨pe_weak (pe_slice sl_list (pe_var hN hv hd hcd) hl.po hh.po) fun σ H Q ⟨F, st, R, q⟩ => by
    obtain ⟨a, ns, e, h1, h2, q⟩ := R.scr1 q
    refine ⟨_, h1, ?_⟩
    refine tG.first (m0 := false) R q fun o1 st2 l H2 e2 R2 y2 q2 h3 => ?_
    have h3 := h3.back' (m2 := false) y2 id id
    refine tG.first (m0 := false) R2 h3 fun o2 st3 u H3 e3 R3 y3 q3 h4 => ?_
    subst q2 q3
    obtain ⟨d, eg, k⟩ := RG.fin y3 h4 id
    cases eg
    have h5 : ScrAt X.K (Bd F σ st) H3 ns a := (h2.step (B' := Bd F σ st) y2.kp (fun _ z => absurd z.1 Bool.false_ne_true) fun _ z => .inl z).step y3.kp (fun _ z => absurd z.1 Bool.false_ne_true) fun _ z => .inl z
    exact ⟨a, _, rfl, h5.sql, fun p hp => k.new R3 hp (.lst (.inl upd_same) (R3.bd_new hp) ((cutL_rep (RepA.ints ns)).upd hp))⟩⟩
end
end Vs

set_option Elab.async false
set_option linter.all false
set_option maxRecDepth 100000
set_option maxHeartbeats 4000000
namespace Vs
open PySem PySem.Spec PyProof.Rows L2
section
variable {X : Cx} {T F : Addr → Prop} {W : Wx} {m r : Bool} {σ : St} {H : Hp} {st : Sts} {Q : VK} {i : Nat} {x : Str} {ss : List Stmt} {f : Es'}
/-! ### an owned one, or shared data, looked at -/
def vAny (i : Nat) : Ev := fun st => match st[i]? with
  | some (.im d) => .ok d st
  | _ => vOwn i st
theorem VE.any {pos : Pos} (hN : X.N[i]? = some x) (hv : Vis X.env.scope x) (hd : (x == ("__debug__" : Str)) = false := by decide) (hcd : (x == ("__classdict__" : Str)) = false := by decide) : VE X T W false true (.Name x pos) (vAny i) :=
  ⟨pe_weak (pe_var hN hv hd hcd) fun σ H Q ⟨F, st, R, q⟩ => by
    unfold vAny at q
    split at q
    · rename_i d e
      obtain ⟨v, h1, h2⟩ := R.im i d e
      exact ⟨v, h1, q v H R XGo.refl (.inl h2)⟩
    · unfold vOwn at q
      split at q
      · rename_i d e
        obtain ⟨a, h1, h2, h3⟩ := R.ow i d e
        exact ⟨.ref a, h1, q _ H R XGo.refl (.inr ⟨rfl, a, rfl, h3⟩)⟩
      · exact q.elim⟩
/-! ### given away -/
def give1 (st : Sts) (i : Nat) : Sts := match st[i]? with
  | some (.own d) => st.set i (.im d)
  | _ => st
def gives : List Nat → Sts → Sts
  | [], st => st
  | i :: l, st => gives l (give1 st i)
theorem RepS.give1 {K : PySem.W.Frag} {i : Nat} (R : RepS K T F H σ st) : RepS K T F H σ (Vs.give1 st i) ∧ SGo σ H st σ H (Vs.give1 st i) := by
  unfold Vs.give1
  split
  · rename_i d e
    obtain ⟨R', _⟩ := R.give e
    refine ⟨R', Kp.refl _ _, fun b z => .inl (own_give e z), fun j y h => ⟨y, ?_, rfl⟩⟩
    rw [List.getElem?_set_ne, h]
    rintro rfl
    rw [e] at h; cases h
  · exact ⟨R, SGo.refl⟩
theorem RepS.gives {K : PySem.W.Frag} : ∀ (l : List Nat) {st : Sts}, RepS K T F H σ st → RepS K T F H σ (Vs.gives l st) ∧ SGo σ H st σ H (Vs.gives l st)
  | [], _, R => ⟨R, SGo.refl⟩
  | i :: l, st, R => by
    obtain ⟨R1, g1⟩ := R.give1 (i := i)
    obtain ⟨R2, g2⟩ := RepS.gives l R1
    exact ⟨R2, g1.trans g2⟩
def sGive (l : List Nat) (f : Es') : Es' := fun st => f (gives l st)
theorem VSs.give (l : List Nat) (h : VSs X T W ss f) : VSs X T W ss (sGive l f) := ⟨pss_weak h.ps fun D σ H ⟨F, st, R, q⟩ => by
  obtain ⟨R1, g1⟩ := RepS.gives l R
  exact ⟨F, _, R1, RS.back g1 q⟩⟩
/-! ### a def that takes the script -/
/-- called with the script it does what M says -/
def spSc (mg : Str → Option Value) (K : PySem.W.Frag) (T : Addr → Prop) (M : Es') : Sp := fun vs H Q E => ∃ (B : Addr → Prop) (a : Addr) (ns : List Int), vs = [.ref a] ∧ (∀ a, B a → H a ≠ none) ∧ (∀ P, T P → GxR.TabG H P) ∧
  ScrAt K B H ns a ∧ RC mg K T B none H Q E (M [.scr ns])
theorem entry_scr {K : PySem.W.Frag} {T B : Addr → Prop} {H : Hp} {N : List Str} {a : Addr} {ns : List Int} (hn : 1 ≤ N.length) (hd : ∀ a, B a → H a ≠ none) (ht : ∀ P, T P → GxR.TabG H P) (h : ScrAt K B H ns a) :
    RepS K T B H (L2.start N [.ref a]) (full N.length [.scr ns]) ∧ (∀ b, ¬ Own (L2.start N [.ref a]) (full N.length [.scr ns]) b) := by
  have g0 : ∀ {i : Nat} {s : Sl}, (full N.length [.scr ns])[i]? = some s → s = .un ∨ (i = 0 ∧ s = .scr ns) := fun {i s} e => by
    rcases full_get e with q | q
    · exact .inl q
    · cases i with
      | zero => exact .inr ⟨rfl, (Option.some.inj q).symm⟩
      | succ j => cases q
  have noO : ∀ {i : Nat} {d : D}, getO (full N.length [.scr ns]) i = some d → False := fun {i d} g => by
    rcases getO_or g with q | q
    · rcases g0 q with q | ⟨_, q⟩ <;> cases q
    · rcases g0 q with q | ⟨_, q⟩ <;> cases q
  have hOwn : ∀ b, Own (L2.start N [.ref a]) (full N.length [.scr ns]) b → False := fun b ⟨i, d, g, _⟩ => noO g
  refine ⟨⟨fun a z => hd a z, ?_, fun i d e => ?_, fun i d g => (noO g).elim, fun i ns' e => ?_, fun i j d e a g _ _ _ => (noO g).elim, ht⟩, hOwn⟩
  · simp [L2.start, full] <;> omega
  · rcases g0 e with q | ⟨_, q⟩ <;> cases q
  · rcases g0 e with q | ⟨rfl, q⟩
    · cases q
    · cases q
      exact ⟨a, start_get rfl, h.step (Kp.refl (fun _ => False) H) (fun _ z => z.elim) fun b z => .inl (z.elim id fun z => (hOwn b z).elim)⟩
theorem fn_okS {P : Program} {w : World} {K : PySem.W.Frag} {mg : Str → Option Value} {base : Heap} {T : Addr → Prop} {x qual : Str} {s : Stmt} {f : Addr} {fd : FuncData} {N : List Str} {p : Str} {k : Nat} {M : Es'}
    (Fn : FunD K x qual (defArgs s) (defBody s) (defScope s) [] [] f fd) (S : FnScope N [p] (defScope s)) (hps : 1 ≤ N.length)
    (body : ∀ (A : Around) (outer : List Env) (sh : Shared) (H : Hp) (E : XK), Room k (A.deeper (envOfC qual (defScope s) sh.heap.objs.size f fd.code)) →
      VSs (cxOf (L2N.CX P w) P w K mg base N qual (defScope s) f fd.code A outer sh H E) T (fun cls d _ H => E cls d H) (defBody s) M) :
    FnOk P w K mg base (L2N.CX P w) (k + 1) f fd [p] (spSc mg K T fun p => M (full N.length p)) := by
  refine okC Fn S (fun vs H Q E h => by obtain ⟨B, a, ns, rfl, _⟩ := h; rfl) fun A outer sh H vs Q E hr h => ?_
  obtain ⟨B, a, ns, rfl, hd, ht, hs, hc⟩ := h
  refine ⟨_, (body A outer sh H E hr).ps, ?_⟩
  obtain ⟨R, hO⟩ := entry_scr (N := N) hps hd ht hs
  refine ⟨_, _, R, ?_⟩
  have back : ∀ {σ' : St} {H' : Hp} {st' : Sts}, RepS K T B H' σ' st' → SGo (L2.start N [.ref a]) H (full N.length [.scr ns]) σ' H' st' → CGo K T B none H H' st' := fun {σ' H' st'} R' g =>
    ⟨g.kp.mono fun b z => (hO b z).elim, R'.tab, fun a d0 e => by cases e⟩
  have hc : RC mg K T B none H Q E (M (full N.length [.scr ns])) := hc
  revert hc
  cases eM : M (full N.length [.scr ns]) with
  | nx st' => exact fun hc σ' H' R' g => hc H' (back R' g)
  | bk st' => exact fun hc => hc.elim
  | ct st' => exact fun hc => hc.elim
  | bad => exact fun hc => hc.elim
  | rt d st' =>
    intro hc v σ' H' R' g q
    exact hc v H' (back R' g) (q.step (Kp.refl (fun _ => False) H') (fun _ z => z.elim) fun b z => .inl (.inl z))
  | exc c st' => exact fun hc σ' H' C hC R' g => hc H' C hC (back R' g)
  | rf d st' =>
    intro hc a' σ' H' R' n g q z
    have R'' := R'.more (F := B) fun _ z => .inl z
    refine hc a' H' (back R'' g) (q.step (Kp.refl (fun _ => False) H') (fun _ z => z.elim) (fun b z => ?_) fun z => z) ?_
    · rcases z with z | z
      · exact .inl (.inl (.inl z))
      · exact .inl (.inl (.inr z))
    · rcases z with z | z
      · exact (hO a' z).elim
      · exact z
theorem rcP {ou : Ou} (R : RepS X.K T F H σ st) (h : RV X T W false false F σ H st Q (resP st ou)) : RC X.mg X.K T (Bd F σ st) none H Q (WE W σ) ou := by
  have go : ∀ {H' : Hp} {st' : Sts}, CGo X.K T (Bd F σ st) none H H' st' → RepS X.K T F H' σ st ∧ XGo false σ H H' st st := fun {H' st'} c =>
    have kp : Kp (fun _ => False) H H' := c.kp.mono fun _ z => by cases z
    ⟨R.kept kp fun P h _ => c.tab P h, XGo.same kp⟩
  revert h
  cases ou with
  | nx st' => exact fun h H' c => h .non H' (go c).1 (go c).2 (.inl .non)
  | bk st' => exact fun h => h.elim
  | ct st' => exact fun h => h.elim
  | bad => exact fun h => h.elim
  | rt d st' => exact fun h v H' c z => h v H' (go c).1 (go c).2 (.inl z)
  | exc c st' => exact fun h H' C hC c => h H' C hC (go c).1 ((go c).2.mono fun z => by cases z)
  | rf d st' =>
    intro h a H' c o z
    refine h (.ref a) H' (go c).1 (go c).2 (.inl ((o.step (Kp.refl (fun _ => False) H') (fun _ z => z.elim) (fun b z => .inl (.inl z)) fun z => z).rep fun q => ?_))
    exact R.bd_there q z
theorem rcF {ou : Ou} (R : RepS X.K T F H σ st) (h : RF X T W m F σ H st Q (resF st ou)) : RC X.mg X.K T (Bd F σ st) none H Q (WE W σ) ou := by
  have go : ∀ {H' : Hp} {st' : Sts}, CGo X.K T (Bd F σ st) none H H' st' → Kp (fun _ => False) H H' := fun {H' st'} c => c.kp.mono fun _ z => by cases z
  revert h
  cases ou with
  | nx st' => exact fun h => h.elim
  | bk st' => exact fun h => h.elim
  | ct st' => exact fun h => h.elim
  | bad => exact fun h => h.elim
  | rt d st' => exact fun h => h.elim
  | exc c st' => exact fun h H' C hC c => h H' C hC (R.kept (go c) fun P h _ => c.tab P h) (XGo.same (go c))
  | rf d st' =>
    intro h a H' c o z
    have na : ¬ Bd F σ st a := fun q => R.bd_there q z
    refine h a H' ?_ na (XGo.same (go c)) (o.step (Kp.refl (fun _ => False) H') (fun _ z => z.elim) (fun b z => .inl ?_) fun z => z) z
    · have R' := R.kept (go c) fun P h _ => c.tab P h
      have k0 := Kp.refl (fun _ => False) H'
      have kp := go c
      have hB : ∀ b, Bd (And1 F a) σ st b → Bd F σ st b ∨ H b = none := fun b q => by
        rcases q with (q | q) | q
        · exact .inl (.inl q)
        · exact .inr (by rw [q]; exact z)
        · exact .inl (.inr q)
      refine ⟨fun b q => ?_, R.len, fun j x hj => let ⟨v, e1, e2⟩ := R.im j x hj; ⟨v, e1, e2.step kp (fun _ z => z.elim) hB⟩,
        fun j x hj => let ⟨b, e1, e2, e3⟩ := R.ow j x hj; ⟨b, e1, fun q => ?_, e3.step kp (fun _ z => z.elim) hB fun z => z⟩,
        fun j x hj => let ⟨b, e1, e2⟩ := R.scr j x hj; ⟨b, e1, e2.step kp (fun _ z => z.elim) hB⟩, R.dis, R'.tab⟩
      · rcases q with q | q
        · exact R'.dom b q
        · rw [q]; exact o.there
      · rcases q with q | q
        · exact e2 q
        · exact na (.inr ⟨j, x, hj, by rw [← q]; exact e1⟩)
    · rcases z with (z | z) | z
      · exact .inl (.inl z)
      · exact .inr z
      · exact .inl (.inr z)

def callPS (i : Nat) (M : Es') : Ev := fun st => (scrI i st).bind fun ns st1 => resP st1 (M [.scr ns])
def callFS (i : Nat) (M : Es') : Ev := fun st => (scrI i st).bind fun ns st1 => resF st1 (M [.scr ns])
variable {k : Nat} {fa : Addr} {fd : FuncData} {p pos py : Pos} {M : Es'} {y q : Str}
theorem VF.callS (tk : L2N.Takes X W) (Fn : FnOk X.prog X.w X.K X.mg X.base (L2N.CX X.prog X.w) k fa fd [q] (spSc X.mg X.K T M)) (hr : Room k X.A) (hg : Gl X x) (hm : X.mg x = some (.ref fa)) (hk : PySem.W.keepIn X.K (.ref fa) = true) (hb : Binds X.K fd [q] [])
    (hN : X.N[i]? = some y) (hv : Vis X.env.scope y) (hst : starEach [.Name y py] X.env = (false, eval (.Name y py) X.env) :: starEach [] X.env := by rfl)
    (hd : (y == ("__debug__" : Str)) = false := by decide) (hcd : (y == ("__classdict__" : Str)) = false := by decide) (hdb : (x == ("__debug__" : Str)) = false := by decide) (hpl : (backTo pos (starEach [] X.env)).any (·.1) = false := by rfl) :
    VF X T W m (.Call (.Name x p) [.Name y py] [] pos) (callFS i M) :=
  ⟨pe_weak (pe_callS Fn hr hg hm hk hb (fun σ => L2N.passAt tk σ) (pa_cons (pe_var hN hv hd hcd) pa_nil hst) hdb hst hpl) fun σ H Q ⟨F, st, R, q⟩ => by
    unfold callFS scrI at q
    split at q
    · rename_i ns e
      obtain ⟨a, h1, h2⟩ := R.scr i ns e
      exact ⟨_, h1, _, a, ns, rfl, fun a z => R.bd_there z, R.tab, h2, rcF R q⟩
    · exact q.elim⟩
theorem VE.callS (tk : L2N.Takes X W) (Fn : FnOk X.prog X.w X.K X.mg X.base (L2N.CX X.prog X.w) k fa fd [q] (spSc X.mg X.K T M)) (hr : Room k X.A) (hg : Gl X x) (hm : X.mg x = some (.ref fa)) (hk : PySem.W.keepIn X.K (.ref fa) = true) (hb : Binds X.K fd [q] [])
    (hN : X.N[i]? = some y) (hv : Vis X.env.scope y) (hst : starEach [.Name y py] X.env = (false, eval (.Name y py) X.env) :: starEach [] X.env := by rfl)
    (hd : (y == ("__debug__" : Str)) = false := by decide) (hcd : (y == ("__classdict__" : Str)) = false := by decide) (hdb : (x == ("__debug__" : Str)) = false := by decide) (hpl : (backTo pos (starEach [] X.env)).any (·.1) = false := by rfl) :
    VE X T W false false (.Call (.Name x p) [.Name y py] [] pos) (callPS i M) :=
  ⟨pe_weak (pe_callS Fn hr hg hm hk hb (fun σ => L2N.passAt tk σ) (pa_cons (pe_var hN hv hd hcd) pa_nil hst) hdb hst hpl) fun σ H Q ⟨F, st, R, q⟩ => by
    unfold callPS scrI at q
    split at q
    · rename_i ns e
      obtain ⟨a, h1, h2⟩ := R.scr i ns e
      exact ⟨_, h1, _, a, ns, rfl, fun a z => R.bd_there z, R.tab, h2, rcP R q⟩
    · exact q.elim⟩
end
end Vs

set_option Elab.async false
set_option linter.all false
set_option maxRecDepth 100000
set_option maxHeartbeats 4000000
namespace Vs
open PySem PySem.Spec PyProof.Rows L2

/-! ### rules with their side conditions filled in -/
theorem tkB {P : Program} {w : World} {K : PySem.W.Frag} {mg : Str → Option Value} {base : Heap} {N : List Str} {qual : Str} {scope : Scope} {f : Addr} {cd : Value} {A : Around} {outer : List Env} {s : Shared} {H : Hp} {E : XK} :
    L2N.Takes (cxOf (L2N.CX P w) P w K mg base N qual scope f cd A outer s H E) (fun cls d _ H => E cls d H) := L2N.takes_of rfl rfl rfl rfl
theorem hpB {P : Program} {w : World} {K : PySem.W.Frag} {mg : Str → Option Value} {base : Heap} {N : List Str} {qual : Str} {scope : Scope} {f : Addr} {cd : Value} {A : Around} {outer : List Env} {s : Shared} {H : Hp} {E : XK} :
    PassesOwn (model P w) (cxOf (L2N.CX P w) P w K mg base N qual scope f cd A outer s H E).A (cxOf (L2N.CX P w) P w K mg base N qual scope f cd A outer s H E).env (cxOf (L2N.CX P w) P w K mg base N qual scope f cd A outer s H E).xe := passes_of rfl
theorem tkN {X : Cx} : L2N.Takes X WN := fun _ _ x => by
  obtain ⟨_, _, _, _, _, _, _, _, _, _, _, _, _, _, _, _, z⟩ := x
  exact z.elim
/-- a def of the program: what its callers ask -/
structure Callee (P : Program) (w : World) (K : PySem.W.Frag) (mg : Str → Option Value) (base : Heap) (T : Addr → Prop) (x : Str) (k : Nat) (ps : List Str) (sp : Sp) : Prop where
  ex : ∃ (f : Addr) (fd : FuncData), FnOk P w K mg base (L2N.CX P w) k f fd ps sp ∧ mg x = some (.ref f) ∧ PySem.W.keepIn K (.ref f) = true ∧ Binds K fd ps []
section
variable {X : Cx} {T F : Addr → Prop} {W : Wx} {m m1 m2 m3 r r1 r2 : Bool} {i : Nat} {x : Str} {a b c e : Expr} {es : List Expr} {fa fb fc f : Ev} {ga : Ea} {pos p p2 : Pos} {k j n : Nat} {ps : List Str} {M : Es'}
theorem Room.hu {A : Around} (hr : Room k A) (n : Nat) (h : n ≤ 200 := by decide) : A.units + n < cLine := by have := hr.un; omega
theorem dIm (i : Nat) (hN : X.N[i]? = some x := by rfl) (hv : Vis X.env.scope x := by first | exact .inl rfl | exact .inr (.inl rfl) | exact .inr (.inr rfl)) (hd : (x == ("__debug__" : Str)) = false := by decide) (hcd : (x == ("__classdict__" : Str)) = false := by decide) : VE X T W false false (.Name x pos) (vIm i) := .im hN hv hd hcd
theorem dAny (i : Nat) (hN : X.N[i]? = some x := by rfl) (hv : Vis X.env.scope x := by first | exact .inl rfl | exact .inr (.inl rfl) | exact .inr (.inr rfl)) (hd : (x == ("__debug__" : Str)) = false := by decide) (hcd : (x == ("__classdict__" : Str)) = false := by decide) : VE X T W false true (.Name x pos) (vAny i) := .any hN hv hd hcd
theorem dUp (h : VE X T W m r e f) : VE X T W m true e f := h.weak id fun _ => rfl
theorem dGlobI {i : Int} (hm : ∃ t, X.mg x = some (.int i t)) (hg : Gl X x := by rfl) (hd : (x == ("__debug__" : Str)) = false := by decide) : VE X T W false false (.Name x pos) (vC (.int i)) := by
  obtain ⟨t, hm⟩ := hm
  exact .globI hg hm hd
theorem dGlobS {i : Str} (hm : ∃ t, X.mg x = some (.str i t)) (hg : Gl X x := by rfl) (hd : (x == ("__debug__" : Str)) = false := by decide) : VE X T W false false (.Name x pos) (vC (.str i)) := by
  obtain ⟨t, hm⟩ := hm
  exact .globS hg hm hd
def negD : D → Option D := fun d => match d with | .int i => some (.int (-i)) | _ => none
theorem v_neg : UnV X T r (rU fun i => .int (-i)) negD := by
  intro F σ H st x dx d Q R q e k
  unfold negD at e
  split at e
  · cases e
    exact ⟨_, q.isI, k.flat R (.int _)⟩
  · cases e
theorem dNeg (h : VE X T W m r a fa) : VE X T W m false (.UnaryOp .USub a pos) (una negD fa) := .un un_neg v_neg h

/-! ### calls -/
theorem ln : ∀ st ds st', aNil st = .ok ds st' → ds.length = 0 := fun st ds st' h => by cases h; rfl
theorem lc {n : Nat} (h : ∀ st ds st', ga st = .ok ds st' → ds.length = n) : ∀ st ds st', aCons f ga st = .ok ds st' → ds.length = n + 1 := fun st ds st' q => by
  unfold aCons at q
  cases e1 : f st with
  | ok d st1 =>
    rw [e1, Res.ok_bind] at q
    cases e2 : ga st1 with
    | ok ds2 st2 =>
      rw [e2, Res.ok_bind] at q
      cases q
      rw [List.length_cons, h _ _ _ e2]
    | exc c st2 => rw [e2] at q; cases q
    | bad => rw [e2] at q; cases q
  | exc c st1 => rw [e1] at q; cases q
  | bad => rw [e1] at q; cases q
theorem dCall (C : Callee X.prog X.w X.K X.mg X.base T x k ps (spM X.mg X.K T false n M)) (tk : L2N.Takes X W) (hr : Room j X.A) (ha : VA X T W m false (e :: es) ga) (hl : ∀ st ds st', ga st = .ok ds st' → ds.length = n) (hk : k ≤ j := by first | decide | omega) (hg : Gl X x := by rfl)
    (hn : (e :: es).length = n := by rfl) (hdb : (x == ("__debug__" : Str)) = false := by decide) (he : starEach (e :: es) X.env = (false, eval e X.env) :: starEach es X.env := by rfl) (hpl : (backTo pos (starEach es X.env)).any (·.1) = false := by rfl) :
    VE X T W m false (.Call (.Name x p) (e :: es) [] pos) (callP M ga) := by
  obtain ⟨f, fd, Fn, h1, h2, h3⟩ := C.ex
  exact .call tk Fn (hr.mono hk) hg h1 h2 h3 ha hn hl hdb he hpl
theorem dCallF (C : Callee X.prog X.w X.K X.mg X.base T x k ps (spM X.mg X.K T false n M)) (tk : L2N.Takes X W) (hr : Room j X.A) (ha : VA X T W m false (e :: es) ga) (hl : ∀ st ds st', ga st = .ok ds st' → ds.length = n) (hk : k ≤ j := by first | decide | omega) (hg : Gl X x := by rfl)
    (hdb : (x == ("__debug__" : Str)) = false := by decide) (he : starEach (e :: es) X.env = (false, eval e X.env) :: starEach es X.env := by rfl) (hpl : (backTo pos (starEach es X.env)).any (·.1) = false := by rfl) :
    VF X T W m (.Call (.Name x p) (e :: es) [] pos) (callF M ga) := by
  obtain ⟨f, fd, Fn, h1, h2, h3⟩ := C.ex
  exact .call tk Fn (hr.mono hk) hg h1 h2 h3 ha hl hdb he hpl
theorem dCallD {y : Str} {py : Pos} (i : Nat) (C : Callee X.prog X.w X.K X.mg X.base T x k ps (spM X.mg X.K T true n M)) (tk : L2N.Takes X W) (hr : Room j X.A) (ha : VA X T W m false es ga) (hl : ∀ st ds st', ga st = .ok ds st' → ds.length + 1 = n) (hk : k ≤ j := by first | decide | omega) (hg : Gl X x := by rfl)
    (hN : X.N[i]? = some y := by rfl) (hv : Vis X.env.scope y := by first | exact .inl rfl | exact .inr (.inl rfl) | exact .inr (.inr rfl)) (hst : starEach ((.Name y py) :: es) X.env = (false, eval (.Name y py) X.env) :: starEach es X.env := by rfl)
    (hd : (y == ("__debug__" : Str)) = false := by decide) (hcd : (y == ("__classdict__" : Str)) = false := by decide)
    (hdb : (x == ("__debug__" : Str)) = false := by decide) (he : starEach (.Name y py :: es) X.env = (false, eval (.Name y py) X.env) :: starEach es X.env := by rfl) (hpl : (backTo pos (starEach es X.env)).any (·.1) = false := by rfl) :
    VE X T W true false (.Call (.Name x p) (.Name y py :: es) [] pos) (callD i M ga) := by
  obtain ⟨f, fd, Fn, h1, h2, h3⟩ := C.ex
  exact .callD tk Fn (hr.mono hk) hg h1 h2 h3 hN hv ha hl hst hd hcd hdb he hpl
theorem lD {n : Nat} (h : ∀ st ds st', ga st = .ok ds st' → ds.length = n) : ∀ st ds st', ga st = .ok ds st' → ds.length + 1 = n + 1 := fun st ds st' q => by rw [h _ _ _ q]
theorem dCallFS {y q : Str} {py : Pos} (i : Nat) (C : Callee X.prog X.w X.K X.mg X.base T x k [q] (spSc X.mg X.K T M)) (tk : L2N.Takes X W) (hr : Room j X.A) (hk : k ≤ j := by first | decide | omega) (hg : Gl X x := by rfl)
    (hN : X.N[i]? = some y := by rfl) (hv : Vis X.env.scope y := by first | exact .inl rfl | exact .inr (.inl rfl) | exact .inr (.inr rfl)) (hst : starEach [.Name y py] X.env = (false, eval (.Name y py) X.env) :: starEach [] X.env := by rfl)
    (hd : (y == ("__debug__" : Str)) = false := by decide) (hcd : (y == ("__classdict__" : Str)) = false := by decide) (hdb : (x == ("__debug__" : Str)) = false := by decide) (hpl : (backTo pos (starEach [] X.env)).any (·.1) = false := by rfl) :
    VF X T W m (.Call (.Name x p) [.Name y py] [] pos) (callFS i M) := by
  obtain ⟨f, fd, Fn, h1, h2, h3⟩ := C.ex
  exact .callS tk Fn (hr.mono hk) hg h1 h2 h3 hN hv hst hd hcd hdb hpl
end
section
variable {P : Program} {w : World} {K : PySem.W.Frag} {mg : Str → Option Value} {base : Heap} {T : Addr → Prop} {x : Str} {s : Stmt} {f : Addr} {fd : FuncData} {N ps : List Str} {k : Nat} {io : Bool} {M : Es'}
theorem callee_of (Fn : FunD K x x (defArgs s) (defBody s) (defScope s) [] [] f fd) (g : mg x = some (.ref f)) (S : FnScope N ps (defScope s))
    (hb : ∀ (kV doc pm : Value) (an : Option Addr) (cdv ct : Value) (us : List Value), us.length = ps.length → bindArgs (PySem.W.fnOf x x (defArgs s) (defBody s) (defScope s) .none kV doc pm an cdv ct) ⟨us, []⟩ = pure (ps.zip us))
    (body : ∀ (A : Around) (outer : List Env) (sh : Shared) (H : Hp) (E : XK), Room k (A.deeper (envOfC x (defScope s) sh.heap.objs.size f fd.code)) →
      VSs (cxOf (L2N.CX P w) P w K mg base N x (defScope s) f fd.code A outer sh H E) T (fun cls d _ H => E cls d H) (defBody s) M) (hps : ps.length ≤ N.length := by decide) :
    Callee P w K mg base T x (k + 1) ps (spM mg K T io ps.length fun p => M (full N.length p)) :=
  ⟨f, fd, fn_ok Fn S hps body, g, Fn.kp, Fn.bindsN hb⟩
theorem calleeS_of {p : Str} (Fn : FunD K x x (defArgs s) (defBody s) (defScope s) [] [] f fd) (g : mg x = some (.ref f)) (S : FnScope N [p] (defScope s))
    (hb : ∀ (kV doc pm : Value) (an : Option Addr) (cdv ct : Value) (us : List Value), us.length = 1 → bindArgs (PySem.W.fnOf x x (defArgs s) (defBody s) (defScope s) .none kV doc pm an cdv ct) ⟨us, []⟩ = pure ([p].zip us))
    (body : ∀ (A : Around) (outer : List Env) (sh : Shared) (H : Hp) (E : XK), Room k (A.deeper (envOfC x (defScope s) sh.heap.objs.size f fd.code)) →
      VSs (cxOf (L2N.CX P w) P w K mg base N x (defScope s) f fd.code A outer sh H E) T (fun cls d _ H => E cls d H) (defBody s) M) (hps : 1 ≤ N.length := by decide) :
    Callee P w K mg base T x (k + 1) [p] (spSc mg K T fun p => M (full N.length p)) :=
  ⟨f, fd, fn_okS Fn S hps body, g, Fn.kp, Fn.bindsN hb⟩
end

theorem gl0 : ∀ ds st st', gNil' ds st = some st' → ds.length = 0 := fun ds st st' h => by
  unfold gNil' at h
  split at h
  · rfl
  · cases h
theorem glS {g : D → Sts → Option Sts} {h : List D → Sts → Option Sts} {n : Nat} (hl : ∀ ds st st', h ds st = some st' → ds.length = n) : ∀ ds st st', gCons' g h ds st = some st' → ds.length = n + 1 := fun ds st st' q => by
  unfold gCons' at q
  split at q
  · rename_i d ds'
    cases e : g d st with
    | none => rw [e] at q; cases q
    | some st1 =>
      rw [e] at q
      rw [List.length_cons, hl _ _ _ q]
  · cases q
theorem VSs.bad {X : Cx} {T : Addr → Prop} {W : Wx} {ss : List Stmt} : VSs X T W ss fun _ => .bad := ⟨⟨fun pins s D σ H I h => by
  obtain ⟨F, st, R, q⟩ := h
  exact q.elim⟩⟩
def genC (N : List Str) (sc scope : Scope) (own : List (Str × Nat)) : Bool :=
  (match scope.kind with | .function => true | _ => false) && !scope.isCoroutine && (match scope.names.lookup (".0" : Str) with | some .local => true | _ => false) && (scope.names.all fun y => decide (scope.names.lookup y.1 = some y.2)) && (own.all fun p => decide (N[p.2]? = some p.1)) &&
    (scope.names.all fun y => match y.2 with
      | .free => (match sc.names.lookup y.1 with | some .cell => true | some .free => true | _ => false)
      | .local => decide (y.1 ∈ own.map (·.1)) || decide (y.1 ∉ N)
      | .cell => false
      | _ => true)
theorem genOk_by {N : List Str} {sc scope : Scope} {own : List (Str × Nat)} (h : genC N sc scope own = true) : GenB N sc scope own := by
  unfold genC at h
  simp only [Bool.and_eq_true, List.all_eq_true, decide_eq_true_eq] at h
  obtain ⟨⟨⟨⟨⟨h1, h0⟩, hd⟩, h2⟩, h3⟩, h4⟩ := h
  refine ⟨?_, by simpa using h0, fun y hy e => ?_, ?_, h2, h3, fun y hy e => ?_, fun y hy e => ?_⟩
  · split at h1
    · assumption
    · cases h1
  · have := h4 y hy
    rw [e] at this
    cases this
  · split at hd
    · assumption
    · cases hd
  · have := h4 y hy
    rw [e] at this
    dsimp only at this
    split at this
    · exact .inl (by assumption)
    · exact .inr (by assumption)
    · cases this
  · have := h4 y hy
    rw [e] at this
    simpa using this
end Vs

set_option Elab.async false
set_option linter.all false
set_option maxRecDepth 100000
set_option maxHeartbeats 4000000
namespace Vs
open PySem PySem.Spec PyProof.Rows L2
/-- what the tables' addresses are -/
def tset (cs : List (Addr × Addr)) : Addr → Prop := fun P => ∃ p ∈ cs, p.2 = P
theorem tabB_gx {base : Heap} {mg : Str → Option Value} {c P : Addr} (h : LamX.TabB base mg c P) : GxR.TabB base mg c P := ⟨h.1, h.2, h.3⟩
theorem law_sp {mg : Str → Option Value} {K : PySem.W.Frag} {cs : List (Addr × Addr)} {M : Es'} {ns : List Int} (hM : ∃ st, M [.scr ns] = .rt (.bool true) st) {H : Hp} {a : Addr} (hT : ∀ p ∈ cs, H p.2 = some (.tbl #[])) (hS : SqL K H a (ns.map V.int)) :
    spSc mg K (tset cs) M [.ref a] H (fun v _ => v = .bl true) fun _ _ _ => False := by
  obtain ⟨st, e⟩ := hM
  refine ⟨fun _ => False, a, ns, rfl, fun _ z => z.elim, fun P ⟨p, hp, e⟩ => ?_, hS.imp (fun z => ⟨z, id⟩) id, ?_⟩
  · have := hT p hp
    rw [e] at this
    exact ⟨_, this, trivial⟩
  · rw [e]
    exact fun v H' _ q => by cases q; rfl
theorem law_at {l : PySem.W.OpenLaw} {w : World} {K : PySem.W.Frag} {k n : Nat} {x : Str} {mg : Str → Option Value} {fa : Addr} {h : Heap} {fd : FuncData} (cs : List (Addr × Addr)) {M : Es'} (hT : ∀ p ∈ cs, h.get? p.2 = some { cls := .none, data := .fields #[] }) (nT : ∀ p ∈ cs, K.lookup p.2 = none) (C : ∀ p ∈ cs, PySem.W.CodeHd h p.1 p.2)
    (hb : ∀ (s : Shared) (u : Value), BindsTo s fd ⟨[u], []⟩ [(x, u)])
    (hM : ∀ ns : List Int, ns.length ≤ n → (∀ z ∈ ns, Builtin.Int.intBits z ≤ 1048576) → ∃ st, M [.scr ns] = .rt (.bool true) st)
    (hF : ∀ base : Heap, K.In base → base.Ns mainGlobals mg → (∀ p ∈ cs, GxR.TabB base mg p.1 p.2) → FnOk l.prog w K mg base (L2N.CX l.prog w) k fa fd [x] (spSc mg K (tset cs) M)) :
    LamX.LawAtS l w K (L2N.CX l.prog w) k n x mg fa h :=
  ⟨fd, cs, spSc mg K (tset cs) M, hT, nT, C, hb, fun H a ns h1 h2 h3 h4 => law_sp (hM ns h1 h2) h3 h4, fun base b1 b2 b3 => hF base b1 b2 fun p hp => tabB_gx (b3 p hp)⟩
theorem cx_no {prog : Program} (w : World) (H : Hp) (s : Shared) (e : Value) (s' : Shared) (h : L2N.CX prog w [] H s (fun _ _ _ => False) e s') : False := by
  obtain ⟨_, _, _, _, _, _, _, _, _, _, _, _, z⟩ := h
  exact z
theorem fun_code {K : PySem.W.Frag} {p : Str × Option Str} {x qual : Str} {params : Arguments} {body : List Stmt} {scope : Scope} {dvs : List V} {kws : List (Str × V)} {fd : FuncData} (F : FunD K x qual params body scope dvs kws (He.fAd K p) fd) : fd.code = .ref (He.codeOf K p) := by
  obtain ⟨oc, od, dV, kV, doc, pm, an, cdv, ct, osl, rfl, lk, hcd, _, _⟩ := F.ex
  obtain ⟨c, e⟩ := He.codeIn_ref hcd
  rw [He.codeOf_eq lk (c := c) e]
  exact e
end Vs

set_option Elab.async false
set_option linter.all false
set_option maxRecDepth 100000
set_option maxHeartbeats 4000000
namespace Vs
open PySem PySem.Spec PyProof.Rows L2
/-! ### the operations on plain data -/
theorem subD_ii (a b : Int) : subD (.int a) (.int b) = some (.int (a - b)) := rfl
theorem addD_ii (a b : Int) : addD (.int a) (.int b) = some (.int (a + b)) := rfl
theorem fdivD_ii {a b : Int} (h : 0 < b) (h2 : b.natAbs.log2 < 9000) : fdivD (.int a) (.int b) = some (.int (a / b)) := by
  show (if decide (0 < b ∧ b.natAbs.log2 < 9000) = true then some (PyData.int (a / b)) else none) = _
  rw [if_pos (decide_eq_true ⟨h, h2⟩)]
theorem modD_ii {a b : Int} (h : 0 < b) : modD (.int a) (.int b) = some (.int (a % b)) := by
  show (if decide (0 < b) = true then some (PyData.int (a % b)) else none) = _
  rw [if_pos (decide_eq_true h)]
theorem gtD_ii (a b : Int) : gtD (.int a) (.int b) = some (.bool (decide (b < a))) := rfl
theorem geD_ii (a b : Int) : geD (.int a) (.int b) = some (.bool (decide (b ≤ a))) := rfl
theorem ltD_ii (a b : Int) : ltD (.int a) (.int b) = some (.bool (decide (a < b))) := rfl
theorem leD_ii (a b : Int) : leD (.int a) (.int b) = some (.bool (decide (a ≤ b))) := rfl
theorem eqD_ii (a b : Int) : eqD (.int a) (.int b) = some (.bool (decide (a = b))) := by
  have e : PyData.eqv (.int a) (.int b) = decide (a = b) := by
    first | rfl | (simp [PyData.eqv] <;> rfl) | (unfold PyData.eqv; simp)
  unfold eqD
  rw [e, if_pos ⟨rfl, rfl⟩]
theorem neD_ii (a b : Int) : neD (.int a) (.int b) = some (.bool (!decide (a = b))) := by
  have e : PyData.eqv (.int a) (.int b) = decide (a = b) := by
    first | rfl | (simp [PyData.eqv] <;> rfl) | (unfold PyData.eqv; simp)
  unfold neD
  rw [e, if_pos ⟨rfl, rfl⟩]
/-- what is drawn -/
def take1 (xs : List Int) (b : Int) : Int × List Int := match xs.getLast? with
  | none => (0, xs)
  | some x => (x % b, xs.dropLast)
theorem mulD_ii {a b : Int} {m k : Nat} (ha : a.natAbs < 2 ^ m) (hb : b.natAbs < 2 ^ k) (h : m + k ≤ 134217728) : mulD (.int a) (.int b) = some (.int (a * b)) := by
  show (if mulOk a b = true then some (PyData.int (a * b)) else none) = _
  rw [if_pos (mulOk_of ha hb h)]
theorem bits_lt {z : Int} {m : Nat} (h : Builtin.Int.intBits z ≤ m) : z.natAbs < 2 ^ m := intBits_le_iff.mp h
theorem appendD {cs : List D} {d : D} (h : cs.length < sizeLine) : goAppend cs [d] = some (.none, cs ++ [d]) := by
  show (if cs.length < sizeLine then some (PyData.none, cs ++ [d]) else none) = _
  rw [if_pos h]
end Vs

set_option Elab.async false
set_option linter.all false
set_option maxRecDepth 100000
set_option maxHeartbeats 4000000
namespace Vs
open PySem PySem.Spec PyProof.Rows L2
open PySem.W (Datum Tup)
/-! ### Lean's own data as the program's -/
class LayD (α : Type) [DecidableEq α] [Datum α] : Prop where
  lay : ∀ a : α, PyData.canLay0 (Datum.toD a) = true
instance : LayD Int := ⟨fun _ => rfl⟩
instance : LayD Bool := ⟨fun _ => rfl⟩
instance : LayD Unit := ⟨fun _ => rfl⟩
section
variable {α β : Type} [DecidableEq α] [Datum α] [LayD α] [DecidableEq β] [Datum β] [LayD β]
theorem layAll : ∀ xs : List α, PyData.canLayAll0 (xs.map Datum.toD) = true
  | [] => rfl
  | x :: xs => by
    rw [List.map_cons, PyData.canLayAll0, LayD.lay x, layAll xs]; rfl
instance : LayD (List α) := ⟨fun xs => by show PyData.canLay0 (.list (xs.map Datum.toD)) = true; rw [PyData.canLay0]; exact layAll xs⟩
instance : LayD (Tup α) := ⟨fun xs => by show PyData.canLay0 (.tuple (xs.items.map Datum.toD)) = true; rw [PyData.canLay0]; exact layAll xs.items⟩
instance : LayD (α × β) := ⟨fun p => by show PyData.canLay0 (.tuple [Datum.toD p.1, Datum.toD p.2]) = true; rw [PyData.canLay0, PyData.canLayAll0, PyData.canLayAll0, PyData.canLayAll0, LayD.lay p.1, LayD.lay p.2]; rfl⟩
theorem shp_toD (a : α) (h : Datum.depth α ≤ 64 := by decide) : shp (Datum.toD a) = true := by
  show (PyData.canLay0 _ && decide (_ ≤ 64)) = true
  rw [LayD.lay a, decide_eq_true (Nat.le_trans (Datum.depth_le a) h)]; rfl
theorem eqD_toD (a b : α) (h : Datum.depth α ≤ 64 := by decide) : eqD (Datum.toD a) (Datum.toD b) = some (.bool (decide (a = b))) := by
  unfold eqD
  rw [if_pos ⟨shp_toD a h, shp_toD b h⟩, Datum.eqv]
theorem neD_toD (a b : α) (h : Datum.depth α ≤ 64 := by decide) : neD (Datum.toD a) (Datum.toD b) = some (.bool (!decide (a = b))) := by
  unfold neD
  rw [if_pos ⟨shp_toD a h, shp_toD b h⟩, Datum.eqv]
end
/-! ### statements, step by step -/
theorem seq_nx {f g : Es'} {st st1 : Sts} (h : f st = .nx st1) : sSeq f g st = g st1 := by unfold sSeq; rw [h]
theorem seq_rt {f g : Es'} {st st1 : Sts} {d : D} (h : f st = .rt d st1) : sSeq f g st = .rt d st1 := by unfold sSeq; rw [h]
theorem seq_rf {f g : Es'} {st st1 : Sts} {d : D} (h : f st = .rf d st1) : sSeq f g st = .rf d st1 := by unfold sSeq; rw [h]
theorem if_t {c : Et} {f g : Es'} {st st1 : Sts} (h : c st = .ok true st1) : sIf c f g st = f st1 := by unfold sIf bindS; rw [h]; rfl
theorem if_f {c : Et} {f g : Es'} {st st1 : Sts} (h : c st = .ok false st1) : sIf c f g st = g st1 := by unfold sIf bindS; rw [h]; rfl
theorem if_b {c : Et} {f g : Es'} {st st1 : Sts} {b : Bool} (h : c st = .ok b st1) : sIf c f g st = if b = true then f st1 else g st1 := by unfold sIf bindS; rw [h]
theorem set_ok {i : Nat} {fe : Ev} {st st1 : Sts} {d : D} (h : fe st = .ok d st1) (hp : noPar st1 i = true := by rfl) : sSet i fe st = .nx (st1.set i (.im d)) := by unfold sSet bindS; rw [h]; exact if_pos hp
theorem own_ok {i : Nat} {fe : Ev} {st st1 : Sts} {d : D} (h : fe st = .ok d st1) (hp : noPar st1 i = true := by rfl) : sOwn i fe st = .nx (st1.set i (.own d)) := by unfold sOwn bindS; rw [h]; exact if_pos hp
theorem ret_ok {fe : Ev} {st st1 : Sts} {d : D} (h : fe st = .ok d st1) : sRet fe st = .rt d st1 := by unfold sRet bindS; rw [h]
theorem for_ok {wp : List Nat} {fi : Ei} {g : D → Sts → Option Sts} {b : Es'} {st st1 : Sts} {ds : List D} (h : fi st = .ok ds st1) : sFor wp fi g b st = forS wp g b ds (wipes wp st1) := by unfold sFor bindS; rw [h]
theorem for_nil {wp : List Nat} {g : D → Sts → Option Sts} {b : Es'} {st : Sts} : forS wp g b [] st = .nx st := rfl
theorem for_nx {wp : List Nat} {g : D → Sts → Option Sts} {b : Es'} {st st1 st2 : Sts} {d : D} {ds : List D} (hg : g d st = some st1) (hb : b st1 = .nx st2) : forS wp g b (d :: ds) st = forS wp g b ds (wipes wp st2) := by
  show (match g d st with | none => Ou.bad | some st1 => _) = _
  rw [hg]; dsimp only; rw [hb]
theorem for_rt {wp : List Nat} {g : D → Sts → Option Sts} {b : Es'} {st st1 st2 : Sts} {d r : D} {ds : List D} (hg : g d st = some st1) (hb : b st1 = .rt r st2) : forS wp g b (d :: ds) st = .rt r st2 := by
  show (match g d st with | none => Ou.bad | some st1 => _) = _
  rw [hg]; dsimp only; rw [hb]
/-- a loop whose state is a function S of what a Lean function F makes of the items -/
theorem for_fold {α γ : Type} {wp : List Nat} {g : D → Sts → Option Sts} {b : Es'} (S : γ → Sts) (F : γ → α → γ) (em : α → D)
    (h : ∀ c a, ∃ st1 st2, g (em a) (S c) = some st1 ∧ b st1 = .nx st2 ∧ wipes wp st2 = S (F c a)) : ∀ (as : List α) (c : γ), forS wp g b (as.map em) (S c) = .nx (S (as.foldl F c))
  | [], c => rfl
  | a :: as, c => by
    obtain ⟨st1, st2, h1, h2, h3⟩ := h c a
    rw [List.map_cons, for_nx h1 h2, h3, for_fold S F em h as (F c a)]; rfl
/-- .. with what holds throughout, and what the item is -/
theorem for_inv {α γ : Type} {wp : List Nat} {g : D → Sts → Option Sts} {b : Es'} (S : γ → Sts) (em : α → D) (as : List α) (I : Nat → γ → Prop)
    (h : ∀ i c (a : α), as[i]? = some a → I i c → ∃ c' st1 st2, g (em a) (S c) = some st1 ∧ b st1 = .nx st2 ∧ wipes wp st2 = S c' ∧ I (i + 1) c') {c : γ} (h0 : I 0 c) :
    ∃ c', forS wp g b (as.map em) (S c) = .nx (S c') ∧ I as.length c' := by
  have key : ∀ (n i : Nat) (c : γ), i + n = as.length → I i c → ∃ c', forS wp g b ((as.drop i).map em) (S c) = .nx (S c') ∧ I as.length c' := by
    intro n
    induction n with
    | zero =>
      intro i c e hi
      have e : i = as.length := by omega
      subst e
      exact ⟨c, by rw [List.drop_length]; rfl, hi⟩
    | succ n ih =>
      intro i c e hi
      have hl : i < as.length := by omega
      obtain ⟨c', st1, st2, h1, h2, h3, h4⟩ := h i c as[i] (List.getElem?_eq_getElem hl) hi
      obtain ⟨c2, e2, i2⟩ := ih (i + 1) c' (by omega) h4
      exact ⟨c2, by rw [List.drop_eq_getElem_cons hl, List.map_cons, for_nx h1 h2, h3]; exact e2, i2⟩
  have := key as.length 0 c (by omega) h0
  rwa [List.drop_zero] at this
/-! ### expressions, step by step -/
theorem bin_ok {g : D → D → Option D} {fa fb : Ev} {st st1 st2 : Sts} {x y d : D} (h1 : fa st = .ok x st1) (h2 : fb st1 = .ok y st2) (h : g x y = some d) : bin g fa fb st = .ok d st2 := by
  unfold bin; rw [h1, Res.ok_bind, h2, Res.ok_bind, h]; rfl
theorem una_ok {g : D → Option D} {fa : Ev} {st st1 : Sts} {x d : D} (h1 : fa st = .ok x st1) (h : g x = some d) : una g fa st = .ok d st1 := by
  unfold una; rw [h1, Res.ok_bind, h]; rfl
theorem call1_ok {go : List D → Option D} {f : Ev} {st st1 : Sts} {x d : D} (h1 : f st = .ok x st1) (h : go [x] = some d) : callB go (aCons f aNil) st = .ok d st1 := by
  unfold callB aCons aNil; rw [h1, Res.ok_bind, Res.ok_bind, Res.ok_bind, h]; rfl
theorem call2_ok {go : List D → Option D} {f g : Ev} {st st1 st2 : Sts} {x y d : D} (h1 : f st = .ok x st1) (h2 : g st1 = .ok y st2) (h : go [x, y] = some d) : callB go (aCons f (aCons g aNil)) st = .ok d st2 := by
  unfold callB aCons aNil; rw [h1, Res.ok_bind]; show ((((g st1).bind fun d st1 => (Res.ok [] st1).bind fun ds st2 => Res.ok (d :: ds) st2).bind fun ds st2 => Res.ok (x :: ds) st2).bind fun ds st1 => ofO (go ds) st1) = _; rw [h2, Res.ok_bind, Res.ok_bind, Res.ok_bind, Res.ok_bind, h]; rfl
theorem tst_ok {f : Ev} {st st1 : Sts} {b : Bool} (h : f st = .ok (.bool b) st1) : tst f st = .ok b st1 := by unfold tst; rw [h]; rfl
theorem im_ok {i : Nat} {st : Sts} {d : D} (h : st[i]? = some (.im d)) : vIm i st = .ok d st := by unfold vIm; rw [h]
theorem c_ok {st : Sts} {d : D} : vC d st = .ok d st := rfl
theorem val_ok {f : Et} {st st1 : Sts} {b : Bool} (h : f st = .ok b st1) : val f st = .ok (.bool b) st1 := by unfold val; rw [h]; rfl
theorem nt_ok {f : Et} {st st1 : Sts} {b : Bool} (h : f st = .ok b st1) : nt f st = .ok (!b) st1 := by unfold nt; rw [h]; rfl
theorem an_t {f g : Et} {st st1 : Sts} (h : f st = .ok true st1) : an f g st = g st1 := by unfold an; rw [h, Res.ok_bind, if_pos rfl]
theorem an_f {f g : Et} {st st1 : Sts} (h : f st = .ok false st1) : an f g st = .ok false st1 := by unfold an; rw [h, Res.ok_bind, if_neg (by decide)]
theorem orr_t {f g : Et} {st st1 : Sts} (h : f st = .ok true st1) : orr f g st = .ok true st1 := by unfold orr; rw [h, Res.ok_bind, if_pos rfl]
theorem orr_f {f g : Et} {st st1 : Sts} (h : f st = .ok false st1) : orr f g st = g st1 := by unfold orr; rw [h, Res.ok_bind, if_neg (by decide)]
theorem iff_t {c : Et} {f g : Ev} {st st1 : Sts} (h : c st = .ok true st1) : iff c f g st = f st1 := by unfold iff; rw [h, Res.ok_bind, if_pos rfl]
theorem iff_f {c : Et} {f g : Ev} {st st1 : Sts} (h : c st = .ok false st1) : iff c f g st = g st1 := by unfold iff; rw [h, Res.ok_bind, if_neg (by decide)]
theorem acons_ok {f : Ev} {g : Ea} {st st1 st2 : Sts} {x : D} {xs : List D} (h : f st = .ok x st1) (h2 : g st1 = .ok xs st2) : aCons f g st = .ok (x :: xs) st2 := by unfold aCons; rw [h, Res.ok_bind, h2]; rfl
theorem anil_ok {st : Sts} : aNil st = .ok [] st := rfl
theorem irg_ok {fa : Ea} {st st1 : Sts} {ds es : List D} (h : fa st = .ok ds st1) (h2 : rgD ds = some es) : iRg fa st = .ok es st1 := by unfold iRg; rw [h, Res.ok_bind, h2]; rfl
theorem rgD_1 {j : Int} (h : -(2 ^ 62) ≤ j) (h2 : j < 2 ^ 62) : rgD [.int j] = some (rg 0 j) := if_pos (decide_eq_true ⟨h, h2⟩)
theorem rgD_2 {i j : Int} (g : -(2 ^ 62) ≤ i) (g2 : i < 2 ^ 62) (h : -(2 ^ 62) ≤ j) (h2 : j < 2 ^ 62) : rgD [.int i, .int j] = some (rg i j) := if_pos ⟨decide_eq_true ⟨g, g2⟩, decide_eq_true ⟨h, h2⟩⟩
/-- a loop that ends with r at the first item that is not P -/
theorem for_all {α : Type} {wp : List Nat} {g : D → Sts → Option Sts} {b : Es'} {S : Sts} {em : α → D} {P : α → Bool} {r : D} : ∀ {as : List α},
    (∀ a ∈ as, P a = true → ∃ st1 st2, g (em a) S = some st1 ∧ b st1 = .nx st2 ∧ wipes wp st2 = S) → (∀ a ∈ as, P a = false → ∃ st1 st2, g (em a) S = some st1 ∧ b st1 = .rt r st2) →
    (as.all P = true → forS wp g b (as.map em) S = .nx S) ∧ (as.all P = false → ∃ st, forS wp g b (as.map em) S = .rt r st)
  | [], _, _ => ⟨fun _ => rfl, fun h => by cases h⟩
  | a :: as, h1, h2 => by
    obtain ⟨k1, k2⟩ := for_all (as := as) (fun c hc => h1 c (List.mem_cons_of_mem _ hc)) fun c hc => h2 c (List.mem_cons_of_mem _ hc)
    rw [List.all_cons, List.map_cons]
    cases e : P a with
    | true =>
      obtain ⟨st1, st2, q1, q2, q3⟩ := h1 a (List.mem_cons_self ..) e
      rw [for_nx q1 q2, q3, Bool.true_and]
      exact ⟨k1, k2⟩
    | false =>
      obtain ⟨st1, st2, q1, q2⟩ := h2 a (List.mem_cons_self ..) e
      rw [for_rt q1 q2]
      exact ⟨fun h => (Bool.false_ne_true h).elim, fun _ => ⟨st2, rfl⟩⟩
end Vs

set_option Elab.async false
set_option linter.all false
set_option maxRecDepth 100000
set_option maxHeartbeats 4000000
namespace Vs
open PySem PySem.Spec PyProof.Rows L2
open PySem.W (Datum Tup)
/-! ### the defs that the laws share -/
local macro_rules | `(tactic| trivial) => `(tactic| simp only [tst, nt, an, orr, val, iff, bin, una, chain, vIm, vAny, vOwn, vC, getO, callB, aCons, aNil, Res.bind, ofO, asB, lenD, List.getElem?_cons_zero, List.getElem?_cons_succ, List.set_cons_zero, List.set_cons_succ, mOn, getL, setO, goPop, eqD_ii, neD_ii, ltD_ii, leD_ii, gtD_ii, geD_ii, addD_ii, subD_ii, intD, absD, Option.bind_some, Option.isSome_some, if_true, Option.map_some, List.length_map])
def takeM : Es' := sSeq (sIf (tst (bin eqD (callB lenD (aCons (vAny 0) (aNil))) (vC (.int 0)))) (sRet (vC (.int 0))) (sNil)) (sRet (bin modD (callB intD (aCons (mOn 0 goPop aNil) (aNil))) (vIm 1)))
theorem takeM_ev (xs : List Int) {b : Int} (hb : 0 < b) : takeM [.par (.list (xs.map .int)), .im (.int b)] = .rt (.int (take1 xs b).1) [.par (.list ((take1 xs b).2.map .int)), .im (.int b)] := by
  unfold takeM
  have hc : tst (bin eqD (callB lenD (aCons (vAny 0) (aNil))) (vC (.int 0))) [.par (.list (xs.map .int)), .im (.int b)] = .ok (decide ((xs.length : Int) = 0)) [.par (.list (xs.map .int)), .im (.int b)] := by
    trivial
  cases hx : xs.getLast? with
  | none =>
    have e : xs = [] := List.getLast?_eq_none_iff.mp hx
    subst e
    exact seq_rt ((if_t hc).trans rfl)
  | some x =>
    have hne : xs ≠ [] := fun e => by rw [e] at hx; cases hx
    have hl : ¬ ((xs.length : Int) = 0) := fun e => hne (List.length_eq_zero_iff.mp (by omega))
    rw [decide_eq_false hl] at hc
    refine (seq_nx (st1 := [.par (.list (xs.map .int)), .im (.int b)]) (if_f hc)).trans ?_
    have e1 : (xs.map PyData.int)[(xs.map PyData.int).length - 1]? = some (.int x) := by
      rw [← List.getLast?_eq_getElem?, List.getLast?_map, hx]; rfl
    have e2 : (xs.map PyData.int).dropLast = xs.dropLast.map PyData.int := by rw [List.map_dropLast]
    refine (ret_ok (d := .int (x % b)) (st1 := [.par (.list (xs.dropLast.map .int)), .im (.int b)]) ?_).trans (by unfold take1; rw [hx])
    trivial
    rw [List.length_map] at e1
    rw [e1]
    simp only [Option.map_some, modD_ii hb, e2, Res.bind, List.set_cons_zero, List.getElem?_cons_zero, List.getElem?_cons_succ]
def numM : Es' := sRet (val (an (tst (isF "int" (vIm 0))) (an (nt (tst (isF "bool" (vIm 0)))) (tst (chain leD leD (vIm 1) (vIm 0) (vIm 2))))))
theorem numM_int (x a b : Int) : numM [.im (.int x), .im (.int a), .im (.int b)] = .rt (.bool (decide (a ≤ x ∧ x ≤ b))) [.im (.int x), .im (.int a), .im (.int b)] := by
  have h : chain leD leD (vIm 1) (vIm 0) (vIm 2) [.im (.int x), .im (.int a), .im (.int b)] = .ok (.bool (decide (a ≤ x ∧ x ≤ b))) [.im (.int x), .im (.int a), .im (.int b)] := by
    trivial
    by_cases h1 : a ≤ x
    · simp [h1]
    · simp [h1]
  refine ret_ok ?_
  have i1 : tst (isF "int" (vIm 0)) [.im (.int x), .im (.int a), .im (.int b)] = .ok true [.im (.int x), .im (.int a), .im (.int b)] := by first | rfl | (with_unfolding_all rfl) | kernel_rfl
  have i2 : tst (isF "bool" (vIm 0)) [.im (.int x), .im (.int a), .im (.int b)] = .ok false [.im (.int x), .im (.int a), .im (.int b)] := by first | rfl | (with_unfolding_all rfl) | kernel_rfl
  have h3 : tst (chain leD leD (vIm 1) (vIm 0) (vIm 2)) [.im (.int x), .im (.int a), .im (.int b)] = .ok (decide (a ≤ x ∧ x ≤ b)) [.im (.int x), .im (.int a), .im (.int b)] := by
    unfold tst; rw [h]; rfl
  unfold val an
  rw [i1, Res.ok_bind]
  simp only [if_true, Vs.nt, i2, Res.ok_bind, Bool.not_false, h3]
end Vs
namespace Vs
open PySem PySem.Spec PyProof.Rows L2
local macro_rules | `(tactic| trivial) => `(tactic| simp only [tst, nt, an, orr, val, iff, bin, una, chain, vIm, vAny, vOwn, vC, getO, callB, aCons, aNil, Res.bind, ofO, asB, lenD, List.getElem?_cons_zero, List.getElem?_cons_succ, List.set_cons_zero, List.set_cons_succ, mOn, getL, setO, goPop, eqD_ii, neD_ii, ltD_ii, leD_ii, gtD_ii, geD_ii, addD_ii, subD_ii, intD, absD, Option.bind_some, Option.isSome_some, if_true, Option.map_some, List.length_map])
/-- appending to an owned list of ints -/
theorem app_ev {i : Nat} {fe : Ev} {st st1 : Sts} {cs : List D} {d : D} (h0 : getO st i = some (.list cs)) (he : fe st = .ok d st1) (h1 : getO st1 i = some (.list cs)) (hl : cs.length < sizeLine) : sEx (mOn i goAppend (aCons fe aNil)) st = .nx (setO st1 i (.list (cs ++ [d]))) := by
  unfold sEx bindS mOn getL
  simp only [h0, aCons, aNil, he, Res.bind, if_true, h1, appendD hl, Option.isSome_some]
end Vs

set_option Elab.async false
set_option linter.all false
set_option maxRecDepth 100000
set_option maxHeartbeats 4000000
namespace Vs
open PySem PySem.Spec PyProof.Rows L2
local macro_rules | `(tactic| trivial) => `(tactic| simp only [tst, nt, an, orr, val, iff, bin, una, chain, vIm, vAny, vOwn, vC, getO, callB, aCons, aNil, Res.bind, ofO, asB, lenD, List.getElem?_cons_zero, List.getElem?_cons_succ, List.set_cons_zero, List.set_cons_succ, mOn, getL, setO, goPop, eqD_ii, neD_ii, ltD_ii, leD_ii, gtD_ii, geD_ii, addD_ii, subD_ii, intD, absD, Option.bind_some, Option.isSome_some, if_true, Option.map_some, List.length_map])
theorem map_snoc (acc : List Int) (v : Int) : (acc ++ [v]).map PyData.int = acc.map PyData.int ++ [.int v] := by rw [List.map_append]; rfl
def dInner : Es' := sIf (tst (bin gtD (vIm 3) (vC (.int 0)))) (sSeq (sEx (mOn 1 goAppend (aCons (bin modD (callB intD (aCons (vIm 3) (aNil))) (vC (.int 997))) (aNil)))) (sSet 3 (bin fdivD (vIm 3) (vC (.int 997))))) (sNil)
def S2 (ns : List Int) (c : Int) (p : Int × List Int) : Sts := [.scr ns, .own (.list (p.2.map .int)), .im (.int c), .im (.int p.1), .un, .un, .un]
theorem dInner_ev (ns : List Int) (c : Int) (p : Int × List Int) (k : Int) (hl : p.2.length < sizeLine) :
    ∃ p' st2, dInner ((S2 ns c p).set 5 (.im (.int k))) = .nx st2 ∧ wipes [5] st2 = S2 ns c p' ∧ p'.2.length ≤ p.2.length + 1 := by
  obtain ⟨n, acc⟩ := p
  have hc : tst (bin gtD (vIm 3) (vC (.int 0))) ((S2 ns c (n, acc)).set 5 (.im (.int k))) = .ok (decide (0 < n)) ((S2 ns c (n, acc)).set 5 (.im (.int k))) := rfl
  by_cases h : 0 < n
  · rw [decide_eq_true h] at hc
    refine ⟨(n / 997, acc ++ [n % 997]), [.scr ns, .own (.list ((acc ++ [n % 997]).map .int)), .im (.int c), .im (.int (n / 997)), .un, .im (.int k), .un], ?_, rfl, by simp⟩
    refine (if_t hc).trans ?_
    refine (seq_nx (st1 := [.scr ns, .own (.list ((acc ++ [n % 997]).map .int)), .im (.int c), .im (.int n), .un, .im (.int k), .un]) ?_).trans ?_
    · refine (app_ev (st1 := (S2 ns c (n, acc)).set 5 (.im (.int k))) (cs := acc.map .int) (d := .int (n % 997)) rfl rfl rfl (by rw [List.length_map]; exact hl)).trans ?_
      rw [map_snoc]; rfl
    · exact set_ok rfl
  · rw [decide_eq_false h] at hc
    exact ⟨(n, acc), _, (if_f hc).trans rfl, rfl, Nat.le_succ _⟩
theorem dLoop_ev (ns : List Int) (c : Int) (p : Int × List Int) (hl : p.2.length + 60 < sizeLine) :
    ∃ p' : Int × List Int, forS [5] (gN 5) dInner (rg 0 60) (S2 ns c p) = .nx (S2 ns c p') ∧ p'.2.length ≤ p.2.length + 60 := by
  have e : rg 0 60 = (List.range 60).map fun (k : Nat) => PyData.int (0 + (k : Int)) := rfl
  rw [e]
  obtain ⟨p', h1, h2⟩ := for_inv (wp := [5]) (g := gN 5) (b := dInner) (S2 ns c) (fun (k : Nat) => PyData.int (0 + (k : Int))) (List.range 60) (fun i q => q.2.length ≤ p.2.length + i) (fun i q a ha hi => by
    have hi60 : i < 60 := by have := (List.getElem?_eq_some_iff.mp ha).1; rwa [List.length_range] at this
    obtain ⟨q', st2, e1, e2, e3⟩ := dInner_ev ns c q (0 + (a : Int)) (by omega)
    exact ⟨q', _, st2, rfl, e1, e2, by omega⟩) (c := p) (Nat.le_refl _)
  exact ⟨p', h1, by rwa [List.length_range] at h2⟩
end Vs

set_option Elab.async false
set_option linter.all false
set_option maxRecDepth 100000
set_option maxHeartbeats 4000000
namespace Vs
open PySem PySem.Spec PyProof.Rows L2
def dFirst : Es' := sSeq (sSet 4 (bin modD (callB intD (aCons (bin addD (bin mulD (vIm 3) (vC (.int 48271))) (vC (.int 11))) (aNil))) (vC (.int 2147483647)))) (sSeq (sEx (mOn 1 goAppend (aCons (bin modD (callB intD (aCons (bin addD (bin mulD (vIm 4) (vC (.int 69621))) (vIm 3)) (aNil))) (vC (.int 2147483629))) (aNil)))) (sSeq (sEx (mOn 1 goAppend (aCons (bin modD (callB intD (aCons (bin addD (vIm 4) (bin fdivD (vIm 3) (vC (.int 7)))) (aNil))) (vC (.int 1000003))) (aNil)))) (sSet 3 (vC (.int 0)))))
def dCell : Es' := sSeq (sSet 3 (callB absD (aCons (vIm 2) (aNil)))) (sSeq (sIf (tst (bin ltD (vIm 3) (bin powD (vC (.int 10)) (vC (.int 18))))) dFirst (sNil)) (sWipe [4] (sSeq (sFor [5] (iRg (aCons (vC (.int 60)) (aNil))) (gN 5) dInner) (sWipe [3, 5] (sNil)))))
def S1 (ns : List Int) (acc : List Int) : Sts := [.scr ns, .own (.list (acc.map .int)), .un, .un, .un, .un, .un]
theorem dFirst_ev (ns acc : List Int) (c n : Int) (h0 : 0 ≤ n) (h1 : n < 10 ^ 18) (hl : acc.length + 2 < sizeLine) :
    ∃ (acc' : List Int) (f : Int), dFirst (S2 ns c (n, acc)) = .nx [.scr ns, .own (.list (acc'.map .int)), .im (.int c), .im (.int 0), .im (.int f), .un, .un] ∧ acc'.length ≤ acc.length + 2 := by
  have hf0 : 0 ≤ (n * 48271 + 11) % 2147483647 := Int.emod_nonneg _ (by decide)
  have hf1 : (n * 48271 + 11) % 2147483647 < 2147483647 := Int.emod_lt_of_pos _ (by decide)
  generalize hf : (n * 48271 + 11) % 2147483647 = f at hf0 hf1
  have m1 : mulD (.int n) (.int 48271) = some (.int (n * 48271)) := mulD_ii (m := 60) (k := 16) (by have : (2:Nat)^60 = 1152921504606846976 := by decide
                                                                                                    omega) (by decide) (by decide)
  have m2 : mulD (.int f) (.int 69621) = some (.int (f * 69621)) := mulD_ii (m := 31) (k := 17) (by have : (2:Nat)^31 = 2147483648 := by decide
                                                                                                    omega) (by decide) (by decide)
  refine ⟨acc ++ [(f * 69621 + n) % 2147483629] ++ [(f + n / 7) % 1000003], f, ?_, by simp⟩
  refine (seq_nx (st1 := [.scr ns, .own (.list (acc.map .int)), .im (.int c), .im (.int n), .im (.int f), .un, .un]) ?_).trans ?_
  · refine (set_ok (d := .int f) (st1 := S2 ns c (n, acc)) ?_).trans rfl
    exact bin_ok (call1_ok (bin_ok (bin_ok rfl rfl m1) rfl (addD_ii _ _)) rfl) rfl (by rw [modD_ii (by decide), hf])
  refine (seq_nx (st1 := [.scr ns, .own (.list ((acc ++ [(f * 69621 + n) % 2147483629]).map .int)), .im (.int c), .im (.int n), .im (.int f), .un, .un]) ?_).trans ?_
  · refine (app_ev (st1 := [.scr ns, .own (.list (acc.map .int)), .im (.int c), .im (.int n), .im (.int f), .un, .un]) (cs := acc.map .int) (d := .int ((f * 69621 + n) % 2147483629)) rfl ?_ rfl (by rw [List.length_map]; omega)).trans ?_
    · exact bin_ok (call1_ok (bin_ok (bin_ok rfl rfl m2) rfl (addD_ii _ _)) rfl) rfl (modD_ii (by decide))
    · rw [map_snoc]; rfl
  refine (seq_nx (st1 := [.scr ns, .own (.list ((acc ++ [(f * 69621 + n) % 2147483629] ++ [(f + n / 7) % 1000003]).map .int)), .im (.int c), .im (.int n), .im (.int f), .un, .un]) ?_).trans ?_
  · refine (app_ev (st1 := [.scr ns, .own (.list ((acc ++ [(f * 69621 + n) % 2147483629]).map .int)), .im (.int c), .im (.int n), .im (.int f), .un, .un]) (cs := (acc ++ [(f * 69621 + n) % 2147483629]).map .int) (d := .int ((f + n / 7) % 1000003)) rfl rfl rfl (by simp; omega)).trans ?_
    rw [map_snoc (acc ++ [(f * 69621 + n) % 2147483629])]; rfl
  · exact set_ok rfl
end Vs

set_option Elab.async false
set_option linter.all false
set_option maxRecDepth 100000
set_option maxHeartbeats 4000000
namespace Vs
open PySem PySem.Spec PyProof.Rows L2
theorem dTail_ev (ns acc : List Int) (c n : Int) (s4 : Sl) (h4 : noPar [s4] 0 = true) (hl : acc.length + 60 < sizeLine) :
    ∃ (acc' : List Int) (st2 : Sts), sWipe [4] (sSeq (sFor [5] (iRg (aCons (vC (.int 60)) (aNil))) (gN 5) dInner) (sWipe [3, 5] (sNil))) [.scr ns, .own (.list (acc.map .int)), .im (.int c), .im (.int n), s4, .un, .un] = .nx st2 ∧ wipes [2, 3, 4, 5] st2 = S1 ns acc' ∧ acc'.length ≤ acc.length + 60 := by
  obtain ⟨p', e1, e2⟩ := dLoop_ev ns c (n, acc) hl
  refine ⟨p'.2, wipes [3, 5] (S2 ns c p'), ?_, rfl, e2⟩
  have hw : wipes [4] [.scr ns, .own (.list (acc.map .int)), .im (.int c), .im (.int n), s4, .un, .un] = S2 ns c (n, acc) := by
    cases s4 <;> first | rfl | (exact absurd h4 (by simp [noPar]))
  show sSeq _ _ (wipes [4] _) = _
  rw [hw]
  refine (seq_nx (st1 := S2 ns c p') ?_).trans rfl
  refine (for_ok (ds := rg 0 60) (st1 := S2 ns c (n, acc)) rfl).trans ?_
  exact e1
theorem dCell_ev (ns acc : List Int) (c : Int) (hl : acc.length + 62 < sizeLine) :
    ∃ (acc' : List Int) (st2 : Sts), dCell ((S1 ns acc).set 2 (.im (.int c))) = .nx st2 ∧ wipes [2, 3, 4, 5] st2 = S1 ns acc' ∧ acc'.length ≤ acc.length + 62 := by
  have ha : ∃ a : Int, 0 ≤ a ∧ absD [.int c] = some (.int a) := ⟨if c < 0 then -c else c, by split <;> omega, rfl⟩
  obtain ⟨a, ha0, ha⟩ := ha
  have s1 : dCell ((S1 ns acc).set 2 (.im (.int c))) = sSeq (sIf (tst (bin ltD (vIm 3) (bin powD (vC (.int 10)) (vC (.int 18))))) dFirst (sNil)) (sWipe [4] (sSeq (sFor [5] (iRg (aCons (vC (.int 60)) (aNil))) (gN 5) dInner) (sWipe [3, 5] (sNil)))) (S2 ns c (a, acc)) := by
    unfold dCell
    exact (seq_nx (set_ok (d := .int a) (call1_ok (x := .int c) rfl ha)))
  have hp : powD (.int 10) (.int 18) = some (.int (10 ^ 18)) := by
    show (if powOk 10 18 = true then some (PyData.int (10 ^ (18 : Int).toNat)) else none) = _
    rw [if_pos (by decide)]; rfl
  have hc : tst (bin ltD (vIm 3) (bin powD (vC (.int 10)) (vC (.int 18)))) (S2 ns c (a, acc)) = .ok (decide (a < 10 ^ 18)) (S2 ns c (a, acc)) := tst_ok (bin_ok rfl (bin_ok rfl rfl hp) (ltD_ii _ _))
  rw [s1]
  by_cases h : a < 10 ^ 18
  · rw [decide_eq_true h] at hc
    obtain ⟨acc1, f, e1, e2⟩ := dFirst_ev ns acc c a ha0 h (by omega)
    obtain ⟨acc2, st2, e3, e4, e5⟩ := dTail_ev ns acc1 c 0 (.im (.int f)) rfl (by omega)
    exact ⟨acc2, st2, (seq_nx ((if_t hc).trans e1)).trans e3, e4, by omega⟩
  · rw [decide_eq_false h] at hc
    obtain ⟨acc2, st2, e3, e4, e5⟩ := dTail_ev ns acc c a .un rfl (by omega)
    exact ⟨acc2, st2, (seq_nx ((if_f hc).trans rfl)).trans e3, e4, by omega⟩
theorem dCells_ev (ns acc : List Int) (cs : List Int) (hl : acc.length + 62 * cs.length < sizeLine) :
    ∃ acc' : List Int, forS [2, 3, 4, 5] (gN 2) dCell (cs.map .int) (S1 ns acc) = .nx (S1 ns acc') ∧ acc'.length ≤ acc.length + 62 * cs.length := by
  obtain ⟨p', h1, h2⟩ := for_inv (wp := [2, 3, 4, 5]) (g := gN 2) (b := dCell) (S1 ns) PyData.int cs (fun i q => q.length ≤ acc.length + 62 * i) (fun i q a ha hi => by
    have hi60 : i < cs.length := (List.getElem?_eq_some_iff.mp ha).1
    obtain ⟨q', st2, e1, e2, e3⟩ := dCell_ev ns q a (by omega)
    exact ⟨q', _, st2, rfl, e1, e2, by omega⟩) (c := acc) (Nat.le_refl _)
  exact ⟨p', h1, h2⟩
end Vs

set_option Elab.async false
set_option linter.all false
set_option maxRecDepth 100000
set_option maxHeartbeats 4000000
namespace Vs
open PySem PySem.Spec PyProof.Rows L2
def dSeed : Es' := sSeq (sSet 6 (bin modD (callB intD (aCons (bin addD (bin mulD (vIm 6) (vC (.int 48271))) (vC (.int 69621))) (aNil))) (vC (.int 2147483647)))) (sEx (mOn 1 goAppend (aCons (bin fdivD (vIm 6) (vC (.int 5))) (aNil))))
def drawsM : Es' := sSeq (sOwn 1 (callB mkL (aNil))) (sSeq (sFor [2, 3, 4, 5] (iScr 0) (gN 2) dCell) (sWipe [2, 3, 4, 5] (sSeq (sSet 6 (vC (.int 1))) (sSeq (sIf (tst (bin gtD (lenScr 0) (vC (.int 0)))) (sSet 6 (bin addD (vC (.int 1)) (callB absD (aCons (ixScr 0 (vC (.int 0))) (aNil))))) (sNil)) (sSeq (sFor [5] (iRg (aCons (vC (.int 900)) (aNil))) (gN 5) dSeed) (sWipe [5, 6] (sRetF (lrv (vAny 1)))))))))
def S3 (ns : List Int) (p : Int × List Int) : Sts := [.scr ns, .own (.list (p.2.map .int)), .un, .un, .un, .un, .im (.int p.1)]
theorem dSeed_ev (ns : List Int) (p : Int × List Int) (k : Int) (hl : p.2.length < sizeLine) (hs : p.1.natAbs < 2 ^ 1048577) :
    ∃ p' st2, dSeed ((S3 ns p).set 5 (.im (.int k))) = .nx st2 ∧ wipes [5] st2 = S3 ns p' ∧ p'.2.length ≤ p.2.length + 1 ∧ p'.1.natAbs < 2 ^ 31 := by
  obtain ⟨s, acc⟩ := p
  have m1 : mulD (.int s) (.int 48271) = some (.int (s * 48271)) := mulD_ii (m := 1048577) (k := 16) hs (by decide) (by decide)
  have hf0 : 0 ≤ (s * 48271 + 69621) % 2147483647 := Int.emod_nonneg _ (by decide)
  have hf1 : (s * 48271 + 69621) % 2147483647 < 2147483647 := Int.emod_lt_of_pos _ (by decide)
  generalize hf : (s * 48271 + 69621) % 2147483647 = f at hf0 hf1
  have h31 : (2:Nat)^31 = 2147483648 := by decide
  refine ⟨(f, acc ++ [f / 5]), [.scr ns, .own (.list ((acc ++ [f / 5]).map .int)), .un, .un, .un, .im (.int k), .im (.int f)], ?_, rfl, by simp, by rw [h31]; show f.natAbs < _; omega⟩
  refine (seq_nx (st1 := [.scr ns, .own (.list (acc.map .int)), .un, .un, .un, .im (.int k), .im (.int f)]) ?_).trans ?_
  · exact (set_ok (d := .int f) (st1 := (S3 ns (s, acc)).set 5 (.im (.int k))) (bin_ok (call1_ok (bin_ok (bin_ok rfl rfl m1) rfl (addD_ii _ _)) rfl) rfl (by rw [modD_ii (by decide), hf]))).trans rfl
  · refine (app_ev (st1 := [.scr ns, .own (.list (acc.map .int)), .un, .un, .un, .im (.int k), .im (.int f)]) (cs := acc.map .int) (d := .int (f / 5)) rfl (bin_ok rfl rfl (fdivD_ii (by decide) (by decide))) rfl (by rw [List.length_map]; exact hl)).trans ?_
    rw [map_snoc]; rfl
theorem dSeeds_ev (ns : List Int) (p : Int × List Int) (hl : p.2.length + 900 < sizeLine) (hs : p.1.natAbs < 2 ^ 1048577) :
    ∃ p' : Int × List Int, forS [5] (gN 5) dSeed (rg 0 900) (S3 ns p) = .nx (S3 ns p') := by
  have e : rg 0 900 = (List.range 900).map fun (k : Nat) => PyData.int (0 + (k : Int)) := rfl
  rw [e]
  have hpow : (2:Nat) ^ 31 ≤ 2 ^ 1048577 := Nat.pow_le_pow_right (by decide) (by decide)
  obtain ⟨p', h1, h2⟩ := for_inv (wp := [5]) (g := gN 5) (b := dSeed) (S3 ns) (fun (k : Nat) => PyData.int (0 + (k : Int))) (List.range 900) (fun i q => q.2.length ≤ p.2.length + i ∧ q.1.natAbs < 2 ^ 1048577) (fun i q a ha hi => by
    have hi60 : i < 900 := by have := (List.getElem?_eq_some_iff.mp ha).1; rwa [List.length_range] at this
    obtain ⟨q', st2, e1, e2, e3, e4⟩ := dSeed_ev ns q (0 + (a : Int)) (by omega) hi.2
    exact ⟨q', _, st2, rfl, e1, e2, by omega, Nat.lt_of_lt_of_le e4 hpow⟩) (c := p) ⟨Nat.le_refl _, hs⟩
  exact ⟨p', h1⟩
theorem drawsM_ev (ns : List Int) (hn : ns.length ≤ 63) (hb : ∀ z ∈ ns, Builtin.Int.intBits z ≤ 1048576) : ∃ (xs : List Int) (st : Sts), drawsM (full 7 [.scr ns]) = .rf (.list (xs.map .int)) st := by
  have hz : (5000 : Nat) < sizeLine := by rw [sizeLine_eq]; decide
  obtain ⟨acc, e1, l1⟩ := dCells_ev ns [] ns (by simp only [List.length_nil]; omega)
  have l1 : acc.length ≤ 3906 := by simp only [List.length_nil] at l1; omega
  -- the seed
  have hseed : ∃ s : Int, s.natAbs < 2 ^ 1048577 ∧ sIf (tst (bin gtD (lenScr 0) (vC (.int 0)))) (sSet 6 (bin addD (vC (.int 1)) (callB absD (aCons (ixScr 0 (vC (.int 0))) (aNil))))) (sNil) (S3 ns (1, acc)) = .nx (S3 ns (s, acc)) := by
    have hc : tst (bin gtD (lenScr 0) (vC (.int 0))) (S3 ns (1, acc)) = .ok (decide (0 < (ns.length : Int))) (S3 ns (1, acc)) := rfl
    cases ns with
    | nil =>
      refine ⟨1, Nat.one_lt_two_pow (by decide), ?_⟩
      exact (if_f hc).trans rfl
    | cons z r =>
      have hz1 := bits_lt (hb z (List.mem_cons_self ..))
      have h0 : (0 : Int) < ((z :: r).length : Int) := by rw [List.length_cons]; omega
      rw [decide_eq_true h0] at hc
      refine ⟨1 + (if z < 0 then -z else z), ?_, ?_⟩
      · have : (2:Nat) ^ 1048577 = 2 ^ 1048576 * 2 := Nat.pow_succ ..
        have h2 : (1 + (if z < 0 then -z else z)).natAbs = 1 + z.natAbs := by split <;> omega
        rw [h2, this]
        omega
      · refine (if_t hc).trans ((set_ok (d := .int (1 + (if z < 0 then -z else z))) (st1 := S3 (z :: r) (1, acc)) (bin_ok rfl (call1_ok (x := .int z) ?_ rfl) (addD_ii _ _))).trans rfl)
        have e0 : atD (.list ((z :: r).map .int)) (.int 0) = some (.int z) := by
          show atI ((z :: r).map PyData.int) 0 = _
          unfold atI ixN
          simp
        show ofO (atD (.list ((z :: r).map .int)) (.int 0)) (S3 (z :: r) (1, acc)) = _
        rw [e0]; rfl
  obtain ⟨s, hs, e2⟩ := hseed
  obtain ⟨p', e3⟩ := dSeeds_ev ns (s, acc) (by show acc.length + 900 < _; omega) hs
  refine ⟨p'.2.reverse, wipes [5, 6] (S3 ns p'), ?_⟩
  unfold drawsM
  refine (seq_nx (st1 := S1 ns []) rfl).trans ?_
  refine (seq_nx (st1 := S1 ns acc) ?_).trans ?_
  · exact (for_ok (ds := ns.map .int) (st1 := S1 ns []) rfl).trans e1
  show sSeq _ _ (wipes _ _) = _
  refine (seq_nx (st1 := S3 ns (1, acc)) rfl).trans ?_
  refine (seq_nx e2).trans ?_
  refine (seq_nx (st1 := S3 ns p') ?_).trans ?_
  · exact (for_ok (ds := rg 0 900) (st1 := S3 ns (s, acc)) rfl).trans e3
  show Ou.rf (.list ((p'.2.map PyData.int).reverse)) _ = _
  rw [List.map_reverse]
end Vs

set_option Elab.async false
set_option linter.all false
set_option maxRecDepth 100000
set_option maxHeartbeats 4000000
namespace Vs
open PySem PySem.Spec PyProof.Rows L2
def aliM (self : Es') : Es' := sSeq (sIf (orr (tst (isF "list" (vIm 1))) (tst (isF "tuple" (vIm 1)))) (sSeq (sIf (orr (tst (bin neD (isF "list" (vIm 0)) (isF "list" (vIm 1)))) (tst (bin neD (isF "tuple" (vIm 0)) (isF "tuple" (vIm 1))))) (sRet (vC (.bool false))) (sNil)) (sRet (val (an (tst (bin eqD (callB lenD (aCons (vIm 0) (aNil))) (callB lenD (aCons (vIm 1) (aNil))))) (tst (bin eqD (cmpP [2] (iRg (aCons (callB lenD (aCons (vIm 1) (aNil))) (aNil))) (gN 2) (nt (tst (callP self (aCons (bin atD (vIm 0) (vIm 2)) (aCons (bin atD (vIm 1) (vIm 2)) (aNil)))))) (vIm 2)) (callB mkL (aNil)))))))) (sNil)) (sSeq (sIf (tst (bin isD (vIm 1) (vC .none))) (sRet (bin isD (vIm 0) (vC .none))) (sNil)) (sSeq (sIf (orr (tst (isF "bool" (vIm 1))) (tst (isF "bool" (vIm 0)))) (sRet (val (an (tst (isF "bool" (vIm 0))) (an (tst (isF "bool" (vIm 1))) (tst (bin eqD (vIm 0) (vIm 1))))))) (sNil)) (sSeq (sIf (tst (isF "int" (vIm 1))) (sRet (val (an (tst (isF "int" (vIm 0))) (tst (bin eqD (vIm 0) (vIm 1)))))) (sNil)) (sRet (val (an (tst (isF "str" (vIm 0))) (tst (bin eqD (vIm 0) (vIm 1)))))))))
def aliC : Nat → Es'
  | 0 => fun _ => .bad
  | n + 1 => fun p => aliM (aliC n) (full 3 p)
theorem isTy_ev {t : String} {d : D} {b : Bool} {i : Nat} {st : Sts} (h : isTy t d = some b) (hi : st[i]? = some (.im d)) : tst (isF t (vIm i)) st = .ok b st := by
  refine tst_ok ?_
  unfold isF vIm
  rw [hi]
  show ofO ((isTy t d).map PyData.bool) st = _
  rw [h]; rfl
theorem isTy_list (ds : List D) : isTy "list" (.list ds) = some true := by first | rfl | kernel_rfl
theorem isTy_list2 (ds : List D) : isTy "tuple" (.list ds) = some false := by first | rfl | kernel_rfl
theorem isTy_tup (ds : List D) : isTy "tuple" (.tuple ds) = some true := by first | rfl | kernel_rfl
theorem isTy_tup2 (ds : List D) : isTy "list" (.tuple ds) = some false := by first | rfl | kernel_rfl
theorem isTy_int (i : Int) : isTy "list" (.int i) = some false ∧ isTy "tuple" (.int i) = some false ∧ isTy "bool" (.int i) = some false ∧ isTy "int" (.int i) = some true := ⟨by first | rfl | kernel_rfl, by first | rfl | kernel_rfl, by first | rfl | kernel_rfl, by first | rfl | kernel_rfl⟩
theorem isTy_bool (i : Bool) : isTy "list" (.bool i) = some false ∧ isTy "tuple" (.bool i) = some false ∧ isTy "bool" (.bool i) = some true := ⟨by first | rfl | kernel_rfl, by first | rfl | kernel_rfl, by first | rfl | kernel_rfl⟩
theorem isTy_none : isTy "list" .none = some false ∧ isTy "tuple" .none = some false := ⟨by first | rfl | kernel_rfl, by first | rfl | kernel_rfl⟩
theorem aliM_int (self : Es') (i : Int) : ∃ st, aliM self [.im (.int i), .im (.int i), .un] = .rt (.bool true) st := by
  obtain ⟨t1, t2, t3, t4⟩ := isTy_int i
  have c1 : orr (tst (isF "list" (vIm 1))) (tst (isF "tuple" (vIm 1))) [.im (.int i), .im (.int i), .un] = .ok false [.im (.int i), .im (.int i), .un] := by
    unfold orr; rw [isTy_ev t1 rfl, Res.ok_bind]; exact isTy_ev t2 rfl
  have c2 : orr (tst (isF "bool" (vIm 1))) (tst (isF "bool" (vIm 0))) [.im (.int i), .im (.int i), .un] = .ok false [.im (.int i), .im (.int i), .un] := by
    unfold orr; rw [isTy_ev t3 rfl, Res.ok_bind]; exact isTy_ev t3 rfl
  have c3 : tst (bin isD (vIm 1) (vC .none)) [.im (.int i), .im (.int i), .un] = .ok false [.im (.int i), .im (.int i), .un] := tst_ok (bin_ok (x := .int i) (y := .none) rfl rfl rfl)
  refine ⟨[.im (.int i), .im (.int i), .un], ?_⟩
  unfold aliM
  refine (seq_nx (st1 := [.im (.int i), .im (.int i), .un]) ((if_f c1).trans rfl)).trans ?_
  refine (seq_nx (st1 := [.im (.int i), .im (.int i), .un]) ((if_f c3).trans rfl)).trans ?_
  refine (seq_nx (st1 := [.im (.int i), .im (.int i), .un]) ((if_f c2).trans rfl)).trans ?_
  refine seq_rt ((if_t (isTy_ev t4 rfl)).trans (ret_ok ?_))
  exact val_ok ((an_t (isTy_ev t4 rfl)).trans (tst_ok (by rw [bin_ok (im_ok rfl) (im_ok rfl) (eqD_ii i i), decide_eq_true rfl])))
end Vs

set_option Elab.async false
set_option linter.all false
set_option maxRecDepth 100000
set_option maxHeartbeats 4000000
namespace Vs
open PySem PySem.Spec PyProof.Rows L2
inductive OkA : Nat → D → Prop
  | int (n : Nat) (i : Int) : OkA (n + 1) (.int i)
  | bool (n : Nat) (i : Bool) : OkA (n + 1) (.bool i)
  | none (n : Nat) : OkA (n + 1) .none
  | tup (n : Nat) (ds : List D) : ds.length < 2 ^ 24 → (∀ d ∈ ds, OkA n d) → OkA (n + 1) (.tuple ds)
  | lst (n : Nat) (ds : List D) : ds.length < 2 ^ 24 → (∀ d ∈ ds, OkA n d) → OkA (n + 1) (.list ds)
theorem flatM_nil {α : Type} {it : α → Option (List D)} : ∀ {as : List α}, (∀ a ∈ as, it a = some []) → flatM it as = some []
  | [], _ => rfl
  | a :: as, h => by
    unfold flatM
    rw [h a (List.mem_cons_self ..), flatM_nil fun b hb => h b (List.mem_cons_of_mem _ hb)]; rfl
theorem cItem_no {g : D → Sts → Option Sts} {ft : Et} {fe : Ev} {st st1 st2 : Sts} {d : D} (hg : g d st = some st1) (h : ft st1 = .ok false st2) : cItem g ft fe st d = some [] := by unfold cItem; rw [hg]; dsimp only; rw [h]
theorem cItem_yes {g : D → Sts → Option Sts} {ft : Et} {fe : Ev} {st st1 st2 st3 : Sts} {d y : D} (hg : g d st = some st1) (h : ft st1 = .ok true st2) (he : fe st1 = .ok y st3) : cItem g ft fe st d = some [y] := by unfold cItem; rw [hg]; dsimp only; rw [h]; dsimp only; rw [he]
theorem isF_ok {t : String} {d : D} {b : Bool} {i : Nat} {st : Sts} (h : isTy t d = some b) (hi : st[i]? = some (.im d)) : isF t (vIm i) st = .ok (.bool b) st := by
  unfold isF; rw [im_ok hi, Res.ok_bind, h]; rfl
theorem neD_bb (b : Bool) : neD (.bool b) (.bool b) = some (.bool false) := by cases b <;> first | rfl | kernel_rfl
theorem aliM_seq {self : Es'} {d : D} {ds : List D} {t1 t2 : Bool} (h1 : isTy "list" d = some t1) (h2 : isTy "tuple" d = some t2) (h12 : (t1 || t2) = true) (hlen : lenD [d] = some (.int ds.length)) (hat : ∀ k : Nat, k < ds.length → ∃ e, atD d (.int (0 + (k : Int))) = some e ∧ ∃ st, self [.im e, .im e] = .rt (.bool true) st) (hl : ds.length < 2 ^ 24) :
    ∃ st, aliM self [.im d, .im d, .un] = .rt (.bool true) st := by
  have c1 : orr (tst (isF "list" (vIm 1))) (tst (isF "tuple" (vIm 1))) [.im d, .im d, .un] = .ok true [.im d, .im d, .un] := by
    cases t1 with
    | true => exact orr_t (isTy_ev h1 rfl)
    | false =>
      refine (orr_f (isTy_ev h1 rfl)).trans ?_
      have : t2 = true := by simpa using h12
      rw [this] at h2
      exact isTy_ev h2 rfl
  have c2 : orr (tst (bin neD (isF "list" (vIm 0)) (isF "list" (vIm 1)))) (tst (bin neD (isF "tuple" (vIm 0)) (isF "tuple" (vIm 1)))) [.im d, .im d, .un] = .ok false [.im d, .im d, .un] :=
    (orr_f (tst_ok (bin_ok (isF_ok h1 rfl) (isF_ok h1 rfl) (neD_bb t1)))).trans (tst_ok (bin_ok (isF_ok h2 rfl) (isF_ok h2 rfl) (neD_bb t2)))
  have cl : ∀ i, ([.im d, .im d, .un] : Sts)[i]? = some (.im d) → callB lenD (aCons (vIm i) aNil) [.im d, .im d, .un] = .ok (.int ds.length) [.im d, .im d, .un] := fun i hi => call1_ok (im_ok hi) hlen
  have cc : cmpP [2] (iRg (aCons (callB lenD (aCons (vIm 1) (aNil))) (aNil))) (gN 2) (nt (tst (callP self (aCons (bin atD (vIm 0) (vIm 2)) (aCons (bin atD (vIm 1) (vIm 2)) (aNil)))))) (vIm 2) [.im d, .im d, .un] = .ok (.list []) [.im d, .im d, .un] := by
    have e1 : iRg (aCons (callB lenD (aCons (vIm 1) (aNil))) (aNil)) [.im d, .im d, .un] = .ok (rg 0 ds.length) [.im d, .im d, .un] := by
      exact irg_ok (acons_ok (cl 1 rfl) anil_ok) (rgD_1 (by omega) (by omega))
    unfold cmpP
    rw [e1, Res.ok_bind, if_pos (show allUn [2] [.im d, .im d, .un] = true from rfl), flatM_nil]
    · rfl
    · intro a ha
      obtain ⟨k, hk, rfl⟩ := List.mem_map.mp ha
      rw [List.mem_range] at hk
      have hk : k < ds.length := by omega
      obtain ⟨e, he, st, hs⟩ := hat k hk
      have e2 : nt (tst (callP self (aCons (bin atD (vIm 0) (vIm 2)) (aCons (bin atD (vIm 1) (vIm 2)) (aNil))))) [.im d, .im d, .im (.int (0 + (k : Int)))] = .ok false [.im d, .im d, .im (.int (0 + (k : Int)))] := by
        refine nt_ok (b := true) (tst_ok ?_)
        unfold callP aCons aNil
        rw [bin_ok (im_ok rfl) (im_ok rfl) he, Res.ok_bind, bin_ok (im_ok rfl) (im_ok rfl) he]
        show resP _ (self [.im e, .im e]) = _
        rw [hs]; rfl
      exact cItem_no rfl e2
  refine ⟨[.im d, .im d, .un], ?_⟩
  unfold aliM
  refine seq_rt ((if_t c1).trans ((seq_nx (st1 := [.im d, .im d, .un]) ((if_f c2).trans rfl)).trans (ret_ok (val_ok ((an_t (st1 := [.im d, .im d, .un]) (tst_ok ?_)).trans (tst_ok ?_))))))
  · rw [bin_ok (cl 0 rfl) (cl 1 rfl) (eqD_ii _ _), decide_eq_true rfl]
  · exact bin_ok cc rfl (by first | rfl | kernel_rfl)
end Vs

set_option Elab.async false
set_option linter.all false
set_option maxRecDepth 100000
set_option maxHeartbeats 4000000
namespace Vs
open PySem PySem.Spec PyProof.Rows L2
theorem aliM_bool (self : Es') (i : Bool) : ∃ st, aliM self [.im (.bool i), .im (.bool i), .un] = .rt (.bool true) st := by
  obtain ⟨t1, t2, t3⟩ := isTy_bool i
  have c1 : orr (tst (isF "list" (vIm 1))) (tst (isF "tuple" (vIm 1))) [.im (.bool i), .im (.bool i), .un] = .ok false [.im (.bool i), .im (.bool i), .un] := (orr_f (isTy_ev t1 rfl)).trans (isTy_ev t2 rfl)
  have c2 : orr (tst (isF "bool" (vIm 1))) (tst (isF "bool" (vIm 0))) [.im (.bool i), .im (.bool i), .un] = .ok true [.im (.bool i), .im (.bool i), .un] := orr_t (isTy_ev t3 rfl)
  have c3 : tst (bin isD (vIm 1) (vC .none)) [.im (.bool i), .im (.bool i), .un] = .ok false [.im (.bool i), .im (.bool i), .un] := tst_ok (bin_ok (x := .bool i) (y := .none) rfl rfl rfl)
  have he : eqD (.bool i) (.bool i) = some (.bool true) := by cases i <;> first | rfl | kernel_rfl
  refine ⟨[.im (.bool i), .im (.bool i), .un], ?_⟩
  unfold aliM
  refine (seq_nx (st1 := [.im (.bool i), .im (.bool i), .un]) ((if_f c1).trans rfl)).trans ?_
  refine (seq_nx (st1 := [.im (.bool i), .im (.bool i), .un]) ((if_f c3).trans rfl)).trans ?_
  refine seq_rt ((if_t c2).trans (ret_ok ?_))
  exact val_ok ((an_t (isTy_ev t3 rfl)).trans ((an_t (isTy_ev t3 rfl)).trans (tst_ok (bin_ok (im_ok rfl) (im_ok rfl) he))))
theorem aliM_none (self : Es') : ∃ st, aliM self [.im .none, .im .none, .un] = .rt (.bool true) st := by
  obtain ⟨t1, t2⟩ := isTy_none
  have c1 : orr (tst (isF "list" (vIm 1))) (tst (isF "tuple" (vIm 1))) [.im .none, .im .none, .un] = .ok false [.im .none, .im .none, .un] := (orr_f (isTy_ev t1 rfl)).trans (isTy_ev t2 rfl)
  have c3 : tst (bin isD (vIm 1) (vC .none)) [.im .none, .im .none, .un] = .ok true [.im .none, .im .none, .un] := tst_ok (bin_ok (x := .none) (y := .none) rfl rfl rfl)
  refine ⟨[.im .none, .im .none, .un], ?_⟩
  unfold aliM
  refine (seq_nx (st1 := [.im .none, .im .none, .un]) ((if_f c1).trans rfl)).trans ?_
  exact seq_rt ((if_t c3).trans (ret_ok (bin_ok (x := .none) (y := .none) rfl rfl rfl)))
theorem atI_nat {α : Type} {xs : List α} {k : Nat} (h : k < xs.length) : atI xs (0 + (k : Int)) = some xs[k] := by
  unfold atI ixN
  rw [if_pos (by omega), if_pos (by omega)]
  show xs[(0 + (k : Int)).toNat]? = _
  rw [show (0 + (k : Int)).toNat = k by omega, List.getElem?_eq_getElem h]
/-- what is found is what is due -/
theorem alike_ev : ∀ {n : Nat} {d : D}, OkA n d → ∃ st, aliC n [.im d, .im d] = .rt (.bool true) st := by
  intro n d h
  induction h with
  | int n i => exact aliM_int _ i
  | bool n i => exact aliM_bool _ i
  | none n => exact aliM_none _
  | tup n ds hl _ ih => exact aliM_seq (isTy_tup2 ds) (isTy_tup ds) rfl rfl (fun k hk => ⟨ds[k], atI_nat hk, ih _ (List.getElem_mem hk)⟩) hl
  | lst n ds hl _ ih => exact aliM_seq (isTy_list ds) (isTy_list2 ds) rfl rfl (fun k hk => ⟨ds[k], atI_nat hk, ih _ (List.getElem_mem hk)⟩) hl
end Vs

set_option Elab.async false
set_option linter.all false
set_option maxRecDepth 100000
set_option maxHeartbeats 4000000
namespace Vs
open PySem PySem.Spec PyProof.Rows L2
theorem flatM_fm {α : Type} {it : D → Option (List D)} {em : α → D} {f : α → Option D} : ∀ {as : List α}, (∀ a ∈ as, it (em a) = some (f a).toList) → flatM it (as.map em) = some (as.filterMap f)
  | [], _ => rfl
  | a :: as, h => by
    rw [List.map_cons, flatM, h a (List.mem_cons_self ..), flatM_fm fun b hb => h b (List.mem_cons_of_mem _ hb)]
    cases e : f a with
    | none => rw [List.filterMap_cons_none e]; rfl
    | some d => rw [List.filterMap_cons_some e]; rfl
theorem cmpP_ok {vs : List Nat} {fi : Ei} {g : D → Sts → Option Sts} {ft : Et} {fe : Ev} {st st1 : Sts} {ds ys : List D} (h : fi st = .ok ds st1) (hu : allUn vs st1 = true) (hf : flatM (cItem g ft fe st1) ds = some ys) (hl : ys.length ≤ sizeLine) : cmpP vs fi g ft fe st = .ok (.list ys) st1 := by
  unfold cmpP
  rw [h, Res.ok_bind, if_pos hu, hf]
  show (if szL ys.length = true then _ else _) = _
  rw [if_pos (show szL ys.length = true from decide_eq_true hl)]
/-- all/any: what the items say -/
theorem gB1_ok {α : Type} {cont : Bool} {it : D → Option (Option Bool)} {em : α → D} {P : α → Bool} : ∀ {as : List α}, (∀ a ∈ as, it (em a) = some (some (P a))) → gB1 cont it (as.map em) = some (if cont = true then as.all P else as.any P)
  | [], _ => by cases cont <;> rfl
  | a :: as, h => by
    rw [List.map_cons]
    unfold gB1
    rw [h a (List.mem_cons_self ..)]
    dsimp only
    rw [gB1_ok fun b hb => h b (List.mem_cons_of_mem _ hb), List.all_cons, List.any_cons]
    cases cont <;> cases P a <;> rfl
end Vs

set_option Elab.async false
set_option linter.all false
set_option maxRecDepth 100000
set_option maxHeartbeats 4000000
namespace Vs
open PySem PySem.Spec PyProof.Rows L2
theorem rangeSize_c {i j c : Int} (hc : 0 < c) : Builtin.Range.rangeSize i j c = if i < j then (j - i - 1) / c + 1 else 0 := by
  unfold Builtin.Range.rangeSize
  rw [if_pos hc]
theorem rgcN_c {i j c : Int} (hc : 0 < c) : rgcN i j c = (if i < j then (j - i - 1) / c + 1 else 0).toNat := by unfold rgcN; rw [rangeSize_c hc]
theorem rgcOk_c {i j c : Int} (hc : 0 < c) (hc2 : c < 2 ^ 30) (h1 : -(2 ^ 60) ≤ i) (h2 : i < 2 ^ 60) (h3 : -(2 ^ 60) ≤ j) (h4 : j < 2 ^ 60) : rgcOk i j c = true := by
  unfold rgcOk
  have hn : 0 ≤ Builtin.Range.rangeSize i j c := by
    rw [rangeSize_c hc]
    split
    · have : 0 ≤ (j - i - 1) / c := Int.ediv_nonneg (by omega) (by omega)
      omega
    · omega
  have hs : Builtin.Range.small i j c = true := by
    unfold Builtin.Range.small
    rw [rangeSize_c hc]
    simp only [Builtin.Range.rangeFitsLong, Bool.and_eq_true, Bool.or_eq_true, decide_eq_true_eq, beq_iff_eq, show c > 0 from hc, if_true]
    have hq : i < j → (j - i - 1) / c ≤ j - i - 1 := fun h => Int.ediv_le_self _ (by omega)
    have hq0 : i < j → 0 ≤ (j - i - 1) / c := fun h => Int.ediv_nonneg (by omega) (by omega)
    split
    · rename_i h
      have := hq h
      have := hq0 h
      omega
    · omega
  rw [hs, Bool.and_true, decide_eq_true (show c ≠ 0 ∧ c.natAbs < 1073741824 by omega), Bool.true_and]
  exact decide_eq_true (by unfold rgcN; omega)
end Vs

set_option Elab.async false
set_option linter.all false
set_option maxRecDepth 100000
set_option maxHeartbeats 4000000
namespace Vs
open PySem PySem.Spec PyProof.Rows L2
/-! ### mirrors computed by simp: each rule asks for the state, and nothing is opened ahead of its turn -/
/-! no binders in the rules: what is to come stays shut until its state is there -/
def sqK (g : Es') (o : Ou) : Ou := match o with
  | .nx st1 => g st1
  | o => o
theorem sSeq_s (f g : Es') (st : Sts) : sSeq f g st = sqK g (f st) := by unfold sSeq sqK; cases f st <;> rfl
theorem sqK_nx (g : Es') (st : Sts) : sqK g (.nx st) = g st := Eq.trans rfl rfl
theorem sqK_rt (g : Es') (d : D) (st : Sts) : sqK g (.rt d st) = .rt d st := Eq.trans rfl rfl
theorem sqK_rf (g : Es') (d : D) (st : Sts) : sqK g (.rf d st) = .rf d st := Eq.trans rfl rfl
theorem ofO_s {α : Type} (a : α) (st : Sts) : ofO (some a) st = .ok a st := Eq.trans rfl rfl
def binL (g : D → D → Option D) (x : D) (r : Res D) : Res D := r.bind fun y st2 => ofO (g x y) st2
def binK (g : D → D → Option D) (fb : Ev) (r : Res D) : Res D := r.bind fun x st1 => binL g x (fb st1)
theorem bin_s (g : D → D → Option D) (fa fb : Ev) (st : Sts) : bin g fa fb st = binK g fb (fa st) := Eq.trans rfl rfl
theorem binK_ok (g : D → D → Option D) (fb : Ev) (x : D) (st : Sts) : binK g fb (.ok x st) = binL g x (fb st) := Eq.trans rfl rfl
theorem binL_ok (g : D → D → Option D) (x y : D) (st : Sts) : binL g x (.ok y st) = ofO (g x y) st := Eq.trans rfl rfl
def unaK (g : D → Option D) (r : Res D) : Res D := r.bind fun x st1 => ofO (g x) st1
theorem una_s (g : D → Option D) (fa : Ev) (st : Sts) : una g fa st = unaK g (fa st) := Eq.trans rfl rfl
theorem unaK_ok (g : D → Option D) (x : D) (st : Sts) : unaK g (.ok x st) = ofO (g x) st := Eq.trans rfl rfl
def tstK (r : Res D) : Res Bool := r.bind fun d st1 => ofO (asB d) st1
theorem tst_s (f : Ev) (st : Sts) : tst f st = tstK (f st) := Eq.trans rfl rfl
theorem tstK_ok (b : Bool) (st : Sts) : tstK (.ok (.bool b) st) = .ok b st := Eq.trans rfl rfl
def ntK (r : Res Bool) : Res Bool := r.bind fun b st1 => .ok (!b) st1
theorem nt_s (f : Et) (st : Sts) : nt f st = ntK (f st) := Eq.trans rfl rfl
theorem ntK_ok (b : Bool) (st : Sts) : ntK (.ok b st) = .ok (!b) st := Eq.trans rfl rfl
def anK (g : Et) (r : Res Bool) : Res Bool := r.bind fun b st1 => if b = true then g st1 else .ok false st1
theorem an_s (f g : Et) (st : Sts) : an f g st = anK g (f st) := Eq.trans rfl rfl
theorem anK_t (g : Et) (st : Sts) : anK g (.ok true st) = g st := Eq.trans rfl rfl
theorem anK_f (g : Et) (st : Sts) : anK g (.ok false st) = .ok false st := Eq.trans rfl rfl
def orK (g : Et) (r : Res Bool) : Res Bool := r.bind fun b st1 => if b = true then .ok true st1 else g st1
theorem orr_s (f g : Et) (st : Sts) : orr f g st = orK g (f st) := Eq.trans rfl rfl
theorem orK_t (g : Et) (st : Sts) : orK g (.ok true st) = .ok true st := Eq.trans rfl rfl
theorem orK_f (g : Et) (st : Sts) : orK g (.ok false st) = g st := Eq.trans rfl rfl
def valK (r : Res Bool) : Res D := r.bind fun b st1 => .ok (.bool b) st1
theorem val_s (f : Et) (st : Sts) : val f st = valK (f st) := Eq.trans rfl rfl
theorem valK_ok (b : Bool) (st : Sts) : valK (.ok b st) = .ok (.bool b) st := Eq.trans rfl rfl
def iffK (f g : Ev) (r : Res Bool) : Res D := r.bind fun b st1 => if b = true then f st1 else g st1
theorem iff_s (c : Et) (f g : Ev) (st : Sts) : iff c f g st = iffK f g (c st) := Eq.trans rfl rfl
theorem iffK_t (f g : Ev) (st : Sts) : iffK f g (.ok true st) = f st := Eq.trans rfl rfl
theorem iffK_f (f g : Ev) (st : Sts) : iffK f g (.ok false st) = g st := Eq.trans rfl rfl
def cbK (go : List D → Option D) (r : Res (List D)) : Res D := r.bind fun ds st1 => ofO (go ds) st1
theorem callB_s (go : List D → Option D) (fa : Ea) (st : Sts) : callB go fa st = cbK go (fa st) := Eq.trans rfl rfl
theorem cbK_ok (go : List D → Option D) (ds : List D) (st : Sts) : cbK go (.ok ds st) = ofO (go ds) st := Eq.trans rfl rfl
def acL (d : D) (r : Res (List D)) : Res (List D) := r.bind fun ds st2 => .ok (d :: ds) st2
def acK (g : Ea) (r : Res D) : Res (List D) := r.bind fun d st1 => acL d (g st1)
theorem aCons_s (f : Ev) (g : Ea) (st : Sts) : aCons f g st = acK g (f st) := Eq.trans rfl rfl
theorem acK_ok (g : Ea) (d : D) (st : Sts) : acK g (.ok d st) = acL d (g st) := Eq.trans rfl rfl
theorem acL_ok (d : D) (ds : List D) (st : Sts) : acL d (.ok ds st) = .ok (d :: ds) st := Eq.trans rfl rfl
theorem aNil_s (st : Sts) : aNil st = .ok [] st := Eq.trans rfl rfl
theorem vC_s (d : D) (st : Sts) : vC d st = .ok d st := Eq.trans rfl rfl
def vImK (o : Option Sl) (st : Sts) : Res D := match o with
  | some (.im d) => .ok d st
  | _ => .bad
theorem vIm_s (i : Nat) (st : Sts) : vIm i st = vImK st[i]? st := Eq.trans rfl rfl
theorem vImK_im (d : D) (st : Sts) : vImK (some (.im d)) st = .ok d st := Eq.trans rfl rfl
def vAnyK (o : Option Sl) (st : Sts) : Res D := match o with
  | some (.im d) => .ok d st
  | some (.own d) => .ok d st
  | some (.par d) => .ok d st
  | _ => .bad
theorem vAny_s (i : Nat) (st : Sts) : vAny i st = vAnyK st[i]? st := by
  unfold vAny vAnyK vOwn getO
  cases st[i]? with
  | none => rfl
  | some s => cases s <;> rfl
theorem vAnyK_im (d : D) (st : Sts) : vAnyK (some (.im d)) st = .ok d st := Eq.trans rfl rfl
theorem vAnyK_own (d : D) (st : Sts) : vAnyK (some (.own d)) st = .ok d st := Eq.trans rfl rfl
theorem vAnyK_par (d : D) (st : Sts) : vAnyK (some (.par d)) st = .ok d st := Eq.trans rfl rfl
theorem g0 (a : Sl) (l : Sts) : (a :: l)[0]? = some a := Eq.trans rfl rfl
theorem gS (a : Sl) (l : Sts) (n : Nat) : (a :: l)[n + 1]? = l[n]? := Eq.trans rfl rfl
def sIfK (f g : Es') (r : Res Bool) : Ou := bindS r fun b st' => if b = true then f st' else g st'
theorem sIf_s (c : Et) (f g : Es') (st : Sts) : sIf c f g st = sIfK f g (c st) := Eq.trans rfl rfl
theorem sIfK_t (f g : Es') (st : Sts) : sIfK f g (.ok true st) = f st := Eq.trans rfl rfl
theorem sIfK_f (f g : Es') (st : Sts) : sIfK f g (.ok false st) = g st := Eq.trans rfl rfl
theorem sNil_s (st : Sts) : sNil st = .nx st := Eq.trans rfl rfl
def sRetK (r : Res D) : Ou := bindS r fun d st' => .rt d st'
theorem sRet_s (f : Ev) (st : Sts) : sRet f st = sRetK (f st) := Eq.trans rfl rfl
theorem sRetK_ok (d : D) (st : Sts) : sRetK (.ok d st) = .rt d st := Eq.trans rfl rfl
def sExK (r : Res D) : Ou := bindS r fun _ st' => .nx st'
theorem sEx_s (f : Ev) (st : Sts) : sEx f st = sExK (f st) := Eq.trans rfl rfl
theorem sExK_ok (d : D) (st : Sts) : sExK (.ok d st) = .nx st := Eq.trans rfl rfl
def npK (o : Option Sl) : Bool := match o with
  | some (.par _) => false
  | _ => true
theorem noPar_s (st : Sts) (i : Nat) : noPar st i = npK st[i]? := Eq.trans rfl rfl
theorem npK_un : npK (some .un) = true := Eq.trans rfl rfl
theorem npK_im (d : D) : npK (some (.im d)) = true := Eq.trans rfl rfl
theorem npK_own (d : D) : npK (some (.own d)) = true := Eq.trans rfl rfl
theorem npK_scr (d : List Int) : npK (some (.scr d)) = true := Eq.trans rfl rfl
theorem npK_par (d : D) : npK (some (.par d)) = false := Eq.trans rfl rfl
def sSetK (i : Nat) (r : Res D) : Ou := bindS r fun d st' => if noPar st' i = true then .nx (st'.set i (.im d)) else .bad
theorem sSet_s (i : Nat) (fe : Ev) (st : Sts) : sSet i fe st = sSetK i (fe st) := Eq.trans rfl rfl
theorem sSetK_ok {i : Nat} {d : D} {st : Sts} (h : noPar st i = true) : sSetK i (.ok d st) = .nx (st.set i (.im d)) := if_pos h
def sOwnK (i : Nat) (r : Res D) : Ou := bindS r fun d st' => if noPar st' i = true then .nx (st'.set i (.own d)) else .bad
theorem sOwn_s (i : Nat) (fe : Ev) (st : Sts) : sOwn i fe st = sOwnK i (fe st) := Eq.trans rfl rfl
theorem sOwnK_ok {i : Nat} {d : D} {st : Sts} (h : noPar st i = true) : sOwnK i (.ok d st) = .nx (st.set i (.own d)) := if_pos h
theorem sWipe_s (l : List Nat) (f : Es') (st : Sts) : sWipe l f st = f (wipes l st) := Eq.trans rfl rfl
theorem sGive_s (l : List Nat) (f : Es') (st : Sts) : sGive l f st = f (gives l st) := Eq.trans rfl rfl
theorem wipes_n (st : Sts) : wipes [] st = st := Eq.trans rfl rfl
theorem wipes_t {i : Nat} {l : List Nat} {st : Sts} (h : noPar st i = true) : wipes (i :: l) st = wipes l (st.set i .un) := by
  show wipes l (wipe1 st i) = _
  rw [wipe1, if_pos h]
theorem wipes_f {i : Nat} {l : List Nat} {st : Sts} (h : noPar st i = false) : wipes (i :: l) st = wipes l st := by
  show wipes l (wipe1 st i) = _
  rw [wipe1, h]; rfl
def giveK (o : Option Sl) (i : Nat) (st : Sts) : Sts := match o with
  | some (.own d) => st.set i (.im d)
  | _ => st
def sForK (wp : List Nat) (g : D → Sts → Option Sts) (body : Es') (r : Res (List D)) : Ou := bindS r fun ds st1 => forS wp g body ds (wipes wp st1)
theorem sFor_s (wp : List Nat) (fi : Ei) (g : D → Sts → Option Sts) (body : Es') (st : Sts) : sFor wp fi g body st = sForK wp g body (fi st) := Eq.trans rfl rfl
theorem sForK_ok (wp : List Nat) (g : D → Sts → Option Sts) (body : Es') (ds : List D) (st : Sts) : sForK wp g body (.ok ds st) = forS wp g body ds (wipes wp st) := Eq.trans rfl rfl
def iRgK (r : Res (List D)) : Res (List D) := r.bind fun ds st1 => ofO (rgD ds) st1
theorem iRg_s (fa : Ea) (st : Sts) : iRg fa st = iRgK (fa st) := Eq.trans rfl rfl
theorem iRgK_ok (ds : List D) (st : Sts) : iRgK (.ok ds st) = ofO (rgD ds) st := Eq.trans rfl rfl
def iValK (r : Res D) : Res (List D) := r.bind fun d st1 => ofO (itemsOf d) st1
theorem iVal_s (f : Ev) (st : Sts) : iVal f st = iValK (f st) := Eq.trans rfl rfl
theorem iValK_ok (d : D) (st : Sts) : iValK (.ok d st) = ofO (itemsOf d) st := Eq.trans rfl rfl
theorem items_l (ds : List D) : itemsOf (.list ds) = some ds := Eq.trans rfl rfl
theorem items_t (ds : List D) : itemsOf (.tuple ds) = some ds := Eq.trans rfl rfl
def cpK (M : Es') (r : Res (List D)) : Res D := r.bind fun ds st1 => resP st1 (M (ds.map Sl.im))
theorem callP_s (M : Es') (fa : Ea) (st : Sts) : callP M fa st = cpK M (fa st) := Eq.trans rfl rfl
theorem cpK_ok (M : Es') (ds : List D) (st : Sts) : cpK M (.ok ds st) = resP st (M (ds.map Sl.im)) := Eq.trans rfl rfl
theorem resP_rt {o : Ou} {d : D} (h : ∃ st', o = .rt d st') (st : Sts) : resP st o = .ok d st := by obtain ⟨st', rfl⟩ := h; rfl
theorem gN_s {i : Nat} {d : D} {st : Sts} (h : noPar st i = true) : gN i d st = some (st.set i (.im d)) := if_pos h
def sUnL (o : Option Sts) : Ou := match o with
  | some st2 => .nx st2
  | none => .bad
def sUnK (g : D → Sts → Option Sts) (r : Res D) : Ou := bindS r fun d st1 => sUnL (g d st1)
theorem sUn_s (g : D → Sts → Option Sts) (fe : Ev) (st : Sts) : sUn g fe st = sUnK g (fe st) := Eq.trans rfl rfl
theorem sUnK_ok (g : D → Sts → Option Sts) (d : D) (st : Sts) : sUnK g (.ok d st) = sUnL (g d st) := Eq.trans rfl rfl
theorem sUnL_ok (st : Sts) : sUnL (some st) = .nx st := Eq.trans rfl rfl
theorem gT_t (h : List D → Sts → Option Sts) (ds : List D) (st : Sts) : gT h (.tuple ds) st = h ds st := Eq.trans rfl rfl
def gcK (h : List D → Sts → Option Sts) (ds : List D) (o : Option Sts) : Option Sts := o.bind (h ds)
theorem gCons_c (g : D → Sts → Option Sts) (h : List D → Sts → Option Sts) (d : D) (ds : List D) (st : Sts) : gCons' g h (d :: ds) st = gcK h ds (g d st) := Eq.trans rfl rfl
theorem gcK_ok (h : List D → Sts → Option Sts) (ds : List D) (st : Sts) : gcK h ds (some st) = h ds st := Eq.trans rfl rfl
theorem gNil_n (st : Sts) : gNil' [] st = some st := Eq.trans rfl rfl
def sParK (is : List Nat) (ks : List Bool) (r : Res (List D)) : Ou := bindS r fun ds st1 => sUnL (pSet is ks ds st1)
theorem sPar_s (is : List Nat) (ks : List Bool) (fa : Ea) (st : Sts) : sPar is ks fa st = sParK is ks (fa st) := Eq.trans rfl rfl
theorem sParK_ok (is : List Nat) (ks : List Bool) (ds : List D) (st : Sts) : sParK is ks (.ok ds st) = sUnL (pSet is ks ds st) := Eq.trans rfl rfl
theorem pSet_f {i : Nat} {is : List Nat} {ks : List Bool} {d : D} {ds : List D} {st : Sts} (h : noPar st i = true) : pSet (i :: is) (false :: ks) (d :: ds) st = pSet is ks ds (st.set i (.im d)) := if_pos h
theorem pSet_t {i : Nat} {is : List Nat} {ks : List Bool} {d : D} {ds : List D} {st : Sts} (h : noPar st i = true) : pSet (i :: is) (true :: ks) (d :: ds) st = pSet is ks ds (st.set i (.own d)) := if_pos h
theorem pSet_n (st : Sts) : pSet [] [] [] st = some st := Eq.trans rfl rfl
def sAugL (i : Nat) (st1 : Sts) (o : Option D) : Ou := match o with
  | some z => if noPar st1 i = true then .nx (st1.set i (.im z)) else .bad
  | none => .bad
def sAugK (i : Nat) (g : D → D → Option D) (d : D) (r : Res D) : Ou := bindS r fun y st1 => sAugL i st1 (g d y)
def sAugO (i : Nat) (g : D → D → Option D) (fe : Ev) (st : Sts) (o : Option Sl) : Ou := match o with
  | some (.im d) => sAugK i g d (fe st)
  | _ => .bad
theorem sAug_s (i : Nat) (g : D → D → Option D) (fe : Ev) (st : Sts) : sAug i g fe st = sAugO i g fe st st[i]? := Eq.trans rfl rfl
theorem sAugO_im (i : Nat) (g : D → D → Option D) (fe : Ev) (st : Sts) (d : D) : sAugO i g fe st (some (.im d)) = sAugK i g d (fe st) := Eq.trans rfl rfl
theorem sAugK_ok (i : Nat) (g : D → D → Option D) (d y : D) (st : Sts) : sAugK i g d (.ok y st) = sAugL i st (g d y) := Eq.trans rfl rfl
theorem sAugL_ok {i : Nat} {st : Sts} {d : D} (h : noPar st i = true) : sAugL i st (some d) = .nx (st.set i (.im d)) := if_pos h
def chM (g' : D → D → Option D) (y : D) (r : Res D) : Res D := r.bind fun z st4 => ofO (g' y z) st4
def chL (g' : D → D → Option D) (fc : Ev) (y : D) (r : Res Bool) : Res D := r.bind fun k st3 => if k = true then chM g' y (fc st3) else .ok (.bool false) st3
def chK (g g' : D → D → Option D) (fc : Ev) (x : D) (r : Res D) : Res D := r.bind fun y st2 => chL g' fc y (ofO ((g x y).bind asB) st2)
def chJ (g g' : D → D → Option D) (fb fc : Ev) (r : Res D) : Res D := r.bind fun x st1 => chK g g' fc x (fb st1)
theorem chain_s (g g' : D → D → Option D) (fa fb fc : Ev) (st : Sts) : chain g g' fa fb fc st = chJ g g' fb fc (fa st) := Eq.trans rfl rfl
theorem chJ_ok (g g' : D → D → Option D) (fb fc : Ev) (x : D) (st : Sts) : chJ g g' fb fc (.ok x st) = chK g g' fc x (fb st) := Eq.trans rfl rfl
theorem chK_ok (g g' : D → D → Option D) (fc : Ev) (x y : D) (st : Sts) : chK g g' fc x (.ok y st) = chL g' fc y (ofO ((g x y).bind asB) st) := Eq.trans rfl rfl
theorem chL_t (g' : D → D → Option D) (fc : Ev) (y : D) (st : Sts) : chL g' fc y (.ok true st) = chM g' y (fc st) := Eq.trans rfl rfl
theorem chL_f (g' : D → D → Option D) (fc : Ev) (y : D) (st : Sts) : chL g' fc y (.ok false st) = .ok (.bool false) st := Eq.trans rfl rfl
theorem chM_ok (g' : D → D → Option D) (y z : D) (st : Sts) : chM g' y (.ok z st) = ofO (g' y z) st := Eq.trans rfl rfl
theorem asB_s (b : Bool) : asB (.bool b) = some b := Eq.trans rfl rfl
theorem at_t0 (x : D) (l : List D) : atD (.tuple (x :: l)) (.int 0) = some x := by show atI (x :: l) 0 = _; unfold atI ixN; simp
theorem at_t1 (x y : D) (l : List D) : atD (.tuple (x :: y :: l)) (.int 1) = some y := by show atI (x :: y :: l) 1 = _; unfold atI ixN; rw [if_pos (by decide), if_pos (by simp only [List.length_cons]; omega)]; rfl
theorem at_l0 (x : D) (l : List D) : atD (.list (x :: l)) (.int 0) = some x := by show atI (x :: l) 0 = _; unfold atI ixN; simp
theorem at_l1 (x y : D) (l : List D) : atD (.list (x :: y :: l)) (.int 1) = some y := by show atI (x :: y :: l) 1 = _; unfold atI ixN; rw [if_pos (by decide), if_pos (by simp only [List.length_cons]; omega)]; rfl
theorem ii2 (f : Int → Int → D) (i j : Int) : ii tt2 f (.int i) (.int j) = some (f i j) := Eq.trans rfl rfl
theorem mkT_s {ds : List D} (h : ds.length ≤ sizeLine) : mkT ds = some (.tuple ds) := if_pos (decide_eq_true h)
theorem mkL_s {ds : List D} (h : ds.length ≤ sizeLine) : mkL ds = some (.list ds) := if_pos (decide_eq_true h)
theorem sz {n : Nat} (h : n ≤ 16777216) : n ≤ sizeLine := Nat.le_trans h (by rw [sizeLine_eq]; decide)
theorem mkT0 : mkT [] = some (.tuple []) := mkT_s (sz (by decide))
theorem mkT1 (a : D) : mkT [a] = some (.tuple [a]) := mkT_s (sz (by simp))
theorem mkT2 (a b : D) : mkT [a, b] = some (.tuple [a, b]) := mkT_s (sz (by simp))
theorem mkT3 (a b c : D) : mkT [a, b, c] = some (.tuple [a, b, c]) := mkT_s (sz (by simp))
theorem mkL0 : mkL [] = some (.list []) := mkL_s (sz (by decide))
theorem mkL1 (a : D) : mkL [a] = some (.list [a]) := mkL_s (sz (by simp))
theorem mkL2 (a b : D) : mkL [a, b] = some (.list [a, b]) := mkL_s (sz (by simp))
theorem mkL3 (a b c : D) : mkL [a, b, c] = some (.list [a, b, c]) := mkL_s (sz (by simp))
theorem len_l (ds : List D) : lenD [.list ds] = some (.int ds.length) := Eq.trans rfl rfl
theorem len_t (ds : List D) : lenD [.tuple ds] = some (.int ds.length) := Eq.trans rfl rfl
theorem mkL4 (x0 x1 x2 x3 : D) : mkL [x0, x1, x2, x3] = some (.list [x0, x1, x2, x3]) := mkL_s (sz (by simp))
theorem mkT4 (x0 x1 x2 x3 : D) : mkT [x0, x1, x2, x3] = some (.tuple [x0, x1, x2, x3]) := mkT_s (sz (by simp))
theorem mkL5 (x0 x1 x2 x3 x4 : D) : mkL [x0, x1, x2, x3, x4] = some (.list [x0, x1, x2, x3, x4]) := mkL_s (sz (by simp))
theorem mkT5 (x0 x1 x2 x3 x4 : D) : mkT [x0, x1, x2, x3, x4] = some (.tuple [x0, x1, x2, x3, x4]) := mkT_s (sz (by simp))
theorem mkL6 (x0 x1 x2 x3 x4 x5 : D) : mkL [x0, x1, x2, x3, x4, x5] = some (.list [x0, x1, x2, x3, x4, x5]) := mkL_s (sz (by simp))
theorem mkT6 (x0 x1 x2 x3 x4 x5 : D) : mkT [x0, x1, x2, x3, x4, x5] = some (.tuple [x0, x1, x2, x3, x4, x5]) := mkT_s (sz (by simp))
theorem mkL7 (x0 x1 x2 x3 x4 x5 x6 : D) : mkL [x0, x1, x2, x3, x4, x5, x6] = some (.list [x0, x1, x2, x3, x4, x5, x6]) := mkL_s (sz (by simp))
theorem mkT7 (x0 x1 x2 x3 x4 x5 x6 : D) : mkT [x0, x1, x2, x3, x4, x5, x6] = some (.tuple [x0, x1, x2, x3, x4, x5, x6]) := mkT_s (sz (by simp))
theorem mkL8 (x0 x1 x2 x3 x4 x5 x6 x7 : D) : mkL [x0, x1, x2, x3, x4, x5, x6, x7] = some (.list [x0, x1, x2, x3, x4, x5, x6, x7]) := mkL_s (sz (by simp))
theorem mkL9 (x0 x1 x2 x3 x4 x5 x6 x7 x8 : D) : mkL [x0, x1, x2, x3, x4, x5, x6, x7, x8] = some (.list [x0, x1, x2, x3, x4, x5, x6, x7, x8]) := mkL_s (sz (by simp))
theorem mkL10 (x0 x1 x2 x3 x4 x5 x6 x7 x8 x9 : D) : mkL [x0, x1, x2, x3, x4, x5, x6, x7, x8, x9] = some (.list [x0, x1, x2, x3, x4, x5, x6, x7, x8, x9]) := mkL_s (sz (by simp))
theorem mkL11 (x0 x1 x2 x3 x4 x5 x6 x7 x8 x9 x10 : D) : mkL [x0, x1, x2, x3, x4, x5, x6, x7, x8, x9, x10] = some (.list [x0, x1, x2, x3, x4, x5, x6, x7, x8, x9, x10]) := mkL_s (sz (by simp))
theorem mkL12 (x0 x1 x2 x3 x4 x5 x6 x7 x8 x9 x10 x11 : D) : mkL [x0, x1, x2, x3, x4, x5, x6, x7, x8, x9, x10, x11] = some (.list [x0, x1, x2, x3, x4, x5, x6, x7, x8, x9, x10, x11]) := mkL_s (sz (by simp))
theorem mkL13 (x0 x1 x2 x3 x4 x5 x6 x7 x8 x9 x10 x11 x12 : D) : mkL [x0, x1, x2, x3, x4, x5, x6, x7, x8, x9, x10, x11, x12] = some (.list [x0, x1, x2, x3, x4, x5, x6, x7, x8, x9, x10, x11, x12]) := mkL_s (sz (by simp))
theorem mkL14 (x0 x1 x2 x3 x4 x5 x6 x7 x8 x9 x10 x11 x12 x13 : D) : mkL [x0, x1, x2, x3, x4, x5, x6, x7, x8, x9, x10, x11, x12, x13] = some (.list [x0, x1, x2, x3, x4, x5, x6, x7, x8, x9, x10, x11, x12, x13]) := mkL_s (sz (by simp))
theorem lenT0 : lenD [.tuple []] = some (.int 0) := Eq.trans rfl rfl
theorem lenT1 (a : D) : lenD [.tuple [a]] = some (.int 1) := Eq.trans rfl rfl
theorem lenT2 (a b : D) : lenD [.tuple [a, b]] = some (.int 2) := Eq.trans rfl rfl
theorem lenT3 (a b c : D) : lenD [.tuple [a, b, c]] = some (.int 3) := Eq.trans rfl rfl
theorem lenL0 : lenD [.list []] = some (.int 0) := Eq.trans rfl rfl
theorem int_i (i : Int) : intD [.int i] = some (.int i) := Eq.trans rfl rfl
theorem int_b (b : Bool) : intD [.bool b] = some (.int (if b = true then 1 else 0)) := by cases b <;> rfl
theorem tup_l (ds : List D) : tupleD [.list ds] = some (.tuple ds) := Eq.trans rfl rfl
theorem tup_t (ds : List D) : tupleD [.tuple ds] = some (.tuple ds) := Eq.trans rfl rfl
theorem lst_l (ds : List D) : listD [.list ds] = some (.list ds) := Eq.trans rfl rfl
theorem lst_t (ds : List D) : listD [.tuple ds] = some (.list ds) := Eq.trans rfl rfl
theorem neg_i (i : Int) : negD (.int i) = some (.int (-i)) := Eq.trans rfl rfl
theorem subD_n (a b : Int) : subD (.int a) (.int b) = some (.int (a - b)) := Eq.trans rfl rfl
theorem addD_n (a b : Int) : addD (.int a) (.int b) = some (.int (a + b)) := Eq.trans rfl rfl
theorem gtD_n (a b : Int) : gtD (.int a) (.int b) = some (.bool (decide (b < a))) := Eq.trans rfl rfl
theorem geD_n (a b : Int) : geD (.int a) (.int b) = some (.bool (decide (b ≤ a))) := Eq.trans rfl rfl
theorem ltD_n (a b : Int) : ltD (.int a) (.int b) = some (.bool (decide (a < b))) := Eq.trans rfl rfl
theorem leD_n (a b : Int) : leD (.int a) (.int b) = some (.bool (decide (a ≤ b))) := Eq.trans rfl rfl
def cdL (i : Nat) (M : Es') (ds : List D) (st1 : Sts) (o : Option D) : Res D := match o with
  | none => .bad
  | some l => resD i st1 (M (Sl.par l :: ds.map Sl.im))
def cdK (i : Nat) (M : Es') (r : Res (List D)) : Res D := r.bind fun ds st1 => cdL i M ds st1 (getO st1 i)
theorem callD_s {i : Nat} {M : Es'} {fa : Ea} {st : Sts} (h : (getO st i).isSome = true) : callD i M fa st = cdK i M (fa st) := if_pos h
theorem cdK_ok (i : Nat) (M : Es') (ds : List D) (st : Sts) : cdK i M (.ok ds st) = cdL i M ds st (getO st i) := Eq.trans rfl rfl
theorem cdL_ok (i : Nat) (M : Es') (ds : List D) (st : Sts) (l : D) : cdL i M ds st (some l) = resD i st (M (Sl.par l :: ds.map Sl.im)) := Eq.trans rfl rfl
def getK (o : Option Sl) : Option D := match o with
  | some (.own d) => some d
  | some (.par d) => some d
  | _ => none
theorem getO_s (st : Sts) (i : Nat) : getO st i = getK st[i]? := Eq.trans rfl rfl
theorem getK_own (d : D) : getK (some (.own d)) = some d := Eq.trans rfl rfl
theorem getK_par (d : D) : getK (some (.par d)) = some d := Eq.trans rfl rfl
def setK (o : Option Sl) (st : Sts) (i : Nat) (d : D) : Sts := match o with
  | some (.own _) => st.set i (.own d)
  | some (.par _) => st.set i (.par d)
  | _ => st
theorem setO_s (st : Sts) (i : Nat) (d : D) : setO st i d = setK st[i]? st i d := Eq.trans rfl rfl
theorem setK_own (d e : D) (st : Sts) (i : Nat) : setK (some (.own e)) st i d = st.set i (.own d) := Eq.trans rfl rfl
theorem setK_par (d e : D) (st : Sts) (i : Nat) : setK (some (.par e)) st i d = st.set i (.par d) := Eq.trans rfl rfl
def lstK (o : Option D) : Option (List D) := match o with
  | some (.list ds) => some ds
  | _ => none
theorem getL_s (st : Sts) (i : Nat) : getL st i = lstK (getO st i) := Eq.trans rfl rfl
theorem lstK_ok (ds : List D) : lstK (some (.list ds)) = some ds := Eq.trans rfl rfl
def moM (i : Nat) (st1 : Sts) (o : Option (D × List D)) : Res D := match o with
  | some (res, cs') => .ok res (setO st1 i (.list cs'))
  | none => .bad
def moL (i : Nat) (go : List D → List D → Option (D × List D)) (ds : List D) (st1 : Sts) (o : Option (List D)) : Res D := match o with
  | some cs => moM i st1 (go cs ds)
  | none => .bad
def moK (i : Nat) (go : List D → List D → Option (D × List D)) (r : Res (List D)) : Res D := r.bind fun ds st1 => moL i go ds st1 (getL st1 i)
theorem mOn_s {i : Nat} {go : List D → List D → Option (D × List D)} {fa : Ea} {st : Sts} (h : (getL st i).isSome = true) : mOn i go fa st = moK i go (fa st) := if_pos h
theorem moK_ok (i : Nat) (go : List D → List D → Option (D × List D)) (ds : List D) (st : Sts) : moK i go (.ok ds st) = moL i go ds st (getL st i) := Eq.trans rfl rfl
theorem moL_ok (i : Nat) (go : List D → List D → Option (D × List D)) (ds : List D) (st : Sts) (cs : List D) : moL i go ds st (some cs) = moM i st (go cs ds) := Eq.trans rfl rfl
theorem moM_ok (i : Nat) (st : Sts) (d : D) (cs : List D) : moM i st (some (d, cs)) = .ok d (setO st i (.list cs)) := Eq.trans rfl rfl
theorem append_s {cs : List D} {d : D} (h : cs.length < sizeLine) : goAppend cs [d] = some (.none, cs ++ [d]) := if_pos h
theorem gives_n (st : Sts) : gives [] st = st := Eq.trans rfl rfl
theorem gives_c (i : Nat) (l : List Nat) (st : Sts) : gives (i :: l) st = gives l (giveK st[i]? i st) := by
  show gives l (give1 st i) = _
  congr 1
theorem giveK_own (d : D) (i : Nat) (st : Sts) : giveK (some (.own d)) i st = st.set i (.im d) := Eq.trans rfl rfl
theorem giveK_im (d : D) (i : Nat) (st : Sts) : giveK (some (.im d)) i st = st := Eq.trans rfl rfl
theorem giveK_un (i : Nat) (st : Sts) : giveK (some .un) i st = st := Eq.trans rfl rfl
def iRg3K (r : Res (List D)) : Res (List D) := r.bind fun ds st1 => ofO (rg3D ds) st1
theorem iRg3_s (fa : Ea) (st : Sts) : iRg3 fa st = iRg3K (fa st) := Eq.trans rfl rfl
theorem iRg3K_ok (ds : List D) (st : Sts) : iRg3K (.ok ds st) = ofO (rg3D ds) st := Eq.trans rfl rfl
def rvK (r : Res D) : Res D := r.bind fun d st1 => ofO (revD d) st1
theorem rv_s (f : Ev) (st : Sts) : rv f st = rvK (f st) := Eq.trans rfl rfl
theorem rvK_ok (d : D) (st : Sts) : rvK (.ok d st) = ofO (revD d) st := Eq.trans rfl rfl
theorem rev_l (ds : List D) : revD (.list ds) = some (.list ds.reverse) := Eq.trans rfl rfl
theorem rev_t (ds : List D) : revD (.tuple ds) = some (.tuple ds.reverse) := Eq.trans rfl rfl
/-- it ends with d, its own list of draws changed -/
def Ends (d : D) (o : Ou) : Prop := ∃ (st : Sts) (ys : List Int), o = .rt d st ∧ st[0]? = some (.par (.list (ys.map PyData.int)))
theorem seq_en {f g : Es'} {st0 st1 : Sts} {d : D} (h : f st0 = .nx st1) (h2 : Ends d (g st1)) : Ends d (sSeq f g st0) := by rw [seq_nx h]; exact h2
theorem ends_res {o : Ou} {d : D} (h : Ends d o) (i : Nat) (st : Sts) : ∃ ys : List Int, resD i st o = .ok d (setO st i (.list (ys.map .int))) := by
  obtain ⟨st', ys, rfl, h⟩ := h
  refine ⟨ys, ?_⟩
  show Res.ok d (upP i st st') = _
  unfold upP
  rw [parOf_of h]
theorem seq_ex {f g : Es'} {st0 st1 : Sts} {d : D} (h : f st0 = .nx st1) (h2 : ∃ st, g st1 = .rt d st) : ∃ st, sSeq f g st0 = .rt d st := by rw [seq_nx h]; exact h2
theorem tYes_s (st : Sts) : tYes' st = .ok true st := Eq.trans rfl rfl
theorem cOuter_s {g : D → Sts → Option Sts} {ft : Et} {vs1 : List Nat} {fi1 : Ei} {g1 : D → Sts → Option Sts} {ft1 : Et} {fe : Ev} {st st1 st2 st3 : Sts} {d : D} {es ys : List D} (hg : g d st = some st1) (ht : ft st1 = .ok true st2) (hi : fi1 st1 = .ok es st3) (hu : allUn vs1 st1 = true) (h : flatM (cItem g1 ft1 fe st1) es = some ys) : cOuter g ft vs1 fi1 g1 ft1 fe st d = some ys := by
  unfold cOuter; rw [hg]; dsimp only; rw [ht]; dsimp only; rw [hi]; dsimp only; rw [if_pos hu, h]
theorem flatM_app {α : Type} {it : D → Option (List D)} {em : α → D} {f : α → List D} : ∀ {as : List α}, (∀ a ∈ as, it (em a) = some (f a)) → flatM it (as.map em) = some (as.flatMap f)
  | [], _ => rfl
  | a :: as, h => by
    rw [List.map_cons, flatM, h a (List.mem_cons_self ..), flatM_app fun b hb => h b (List.mem_cons_of_mem _ hb), List.flatMap_cons]; rfl
theorem flatM_map {α : Type} {it : D → Option (List D)} {em : α → D} {f : α → D} : ∀ {as : List α}, (∀ a ∈ as, it (em a) = some [f a]) → flatM it (as.map em) = some (as.map f)
  | [], _ => rfl
  | a :: as, h => by
    rw [List.map_cons, flatM, h a (List.mem_cons_self ..), flatM_map fun b hb => h b (List.mem_cons_of_mem _ hb), List.map_cons]; rfl
theorem flatM_one {it : D → Option (List D)} {f : D → D} : ∀ {as : List D}, (∀ a ∈ as, it a = some [f a]) → flatM it as = some (as.map f)
  | [], _ => rfl
  | a :: as, h => by
    rw [flatM, h a (List.mem_cons_self ..), flatM_one fun b hb => h b (List.mem_cons_of_mem _ hb), List.map_cons]; rfl
theorem cmpP_none {vs : List Nat} {fi : Ei} {g : D → Sts → Option Sts} {ft : Et} {fe : Ev} {st st1 : Sts} {ds : List D} (h : fi st = .ok ds st1) (hu : allUn vs st1 = true) (hf : ∀ d ∈ ds, cItem g ft fe st1 d = some []) : cmpP vs fi g ft fe st = .ok (.list []) st1 := by
  unfold cmpP
  rw [h, Res.ok_bind, if_pos hu, flatM_nil hf]; rfl
theorem addT {xs ys : List D} (h : xs.length + ys.length ≤ 100000) : addD (.tuple xs) (.tuple ys) = some (.tuple (xs ++ ys)) := if_pos (sz (by omega))
theorem addL {xs ys : List D} (h : xs.length + ys.length ≤ 100000) : addD (.list xs) (.list ys) = some (.list (xs ++ ys)) := if_pos (sz (by omega))
theorem mulB (x : D) (b : Bool) : mulD (.list [x]) (.int (if b = true then 1 else 0)) = some (.list (if b = true then [x] else [])) := by
  cases b
  · show (if -(2 ^ 63) ≤ (0 : Int) ∧ (0 : Int) < 2 ^ 63 ∧ [x].length * (0 : Int).toNat ≤ sizeLine then some (PyData.list (List.replicate (0 : Int).toNat [x]).flatten) else none) = _
    rw [if_pos ⟨by decide, by decide, by simp⟩]; rfl
  · show (if -(2 ^ 63) ≤ (1 : Int) ∧ (1 : Int) < 2 ^ 63 ∧ [x].length * (1 : Int).toNat ≤ sizeLine then some (PyData.list (List.replicate (1 : Int).toNat [x]).flatten) else none) = _
    rw [if_pos ⟨by decide, by decide, sz (show 1 * 1 ≤ 16777216 by decide)⟩]; rfl
theorem cmpP2_ok {vs vs1 : List Nat} {fi : Ei} {g : D → Sts → Option Sts} {ft : Et} {fi1 : Ei} {g1 : D → Sts → Option Sts} {ft1 : Et} {fe : Ev} {st st1 : Sts} {ds ys : List D} (h : fi st = .ok ds st1) (hu : allUn vs st1 = true) (hf : flatM (cOuter g ft vs1 fi1 g1 ft1 fe st1) ds = some ys) (hl : ys.length ≤ sizeLine) : cmpP2 vs vs1 fi g ft fi1 g1 ft1 fe st = .ok (.list ys) st1 := by
  unfold cmpP2
  rw [h, Res.ok_bind, if_pos hu, hf]
  show (if szL ys.length = true then _ else _) = _
  rw [if_pos (show szL ys.length = true from decide_eq_true hl)]
theorem gItem_ok {g : D → Sts → Option Sts} {ft : Et} {fe : Ev} {st st1 st2 st3 : Sts} {d : D} {b : Bool} (hg : g d st = some st1) (ht : ft st1 = .ok true st2) (he : fe st1 = .ok (.bool b) st3) : gItem g ft fe st d = some (some b) := by
  unfold gItem; rw [hg]; dsimp only; rw [ht]; dsimp only; rw [he]
theorem gOuter_ok {g : D → Sts → Option Sts} {ft : Et} {vs1 : List Nat} {fi1 : Ei} {st st1 st2 st3 : Sts} {d : D} {es : List D} (hg : g d st = some st1) (ht : ft st1 = .ok true st2) (hi : fi1 st1 = .ok es st3) (hu : allUn vs1 st1 = true) : gOuter g ft vs1 fi1 st d = some (some (st1, es)) := by
  unfold gOuter; rw [hg]; dsimp only; rw [ht]; dsimp only; rw [hi]; dsimp only; rw [if_pos hu]
theorem gB2_ok {α : Type} {cont : Bool} {ou : D → Option (Option (Sts × List D))} {it : Sts → D → Option (Option Bool)} {em : α → D} {P : α → Bool} : ∀ {as : List α}, (∀ a ∈ as, ∃ st1 es, ou (em a) = some (some (st1, es)) ∧ gB1 cont (it st1) es = some (P a)) → gB2 cont ou it (as.map em) = some (if cont = true then as.all P else as.any P)
  | [], _ => by cases cont <;> rfl
  | a :: as, h => by
    obtain ⟨st1, es, h1, h2⟩ := h a (List.mem_cons_self ..)
    have ih := gB2_ok (cont := cont) (ou := ou) (it := it) (em := em) (P := P) fun b hb => h b (List.mem_cons_of_mem _ hb)
    rw [List.map_cons]
    unfold gB2
    rw [h1]
    dsimp only
    rw [h2]
    dsimp only
    rw [ih, List.all_cons, List.any_cons]
    cases cont <;> cases P a <;> rfl
theorem fGen1_ok {vs : List Nat} {cont : Bool} {fi : Ei} {g : D → Sts → Option Sts} {ft : Et} {fe : Ev} {st st1 : Sts} {ds : List D} {b : Bool} (h : fi st = .ok ds st1) (hu : allUn vs st1 = true) (hb : gB1 cont (gItem g ft fe st1) ds = some b) : fGen1 vs cont fi g ft fe st = .ok (.bool b) st1 := by
  unfold fGen1; rw [h, Res.ok_bind, if_pos hu, hb]; rfl
theorem fGen2_ok {vs vs1 : List Nat} {cont : Bool} {fi : Ei} {g : D → Sts → Option Sts} {ft : Et} {fi1 : Ei} {g1 : D → Sts → Option Sts} {ft1 : Et} {fe : Ev} {st st1 : Sts} {ds : List D} {b : Bool} (h : fi st = .ok ds st1) (hu : allUn vs st1 = true) (hb : gB2 cont (gOuter g ft vs1 fi1 st1) (gItem g1 ft1 fe) ds = some b) : fGen2 vs vs1 cont fi g ft fi1 g1 ft1 fe st = .ok (.bool b) st1 := by
  unfold fGen2; rw [h, Res.ok_bind, if_pos hu, hb]; rfl
theorem for_nx1 {wp : List Nat} {g : D → Sts → Option Sts} {b : Es'} {S : Sts} {em : D} : ∀ {as : List D} {rest : List D}, (∀ a ∈ as, ∃ st1 st2, g a S = some st1 ∧ b st1 = .nx st2 ∧ wipes wp st2 = S) → forS wp g b (as ++ rest) S = forS wp g b rest S
  | [], _, _ => rfl
  | a :: as, rest, h => by
    obtain ⟨st1, st2, h1, h2, h3⟩ := h a (List.mem_cons_self ..)
    rw [List.cons_append, for_nx h1 h2, h3]
    exact for_nx1 (em := em) fun c hc => h c (List.mem_cons_of_mem _ hc)
end Vs

set_option Elab.async false
set_option linter.all false
set_option maxRecDepth 100000
set_option maxHeartbeats 4000000
namespace Vs
open PySem PySem.Spec PyProof.Rows L2
open PySem.W (Datum DatumOrd Tup)
/-! ### sorted, <, dict of pairs: Lean's data -/
section
variable {α β : Type} [DecidableEq α] [DatumOrd α] [LayD α] [DecidableEq β] [DatumOrd β] [LayD β]
theorem ltD_pair (p q : α × β) (h : Datum.depth (α × β) ≤ 64 := by decide) : ltD (Datum.toD p) (Datum.toD q) = some (.bool (DatumOrd.lt p q)) := by
  rw [← DatumOrd.lt_eq p q]
  have e1 := DatumOrd.alike p q
  have e2 : SeqAt.shaped (Datum.toD p) = true := shp_toD p h
  have e3 : SeqAt.shaped (Datum.toD q) = true := shp_toD q h
  show (if PySem.W.alikeAll [Datum.toD p.1, Datum.toD p.2] [Datum.toD q.1, Datum.toD q.2] = true ∧ SeqAt.shaped (Datum.toD p) = true ∧ SeqAt.shaped (Datum.toD q) = true then some (PyData.bool (PySem.W.dataLt (Datum.toD p) (Datum.toD q))) else none) = _
  exact if_pos ⟨by simp only [PySem.W.alikeAll, DatumOrd.alike, Bool.and_self], e2, e3⟩
/-- sorted -/
def sortT (xs : List α) : List α := xs.mergeSort (PySem.W.dataLe false Datum.toD)
theorem sortT_perm (xs : List α) : (sortT xs).Perm xs := List.mergeSort_perm _ _
theorem sortT_pw (xs : List α) : (sortT xs).Pairwise fun a b => DatumOrd.lt b a = false := by
  have := PySem.W.sort_pairwise (PySem.W.sortLe_total (PyProof.Rows.listOrd PyProof.Rows.itemOrd) false fun b : α => PySem.W.keyToks (Datum.toD b)) xs
  refine List.Pairwise.imp ?_ this
  intro a b h
  have h : (!PySem.W.dataLt (Datum.toD b) (Datum.toD a)) = true := h
  rw [DatumOrd.lt_eq] at h
  simpa using h
theorem sorts_map (xs : List α) : sorts (xs.map Datum.toD) = (sortT xs).map Datum.toD := by
  unfold sortT sorts
  exact (PySem.W.sort_maps Datum.toD fun a _ b _ => rfl).symm
theorem sorted_T (xs : List α) (h : (∀ a : α, isTup1 (Datum.toD a) = true) ∨ ∀ a : α, noTN (Datum.toD a) = true) (hd : Datum.depth (List α) ≤ 64 := by decide) : sortedD [.list (xs.map Datum.toD)] = some (.list ((sortT xs).map Datum.toD)) := by
  show (if sortOk (xs.map Datum.toD) = true then some (PyData.list (sorts (xs.map Datum.toD))) else none) = _
  rw [if_pos, sorts_map]
  unfold sortOk
  rw [Bool.and_eq_true, Bool.and_eq_true, Bool.or_eq_true]
  refine ⟨⟨?_, ?_⟩, shp_toD xs hd⟩
  · unfold alikes
    rw [List.all_eq_true]
    intro d hd
    rw [List.all_eq_true]
    intro e he
    obtain ⟨a, _, rfl⟩ := List.mem_map.mp hd
    obtain ⟨b, _, rfl⟩ := List.mem_map.mp he
    exact DatumOrd.alike a b
  · refine h.imp (fun h => ?_) fun h => ?_
    · rw [List.all_eq_true]
      intro d hd
      obtain ⟨a, _, rfl⟩ := List.mem_map.mp hd
      exact h a
    · rw [List.all_eq_true]
      intro d hd
      obtain ⟨a, _, rfl⟩ := List.mem_map.mp hd
      exact h a
end
/-- each once, in the order of its first time -/
def dd {κ : Type} [DecidableEq κ] (xs : List κ) : List κ := xs.foldl (fun ys x => if x ∈ ys then ys else ys ++ [x]) []
theorem dd_go {κ : Type} [DecidableEq κ] : ∀ (xs ys : List κ), ys.Nodup → (xs.foldl (fun ys x => if x ∈ ys then ys else ys ++ [x]) ys).Nodup ∧ ∀ z, z ∈ xs.foldl (fun ys x => if x ∈ ys then ys else ys ++ [x]) ys ↔ z ∈ ys ∨ z ∈ xs
  | [], ys, h => ⟨h, fun z => by simp⟩
  | x :: xs, ys, h => by
    rw [List.foldl_cons]
    by_cases hx : x ∈ ys
    · rw [if_pos hx]
      obtain ⟨h1, h2⟩ := dd_go xs ys h
      refine ⟨h1, fun z => ?_⟩
      rw [h2, List.mem_cons]
      constructor
      · rintro (q | q)
        · exact .inl q
        · exact .inr (.inr q)
      · rintro (q | rfl | q)
        · exact .inl q
        · exact .inl hx
        · exact .inr q
    · rw [if_neg hx]
      have hn : (ys ++ [x]).Nodup := by
        rw [List.nodup_append]
        refine ⟨h, by simp, fun a ha b hb e => ?_⟩
        rw [List.mem_singleton] at hb
        rw [e, hb] at ha
        exact hx ha
      obtain ⟨h1, h2⟩ := dd_go xs (ys ++ [x]) hn
      refine ⟨h1, fun z => ?_⟩
      rw [h2, List.mem_append, List.mem_singleton, List.mem_cons]
      constructor
      · rintro ((q | q) | q)
        · exact .inl q
        · exact .inr (.inl q)
        · exact .inr (.inr q)
      · rintro (q | q | q)
        · exact .inl (.inl q)
        · exact .inl (.inr q)
        · exact .inr q
theorem dd_nodup {κ : Type} [DecidableEq κ] (xs : List κ) : (dd xs).Nodup := (dd_go xs [] List.nodup_nil).1
theorem mem_dd {κ : Type} [DecidableEq κ] (xs : List κ) (z : κ) : z ∈ dd xs ↔ z ∈ xs := by
  have := (dd_go xs [] List.nodup_nil).2 z
  simpa [dd] using this
theorem dd_len_go {κ : Type} [DecidableEq κ] : ∀ (xs ys : List κ), (xs.foldl (fun ys x => if x ∈ ys then ys else ys ++ [x]) ys).length ≤ ys.length + xs.length
  | [], _ => Nat.le_refl _
  | x :: xs, ys => by
    rw [List.foldl_cons, List.length_cons]
    by_cases hx : x ∈ ys
    · rw [if_pos hx]
      have := dd_len_go xs ys
      omega
    · rw [if_neg hx]
      have := dd_len_go xs (ys ++ [x])
      rw [List.length_append, List.length_singleton] at this
      omega
theorem dd_len {κ : Type} [DecidableEq κ] (xs : List κ) : (dd xs).length ≤ xs.length := by
  have := dd_len_go xs []
  simpa [dd] using this
theorem putG_keys {κ β : Type} [DecidableEq κ] (kvs : List (κ × β)) (k : κ) (v : β) : (putG kvs k v).map (·.1) = if k ∈ kvs.map (·.1) then kvs.map (·.1) else kvs.map (·.1) ++ [k] := by
  unfold putG
  by_cases h : k ∈ kvs.map (·.1)
  · rw [if_pos h, if_pos]
    · rw [List.map_map]
      congr 1
      funext kv
      dsimp only [Function.comp]
      by_cases e : kv.1 = k
      · rw [if_pos e]
      · rw [if_neg e]
    · obtain ⟨kv, h1, h2⟩ := List.mem_map.mp h
      exact List.any_eq_true.mpr ⟨kv, h1, decide_eq_true h2⟩
  · rw [if_neg h, if_neg, List.map_append]; · rfl
    intro q
    obtain ⟨kv, h1, h2⟩ := List.any_eq_true.mp q
    exact h (List.mem_map.mpr ⟨kv, h1, of_decide_eq_true h2⟩)
theorem mergeG_keys {κ β : Type} [DecidableEq κ] : ∀ (more kvs : List (κ × β)), (mergeG kvs more).map (·.1) = (more.map (·.1)).foldl (fun ys x => if x ∈ ys then ys else ys ++ [x]) (kvs.map (·.1))
  | [], _ => rfl
  | p :: ps, kvs => by
    show (mergeG (putG kvs p.1 p.2) ps).map (·.1) = _
    rw [mergeG_keys ps, putG_keys, List.map_cons, List.foldl_cons]
theorem dd_map {κ γ : Type} [DecidableEq κ] [DecidableEq γ] (f : κ → γ) (hf : ∀ a b, f a = f b → a = b) : ∀ (xs ys : List κ), (xs.map f).foldl (fun ys x => if x ∈ ys then ys else ys ++ [x]) (ys.map f) = (xs.foldl (fun ys x => if x ∈ ys then ys else ys ++ [x]) ys).map f
  | [], _ => rfl
  | x :: xs, ys => by
    rw [List.map_cons, List.foldl_cons, List.foldl_cons, ← dd_map f hf xs]
    congr 1
    by_cases h : x ∈ ys
    · rw [if_pos h, if_pos (List.mem_map.mpr ⟨x, h, rfl⟩)]
    · rw [if_neg h, if_neg, List.map_append]; · rfl
      intro q
      obtain ⟨y, h1, h2⟩ := List.mem_map.mp q
      rw [hf _ _ h2] at h1
      exact h h1
def pK (p : Int × Int) : List Key := [.inl p.1, .inl p.2]
theorem pairsT (v : D) : ∀ xs : List (Int × Int), pairsOf keyTOf (xs.map fun p => .tuple [.tuple [.int p.1, .int p.2], v]) = some (xs.map fun p => (pK p, v))
  | [] => rfl
  | p :: xs => by
    rw [List.map_cons, pairsOf, pairsT v xs]; rfl
/-- list(dict([(place, v) for place in xs])) -/
theorem dict_places (v : D) (xs : List (Int × Int)) : ∃ kvs, dictPD [.list (xs.map fun p => .tuple [.tuple [.int p.1, .int p.2], v])] = some (.dict kvs) ∧ keysD [.dict kvs] = some (.list ((dd xs).map fun p => .tuple [.int p.1, .int p.2])) := by
  cases xs with
  | nil => exact ⟨[], rfl, rfl⟩
  | cons p ps =>
    refine ⟨(mergeG [] ((p :: ps).map fun p => (pK p, v))).map fun p => (keyT p.1, p.2), ?_, ?_⟩
    · have e : pairsOf keyOf ((p :: ps).map fun p => PyData.tuple [.tuple [.int p.1, .int p.2], v]) = none := by
        rw [List.map_cons, pairsOf]; rfl
      unfold dictPD
      dsimp only
      rw [e]
      dsimp only
      rw [pairsT]
    · show some (PyData.list _) = _
      congr 2
      rw [List.map_map]
      have e := mergeG_keys ((p :: ps).map fun p => (pK p, v)) []
      rw [List.map_map, List.map_nil] at e
      have e2 := dd_map pK (fun a b h => by
        unfold pK at h
        obtain ⟨a1, a2⟩ := a
        obtain ⟨b1, b2⟩ := b
        simp only [List.cons.injEq, Sum.inl.injEq, and_true] at h
        rw [h.1, h.2]) (p :: ps) []
      rw [List.map_nil] at e2
      have e3 : (mergeG [] ((p :: ps).map fun p => (pK p, v))).map (·.1) = (dd (p :: ps)).map pK := by rw [e]; exact e2
      have e4 : ((mergeG [] ((p :: ps).map fun p => (pK p, v))).map (·.1)).map keyT = ((dd (p :: ps)).map pK).map keyT := by rw [e3]
      rw [List.map_map, List.map_map] at e4
      exact e4
theorem maxOf_ge : ∀ (xs : List Int) (x : Int), x ≤ PySem.W.maxOf x xs ∧ ∀ y ∈ xs, y ≤ PySem.W.maxOf x xs
  | [], x => ⟨Int.le_refl _, fun y hy => by cases hy⟩
  | z :: xs, x => by
    have e : PySem.W.maxOf x (z :: xs) = PySem.W.maxOf (if x < z then z else x) xs := by
      show xs.foldl _ (if DatumOrd.lt x z = true then z else x) = _
      congr 1
      show (if decide (x < z) = true then z else x) = _
      simp only [decide_eq_true_eq]
    rw [e]
    obtain ⟨h1, h2⟩ := maxOf_ge xs (if x < z then z else x)
    have h3 : x ≤ (if x < z then z else x) ∧ z ≤ (if x < z then z else x) := by split <;> omega
    refine ⟨Int.le_trans h3.1 h1, fun y hy => ?_⟩
    rcases List.mem_cons.mp hy with rfl | hy
    · exact Int.le_trans h3.2 h1
    · exact h2 y hy
theorem maxOf_mem : ∀ (xs : List Int) (x : Int), PySem.W.maxOf x xs = x ∨ PySem.W.maxOf x xs ∈ xs
  | [], x => .inl rfl
  | z :: xs, x => by
    have e : PySem.W.maxOf x (z :: xs) = PySem.W.maxOf (if x < z then z else x) xs := by
      show xs.foldl _ (if DatumOrd.lt x z = true then z else x) = _
      congr 1
      show (if decide (x < z) = true then z else x) = _
      simp only [decide_eq_true_eq]
    rw [e]
    rcases maxOf_mem xs (if x < z then z else x) with h | h
    · rw [h]
      by_cases q : x < z
      · rw [if_pos q]; exact .inr (List.mem_cons_self ..)
      · rw [if_neg q]; exact .inl rfl
    · exact .inr (List.mem_cons_of_mem _ h)
theorem minOk_ints (xs : List Int) : minOk (xs.map .int) = true := by
  unfold minOk alikes
  rw [Bool.and_eq_true, Bool.and_eq_true]
  refine ⟨⟨?_, ?_⟩, shp_toD xs⟩
  · rw [List.all_eq_true]
    intro d hd
    rw [List.all_eq_true]
    intro e he
    obtain ⟨a, _, rfl⟩ := List.mem_map.mp hd
    obtain ⟨b, _, rfl⟩ := List.mem_map.mp he
    exact DatumOrd.alike a b
  · rw [List.all_eq_true]
    intro d hd
    obtain ⟨a, _, rfl⟩ := List.mem_map.mp hd
    rfl
theorem maxI_ev (x : Int) (xs : List Int) : maxLD [.list ((x :: xs).map .int)] = some (.int (PySem.W.maxOf x xs)) := by
  show (if minOk ((x :: xs).map .int) = true then some (PySem.W.maxD (PyData.int x) (xs.map .int)) else none) = _
  rw [if_pos (minOk_ints _)]
  exact congrArg some (PySem.W.maxD_map x xs)
theorem at_last {ds : List D} (h : ds ≠ []) : atD (.list ds) (.int (-1)) = some (ds.getLast h) ∧ atD (.tuple ds) (.int (-1)) = some (ds.getLast h) := by
  have hl : 0 < ds.length := List.length_pos_iff.mpr h
  have e : atI ds (-1) = some (ds.getLast h) := by
    unfold atI ixN
    rw [if_neg (by decide), if_pos (by omega)]
    show ds[(-1 + (ds.length : Int)).toNat]? = _
    rw [show (-1 + (ds.length : Int)).toNat = ds.length - 1 by omega, List.getLast_eq_getElem, List.getElem?_eq_getElem]
  exact ⟨e, e⟩
theorem at_int {ds : List D} {i : Int} (h : 0 ≤ i) (h2 : i < ds.length) : atD (.list ds) (.int i) = ds[i.toNat]? ∧ atD (.tuple ds) (.int i) = ds[i.toNat]? := by
  have e : atI ds i = ds[i.toNat]? := by
    unfold atI ixN
    rw [if_pos h, if_pos h2]; rfl
  exact ⟨e, e⟩
end Vs

set_option Elab.async false
set_option linter.all false
set_option maxRecDepth 100000
set_option maxHeartbeats 4000000
namespace Vs
open PySem PySem.Spec PyProof.Rows L2
def isK (t : String) (r : Res D) : Res D := r.bind fun d st1 => ofO ((isTy t d).map .bool) st1
theorem isF_s (t : String) (f : Ev) (st : Sts) : isF t f st = isK t (f st) := Eq.trans rfl rfl
theorem isK_ok (t : String) (d : D) (st : Sts) : isK t (.ok d st) = ofO ((isTy t d).map .bool) st := Eq.trans rfl rfl
theorem ty_ln : isTy "list" .none = some false := by kernel_rfl
theorem ty_lb (b : Bool) : isTy "list" (.bool b) = some false := by kernel_rfl
theorem ty_li (i : Int) : isTy "list" (.int i) = some false := by kernel_rfl
theorem ty_ls (s : Str) : isTy "list" (.str s) = some false := by kernel_rfl
theorem ty_ll (ds : List D) : isTy "list" (.list ds) = some true := by kernel_rfl
theorem ty_lt (ds : List D) : isTy "list" (.tuple ds) = some false := by kernel_rfl
theorem ty_tn : isTy "tuple" .none = some false := by kernel_rfl
theorem ty_tb (b : Bool) : isTy "tuple" (.bool b) = some false := by kernel_rfl
theorem ty_ti (i : Int) : isTy "tuple" (.int i) = some false := by kernel_rfl
theorem ty_ts (s : Str) : isTy "tuple" (.str s) = some false := by kernel_rfl
theorem ty_tl (ds : List D) : isTy "tuple" (.list ds) = some false := by kernel_rfl
theorem ty_tt (ds : List D) : isTy "tuple" (.tuple ds) = some true := by kernel_rfl
theorem ty_in : isTy "int" .none = some false := by kernel_rfl
theorem ty_ib (b : Bool) : isTy "int" (.bool b) = some true := by kernel_rfl
theorem ty_ii (i : Int) : isTy "int" (.int i) = some true := by kernel_rfl
theorem ty_is (s : Str) : isTy "int" (.str s) = some false := by kernel_rfl
theorem ty_il (ds : List D) : isTy "int" (.list ds) = some false := by kernel_rfl
theorem ty_it (ds : List D) : isTy "int" (.tuple ds) = some false := by kernel_rfl
theorem ty_bn : isTy "bool" .none = some false := by kernel_rfl
theorem ty_bb (b : Bool) : isTy "bool" (.bool b) = some true := by kernel_rfl
theorem ty_bi (i : Int) : isTy "bool" (.int i) = some false := by kernel_rfl
theorem ty_bs (s : Str) : isTy "bool" (.str s) = some false := by kernel_rfl
theorem ty_bl (ds : List D) : isTy "bool" (.list ds) = some false := by kernel_rfl
theorem ty_bt (ds : List D) : isTy "bool" (.tuple ds) = some false := by kernel_rfl
theorem ty_sn : isTy "str" .none = some false := by kernel_rfl
theorem ty_sb (b : Bool) : isTy "str" (.bool b) = some false := by kernel_rfl
theorem ty_si (i : Int) : isTy "str" (.int i) = some false := by kernel_rfl
theorem ty_ss (s : Str) : isTy "str" (.str s) = some true := by kernel_rfl
theorem ty_sl (ds : List D) : isTy "str" (.list ds) = some false := by kernel_rfl
theorem ty_st (ds : List D) : isTy "str" (.tuple ds) = some false := by kernel_rfl
def numC : Es' := fun p => numM (full 3 p)
theorem num_i (x a b : Int) (st : Sts) : resP st (numC [.im (.int x), .im (.int a), .im (.int b)]) = .ok (.bool (decide (a ≤ x ∧ x ≤ b))) st := resP_rt ⟨_, numM_int x a b⟩ st
theorem num_b (x : Bool) (a b : D) (st : Sts) : resP st (numC [.im (.bool x), .im a, .im b]) = .ok (.bool false) st := by
  refine resP_rt ⟨[.im (.bool x), .im a, .im b], ?_⟩ st
  show numM [.im (.bool x), .im a, .im b] = _
  unfold numM
  simp (disch := (first | (simp only [noPar_s, g0, gS, npK_un, npK_im, npK_own, npK_scr, getO_s, getL_s, getK_own, getK_par, lstK_ok, Option.isSome_some]; done) | omega)) only [sSeq_s, sqK_nx, sqK_rt, sqK_rf, ofO_s, bin_s, binK_ok, binL_ok, una_s, unaK_ok, tst_s, tstK_ok, nt_s, ntK_ok, an_s, anK_t, anK_f, orr_s, orK_t, orK_f, val_s, valK_ok, iff_s, iffK_t, iffK_f, callB_s, cbK_ok, aCons_s, acK_ok, acL_ok, aNil_s, vC_s, vIm_s, vImK_im, vAny_s, vAnyK_im, vAnyK_own, vAnyK_par, g0, gS, sIf_s, sIfK_t, sIfK_f, sNil_s, sRet_s, sRetK_ok, sEx_s, sExK_ok, noPar_s, npK_un, npK_im, npK_own, npK_scr, npK_par, sSet_s, sSetK_ok, sOwn_s, sOwnK_ok, sWipe_s, wipes_n, wipes_t, sFor_s, sForK_ok, iRg_s, iRgK_ok, iVal_s, iValK_ok, items_l, items_t, callP_s, cpK_ok, gN_s, sUn_s, sUnK_ok, sUnL_ok, gT_t, gCons_c, gcK_ok, gNil_n, sPar_s, sParK_ok, pSet_f, pSet_t, pSet_n, sAug_s, sAugO_im, sAugK_ok, sAugL_ok, chain_s, chJ_ok, chK_ok, chL_t, chL_f, chM_ok, asB_s, tYes_s, callD_s, cdK_ok, cdL_ok, getO_s, getK_own, getK_par, setO_s, setK_own, setK_par, getL_s, lstK_ok, mOn_s, moK_ok, moL_ok, moM_ok, sGive_s, gives_n, gives_c, giveK_own, giveK_im, giveK_un, iRg3_s, iRg3K_ok, rv_s, rvK_ok, rev_l, rev_t, ii2, at_t0, at_t1, at_l0, at_l1, mkT0, mkT1, mkT2, mkT3, mkL0, mkL1, mkL2, mkL3, mkL4, mkL5, mkL6, mkL7, mkL8, mkL9, mkL10, mkL11, mkL12, mkL13, mkL14, mkT4, mkT5, mkT6, mkT7, lenT0, lenT1, lenT2, lenT3, lenL0, decide_true, decide_false, Int.reduceEq, Int.reduceLT, Int.reduceLE, eq_self, int_i, int_b, mulB, tup_l, tup_t, lst_l, lst_t, neg_i, addD_n, subD_n, ltD_n, leD_n, gtD_n, geD_n, eqD_ii, neD_ii, List.set_cons_zero, List.set_cons_succ, Option.bind_some, Option.map_some, List.map_cons, List.map_nil, Bool.not_true, Bool.not_false, isF_s, isK_ok, ty_ib, ty_bb]
theorem num_n (a b : D) (st : Sts) : resP st (numC [.im .none, .im a, .im b]) = .ok (.bool false) st := by
  refine resP_rt ⟨[.im .none, .im a, .im b], ?_⟩ st
  show numM [.im .none, .im a, .im b] = _
  unfold numM
  simp (disch := (first | (simp only [noPar_s, g0, gS, npK_un, npK_im, npK_own, npK_scr, getO_s, getL_s, getK_own, getK_par, lstK_ok, Option.isSome_some]; done) | omega)) only [sSeq_s, sqK_nx, sqK_rt, sqK_rf, ofO_s, bin_s, binK_ok, binL_ok, una_s, unaK_ok, tst_s, tstK_ok, nt_s, ntK_ok, an_s, anK_t, anK_f, orr_s, orK_t, orK_f, val_s, valK_ok, iff_s, iffK_t, iffK_f, callB_s, cbK_ok, aCons_s, acK_ok, acL_ok, aNil_s, vC_s, vIm_s, vImK_im, vAny_s, vAnyK_im, vAnyK_own, vAnyK_par, g0, gS, sIf_s, sIfK_t, sIfK_f, sNil_s, sRet_s, sRetK_ok, sEx_s, sExK_ok, noPar_s, npK_un, npK_im, npK_own, npK_scr, npK_par, sSet_s, sSetK_ok, sOwn_s, sOwnK_ok, sWipe_s, wipes_n, wipes_t, sFor_s, sForK_ok, iRg_s, iRgK_ok, iVal_s, iValK_ok, items_l, items_t, callP_s, cpK_ok, gN_s, sUn_s, sUnK_ok, sUnL_ok, gT_t, gCons_c, gcK_ok, gNil_n, sPar_s, sParK_ok, pSet_f, pSet_t, pSet_n, sAug_s, sAugO_im, sAugK_ok, sAugL_ok, chain_s, chJ_ok, chK_ok, chL_t, chL_f, chM_ok, asB_s, tYes_s, callD_s, cdK_ok, cdL_ok, getO_s, getK_own, getK_par, setO_s, setK_own, setK_par, getL_s, lstK_ok, mOn_s, moK_ok, moL_ok, moM_ok, sGive_s, gives_n, gives_c, giveK_own, giveK_im, giveK_un, iRg3_s, iRg3K_ok, rv_s, rvK_ok, rev_l, rev_t, ii2, at_t0, at_t1, at_l0, at_l1, mkT0, mkT1, mkT2, mkT3, mkL0, mkL1, mkL2, mkL3, mkL4, mkL5, mkL6, mkL7, mkL8, mkL9, mkL10, mkL11, mkL12, mkL13, mkL14, mkT4, mkT5, mkT6, mkT7, lenT0, lenT1, lenT2, lenT3, lenL0, decide_true, decide_false, Int.reduceEq, Int.reduceLT, Int.reduceLE, eq_self, int_i, int_b, mulB, tup_l, tup_t, lst_l, lst_t, neg_i, addD_n, subD_n, ltD_n, leD_n, gtD_n, geD_n, eqD_ii, neD_ii, List.set_cons_zero, List.set_cons_succ, Option.bind_some, Option.map_some, List.map_cons, List.map_nil, Bool.not_true, Bool.not_false, isF_s, isK_ok, ty_in]
theorem num_s (x : Str) (a b : D) (st : Sts) : resP st (numC [.im (.str x), .im a, .im b]) = .ok (.bool false) st := by
  refine resP_rt ⟨[.im (.str x), .im a, .im b], ?_⟩ st
  show numM [.im (.str x), .im a, .im b] = _
  unfold numM
  simp (disch := (first | (simp only [noPar_s, g0, gS, npK_un, npK_im, npK_own, npK_scr, getO_s, getL_s, getK_own, getK_par, lstK_ok, Option.isSome_some]; done) | omega)) only [sSeq_s, sqK_nx, sqK_rt, sqK_rf, ofO_s, bin_s, binK_ok, binL_ok, una_s, unaK_ok, tst_s, tstK_ok, nt_s, ntK_ok, an_s, anK_t, anK_f, orr_s, orK_t, orK_f, val_s, valK_ok, iff_s, iffK_t, iffK_f, callB_s, cbK_ok, aCons_s, acK_ok, acL_ok, aNil_s, vC_s, vIm_s, vImK_im, vAny_s, vAnyK_im, vAnyK_own, vAnyK_par, g0, gS, sIf_s, sIfK_t, sIfK_f, sNil_s, sRet_s, sRetK_ok, sEx_s, sExK_ok, noPar_s, npK_un, npK_im, npK_own, npK_scr, npK_par, sSet_s, sSetK_ok, sOwn_s, sOwnK_ok, sWipe_s, wipes_n, wipes_t, sFor_s, sForK_ok, iRg_s, iRgK_ok, iVal_s, iValK_ok, items_l, items_t, callP_s, cpK_ok, gN_s, sUn_s, sUnK_ok, sUnL_ok, gT_t, gCons_c, gcK_ok, gNil_n, sPar_s, sParK_ok, pSet_f, pSet_t, pSet_n, sAug_s, sAugO_im, sAugK_ok, sAugL_ok, chain_s, chJ_ok, chK_ok, chL_t, chL_f, chM_ok, asB_s, tYes_s, callD_s, cdK_ok, cdL_ok, getO_s, getK_own, getK_par, setO_s, setK_own, setK_par, getL_s, lstK_ok, mOn_s, moK_ok, moL_ok, moM_ok, sGive_s, gives_n, gives_c, giveK_own, giveK_im, giveK_un, iRg3_s, iRg3K_ok, rv_s, rvK_ok, rev_l, rev_t, ii2, at_t0, at_t1, at_l0, at_l1, mkT0, mkT1, mkT2, mkT3, mkL0, mkL1, mkL2, mkL3, mkL4, mkL5, mkL6, mkL7, mkL8, mkL9, mkL10, mkL11, mkL12, mkL13, mkL14, mkT4, mkT5, mkT6, mkT7, lenT0, lenT1, lenT2, lenT3, lenL0, decide_true, decide_false, Int.reduceEq, Int.reduceLT, Int.reduceLE, eq_self, int_i, int_b, mulB, tup_l, tup_t, lst_l, lst_t, neg_i, addD_n, subD_n, ltD_n, leD_n, gtD_n, geD_n, eqD_ii, neD_ii, List.set_cons_zero, List.set_cons_succ, Option.bind_some, Option.map_some, List.map_cons, List.map_nil, Bool.not_true, Bool.not_false, isF_s, isK_ok, ty_is]
theorem num_l (x : List D) (a b : D) (st : Sts) : resP st (numC [.im (.list x), .im a, .im b]) = .ok (.bool false) st := by
  refine resP_rt ⟨[.im (.list x), .im a, .im b], ?_⟩ st
  show numM [.im (.list x), .im a, .im b] = _
  unfold numM
  simp (disch := (first | (simp only [noPar_s, g0, gS, npK_un, npK_im, npK_own, npK_scr, getO_s, getL_s, getK_own, getK_par, lstK_ok, Option.isSome_some]; done) | omega)) only [sSeq_s, sqK_nx, sqK_rt, sqK_rf, ofO_s, bin_s, binK_ok, binL_ok, una_s, unaK_ok, tst_s, tstK_ok, nt_s, ntK_ok, an_s, anK_t, anK_f, orr_s, orK_t, orK_f, val_s, valK_ok, iff_s, iffK_t, iffK_f, callB_s, cbK_ok, aCons_s, acK_ok, acL_ok, aNil_s, vC_s, vIm_s, vImK_im, vAny_s, vAnyK_im, vAnyK_own, vAnyK_par, g0, gS, sIf_s, sIfK_t, sIfK_f, sNil_s, sRet_s, sRetK_ok, sEx_s, sExK_ok, noPar_s, npK_un, npK_im, npK_own, npK_scr, npK_par, sSet_s, sSetK_ok, sOwn_s, sOwnK_ok, sWipe_s, wipes_n, wipes_t, sFor_s, sForK_ok, iRg_s, iRgK_ok, iVal_s, iValK_ok, items_l, items_t, callP_s, cpK_ok, gN_s, sUn_s, sUnK_ok, sUnL_ok, gT_t, gCons_c, gcK_ok, gNil_n, sPar_s, sParK_ok, pSet_f, pSet_t, pSet_n, sAug_s, sAugO_im, sAugK_ok, sAugL_ok, chain_s, chJ_ok, chK_ok, chL_t, chL_f, chM_ok, asB_s, tYes_s, callD_s, cdK_ok, cdL_ok, getO_s, getK_own, getK_par, setO_s, setK_own, setK_par, getL_s, lstK_ok, mOn_s, moK_ok, moL_ok, moM_ok, sGive_s, gives_n, gives_c, giveK_own, giveK_im, giveK_un, iRg3_s, iRg3K_ok, rv_s, rvK_ok, rev_l, rev_t, ii2, at_t0, at_t1, at_l0, at_l1, mkT0, mkT1, mkT2, mkT3, mkL0, mkL1, mkL2, mkL3, mkL4, mkL5, mkL6, mkL7, mkL8, mkL9, mkL10, mkL11, mkL12, mkL13, mkL14, mkT4, mkT5, mkT6, mkT7, lenT0, lenT1, lenT2, lenT3, lenL0, decide_true, decide_false, Int.reduceEq, Int.reduceLT, Int.reduceLE, eq_self, int_i, int_b, mulB, tup_l, tup_t, lst_l, lst_t, neg_i, addD_n, subD_n, ltD_n, leD_n, gtD_n, geD_n, eqD_ii, neD_ii, List.set_cons_zero, List.set_cons_succ, Option.bind_some, Option.map_some, List.map_cons, List.map_nil, Bool.not_true, Bool.not_false, isF_s, isK_ok, ty_il]
theorem num_t (x : List D) (a b : D) (st : Sts) : resP st (numC [.im (.tuple x), .im a, .im b]) = .ok (.bool false) st := by
  refine resP_rt ⟨[.im (.tuple x), .im a, .im b], ?_⟩ st
  show numM [.im (.tuple x), .im a, .im b] = _
  unfold numM
  simp (disch := (first | (simp only [noPar_s, g0, gS, npK_un, npK_im, npK_own, npK_scr, getO_s, getL_s, getK_own, getK_par, lstK_ok, Option.isSome_some]; done) | omega)) only [sSeq_s, sqK_nx, sqK_rt, sqK_rf, ofO_s, bin_s, binK_ok, binL_ok, una_s, unaK_ok, tst_s, tstK_ok, nt_s, ntK_ok, an_s, anK_t, anK_f, orr_s, orK_t, orK_f, val_s, valK_ok, iff_s, iffK_t, iffK_f, callB_s, cbK_ok, aCons_s, acK_ok, acL_ok, aNil_s, vC_s, vIm_s, vImK_im, vAny_s, vAnyK_im, vAnyK_own, vAnyK_par, g0, gS, sIf_s, sIfK_t, sIfK_f, sNil_s, sRet_s, sRetK_ok, sEx_s, sExK_ok, noPar_s, npK_un, npK_im, npK_own, npK_scr, npK_par, sSet_s, sSetK_ok, sOwn_s, sOwnK_ok, sWipe_s, wipes_n, wipes_t, sFor_s, sForK_ok, iRg_s, iRgK_ok, iVal_s, iValK_ok, items_l, items_t, callP_s, cpK_ok, gN_s, sUn_s, sUnK_ok, sUnL_ok, gT_t, gCons_c, gcK_ok, gNil_n, sPar_s, sParK_ok, pSet_f, pSet_t, pSet_n, sAug_s, sAugO_im, sAugK_ok, sAugL_ok, chain_s, chJ_ok, chK_ok, chL_t, chL_f, chM_ok, asB_s, tYes_s, callD_s, cdK_ok, cdL_ok, getO_s, getK_own, getK_par, setO_s, setK_own, setK_par, getL_s, lstK_ok, mOn_s, moK_ok, moL_ok, moM_ok, sGive_s, gives_n, gives_c, giveK_own, giveK_im, giveK_un, iRg3_s, iRg3K_ok, rv_s, rvK_ok, rev_l, rev_t, ii2, at_t0, at_t1, at_l0, at_l1, mkT0, mkT1, mkT2, mkT3, mkL0, mkL1, mkL2, mkL3, mkL4, mkL5, mkL6, mkL7, mkL8, mkL9, mkL10, mkL11, mkL12, mkL13, mkL14, mkT4, mkT5, mkT6, mkT7, lenT0, lenT1, lenT2, lenT3, lenL0, decide_true, decide_false, Int.reduceEq, Int.reduceLT, Int.reduceLE, eq_self, int_i, int_b, mulB, tup_l, tup_t, lst_l, lst_t, neg_i, addD_n, subD_n, ltD_n, leD_n, gtD_n, geD_n, eqD_ii, neD_ii, List.set_cons_zero, List.set_cons_succ, Option.bind_some, Option.map_some, List.map_cons, List.map_nil, Bool.not_true, Bool.not_false, isF_s, isK_ok, ty_it]
theorem lrg_1 {j : Int} (h : j < 10000000) (h2 : -(10000000) < j) : lrgD [.int j] = some (.list (rg 0 j)) := by
  have e : rgcN 0 j 1 = (j - 0).toNat := by
    rw [rgcN_c (by decide)]
    by_cases q : 0 < j
    · rw [if_pos q]; congr 1; omega
    · rw [if_neg q]; omega
  show (if rgcOk 0 j 1 = true ∧ rgcN 0 j 1 ≤ 16777216 then some (PyData.list (rgc 0 j 1)) else none) = _
  rw [if_pos ⟨rgcOk_c (by decide) (by decide) (by decide) (by decide) (by omega) (by omega), by rw [e]; omega⟩]
  unfold rgc rg
  rw [e]
  simp only [Int.mul_one]
theorem take_p (xs : List Int) {b : Int} (hb : 0 < b) (st : Sts) (i : Nat) (M : Es') (hM : ∀ p, M p = takeM (full 2 p)) : resD i st (M [.par (.list (xs.map .int)), .im (.int b)]) = .ok (.int (take1 xs b).1) (setO st i (.list ((take1 xs b).2.map .int))) := by
  rw [hM]
  show resD i st (takeM [.par (.list (xs.map .int)), .im (.int b)]) = _
  rw [takeM_ev xs hb]; rfl
theorem take_lt (xs : List Int) {b : Int} (hb : 0 < b) : 0 ≤ (take1 xs b).1 ∧ (take1 xs b).1 < b := by
  unfold take1
  cases xs.getLast? with
  | none => exact ⟨Int.le_refl _, hb⟩
  | some x => exact ⟨Int.emod_nonneg _ (by omega), Int.emod_lt_of_pos _ hb⟩
/-- a call that draws: what it comes to -/
theorem callD_ok {i : Nat} {M : Es'} {fa : Ea} {st st1 : Sts} {l : D} {ds : List D} {r : Res D} (h0 : (getO st i).isSome = true) (h1 : fa st = .ok ds st1) (h2 : getO st1 i = some l) (h3 : resD i st1 (M (Sl.par l :: ds.map Sl.im)) = r) : callD i M fa st = r := by
  unfold callD
  rw [if_pos h0, h1, Res.ok_bind, h2]
  exact h3
end Vs

set_option Elab.async false
set_option linter.all false
set_option maxRecDepth 100000
set_option maxHeartbeats 4000000
namespace Vs
open PySem PySem.Spec PyProof.Rows L2
/-! ### xs += ys, xs an owned list -/
theorem seqI_list : seqSlot? (.type "list") (dunderI "add") = pure (some (.builtin "list.__iadd__")) := by
  unfold seqSlot?
  rw [F.slot_list_iadd.lookup]
  first | rfl | kernel_rfl
theorem fillI_list : fillsInplaceSlot (.type "list") "add" true = pure false := by
  unfold fillsInplaceSlot
  show (typeLookup (.type "list") (dunderI "add") >>= fun fi => _) = _
  rw [F.slot_list_iadd.lookup]
  first | rfl | kernel_rfl
theorem iadd_lists {prog : Program} {w : World} {A : Around} {E : Value → Shared → Prop} {s : Shared} {l b : Addr} {items items2 : Array Value} {n n2 : Nat} {Q : Value → Shared → Prop}
    (hl : s.heap.get? l = some { cls := .type "list", data := .seq items n }) (hb : s.heap.get? b = some { cls := .type "list", data := .seq items2 n2 }) (hz : items.size + items2.size ≤ sizeLine)
    (h : Q (.ref l) { s with heap := s.heap.update l (Obj.mapSeq fun x => x ++ items2) }) : wpAny (model prog w) A (inplaceOp .Add (.ref l) (.ref b)) Q E s := by
  have tl : s.TypeIs (.ref l) "list" := ⟨_, hl, rfl⟩
  have tb : s.TypeIs (.ref b) "list" := ⟨_, hb, rfl⟩
  unfold inplaceOp
  refine wpAny_holding ?_
  refine wpAny_bind (wpAny_typeOf tl (wpAny_bind (wpAny_of_eq fillI_list ?_)))
  show wpAny _ A (if false = true then _ else _) Q E s
  rw [if_neg Bool.false_ne_true]
  refine wpAny_bind (binaryOp1_none (nm := "add") tl tb noFill_list_add ?_)
  refine wpAny_bind (wpAny_of_eq seqI_list ?_)
  have hlong : ¬ (!items.isEmpty && Builtin.List.listTooLong (items.size + items2.size)) = true := by
    rw [notLongL hz, Bool.and_false]
    exact Bool.false_ne_true
  exact wpAny_bind (wpAny_rule (call_meets F.slot_list_iadd tl F.entry_list_iadd (F.args_list_iadd_2 _ _) (AutoSeq1.list___iadd___list_list_0 l items n b items2 n2 hlong (by omega) (by omega)) ⟨hl, hb, h⟩))
def ipL : TIp := fun x y H Q => ∃ l b xs zs, x = .ref l ∧ y = .ref b ∧ H l = some (.lst xs) ∧ Rd H b (.lst zs) ∧ xs.length + zs.length ≤ sizeLine ∧ Q (.ref l) (upd H l (.lst (xs ++ zs)))
theorem ip_lists {X : Cx} : PIp X .Add ipL := by
  intro pins s σ H x y v u Q I r1 r2 h
  obtain ⟨l, b, xs, zs, rfl, rfl, hH, hB, hz, q⟩ := h
  cases r1
  cases r2
  obtain ⟨z, its, n, r, hl, e⟩ := I.lstM hH
  obtain ⟨z2, its2, n2, r2, hl2, e2⟩ := rdLst (P := X.prog) (w := X.w) I hB
  refine iadd_lists e e2 (by rw [List.size_toArray, List.size_toArray]; omega) ?_
  refine ⟨.ref l, _, I.lset (its' := its ++ its2) hH e (by simp) (r.append r2) ?_, rfl, q⟩
  rw [List.length_append]
  omega
def sAugX (i : Nat) (fe : Ev) : Es' := fun st => if (getL st i).isSome = true then bindS (fe st) fun d st1 => (match getL st1 i, d with
  | some cs, .list ds => if cs.length + ds.length ≤ sizeLine then .nx (setO st1 i (.list (cs ++ ds))) else .bad
  | _, _ => .bad) else .bad
section
variable {X : Cx} {T : Addr → Prop} {W : Wx} {m r : Bool} {i : Nat} {x : Str} {e : Expr} {fe : Ev} {pos pos' : Pos}
theorem VS.augL (hN : X.N.Nodup) (hi : X.N[i]? = some x) (hx : Loc X.env.scope x) (he : VE X T W m r e fe)
    (hf : X.fn x = true ∨ X.env.scope.names.lookup x = some .local := by first | exact .inl rfl | exact .inr rfl | assumption) : VS X T W (.AugAssign (.Name x pos') .Add e pos) (sAugX i fe) :=
  ⟨ps_weak (ps_aug hN hi hx he.pe ip_lists hf) fun D σ H ⟨F, st, R, q⟩ => by
    unfold sAugX at q
    split at q
    case isFalse => exact q.elim
    rename_i hsome
    obtain ⟨cs0, e0⟩ := Option.isSome_iff_exists.mp hsome
    obtain ⟨a, us0, e1, nF, hb0, rc0⟩ := own_list R e0
    refine ⟨.ref a, e1, tG.firstS R q fun d st1 v H1 ef R1 y1 q1 h1 => ?_⟩
    split at h1
    · rename_i cs ds eg
      split at h1
      · rename_i hz
        obtain ⟨a', us, e1', nF', hb, rc⟩ := own_list R1 eg
        rw [e1] at e1'; cases e1'
        have hg := getL_some eg
        obtain ⟨b, zs, rfl, s2, p2⟩ := q1.isL
        refine ⟨a, b, us, zs, rfl, rfl, hb, s2, by rw [← rc.length, ← p2.length]; exact hz, ?_⟩
        have mu : Mut (H1 a) := by rw [hb]; trivial
        have k : Kp (fun c => c = a) H1 (upd H1 a (.lst (us ++ zs))) := Kp.put1 mu
        have hM : ∀ c, c = a → Bd F σ st1 c := fun c e => .inr ⟨i, _, hg, by rw [e]; exact e1⟩
        have R2 := R1.put (d := .list (cs ++ ds)) hg e1 k (fun P _ h => tab_put mu h) (.lst upd_same ((rc.append p2).step k hM fun b z => .inl z))
        have y2 : XGo true σ H1 (upd H1 a (.lst (us ++ zs))) st1 (setO st1 i (.list (cs ++ ds))) := XGo.put hg e1 k
        have es : σ.set i (some (.ref a)) = σ := List.ext_getElem? fun j => by
          by_cases q : i = j
          · subst q
            rw [List.getElem?_set_self (List.getElem?_eq_some_iff.mp e1).1, e1]
          · rw [List.getElem?_set_ne q]
        show D.nx (σ.set i (some (.ref a))) _
        rw [es]
        exact h1 _ _ R2 (y1.tr y2 (fun _ => rfl) fun z => z).sgo
      · exact h1.elim
    · exact h1.elim⟩
end
end Vs

set_option Elab.async false
set_option linter.all false
set_option maxRecDepth 100000
set_option maxHeartbeats 4000000
namespace PySem
open Sem (wp)
open AutoSeq1 (wpAny_loadPart')
set_option maxRecDepth 100000
/-! ### enumerate(tuple) -/
theorem vs_enum_newT (l : Addr) (items : Array Value) (n : Nat) (dct : Option Addr) (sl : Array (Option Value)) :
    Meets (Builtin.«enumerate.__new__» ⟨[.type "enumerate", .ref l], []⟩) (fun _ R s => s.heap.get? l = some { cls := .type "tuple", dict := dct, data := .seq items n, slots := sl } ∧
      R (.ok (.ret (.ref (s.heap.push { cls := .type "tuple_iterator", data := .fields #[.ref l, .int 0 0] }).objs.size)))
        { s with heap := (s.heap.push { cls := .type "tuple_iterator", data := .fields #[.ref l, .int 0 0] }).push { cls := .type "enumerate", data := .fields #[.none, .bool false, .ref s.heap.objs.size, rawInt 0, .none, .none] } }) :=
  .of_wp fun prog w A R s h => by
    obtain ⟨hp, g, d, tk, os⟩ := s
    obtain ⟨hl, h⟩ := h
    have hsub := sub_enumerate
    have hT : Heap.IsTuple (Shared.heap ⟨hp, g, d, tk, os⟩) l items := ⟨_, hl, rfl, n, rfl⟩
    wp_walk using wpAny_loadPart' hl
    refine wpAny_stack_any fun st => wpAny_pure ?_
    split
    · rename_i c _ _ _ _ _
      cases (c == Value.type "enumerate") <;> (wp_walk using wpAny_loadPart' hl, wpAny_pyIter_tuple hT; exact ⟨_, rfl, h⟩)
    · wp_walk using wpAny_loadPart' hl, wpAny_pyIter_tuple hT
      exact ⟨_, rfl, h⟩
theorem vs_call_enum_tup {prog : Program} {w : World} {A : Around} {E : Value → Shared → Prop} {s : Shared} {l : Addr} {items : Array Value} {Q : Value → Shared → Prop} (hT : s.heap.IsTuple l items)
    (h : ∀ h', IsEnum h' (s.heap.objs.size + 1) s.heap.objs.size 0 .none → h'.IsTupleIter s.heap.objs.size l 0 → h'.objs.size = s.heap.objs.size + 2 →
      (∀ b o, s.heap.get? b = some o → h'.get? b = some o) → Q (.ref (s.heap.objs.size + 1)) { s with heap := h' }) :
    wpAny (model prog w) A (call (.type "enumerate") [.ref l]) Q E s := by
  obtain ⟨⟨c, dct, dt, sl⟩, hl, hc, n, hd⟩ := hT
  replace hc : c = .type "tuple" := hc
  replace hd : dt = .seq items n := hd
  subst hc hd
  refine callType_new F.called_enumerate (by decide) (F.typeCall_enumerate_1 _) (F.newCall_enumerate_1 _) (fun obj => F.args_object_init_2 obj _) F.entry_enumerate_new
    (vs_enum_newT l items n dct sl) ⟨hl, ?_⟩
  have hz : (s.heap.push { cls := .type "tuple_iterator", data := .fields #[.ref l, .int 0 0] }).objs.size = s.heap.objs.size + 1 := Heap.size_push ..
  show _ ∧ _
  rw [hz]
  have he : IsEnum ((s.heap.push { cls := .type "tuple_iterator", data := .fields #[.ref l, .int 0 0] }).push
      { cls := .type "enumerate", data := .fields #[.none, .bool false, .ref s.heap.objs.size, rawInt 0, .none, .none] }) (s.heap.objs.size + 1) s.heap.objs.size 0 .none := by
    have q := Heap.get?_push_size (s.heap.push { cls := .type "tuple_iterator", data := .fields #[.ref l, .int 0 0] })
      (o := { cls := .type "enumerate", data := .fields #[.none, .bool false, .ref s.heap.objs.size, rawInt 0, .none, .none] }) rfl
    rw [hz] at q
    exact q
  refine ⟨⟨_, he, rfl⟩, h _ he ⟨_, Heap.get?_push_of_some _ (Heap.get?_push_size _ rfl), rfl, rfl⟩ (by rw [Heap.size_push, hz]) fun b o x => ?_⟩
  exact Heap.get?_push_of_some _ (Heap.get?_push_of_some _ x)
end PySem
namespace Vs
open PySem PySem.Spec PyProof.Rows L2
/-- the tuple at a, each item in a new pair -/
def ItE (K : PySem.W.Frag) (a : Addr) : It :=
  ⟨fun i H => ∃ (xs : List V) (x : V), SqT K H a xs ∧ xs[i]? = some x, fun i H v H' => ∃ T x, v = .ref T ∧ H T = none ∧ H' = upd H T (.tup [.int (i : Nat), x]) ∧ ∀ xs, SqT K H a xs → xs[i]? = some x, fun i H => ∃ xs : List V, SqT K H a xs ∧ xs.length = i⟩
theorem enum_ne {h : Heap} {e it a : Addr} {k : Int} {old : Value} {i : Nat} {items : Array Value} (he : IsEnum h e it k old) (hi : h.IsTupleIter it a i) (ht : h.IsTuple a items) : a ≠ it ∧ e ≠ a := by
  obtain ⟨o, e1, c1, _⟩ := hi
  obtain ⟨o2, e2, c2, _⟩ := ht
  refine ⟨fun q => ?_, fun q => ?_⟩
  · rw [q, e1] at e2
    cases e2
    rw [c1] at c2
    exact absurd (Value.type.inj c2) (by decide)
  · have he' : h.get? e = _ := he
    rw [q, e2] at he'
    cases he'
    exact absurd (Value.type.inj c2) (by decide)
theorem turn_enumT {P : Program} {w : World} {K : PySem.W.Frag} {elts : List Expr} {kk : Nat} {tpos : Pos} (a e it : Addr) :
    Turn P w K (.Tuple elts kk tpos) (ItE K a) [e, it] e (fun i h => (∃ old, IsEnum h e it ((i : Nat) : Int) old) ∧ h.IsTupleIter it a i ∧ e ≠ it) where
  mem := by simp
  obj := fun i h st b hb => by
    obtain ⟨⟨old, he⟩, ⟨o, ho, hc, hd⟩, _⟩ := st
    rcases (show b = e ∨ b = it by simpa using hb) with z | z
    · rw [z]; exact ⟨_, he, fun v q => nomatch q⟩
    · rw [z]; exact ⟨o, ho, fun v q => by rw [hd] at q; cases q⟩
  keep := fun i h h' st k => let ⟨⟨old, he⟩, hi, hne⟩ := st; ⟨⟨old, k e (by simp) _ he⟩, hi.at fun o q => k it (by simp) o q, hne⟩
  item := by
    intro X hP hw hK hc i pins s σ H E I hf st hg
    subst hP hw hK
    obtain ⟨⟨old, he⟩, hit, hne⟩ := st
    obtain ⟨xs, x, hq, hx⟩ := hg
    obtain ⟨its, rv, p, hz⟩ := I.tuple hq
    obtain ⟨u, hu, ru⟩ := rv.get hx
    have pT : s.heap.IsTuple a its.toArray := p
    obtain ⟨n1, n2⟩ := enum_ne he hit pT
    have hel : e < s.heap.objs.size := Heap.lt_size he
    have hil : it < s.heap.objs.size := by obtain ⟨_, q, _⟩ := hit; exact Heap.lt_size q
    have hlt : i < its.toArray.size := by rw [List.size_toArray]; exact (List.getElem?_eq_some_iff.mp hu).1
    refine wpAny_pyNext_enum_itemD (Draws.tuple (show X.A.in1.handled = none from I.ok.hd hc) it a n1 its.toArray) he ⟨hit, pT⟩ hlt hne (by simp [hne, n2]) fun y h' tk hy ho hst' hT hsz hk => ?_
    have ey : y = u := by
      have : its.toArray[i]? = some u := by simpa using hu
      rw [this] at hy
      exact (Option.some.inj hy).symm
    subst ey
    refine ⟨_, rfl, wpAny_letOwnedTupleGo_enum (s := { s with heap := h', toks := tk + 1 }) ho fun h'' he' sb => ?_⟩
    have hT2 : h''.get? s.heap.objs.size = some { cls := .type "tuple", data := .seq #[.int i tk, y] } := (sb.2 _ (Nat.ne_of_gt hel)).trans hT
    have new : ObjOk X.prog X.w (upd H s.heap.objs.size (.tup [.int (i : Nat), x])) h'' s.heap.objs.size (.tup [.int (i : Nat), x]) :=
      ⟨by show 2 ≤ sizeLine; decide, [.int i tk, y], .cons ⟨_, rfl⟩ (.cons ru .nil), ⟨_, hT2, rfl, _, rfl⟩⟩
    have I1 : Inv X pins σ (upd H s.heap.objs.size (.tup [.int (i : Nat), x])) { s with heap := h'', toks := tk + 1 } :=
      I.turnedNew (ch := [e, it]) (fun b ob hb q => (sb.2 b (fun z => hb (by simp [z]))).trans (hk b ob (fun z => hb (by simp [z])) (fun z => hb (by simp [z])) q)) hf (Nat.le_refl _) new
    refine ⟨.ref s.heap.objs.size, _, I1, rfl, ⟨_, x, rfl, I.hok.fresh (Nat.le_refl _), rfl, fun ys hy => by rw [I.tuple_inj hy hq]; exact hx⟩, ⟨⟨y, ?_⟩, hst'.1.at fun o q => (sb.2 it (Ne.symm hne)).trans q, hne⟩, fun b hb => ?_⟩
    · rw [show ((i + 1 : Nat) : Int) = (i : Int) + 1 by omega]
      exact he'
    · have hb' : b < s.heap.objs.size := by
        rcases (show b = e ∨ b = it by simpa using hb) with z | z
        · rw [z]; exact hel
        · rw [z]; exact hil
      rw [upd_ne (Nat.ne_of_lt hb')]
      exact (hf b hb).1
  done := by
    intro X hP hw hK hc i pins s σ H E I hf st hg
    subst hP hw hK
    obtain ⟨⟨old, he⟩, hit, hne⟩ := st
    obtain ⟨xs, hq, hx⟩ := hg
    obtain ⟨its, rv, p, hz⟩ := I.tuple hq
    have pT : s.heap.IsTuple a its.toArray := p
    obtain ⟨n1, n2⟩ := enum_ne he hit pT
    obtain ⟨f0, f1, f2, f3, f4, f5⟩ := hf it (by simp)
    have hl := rv.length
    have e0 : i = its.toArray.size := by rw [List.size_toArray]; omega
    have hit' : s.heap.IsTupleIter it a its.toArray.size := by rw [← e0]; exact hit
    exact wpAny_pyNext_enum_endD (Draws.tuple (show X.A.in1.handled = none from I.ok.hd hc) it a n1 its.toArray) he ⟨hit', pT⟩ fun h' eb => ⟨rfl, I.turned (t' := s.toks) (fun b o hb q => eb b o hb q) f0 f1 f3 f4 f5⟩
  self := fun A i s Q E st h => let ⟨⟨_, he⟩, _⟩ := st; wpAny_pyIter_enum he h
/-- enumerate of a list or a tuple -/
def iEnumA (K : PySem.W.Frag) (ta : TA) : TI := fun σ H R => ta σ H fun vs H1 => ∃ a, vs = [.ref a] ∧ ((∃ xs, SqL K H1 a xs) ∧ R (Ite K a) H1 ∨ (∃ xs, SqT K H1 a xs) ∧ R (ItE K a) H1)
section
variable {X : Cx} {T F : Addr → Prop} {W : Wx} {m r : Bool} {σ : St} {H : Hp} {st : Sts} {e : Expr} {ta : TA} {p pos tpos : Pos} {elts : List Expr} {kk : Nat}
theorem pi_enumA (hg : Gl X "enumerate") (hm : X.mg "enumerate" = none) (ha : PA X [e] ta) (hs : starEach [e] X.env = [(false, eval e X.env)] := by rfl) :
    PI X (.Tuple elts kk tpos) (.Call (.Name "enumerate" p) [e] [] pos) (iEnumA X.K ta) := by
  refine ⟨fun pins s σ H R I h => ?_⟩
  refine Call_ (ld_blt I hg hm boot_enumerate (PyProof.Rows.callWith_type1 (thn (ha.run pos pins s σ H _ I h) fun us s1 ⟨vs, H1, I1, r1, q1⟩ => ?_) hs rfl))
  obtain ⟨a, ex, q1⟩ := q1
  subst ex
  have fin : ∀ b, b ∈ [s1.heap.objs.size + 1, s1.heap.objs.size] → FpOk X pins H1 b := fun b hb => by
    have hle : s1.heap.objs.size ≤ b := by
      rcases (show b = s1.heap.objs.size + 1 ∨ b = s1.heap.objs.size by simpa using hb) with z | z
      · rw [z]; exact Nat.le_succ _
      · rw [z]; exact Nat.le_refl _
    exact I1.fpOk hle (I1.hok.fresh hle)
  cases r1 with
  | cons r rr =>
    cases rr
    cases r
    rcases q1 with ⟨⟨xs, hq⟩, q⟩ | ⟨⟨xs, hq⟩, q⟩
    · obtain ⟨its, rv, p', hz⟩ := I1.list hq
      refine call_enumerate_list p'.isList fun h' he hit hsz hk => wpAny_pyIter_enum he ?_
      have I2 : Inv X pins σ H1 { s1 with heap := h' } := I1.kept (t' := s1.toks) hk
      exact ⟨s1.heap.objs.size + 1, [s1.heap.objs.size + 1, s1.heap.objs.size], _, _, H1, rfl, I2, turn_enum a (s1.heap.objs.size + 1) s1.heap.objs.size, ⟨⟨.none, he⟩, hit, Nat.succ_ne_self _⟩, fin, q⟩
    · obtain ⟨its, rv, p', hz⟩ := I1.tuple hq
      refine PySem.vs_call_enum_tup (items := its.toArray) p' fun h' he hit hsz hk => wpAny_pyIter_enum he ?_
      have I2 : Inv X pins σ H1 { s1 with heap := h' } := I1.kept (t' := s1.toks) hk
      exact ⟨s1.heap.objs.size + 1, [s1.heap.objs.size + 1, s1.heap.objs.size], _, _, H1, rfl, I2, turn_enumT a (s1.heap.objs.size + 1) s1.heap.objs.size, ⟨⟨.none, he⟩, hit, Nat.succ_ne_self _⟩, fin, q⟩
def enumL : List D → Nat → List D
  | [], _ => []
  | d :: ds, i => .tuple [.int (i : Int), d] :: enumL ds (i + 1)
theorem enumL_length : ∀ (ds : List D) (i : Nat), (enumL ds i).length = ds.length
  | [], _ => rfl
  | d :: ds, i => by rw [enumL, List.length_cons, List.length_cons, enumL_length]
theorem enumL_get : ∀ (ds : List D) (i j : Nat) (d : D), ds[j]? = some d → (enumL ds i)[j]? = some (.tuple [.int ((i + j : Nat) : Int), d])
  | [], _, _, _, h => by simp at h
  | x :: ds, i, 0, d, h => by
    rw [List.getElem?_cons_zero] at h
    cases h
    rfl
  | x :: ds, i, j + 1, d, h => by
    rw [List.getElem?_cons_succ] at h
    rw [enumL, List.getElem?_cons_succ, enumL_get ds (i + 1) j d h, show i + 1 + j = i + (j + 1) by omega]
def enumD : List D → Option (List D)
  | [.list ds] => some (enumL ds 0)
  | [.tuple ds] => some (enumL ds 0)
  | _ => none
def iEnm (fa : Ea) : Ei := fun st => (fa st).bind fun ds st1 => ofO (enumD ds) st1
theorem jw_enum {K : PySem.W.Frag} {B M : Addr → Prop} {J : It} {G : Hp → Prop} {ds : List D} {xs : List V} (w : Walk J xs.length G (YPair (fun i => some (.int (i : Nat))) (fun i => xs[i]?))) (hM : ∀ b, M b → B b) (hG : ∀ H1, Kp M H H1 → G H1) (q : RepA K B H ds xs) : Jw K T B M H J (enumL ds 0) := by
  refine ⟨G, _, by rw [enumL_length, q.length]; exact w, hG, fun i H1 B1 v H2 hi k hB y => ?_⟩
  obtain ⟨t, x, z, rfl, hn, rfl, e1, e2⟩ := y
  cases e1
  obtain ⟨d, f1, f2⟩ := q.get e2
  have kp : Kp (fun _ => False) H1 (upd H1 t (.tup [.int (i : Nat), z])) := Kp.upd hn
  refine ⟨kp, fun P _ h => tab_upd hn h, _, enumL_get ds 0 i d f1, ?_⟩
  rw [Nat.zero_add]
  exact .tup upd_same (.cons (.int _) (.cons ((f2.step k hM hB).step kp (fun _ z => z.elim) fun b z => .inl z) .nil))
theorem VI.enum {fa : Ea} (hg : Gl X "enumerate") (hm : X.mg "enumerate" = none) (ha : VA X T W m false [e] fa) (hs : starEach [e] X.env = [(false, eval e X.env)] := by rfl) :
    VI X T W m (.Tuple elts kk tpos) (.Call (.Name "enumerate" p) [e] [] pos) (iEnm fa) :=
  ⟨pi_weak (pi_enumA hg hm ha.pa hs) fun σ H R ⟨F, st, RR, q, k'⟩ => by
    refine vi_first RR q k' fun ds st1 vs H1 e1 R1 y1 q1 h1 k1 => ?_
    have hM : ∀ b, Bd F σ st1 b → Bd F σ st1 b := fun b z => z
    cases er : enumD ds with
    | none => rw [er] at h1; exact h1.elim
    | some es =>
      have k2 := k1 es st1 (by rw [er]; rfl)
      unfold enumD at er
      split at er
      · cases er
        obtain ⟨v, rfl, q2⟩ := RepL.one q1
        have q2 := q2.clean
        cases q2 with
        | lst s n q => exact ⟨_, rfl, .inl ⟨⟨_, .inl s⟩, k2 _ H1 R1 y1 (jw_enum walk_enum hM (fun H2 k => .inl (k.rd (fun z => z) s fun z => n (hM _ z))) q)⟩⟩
      · cases er
        obtain ⟨v, rfl, q2⟩ := RepL.one q1
        obtain ⟨a, xs, rfl, s, q⟩ := q2.isT
        refine ⟨a, rfl, .inr ⟨⟨_, SqT.of s⟩, k2 _ H1 R1 y1 (jw_enum (G := fun H => SqT X.K H a xs) ?_ hM (fun H2 k => k.sqT (SqT.of s)) q)⟩⟩
        refine ⟨fun i _ hi q => ⟨xs, xs[i], q, by simp [hi]⟩, fun _ q => ⟨xs, q, rfl⟩, fun i H v H' _ q y => ?_⟩
        obtain ⟨t, x, h1, h2, h3, h4⟩ := y
        exact ⟨t, .int (i : Nat), x, h1, h2, h3, rfl, h4 xs q⟩
      · cases er⟩
end
end Vs

set_option Elab.async false
set_option linter.all false
set_option maxRecDepth 100000
set_option maxHeartbeats 4000000
namespace Vs
open PySem PySem.Spec PyProof.Rows L2
/-! ### an empty dict is of either kind -/
section
variable {X : Cx} {pins : List (Addr × Obj)} {σ : St} {H : Hp} {s : Shared} {a : Addr} {y v : V} {u r : Value} {A : Around} {E : Value → Shared → Prop}
theorem same_but {h : Heap} : Heap.SameBut a h h := ⟨rfl, fun _ _ => rfl⟩
theorem swapT (I : Inv X pins σ H s) (e : H a = some (.dK [])) : Inv X pins σ (upd H a (.dT [])) s := by
  obtain ⟨z, hd, vs, rel, o, es, ep, h1, h2, h3, h4, h5, h6⟩ := dk_of I.hok e
  cases rel
  have he : es.toList = [] := by
    generalize es.toList = l at h5
    cases h5; rfl
  exact d_write (t' := s.toks) I (by rw [e]; exact True.intro) same_but ⟨o, h1⟩ ⟨Nat.zero_le _, hd, [], .nil, o, es, ep, h1, h2, h3, by rw [he]; rfl, List.nodup_nil⟩
theorem swapK (I : Inv X pins σ H s) (e : H a = some (.dT [])) : Inv X pins σ (upd H a (.dK [])) s := by
  obtain ⟨z, hd, xs, rel, o, es, ep, h1, h2, h3, h4, _, h5⟩ := dt_of I.hok e
  cases rel
  have he : es = #[] := by
    have : es.toList = [] := h4
    exact Array.toList_eq_nil_iff.mp this
  subst he
  have dk := (Heap.DictOf.new (knd := mixKind X.prog X.w) s.heap)
  obtain ⟨o2, es2, ep2, k1, k2, k3, k4, k5, k6⟩ := dk
  exact d_write (t' := s.toks) I (by rw [e]; exact True.intro) same_but ⟨o, h1⟩ ⟨Nat.zero_le _, hd, [], .nil, o, #[], ep, h1, h2, h3, (fun i hi => by simp at hi), .nil, List.nodup_nil⟩
/-- the heap behind a[y] = v, an empty dict of either kind -/
def DPut' (H : Hp) (a : Addr) (y v : V) (H' : Hp) : Prop := DPut H a y v H' ∨ (H a = some (.dK []) ∧ DPut (upd H a (.dT [])) a y v H') ∨ (H a = some (.dT []) ∧ DPut (upd H a (.dK [])) a y v H')
theorem d_setItem' {H' : Hp} {Q : Unit → Shared → Prop} (hu : A.units + 1 < cLine) (I : Inv X pins σ H s) (g : DPut' H a y v H') (ry : RelV y u) (rv : RelV v r) (h : ∀ s', Inv X pins σ H' s' → Q () s') :
    wpAny (model X.prog X.w) A (setItem (.ref a) u r) Q E s := by
  rcases g with g | ⟨e, g⟩ | ⟨e, g⟩
  · exact d_setItem hu I g ry rv h
  · exact d_setItem hu (swapT I e) g ry rv h
  · exact d_setItem hu (swapK I e) g ry rv h
def sDPut' (td ty tv : TE) : TS := fun D σ H => tv σ H fun v H1 => td σ H1 fun x H2 => ty σ H2 fun y H3 => ∃ a H4, x = .ref a ∧ DPut' H3 a y v H4 ∧ D.nx σ H4
theorem ps_dput' {o i value : Expr} {pos pos' : Pos} {td ty tv : TE} (hu : X.A.units + 1 < cLine) (ho : PE X o td) (hi : PE X i ty) (hv : PE X value tv) (hs : swapsWith value (some (.Subscript o i pos')) pos.line X.env = pure false) :
    PS X (.Assign [.Subscript o i pos'] value pos) (sDPut' td ty tv) := by
  refine ⟨fun pins s σ H D I h => ?_⟩
  refine wpAny_Assign_Subscript (thn (hv.run pins s σ H _ I h) fun r s1 ⟨v, H1, I1, rv, q1⟩ => thn (ho.run pins s1 σ H1 _ I1 q1) fun u s2 ⟨x, H2, I2, rx, q2⟩ => thn (hi.run pins s2 σ H2 _ I2 q2) fun iv s3 ⟨y, H3, I3, ry, a, H4, ex, g, q3⟩ => ?_) hs
  subst ex
  obtain rfl : u = Value.ref a := rx
  exact d_setItem' hu I3 g ry rv fun s4 I4 => ⟨σ, H4, I4, q3⟩
end
/-! ### the entries of a dict by keys of one kind -/
def keyedBy {κ : Type} (f : D → Option κ) : List (D × D) → Option (List (κ × D))
  | [] => some []
  | (k, v) :: r => match f k, keyedBy f r with
    | some k', some r' => some ((k', v) :: r')
    | _, _ => none
def putD (kvs : List (D × D)) (k v : D) : Option (List (D × D)) := if kvs.length < sizeLine then (match keyOf k with
  | some k' => (keyedBy keyOf kvs).map fun ps => (putG ps k' v).map fun p => (keyD p.1, p.2)
  | none => match keyTOf k with
    | some k' => (keyedBy keyTOf kvs).map fun ps => (putG ps k' v).map fun p => (keyT p.1, p.2)
    | none => none) else none
section
variable {K : PySem.W.Frag} {B : Addr → Prop} {H : Hp}
theorem keyOf_D (k : Key) : keyOf (keyD k) = some k := by cases k <;> rfl
theorem keysOf_D : ∀ k : List Key, keysOf (k.map keyD) = some k
  | [] => rfl
  | k :: ks => by
    rw [List.map_cons]
    unfold keysOf
    rw [keyOf_D, keysOf_D ks]
theorem keyTOf_T (k : List Key) : keyTOf (keyT k) = some k := keysOf_D k
theorem keyed_pr {κ : Type} {f : D → Option κ} {g : κ → D} (hf : ∀ k, f (g k) = some k) : ∀ {kvs : List (D × D)} {es : List (κ × V)}, kvs.map (·.1) = es.map (fun e => g e.1) → RepA K B H (kvs.map (·.2)) (es.map (·.2)) →
    ∃ ps : List (κ × D), keyedBy f kvs = some ps ∧ PR K B H ps es
  | [], [], _, _ => ⟨[], rfl, .nil⟩
  | [], _ :: _, e, _ => by simp at e
  | _ :: _, [], e, _ => by simp at e
  | (k, v) :: kvs, (k', u) :: es, e, q => by
    simp only [List.map_cons, List.cons.injEq] at e
    simp only [List.map_cons] at q
    cases q with
    | cons a b =>
      obtain ⟨ps, e1, r⟩ := keyed_pr hf e.2 b
      have ek : k = g k' := e.1
      subst ek
      refine ⟨(k', v) :: ps, ?_, .cons ⟨rfl, a⟩ r⟩
      unfold keyedBy
      rw [hf, e1]
theorem keyed_bad {κ κ' : Type} {f : D → Option κ} {g : κ' → D} (hf : ∀ k, f (g k) = none) : ∀ {kvs : List (D × D)} {es : List (κ' × V)} {ps : List (κ × D)}, kvs.map (·.1) = es.map (fun e => g e.1) → keyedBy f kvs = some ps → kvs = [] ∧ es = []
  | [], [], _, _, _ => ⟨rfl, rfl⟩
  | [], _ :: _, _, e, _ => by simp at e
  | _ :: _, [], _, e, _ => by simp at e
  | (k, v) :: kvs, (k', u) :: es, ps, e, h => by
    simp only [List.map_cons, List.cons.injEq] at e
    have ek : k = g k' := e.1
    subst ek
    unfold keyedBy at h
    rw [hf] at h
    cases h
theorem keyTOf_D (k : Key) : keyTOf (keyD k) = none := by cases k <;> rfl
theorem keyOf_T (k : List Key) : keyOf (keyT k) = none := rfl
/-- a store into an owned dict -/
theorem own_put {a : Addr} {kvs kvs' : List (D × D)} {k v : D} {y u : V} (o : OwnRep K B H (.dict kvs) a) (rk : Rep K B H k y) (rv : Rep K B H v u) (h : putD kvs k v = some kvs') :
    ∃ ob H', H' = upd H a ob ∧ Mut (H a) ∧ DPut' H a y u H' ∧ ((∃ es, ob = .dK es ∧ kvs'.map (·.1) = es.map (fun e => keyD e.1) ∧ RepA K B H (kvs'.map (·.2)) (es.map (·.2))) ∨ ∃ es, ob = .dT es ∧ kvs'.map (·.1) = es.map (fun e => keyT e.1) ∧ RepA K B H (kvs'.map (·.2)) (es.map (·.2))) := by
  unfold putD at h
  split at h
  case isFalse => cases h
  rename_i hz
  split at h
  · rename_i k' hk
    simp only [Option.map_eq_some_iff] at h
    obtain ⟨ps, hp, rfl⟩ := h
    have hy : y = kV k' := by
      rw [keyOf_some hk] at rk
      cases k' with
      | inl i => cases rk; rfl
      | inr z => cases rk; rfl
    subst hy
    cases o with
    | @dK _ es _ s e q =>
      obtain ⟨ps', e1, r⟩ := keyed_pr (f := keyOf) (g := keyD) keyOf_D e q
      rw [hp] at e1; cases e1
      obtain ⟨z1, z2⟩ := (r.put k' rv).split (f := keyD)
      have hl : kvs.length = es.length := by have := congrArg List.length e; simpa using this
      exact ⟨_, _, rfl, by rw [s]; trivial, .inl (.k s (by rw [← hl]; exact hz)), .inl ⟨_, rfl, z1, z2⟩⟩
    | @dT _ es _ s e q =>
      obtain ⟨rfl, rfl⟩ := keyed_bad (f := keyOf) (g := keyT) keyOf_T e hp
      cases hp
      obtain ⟨z1, z2⟩ := (PR.put (K := K) (B := B) (H := H) (ps := ([] : List (Key × D))) (qs := []) .nil k' rv).split (f := keyD)
      exact ⟨_, _, rfl, by rw [s]; trivial, .inr (.inr ⟨s, (by
        have := DPut.k (H := upd H a (.dK [])) (a := a) (kvs := []) (k := k') (v := u) upd_same (by rw [sizeLine_eq]; decide)
        rw [upd_upd] at this; exact this)⟩), .inl ⟨_, rfl, z1, z2⟩⟩
  · split at h
    · rename_i k' hk
      simp only [Option.map_eq_some_iff] at h
      obtain ⟨ps, hp, rfl⟩ := h
      rw [keyTOf_some hk] at rk
      unfold keyT at rk
      obtain ⟨kb, ek, sk⟩ : ∃ kb, y = .ref kb ∧ H kb = some (.tup (k'.map kV)) := by
        cases rk with
        | @tup kb xs _ sk qk =>
          have := repA_keys_inv qk
          subst this
          exact ⟨kb, rfl, sk⟩
      subst ek
      cases o with
      | @dT _ es _ s e q =>
        obtain ⟨ps', e1, r⟩ := keyed_pr (f := keyTOf) (g := keyT) keyTOf_T e q
        rw [hp] at e1; cases e1
        obtain ⟨z1, z2⟩ := (r.put k' rv).split (f := keyT)
        have hl : kvs.length = es.length := by have := congrArg List.length e; simpa using this
        exact ⟨_, _, rfl, by rw [s]; trivial, .inl (.t s sk (by rw [← hl]; exact hz)), .inr ⟨_, rfl, z1, z2⟩⟩
      | @dK _ es _ s e q =>
        obtain ⟨rfl, rfl⟩ := keyed_bad (f := keyTOf) (g := keyD) keyTOf_D e hp
        cases hp
        obtain ⟨z1, z2⟩ := (PR.put (K := K) (B := B) (H := H) (ps := ([] : List (List Key × D))) (qs := []) .nil k' rv).split (f := keyT)
        have ne : kb ≠ a := fun z => by rw [z, s] at sk; cases sk
        exact ⟨_, _, rfl, by rw [s]; trivial, .inr (.inl ⟨s, (by
          have := DPut.t (H := upd H a (.dT [])) (a := a) (b := kb) (kvs := []) (k := k') (v := u) upd_same (by rw [upd_ne ne]; exact sk) (by rw [sizeLine_eq]; decide)
          rw [upd_upd] at this; exact this)⟩), .inr ⟨_, rfl, z1, z2⟩⟩
    · cases h
end
/-! ### d[k] = v, d an owned dict -/
def getDc (st : Sts) (i : Nat) : Option (List (D × D)) := match getO st i with
  | some (.dict kvs) => some kvs
  | _ => none
theorem getDc_some {st : Sts} {i : Nat} {kvs : List (D × D)} (h : getDc st i = some kvs) : getO st i = some (.dict kvs) := by
  unfold getDc at h
  split at h
  · rename_i e; cases h; exact e
  · cases h
def sPut (i : Nat) (fk fv : Ev) : Es' := fun st => bindS (fv st) fun v st1 => if (getDc st1 i).isSome = true then bindS (fk st1) fun k st2 => (match getDc st2 i with
  | some kvs => match putD kvs k v with
    | some kvs' => .nx (setO st2 i (.dict kvs'))
    | none => .bad
  | none => .bad) else .bad
section
variable {X : Cx} {T : Addr → Prop} {W : Wx} {m1 m2 : Bool} {i : Nat} {x : Str} {ek ev : Expr} {fk fv : Ev} {p pos pos' : Pos}
theorem VS.put (hu : X.A.units + 1 < cLine) (hN : X.N[i]? = some x) (hv : Vis X.env.scope x) (hek : VE X T W m1 false ek fk) (hev : VE X T W m2 false ev fv)
    (hd : (x == ("__debug__" : Str)) = false := by decide) (hcd : (x == ("__classdict__" : Str)) = false := by decide)
    (hs : swapsWith ev (some (.Subscript (.Name x p) ek pos')) pos.line X.env = pure false := by rfl) : VS X T W (.Assign [.Subscript (.Name x p) ek pos'] ev pos) (sPut i fk fv) :=
  ⟨ps_weak (ps_dput' hu (pe_var hN hv hd hcd) hek.pe hev.pe hs) fun D σ H ⟨F, st, R, q⟩ => by
    unfold sPut at q
    refine tG.firstS R q fun v st1 uv H1 ef R1 y1 q1 h1 => ?_
    split at h1
    case isFalse => exact h1.elim
    rename_i hsome
    obtain ⟨kvs0, e0⟩ := Option.isSome_iff_exists.mp hsome
    obtain ⟨a, e1, n1, o1⟩ := R1.ow i _ (getDc_some e0)
    refine ⟨.ref a, e1, tG.firstS R1 (h1.back y1.sgo) fun k st2 uk H2 ef2 R2 y2 q2 h2 => ?_⟩
    split at h2
    · rename_i kvs eg
      split at h2
      · rename_i kvs' ep
        have hg := getDc_some eg
        obtain ⟨a', e1', n2, o2⟩ := R2.ow i _ hg
        rw [e1] at e1'; cases e1'
        have q1' := (q1.go (m := m1) y2 (fun z => by cases z)).clean
        obtain ⟨ob, H', rfl, mu, dp, fin⟩ := own_put o2 q2.clean q1' ep
        refine ⟨a, _, rfl, dp, ?_⟩
        have k : Kp (fun c => c = a) H2 (upd H2 a ob) := Kp.put1 mu
        have hM : ∀ c, c = a → Bd F σ st2 c := fun c e => .inr ⟨i, _, hg, by rw [e]; exact e1⟩
        have ow : OwnRep X.K (Bd F σ st2) (upd H2 a ob) (.dict kvs') a := by
          rcases fin with ⟨es, rfl, z1, z2⟩ | ⟨es, rfl, z1, z2⟩
          · exact .dK upd_same z1 (z2.step k hM fun b z => .inl z)
          · exact .dT upd_same z1 (z2.step k hM fun b z => .inl z)
        have R3 := R2.put (d := .dict kvs') hg e1 k (fun P _ h => tab_put mu h) ow
        have y3 : XGo true σ H2 (upd H2 a ob) st2 (setO st2 i (.dict kvs')) := XGo.put hg e1 k
        exact h2 _ _ R3 (y2.tr (m := true) y3 (fun _ => rfl) fun z => z).sgo
      · exact h2.elim
    · exact h2.elim⟩
/-- {} -/
def mkD : List D → Option D
  | [] => some (.dict [])
  | _ => none
theorem VF.dnew {m : Bool} : VF X T W m (.Dict [] [] pos) (Vs.callB mkD aNil) :=
  ⟨pe_weak pe_dnewK fun σ H Q ⟨F, st, R, q⟩ => by
    obtain ⟨d, eg, q⟩ := RF.new (m1 := false) (d := mkD []) XGo.refl q R (fun z => by cases z)
    cases eg
    exact fun p hp => q (.dK []) p hp (.dK rfl .nil)⟩
/-- xs.remove(k), a list of ints -/
def goRemove (cs ds : List D) : Option (D × List D) := match ds with
  | [.int k] => (intsOf cs).bind fun ns => if k ∈ ns then some (.none, (ns.erase k).map .int) else none
  | _ => none
theorem m_remove : MutL X rRemI goRemove := by
  intro B H a us xs cs ds cs' res Q hb rc rx hg k
  unfold goRemove at hg
  split at hg
  · rename_i kk
    rw [Option.bind_eq_some_iff] at hg
    obtain ⟨ns, e0, hg⟩ := hg
    split at hg
    · rename_i hm
      cases hg
      obtain ⟨j, h1, h2, h3, h4⟩ := L2.first_at hm
      rw [intsOf_some e0] at rc
      have hus : us = ns.map V.int := rc.isInts
      subst hus
      cases rx with
      | cons r1 r2 =>
        cases r2
        cases r1
        refine ⟨a, ns, kk, j, rfl, rfl, hb, h2, h3, ?_⟩
        rw [h4]
        exact k _ .non (RepA.ints _) .non
    · cases hg
  · cases hg
end
end Vs

set_option Elab.async false
set_option linter.all false
set_option maxRecDepth 100000
set_option maxHeartbeats 4000000
namespace Vs
open PySem PySem.Spec PyProof.Rows L2
/-! ### sorted(d), its keys -/
section
variable {X : Cx} {T : Addr → Prop} {pins : List (Addr × Obj)} {σ : L2.St} {H : Hp} {s : Shared} {r : Bool}
theorem sort_tail (hu : X.A.units + 128 < cLine) {us : List V} {ds : List D} {its : List Value} {Q : VK} {s1 : Shared} (I : Inv X pins σ H s1) (rv : Vals us its) (hd : DpAll X.K H us ds) (ok : sortOk ds = true) (hz : us.length ≤ sizeLine)
    (q : ∀ (zs : List (D × V)) (p : Addr), zs = (ds.zip us).mergeSort (PySem.W.dataLe false Prod.fst) → H p = none → Q (.ref p) (upd H p (.lst (zs.map Prod.snd)))) :
    wpAny (model X.prog X.w) X.A.in1 (do let l ← newList its; let _ ← holding [l] (call (.builtin "list.sort") [l] []); ret l) (fun f s' => ∃ v, f = .done (.ret v) ∧ EP X pins σ Q v s') X.xe s1 := by
  unfold sortOk at ok
  simp only [Bool.and_eq_true, Bool.or_eq_true] at ok
  obtain ⟨⟨ok1, ok2⟩, ok3⟩ := ok
  obtain ⟨z1, z2⟩ := shaped_items ok3
  have hlen := dp_length hd
  have hl := rv.length
  have em : (ds.zip us).map Prod.fst = ds := List.map_fst_zip (by omega)
  obtain ⟨e1, e2⟩ := dp_each (K := X.K) I hd rv
  refine wpAny_bind (wpAny_newList ?_ (by omega))
  have hoL : (s1.heap.push (seqObj "list" its.toArray 0)).get? s1.heap.objs.size = some (seqObj "list" its.toArray 0) := Heap.get?_push_size _ rfl
  have er : PySem.W.EachIs (fun v (b : D × V) => ∃ as, Reads (PySem.W.sortingHeap (s1.heap.push (seqObj "list" its.toArray 0)) s1.heap.objs.size its) v (Prod.fst b) as) its (ds.zip us) :=
    e2.mono fun _ _ ⟨as, r⟩ => ⟨as, PyProof.Rows.Reads.keeps (fun b o z => PySem.W.sortingHeap_old (Nat.ne_of_lt (Heap.lt_size z)) (Heap.get?_push_of_some _ z)) r⟩
  have al : PySem.W.AllAlike ((ds.zip us).map Prod.fst) := by rw [em]; exact fun d hd d' hd' => alikes_all ok1 d hd d' hd'
  refine wpAny_bind (wpAny_holding (wpAny_call_entry PyProof.Rows.slot_list_sort ⟨_, hoL, rfl⟩ PyProof.Rows.entry_list_sort
    (PySem.W.list_sort_vals (κ := PySem.W.dataKind (PySem.W.sortingHeap (s1.heap.push (seqObj "list" its.toArray 0)) s1.heap.objs.size its) ((ds.zip us).map Prod.fst)) (s := { s1 with heap := s1.heap.push (seqObj "list" its.toArray 0) }) hoL
      (PySem.W.SortsAt.data (s := { s1 with heap := PySem.W.sortingHeap (s1.heap.push (seqObj "list" its.toArray 0)) s1.heap.objs.size its }) (PySem.W.each_map (R := fun v d => ∃ as, Reads (PySem.W.sortingHeap (s1.heap.push (seqObj "list" its.toArray 0)) s1.heap.objs.size its) v d as) Prod.fst er) al ?_ (PySem.W.bound_map fun b hb => ?_)) (by omega) ⟨_, rfl, ?_⟩)
    (PyProof.Rows.args_list_sort _)))
  · rw [em]
    rcases ok2 with o | o
    · refine .inl fun d hd => ?_
      have := List.all_eq_true.mp o d hd
      unfold isTup1 at this
      split at this
      · exact ⟨_, _, rfl⟩
      · cases this
    · refine .inr fun d hd => ?_
      have := List.all_eq_true.mp o d hd
      unfold noTN at this
      split at this
      · cases this
      · cases this
      · exact ⟨by intro z; simp_all, fun xs z => by simp_all⟩
  · have := z2 b.1 (List.of_mem_zip hb).1
    show X.A.units + 2 + b.1.depth < cLine
    omega
  · have eo := PySem.W.sortVals_data (enc := Prod.fst) (R := fun (v : Value) (b : D × V) => RelV b.2 v) false e1 er al
    obtain ⟨e', he'⟩ := PyProof.Rows.sortedHeap_at (vs := its) (out := (PySem.W.sortVals (PySem.W.dataKind (PySem.W.sortingHeap (s1.heap.push (seqObj "list" its.toArray 0)) s1.heap.objs.size its) ((ds.zip us).map Prod.fst)) false its its).toArray) hoL
    have rv' := each_vals eo
    have hzl : (((ds.zip us).mergeSort (PySem.W.dataLe false Prod.fst)).map Prod.snd).length ≤ sizeLine := by rw [List.length_map, List.length_mergeSort, List.length_zip]; omega
    refine wpAny_pure ⟨_, rfl, .ref s1.heap.objs.size, upd H s1.heap.objs.size (.lst (((ds.zip us).mergeSort (PySem.W.dataLe false Prod.fst)).map Prod.snd)), I.laid (t' := s1.toks) (fun b u e => ?_) (Nat.le_refl _) ⟨hzl, _, e', rv', he'⟩, rfl, q _ _ rfl (I.hok.fresh (Nat.le_refl _))⟩
    have hb : b < s1.heap.objs.size := Heap.lt_size e
    rw [PyProof.Rows.sortedHeap_old (Nat.ne_of_lt hb) (by rw [size_push']; exact Nat.lt_succ_of_lt hb)]
    exact Heap.get?_push_of_some _ e
def rSortKD (K : PySem.W.Frag) : List V → Hp → VK → Prop := fun xs H Q => ∃ (ds : List D), sortOk ds = true ∧ ((∃ (a : Addr) (kvs : List (Key × V)), xs = [.ref a] ∧ Rd H a (.dK kvs) ∧ DpAll K H (kvs.map fun kv => kV kv.1) ds ∧
    ∀ (zs : List (D × V)) (p : Addr), zs = (ds.zip (kvs.map fun kv => kV kv.1)).mergeSort (PySem.W.dataLe false Prod.fst) → H p = none → Q (.ref p) (upd H p (.lst (zs.map Prod.snd)))) ∨
  (∃ (a : Addr) (kvs : List (List Key × V)), xs = [.ref a] ∧ Rd H a (.dT kvs) ∧ ∀ bs, IsKeys H kvs bs → DpAll K H (bs.map V.ref) ds ∧
    ∀ (zs : List (D × V)) (p : Addr), zs = (ds.zip (bs.map V.ref)).mergeSort (PySem.W.dataLe false Prod.fst) → H p = none → Q (.ref p) (upd H p (.lst (zs.map Prod.snd)))))
theorem cr_sortKD (hc : X.calm = true) (hu : X.A.units + 128 < cLine) : CallR X (.builtin "sorted") (rSortKD X.K) := by
  intro pins s σ H xs us Q I r q
  obtain ⟨ds, ok, ⟨a, kvs, rfl, hd, hdp, q⟩ | ⟨a, kvs, rfl, hd, q⟩⟩ := q
  · obtain ⟨u, eu, rx⟩ := vals1 r
    subst eu
    cases rx
    obtain ⟨z, lo, vs, rel, dd⟩ := dk_rd I.hok hd
    obtain ⟨ep, hat⟩ := dd.dictAt
    have ek : (kvs.map fun kv => kV kv.1) = vs.map fun p => kV p.1 := by
      have e := congrArg (List.map kV) rel.keys
      rw [List.map_map, List.map_map] at e
      exact e
    refine Calls.call_function_entry PyProof.Rows.kind_sorted PyProof.Rows.plain_sorted PyProof.Rows.entry_sorted (PyProof.Rows.args_sorted1 _) ?_
    unfold Builtin.«sorted»
    refine wpAny_bind (m := checkCount "sorted" 1 1 _) (wpAny_pure ?_)
    refine wpAny_bind (PySem.W.kdu_collect (A := X.A.in1) (PySem.W.kdl_dict (knd := mixKind X.prog X.w) (kvs := vs) (ep := ep) lo) (I.ok.hd hc) hat (by rw [← rel.length]; exact z) fun h' tk acc hk hacc => ?_)
    have hv : Vals (vs.map fun p => kV p.1) acc.toList := keys_at (by rw [Array.length_toList]; exact hacc.1) fun j v e => hacc.2 j v (by rw [← Array.getElem?_toList]; exact e)
    rw [← ek] at hv
    exact sort_tail hu (I.kept (t' := tk) hk) hv hdp ok (by rw [List.length_map]; exact z) q
  · obtain ⟨u, rfl, rx⟩ := r.one
    cases rx
    obtain ⟨z, hs, ks, pr, o, es, ep, ho, hx, hdt, he, hn⟩ := (show ObjOk X.prog X.w H s.heap a (.dT kvs) from hd.ok I.hok)
    have l1 : es.size = ks.length := size_of_entries he
    have l2 : kvs.length = ks.length := Paired.length pr
    refine Calls.call_function_entry PyProof.Rows.kind_sorted PyProof.Rows.plain_sorted PyProof.Rows.entry_sorted (PyProof.Rows.args_sorted1 _) ?_
    unfold Builtin.«sorted»
    refine wpAny_bind (m := checkCount "sorted" 1 1 _) (wpAny_pure ?_)
    refine wpAny_bind (PySem.W.kdu_collect (A := X.A.in1) (kdl_raw hs hx hdt) (I.ok.hd hc) ho (by omega) fun h' tk acc' hk it => ?_)
    have ea : acc'.toList = ks.map fun x => Value.ref x.2.1 := by
      have hl : acc'.toList.length = ks.length := by rw [Array.length_toList, it.1]; exact l1
      apply List.ext_getElem?
      intro j
      rw [List.getElem?_map]
      cases hj : acc'.toList[j]? with
      | none =>
        have h1 := List.getElem?_eq_none_iff.mp hj
        rw [List.getElem?_eq_none (by omega)]
        all_goals rfl
      | some v =>
        obtain ⟨en, hen, hv⟩ := it.2 j v (by rw [← Array.getElem?_toList]; exact hj)
        have qe := entry_at he j
        rw [hen] at qe
        cases hb : ks[j]? with
        | none =>
          rw [hb] at qe
          exact nomatch (show some en = none from qe)
        | some b =>
          rw [hb] at qe
          have e2 : en = entryOfKey (tupleKind (mixKind X.prog X.w)) b := Option.some.inj qe
          rw [hv, e2]
          all_goals rfl
    have eb : acc'.toList = (ks.map fun x => x.2.1).map Value.ref := by rw [ea, List.map_map]; all_goals rfl
    have rv : Vals ((ks.map fun x => x.2.1).map V.ref) acc'.toList := by rw [eb]; exact vals_refs _
    have hz : ((ks.map fun x => x.2.1).map V.ref).length ≤ sizeLine := by rw [List.length_map, List.length_map]; omega
    obtain ⟨hdp, q⟩ := q _ (isKeys_of pr)
    exact sort_tail hu (I.kept (t' := tk) hk) rv hdp ok hz q
def sortKD : List D → Option D
  | [.dict kvs] => if sortOk (kvs.map (·.1)) = true then some (.list (sorts (kvs.map (·.1)))) else none
  | _ => none
theorem v_sortKD : CallF X T r (rSortKD X.K) sortKD := by
  intro F σ H st xs ds d Q R q e k
  unfold sortKD at e
  split at e
  · split at e
    · cases e
      rename_i kvs ok
      obtain ⟨v, rfl, q2⟩ := RepL.one q
      have ok' := ok
      unfold sortOk at ok'
      simp only [Bool.and_eq_true] at ok'
      have fin : ∀ {us : List V} (p1 : RepA X.K (Bd F σ st) H (kvs.map (·.1)) us), ∀ (zs : List (D × V)) (p : Addr), zs = ((kvs.map (·.1)).zip us).mergeSort (PySem.W.dataLe false Prod.fst) → H p = none → Q (.ref p) (upd H p (.lst (zs.map Prod.snd))) := by
        intro us p1 zs pp ez hp
        refine k _ pp hp ?_
        have hz : RepA X.K (Bd F σ st) H (zs.map Prod.fst) (zs.map Prod.snd) := repA_of fun z hz => repA_zip p1 z (by rw [ez] at hz; exact List.mem_mergeSort.mp hz)
        rw [ez, sort_fst p1.length.symm, ← ez] at hz
        exact .lst hz
      rcases dict_rd q2 with ⟨a, es, rfl, s, e1, q3⟩ | ⟨a, es, rfl, s, e1, q3⟩
      · have p1 : RepA X.K (Bd F σ st) H (kvs.map (·.1)) (es.map fun kv => kV kv.1) := by
          have := repA_keys (K := X.K) (B := Bd F σ st) (H := H) (es.map (·.1))
          rw [List.map_map, List.map_map] at this
          rw [e1]; exact this
        exact ⟨kvs.map (·.1), ok, .inl ⟨a, es, rfl, s, p1.dp (shaped_items ok'.2).1, fin p1⟩⟩
      · refine ⟨kvs.map (·.1), ok, .inr ⟨a, es, rfl, s, fun bs hk => ?_⟩⟩
        have p1 : RepA X.K (Bd F σ st) H (kvs.map (·.1)) (bs.map V.ref) := by rw [e1]; exact repA_isKeys hk
        exact ⟨p1.dp (shaped_items ok'.2).1, fin p1⟩
    · cases e
  · cases e
/-! ### sorted(t), t a tuple -/
def rSortTp (K : PySem.W.Frag) : List V → Hp → VK → Prop := fun vs H Q => ∃ (a : Addr) (us : List V) (ds : List D), vs = [.ref a] ∧ SqT K H a us ∧ DpAll K H us ds ∧ sortOk ds = true ∧
  ∀ (zs : List (D × V)) (p : Addr), zs = (ds.zip us).mergeSort (PySem.W.dataLe false Prod.fst) → H p = none → Q (.ref p) (upd H p (.lst (zs.map Prod.snd)))
theorem cr_sortTp (hu : X.A.units + 128 < cLine) : CallR X (.builtin "sorted") (rSortTp X.K) := by
  intro pins s σ H xs us Q I r q
  obtain ⟨a, us', ds, rfl, hs, hd, ok, q⟩ := q
  obtain ⟨u, eu, rx⟩ := vals1 r
  subst eu
  cases rx
  obtain ⟨its, rv, ht, hz⟩ := I.tuple hs
  obtain ⟨o, ho, hc, n, hdt⟩ := ht
  have hl := rv.length
  refine Calls.call_function_entry PyProof.Rows.kind_sorted PyProof.Rows.plain_sorted PyProof.Rows.entry_sorted (PyProof.Rows.args_sorted1 _) ?_
  unfold Builtin.«sorted»
  refine wpAny_bind (m := checkCount "sorted" 1 1 _) (wpAny_pure ?_)
  refine wpAny_bind (wpAny_collect_seq a (.inr rfl) ho hc hdt (fun h' hk => ?_) (by rw [List.size_toArray]; omega))
  have e : its.toArray.toList = its := by simp
  rw [e]
  exact sort_tail hu (I.kept (t' := s.toks) hk) rv hd ok hz q
def rSortX (K : PySem.W.Frag) : List V → Hp → VK → Prop := fun xs H Q => rSortA K xs H Q ∨ rSortTp K xs H Q
theorem cr_sortX (hu : X.A.units + 128 < cLine) : CallR X (.builtin "sorted") (rSortX X.K) := (cr_sortA hu).or (cr_sortTp hu)
def sortXD : List D → Option D
  | [.list ds] => sortedD [.list ds]
  | [.tuple ds] => sortedD [.list ds]
  | _ => none
theorem sortX_l (ds : List D) : sortXD [.list ds] = sortedD [.list ds] := Eq.trans rfl rfl
theorem sortX_t (ds : List D) : sortXD [.tuple ds] = sortedD [.list ds] := Eq.trans rfl rfl
theorem v_sortX : CallF X T r (rSortX X.K) sortXD := by
  intro F σ H st xs ds d Q R q e k
  unfold sortXD at e
  split at e
  · exact .inl (v_sorted F σ H st xs _ d Q R q e k)
  · rename_i ds0
    have e : (if sortOk ds0 = true then some (PyData.list (sorts ds0)) else none) = some d := e
    split at e
    · rename_i ok
      cases e
      obtain ⟨v, rfl, q2⟩ := RepL.one q
      obtain ⟨a, us, rfl, s1, p1⟩ := q2.isT
      have ok' := ok
      unfold sortOk at ok'
      simp only [Bool.and_eq_true] at ok'
      refine .inr ⟨a, us, ds0, rfl, .of s1, p1.dp (shaped_items ok'.2).1, ok, fun zs pp ez hp => k _ pp hp ?_⟩
      have hz : RepA X.K (Bd F σ st) H (zs.map Prod.fst) (zs.map Prod.snd) := repA_of fun z hz => repA_zip p1 z (by rw [ez] at hz; exact List.mem_mergeSort.mp hz)
      rw [ez, sort_fst p1.length.symm, ← ez] at hz
      exact .lst hz
    · cases e
  · cases e
/-! ### len(d) -/
def rLenKD : List V → Hp → VK → Prop := fun xs H Q => ∃ a : Addr, xs = [.ref a] ∧ ((∃ kvs : List (Key × V), Rd H a (.dK kvs) ∧ Q (.int (kvs.length : Nat)) H) ∨ ∃ kvs : List (List Key × V), Rd H a (.dT kvs) ∧ Q (.int (kvs.length : Nat)) H)
theorem cr_lenKD : CallR X (.builtin "len") rLenKD := by
  intro pins s σ H xs us Q I r h
  obtain ⟨a, rfl, ⟨kvs, hp, q⟩ | ⟨kvs, hp, q⟩⟩ := h
  · obtain ⟨u, rfl, rx⟩ := vals1 r
    obtain rfl : u = .ref a := rx
    exact d_len I hp fun t s' I' => ⟨.int kvs.length, H, I', ⟨t, rfl⟩, q⟩
  · obtain ⟨u, rfl, rx⟩ := vals1 r
    obtain rfl : u = .ref a := rx
    obtain ⟨z, hd, xs, rel, dd⟩ := dt_rd I.hok hp
    refine call_len_dictH hd dd (by rw [← Paired.length rel]; rw [sizeLine_eq] at z; omega) ?_
    rw [← Paired.length rel]
    exact ⟨.int kvs.length, H, I.tok _, ⟨_, rfl⟩, q⟩
def lenKD : List D → Option D
  | [.dict kvs] => some (.int kvs.length)
  | _ => none
theorem v_lenKD : CallV X T r rLenKD lenKD := by
  intro F σ H st xs ds d Q R q e k
  unfold lenKD at e
  split at e
  · cases e
    obtain ⟨v, rfl, q2⟩ := RepL.one q
    rcases dict_rd q2 with ⟨a, es, rfl, s, e1, q3⟩ | ⟨a, es, rfl, s, e1, q3⟩
    · have hl := congrArg List.length e1
      rw [List.length_map, List.length_map] at hl
      rw [hl] at k
      exact ⟨a, rfl, .inl ⟨es, s, k.flat R (.int _)⟩⟩
    · have hl := congrArg List.length e1
      rw [List.length_map, List.length_map] at hl
      rw [hl] at k
      exact ⟨a, rfl, .inr ⟨es, s, k.flat R (.int _)⟩⟩
  · cases e
theorem len_d (kvs : List (D × D)) : lenKD [.dict kvs] = some (.int kvs.length) := Eq.trans rfl rfl
/-! ### *e in a display -/
def aStar (fe : Ev) (fa : Ea) : Ea := fun st => (fe st).bind fun d st1 => match d with
  | .list ds => (fa st1).bind fun es st2 => .ok (ds ++ es) st2
  | .tuple ds => (fa st1).bind fun es st2 => .ok (ds ++ es) st2
  | _ => .bad
theorem repL_of {K : PySem.W.Frag} {B : Addr → Prop} : ∀ {ds : List D} {vs : List V}, RepA K B H ds vs → RepL r K B H ds vs
  | _, _, .nil => trivial
  | _, _, .cons a b => ⟨.inl a, repL_of b⟩
theorem repL_go {K : PySem.W.Frag} {F : Addr → Prop} {σ : St} {H' : Hp} {st st' : Sts} {m : Bool} : ∀ {ds : List D} {vs : List V}, RepA K (Bd F σ st) H ds vs → XGo m σ H H' st st' → RepA K (Bd F σ st') H' ds vs
  | _, _, .nil, _ => .nil
  | _, _, .cons a b, x => .cons (RepR.go (r := false) (.inl a) x (fun z => by cases z)).clean (repL_go b x)
theorem RepA.toA {K : PySem.W.Frag} {B : Addr → Prop} : ∀ {ds es : List D} {vs us : List V}, RepA K B H ds vs → RepA K B H es us → RepA K B H (ds ++ es) (vs ++ us)
  | _, _, _, _, .nil, q => q
  | _, _, _, _, .cons a b, q => .cons a (RepA.toA b q)
theorem VA.star {W : Wx} {m1 m2 : Bool} {e : Expr} {es : List Expr} {f : Ev} {g : Ea} {p : Pos} (ha : VE X T W m1 r e f) (hb : VA X T W m2 false es g) (hs : starEach (.Starred e p :: es) X.env = (true, eval e X.env) :: starEach es X.env := by rfl) :
    VA X T W (m1 || m2) false (.Starred e p :: es) (aStar f g) :=
  ⟨pa_weak (StX.pa_star ha.pe hb.pa hs) fun σ H Q ⟨F, st, R, q⟩ => by
    refine tG.first (m0 := m1) R q fun d1 st1 v1 H1 e1 R1 y1 q1 h1 => ?_
    split at h1
    · rename_i ds
      have h1 := h1.back' (m2 := m2) y1
      obtain ⟨a, us, rfl, s1, p1⟩ := q1.isL
      refine ⟨a, us, rfl, .inr (.inl s1), ?_⟩
      refine tG.first (m0 := m2) R1 h1 fun ds2 st2 vs H2 e2 R2 y2 q2 h2 => ?_
      have p2 : RepA X.K (Bd F σ st2) H2 ds us := (repL_go p1 y2)
      exact h2 _ H2 R2 y2 (repL_of (p2.toA q2.clean))
    · rename_i ds
      have h1 := h1.back' (m2 := m2) y1
      obtain ⟨a, us, rfl, s1, p1⟩ := q1.isT
      refine ⟨a, us, rfl, .inl (.of s1), ?_⟩
      refine tG.first (m0 := m2) R1 h1 fun ds2 st2 vs H2 e2 R2 y2 q2 h2 => ?_
      have p2 : RepA X.K (Bd F σ st2) H2 ds us := (repL_go p1 y2)
      exact h2 _ H2 R2 y2 (repL_of (p2.toA q2.clean))
    · exact h1.elim⟩
end
end Vs

set_option Elab.async false
set_option linter.all false
set_option maxRecDepth 100000
set_option maxHeartbeats 4000000
namespace Vs
open PySem PySem.Spec PyProof.Rows L2
open PySem.W (Datum DatumOrd Tup)
/-! ### more rules for mirrors -/
theorem pNo_s (st : Sts) : pNo st = .ok none st := Eq.trans rfl rfl
def pAtL (o : Option Int) (st : Sts) : Res (Option Int) := match o with
  | some i => .ok (some i) st
  | none => .bad
def pAtK (r : Res D) : Res (Option Int) := r.bind fun d st1 => pAtL (asI d) st1
theorem pAt_s (f : Ev) (st : Sts) : pAt f st = pAtK (f st) := by unfold pAt pAtK pAtL; rfl
theorem pAtK_ok (i : Int) (st : Sts) : pAtK (.ok (.int i) st) = .ok (some i) st := Eq.trans rfl rfl
def cutR (x : D) (l : Option Int) (r : Res (Option Int)) : Res D := r.bind fun h st3 => ofO (cutD x l h) st3
def cutM (fh : Eo) (x : D) (r : Res (Option Int)) : Res D := r.bind fun l st2 => cutR x l (fh st2)
def cutK (fl fh : Eo) (r : Res D) : Res D := r.bind fun x st1 => cutM fh x (fl st1)
theorem cut_s (fa : Ev) (fl fh : Eo) (st : Sts) : cut fa fl fh st = cutK fl fh (fa st) := Eq.trans rfl rfl
theorem cutK_ok (fl fh : Eo) (x : D) (st : Sts) : cutK fl fh (.ok x st) = cutM fh x (fl st) := Eq.trans rfl rfl
theorem cutM_ok (fh : Eo) (x : D) (l : Option Int) (st : Sts) : cutM fh x (.ok l st) = cutR x l (fh st) := Eq.trans rfl rfl
theorem cutR_ok (x : D) (l h : Option Int) (st : Sts) : cutR x l (.ok h st) = ofO (cutD x l h) st := Eq.trans rfl rfl
theorem cut_l (ds : List D) (l h : Option Int) : cutD (.list ds) l h = some (.list (cutL ds l h)) := Eq.trans rfl rfl
theorem cut_t (ds : List D) (l h : Option Int) : cutD (.tuple ds) l h = some (.tuple (cutL ds l h)) := Eq.trans rfl rfl
theorem six {n d : Nat} {i : Int} (h : 0 ≤ i) : HT.sIx n d (some i) = min i.toNat n := by
  show (if i < 0 then (i + n).toNat else min i.toNat n) = _
  rw [if_neg (by omega)]
theorem cut_to {α : Type} (xs : List α) {n : Int} (h : 0 ≤ n) : cutL xs none (some n) = xs.take n.toNat := by
  unfold cutL
  have e0 : HT.sIx xs.length 0 none = 0 := by unfold HT.sIx; rfl
  rw [e0, List.drop_zero, Nat.sub_zero, six h]
  by_cases q : n.toNat ≤ xs.length
  · rw [Nat.min_eq_left q]
  · rw [Nat.min_eq_right (by omega), List.take_of_length_le (by omega), List.take_of_length_le (by omega)]
theorem cut_from {α : Type} (xs : List α) {n : Int} (h : 0 ≤ n) : cutL xs (some n) none = xs.drop n.toNat := by
  unfold cutL
  have e0 : HT.sIx xs.length xs.length none = xs.length := by unfold HT.sIx; rfl
  rw [e0, six h]
  by_cases q : n.toNat ≤ xs.length
  · rw [Nat.min_eq_left q, List.take_of_length_le (by rw [List.length_drop]; omega)]
  · rw [Nat.min_eq_right (by omega), List.drop_of_length_le (Nat.le_refl _), List.drop_of_length_le (by omega)]; simp
section
variable {α : Type} [DecidableEq α] [Datum α] [LayD α]
theorem in_L (a : α) (xs : List α) (h1 : Datum.depth α ≤ 64 := by decide) (h2 : Datum.depth (List α) ≤ 64 := by decide) : inD (Datum.toD a) (.list (xs.map Datum.toD)) = some (decide (a ∈ xs)) := by
  show (if shp (Datum.toD a) = true ∧ shp (.list (xs.map Datum.toD)) = true then some (inL (Datum.toD a) (xs.map Datum.toD)) else none) = _
  rw [if_pos ⟨shp_toD a h1, shp_toD xs h2⟩]
  congr 1
  exact PySem.W.any_datum xs a
theorem in_T (a : α) (xs : List α) (h1 : Datum.depth α ≤ 64 := by decide) (h2 : Datum.depth (Tup α) ≤ 64 := by decide) : inD (Datum.toD a) (.tuple (xs.map Datum.toD)) = some (decide (a ∈ xs)) := by
  show (if shp (Datum.toD a) = true ∧ shp (.tuple (xs.map Datum.toD)) = true then some (inL (Datum.toD a) (xs.map Datum.toD)) else none) = _
  rw [if_pos ⟨shp_toD a h1, shp_toD (⟨xs⟩ : Tup α) h2⟩]
  congr 1
  exact PySem.W.any_datum xs a
end
theorem isIn_s (x y : D) : isIn x y = (inD x y).map .bool := Eq.trans rfl rfl
theorem notIn_s (x y : D) : notIn x y = (inD x y).map fun b => .bool (!b) := Eq.trans rfl rfl
/-- a tuple of ints -/
def tI (m : List Int) : D := .tuple (m.map .int)
theorem tI_t (m : List Int) : tI m = Datum.toD (⟨m⟩ : Tup Int) := Eq.trans rfl rfl
theorem in_iT (x : Int) (m : List Int) : inD (.int x) (.tuple (m.map .int)) = some (decide (x ∈ m)) := in_T x m
theorem in_iL (x : Int) (m : List Int) : inD (.int x) (.list (m.map .int)) = some (decide (x ∈ m)) := in_L x m
theorem tup_map (f : List (List Int)) : f.map tI = (f.map (Tup.mk (α := Int))).map Datum.toD := by rw [List.map_map]; rfl
theorem tup_mem (m : List Int) (f : List (List Int)) : (⟨m⟩ : Tup Int) ∈ f.map (Tup.mk (α := Int)) ↔ m ∈ f := by
  rw [List.mem_map]
  constructor
  · rintro ⟨k, h, e⟩
    cases e; exact h
  · exact fun h => ⟨m, h, rfl⟩
theorem in_tT (m : List Int) (f : List (List Int)) : inD (tI m) (.tuple (f.map tI)) = some (decide (m ∈ f)) := by
  rw [tup_map]
  refine (in_T (⟨m⟩ : Tup Int) (f.map Tup.mk)).trans ?_
  congr 1
  exact decide_eq_decide.mpr (tup_mem m f)
theorem in_tL (m : List Int) (f : List (List Int)) : inD (tI m) (.list (f.map tI)) = some (decide (m ∈ f)) := by
  rw [tup_map]
  refine (in_L (⟨m⟩ : Tup Int) (f.map Tup.mk)).trans ?_
  congr 1
  exact decide_eq_decide.mpr (tup_mem m f)
theorem tI_inj {a b : List Int} (h : tI a = tI b) : a = b := by
  unfold tI at h
  have h := PyData.tuple.inj h
  exact (List.map_inj_right (fun x y e => by cases e; rfl)).mp h
/-! star -/
def aStL (ds : List D) (r : Res (List D)) : Res (List D) := r.bind fun es st2 => .ok (ds ++ es) st2
def aStK (fa : Ea) (r : Res D) : Res (List D) := r.bind fun d st1 => match d with
  | .list ds => aStL ds (fa st1)
  | .tuple ds => aStL ds (fa st1)
  | _ => .bad
theorem aStar_s (fe : Ev) (fa : Ea) (st : Sts) : aStar fe fa st = aStK fa (fe st) := by unfold aStar aStK aStL; rfl
theorem aStK_l (fa : Ea) (ds : List D) (st : Sts) : aStK fa (.ok (.list ds) st) = aStL ds (fa st) := Eq.trans rfl rfl
theorem aStK_t (fa : Ea) (ds : List D) (st : Sts) : aStK fa (.ok (.tuple ds) st) = aStL ds (fa st) := Eq.trans rfl rfl
theorem aStL_ok (ds es : List D) (st : Sts) : aStL ds (.ok es st) = .ok (ds ++ es) st := Eq.trans rfl rfl
/-! += -/
def auxL (i : Nat) (st1 : Sts) (o : Option (List D)) (d : D) : Ou := match o, d with
  | some cs, .list ds => if cs.length + ds.length ≤ sizeLine then .nx (setO st1 i (.list (cs ++ ds))) else .bad
  | _, _ => .bad
def auxK (i : Nat) (r : Res D) : Ou := bindS r fun d st1 => auxL i st1 (getL st1 i) d
theorem sAugX_s {i : Nat} {fe : Ev} {st : Sts} (h : (getL st i).isSome = true) : sAugX i fe st = auxK i (fe st) := if_pos h
theorem auxK_ok (i : Nat) (d : D) (st : Sts) : auxK i (.ok d st) = auxL i st (getL st i) d := Eq.trans rfl rfl
theorem auxL_ok {i : Nat} {st : Sts} {cs ds : List D} (h : cs.length + ds.length ≤ sizeLine) : auxL i st (some cs) (.list ds) = .nx (setO st i (.list (cs ++ ds))) := if_pos h
/-! enumerate -/
def iEnK (r : Res (List D)) : Res (List D) := r.bind fun ds st1 => ofO (enumD ds) st1
theorem iEnm_s (fa : Ea) (st : Sts) : iEnm fa st = iEnK (fa st) := Eq.trans rfl rfl
theorem iEnK_ok (ds : List D) (st : Sts) : iEnK (.ok ds st) = ofO (enumD ds) st := Eq.trans rfl rfl
theorem enum_l (ds : List D) : enumD [.list ds] = some (enumL ds 0) := Eq.trans rfl rfl
theorem enum_t (ds : List D) : enumD [.tuple ds] = some (enumL ds 0) := Eq.trans rfl rfl
/-! dicts -/
theorem mkD_s : mkD [] = some (.dict []) := Eq.trans rfl rfl
def dctK (o : Option D) : Option (List (D × D)) := match o with
  | some (.dict kvs) => some kvs
  | _ => none
theorem getDc_s (st : Sts) (i : Nat) : getDc st i = dctK (getO st i) := Eq.trans rfl rfl
theorem dctK_ok (kvs : List (D × D)) : dctK (some (.dict kvs)) = some kvs := Eq.trans rfl rfl
def putN (i : Nat) (st2 : Sts) (o : Option (List (D × D))) : Ou := match o with
  | some kvs' => .nx (setO st2 i (.dict kvs'))
  | none => .bad
def putM (i : Nat) (k v : D) (st2 : Sts) (o : Option (List (D × D))) : Ou := match o with
  | some kvs => putN i st2 (putD kvs k v)
  | none => .bad
def putL (i : Nat) (v : D) (r : Res D) : Ou := bindS r fun k st2 => putM i k v st2 (getDc st2 i)
def putJ (i : Nat) (fk : Ev) (v : D) (st1 : Sts) : Ou := if (getDc st1 i).isSome = true then putL i v (fk st1) else .bad
def putK (i : Nat) (fk : Ev) (r : Res D) : Ou := bindS r fun v st1 => putJ i fk v st1
theorem sPut_s (i : Nat) (fk fv : Ev) (st : Sts) : sPut i fk fv st = putK i fk (fv st) := by
  unfold sPut putK putJ putL putM putN
  rfl
theorem putK_ok (i : Nat) (fk : Ev) (v : D) (st : Sts) : putK i fk (.ok v st) = putJ i fk v st := Eq.trans rfl rfl
theorem putJ_s {i : Nat} {fk : Ev} {v : D} {st1 : Sts} (h : (getDc st1 i).isSome = true) : putJ i fk v st1 = putL i v (fk st1) := if_pos h
theorem putL_ok (i : Nat) (v k : D) (st : Sts) : putL i v (.ok k st) = putM i k v st (getDc st i) := Eq.trans rfl rfl
theorem putM_ok (i : Nat) (k v : D) (st : Sts) (kvs : List (D × D)) : putM i k v st (some kvs) = putN i st (putD kvs k v) := Eq.trans rfl rfl
theorem putN_ok (i : Nat) (st : Sts) (kvs : List (D × D)) : putN i st (some kvs) = .nx (setO st i (.dict kvs)) := Eq.trans rfl rfl
/-- a dict as a set of ints -/
def sI (v : D) (ks : List Int) : List (D × D) := ks.map fun k => (.int k, v)
def ins {α : Type} [DecidableEq α] (ks : List α) (k : α) : List α := if k ∈ ks then ks else ks ++ [k]
theorem keyed_map {κ γ : Type} {f : D → Option κ} {g : γ → D} {e : γ → κ} (hf : ∀ k, f (g k) = some (e k)) (v : D) : ∀ ks : List γ, keyedBy f (ks.map fun k => (g k, v)) = some (ks.map fun k => (e k, v))
  | [] => rfl
  | k :: ks => by
    rw [List.map_cons, keyedBy, hf, keyed_map hf v ks]; rfl
theorem putG_set {κ γ : Type} [DecidableEq κ] [DecidableEq γ] {e : γ → κ} (he : ∀ a b, e a = e b → a = b) (v : D) (ks : List γ) (k : γ) : putG (ks.map fun k => (e k, v)) (e k) v = (ins ks k).map fun k => (e k, v) := by
  unfold putG ins
  by_cases h : k ∈ ks
  · rw [if_pos h, if_pos (List.any_eq_true.mpr ⟨(e k, v), List.mem_map.mpr ⟨k, h, rfl⟩, by simp⟩), List.map_map]
    refine List.map_congr_left fun a _ => ?_
    dsimp only [Function.comp]
    split <;> rfl
  · rw [if_neg h, if_neg, List.map_append]
    · rfl
    · intro q
      obtain ⟨p, hp, hq⟩ := List.any_eq_true.mp q
      obtain ⟨a, ha, rfl⟩ := List.mem_map.mp hp
      have := he _ _ (of_decide_eq_true hq)
      subst this
      exact h ha
theorem put_i (v : D) (ks : List Int) (k : Int) (h : ks.length < sizeLine) : putD (sI v ks) (.int k) v = some (sI v (ins ks k)) := by
  unfold putD sI
  rw [if_pos (by rw [List.length_map]; exact h)]
  show (Option.map _ (keyedBy keyOf (ks.map fun k => (PyData.int k, v)))) = _
  rw [keyed_map (e := fun k : Int => (Sum.inl k : Key)) (g := fun k => PyData.int k) (fun _ => rfl) v ks, Option.map_some]
  congr 1
  have := putG_set (e := fun k : Int => (Sum.inl k : Key)) (fun a b h => by cases h; rfl) v ks k
  show List.map _ (putG _ ((fun k : Int => (Sum.inl k : Key)) k) v) = _
  rw [this, List.map_map]; rfl
def sT (v : D) (ks : List (List Int)) : List (D × D) := ks.map fun k => (tI k, v)
theorem keysOf_i (m : List Int) : keysOf (m.map .int) = some (m.map (Sum.inl : Int → Key)) := by
  induction m with
  | nil => rfl
  | cons x m ih => rw [List.map_cons, keysOf, ih]; rfl
theorem put_t (v : D) (ks : List (List Int)) (k : List Int) (h : ks.length < sizeLine) : putD (sT v ks) (tI k) v = some (sT v (ins ks k)) := by
  unfold putD sT
  rw [if_pos (by rw [List.length_map]; exact h)]
  have ek : keyTOf (tI k) = some (k.map (Sum.inl : Int → Key)) := keysOf_i k
  show (match keyTOf (tI k) with | some k' => _ | none => _) = _
  rw [ek]
  show (Option.map _ (keyedBy keyTOf (ks.map fun k => (tI k, v)))) = _
  rw [keyed_map (e := fun k : List Int => k.map (Sum.inl : Int → Key)) (g := tI) (fun m => keysOf_i m) v ks, Option.map_some]
  congr 1
  have := putG_set (e := fun k : List Int => k.map (Sum.inl : Int → Key)) (fun a b h => (List.map_inj_right (fun x y e => by cases e; rfl)).mp h) v ks k
  show List.map _ (putG _ ((fun k : List Int => k.map (Sum.inl : Int → Key)) k) v) = _
  rw [this, List.map_map]
  refine List.map_congr_left fun a _ => ?_
  show (keyT (a.map Sum.inl), v) = _
  unfold keyT tI
  rw [List.map_map]; rfl
theorem sT_keys (v : D) (ks : List (List Int)) : (sT v ks).map (·.1) = ks.map tI := by unfold sT; rw [List.map_map]; rfl
theorem sI_keys (v : D) (ks : List Int) : (sI v ks).map (·.1) = ks.map .int := by unfold sI; rw [List.map_map]; rfl
/-! sorted -/
def sortI (m : List Int) : List Int := sortT m
theorem sortI_ev (m : List Int) : sortedD [.list (m.map .int)] = some (.list ((sortI m).map .int)) := sorted_T m (.inr fun _ => rfl)
theorem sortI_perm (m : List Int) : (sortI m).Perm m := sortT_perm m
theorem sortI_pw (m : List Int) : (sortI m).Pairwise (· ≤ ·) := (sortT_pw m).imp fun {a b} h => by
  have h : decide (b < a) = false := h
  simpa using h
theorem sortI_eq {a b : List Int} (hb : b.Pairwise (· ≤ ·)) (h : a.Perm b) : sortI a = b := List.Perm.eq_of_pairwise (le := (· ≤ ·)) (fun x y _ _ h1 h2 => by omega) (sortI_pw a) hb ((sortI_perm a).trans h)
/-- lists of tuples of ints in order -/
def sortJ (f : List (List Int)) : List (List Int) := (sortT (f.map (Tup.mk (α := Int)))).map Tup.items
theorem sortJ_map (f : List (List Int)) : (sortJ f).map tI = sorts (f.map tI) := by
  unfold sortJ
  rw [List.map_map, tup_map, sorts_map]
  rfl
theorem sortJ_ok {f : List (List Int)} (h : ∀ m ∈ f, m ≠ []) : sortOk (f.map tI) = true := by
  rw [tup_map]
  unfold sortOk
  rw [Bool.and_eq_true, Bool.and_eq_true, Bool.or_eq_true]
  refine ⟨⟨?_, .inl ?_⟩, shp_toD (f.map (Tup.mk (α := Int))) (by decide)⟩
  · unfold alikes
    rw [List.all_eq_true]
    intro d hd
    rw [List.all_eq_true]
    intro e he
    obtain ⟨a, _, rfl⟩ := List.mem_map.mp hd
    obtain ⟨b, _, rfl⟩ := List.mem_map.mp he
    exact DatumOrd.alike a b
  · rw [List.all_eq_true]
    intro d hd
    rw [← tup_map] at hd
    obtain ⟨m, hm, rfl⟩ := List.mem_map.mp hd
    cases m with
    | nil => exact (h _ hm rfl).elim
    | cons x m => rfl
theorem sortJ_ev {f : List (List Int)} (h : ∀ m ∈ f, m ≠ []) : sortedD [.list (f.map tI)] = some (.list ((sortJ f).map tI)) := by
  show (if sortOk (f.map tI) = true then some (PyData.list (sorts (f.map tI))) else none) = _
  rw [if_pos (sortJ_ok h), sortJ_map]
theorem sortKD_ev (v : D) {f : List (List Int)} (h : ∀ m ∈ f, m ≠ []) : sortKD [.dict (sT v f)] = some (.list ((sortJ f).map tI)) := by
  show (if sortOk ((sT v f).map (·.1)) = true then some (PyData.list (sorts ((sT v f).map (·.1)))) else none) = _
  rw [sT_keys, if_pos (sortJ_ok h), sortJ_map]
theorem sortJ_perm (f : List (List Int)) : (sortJ f).Perm f := by
  have := (sortT_perm (f.map (Tup.mk (α := Int)))).map Tup.items
  rw [List.map_map] at this
  refine this.trans (List.Perm.of_eq ?_)
  show f.map (fun m => m) = f
  simp
theorem listLt_anti : ∀ {a b : List Int}, PySem.W.listLt a b = false → PySem.W.listLt b a = false → a = b
  | [], [], _, _ => rfl
  | [], _ :: _, h, _ => by simp [PySem.W.listLt] at h
  | _ :: _, [], _, h => by simp [PySem.W.listLt] at h
  | x :: a, y :: b, h1, h2 => by
    unfold PySem.W.listLt at h1 h2
    by_cases e : x = y
    · subst e
      rw [if_pos rfl] at h1 h2
      rw [listLt_anti h1 h2]
    · rw [if_neg e] at h1
      rw [if_neg (Ne.symm e)] at h2
      have h1 : decide (x < y) = false := h1
      have h2 : decide (y < x) = false := h2
      rw [decide_eq_false_iff_not] at h1 h2
      omega
theorem sortJ_eq {a b : List (List Int)} (h : a.Perm b) : sortJ a = sortJ b := by
  unfold sortJ
  congr 1
  refine List.Perm.eq_of_pairwise (le := fun x y : Tup Int => DatumOrd.lt y x = false) (fun x y _ _ h1 h2 => ?_) (sortT_pw _) (sortT_pw _) (((sortT_perm _).trans (h.map _)).trans (sortT_perm _).symm)
  have h1 : PySem.W.listLt y.items x.items = false := h1
  have h2 : PySem.W.listLt x.items y.items = false := h2
  have := listLt_anti h2 h1
  cases x; cases y
  simp only at this
  rw [this]
theorem remove_ev {ns : List Int} {k : Int} (h : k ∈ ns) : goRemove (ns.map .int) [.int k] = some (.none, (ns.erase k).map .int) := by
  show ((intsOf (ns.map .int)).bind fun ns => if k ∈ ns then some (PyData.none, (ns.erase k).map PyData.int) else none) = _
  rw [intsOf_map, Option.bind_some, if_pos h]
theorem isN_n : isD .none .none = some (.bool true) := Eq.trans rfl rfl
theorem isN_t (l : List D) : isD (.tuple l) .none = some (.bool false) := Eq.trans rfl rfl
theorem notN_n : isNotD .none .none = some (.bool false) := Eq.trans rfl rfl
theorem notN_t (l : List D) : isNotD (.tuple l) .none = some (.bool true) := Eq.trans rfl rfl
theorem isB_b (a b : Bool) : isD (.bool a) (.bool b) = some (.bool (decide (a = b))) := Eq.trans rfl rfl
theorem notB_b (a b : Bool) : isNotD (.bool a) (.bool b) = some (.bool (!decide (a = b))) := Eq.trans rfl rfl
theorem abs_i (i : Int) : absD [.int i] = some (.int (if i < 0 then -i else i)) := Eq.trans rfl rfl
theorem eq_T (a b : List Int) : eqD (.tuple (a.map .int)) (.tuple (b.map .int)) = some (.bool (decide (a = b))) := by
  refine (eqD_toD (⟨a⟩ : Tup Int) ⟨b⟩).trans ?_
  congr 2
  exact decide_eq_decide.mpr ⟨fun h => by cases h; rfl, fun h => by rw [h]⟩
theorem ne_T (a b : List Int) : neD (.tuple (a.map .int)) (.tuple (b.map .int)) = some (.bool (!decide (a = b))) := by
  refine (neD_toD (⟨a⟩ : Tup Int) ⟨b⟩).trans ?_
  congr 3
  exact decide_eq_decide.mpr ⟨fun h => by cases h; rfl, fun h => by rw [h]⟩
end Vs

set_option Elab.async false
set_option linter.all false
set_option maxRecDepth 100000
set_option maxHeartbeats 4000000
namespace Vs
open PySem PySem.Spec PyProof.Rows L2
/-! ### reading a dict -/
section
variable {X : Cx} {pins : List (Addr × Obj)} {σ : L2.St} {H : Hp} {s : Shared} {a : Addr} {y d : V} {u r : Value} {o : Option V} {A : Around} {E : Value → Shared → Prop}
/-- an empty dict is read at keys of either kind -/
theorem emptyT (I : Inv X pins σ H s) (e : Rd H a (.dK [])) : (a == sysModules) = false ∧ s.heap.DictOfH (tupleKind (mixKind X.prog X.w)) a [] := by
  obtain ⟨z, hd, vs, rel, o, es, ep, h1, h2, h3, h4, h5, h6⟩ := dk_rd I.hok e
  cases rel
  have he : es.toList = [] := by
    generalize es.toList = l at h5
    cases h5; rfl
  exact ⟨hd, o, es, ep, h1, h2, h3, by rw [he]; rfl, fun x hx => (by cases hx), List.nodup_nil⟩
theorem emptyK (I : Inv X pins σ H s) (e : Rd H a (.dT [])) : (a == sysModules) = false ∧ s.heap.DictOf (mixKind X.prog X.w) a [] := by
  obtain ⟨z, hd, xs, rel, o, es, ep, h1, h2, h3, h4, _, h5⟩ := dt_rd I.hok e
  cases rel
  have he : es = #[] := by
    have : es.toList = [] := h4
    exact Array.toList_eq_nil_iff.mp this
  subst he
  exact ⟨hd, o, #[], ep, h1, h2, h3, (fun i hi => by simp at hi), .nil, List.nodup_nil⟩
def DGet' (H : Hp) (a : Addr) (y : V) (o : Option V) : Prop := DGet H a y o ∨ (o = none ∧ Rd H a (.dK []) ∧ ∃ (b : Addr) (k : List Key), y = .ref b ∧ H b = some (.tup (k.map kV))) ∨ (o = none ∧ Rd H a (.dT []) ∧ ∃ k : Key, y = kV k)
theorem d_in' {Q : Value → Shared → Prop} (hu : A.units + 1 < cLine) (I : Inv X pins σ H s) (g : DGet' H a y o) (ry : RelV y u) (h : ∀ s', Inv X pins σ H s' → Q (.bool o.isSome) s') :
    wpAny (model X.prog X.w) A (compareOp .In u (.ref a)) Q E s := by
  rcases g with g | ⟨rfl, e, b, k, rfl, eb⟩ | ⟨rfl, e, k, rfl⟩
  · exact d_in hu I g ry h
  · cases (show u = Value.ref b from ry)
    obtain ⟨hd, dd⟩ := emptyT I e
    exact wpAny_in_heap (tupleKind_room_in1 hu) (key_of I.hok eb) hd dd (h _ (I.tok _))
  · obtain ⟨hd, dd⟩ := emptyK I e
    exact wpAny_in_of (kV_is ry) hd dd.mapOf (h _ (I.tok _))
theorem d_notIn' {Q : Value → Shared → Prop} (hu : A.units + 1 < cLine) (I : Inv X pins σ H s) (g : DGet' H a y o) (ry : RelV y u) (h : ∀ s', Inv X pins σ H s' → Q (.bool (!o.isSome)) s') :
    wpAny (model X.prog X.w) A (compareOp .NotIn u (.ref a)) Q E s := by
  rcases g with g | ⟨rfl, e, b, k, rfl, eb⟩ | ⟨rfl, e, k, rfl⟩
  · exact d_notIn hu I g ry h
  · cases (show u = Value.ref b from ry)
    obtain ⟨hd, dd⟩ := emptyT I e
    exact wpAny_notIn_heap (tupleKind_room_in1 hu) (key_of I.hok eb) hd dd (h _ (I.tok _))
  · obtain ⟨hd, dd⟩ := emptyK I e
    exact wpAny_notIn_of (kV_is ry) hd dd.mapOf (h _ (I.tok _))
theorem d_get2' {Q : Value → Shared → Prop} (hu : A.units + 1 < cLine) (I : Inv X pins σ H s) (g : DGet' H a y o) (ry : RelV y u) (rd : RelV d r) (h : ∀ w' s', Inv X pins σ H s' → RelV (o.getD d) w' → Q w' s') :
    wpAny (model X.prog X.w) A (call (.builtin "dict.get") [.ref a, u, r]) Q E s := by
  rcases g with g | ⟨rfl, e, b, k, rfl, eb⟩ | ⟨rfl, e, k, rfl⟩
  · exact d_get2 hu I g ry rd h
  · cases (show u = Value.ref b from ry)
    obtain ⟨hd, dd⟩ := emptyT I e
    refine call_meetsIn PySem.F.slot_dict_get dd.typeIs PySem.F.entry_dict_get (PySem.F.args_dict_get_3 _ _ _) (meetsH_dict_get_default (tupleKind (mixKind X.prog X.w)) a b hd r) ⟨tupleKind_room_in1 hu, k, [], key_of I.hok eb, dd, h _ _ (I.tok _) ?_⟩
    exact rd
  · obtain ⟨hd, dd⟩ := emptyK I e
    refine call_meetsIn PySem.F.slot_dict_get dd.typeIs PySem.F.entry_dict_get (PySem.F.args_dict_get_3 _ _ _) (meets_dict_get_default (mixKind X.prog X.w) a (kV_is ry) hd r) ⟨_, dd.mapOf, h _ _ (I.tok _) ?_⟩
    exact rd
def tDGet2' (td ty tx : TE) : TE := fun σ H Q => td σ H fun x H1 => ∃ a, x = .ref a ∧ IsD H1 a ∧ ty σ H1 fun y H2 => tx σ H2 fun z H3 => ∃ o, DGet' H3 a y o ∧ Q (o.getD z) H3
theorem pe_dget2' {o e f : Expr} {apos cpos : Pos} {td ty tx : TE} (hu : X.A.units + 1 < cLine) (ho : PE X o td) (he : PE X e ty) (hf : PE X f tx) (m : M2 X o "get" apos e f cpos) : PE X (.Call (.Attribute o "get" apos) [e, f] [] cpos) (tDGet2' td ty tx) := by
  refine ⟨fun pins s σ H Q I h => ?_⟩
  refine wpAny_Call_method m.base m.few m.line PySem.F.plainAttrs_dict PySem.F.slot_dict_get PySem.F.type_dict_get (thn (ho.run pins s σ H _ I h) fun u s1 ⟨x, H1, I1, rx, a, ex, d, q1⟩ => ?_)
  subst ex
  obtain rfl : u = Value.ref a := rx
  obtain ⟨t1, t2, _⟩ := isD_at I1 d
  refine ⟨t1, t2, ?_⟩
  rw [m.trees]
  refine Calls.callWith_builtin rfl (Calls.evalArgs_plain (Calls.spliced_cons (thn (he.run pins s1 σ H1 _ I1 q1) fun iv s2 ⟨y, H2, I2, ry, q2⟩ =>
    Calls.spliced_cons (thn (hf.run pins s2 σ H2 _ I2 q2) fun fv s3 ⟨z, H3, I3, rz, ov, g, q3⟩ => Calls.spliced_nil ?_))))
  exact d_get2' hu I3 g ry rz fun w' s4 I4 rw' => ⟨_, H3, I4, rw', q3⟩
end
/-! ### the mirrors -/
def fnd {κ : Type} [DecidableEq κ] (ps : List (κ × D)) (k : κ) : Option D := (ps.find? fun p => decide (p.1 = k)).map (·.2)
def getKD (kvs : List (D × D)) (k : D) : Option (Option D) := match keyOf k with
  | some k' => (keyedBy keyOf kvs).map fun ps => fnd ps k'
  | none => match keyTOf k with
    | some k' => (keyedBy keyTOf kvs).map fun ps => fnd ps k'
    | none => none
section
variable {K : PySem.W.Frag} {B : Addr → Prop} {H : Hp} {r : Bool}
theorem pr_fnd {κ : Type} [DecidableEq κ] {ps : List (κ × D)} {es : List (κ × V)} (h : PR K B H ps es) (k : κ) : (fnd ps k = none ∧ valV es k = none) ∨ ∃ d v, fnd ps k = some d ∧ valV es k = some v ∧ Rep K B H d v := by
  induction h with
  | nil => exact .inl ⟨rfl, rfl⟩
  | @cons p q ps' es' h t ih =>
    by_cases e : p.1 = k
    · refine .inr ⟨p.2, q.2, ?_, ?_, h.2⟩
      · unfold fnd; rw [List.find?_cons, decide_eq_true e]; rfl
      · exact valV_pos (h.1.symm.trans e)
    · have f1 : fnd (p :: ps') k = fnd ps' k := by unfold fnd; rw [List.find?_cons, decide_eq_false e]
      rw [f1, valV_neg (fun z => e (h.1.trans z))]
      exact ih
/-- what stands at a key -/
theorem rd_get {kvs : List (D × D)} {k : D} {v y : V} {od : Option D} (h : RepR r K B H (.dict kvs) v) (rk : Rep K B H k y) (g : getKD kvs k = some od) :
    ∃ a o, v = .ref a ∧ IsD H a ∧ DGet' H a y o ∧ ((od = none ∧ o = none) ∨ ∃ d w, od = some d ∧ o = some w ∧ DGet H a y (some w) ∧ Rep K B H d w) := by
  unfold getKD at g
  split at g
  · rename_i k' hk
    simp only [Option.map_eq_some_iff] at g
    obtain ⟨ps, hp, rfl⟩ := g
    have hy : y = kV k' := by
      rw [keyOf_some hk] at rk
      cases k' with
      | inl i => cases rk; rfl
      | inr z => cases rk; rfl
    subst hy
    rcases dict_rd h with ⟨a, es, rfl, s, e, q⟩ | ⟨a, es, rfl, s, e, q⟩
    · obtain ⟨ps', e1, rr⟩ := keyed_pr (f := keyOf) (g := keyD) keyOf_D e q
      rw [hp] at e1; cases e1
      have dg : DGet H a (kV k') (valV es k') := .inl ⟨es, k', s, rfl, rfl⟩
      refine ⟨a, _, rfl, .inl ⟨es, s⟩, .inl dg, ?_⟩
      rcases pr_fnd rr k' with ⟨f1, f2⟩ | ⟨d, w, f1, f2, f3⟩
      · exact .inl ⟨f1, f2⟩
      · exact .inr ⟨d, w, f1, f2, by rw [← f2]; exact dg, f3⟩
    · obtain ⟨rfl, rfl⟩ := keyed_bad (f := keyOf) (g := keyT) keyOf_T e hp
      cases hp
      exact ⟨a, none, rfl, .inr ⟨[], s⟩, .inr (.inr ⟨rfl, s, k', rfl⟩), .inl ⟨rfl, rfl⟩⟩
  · split at g
    · rename_i k' hk
      simp only [Option.map_eq_some_iff] at g
      obtain ⟨ps, hp, rfl⟩ := g
      rw [keyTOf_some hk] at rk
      unfold keyT at rk
      obtain ⟨kb, ek, sk⟩ : ∃ kb, y = .ref kb ∧ H kb = some (.tup (k'.map kV)) := by
        cases rk with
        | @tup kb xs _ sk qk =>
          have := repA_keys_inv qk
          subst this
          exact ⟨kb, rfl, sk⟩
      subst ek
      rcases dict_rd h with ⟨a, es, rfl, s, e, q⟩ | ⟨a, es, rfl, s, e, q⟩
      · obtain ⟨rfl, rfl⟩ := keyed_bad (f := keyTOf) (g := keyD) keyTOf_D e hp
        cases hp
        exact ⟨a, none, rfl, .inl ⟨[], s⟩, .inr (.inl ⟨rfl, s, kb, k', rfl, sk⟩), .inl ⟨rfl, rfl⟩⟩
      · obtain ⟨ps', e1, rr⟩ := keyed_pr (f := keyTOf) (g := keyT) keyTOf_T e q
        rw [hp] at e1; cases e1
        have dg : DGet H a (.ref kb) (valV es k') := .inr ⟨es, k', kb, s, rfl, sk, rfl⟩
        refine ⟨a, _, rfl, .inr ⟨es, s⟩, .inl dg, ?_⟩
        rcases pr_fnd rr k' with ⟨f1, f2⟩ | ⟨d, w, f1, f2, f3⟩
        · exact .inl ⟨f1, f2⟩
        · exact .inr ⟨d, w, f1, f2, by rw [← f2]; exact dg, f3⟩
    · cases g
end
section
variable {X : Cx} {T F : Addr → Prop} {W : Wx} {m m1 m2 m3 r r1 : Bool}
/-- k in d -/
def inKD (k d : D) : Option D := match d with
  | .dict kvs => (getKD kvs k).map fun o => .bool o.isSome
  | _ => none
def notInKD (k d : D) : Option D := match d with
  | .dict kvs => (getKD kvs k).map fun o => .bool (!o.isSome)
  | _ => none
theorem op_inKD (hu : X.A.units + 1 < cLine) : OpR X (compareOp .In) (fun x y H Q => ∃ a o, y = .ref a ∧ DGet' H a x o ∧ Q (.bl o.isSome) H) := by
  intro pins s σ H x y v u Q I rx ry h
  obtain ⟨a, o, rfl, g, q⟩ := h
  obtain rfl : u = Value.ref a := ry
  exact d_in' hu I g rx fun s' I' => ⟨.bl o.isSome, H, I', rfl, q⟩
theorem op_notInKD (hu : X.A.units + 1 < cLine) : OpR X (compareOp .NotIn) (fun x y H Q => ∃ a o, y = .ref a ∧ DGet' H a x o ∧ Q (.bl (!o.isSome)) H) := by
  intro pins s σ H x y v u Q I rx ry h
  obtain ⟨a, o, rfl, g, q⟩ := h
  obtain rfl : u = Value.ref a := ry
  exact d_notIn' hu I g rx fun s' I' => ⟨.bl (!o.isSome), H, I', rfl, q⟩
theorem v_inKD : OpV X T false r (fun x y H Q => ∃ a o, y = .ref a ∧ DGet' H a x o ∧ Q (.bl o.isSome) H) inKD := by
  intro F σ H st x y dx dy d Q R q1 q2 e k
  unfold inKD at e
  split at e
  · rw [Option.map_eq_some_iff] at e
    obtain ⟨od, g, rfl⟩ := e
    obtain ⟨a, o, rfl, _, dg, fin⟩ := rd_get q2 q1.clean g
    refine ⟨a, o, rfl, dg, ?_⟩
    rcases fin with ⟨rfl, rfl⟩ | ⟨d, w, rfl, rfl, _⟩
    · exact k.flat R (.bl _)
    · exact k.flat R (.bl _)
  · cases e
theorem v_notInKD : OpV X T false r (fun x y H Q => ∃ a o, y = .ref a ∧ DGet' H a x o ∧ Q (.bl (!o.isSome)) H) notInKD := by
  intro F σ H st x y dx dy d Q R q1 q2 e k
  unfold notInKD at e
  split at e
  · rw [Option.map_eq_some_iff] at e
    obtain ⟨od, g, rfl⟩ := e
    obtain ⟨a, o, rfl, _, dg, fin⟩ := rd_get q2 q1.clean g
    refine ⟨a, o, rfl, dg, ?_⟩
    rcases fin with ⟨rfl, rfl⟩ | ⟨d, w, rfl, rfl, _⟩
    · exact k.flat R (.bl _)
    · exact k.flat R (.bl _)
  · cases e
/-- d[k] -/
def atKD (d k : D) : Option D := match d with
  | .dict kvs => (getKD kvs k).bind id
  | _ => none
theorem VE.dget {o i : Expr} {fo fi : Ev} {pos : Pos} (hu : X.A.units + 1 < cLine) (ho : VE X T W m1 r o fo) (hi : VE X T W m2 false i fi) (hs : NoSl i := by exact fun _ _ => rfl) (hr : r = true → m2 = false := by first | (intro h; cases h; done) | (intro _; rfl)) :
    VE X T W (m1 || m2) r1 (.Subscript o i pos) (bin atKD fo fi) :=
  ⟨pe_weak (pe_dget hu ho.pe hi.pe hs) fun σ H Q ⟨F, st, R, q⟩ => by
    refine tG.first R q fun d1 st1 v1 H1 e1 R1 y1 q1 h1 => ?_
    refine tG.first R1 (h1.back' (m2 := m2) y1) fun d2 st2 v2 H2 e2 R2 y2 q2 h2 => ?_
    obtain ⟨d, eg, q⟩ := RG.fin y2 h2 id
    unfold atKD at eg
    split at eg
    · rw [Option.bind_eq_some_iff] at eg
      obtain ⟨od, g, e⟩ := eg
      have e : od = some d := e
      subst e
      obtain ⟨a, o, rfl, _, dg, fin⟩ := rd_get (q1.go y2 hr) q2.clean g
      rcases fin with ⟨z, _⟩ | ⟨d', w, z, rfl, dg2, rw'⟩
      · cases z
      · cases z
        exact ⟨a, w, rfl, dg2, q.flat R2 rw'⟩
    · cases eg⟩
/-- d.get(k, x) -/
def get2 (fo fk fx : Ev) : Ev := fun st => (fo st).bind fun d st1 => match d with
  | .dict kvs => (fk st1).bind fun k st2 => (fx st2).bind fun x st3 => ofO ((getKD kvs k).map fun o => o.getD x) st3
  | _ => .bad
theorem VE.get2 {o e f : Expr} {fo fe ff : Ev} {apos cpos : Pos} (hu : X.A.units + 1 < cLine) (ho : VE X T W m1 r o fo) (he : VE X T W m2 false e fe) (hf : VE X T W m3 false f ff) (mm : M2 X o "get" apos e f cpos)
    (hr : r = true → m2 = false := by first | (intro h; cases h; done) | (intro _; rfl)) (hr3 : r = true → m3 = false := by first | (intro h; cases h; done) | (intro _; rfl)) :
    VE X T W (m1 || (m2 || m3)) r1 (.Call (.Attribute o "get" apos) [e, f] [] cpos) (Vs.get2 fo fe ff) :=
  ⟨pe_weak (pe_dget2' hu ho.pe he.pe hf.pe mm) fun σ H Q ⟨F, st, R, q⟩ => by
    refine tG.first (m0 := m1) R q fun d1 st1 v1 H1 e1 R1 y1 q1 h1 => ?_
    split at h1
    · rename_i kvs
      have isd : ∃ a, v1 = .ref a ∧ IsD H1 a := by
        rcases dict_rd q1 with ⟨a, es, rfl, s, _⟩ | ⟨a, es, rfl, s, _⟩
        · exact ⟨a, rfl, .inl ⟨es, s⟩⟩
        · exact ⟨a, rfl, .inr ⟨es, s⟩⟩
      obtain ⟨a, rfl, isd⟩ := isd
      refine ⟨a, rfl, isd, ?_⟩
      have h1 := h1.back' (m2 := m2 || m3) y1
      refine tG.first (m0 := m2) R1 h1 fun d2 st2 v2 H2 e2 R2 y2 q2 h2 => ?_
      have h2 := h2.back' (m2 := m3) y2
      refine tG.first (m0 := m3) R2 h2 fun d3 st3 v3 H3 e3 R3 y3 q3 h3 => ?_
      obtain ⟨d, eg, q⟩ := RG.fin y3 h3 id
      rw [Option.map_eq_some_iff] at eg
      obtain ⟨od, g, rfl⟩ := eg
      obtain ⟨a', o, ea, _, dg, fin⟩ := rd_get ((q1.go y2 hr).go y3 hr3) (q2.go y3 (fun z => by cases z)).clean g
      cases ea
      refine ⟨o, dg, ?_⟩
      rcases fin with ⟨rfl, rfl⟩ | ⟨d', w, rfl, rfl, _, rw'⟩
      · exact q.flat R3 q3.clean
      · exact q.flat R3 rw'
    · exact h1.elim⟩
end
end Vs

set_option Elab.async false
set_option linter.all false
set_option maxRecDepth 100000
set_option maxHeartbeats 4000000
namespace Vs
open PySem PySem.Spec PyProof.Rows L2
/-! ### raise X('..'), X an own class of errors that rests on ValueError -/
/-- x is such a class in the module -/
structure ExcF (K : PySem.W.Frag) (mg : Str → Option Value) (x : Str) : Prop where
  cls : ∃ C, mg x = some (.ref C) ∧ PySem.W.excIn K C He.veBase "ValueError.__new__" = true ∧ PySem.W.keepIn K (.ref C) = true ∧ PySem.W.subIn K (.ref C) (.type "BaseException") = some true ∧ PySem.W.typeIn K (.ref C) = some (.type "type")
section
variable {X : Cx} {T : Addr → Prop} {W : Wx}
theorem VS.raise {x m : Str} {j : Nat} {p p2 pos' pos : Pos} (hc : X.calm = true) (tk : L2N.Takes X W) (F : ExcF X.K X.mg x) (hg : Gl X x) (hdb : (x == ("__debug__" : Str)) = false := by decide) :
    VS X T W (.Raise (some (.Call (.Name x p) [.Constant (.str m) j p2] [] pos')) none pos) (fun st => .exc x st) := by
  obtain ⟨C, e1, e2, e3, e4, e5⟩ := F.cls
  exact ⟨ps_weak (L2N.ps_raise hc tk (L2N.pmk_own PySem.F.excBase_ValueError e2 e1 e3 (raises_own e4 e5) hg hdb)) fun D σ H ⟨F, st, R, q⟩ => q σ H C e1 R SGo.refl⟩
end
theorem He_exc {K : PySem.W.Frag} {mg : Str → Option Value} {x : Str} (h : mg x = some (.ref (He.ga K x))) (c : (He.Fa.exc x).ok K = true) : ExcF K mg x :=
  let ⟨c1, c2, c3, c4⟩ := He.exc_ok c
  ⟨⟨_, h, c1, c2, c3, c4⟩⟩
end Vs

set_option Elab.async false
set_option linter.all false
set_option maxRecDepth 100000
set_option maxHeartbeats 4000000
namespace Vs
open PySem PySem.Spec PyProof.Rows L2 HotX L2H
/-! ### for over a list while an error is handled -/
section
variable {prog : Program} {w : World} {A : Around} {E : Value → Shared → Prop} {s : Shared}
theorem next_list_end_hot {it l x1 : Addr} {i : Nat} {items : Array Value} {Q : Option Value → Shared → Prop} (hot : HotAt A x1 s.heap) (nx : x1 ≠ it)
    (hit : s.heap.IsListIter it l i) (hl : s.heap.IsList l items) (hx : items[i]? = none)
    (hQ : ∀ h', Heap.ExtBut it s.heap h' → Q none { s with heap := h' }) : wpAny (model prog w) A (pyNext (.ref it)) Q E s := by
  obtain ⟨o, ho, hc, hd⟩ := id hit
  obtain ⟨ol, hol, _, nl, hdl⟩ := hl
  obtain ⟨hh, o1, vs1, h1, d1, c1⟩ := hot
  unfold pyNext
  refine wpAny_bind (wpAny_attempt (wpAny_callSpecial?_slot (name := Str.ofString "__next__") hit.typeIs slot_listiter_next
    (wpAny_call_entry slot_listiter_next hit.typeIs entry_listiter_next ?_ (args_listiter_next _))))
  show wpAny _ _ (field (.ref it) 0 >>= _) _ _ s
  refine wpAny_bind (wpAny_field ho hd (x := .ref l) rfl ?_)
  show wpAny _ _ (if (Value.ref l == Value.none) = true then _ else _) _ _ s
  rw [if_neg (show ¬ ((Value.ref l == Value.none) = true) from Bool.false_ne_true)]
  show wpAny _ _ (field (.ref it) 1 >>= _) _ _ s
  refine wpAny_bind (wpAny_field ho hd (x := .int i 0) rfl ?_)
  show wpAny _ _ (seqItems? (.ref l) >>= _) _ _ s
  refine wpAny_bind (wpAny_seqItems hol hdl ?_)
  simp only [Int.toNat_natCast, hx]
  refine wpAny_bind (wpAny_rule (wpAny_bind (wpAny_setField ho hd (by simp) ?_)))
  show wpAny _ _ (newExc (.type "StopIteration") [] >>= _) _ _ _
  refine wpAny_bind ?_
  simp only [newExc, newTuple]
  refine wpAny_bind (wpAny_newObj_type ?_ (by size_fits))
  refine wpAny_bind (m := firstArgMember _ _) (wpAny_of_eq (a := Value.none) (by first | rfl | (simp only [firstArgMember]; rfl)) ?_)
  refine wpAny_newObj_type ?_ (by size_fits)
  have hlt := Heap.lt_size h1
  refine raiseNew_hot ⟨hh, o1, vs1, ?g, d1, c1⟩ ?ne (Heap.get?_push_size _ rfl) rfl ?sz ?_
  case g => exact (((Heap.SameBut.update ..).extBut.push _).push _ : Heap.ExtBut it s.heap _) x1 o1 nx h1
  case ne => exact Nat.ne_of_lt (by rw [Heap.size_push, Heap.size_update]; exact Nat.lt_succ_of_lt hlt)
  case sz => first | (simp; done) | (simp; omega) | (simp only [Array.size_append]; simp; omega)
  refine wpAny_bind (wpAny_isInstance (T := "StopIteration") (b := true) ⟨_, Heap.get?_update_self _ (Heap.get?_push_size _ rfl) rfl, rfl⟩ isSubtype_stop ?_)
  refine wpAny_pure (hQ _ fun b o hb e => ?_)
  have hb2 := Heap.lt_size e
  rw [Heap.get?_update_other _ _ (Nat.ne_of_gt (by rw [Heap.size_push, Heap.size_update]; exact Nat.lt_succ_of_lt hb2))]
  exact (((Heap.SameBut.update ..).extBut.push _).push _ : Heap.ExtBut it s.heap _) b o hb e
end
end Vs
namespace Vs
open PySem PySem.Spec PyProof.Rows L2 HotX L2H
theorem turn_listH {P : Program} {w : World} {K : PySem.W.Frag} {tg : Expr} (a it : Addr) : TurnH P w K tg (Itl K a) [it] it (fun i h => h.IsListIter it a i) where
  mem := by simp
  obj := fun i h st b hb => by
    have e : b = it := by simpa using hb
    subst e
    obtain ⟨o, e, c, d⟩ := st
    exact ⟨o, e, fun v z => by rw [d] at z; cases z⟩
  keep := fun i h h' st k => st.at fun o e => k it (by simp) o e
  item := by
    intro X hP hw hK hc i pins s σ H E I hf st hg
    subst hP hw hK
    obtain ⟨xs, x, hq, hx⟩ := hg
    obtain ⟨its, rv, p, hz⟩ := I.list hq
    obtain ⟨u, hu, ru⟩ := rv.get hx
    obtain ⟨f0, f1, f2, f3, f4, f5⟩ := hf it (by simp)
    refine wpAny_pyNext_list_item st p.isList (x := u) (by simpa using hu) fun h' st' sb => ?_
    have I1 : Inv X pins σ H { s with heap := h' } := I.turned (t' := s.toks) (fun b o hb e => (sb.2 b hb).trans e) f0 f1 f3 f4 f5
    obtain ⟨o, e, c, d⟩ := id st'
    exact ⟨u, rfl, go_of (s := { s with heap := h' }) e c d (by decide) ⟨x, H, I1, ru, ⟨rfl, fun ys hy => by rw [I.list_inj hy hq]; exact hx⟩, st', fun b hb => (hf b hb).1⟩⟩
  done := by
    intro X hP hw hK hc i pins s σ H E I hf st hg
    subst hP hw hK
    obtain ⟨xs, hq, hx⟩ := hg
    obtain ⟨its, rv, p, hz⟩ := I.list hq
    obtain ⟨f0, f1, f2, f3, f4, f5⟩ := hf it (by simp)
    have hl := rv.length
    obtain ⟨q, ⟨hh, v1, e1, c1⟩, hq'⟩ := hc
    have P1 := I.pin q (List.mem_append_left _ hq')
    have nx : q.1 ≠ it := f5 q (List.mem_append_left _ hq')
    exact next_list_end_hot (x1 := q.1) ⟨hh, q.2, v1, P1.1, e1, c1⟩ nx st p.isList (by simp; omega) fun h' eb => ⟨rfl, I.turned (t' := s.toks) (fun b o hb e => eb b o hb e) f0 f1 f3 f4 f5⟩
  self := fun _ _ _ _ _ st h => wpAny_pyIter_listiter st h
end Vs
namespace Vs
open PySem PySem.Spec PyProof.Rows L2 HotX L2H
/-! ### a list comprehension while an error is handled -/
abbrev blkH (X : Cx) (s : Shared) (H : Hp) (scope : Scope) (cenv : Env) (fp : List Addr) : Cx := (X.blk s H scope cenv fp).tr X.pn (fun _ _ => False)
section
variable {X : Cx}
theorem hotBlk {s : Shared} {H : Hp} {scope : Scope} {ce : Env} {fp : List Addr} (hc : HotC X) : HotC (blkH X s H scope ce fp) := hc
theorem blk_hot {s s' : Shared} {σ : L2.St} {H H' : Hp} {scope : Scope} {ce : Env} {fp : List Addr} (I : Inv (X.blk s H scope ce fp) [] σ H' s')
    (hp : ∀ p ∈ X.pn, s'.heap.get? p.1 = some p.2 ∧ H' p.1 = none ∧ p.1 ≠ ce.locals ∧ p.1 ∉ frs X.stack ∧ ∀ v, p.2.data ≠ .cell v) : Inv (blkH X s H scope ce fp) [] σ H' s' :=
  ⟨I.ok.toTry _ _, I.os, I.bare, I.base, I.loc, I.cell, I.free, I.freeC, fun p hq => hp p (by rw [List.append_nil] at hq; exact hq), I.hok, I.len⟩
theorem lc_coreH {pins : List (Addr × Obj)} {s : Shared} {σ : St} {H : Hp} {Q : VK} {elt tg iter : Expr} {ifs : List Expr} {scope : Scope} {own : List (Str × Nat)} {pos pos' : Pos} {wi : TI} {g : TG} {tt : TT} {te : TE} {use : Option (Value → Sem Unit)} {Qf : Value → Shared → Prop}
    (hc : HotC X) (hN : X.N.Nodup) (I : Inv X pins σ H s) (hi : PIH X tg iter wi) (ok : BlkOk X.N X.env.scope scope own)
    (hg : ∀ (s : Shared) (H : Hp) (C : Addr) (cl : List (Str × Addr)) (fp : List Addr), PG (blkH X s H scope (compEnvC scope cl C X.env) fp) tg g) (ht : ∀ (s : Shared) (H : Hp) (C : Addr) (cl : List (Str × Addr)) (fp : List Addr), PTs (blkH X s H scope (compEnvC scope cl C X.env) fp) ifs tt)
    (he : ∀ (s : Shared) (H : Hp) (C : Addr) (cl : List (Str × Addr)) (fp : List Addr), PE (blkH X s H scope (compEnvC scope cl C X.env) fp) elt te) (hs : ∀ x, foldedSetIterable iter X.env x = pure x)
    (h : tLc wi g tt te (own.map (·.2)) σ H Q)
    (hRR : ∀ D C s' m H', Inv X pins σ H' s' → Q (.ref D) H' → s'.heap.Ns C m → FpOk X pins H' C → compPost (model X.prog X.w) X.A X.xe use Qf (.ref D) C (.ok .next) s') :
    wpAny (model X.prog X.w) X.A (comprehension (.ListComp elt [⟨tg, iter, ifs, 0⟩] scope pos) scope X.env pos' (newList []) false (eval iter X.env) use) Qf X.xe s := by
  have hfree : ∀ y ∈ scope.names, y.2 = .free → ∃ c, X.env.cells.lookup y.1 = some c := fun y hy e => by
    rcases ok.free y hy e with k | k
    · exact I.ok.has _ (.inl k)
    · exact I.ok.has _ (.inr k)
  refine wpAny_comprehension_free (use := use) rfl hs (closure_ok hfree) ok.kind (fun y hy e => by rw [ok.uniq y hy, e])
    (thn (hi.run pins s σ H _ I h) fun xv s1 hx => thn hx fun itv s2 h2 => ?_)
  obtain ⟨it, fp, tn, J, H2, e, I2, T, st2, f2, q⟩ := h2
  subst e
  refine wpAny_newObj_type (newEnv_comp ?_) (by show 0 ≤ sizeLine; decide)
  generalize hD : s2.heap.objs.size = D
  have hDn : H2 D = none := I2.hok.fresh (Nat.le_of_eq hD)
  obtain ⟨W, ⟨m0, w0⟩, turn⟩ := q D hDn
  -- the new list
  generalize hs3 : ({ s2 with heap := s2.heap.push { cls := .type "list", data := .seq ([] : List Value).toArray } } : Shared) = s3
  have I3 : Inv X pins σ (upd H2 D (.lst [])) s3 := by
    rw [← hs3]
    refine I2.laid (t' := s2.toks) (fun b o e => Heap.get?_push_of_some _ e) (Nat.le_of_eq hD) ⟨Nat.zero_le _, [], 0, .nil, ?_⟩
    rw [← hD]
    exact Heap.get?_push_size _ rfl
  have h3 : s3.heap = s2.heap.push { cls := .type "list", data := .seq ([] : List Value).toArray } := by rw [← hs3]
  have sz : ∀ b ∈ fp, b < s2.heap.objs.size := fun b hb => by
    obtain ⟨o, e, _⟩ := T.obj _ _ st2 b hb
    exact Heap.lt_size e
  have f3 : ∀ b ∈ fp, FpOk X pins (upd H2 D (.lst [])) b ∧ b < s3.heap.objs.size := fun b hb => by
    have hlt := sz b hb
    refine ⟨⟨?_, (f2 b hb).2⟩, by rw [h3, Heap.size_push]; exact Nat.lt_succ_of_lt hlt⟩
    rw [upd_ne (by rw [← hD]; exact Nat.ne_of_lt hlt)]
    exact (f2 b hb).1
  have st3 : tn 0 s3.heap := T.keep _ _ _ st2 fun b _ o e => by rw [h3]; exact Heap.get?_push_of_some _ e
  have I4' := block_start I3 ok hN f3
  have hpin : ∀ p ∈ X.pn, s3.heap.get? p.1 = some p.2 ∧ (upd H2 D (.lst [])) p.1 = none ∧ p.1 ≠ s3.heap.objs.size ∧ p.1 ∉ frs X.stack ∧ ∀ v, p.2.data ≠ .cell v := fun p hp => by
    have z := I3.pin p (List.mem_append_left _ hp)
    refine ⟨z.1, z.2.1, Nat.ne_of_lt (Heap.lt_size z.1), fun hm => ?_, z.2.2.2.2⟩
    rcases List.mem_cons.mp (I3.stkSub p.1 hm) with e | e
    · exact z.2.2.1 e
    · exact z.2.2.2.1 e
  have I4 := blk_hot I4' (fun p hp => by
    obtain ⟨z1, z2, z3, z4, z5⟩ := hpin p hp
    exact ⟨pushCells_keeps _ _ _ _ (Heap.get?_push_of_some _ z1), z2, z3, z4, z5⟩)
  clear I4' hpin
  have pg := hg s3 (upd H2 D (.lst [])) s3.heap.objs.size (cellsFrom (s3.heap.objs.size + 1) scope.names (cloFrom X.env.cells scope.names [])) fp
  have pt := ht s3 (upd H2 D (.lst [])) s3.heap.objs.size (cellsFrom (s3.heap.objs.size + 1) scope.names (cloFrom X.env.cells scope.names [])) fp
  have pe := he s3 (upd H2 D (.lst [])) s3.heap.objs.size (cellsFrom (s3.heap.objs.size + 1) scope.names (cloFrom X.env.cells scope.names [])) fp
  show codeAny _ _ (.compStart (.ListComp elt [⟨tg, iter, ifs, 0⟩] scope pos) 0 (.ref it) (.ref D) (compEnvC scope (cellsFrom (s3.heap.objs.size + 1) scope.names (cloFrom X.env.cells scope.names [])) s3.heap.objs.size X.env)) (compPost (model X.prog X.w) X.A X.xe use Qf (.ref D) s3.heap.objs.size) { s3 with heap := pushCells (s3.heap.push { cls := .type "dict", data := .dict #[] }) scope.names }
  have nfp : ∀ b ∈ fp, (upd H2 D (.lst [])) b = none := fun b hb => (f3 b hb).1.1
  generalize hce : compEnvC scope (cellsFrom (s3.heap.objs.size + 1) scope.names (cloFrom X.env.cells scope.names [])) s3.heap.objs.size X.env = ce at I4 pg pt pe ⊢
  have cL : ce.locals = s3.heap.objs.size := by subst hce; rfl
  generalize hH3 : upd H2 D (.lst []) = H3 at I3 I4 pg pt pe w0 nfp f3
  generalize hs4 : ({ s3 with heap := pushCells (s3.heap.push { cls := .type "dict", data := .dict #[] }) scope.names } : Shared) = s4 at I4 ⊢
  have st4 : tn 0 s4.heap := T.keep _ _ _ st3 fun b _ o e => by rw [← hs4]; exact pushCells_keeps _ _ _ _ (Heap.get?_push_of_some _ e)
  have stat : ∀ {σ' : St} {H' : Hp} {s' : Shared}, Inv (blkH X s3 H3 scope ce fp) [] σ' H' s' → (∀ b ∈ fp, H' b = none) → ∀ b ∈ fp, FpOk (blkH X s3 H3 scope ce fp) [] H' b := fun {σ' H' s'} I' hn b hb =>
    ⟨hn b hb, (I'.ok.exf b hb).1, I'.ok.exfs b hb, .inl hb, fun x c e => (I'.ok.exf b hb).2 x c e, fun p hp => (f3 b hb).1.2.2.2.2.2 p (List.mem_append_left _ (by simpa using (show p ∈ X.pn ++ [] from hp)))⟩
  have loop : codeAny (model X.prog X.w) X.A (.compLoop (.ListComp elt [⟨tg, iter, ifs, 0⟩] scope pos) 0 (.ref it) (.ref D) ce) (compPost (model X.prog X.w) X.A X.xe use Qf (.ref D) s3.heap.objs.size) s4 := by
    refine compLoop_any (fun n s' => ∃ i H', Inv (blkH X s3 H3 scope ce fp) [] (wipe σ (own.map (·.2))) H' s' ∧ tn i s'.heap ∧ (∀ b ∈ fp, H' b = none) ∧ W i n H') ?_ m0 ⟨0, H3, I4, st4, nfp, w0⟩
    rintro n s5 ⟨i, H5, I5, st5, n5, w5⟩
    rcases turn i n H5 w5 with ⟨stop, qq⟩ | ⟨go, Nx, hNx, step⟩
    · have td := T.done (blkH X s3 H3 scope ce fp) rfl rfl rfl (hotBlk hc) i [] s5 _ H5 (fun _ _ => False) I5 (stat I5 n5) st5 stop
      refine thnF td fun r s6 ⟨hr, I6⟩ => ?_
      subst hr
      -- back in the def's context
      have I7 : Inv X pins σ H5 s6 := I3.call' (ch := fp) I6.os I6.base I6.hok I6.bare fun b hb => ⟨(f3 b hb).1.2.2.2.1, (f3 b hb).1.2.1, (f3 b hb).1.2.2.2.2.1, (f3 b hb).1.2.2.2.2.2⟩
      have nC : H5 s3.heap.objs.size = none := by
        have z : H5 ce.locals = none := I6.free
        rw [cL] at z
        exact z
      obtain ⟨m, hn, _⟩ := I6.loc
      have hn : s6.heap.Ns ce.locals m := hn
      rw [cL] at hn
      exact hRR D s3.heap.objs.size s6 m H5 I7 qq hn (I3.fpOk (Nat.le_refl _) nC)
    · have ti := T.item (blkH X s3 H3 scope ce fp) rfl rfl rfl (hotBlk hc) i [] s5 _ H5 (fun _ _ => False) I5 (stat I5 n5) st5 go
      refine thnF ti fun r s6 ⟨u, hr, h6⟩ => ?_
      subst hr
      refine thnF h6 fun _ s7 ⟨x, H7, I7, r7, y7, st7, n7⟩ => ?_
      have I7' := I7.pinned (stat I7 n7) (T.obj _ _ st7)
      refine thnF (pg.run _ s7 _ H7 x u _ I7' r7 (step x H7 y7)) fun _ s8 ⟨σ8, H8, I8, hw8, q8⟩ => ?_
      refine thnF (pt.run _ s8 σ8 H8 _ I8 q8) fun b s9 ⟨H9, I9, q9⟩ => ?_
      -- the turn's end
      have fin : ∀ {s' : Shared} {H' : Hp}, Inv (blkH X s3 H3 scope ce fp) ([] ++ pinsAt fp s7.heap) σ8 H' s' → Nx H' → ∃ m, m < n ∧ ∃ i H', Inv (blkH X s3 H3 scope ce fp) [] (wipe σ (own.map (·.2))) H' s' ∧ tn i s'.heap ∧ (∀ b ∈ fp, H' b = none) ∧ W i m H' := fun {s' H'} I' nx => by
        obtain ⟨m', hm, w'⟩ := hNx H' nx
        have pin' : ∀ b ∈ fp, ∀ o, s7.heap.get? b = some o → s'.heap.get? b = some o ∧ H' b = none := fun b hb o e =>
          let z := I'.pin (b, o) (List.mem_append_right _ (List.mem_append_right _ (mem_pinsAt hb e)))
          ⟨z.1, z.2.1⟩
        have hl : (wipe σ (own.map (·.2))).length = σ8.length := by rw [← hw8, wipe_length]
        refine ⟨m', hm, i + 1, H', (I'.unpinned (pins := [])).weak hl (fun j v e => ?_), T.keep _ _ _ st7 fun b hb o e => (pin' b hb o e).1, fun b hb => ?_, w'⟩
        · rw [← hw8] at e
          exact (wipe_some e).1
        · obtain ⟨o, e, _⟩ := T.obj _ _ st7 b hb
          exact (pin' b hb o e).2
      cases b with
      | false =>
        simp only [Bool.false_eq_true, if_false] at q9 ⊢
        exact fin I9 q9
      | true =>
        simp only [if_true] at q9 ⊢
        refine thnF (pe.run _ s9 σ8 H9 _ I9 q9) fun z s10 ⟨yv, H10, I10, r10, acc, hD10, hz10, nx⟩ => ?_
        exact app_ok (X := blkH X s3 H3 scope ce fp) I10 hD10 hz10 r10 fun s11 I11 => fin I11 nx
  exact codeAny_compStart_list loop (T.self X.A 0 _ _ _ st4 loop)
theorem pe_lcH {elt tg iter : Expr} {ifs : List Expr} {scope : Scope} {own : List (Str × Nat)} {pos : Pos} {wi : TI} {g : TG} {tt : TT} {te : TE} (hc : HotC X) (hN : X.N.Nodup) (hi : PIH X tg iter wi) (ok : BlkOk X.N X.env.scope scope own)
    (hg : ∀ (s : Shared) (H : Hp) (C : Addr) (cl : List (Str × Addr)) (fp : List Addr), PG (blkH X s H scope (compEnvC scope cl C X.env) fp) tg g) (ht : ∀ (s : Shared) (H : Hp) (C : Addr) (cl : List (Str × Addr)) (fp : List Addr), PTs (blkH X s H scope (compEnvC scope cl C X.env) fp) ifs tt)
    (he : ∀ (s : Shared) (H : Hp) (C : Addr) (cl : List (Str × Addr)) (fp : List Addr), PE (blkH X s H scope (compEnvC scope cl C X.env) fp) elt te) (hs : ∀ x, foldedSetIterable iter X.env x = pure x := by intro _; rfl) :
    PE X (.ListComp elt [⟨tg, iter, ifs, 0⟩] scope pos) (tLc wi g tt te (own.map (·.2))) := by
  refine ⟨fun pins s σ H Q I h => ?_⟩
  rw [eval_ListComp]
  refine lc_coreH hc hN I hi ok hg ht he hs h fun D C s' m H' I' q hn f => ⟨m, hn, fun h'' sb => ?_⟩
  obtain ⟨f0, f1, f2, f3, f4, f5⟩ := f
  exact ⟨.ref D, H', I'.turned (t' := s'.toks) (fun b o hb e => (sb.2 b hb).trans e) f0 f1 f3 f4 f5, rfl, q⟩
end
end Vs

set_option Elab.async false
set_option linter.all false
set_option maxRecDepth 100000
set_option maxHeartbeats 4000000
namespace Vs
open PySem PySem.Spec PyProof.Rows L2 HotX L2H
/-! ### list comprehensions over data while an error is handled -/
structure VIH (X : Cx) (T : Addr → Prop) (W : Wx) (m : Bool) (tg iter : Expr) (f : Ei) : Prop where
  pi : PIH X tg iter (fun σ H R => ∃ F st, RepS X.K T F H σ st ∧ RG X T W m (fun _ _ (_ : List D) (_ : It) => True) F σ H st (fun _ _ => True) (f st) ∧ ∀ ds st', f st = .ok ds st' → ∀ J H', RepS X.K T F H' σ st' → XGo m σ H H' st st' → Jw X.K T (Bd F σ st') (Bd F σ st') H' J ds → R J H')
theorem pih_weak {X : Cx} {tg iter : Expr} {t t' : TI} (h : PIH X tg iter t) (w : ∀ σ H R, t' σ H R → t σ H R) : PIH X tg iter t' := ⟨fun pins s σ H R I q => h.run pins s σ H R I (w σ H R q)⟩
theorem pih_list {X : Cx} {tg l : Expr} {tl : TE} (hl : PE X l tl) : PIH X tg l (fun σ H R => tl σ H fun x H1 => ∃ a, x = .ref a ∧ (∃ xs, SqL X.K H1 a xs) ∧ R (Itl X.K a) H1) := by
  refine ⟨fun pins s σ H R I h => ?_⟩
  refine thn (hl.run pins s σ H _ I h) fun v s1 ⟨x, H1, I1, r1, q1⟩ => ?_
  obtain ⟨a, e, ⟨xs, hq⟩, q⟩ := q1
  subst e
  cases r1
  obtain ⟨its, rv, p, hz⟩ := I1.list hq
  refine wpAny_pyIter_list p.isList ?_
  refine ⟨s1.heap.objs.size, [s1.heap.objs.size], _, _, H1, rfl, I1.kept (t' := s1.toks) fun b o e => Heap.get?_push_of_some _ e, turn_listH a _, ⟨_, Heap.get?_push_size _ rfl, rfl, rfl⟩, fun b hb => ?_, q⟩
  have e : b = s1.heap.objs.size := by simpa using hb
  subst e
  exact I1.fpOk (Nat.le_refl _) (I1.hok.fresh (Nat.le_refl _))
def iLst (f : Ev) : Ei := fun st => (f st).bind fun d st1 => match d with
  | .list ds => .ok ds st1
  | _ => .bad
section
variable {X : Cx} {T F : Addr → Prop} {W : Wx} {m : Bool} {tg e : Expr} {f : Ev}
theorem VIH.lst (h : VE X T W m false e f) : VIH X T W m tg e (iLst f) := ⟨pih_weak (pih_list h.pe) fun σ H R ⟨F, st, RR, q, k'⟩ => by
  refine vi_first RR q k' fun d st1 v H1 e1 R1 y1 q1 h1 k1 => ?_
  split at h1
  · rename_i ds
    have k2 := k1 ds st1 rfl
    have hM : ∀ b, Bd F σ st1 b → Bd F σ st1 b := fun b z => z
    have q1 := q1.clean
    cases q1 with
    | lst s n q => exact ⟨_, rfl, ⟨_, .inl s⟩, k2 _ H1 R1 y1 (jw_list hM s (fun z => n (hM _ z)) q)⟩
  · exact h1.elim⟩
end
section
variable {X : Cx} {T : Addr → Prop} {W : Wx} {mi : Bool} {fi : Ei} {g : D → Sts → Option Sts} {ft : Et} {fe : Ev} {sl : List Nat} {elt tg iter : Expr} {ifs : List Expr} {scope : Scope} {own : List (Str × Nat)} {pos spos py : Pos} {y : Str} {i : Nat}
theorem VF.compPH (hc : HotC X) (hN : X.N.Nodup) (hi : VIH X T W mi tg iter fi) (ok : BlkOk X.N X.env.scope scope own) (hsl : ∀ i ∈ sl, i ∈ own.map (·.2))
    (hg : ∀ (s : Shared) (H : Hp) (C : Addr) (cl : List (Str × Addr)) (fp : List Addr), VG (blkH X s H scope (compEnvC scope cl C X.env) fp) T sl tg g)
    (ht : ∀ (s : Shared) (H : Hp) (C : Addr) (cl : List (Str × Addr)) (fp : List Addr), VTs (blkH X s H scope (compEnvC scope cl C X.env) fp) T WN false ifs ft)
    (he : ∀ (s : Shared) (H : Hp) (C : Addr) (cl : List (Str × Addr)) (fp : List Addr), VE (blkH X s H scope (compEnvC scope cl C X.env) fp) T WN false false elt fe) (hs : ∀ x, foldedSetIterable iter X.env x = pure x := by intro _; rfl) {vsO : List Nat} (hvs : vsO = own.map (·.2) := by rfl) :
    VF X T W mi (.ListComp elt [⟨tg, iter, ifs, 0⟩] scope pos) (cmpP vsO fi g ft fe) := by
  subst hvs
  exact ⟨pe_weak (pe_lcH hc hN hi.pi ok (fun s H C cl fp => (hg s H C cl fp).pg) (fun s H C cl fp => (ht s H C cl fp).pt) (fun s H C cl fp => (he s H C cl fp).pe) hs) fun σ H Q ⟨F, st, R, q⟩ =>
    compP_read (fun _ _ _ z => z) (hg X.s_0 (fun _ => none) 0 [] []).bk hsl (fun _ _ _ _ z => z) (fun _ _ _ z => z) (fun _ _ _ z => z) R q⟩
end
/-! ### isinstance(e, c), e the pinned error -/
theorem call_isE' {X : Cx} {a D : Addr} {oe : Obj} (hp : (a, oe) ∈ X.pn) (C : ExcC X.K D) (hz : Zc (.ref D) none oe) (hf : ∃ vs, oe.data = .fields vs) : CallR X (.builtin "isinstance") (rIsE X.K D a) := by
  intro pins s σ H xs us Q I r h
  obtain ⟨c, cv, b, rfl, hcv, e, q⟩ := h
  cases r with
  | cons rx rr =>
    cases rr with
    | cons rt rr =>
      cases rr
      cases rx
      have ec := hcv _ rt
      subst ec
      obtain ⟨hget, _⟩ := I.pin (a, oe) (List.mem_append_left _ hp)
      obtain ⟨vs, hv⟩ := hf
      have J : PySem.W.InstAt s.heap a oe D none := by
        obtain ⟨oc, od, oda, osl⟩ := oe
        obtain ⟨h1, h2⟩ := hz
        dsimp only at h1 h2 hv
        subst h1 h2 hv
        exact ⟨hget, rfl, rfl, trivial⟩
      exact PySem.W.kia_one (PySem.W.handS_kitx_exc C.hg C.hk C.hs C.hd C.ha C.hn C.ht C.hm) I.kIn J e (fun z => nomatch z) fun tk => ⟨.bl b, H, I.kept (t' := tk) fun _ _ z => z, rfl, q⟩
end Vs

set_option Elab.async false
set_option linter.all false
set_option maxRecDepth 100000
set_option maxHeartbeats 4000000
namespace Vs
open PySem PySem.Spec PyProof.Rows L2 HotX L2H
/-! ### a def that tells the handled error's word -/
structure FnW (P : Program) (w : World) (K : PySem.W.Frag) (mg : Str → Option Value) (base : Heap) (T : Addr → Prop) (k : Nat) (f : Addr) (fd : FuncData) (q : Str) (wd : Value → Option Str) : Prop where
  run : ∀ (A : Around) (outer : List Env) (s : Shared) (H : Hp) (args : Args) (Q : VK) (p : Addr × Obj) (C : Addr) (z : Str), RoomH k A → Hot1 A p → Zc (.ref C) none p.2 → PinOk outer H s p → Env0 P w K mg base A outer s H → BindsTo s fd args ([q].zip [Value.ref p.1]) →
    wd (.ref C) = some z → (∀ a, T a → GxR.TabG H a) → (∀ H', Kp (fun _ => False) H H' → (∀ a, T a → GxR.TabG H' a) → Q (.str z) H') → codeAny (model P w) A (.call (.ref f) args) (CR (L2N.CX P w) outer P w H s Q (fun _ _ _ => False)) s
theorem fn_ofW {P : Program} {w : World} {K : PySem.W.Frag} {mg : Str → Option Value} {base : Heap} {T : Addr → Prop} {wd : Value → Option Str} {k : Nat} {f : Addr} {name qual q : Str} {params : Arguments} {body : List Stmt} {scope : Scope} {dV kV doc pm cdv ct oc : Value} {an od : Option Addr}
    {osl : Array (Option Value)} {N : List Str} (lk : K.lookup f = some ⟨oc, od, .func (PySem.W.fnOf name qual params body scope dV kV doc pm an cdv ct), osl⟩) (hcd : PySem.W.codeIn K cdv qual = true) (S : FnScope N [q] scope)
    (hbody : ∀ (A : Around) (outer : List Env) (s : Shared) (H : Hp) (Q : VK) (p : Addr × Obj) (C : Addr) (z : Str), Hot1 A p → Zc (.ref C) none p.2 → RoomH k (A.deeper (envOfC qual scope s.heap.objs.size f cdv)) → wd (.ref C) = some z → (∀ a, T a → GxR.TabG H a) → (∀ H', Kp (fun _ => False) H H' → (∀ a, T a → GxR.TabG H' a) → Q (.str z) H') →
      ∃ t, PSs (cxH (L2N.CX P w) P w K mg base N qual scope f cdv A outer s H (fun _ _ _ => False) p) body t ∧ t { nx := fun _ H' => Q .non H', rt := Q } (L2.start N [V.ref p.1]) H) :
    FnW P w K mg base T (k + 1) f (PySem.W.fnOf name qual params body scope dV kV doc pm an cdv ct) q wd := by
  refine ⟨fun A outer s H args Q p C z hr hot hz hpin e0 hb hwd htab hq => ?_⟩
  have r : Vals [V.ref p.1] [Value.ref p.1] := .cons rfl .nil
  have KX : K.In s.heap := e0.mod.kin.keeps fun b o e => (e0.bs b o e).1
  have lim : s.heap.NoLimit := e0.mod.nolimit.keeps fun b o e => (e0.bs b o e).1
  have hkind : ∀ y ∈ [q].zip [Value.ref p.1], scope.names.lookup y.1 = some .local ∨ (scope.names.lookup y.1 = some .cell ∧ ((cellsFrom (s.heap.objs.size + 1) scope.names []).lookup y.1).isSome = true) := fun ⟨n, v⟩ hy => by
    rcases S.par n (List.of_mem_zip hy).1 with q | q
    · exact .inl q
    · exact .inr ⟨q, PySem.W.cellsFrom_some _ _ _ (.inl q)⟩
  refine codeAny_call_function hr.depth (KX _ _ lk) rfl S.co S.gen rfl (PySem.W.codeRec_of KX hcd) (hb _ _ _ _ ?_)
  refine wpAny_newFunctionEnv_cells S.kind hkind fun env he s1 x => ?_
  subst he
  refine ⟨lim.keeps x.toInCall.keep, codeAny_func ?_⟩
  obtain ⟨t, ht, hq⟩ := hbody A outer s H Q p C z hot hz (hr.deeper _) hwd htab hq
  have I : Inv (cxH (L2N.CX P w) P w K mg base N qual scope f cdv A outer s H (fun _ _ _ => False) p) [] (L2.start N [V.ref p.1]) H s1 := inv_startH S hpin e0 rfl r x
  refine wpAny_mono (ht.run [] s1 (L2.start N [V.ref p.1]) H _ I hq) (fun fl s' hs => ?_) fun e s' hs => hs
  have fin : ∀ {σ' : L2.St} {H' : Hp} {v : V} {u : Value}, Inv (cxH (L2N.CX P w) P w K mg base N qual scope f cdv A outer s H (fun _ _ _ => False) p) [] σ' H' s' → RelV v u → Q v H' → CE outer P w H s Q u s' :=
    fun {σ' H' v u} J rv q => ⟨v, H', J.os, J.bare, J.base, J.hok, rv, q⟩
  cases fl with
  | ret u =>
    obtain ⟨v, σ', H', J, rv, q⟩ := hs
    exact fin J rv q
  | next =>
    obtain ⟨σ', H', J, q⟩ := hs
    exact fin (v := V.non) (u := Value.none) J rfl q
  | brk =>
    obtain ⟨_, _, _, q⟩ := hs
    exact False.elim q
  | cont =>
    obtain ⟨_, _, _, q⟩ := hs
    exact False.elim q
end Vs

set_option Elab.async false
set_option linter.all false
set_option maxRecDepth 100000
set_option maxHeartbeats 4000000
namespace Vs
open PySem PySem.Spec PyProof.Rows L2
/-! ### xs.index(y) -/
def idxD (ds : List D) (d : D) : Option Nat := if shp d = true ∧ shp (.list ds) = true then List.findIdx? (fun z => PyData.eqv z d) ds else none
def idx (fo fe : Ev) : Ev := fun st => (fo st).bind fun x st1 => match x with
  | .list ds => (fe st1).bind fun d st2 => ofO ((idxD ds d).map fun (j : Nat) => PyData.int (j : Int)) st2
  | _ => .bad
section
variable {X : Cx} {T : Addr → Prop} {W : Wx} {m1 m2 r r1 : Bool} {o e : Expr} {fo fe : Ev} {apos cpos : Pos}
theorem VE.idx (hu : X.A.units + 65 < cLine) (ho : VE X T W m1 r o fo) (he : VE X T W m2 false e fe) (hr : r = true → m2 = false := by first | (intro h; cases h; done) | (intro _; rfl))
    (hbase : attributeBase o "index" X.env (eval o X.env) = eval o X.env := by rfl)
    (hfew : ((backTo cpos (starEach [e] X.env)).all (fun x => !x.1) && (backToKw cpos (keywordEach [] X.env)).all (fun x => x.1.isSome)
      && decide (([e] : List Expr).length + ([] : List Keyword).length + (if ([] : List Keyword).isEmpty then 0 else 1) < 30)) = true := by rfl)
    (hline : (apos.endLine == cpos.line) = true := by rfl) (hs : starEach [e] X.env = (false, eval e X.env) :: starEach [] X.env := by rfl) (hplain : (backTo cpos (starEach [] X.env)).any (·.1) = false := by rfl) :
    VE X T W (m1 || m2) r1 (.Call (.Attribute o "index" apos) [e] [] cpos) (Vs.idx fo fe) :=
  ⟨pe_weak (pe_bm F.plainAttrs_list F.slot_list_index F.type_list_index (mt_indexD hu) ho.pe (pa_cons he.pe pa_nil hs) hbase hfew hline hs hplain) fun σ H Q ⟨F, st, R, q⟩ => by
    refine tG.first (m0 := m1) R q fun d1 st1 v1 H1 e1 R1 y1 q1 h1 => ?_
    split at h1
    · rename_i ds
      obtain ⟨a, us, rfl, s1, p1⟩ := q1.isL
      refine ⟨.inl ⟨rfl, us, .inl s1⟩, ?_⟩
      refine tG.first (m0 := m2) R1 (h1.back' (m2 := m2) y1) fun d2 st2 v2 H2 e2 R2 y2 q2 h2 => ?_
      obtain ⟨d, eg, q⟩ := RG.fin y2 h2 id
      rw [Option.map_eq_some_iff] at eg
      obtain ⟨j, ej, rfl⟩ := eg
      unfold idxD at ej
      split at ej
      · rename_i c
        rw [List.findIdx?_eq_some_iff_getElem] at ej
        obtain ⟨hj, hz, hno⟩ := ej
        refine ⟨a, v2, d2, ds, j, ds[j], rfl, rfl, (q1.go y2 hr).dp c.2, q2.dp c.1, c.2, c.1, List.getElem?_eq_getElem hj, hz, fun m z' hm hz' => ?_, q.flat R2 (.int _)⟩
        rw [List.getElem?_eq_getElem (by omega)] at hz'
        rw [← Option.some.inj hz']
        exact Bool.eq_false_iff.mpr (hno m hm)
      · cases ej
    · exact h1.elim⟩
end
end Vs

set_option Elab.async false
set_option linter.all false
set_option maxRecDepth 100000
set_option maxHeartbeats 4000000
namespace Vs
open PySem PySem.Spec PyProof.Rows L2 HotX L2H
/-! ### kinds = [isinstance(e, X), ..] -/
section
variable {X : Cx} {T : Addr → Prop} {i j : Nat} {x cn y : Str} {a D : Addr} {oe : Obj} {b : Bool} {bs : List Bool} {es : List Expr} {p px pc pos py pl ps : Pos} {k : Nat}
theorem pe_isE (hp : (a, oe) ∈ X.pn) (C : ExcC X.K D) (hz : Zc (.ref D) none oe) (hf : ∃ vs, oe.data = .fields vs) (hg : Gl X "isinstance") (hm : X.mg "isinstance" = none) (hN : X.N[i]? = some x) (hv : Vis X.env.scope x)
    (hgc : Gl X cn) {c : Addr} (hmc : X.mg cn = some (.ref c)) (hk : PySem.W.kitOne X.K (.ref D) (.ref c) = some b) (hd : (x == ("__debug__" : Str)) = false := by decide) (hcd : (x == ("__classdict__" : Str)) = false := by decide) (hdc : (cn == ("__debug__" : Str)) = false := by decide)
    (hs : starEach [.Name x px, .Name cn pc] X.env = (false, eval (.Name x px) X.env) :: starEach [.Name cn pc] X.env := by rfl) (hs2 : starEach [.Name cn pc] X.env = (false, eval (.Name cn pc) X.env) :: starEach [] X.env := by rfl) (hpl : (backTo pos (starEach [.Name cn pc] X.env)).any (·.1) = false := by rfl) :
    PE X (.Call (.Name "isinstance" p) [.Name x px, .Name cn pc] [] pos) (fun σ H Q => σ[i]? = some (some (.ref a)) ∧ Q (.bl b) H) :=
  pe_weak (pe_callB (call_isE' hp C hz hf) hg hm boot_isinstance (pa_cons (pe_var hN hv hd hcd) (pa_cons (pe_glob (v := .ref c) hgc hmc rfl hdc) pa_nil hs2) hs) (by decide) (by decide) hs hpl) fun σ H Q ⟨e, q⟩ =>
    ⟨.ref a, e, .ref c, .ref c, b, rfl, fun u r => r, hk, q⟩
/-- the calls, one by one -/
structure Kinds (X : Cx) (i : Nat) (a : Addr) (es : List Expr) (bs : List Bool) : Prop where
  pa : PA X es (fun σ H Q => σ[i]? = some (some (.ref a)) ∧ Q (bs.map V.bl) H)
theorem pa_weak' {t t' : TA} (h : PA X es t) (w : ∀ σ H Q, t' σ H Q → t σ H Q) : PA X es t' := ⟨fun pos pins s σ H Q I q => h.run pos pins s σ H Q I (w σ H Q q)⟩
theorem Kinds.nil : Kinds X i a [] [] := ⟨pa_weak' pa_nil fun σ H Q ⟨_, q⟩ => q⟩
theorem Kinds.cons {e : Expr} (h : PE X e (fun σ H Q => σ[i]? = some (some (.ref a)) ∧ Q (.bl b) H)) (t : Kinds X i a es bs) (hs : starEach (e :: es) X.env = (false, eval e X.env) :: starEach es X.env := by rfl) : Kinds X i a (e :: es) (b :: bs) :=
  ⟨pa_weak' (pa_cons h t.pa hs) fun σ H Q ⟨e, q⟩ => ⟨e, e, q⟩⟩
def tKin (i j : Nat) (a : Addr) (bs : List Bool) : TS := fun D σ H => σ[i]? = some (some (.ref a)) ∧ ∀ q, H q = none → D.nx (σ.set j (some (.ref q))) (upd H q (.lst (bs.map V.bl)))
theorem ps_kinds (hN : X.N.Nodup) (hj : X.N[j]? = some y) (hy : Loc X.env.scope y) (h : Kinds X i a es bs) (hb : bs.length ≤ 100) (hs : swapsWith (.List es pl) (some (.Name y py)) ps.line X.env = pure false := by rfl) (hf : X.fn y = true ∨ X.env.scope.names.lookup y = some .local := by first | exact .inl rfl | exact .inr rfl | assumption) :
    PS X (.Assign [.Name y py] (.List es pl) ps) (tKin i j a bs) :=
  ps_weak (ps_set hN hj hy (pe_lst h.pa) hs hf) fun D σ H ⟨e, q⟩ => ⟨e, by rw [List.length_map, sizeLine_eq]; omega, fun p hp => q p hp⟩
end
/-! ### the def as a whole -/
theorem bools_rep {K : PySem.W.Frag} {B : Addr → Prop} {H : Hp} : ∀ bs : List Bool, RepA K B H (bs.map .bool) (bs.map V.bl)
  | [] => .nil
  | b :: bs => .cons (.bl b) (bools_rep bs)
def stW (n j : Nat) (bs : List Bool) : Sts := (List.replicate n Sl.un).set j (.im (.list (bs.map .bool)))
theorem stW_get {n j i : Nat} {bs : List Bool} {s : Sl} (h : (stW n j bs)[i]? = some s) : s = .un ∨ (i = j ∧ s = .im (.list (bs.map .bool))) := by
  unfold stW at h
  by_cases e : j = i
  · subst e
    rw [List.getElem?_set] at h
    simp only [if_true] at h
    split at h
    · exact .inr ⟨rfl, (Option.some.inj h).symm⟩
    · cases h
  · rw [List.getElem?_set_ne e, List.getElem?_replicate] at h
    split at h
    · exact .inl (Option.some.inj h).symm
    · cases h
theorem stW_own {n j i : Nat} {bs : List Bool} : getO (stW n j bs) i = none := by
  unfold getO
  cases h : (stW n j bs)[i]? with
  | none => rfl
  | some s => rcases stW_get h with rfl | ⟨_, rfl⟩ <;> rfl
theorem word_rep {K : PySem.W.Frag} {T : Addr → Prop} {H : Hp} {σ : L2.St} {n j : Nat} {bs : List Bool} {r : Addr} (hl : σ.length = n) (hj : j < n) (hr : H r = none) (ht : ∀ a, T a → GxR.TabG H a) :
    RepS K T (fun _ => False) (upd H r (.lst (bs.map V.bl))) (σ.set j (some (.ref r))) (stW n j bs) := by
  have no : ∀ b, ¬ Bd (fun _ => False) (σ.set j (some (.ref r))) (stW n j bs) b := fun b z => by
    rcases z with z | ⟨i, d, z, _⟩
    · exact z
    · rw [Owd, stW_own] at z; cases z
  refine ⟨fun a z => z.elim, by rw [List.length_set]; unfold stW; rw [List.length_set, List.length_replicate]; exact hl, fun i d h => ?_, fun i d h => ?_, fun i ns h => ?_, fun i i2 d e a h => ?_, fun a h => tab_upd hr (ht a h)⟩
  · rcases stW_get h with e | ⟨rfl, e⟩
    · cases e
    · cases e
      exact ⟨.ref r, List.getElem?_set_self (by omega), .lst (.inl upd_same) (no r) (bools_rep bs)⟩
  · rw [Owd, stW_own] at h; cases h
  · rcases stW_get h with e | ⟨rfl, e⟩ <;> cases e
  · rw [Owd, stW_own] at h; cases h
theorem word_ok {P : Program} {w : World} {K : PySem.W.Frag} {mg : Str → Option Value} {base : Heap} {T : Addr → Prop} {wd : Value → Option Str} {kd : Addr → List Bool} {k j : Nat} {f : Addr} {fd : FuncData} {x qual q : Str} {s s1 : Stmt} {rest : List Stmt} {N : List Str} {fr : Es'}
    (Fn : FunD K x qual (defArgs s) (defBody s) (defScope s) [] [] f fd) (S : FnScope N [q] (defScope s)) (hbd : defBody s = s1 :: rest) (hj : j < N.length)
    (h1 : ∀ (A : Around) (outer : List Env) (sh : Shared) (H : Hp) (p : Addr × Obj) (C : Addr) (z : Str), Hot1 A p → Zc (.ref C) none p.2 → wd (.ref C) = some z → PS (cxH (L2N.CX P w) P w K mg base N qual (defScope s) f fd.code A outer sh H (fun _ _ _ => False) p) s1 (tKin 0 j p.1 (kd C)))
    (h2 : ∀ (A : Around) (outer : List Env) (sh : Shared) (H : Hp) (p : Addr × Obj), Hot1 A p → RoomH k (A.deeper (envOfC qual (defScope s) sh.heap.objs.size f fd.code)) → VSs (cxH (L2N.CX P w) P w K mg base N qual (defScope s) f fd.code A outer sh H (fun _ _ _ => False) p) T WN rest fr)
    (h3 : ∀ C z, wd (.ref C) = some z → ∃ st, fr (stW N.length j (kd C)) = .rt (.str z) st) : FnW P w K mg base T (k + 1) f fd q wd := by
  obtain ⟨oc, od, dV, kV, doc, pm, an, cdv, ct, osl, rfl, lk, hcd, _, _⟩ := Fn.ex
  refine fn_ofW lk hcd S fun A outer sh H Q p C z hot hz hr hwd htab hq => ?_
  refine ⟨tSeq (tKin 0 j p.1 (kd C)) (tVS _ T WN fr), by rw [hbd]; exact pss_cons (h1 A outer sh H p C z hot hz hwd) (h2 A outer sh H p hot hr).ps, ?_⟩
  obtain ⟨st', e3⟩ := h3 C z hwd
  have hl : (L2.start N [V.ref p.1]).length = N.length := by
    unfold L2.start
    have : 1 ≤ N.length := by omega
    rw [List.length_append, List.length_map, List.length_replicate, List.length_singleton]
    omega
  refine ⟨start_get rfl, fun r hr0 => ?_⟩
  have R := word_rep (K := K) (T := T) (σ := L2.start N [V.ref p.1]) (bs := kd C) hl hj hr0 htab
  refine ⟨fun _ => False, stW N.length j (kd C), R, ?_⟩
  rw [e3]
  intro v σ' H' R' y rv
  cases rv
  refine hq H' (Kp.trans (M := fun _ => False) (M' := fun _ => False) (Kp.upd hr0) (y.kp.mono fun b z => ?_) fun b z => .inl z) R'.tab
  obtain ⟨i, d, z, _⟩ := z
  rw [Owd, stW_own] at z
  cases z
end Vs

set_option Elab.async false
set_option linter.all false
set_option maxRecDepth 100000
set_option maxHeartbeats 4000000
namespace Vs
open PySem PySem.Spec PyProof.Rows L2 HotX L2H
/-! ### try: .. except X as n: return word(n) -/
section
variable {X : Cx} {T : Addr → Prop} {W : Wx}
theorem pe_callW {k i : Nat} {f : Addr} {fd : FuncData} {q x n : Str} {wd : Value → Option Str} {a : Addr} {oe : Obj} {cls : Value} {d : Option Addr} {p np pos : Pos} (Fw : FnW X.prog X.w X.K X.mg X.base T k f fd q wd) (hr : RoomH k X.A) (hot : Hot1 X.A (a, oe)) (hp : (a, oe) ∈ X.pn) (hz : Zc cls d oe)
    (hg : Gl X x) (hm : X.mg x = some (.ref f)) (hk : PySem.W.keepIn X.K (.ref f) = true) (hb : Binds X.K fd [q] []) (hN : X.N[i]? = some n) (hv : Vis X.env.scope n)
    (hdb : (x == ("__debug__" : Str)) = false := by decide) (hd : (n == ("__debug__" : Str)) = false := by decide) (hcd : (n == ("__classdict__" : Str)) = false := by decide)
    (he : starEach [.Name n np] X.env = (false, eval (.Name n np) X.env) :: starEach [] X.env := by rfl) (hpl : (backTo pos (starEach [] X.env)).any (·.1) = false := by rfl) (hx : ∀ e s H s0, L2N.CX X.prog X.w X.stack H s0 (fun _ _ _ => False) e s → False) :
    PE X (.Call (.Name x p) [.Name n np] [] pos) (fun σ H Q => σ[i]? = some (some (.ref a)) ∧ ∃ C z, cls = .ref C ∧ d = none ∧ wd (.ref C) = some z ∧ (∀ t, T t → GxR.TabG H t) ∧ ∀ H', Kp (fun _ => False) H H' → (∀ t, T t → GxR.TabG H' t) → Q (.str z) H') := by
  refine ⟨fun pins s σ H Q I h => ?_⟩
  obtain ⟨e, C, z, rfl, rfl, hwd, ht, q⟩ := h
  refine wpAny_Call_Name_kw (ld_glob I hg hm ?_ hdb)
  refine PySem.W.callWith_K (h₀ := X.base) I.ok.mod.kin hk (thn ((pa_cons (pe_var hN hv hd hcd) pa_nil he).run pos pins s σ H (fun vs H1 => vs = [.ref a] ∧ H1 = H) I ⟨.ref a, e, rfl, rfl⟩) fun us s1 ⟨vs, H1, I1, r, ev⟩ => ⟨I1.kIn, ?_⟩) he hpl
  obtain ⟨rfl, rfl⟩ := ev
  obtain ⟨u, rfl, ru⟩ := vals1 r
  cases ru
  have b := hb s1 [.ref a] I1.kIn rfl
  rw [List.append_nil] at b
  have P1 := I1.pin (a, oe) (List.mem_append_left _ hp)
  have hpin : PinOk X.stack H1 s1 (a, oe) := ⟨P1.1, P1.2.1, fun hm => (List.mem_cons.mp (I1.stkSub a hm)).elim P1.2.2.1 P1.2.2.2.1, P1.2.2.2.2⟩
  refine wpAny_call (codeAny_mono (Fw.run X.A X.stack s1 H1 ⟨[.ref a], []⟩ Q (a, oe) C z hr hot hz hpin I1.env0 b hwd ht q) fun r s' hq => ?_)
  cases r with
  | error e => exact (hx e s' H1 s1 hq).elim
  | ok fl =>
    cases fl with
    | ret u => exact I1.after hq
    | next => exact False.elim hq
    | brk => exact False.elim hq
    | cont => exact False.elim hq
def sTry (i : Nat) (wdN : Str → Option Str) (fb : Es') : Es' := fun st => match fb st with
  | .exc c st' => if i < st'.length then (match wdN c with
    | some z => .rt (.str z) st'
    | none => .bad) else .bad
  | o => o
theorem VS.tryW {k i : Nat} {f : Addr} {fd : FuncData} {q x xs n : Str} {wd : Value → Option Str} {wdN : Str → Option Str} {c : Value} {body : List Stmt} {fb : Es'} {p np np2 cpos rpos pos' pos : Pos}
    (hs : X.stack = X.env :: X.outer) (hf : X.env.frame = some X.env.locals) (hN : X.N.Nodup) (hi : X.N[i]? = some n) (hln : X.env.kindOf n = some .local) (hln2 : X.env.scope.names.lookup n = some .local) (hc : Names X xs c) (tk : L2N.Takes X W)
    (hb : ∀ (W' : Wx) (pn : List (Addr × Obj)) (xe : Value → Shared → Prop), L2N.Takes (X.tr pn xe) W' → PassesOwn (model X.prog X.w) X.A X.env xe → VSs (X.tr pn xe) T W' body fb)
    (Fw : FnW X.prog X.w X.K X.mg X.base T k f fd q wd) (hr : RoomH k X.A) (hg : Gl X x) (hm : X.mg x = some (.ref f)) (hk : PySem.W.keepIn X.K (.ref f) = true) (hbi : Binds X.K fd [q] [])
    (hsub : ∀ C z, wd (.ref C) = some z → PySem.W.exmOne X.K (.ref C) c = some true) (hname : ∀ nm C z, X.mg nm = some (.ref C) → wdN nm = some z → wd (.ref C) = some z)
    (hdb : (x == ("__debug__" : Str)) = false := by decide) (hd : (n == ("__debug__" : Str)) = false := by decide) (hcd : (n == ("__classdict__" : Str)) = false := by decide)
    (he : starEach [.Name n np2] X.env = (false, eval (.Name n np2) X.env) :: starEach [] X.env := by rfl) (hpl : (backTo cpos (starEach [] X.env)).any (·.1) = false := by rfl) :
    VS X T W (.Try body [.ExceptHandler (some (.Name xs np)) (some n) [.Return (some (.Call (.Name x p) [.Name n np2] [] cpos)) rpos] pos'] [] [] pos) (sTry i wdN fb) := by
  have hx : ∀ e s H s0, L2N.CX X.prog X.w X.stack H s0 (fun _ _ _ => False) e s → False := fun e s H s0 h => by
    obtain ⟨_, _, _, _, _, _, _, _, _, _, _, _, z⟩ := h
    exact z
  refine ⟨ps_weak (L2N.ps_try_as (Wout := W) (i := i) (tb := fun W' => tVS X T W' fb) (ts := fun a cls d D σ H => σ[i]? = some (some (.ref a)) ∧ ∃ C z, cls = .ref C ∧ d = none ∧ wd (.ref C) = some z ∧ (∀ t, T t → GxR.TabG H t) ∧ ∀ H', Kp (fun _ => False) H H' → (∀ t, T t → GxR.TabG H' t) → D.rt (.str z) H')
    hs hf hN hi hln hc tk (fun W' pn xe t po => (hb W' pn xe t po).ps) (fun a oe cls d pn hz hd' => ?_)) fun D σ H ⟨F, st, R, q⟩ => ⟨F, st, R, ?_⟩⟩
  · obtain ⟨vs, hvs⟩ := hd'
    have hot : Hot1 (X.suite a ((a, oe) :: pn)).A (a, oe) := ⟨rfl, vs, hvs, hz.2.2 vs hvs⟩
    exact pss_one (ps_ret (pe_callW (X := X.suite a ((a, oe) :: pn)) (T := T) (i := i) Fw ⟨hr.dp, hr.un⟩ hot (List.mem_cons_self ..) hz.zc hg hm hk hbi hi (.inl hln2) hdb hd hcd he hpl hx))
  · unfold sTry at q
    cases e : fb st with
    | nx st' => rw [e] at q; exact q
    | bk st' => rw [e] at q; exact q
    | ct st' => rw [e] at q; exact q
    | rt d st' => rw [e] at q; exact q
    | rf d st' => rw [e] at q; exact q
    | bad => rw [e] at q; exact q
    | exc nm st' =>
      rw [e] at q
      intro σ' H' C hC R' y
      dsimp only at q
      split at q
      case isFalse => exact q.elim
      rename_i hlt
      cases ew : wdN nm with
      | none => rw [ew] at q; exact q.elim
      | some z =>
        rw [ew] at q
        have hwd := hname nm C z hC ew
        refine ⟨true, hsub C z hwd, fun _ a ha => ⟨?_, C, z, rfl, rfl, hwd, R'.tab, fun H'' k t => ?_⟩, fun h => by cases h⟩
        · exact List.getElem?_set_self (by
            have h1 := R'.len
            omega)
        · have R'' := R'.kept k fun P hP _ => t P hP
          exact q (.str z) σ' H'' R'' (y.trans (XGo.same (m := false) k).sgo) (.str z)
end
end Vs

set_option Elab.async false
set_option linter.all false
set_option maxRecDepth 100000
set_option maxHeartbeats 4000000
namespace Vs
open PySem PySem.Spec PyProof.Rows L2 HotX L2H
/-! ### the classes of errors: facts of the module -/
def excCB (K : PySem.W.Frag) (D : Addr) : Bool := decide (PySem.W.findIn K (.ref D) "__getattribute__" = some (some (.builtin "BaseException.__getattribute__"))) && (decide (PySem.W.findIn K (.ref D) "__getattr__" = some none) && (decide (PySem.W.subIn K (.ref D) (.type "BaseException") = some true) &&
  (PySem.W.hasDictIn K D && (decide (PySem.W.findIn K (.ref D) "__class__" = some (some (.builtin "object.__class__"))) && (decide (PySem.W.specialIn K (.builtin "object.__class__") "__get__" = some (some (.builtin "getset_descriptor.__get__"))) &&
  (decide (PySem.W.takesIn K (.builtin "object.__class__") = some true) && decide (PySem.W.mroIn K D (.type "object") = some true)))))))
theorem excC_of {K : PySem.W.Frag} {D : Addr} (h : excCB K D = true) : ExcC K D := by
  unfold excCB at h
  simp only [Bool.and_eq_true, decide_eq_true_eq] at h
  obtain ⟨h1, h2, h3, h4, h5, h6, h7, h8⟩ := h
  exact ⟨h1, h2, h3, h4, h5, h6, h7, h8⟩
/-- b: the class that the clauses name; cs: the classes that are told apart -/
def wfB (K : PySem.W.Frag) (b : Str) (cs : List Str) : Bool := cs.all fun c => excCB K (He.ga K c) && (decide (PySem.W.exmOne K (.ref (He.ga K c)) (.ref (He.ga K b)) = some true) && cs.all fun c' => decide (PySem.W.kitOne K (.ref (He.ga K c)) (.ref (He.ga K c')) = some (decide (c = c'))))
structure WF (K : PySem.W.Frag) (b : Str) (cs : List Str) : Prop where
  ex : ∀ c ∈ cs, ExcC K (He.ga K c)
  sub : ∀ c ∈ cs, PySem.W.exmOne K (.ref (He.ga K c)) (.ref (He.ga K b)) = some true
  kit : ∀ c ∈ cs, ∀ c' ∈ cs, PySem.W.kitOne K (.ref (He.ga K c)) (.ref (He.ga K c')) = some (decide (c = c'))
theorem wf_of {K : PySem.W.Frag} {b : Str} {cs : List Str} (h : wfB K b cs = true) : WF K b cs := by
  have h' := List.all_eq_true.mp h
  refine ⟨fun c hc => ?_, fun c hc => ?_, fun c hc c' hc' => ?_⟩
  · have := h' c hc
    simp only [Bool.and_eq_true] at this
    exact excC_of this.1
  · have := h' c hc
    simp only [Bool.and_eq_true, decide_eq_true_eq] at this
    exact this.2.1
  · have := h' c hc
    simp only [Bool.and_eq_true] at this
    exact of_decide_eq_true (List.all_eq_true.mp this.2.2 c' hc')
/-- the class at C, by its name -/
def nmA (K : PySem.W.Frag) (cs : List Str) (C : Addr) : Option Str := cs.find? fun c => He.ga K c == C
def kdA (K : PySem.W.Frag) (cs : List Str) (C : Addr) : List Bool := match nmA K cs C with
  | some c => cs.map fun c' => decide (c = c')
  | none => []
def wdA (K : PySem.W.Frag) (cs : List Str) (wdN : Str → Option Str) (v : Value) : Option Str := match v with
  | .ref C => (nmA K cs C).bind wdN
  | _ => none
section
variable {K : PySem.W.Frag} {b : Str} {cs : List Str} {wdN : Str → Option Str} {C : Addr} {c z : Str}
theorem nmA_some (h : nmA K cs C = some c) : c ∈ cs ∧ C = He.ga K c := by
  unfold nmA at h
  have h1 := List.find?_some h
  exact ⟨List.mem_of_find?_eq_some h, (by simpa using h1 : He.ga K c = C).symm⟩
theorem wdA_some (h : wdA K cs wdN (.ref C) = some z) : ∃ c, nmA K cs C = some c ∧ c ∈ cs ∧ C = He.ga K c ∧ wdN c = some z ∧ kdA K cs C = cs.map fun c' => decide (c = c') := by
  unfold wdA at h
  rw [Option.bind_eq_some_iff] at h
  obtain ⟨c, h1, h2⟩ := h
  obtain ⟨h3, h4⟩ := nmA_some h1
  exact ⟨c, h1, h3, h4, h2, by unfold kdA; rw [h1]⟩
theorem WF.inj (F : WF K b cs) {c' : Str} (h : c ∈ cs) (h' : c' ∈ cs) (e : He.ga K c = He.ga K c') : c = c' := by
  have k := F.kit c h c' h'
  rw [e] at k
  unfold PySem.W.kitOne at k
  rw [if_pos (by simp)] at k
  exact of_decide_eq_true (Option.some.inj k).symm
theorem WF.nm (F : WF K b cs) (h : c ∈ cs) : nmA K cs (He.ga K c) = some c := by
  cases e : nmA K cs (He.ga K c) with
  | none =>
    unfold nmA at e
    rw [List.find?_eq_none] at e
    exact absurd (by simp : (He.ga K c == He.ga K c) = true) (e c h)
  | some d =>
    obtain ⟨h1, h2⟩ := nmA_some e
    rw [F.inj h h1 h2]
theorem WF.wd (F : WF K b cs) (h : c ∈ cs) (hz : wdN c = some z) : wdA K cs wdN (.ref (He.ga K c)) = some z := by
  show (nmA K cs (He.ga K c)).bind wdN = some z
  rw [F.nm h]
  exact hz
/-- the two sides that VS.tryW asks -/
theorem WF.sub' (F : WF K b cs) : ∀ C z, wdA K cs wdN (.ref C) = some z → PySem.W.exmOne K (.ref C) (.ref (He.ga K b)) = some true := fun C z h => by
  obtain ⟨c, _, h1, rfl, _⟩ := wdA_some h
  exact F.sub c h1
theorem WF.name' (F : WF K b cs) {mg : Str → Option Value} (hmg : ∀ c ∈ cs, mg c = some (.ref (He.ga K c))) (hN : ∀ c z, wdN c = some z → c ∈ cs) : ∀ nm C z, mg nm = some (.ref C) → wdN nm = some z → wdA K cs wdN (.ref C) = some z := fun nm C z h1 h2 => by
  have hc := hN nm z h2
  rw [hmg nm hc] at h1
  have : He.ga K nm = C := by
    have := Option.some.inj h1
    exact Value.ref.inj this
  rw [← this]
  exact F.wd hc h2
end
end Vs
namespace Vs
open PySem L2 L2H
theorem hotU {k : Nat} {A : Around} (r : RoomH k A) (n : Nat) (h : n ≤ 200 := by decide) : A.units + n < cLine := by have := r.un; omega
end Vs

set_option Elab.async false
set_option linter.all false
set_option maxRecDepth 100000
set_option maxHeartbeats 4000000
namespace Vs
open PySem PySem.Spec PyProof.Rows L2
/-! ### gcd(a, b) -/
def gcdD : List D → Option D
  | [.int a, .int b] => some (.int ((Nat.gcd a.natAbs b.natAbs : Nat) : Int))
  | _ => none
section
variable {X : Cx} {T : Addr → Prop} {W : Wx} {m : Bool} {fa : Ea} {x : Str} {p pos : Pos} {e : Expr} {es : List Expr}
theorem v_gcd : CallV X T false rGcd gcdD := by
  intro F σ H st xs ds d Q R q e k
  unfold gcdD at e
  split at e
  · cases e
    obtain ⟨v, u, rfl, q2, q3⟩ := RepL.two q
    exact ⟨_, _, by rw [q2.isI, q3.isI], k.flat R (.int _)⟩
  · cases e
theorem VE.gcd (hg : Gl X x) (hm : X.mg x = some (.builtin "math.gcd")) (ha : VA X T W m false (e :: es) fa) (hdb : (x == ("__debug__" : Str)) = false := by decide)
    (he : starEach (e :: es) X.env = (false, eval e X.env) :: starEach es X.env := by rfl) (hpl : (backTo pos (starEach es X.env)).any (·.1) = false := by rfl) : VE X T W m false (.Call (.Name x p) (e :: es) [] pos) (Vs.callB gcdD fa) :=
  ⟨pe_weak (pe_callBfun cr_gcd hg hm ha.pa hdb he hpl) fun σ H Q ⟨F, st, R, q⟩ => tCB_of v_gcd R q⟩
end
def bltB (K : PySem.W.Frag) (x : Str) (id : String) : Bool := decide (PySem.W.nsIn K mainGlobals x = some (some (.builtin id)))
theorem blt_of {K : PySem.W.Frag} {h : Heap} {mg : Str → Option Value} (X : K.In h) (G : h.Ns mainGlobals mg) {x : Str} {id : String} (c : bltB K x id = true) : mg x = some (.builtin id) := PySem.W.mg_of X G (of_decide_eq_true c)
end Vs

set_option Elab.async false
set_option linter.all false
set_option maxRecDepth 100000
set_option maxHeartbeats 4000000
namespace Vs
open PySem PySem.Spec PyProof.Rows L2
/-! ### x *= e, x //= e for ints -/
def ipC (C : Int → Int → Prop) (f : Int → Int → Int) : TIp := fun x y H Q => ∃ i j, x = .int i ∧ y = .int j ∧ C i j ∧ Q (.int (f i j)) H
section
variable {X : Cx}
theorem ip_mul : PIp X .Mult (ipC CMulX fun i j => i * j) := by
  intro pins s σ H x y v u Q I r1 r2 h
  obtain ⟨i, j, e1, e2, c, q⟩ := h
  subst e1; subst e2
  obtain ⟨t, rfl⟩ := r1
  obtain ⟨t', rfl⟩ := r2
  exact imul_int ⟨.int _, H, I.tok _, ⟨_, rfl⟩, q⟩ c.ok
theorem ip_fdiv : PIp X .FloorDiv (ipC CDivW fun i j => i / j) := by
  intro pins s σ H x y v u Q I r1 r2 h
  obtain ⟨i, j, e1, e2, c, q⟩ := h
  subst e1; subst e2
  obtain ⟨t, rfl⟩ := r1
  obtain ⟨t', rfl⟩ := r2
  have h1 : (0 : Int) < j := c.1
  exact ifloordiv_int (by omega) (by rw [Int.fdiv_eq_ediv_of_nonneg i (by omega)]; exact ⟨.int _, H, I.tok _, ⟨_, rfl⟩, q⟩) (.inl (PyProof.noPylong_of_log2 c.2))
theorem av_mul : AugV X (ipC CMulX fun i j => i * j) (ii mulOk fun i j => .int (i * j)) := by
  intro T F σ H st x y dx dy d Q R rx ry e k
  obtain ⟨i, j, rfl, rfl, c, rfl⟩ := ii_some e
  cases rx; cases ry
  have h' := of_decide_eq_true c
  exact ⟨i, j, rfl, rfl, by unfold CMulX; omega, k.flat R (.int _)⟩
theorem av_fdiv : AugV X (ipC CDivW fun i j => i / j) (ii divOk fun i j => .int (i / j)) := by
  intro T F σ H st x y dx dy d Q R rx ry e k
  obtain ⟨i, j, rfl, rfl, c, rfl⟩ := ii_some e
  cases rx; cases ry
  exact ⟨i, j, rfl, rfl, (of_decide_eq_true c : 0 < j ∧ j.natAbs.log2 < 9000), k.flat R (.int _)⟩
end
/-! ### xs.count(y), ints -/
def cntD (ds : List D) (d : D) : Option D := match intsOf ds, d with
  | some ns, .int k => some (.int ((ns.count k : Nat) : Int))
  | _, _ => none
def cnt (fo fe : Ev) : Ev := fun st => (fo st).bind fun x st1 => match x with
  | .list ds => (fe st1).bind fun d st2 => ofO (cntD ds d) st2
  | _ => .bad
section
variable {X : Cx} {T : Addr → Prop} {W : Wx} {m1 m2 r r1 : Bool} {o e : Expr} {fo fe : Ev} {apos cpos : Pos}
theorem VE.cnt (ho : VE X T W m1 r o fo) (he : VE X T W m2 false e fe) (hr : r = true → m2 = false := by first | (intro h; cases h; done) | (intro _; rfl))
    (hbase : attributeBase o "count" X.env (eval o X.env) = eval o X.env := by rfl)
    (hfew : ((backTo cpos (starEach [e] X.env)).all (fun x => !x.1) && (backToKw cpos (keywordEach [] X.env)).all (fun x => x.1.isSome)
      && decide (([e] : List Expr).length + ([] : List Keyword).length + (if ([] : List Keyword).isEmpty then 0 else 1) < 30)) = true := by rfl)
    (hline : (apos.endLine == cpos.line) = true := by rfl) (hs : starEach [e] X.env = (false, eval e X.env) :: starEach [] X.env := by rfl) (hplain : (backTo cpos (starEach [] X.env)).any (·.1) = false := by rfl) :
    VE X T W (m1 || m2) r1 (.Call (.Attribute o "count" apos) [e] [] cpos) (Vs.cnt fo fe) :=
  ⟨pe_weak (pe_bm F.plainAttrs_list F.slot_list_count F.type_list_count mt_lcount ho.pe (pa_cons he.pe pa_nil hs) hbase hfew hline hs hplain) fun σ H Q ⟨F, st, R, q⟩ => by
    refine tG.first (m0 := m1) R q fun d1 st1 v1 H1 e1 R1 y1 q1 h1 => ?_
    split at h1
    · rename_i ds
      obtain ⟨a, us, rfl, s1, p1⟩ := q1.isL
      refine ⟨.inl ⟨rfl, us, .inl s1⟩, ?_⟩
      refine tG.first (m0 := m2) R1 (h1.back' (m2 := m2) y1) fun d2 st2 v2 H2 e2 R2 y2 q2 h2 => ?_
      obtain ⟨d, eg, q⟩ := RG.fin y2 h2 id
      unfold cntD at eg
      split at eg
      · rename_i ns k en
        cases eg
        obtain ⟨a2, us2, ea, s2, p2⟩ := (q1.go y2 hr).isL
        cases ea
        rw [intsOf_some en] at p2
        have := p2.isInts
        subst this
        exact ⟨a, ns, k, rfl, by rw [q2.isI], .inl s2, q.flat R2 (.int _)⟩
      · cases eg
    · exact h1.elim⟩
end
end Vs

set_option Elab.async false
set_option linter.all false
set_option maxRecDepth 100000
set_option maxHeartbeats 4000000
namespace Vs
open PySem PySem.Spec PyProof.Rows L2
open PySem.W (Datum DatumOrd Tup)
/-! ### typed values -/
section
variable {α β γ σ : Type}
def eT (e : α → D) (xs : List α) : D := .tuple (xs.map e)
def eL (e : α → D) (xs : List α) : D := .list (xs.map e)
def eP (e : α → D) (f : β → D) (p : α × β) : D := .tuple [e p.1, f p.2]
def eP3 (e : α → D) (f : β → D) (g : γ → D) (p : α × β × γ) : D := .tuple [e p.1, f p.2.1, g p.2.2]
def eP4 {δ : Type} (e : α → D) (f : β → D) (g : γ → D) (h : δ → D) (p : α × β × γ × δ) : D := .tuple [e p.1, f p.2.1, g p.2.2.1, h p.2.2.2]
def eO (e : α → D) : Option α → D
  | none => .none
  | some a => e a
def ix [Inhabited α] (xs : List α) (i : Int) : α := xs.getD i.toNat default
def lst [Inhabited α] (xs : List α) : α := xs.getLastD default
def en (xs : List α) : List (Int × α) := xs.zipIdx.map fun p => ((p.2 : Int), p.1)
def rgI (i j : Int) : List Int := (List.range (j - i).toNat).map fun (k : Nat) => i + (k : Int)
def mxI : List Int → Int
  | [] => 0
  | x :: xs => PySem.W.maxOf x xs
def mnI : List Int → Int
  | [] => 0
  | x :: xs => PySem.W.minOf x xs
/-! what is equal -/
structure EqE (n : Nat) (e : α → D) : Prop where
  ex : ∃ (τ : Type) (i1 : DecidableEq τ) (i2 : Datum τ) (_ : LayD τ) (c : α → τ), Datum.depth τ ≤ n ∧ (∀ a b, c a = c b → a = b) ∧ ∀ a, e a = Datum.toD (c a)
theorem eqe_I : EqE 4 PyData.int := ⟨Int, inferInstance, inferInstance, inferInstance, id, by decide, fun _ _ h => h, fun _ => rfl⟩
theorem eqe_B : EqE 4 PyData.bool := ⟨Bool, inferInstance, inferInstance, inferInstance, id, by decide, fun _ _ h => h, fun _ => rfl⟩
theorem eqe_T {n : Nat} {e : α → D} (h : EqE n e) : EqE (n + 1) (eT e) := by
  obtain ⟨τ, i1, i2, i3, c, h1, h2, h3⟩ := h
  refine ⟨Tup τ, inferInstance, inferInstance, inferInstance, fun xs => ⟨xs.map c⟩, Nat.succ_le_succ h1, fun a b h => ?_, fun a => ?_⟩
  · have := congrArg Tup.items h
    exact (List.map_inj_right h2).mp this
  · show PyData.tuple _ = PyData.tuple ((a.map c).map _)
    rw [List.map_map]
    congr 1
    exact List.map_congr_left fun x _ => h3 x
theorem eqe_L {n : Nat} {e : α → D} (h : EqE n e) : EqE (n + 1) (eL e) := by
  obtain ⟨τ, i1, i2, i3, c, h1, h2, h3⟩ := h
  refine ⟨List τ, inferInstance, inferInstance, inferInstance, fun xs => xs.map c, Nat.succ_le_succ h1, fun a b h => ?_, fun a => ?_⟩
  · exact (List.map_inj_right h2).mp h
  · show PyData.list _ = PyData.list ((a.map c).map _)
    rw [List.map_map]
    congr 1
    exact List.map_congr_left fun x _ => h3 x
theorem eqe_P {n m : Nat} {e : α → D} {f : β → D} (h : EqE n e) (g : EqE m f) : EqE (max n m + 1) (eP e f) := by
  obtain ⟨τ, i1, i2, i3, c, h1, h2, h3⟩ := h
  obtain ⟨τ', j1, j2, j3, c', g1, g2, g3⟩ := g
  refine ⟨τ × τ', inferInstance, inferInstance, inferInstance, fun p => (c p.1, c' p.2), ?_, fun a b h => ?_, fun a => ?_⟩
  · show max _ _ + 1 ≤ _
    omega
  · have h := Prod.mk.inj h
    exact Prod.ext (h2 _ _ h.1) (g2 _ _ h.2)
  · show PyData.tuple _ = PyData.tuple _
    rw [h3, g3]
theorem eq_l {n : Nat} {e : α → D} [DecidableEq α] (h : EqE n e) (a b : α) (hn : n ≤ 64 := by decide) : eqD (e a) (e b) = some (.bool (decide (a = b))) := by
  obtain ⟨τ, i1, i2, i3, c, h1, h2, h3⟩ := h
  rw [h3, h3, eqD_toD _ _ (by omega)]
  congr 2
  exact decide_eq_decide.mpr ⟨h2 a b, fun h => by rw [h]⟩
theorem ne_l {n : Nat} {e : α → D} [DecidableEq α] (h : EqE n e) (a b : α) (hn : n ≤ 64 := by decide) : neD (e a) (e b) = some (.bool (!decide (a = b))) := by
  obtain ⟨τ, i1, i2, i3, c, h1, h2, h3⟩ := h
  rw [h3, h3, neD_toD _ _ (by omega)]
  congr 3
  exact decide_eq_decide.mpr ⟨h2 a b, fun h => by rw [h]⟩
theorem inT_l {n : Nat} {e : α → D} [DecidableEq α] (h : EqE n e) (a : α) (xs : List α) (hn : n ≤ 63 := by decide) : isIn (e a) (eT e xs) = some (.bool (decide (a ∈ xs))) := by
  obtain ⟨τ, i1, i2, i3, c, h1, h2, h3⟩ := h
  have e1 : eT e xs = .tuple ((xs.map c).map Datum.toD) := by
    unfold eT; rw [List.map_map]; congr 1; exact List.map_congr_left fun x _ => h3 x
  rw [e1, h3, isIn_s, in_T (c a) (xs.map c) (by omega) (show Datum.depth τ + 1 ≤ 64 by omega)]
  rw [Option.map_some]
  congr 2
  exact decide_eq_decide.mpr ⟨fun h => by obtain ⟨b, hb, e⟩ := List.mem_map.mp h; rw [← h2 _ _ e]; exact hb, fun h => List.mem_map.mpr ⟨a, h, rfl⟩⟩
theorem inL_l {n : Nat} {e : α → D} [DecidableEq α] (h : EqE n e) (a : α) (xs : List α) (hn : n ≤ 63 := by decide) : isIn (e a) (eL e xs) = some (.bool (decide (a ∈ xs))) := by
  obtain ⟨τ, i1, i2, i3, c, h1, h2, h3⟩ := h
  have e1 : eL e xs = .list ((xs.map c).map Datum.toD) := by
    unfold eL; rw [List.map_map]; congr 1; exact List.map_congr_left fun x _ => h3 x
  rw [e1, h3, isIn_s, in_L (c a) (xs.map c) (by omega) (show Datum.depth τ + 1 ≤ 64 by omega)]
  rw [Option.map_some]
  congr 2
  exact decide_eq_decide.mpr ⟨fun h => by obtain ⟨b, hb, e⟩ := List.mem_map.mp h; rw [← h2 _ _ e]; exact hb, fun h => List.mem_map.mpr ⟨a, h, rfl⟩⟩
theorem notIn_of {x y : D} {b : Bool} (h : isIn x y = some (.bool b)) : notIn x y = some (.bool (!b)) := by
  rw [isIn_s] at h
  rw [notIn_s]
  cases q : inD x y with
  | none => rw [q] at h; cases h
  | some c => rw [q] at h; cases h; rfl
theorem eqc_t {a b : Int} (h : a = b) : eqD (.int a) (.int b) = some (.bool true) := by rw [eqD_ii, decide_eq_true h]
theorem eqc_f {a b : Int} (h : ¬a = b) : eqD (.int a) (.int b) = some (.bool false) := by rw [eqD_ii, decide_eq_false h]
theorem nec_t {a b : Int} (h : ¬a = b) : neD (.int a) (.int b) = some (.bool true) := by rw [neD_ii, decide_eq_false h]; rfl
theorem nec_f {a b : Int} (h : a = b) : neD (.int a) (.int b) = some (.bool false) := by rw [neD_ii, decide_eq_true h]; rfl
/-! operations -/
theorem mul_n {a b : Int} (h : mulOk a b = true) : mulD (.int a) (.int b) = some (.int (a * b)) := by
  show (if mulOk a b = true then _ else none) = _
  rw [if_pos h]
theorem pow_n {a b : Int} (h : powOk a b = true) : powD (.int a) (.int b) = some (.int (a ^ b.toNat)) := by
  show (if powOk a b = true then _ else none) = _
  rw [if_pos h]
theorem fdiv_n {a b : Int} (h : divOk a b = true) : fdivD (.int a) (.int b) = some (.int (a / b)) := by
  show (if divOk a b = true then _ else none) = _
  rw [if_pos h]
theorem mod_n {a b : Int} (h : 0 < b) : modD (.int a) (.int b) = some (.int (a % b)) := modD_ii h
theorem mul_T (e : α → D) {xs : List α} {n : Int} (h : xs ≠ [] ∧ 2 ≤ n ∧ n ≤ 1000 ∧ xs.length ≤ 1000) : mulD (eT e xs) (.int n) = some (eT e (List.replicate n.toNat xs).flatten) := by
  show (if xs.map e ≠ [] ∧ 2 ≤ n ∧ n ≤ 1000 ∧ (xs.map e).length ≤ 1000 then some (PyData.tuple (List.replicate n.toNat (xs.map e)).flatten) else none) = _
  rw [if_pos ⟨by simpa using h.1, h.2.1, h.2.2.1, by rw [List.length_map]; exact h.2.2.2⟩]
  unfold eT
  rw [List.map_flatten, List.map_replicate]
theorem mul_L (e : α → D) {xs : List α} {n : Int} (h : -(2 ^ 63) ≤ n ∧ n < 2 ^ 63 ∧ xs.length * n.toNat ≤ 16777216) : mulD (eL e xs) (.int n) = some (eL e (List.replicate n.toNat xs).flatten) := by
  show (if -(2 ^ 63) ≤ n ∧ n < 2 ^ 63 ∧ (xs.map e).length * n.toNat ≤ sizeLine then some (PyData.list (List.replicate n.toNat (xs.map e)).flatten) else none) = _
  rw [if_pos ⟨h.1, h.2.1, by rw [List.length_map]; exact sz h.2.2⟩]
  unfold eL
  rw [List.map_flatten, List.map_replicate]
theorem len_T (e : α → D) (xs : List α) : lenD [eT e xs] = some (.int (xs.length : Int)) := by
  show some (PyData.int ((xs.map e).length : Int)) = _
  rw [List.length_map]
theorem len_L (e : α → D) (xs : List α) : lenD [eL e xs] = some (.int (xs.length : Int)) := by
  show some (PyData.int ((xs.map e).length : Int)) = _
  rw [List.length_map]
theorem getD_map [Inhabited α] (e : α → D) (xs : List α) {n : Nat} (h : n < xs.length) : (xs.map e)[n]? = some (e (xs.getD n default)) := by
  rw [List.getElem?_map, List.getD_eq_getElem?_getD, List.getElem?_eq_getElem h]; rfl
theorem at_T [Inhabited α] (e : α → D) {xs : List α} {i : Int} (h : 0 ≤ i ∧ i < xs.length) : atD (eT e xs) (.int i) = some (e (ix xs i)) := by
  unfold eT ix
  rw [(at_int h.1 (by rw [List.length_map]; exact h.2)).2, getD_map e xs (by omega)]
theorem at_L [Inhabited α] (e : α → D) {xs : List α} {i : Int} (h : 0 ≤ i ∧ i < xs.length) : atD (eL e xs) (.int i) = some (e (ix xs i)) := by
  unfold eL ix
  rw [(at_int h.1 (by rw [List.length_map]; exact h.2)).1, getD_map e xs (by omega)]
theorem lst_map [Inhabited α] (e : α → D) {xs : List α} (h : xs ≠ []) : (xs.map e).getLast (by simpa using h) = e (lst xs) := by
  rw [List.getLast_map]
  unfold lst
  rw [List.getLastD_eq_getLast?, List.getLast?_eq_some_getLast h]; rfl
theorem atlast_T [Inhabited α] (e : α → D) {xs : List α} (h : xs ≠ []) : atD (eT e xs) (.int (-1)) = some (e (lst xs)) := by
  have := (at_last (ds := xs.map e) (by simpa using h)).2
  rw [lst_map e h] at this
  exact this
theorem atlast_L [Inhabited α] (e : α → D) {xs : List α} (h : xs ≠ []) : atD (eL e xs) (.int (-1)) = some (e (lst xs)) := by
  have := (at_last (ds := xs.map e) (by simpa using h)).1
  rw [lst_map e h] at this
  exact this
theorem at_P0 (e : α → D) (f : β → D) (p : α × β) : atD (eP e f p) (.int 0) = some (e p.1) := at_t0 _ _
theorem at_P1 (e : α → D) (f : β → D) (p : α × β) : atD (eP e f p) (.int 1) = some (f p.2) := at_t1 _ _ _
theorem at_P30 (e : α → D) (f : β → D) (g : γ → D) (p : α × β × γ) : atD (eP3 e f g p) (.int 0) = some (e p.1) := at_t0 _ _
theorem at_P31 (e : α → D) (f : β → D) (g : γ → D) (p : α × β × γ) : atD (eP3 e f g p) (.int 1) = some (f p.2.1) := at_t1 _ _ _
theorem at_P32 (e : α → D) (f : β → D) (g : γ → D) (p : α × β × γ) : atD (eP3 e f g p) (.int 2) = some (g p.2.2) := by
  unfold eP3
  rw [(at_int (ds := [e p.1, f p.2.1, g p.2.2]) (i := 2) (by decide) (by show (2 : Int) < 3; decide)).2]; rfl
theorem len_P (e : α → D) (f : β → D) (p : α × β) : lenD [eP e f p] = some (.int 2) := rfl
theorem len_P4 {δ : Type} (e : α → D) (f : β → D) (g : γ → D) (h : δ → D) (p : α × β × γ × δ) : lenD [eP4 e f g h p] = some (.int 4) := rfl
theorem len_P3 (e : α → D) (f : β → D) (g : γ → D) (p : α × β × γ) : lenD [eP3 e f g p] = some (.int 3) := rfl
theorem gcd_n (a b : Int) : gcdD [.int a, .int b] = some (.int ((Nat.gcd a.natAbs b.natAbs : Nat) : Int)) := rfl
theorem cutL_map (e : α → D) (xs : List α) (lo hi : Option Int) : cutL (xs.map e) lo hi = (cutL xs lo hi).map e := by
  unfold cutL; rw [List.length_map, List.map_take, List.map_drop]
theorem cut_T (e : α → D) (xs : List α) (lo hi : Option Int) : cutD (eT e xs) lo hi = some (eT e (cutL xs lo hi)) := by
  unfold eT; rw [cut_t, cutL_map]
theorem cut_L (e : α → D) (xs : List α) (lo hi : Option Int) : cutD (eL e xs) lo hi = some (eL e (cutL xs lo hi)) := by
  unfold eL; rw [cut_l, cutL_map]
theorem rev_T (e : α → D) (xs : List α) : revD (eT e xs) = some (eT e xs.reverse) := by
  unfold eT; rw [rev_t, List.map_reverse]
theorem rev_L (e : α → D) (xs : List α) : revD (eL e xs) = some (eL e xs.reverse) := by
  unfold eL; rw [rev_l, List.map_reverse]
theorem add_T (e : α → D) {xs ys : List α} (h : xs.length + ys.length ≤ 100000) : addD (eT e xs) (eT e ys) = some (eT e (xs ++ ys)) := by
  unfold eT; rw [addT (by simpa using h), List.map_append]
theorem add_L (e : α → D) {xs ys : List α} (h : xs.length + ys.length ≤ 100000) : addD (eL e xs) (eL e ys) = some (eL e (xs ++ ys)) := by
  unfold eL; rw [addL (by simpa using h), List.map_append]
theorem tup_T (e : α → D) (xs : List α) : tupleD [eT e xs] = some (eT e xs) := rfl
theorem tup_L (e : α → D) (xs : List α) : tupleD [eL e xs] = some (eT e xs) := rfl
theorem lst_T (e : α → D) (xs : List α) : listD [eT e xs] = some (eL e xs) := rfl
theorem lst_L (e : α → D) (xs : List α) : listD [eL e xs] = some (eL e xs) := rfl
theorem max2_n (a b : Int) : max2D [.int a, .int b] = some (.int (max a b)) := by
  show some (PyData.int (if b > a then b else a)) = _
  congr 2
  split <;> omega
theorem min2_n (a b : Int) : min2D [.int a, .int b] = some (.int (min a b)) := by
  show some (PyData.int (if b < a then b else a)) = _
  congr 2
  split <;> omega
theorem maxL_L {xs : List Int} (h : xs ≠ []) : maxLD [eL .int xs] = some (.int (mxI xs)) := by
  cases xs with
  | nil => exact (h rfl).elim
  | cons x xs => exact maxI_ev x xs
theorem maxL_T {xs : List Int} (h : xs ≠ []) : maxLD [eT .int xs] = some (.int (mxI xs)) := by
  cases xs with
  | nil => exact (h rfl).elim
  | cons x xs => exact maxI_ev x xs
theorem minI_ev (x : Int) (xs : List Int) : minLD [.list ((x :: xs).map .int)] = some (.int (PySem.W.minOf x xs)) := by
  show (if minOk (.int x :: xs.map .int) = true then some (PySem.W.minD (.int x) (xs.map .int)) else none) = _
  rw [if_pos (show minOk (.int x :: xs.map .int) = true from minOk_ints (x :: xs))]
  exact congrArg some (PySem.W.minD_map x xs)
theorem minL_L {xs : List Int} (h : xs ≠ []) : minLD [eL .int xs] = some (.int (mnI xs)) := by
  cases xs with
  | nil => exact (h rfl).elim
  | cons x xs => exact minI_ev x xs
theorem minL_T {xs : List Int} (h : xs ≠ []) : minLD [eT .int xs] = some (.int (mnI xs)) := by
  cases xs with
  | nil => exact (h rfl).elim
  | cons x xs => exact minI_ev x xs
theorem sum_L (xs : List Int) : sumD [eL .int xs] = some (.int xs.sum) := by
  show (intsOf (xs.map .int)).map _ = _
  rw [intsOf_map]; rfl
theorem rg_I (i j : Int) : rg i j = (rgI i j).map .int := by
  unfold rg rgI; rw [List.map_map]; rfl
theorem rg1_l {j : Int} (h : j < 1000000000000) (h2 : -(1000000000000) < j) : rgD [.int j] = some ((rgI 0 j).map .int) := by rw [← rg_I]; exact rgD_1 (by omega) (by omega)
theorem rg2_l {i j : Int} (g : i < 1000000000000) (g2 : -(1000000000000) < i) (h : j < 1000000000000) (h2 : -(1000000000000) < j) : rgD [.int i, .int j] = some ((rgI i j).map .int) := by rw [← rg_I]; exact rgD_2 (by omega) (by omega) (by omega) (by omega)
theorem lrg1_l {j : Int} (h : j < 10000000) (h2 : -(10000000) < j) : lrgD [.int j] = some (eL .int (rgI 0 j)) := by rw [lrg_1 h h2, rg_I]; rfl
theorem enumL_map (e : α → D) : ∀ (xs : List α) (n : Nat), enumL (xs.map e) n = ((xs.zipIdx n).map fun p => ((p.2 : Int), p.1)).map (eP .int e)
  | [], _ => rfl
  | x :: xs, n => by
    rw [List.map_cons, enumL, enumL_map e xs (n + 1), List.zipIdx_cons, List.map_cons, List.map_cons]; rfl
theorem en_T (e : α → D) (xs : List α) : enumD [eT e xs] = some ((en xs).map (eP .int e)) := by
  unfold eT; rw [enum_t, enumL_map]; rfl
theorem en_L (e : α → D) (xs : List α) : enumD [eL e xs] = some ((en xs).map (eP .int e)) := by
  unfold eL; rw [enum_l, enumL_map]; rfl
theorem items_T (e : α → D) (xs : List α) : itemsOf (eT e xs) = some (xs.map e) := rfl
theorem items_L (e : α → D) (xs : List α) : itemsOf (eL e xs) = some (xs.map e) := rfl
theorem int_bl (b : Bool) : intD [.bool b] = some (.int (if b = true then 1 else 0)) := int_b b
theorem isN_O (e : α → D) (he : ∀ a, isD (e a) .none = some (.bool false)) (o : Option α) : isD (eO e o) .none = some (.bool o.isNone) := by
  cases o with
  | none => rfl
  | some a => exact he a
theorem isNI (a : Int) : isD (.int a) .none = some (.bool false) := rfl
theorem isNT (e : α → D) (xs : List α) : isD (eT e xs) .none = some (.bool false) := rfl
end
end Vs

set_option Elab.async false
set_option linter.all false
set_option maxRecDepth 100000
set_option maxHeartbeats 4000000
namespace Vs
open PySem PySem.Spec PyProof.Rows L2
/-! ### expressions -/
section
variable {α β γ σ : Type} {S S1 S2 S3 : Sts} {d x y z : D} {i : Nat} {fa fb fc fe : Ev} {ta tb : Et} {b c : Bool}
theorem anyI_ok (h : S[i]? = some (.im d)) : vAny i S = .ok d S := by rw [vAny_s, h, vAnyK_im]
theorem anyO_ok (h : S[i]? = some (.own d)) : vAny i S = .ok d S := by rw [vAny_s, h, vAnyK_own]
theorem anyP_ok (h : S[i]? = some (.par d)) : vAny i S = .ok d S := by rw [vAny_s, h, vAnyK_par]
theorem an_l {f g : Et} (h1 : f S = .ok b S1) (h2 : b = true → g S1 = .ok c S1) : an f g S = .ok (b && c) S1 := by
  cases b
  · rw [an_f h1]; rfl
  · rw [an_t h1, h2 rfl]; rfl
theorem orr_l {f g : Et} (h1 : f S = .ok b S1) (h2 : b = false → g S1 = .ok c S1) : orr f g S = .ok (b || c) S1 := by
  cases b
  · rw [orr_f h1, h2 rfl]; rfl
  · rw [orr_t h1]; rfl
theorem nt_tl {f : Et} (h : f S = .ok true S1) : nt f S = .ok false S1 := nt_ok h
theorem nt_fl {f : Et} (h : f S = .ok false S1) : nt f S = .ok true S1 := nt_ok h
theorem an_tl {f g : Et} (h1 : f S = .ok true S1) (h2 : g S1 = .ok b S2) : an f g S = .ok b S2 := by rw [an_t h1, h2]
theorem orr_fl {f g : Et} (h1 : f S = .ok false S1) (h2 : g S1 = .ok b S2) : orr f g S = .ok b S2 := by rw [orr_f h1, h2]
theorem iff_tl {f g : Ev} (h : ta S = .ok true S1) (h1 : f S1 = .ok d S2) : iff ta f g S = .ok d S2 := by rw [iff_t h, h1]
theorem iff_fl {f g : Ev} (h : ta S = .ok false S1) (h1 : g S1 = .ok d S2) : iff ta f g S = .ok d S2 := by rw [iff_f h, h1]
theorem an_i {f g : Et} (St : σ → Sts) {u v : σ} (h1 : f S = .ok b (St u)) (h2 : b = true → g (St u) = .ok c (St v)) : an f g S = .ok (b && c) (St (if b = true then v else u)) := by
  cases b
  · rw [an_f h1]; rfl
  · rw [an_t h1, h2 rfl]; rfl
theorem orr_i {f g : Et} (St : σ → Sts) {u v : σ} (h1 : f S = .ok b (St u)) (h2 : b = false → g (St u) = .ok c (St v)) : orr f g S = .ok (b || c) (St (if b = true then u else v)) := by
  cases b
  · rw [orr_f h1, h2 rfl]; rfl
  · rw [orr_t h1]; rfl
theorem iff_l {f g : Ev} (e : α → D) {u v : α} (h : ta S = .ok b S1) (h1 : b = true → f S1 = .ok (e u) S1) (h2 : b = false → g S1 = .ok (e v) S1) : iff ta f g S = .ok (e (if b = true then u else v)) S1 := by
  cases b
  · rw [iff_f h, h2 rfl]; rfl
  · rw [iff_t h, h1 rfl]; rfl
theorem iff_i {f g : Ev} (e : α → D) (St : σ → Sts) {u v : α} {p q : σ} (h : ta S = .ok b S1) (h1 : b = true → f S1 = .ok (e u) (St p)) (h2 : b = false → g S1 = .ok (e v) (St q)) : iff ta f g S = .ok (e (if b = true then u else v)) (St (if b = true then p else q)) := by
  cases b
  · rw [iff_f h, h2 rfl]; rfl
  · rw [iff_t h, h1 rfl]; rfl
theorem chain_l {g g' : D → D → Option D} (h1 : fa S = .ok x S) (h2 : fb S = .ok y S) (h3 : g x y = some (.bool b)) (h4 : fc S = .ok z S) (h5 : g' y z = some (.bool c)) : chain g g' fa fb fc S = .ok (.bool (b && c)) S := by
  rw [chain_s, h1, chJ_ok, h2, chK_ok, h3]
  show chL g' fc y (.ok b S) = _
  cases b
  · rw [chL_f]; rfl
  · rw [chL_t, h4, chM_ok, h5]; rfl
theorem mkT_h {fa : Ea} {ds : List D} (e : α → D) (xs : List α) (hl : xs.length ≤ 100) (h : fa S = .ok (xs.map e) S1) : callB mkT fa S = .ok (eT e xs) S1 := by
  rw [callB_s, h, cbK_ok, mkT_s (sz (by rw [List.length_map]; omega))]; rfl
theorem mkL_h {fa : Ea} {ds : List D} (e : α → D) (xs : List α) (hl : xs.length ≤ 100) (h : fa S = .ok (xs.map e) S1) : callB mkL fa S = .ok (eL e xs) S1 := by
  rw [callB_s, h, cbK_ok, mkL_s (sz (by rw [List.length_map]; omega))]; rfl
theorem mkLD_h {fa : Ea} {ds : List D} (hl : ds.length ≤ 100) (h : fa S = .ok ds S1) : callB mkL fa S = .ok (.list ds) S1 := by
  rw [callB_s, h, cbK_ok, mkL_s (sz (by omega))]; rfl
theorem mkP_h {fa : Ea} (e : α → D) (f : β → D) (u : α) (v : β) (h : fa S = .ok [e u, f v] S1) : callB mkT fa S = .ok (eP e f (u, v)) S1 := by
  rw [callB_s, h, cbK_ok, mkT2]; rfl
theorem mkP3_h {fa : Ea} (e : α → D) (f : β → D) (g : γ → D) (u : α) (v : β) (w : γ) (h : fa S = .ok [e u, f v, g w] S1) : callB mkT fa S = .ok (eP3 e f g (u, v, w)) S1 := by
  rw [callB_s, h, cbK_ok, mkT3]; rfl
theorem call1_l {go : List D → Option D} {fa : Ea} {ds : List D} (h : fa S = .ok ds S1) (k : go ds = some d) : callB go fa S = .ok d S1 := by rw [callB_s, h, cbK_ok, k]; rfl
theorem mkP4_h {δ : Type} {fa : Ea} (e : α → D) (f : β → D) (g : γ → D) (k : δ → D) (u : α) (v : β) (w : γ) (t : δ) (h : fa S = .ok [e u, f v, g w, k t] S1) : callB mkT fa S = .ok (eP4 e f g k (u, v, w, t)) S1 := by
  rw [callB_s, h, cbK_ok, mkT4]; rfl
theorem isF_l {t : String} (h : fa S = .ok d S1) (k : isTy t d = some b) : isF t fa S = .ok (.bool b) S1 := by rw [isF_s, h, isK_ok, k]; rfl
theorem cnt_l {xs : List Int} {y : Int} (h : fa S = .ok (eL .int xs) S1) (h2 : fb S1 = .ok (.int y) S2) : Vs.cnt fa fb S = .ok (.int ((xs.count y : Nat) : Int)) S2 := by
  unfold Vs.cnt
  rw [h, Res.ok_bind]
  show (fb S1).bind _ = _
  rw [h2, Res.ok_bind]
  show ofO (cntD (xs.map .int) (.int y)) S2 = _
  unfold cntD
  rw [intsOf_map]; rfl
theorem rv_l (h : fa S = .ok d S1) (k : revD d = some x) : rv fa S = .ok x S1 := by rw [rv_s, h, rvK_ok, k]; rfl
theorem pAt_l {j : Int} (h : fa S = .ok (.int j) S1) : pAt fa S = .ok (some j) S1 := by rw [pAt_s, h, pAtK_ok]
theorem cut_l' {fl fh : Eo} {l h : Option Int} (h1 : fa S = .ok d S1) (h2 : fl S1 = .ok l S2) (h3 : fh S2 = .ok h S3) (k : cutD d l h = some x) : cut fa fl fh S = .ok x S3 := by
  rw [cut_s, h1, cutK_ok, h2, cutM_ok, h3, cutR_ok, k]; rfl
theorem callP_l {M : Es'} {fa : Ea} {ds : List D} (h : fa S = .ok ds S1) (k : resP S1 (M (ds.map Sl.im)) = .ok d S1) : callP M fa S = .ok d S1 := by rw [callP_s, h, cpK_ok, k]
theorem callF_l {M : Es'} {fa : Ea} {ds : List D} (h : fa S = .ok ds S1) (k : ∃ st, M (ds.map Sl.im) = .rf d st) : callF M fa S = .ok d S1 := by
  unfold callF
  obtain ⟨st, e⟩ := k
  rw [h, Res.ok_bind, e]; rfl
/-! ### what a def comes to -/
def Dn (P : Sts → Prop) (d : D) : Ou → Prop
  | .rt e st => e = d ∧ P st
  | .rf e st => e = d ∧ P st
  | .nx st => d = .none ∧ P st
  | _ => False
structure FnV (e : α → D) (v : α) (o : Ou) : Prop where
  q : Dn (fun _ => True) (e v) o
structure FnF (e : α → D) (v : α) (o : Ou) : Prop where
  q : ∃ st, o = .rf (e v) st
structure FnD (e : α → D) (v : α × List Int) (o : Ou) : Prop where
  q : Dn (fun st => st[0]? = some (.par (eL .int v.2))) (e v.1) o
structure BdQ (wp : List Nat) (St : σ → Sts) (v : σ) (o : Ou) : Prop where
  q : ∃ st2, (o = .nx st2 ∨ o = .ct st2) ∧ wipes wp st2 = St v
structure JnQ (wp : List Nat) (St : σ → Sts) (v : σ) (o : Ou) : Prop where
  q : ∃ st2, o = .nx st2 ∧ wipes wp st2 = St v
theorem fnV_rt {e : α → D} {v : α} {st : Sts} (h : d = e v) : FnV e v (.rt d st) := ⟨⟨h, trivial⟩⟩
theorem fnV_rf {e : α → D} {v : α} {st : Sts} (h : d = e v) : FnV e v (.rf d st) := ⟨⟨h, trivial⟩⟩
theorem fnF_rf {e : α → D} {v : α} {st : Sts} (h : d = e v) : FnF e v (.rf d st) := ⟨⟨st, by rw [h]⟩⟩
theorem fnD_rt {e : α → D} {v : α × List Int} {st : Sts} (h : d = e v.1) (h2 : st[0]? = some (.par (eL .int v.2))) : FnD e v (.rt d st) := ⟨⟨h, h2⟩⟩
theorem fnD_rf {e : α → D} {v : α × List Int} {st : Sts} (h : d = e v.1) (h2 : st[0]? = some (.par (eL .int v.2))) : FnD e v (.rf d st) := ⟨⟨h, h2⟩⟩
theorem bdQ_nx {wp : List Nat} {St : σ → Sts} {v : σ} {st : Sts} (h : wipes wp st = St v) : BdQ wp St v (.nx st) := ⟨⟨st, .inl rfl, h⟩⟩
theorem bdQ_ct {wp : List Nat} {St : σ → Sts} {v : σ} {st : Sts} (h : wipes wp st = St v) : BdQ wp St v (.ct st) := ⟨⟨st, .inr rfl, h⟩⟩
theorem jnQ_nx {wp : List Nat} {St : σ → Sts} {v : σ} {st : Sts} (h : wipes wp st = St v) : JnQ wp St v (.nx st) := ⟨⟨st, rfl, h⟩⟩
theorem fnV_res {e : α → D} {v : α} {o : Ou} (h : FnV e v o) (st : Sts) : resP st o = .ok (e v) st := by
  obtain ⟨h⟩ := h
  unfold Dn at h
  cases o with
  | rt x s => obtain ⟨rfl, _⟩ := h; rfl
  | rf x s => obtain ⟨rfl, _⟩ := h; rfl
  | nx s => obtain ⟨h, _⟩ := h; show Res.ok PyData.none st = _; rw [h]
  | bk s => exact h.elim
  | ct s => exact h.elim
  | exc c s => exact h.elim
  | bad => exact h.elim
theorem fnF_V {e : α → D} {v : α} {o : Ou} (h : FnF e v o) : FnV e v o := by
  obtain ⟨st, rfl⟩ := h
  exact ⟨rfl, trivial⟩
theorem fnF_res {e : α → D} {v : α} {o : Ou} (h : FnF e v o) (st : Sts) : resP st o = .ok (e v) st := fnV_res (fnF_V h) st
theorem fnD_res {e : α → D} {v : α × List Int} {o : Ou} (h : FnD e v o) (i : Nat) (st : Sts) : resD i st o = .ok (e v.1) (setO st i (eL .int v.2)) := by
  obtain ⟨h⟩ := h
  unfold Dn at h
  cases o with
  | rt x s => obtain ⟨rfl, h⟩ := h; show Res.ok _ (upP i st s) = _; unfold upP; rw [parOf_of h]
  | rf x s => obtain ⟨rfl, h⟩ := h; show Res.ok _ (upP i st s) = _; unfold upP; rw [parOf_of h]
  | nx s => obtain ⟨h0, h⟩ := h; show Res.ok PyData.none (upP i st s) = _; unfold upP; rw [parOf_of h, h0]
  | bk s => exact h.elim
  | ct s => exact h.elim
  | exc c s => exact h.elim
  | bad => exact h.elim
theorem callD_l {M : Es'} {fa : Ea} {ds : List D} {l : D} {v : α × List Int} {e : α → D} (h0 : (getO S i).isSome = true) (h1 : fa S = .ok ds S1) (h2 : getO S1 i = some l) (h3 : FnD e v (M (Sl.par l :: ds.map Sl.im))) (h4 : setO S1 i (eL .int v.2) = S2) : callD i M fa S = .ok (e v.1) S2 := by
  rw [← h4]
  exact callD_ok h0 h1 h2 (fnD_res h3 i S1)
theorem take_l {M : Es'} (hM : ∀ p, M p = takeM (full 2 p)) (xs : List Int) (b : Int) (hb : 0 < b) : FnD PyData.int (take1 xs b) (M [.par (eL .int xs), .im (.int b)]) := by
  rw [hM]
  have := takeM_ev xs hb
  show FnD _ _ (takeM [.par (.list (xs.map .int)), .im (.int b)])
  rw [this]
  exact fnD_rt rfl rfl
/-! ### comprehensions -/
theorem cmpP_l {e : α → D} {e' : β → D} {xs : List α} {p : α → Bool} {f : α → β} (Sx : α → Sts) {vs : List Nat} {fi : Ei} {g : D → Sts → Option Sts} {ft : Et} {fe : Ev} (hi : fi S = .ok (xs.map e) S1) (hu : allUn vs S1 = true) (hl : xs.length ≤ 16777216)
    (hg : ∀ x, g (e x) S1 = some (Sx x)) (ht : ∀ x ∈ xs, ft (Sx x) = .ok (p x) (Sx x)) (he : ∀ x ∈ xs, p x = true → fe (Sx x) = .ok (e' (f x)) (Sx x)) : cmpP vs fi g ft fe S = .ok (eL e' ((xs.filter p).map f)) S1 := by
  refine cmpP_ok hi hu ?_ (by rw [List.length_map, List.length_map]; exact Nat.le_trans (List.length_filter_le p xs) (sz hl))
  clear hi hl
  induction xs with
  | nil => rfl
  | cons x xs ih =>
    rw [List.map_cons, flatM]
    have ih := ih (fun y hy => ht y (List.mem_cons_of_mem _ hy)) (fun y hy => he y (List.mem_cons_of_mem _ hy))
    cases q : p x with
    | false =>
      rw [cItem_no (hg x) (by rw [← q]; exact ht x (List.mem_cons_self ..)), ih, List.filter_cons_of_neg (by simp [q])]; rfl
    | true =>
      rw [cItem_yes (hg x) (by rw [← q]; exact ht x (List.mem_cons_self ..)) (he x (List.mem_cons_self ..) q), ih, List.filter_cons_of_pos q]; rfl
theorem filtT (xs : List α) : xs.filter (fun _ => true) = xs := by induction xs with
  | nil => rfl
  | cons x xs ih => rw [List.filter_cons_of_pos rfl, ih]
theorem cmpP_m {e : α → D} {e' : β → D} {xs : List α} {f : α → β} (Sx : α → Sts) {vs : List Nat} {fi : Ei} {g : D → Sts → Option Sts} {fe : Ev} (hi : fi S = .ok (xs.map e) S1) (hu : allUn vs S1 = true) (hl : xs.length ≤ 16777216)
    (hg : ∀ x, g (e x) S1 = some (Sx x)) (he : ∀ x ∈ xs, fe (Sx x) = .ok (e' (f x)) (Sx x)) : cmpP vs fi g tYes' fe S = .ok (eL e' (xs.map f)) S1 := by
  have := cmpP_l (p := fun _ => true) Sx hi hu hl hg (fun x _ => tYes_s _) (fun x hx _ => he x hx)
  rw [filtT] at this
  exact this
theorem flatM_l {e : α → D} {e' : β → D} {it : D → Option (List D)} {xs : List α} {F : α → List β} (h : ∀ x ∈ xs, it (e x) = some ((F x).map e')) : flatM it (xs.map e) = some ((xs.flatMap F).map e') := by
  induction xs with
  | nil => rfl
  | cons x xs ih =>
    rw [List.map_cons, flatM, h x (List.mem_cons_self ..), ih fun y hy => h y (List.mem_cons_of_mem _ hy), List.flatMap_cons, List.map_append]; rfl
theorem flatI_l {e : α → D} {e' : β → D} {xs : List α} {p : α → Bool} {f : α → β} (Sx : α → Sts) {g : D → Sts → Option Sts} {ft : Et} {fe : Ev}
    (hg : ∀ x, g (e x) S1 = some (Sx x)) (ht : ∀ x ∈ xs, ft (Sx x) = .ok (p x) (Sx x)) (he : ∀ x ∈ xs, p x = true → fe (Sx x) = .ok (e' (f x)) (Sx x)) : flatM (cItem g ft fe S1) (xs.map e) = some (((xs.filter p).map f).map e') := by
  induction xs with
  | nil => rfl
  | cons x xs ih =>
    rw [List.map_cons, flatM]
    have ih := ih (fun y hy => ht y (List.mem_cons_of_mem _ hy)) (fun y hy => he y (List.mem_cons_of_mem _ hy))
    cases q : p x with
    | false =>
      rw [cItem_no (hg x) (by rw [← q]; exact ht x (List.mem_cons_self ..)), ih, List.filter_cons_of_neg (by simp [q])]; rfl
    | true =>
      rw [cItem_yes (hg x) (by rw [← q]; exact ht x (List.mem_cons_self ..)) (he x (List.mem_cons_self ..) q), ih, List.filter_cons_of_pos q]; rfl
theorem cmpP2_l {e : α → D} {e1 : β → D} {e' : γ → D} {xs : List α} {p : α → Bool} {ys : α → List β} {p1 : α → β → Bool} {f : α → β → γ} (Sx : α → Sts) (Sy : α → β → Sts) {vs vs1 : List Nat} {fi fi1 : Ei} {g g1 : D → Sts → Option Sts} {ft ft1 : Et} {fe : Ev} (hi : fi S = .ok (xs.map e) S1) (hu : allUn vs S1 = true)
    (hl : ((xs.filter p).flatMap fun x => ((ys x).filter (p1 x)).map (f x)).length ≤ 16777216)
    (hg : ∀ x, g (e x) S1 = some (Sx x)) (ht : ∀ x ∈ xs, ft (Sx x) = .ok (p x) (Sx x)) (hi1 : ∀ x ∈ xs, p x = true → fi1 (Sx x) = .ok ((ys x).map e1) (Sx x)) (hu1 : ∀ x, allUn vs1 (Sx x) = true)
    (hg1 : ∀ x y, g1 (e1 y) (Sx x) = some (Sy x y)) (ht1 : ∀ x ∈ xs, p x = true → ∀ y ∈ ys x, ft1 (Sy x y) = .ok (p1 x y) (Sy x y)) (he : ∀ x ∈ xs, p x = true → ∀ y ∈ ys x, p1 x y = true → fe (Sy x y) = .ok (e' (f x y)) (Sy x y)) :
    cmpP2 vs vs1 fi g ft fi1 g1 ft1 fe S = .ok (eL e' ((xs.filter p).flatMap fun x => ((ys x).filter (p1 x)).map (f x))) S1 := by
  refine cmpP2_ok hi hu ?_ (by rw [List.length_map]; exact sz hl)
  clear hi hl
  induction xs with
  | nil => rfl
  | cons x xs ih =>
    rw [List.map_cons, flatM]
    have ih := ih (fun y hy => ht y (List.mem_cons_of_mem _ hy)) (fun y hy => hi1 y (List.mem_cons_of_mem _ hy)) (fun y hy => ht1 y (List.mem_cons_of_mem _ hy)) (fun y hy => he y (List.mem_cons_of_mem _ hy))
    have h0 := ht x (List.mem_cons_self ..)
    cases q : p x with
    | false =>
      have : cOuter g ft vs1 fi1 g1 ft1 fe S1 (e x) = some [] := by
        unfold cOuter; rw [hg x]; dsimp only; rw [h0, q]
      rw [this, ih, List.filter_cons_of_neg (by simp [q])]; rfl
    | true =>
      rw [q] at h0
      rw [cOuter_s (hg x) h0 (hi1 x (List.mem_cons_self ..) q) (hu1 x) (flatI_l (Sy x) (hg1 x) (ht1 x (List.mem_cons_self ..) q) (he x (List.mem_cons_self ..) q)), ih, List.filter_cons_of_pos q, List.flatMap_cons, List.map_append]; rfl
/-- elements that draw -/
def mapAcc (f : σ → α → β × σ) : List α → σ → List β × σ
  | [], s => ([], s)
  | x :: xs, s => ((f s x).1 :: (mapAcc f xs (f s x).2).1, (mapAcc f xs (f s x).2).2)
def KAr (ok : σ → α → Prop) (f : σ → α → β × σ) : List α → σ → Prop
  | [], _ => True
  | x :: xs, s => ok s x ∧ KAr ok f xs (f s x).2
structure KA (ok : σ → α → Prop) (f : σ → α → β × σ) (xs : List α) (s : σ) : Prop where
  q : KAr ok f xs s
theorem KA_inv {ok : σ → α → Prop} {f : σ → α → β × σ} (I : σ → Prop) : ∀ {xs : List α} {s : σ}, (∀ s x, x ∈ xs → I s → ok s x ∧ I (f s x).2) → I s → KA ok f xs s
  | [], s, _, h0 => ⟨trivial⟩
  | x :: xs, s, h, h0 => by
    obtain ⟨h1, h2⟩ := h s x (List.mem_cons_self ..) h0
    exact ⟨⟨h1, (KA_inv I (fun s y hy => h s y (List.mem_cons_of_mem _ hy)) h2).q⟩⟩
theorem compS_l {e : α → D} {e' : β → D} (St : σ → Sts) (Sx : σ → α → Sts) (f : σ → α → β × σ) (ok : σ → α → Prop) {vs : List Nat} {g : D → Sts → Option Sts} {fe : Ev}
    (hg : ∀ s x, g (e x) (St s) = some (Sx s x)) (he : ∀ s x, ok s x → ∃ S2, fe (Sx s x) = .ok (e' (f s x).1) S2 ∧ wipes vs S2 = St (f s x).2) (hu : ∀ s, allUn vs (St s) = true) :
    ∀ (xs : List α) (s : σ) (acc : List D), KAr ok f xs s → acc.length + xs.length ≤ 16777216 → compS vs g tYes' fe (xs.map e) acc (St s) = .ok (.list (acc ++ (mapAcc f xs s).1.map e')) (St (mapAcc f xs s).2)
  | [], s, acc, _, _ => by
    show Res.ok (PyData.list acc) (St s) = _
    unfold mapAcc
    rw [List.map_nil, List.append_nil]
  | x :: xs, s, acc, h, hl => by
    obtain ⟨h1, h2⟩ := h
    obtain ⟨S2, q1, q2⟩ := he s x h1
    rw [List.length_cons] at hl
    rw [List.map_cons, compS, hg s x]
    dsimp only
    show Res.bindN (.ok true (Sx s x)) _ = _
    unfold Res.bindN
    dsimp only
    rw [if_pos rfl, q1]
    dsimp only
    rw [q2, if_pos ⟨by rw [sizeLine_eq]; omega, hu _⟩, compS_l St Sx f ok hg he hu xs _ _ h2 (by rw [List.length_append]; simp; omega)]
    show _ = Res.ok (PyData.list (acc ++ ((f s x).1 :: (mapAcc f xs (f s x).2).1).map e')) (St (mapAcc f xs (f s x).2).2)
    rw [List.map_cons, List.append_assoc]; rfl
theorem cmp1_l {e : α → D} {e' : β → D} (St : σ → Sts) (Sx : σ → α → Sts) (f : σ → α → β × σ) (ok : σ → α → Prop) {vs : List Nat} {fi : Ei} {g : D → Sts → Option Sts} {fe : Ev} {xs : List α} {s : σ} (hi : fi S = .ok (xs.map e) S1) (hs : S1 = St s) (hl : xs.length ≤ 16777216) (hk : KA ok f xs s)
    (hg : ∀ s x, g (e x) (St s) = some (Sx s x)) (he : ∀ s x, ok s x → ∃ S2, fe (Sx s x) = .ok (e' (f s x).1) S2 ∧ wipes vs S2 = St (f s x).2) (hu : ∀ s, allUn vs (St s) = true) :
    cmp1 vs fi g tYes' fe S = .ok (eL e' (mapAcc f xs s).1) (St (mapAcc f xs s).2) := by
  unfold cmp1
  rw [hi, Res.ok_bind, hs, if_pos (hu s), compS_l St Sx f ok hg he hu xs s [] hk.q (by simpa using hl)]
  rfl
theorem all_l {e : α → D} {xs : List α} {p f : α → Bool} (Sx : α → Sts) {vs : List Nat} {fi : Ei} {g : D → Sts → Option Sts} {ft : Et} {fe : Ev} (hi : fi S = .ok (xs.map e) S1) (hu : allUn vs S1 = true)
    (hg : ∀ x, g (e x) S1 = some (Sx x)) (ht : ∀ x ∈ xs, ft (Sx x) = .ok (p x) (Sx x)) (he : ∀ x ∈ xs, p x = true → fe (Sx x) = .ok (.bool (f x)) (Sx x)) : fGen1 vs true fi g ft fe S = .ok (.bool ((xs.filter p).all f)) S1 := by
  refine fGen1_ok hi hu ?_
  clear hi
  induction xs with
  | nil => rfl
  | cons x xs ih =>
    have ih := ih (fun y hy => ht y (List.mem_cons_of_mem _ hy)) (fun y hy => he y (List.mem_cons_of_mem _ hy))
    rw [List.map_cons, gB1]
    have h0 := ht x (List.mem_cons_self ..)
    cases q : p x with
    | false =>
      have : gItem g ft fe S1 (e x) = some none := by
        unfold gItem; rw [hg x]; dsimp only; rw [h0, q]
      rw [this, List.filter_cons_of_neg (by simp [q])]
      exact ih
    | true =>
      rw [q] at h0
      rw [gItem_ok (hg x) h0 (he x (List.mem_cons_self ..) q), List.filter_cons_of_pos q, List.all_cons]
      cases f x
      · rfl
      · exact ih
theorem any_l {e : α → D} {xs : List α} {p f : α → Bool} (Sx : α → Sts) {vs : List Nat} {fi : Ei} {g : D → Sts → Option Sts} {ft : Et} {fe : Ev} (hi : fi S = .ok (xs.map e) S1) (hu : allUn vs S1 = true)
    (hg : ∀ x, g (e x) S1 = some (Sx x)) (ht : ∀ x ∈ xs, ft (Sx x) = .ok (p x) (Sx x)) (he : ∀ x ∈ xs, p x = true → fe (Sx x) = .ok (.bool (f x)) (Sx x)) : fGen1 vs false fi g ft fe S = .ok (.bool ((xs.filter p).any f)) S1 := by
  refine fGen1_ok hi hu ?_
  clear hi
  induction xs with
  | nil => rfl
  | cons x xs ih =>
    have ih := ih (fun y hy => ht y (List.mem_cons_of_mem _ hy)) (fun y hy => he y (List.mem_cons_of_mem _ hy))
    rw [List.map_cons, gB1]
    have h0 := ht x (List.mem_cons_self ..)
    cases q : p x with
    | false =>
      have : gItem g ft fe S1 (e x) = some none := by
        unfold gItem; rw [hg x]; dsimp only; rw [h0, q]
      rw [this, List.filter_cons_of_neg (by simp [q])]
      exact ih
    | true =>
      rw [q] at h0
      rw [gItem_ok (hg x) h0 (he x (List.mem_cons_self ..) q), List.filter_cons_of_pos q, List.any_cons]
      cases f x
      · exact ih
      · rfl
theorem all_m {e : α → D} {xs : List α} {f : α → Bool} (Sx : α → Sts) {vs : List Nat} {fi : Ei} {g : D → Sts → Option Sts} {fe : Ev} (hi : fi S = .ok (xs.map e) S1) (hu : allUn vs S1 = true)
    (hg : ∀ x, g (e x) S1 = some (Sx x)) (he : ∀ x ∈ xs, fe (Sx x) = .ok (.bool (f x)) (Sx x)) : fGen1 vs true fi g tYes' fe S = .ok (.bool (xs.all f)) S1 := by
  have := all_l (p := fun _ => true) Sx hi hu hg (fun x _ => tYes_s _) (fun x hx _ => he x hx)
  rw [filtT] at this
  exact this
theorem any_m {e : α → D} {xs : List α} {f : α → Bool} (Sx : α → Sts) {vs : List Nat} {fi : Ei} {g : D → Sts → Option Sts} {fe : Ev} (hi : fi S = .ok (xs.map e) S1) (hu : allUn vs S1 = true)
    (hg : ∀ x, g (e x) S1 = some (Sx x)) (he : ∀ x ∈ xs, fe (Sx x) = .ok (.bool (f x)) (Sx x)) : fGen1 vs false fi g tYes' fe S = .ok (.bool (xs.any f)) S1 := by
  have := any_l (p := fun _ => true) Sx hi hu hg (fun x _ => tYes_s _) (fun x hx _ => he x hx)
  rw [filtT] at this
  exact this
theorem iVal_l {ds : List D} (h : fa S = .ok d S1) (k : itemsOf d = some ds) : iVal fa S = .ok ds S1 := by rw [iVal_s, h, iValK_ok, k]; rfl
theorem iRg_l {fa : Ea} {ds es : List D} (h : fa S = .ok ds S1) (k : rgD ds = some es) : iRg fa S = .ok es S1 := by rw [iRg_s, h, iRgK_ok, k]; rfl
theorem iEn_l {fa : Ea} {ds es : List D} (h : fa S = .ok ds S1) (k : enumD ds = some es) : iEnm fa S = .ok es S1 := by rw [iEnm_s, h, iEnK_ok, k]; rfl
/-! ### statements -/
variable {Q : Ou → Prop} {f g k : Es'} {l : List Nat}
theorem lastQ (h : Q (sSeq f sNil S)) : Q (f S) := by
  have : sSeq f sNil S = f S := by
    unfold sSeq
    cases f S <;> rfl
  rw [this] at h
  exact h
theorem seqQ (h : f S = .nx S1) (h2 : Q (g S1)) : Q (sSeq f g S) := by rw [seq_nx h]; exact h2
theorem seqA {a b c : Es'} (h : Q (sSeq a (sSeq b c) S)) : Q (sSeq (sSeq a b) c S) := by
  have : sSeq (sSeq a b) c S = sSeq a (sSeq b c) S := by
    unfold sSeq
    cases a S <;> rfl
  rw [this]
  exact h
theorem nilSQ (h : Q (g S)) : Q (sSeq sNil g S) := seqQ rfl h
theorem wipeQ (hw : wipes l S = S1) (h : Q (f S1)) : Q (sWipe l f S) := by rw [sWipe_s, hw]; exact h
theorem giveQ (hw : gives l S = S1) (h : Q (f S1)) : Q (sGive l f S) := by rw [sGive_s, hw]; exact h
theorem wipeSQ (hw : wipes l S = S1) (h : Q (sSeq f g S1)) : Q (sSeq (sWipe l f) g S) := by
  have : sSeq (sWipe l f) g S = sSeq f g S1 := by unfold sSeq; rw [sWipe_s, hw]
  rw [this]; exact h
theorem giveSQ (hw : gives l S = S1) (h : Q (sSeq f g S1)) : Q (sSeq (sGive l f) g S) := by
  have : sSeq (sGive l f) g S = sSeq f g S1 := by unfold sSeq; rw [sGive_s, hw]
  rw [this]; exact h
theorem retSQ (h : fa S = .ok d S1) (h2 : Q (.rt d S1)) : Q (sSeq (sRet fa) g S) := by
  rw [seq_rt (ret_ok h)]; exact h2
theorem retFSQ (h : fa S = .ok d S1) (h2 : Q (.rf d S1)) : Q (sSeq (sRetF fa) g S) := by
  rw [seq_rf (st1 := S1) (d := d) (by unfold sRetF bindS; rw [h])]; exact h2
theorem retOSQ (h : S[i]? = some (.own d)) (h2 : Q (.rf d (S.set i .un))) : Q (sSeq (sRetO i) g S) := by
  rw [seq_rf (st1 := S.set i .un) (d := d) (by unfold sRetO; rw [h])]; exact h2
theorem ctSQ (h2 : Q (.ct S)) : Q (sSeq (fun st => .ct st) g S) := h2
theorem ifSQ {Qf : β → Ou → Prop} {v1 v2 : β} (h : ta S = .ok b S1) (h1 : b = true → Qf v1 (sSeq f k S1)) (h2 : b = false → Qf v2 (sSeq g k S1)) : Qf (if b = true then v1 else v2) (sSeq (sIf ta f g) k S) := by
  cases b
  · have : sSeq (sIf ta f g) k S = sSeq g k S1 := by unfold sSeq; rw [if_f h]
    rw [this, if_neg (by decide)]
    exact h2 rfl
  · have : sSeq (sIf ta f g) k S = sSeq f k S1 := by unfold sSeq; rw [if_t h]
    rw [this, if_pos rfl]
    exact h1 rfl
/-- the branch is never gone -/
theorem ifNSQ (h : ta S = .ok b S1) (h1 : b = false) (h2 : b = false → Q (sSeq g k S1)) : Q (sSeq (sIf ta f g) k S) := by
  subst h1
  have : sSeq (sIf ta f g) k S = sSeq g k S1 := by unfold sSeq; rw [if_f h]
  rw [this]
  exact h2 rfl
theorem ifYSQ (h : ta S = .ok b S1) (h1 : b = true) (h2 : b = true → Q (sSeq f k S1)) : Q (sSeq (sIf ta f g) k S) := by
  subst h1
  have : sSeq (sIf ta f g) k S = sSeq f k S1 := by unfold sSeq; rw [if_t h]
  rw [this]
  exact h2 rfl
theorem joinSQ (St : β → Sts) {v1 v2 : β} (h : ta S = .ok b S1) (h1 : b = true → JnQ [] St v1 (f S1)) (h2 : b = false → JnQ [] St v2 (g S1)) {v : β} (hv : (if b = true then v1 else v2) = v) {S3 : Sts} (hS : St v = S3) (hk : Q (k S3)) : Q (sSeq (sIf ta f g) k S) := by
  subst hS hv
  cases b
  · obtain ⟨s2, e1, e2⟩ := h2 rfl
    rw [wipes_n] at e2
    subst e2
    rw [seq_nx ((if_f h).trans e1)]
    exact hk
  · obtain ⟨s2, e1, e2⟩ := h1 rfl
    rw [wipes_n] at e2
    subst e2
    rw [seq_nx ((if_t h).trans e1)]
    exact hk
theorem joinWSQ (St : β → Sts) {v1 v2 : β} (h : ta S = .ok b S1) (h1 : b = true → JnQ l St v1 (f S1)) (h2 : b = false → JnQ l St v2 (g S1)) {v : β} (hv : (if b = true then v1 else v2) = v) {S3 : Sts} (hS : St v = S3) (hk : Q (k S3)) : Q (sSeq (sIf ta f g) (sWipe l k) S) := by
  subst hS hv
  cases b
  · obtain ⟨s2, e1, e2⟩ := h2 rfl
    rw [seq_nx ((if_f h).trans e1), sWipe_s, e2]
    exact hk
  · obtain ⟨s2, e1, e2⟩ := h1 rfl
    rw [seq_nx ((if_t h).trans e1), sWipe_s, e2]
    exact hk
structure FnL (o : Ou) : Prop where
  q : ∃ st, o = .rt (.bool true) st
abbrev FnL0 (_ : Bool) (o : Ou) : Prop := FnL o
theorem fnL_rt {st : Sts} (h : d = .bool true) : FnL (.rt d st) := ⟨⟨st, by rw [h]⟩⟩
theorem fnV_nx {e : α → D} {v : α} {st : Sts} (h : e v = .none) : FnV e v (.nx st) := ⟨⟨h, trivial⟩⟩
theorem fnD_nx {e : α → D} {v : α × List Int} {st : Sts} (h : e v.1 = .none) (h2 : st[0]? = some (.par (eL .int v.2))) : FnD e v (.nx st) := ⟨⟨h, h2⟩⟩
structure FnR (e : α → D) (v : α) (o : Ou) : Prop where
  q : ∃ st, o = .rt (e v) st ∨ o = .rf (e v) st
theorem fnR_rt {e : α → D} {v : α} {st : Sts} (h : d = e v) : FnR e v (.rt d st) := ⟨⟨st, .inl (by rw [h])⟩⟩
theorem fnR_rf {e : α → D} {v : α} {st : Sts} (h : d = e v) : FnR e v (.rf d st) := ⟨⟨st, .inr (by rw [h])⟩⟩
theorem tryRSQ {e : α → D} {v : α} {wd : Str → Option Str} (h : FnR e v (f S)) : FnV e v (sSeq (sTry i wd f) g S) := by
  obtain ⟨st, q | q⟩ := h
  · unfold sSeq sTry; rw [q]; exact ⟨rfl, trivial⟩
  · unfold sSeq sTry; rw [q]; exact ⟨rfl, trivial⟩
theorem callFS_l {M : Es'} {ns : List Int} {l : List D} (h0 : S[0]? = some (.scr ns)) (h : ∃ st, M [.scr ns] = .rf (.list l) st) : callFS 0 M S = .ok (.list l) S := by
  obtain ⟨st, e⟩ := h
  unfold callFS scrI
  rw [h0]
  show resF S (M [.scr ns]) = _
  rw [e]; rfl
/-! loops -/
def KFr (ok : σ → α → Prop) (f : σ → α → σ) : List α → σ → Prop
  | [], _ => True
  | x :: xs, s => ok s x ∧ KFr ok f xs (f s x)
structure KF (ok : σ → α → Prop) (f : σ → α → σ) (xs : List α) (s : σ) : Prop where
  q : KFr ok f xs s
theorem KF_inv {ok : σ → α → Prop} {f : σ → α → σ} (I : σ → Prop) : ∀ {xs : List α} {s : σ}, (∀ s x, x ∈ xs → I s → ok s x ∧ I (f s x)) → I s → KF ok f xs s ∧ I (xs.foldl f s)
  | [], s, _, h0 => ⟨⟨trivial⟩, h0⟩
  | x :: xs, s, h, h0 => by
    obtain ⟨h1, h2⟩ := h s x (List.mem_cons_self ..) h0
    obtain ⟨⟨k1⟩, k2⟩ := KF_inv I (fun s y hy => h s y (List.mem_cons_of_mem _ hy)) h2
    exact ⟨⟨⟨h1, k1⟩⟩, k2⟩
/-- .. with what is behind and what is ahead -/
theorem KF_pre {ok : σ → α → Prop} {f : σ → α → σ} (I : List α → σ → Prop) (all : List α) : ∀ {xs pre : List α} {s : σ}, pre ++ xs = all → (∀ pre x s, (∃ post, pre ++ x :: post = all) → I pre s → ok s x ∧ I (pre ++ [x]) (f s x)) → I pre s → KF ok f xs s ∧ I all (xs.foldl f s)
  | [], pre, s, e, _, h0 => ⟨⟨trivial⟩, by rw [List.append_nil] at e; rw [← e]; exact h0⟩
  | x :: xs, pre, s, e, h, h0 => by
    obtain ⟨h1, h2⟩ := h pre x s ⟨xs, e⟩ h0
    obtain ⟨⟨k1⟩, k2⟩ := KF_pre I all (xs := xs) (pre := pre ++ [x]) (s := f s x) (by rw [← e]; simp) h h2
    exact ⟨⟨⟨h1, k1⟩⟩, k2⟩
theorem forS_l {e : α → D} (St : σ → Sts) (fb : σ → α → σ) (ok : σ → α → Prop) {wp : List Nat} {g : D → Sts → Option Sts} {body : Es'} (step : ∀ s x, ok s x → ∃ st1, g (e x) (St s) = some st1 ∧ BdQ wp St (fb s x) (body st1)) : ∀ (xs : List α) (s : σ), KFr ok fb xs s → forS wp g body (xs.map e) (St s) = .nx (St (xs.foldl fb s))
  | [], s, _ => rfl
  | x :: xs, s, h => by
    obtain ⟨h1, h2⟩ := h
    obtain ⟨st1, q1, st2, q2, q3⟩ := step s x h1
    rw [List.map_cons, forS, q1]
    dsimp only
    rcases q2 with q2 | q2 <;> rw [q2] <;> dsimp only <;> rw [q3, forS_l St fb ok step xs _ h2] <;> rfl
theorem forSQ {e : α → D} (St : σ → Sts) (fb : σ → α → σ) (ok : σ → α → Prop) {wp : List Nat} {fi : Ei} {g : D → Sts → Option Sts} {body : Es'} {xs : List α} {s0 : σ} (hi : fi S = .ok (xs.map e) S1) (hw : wipes wp S1 = St s0) (hk : KF ok fb xs s0)
    (step : ∀ s x, ok s x → ∃ st1, g (e x) (St s) = some st1 ∧ BdQ wp St (fb s x) (body st1)) {r : σ} (hr : xs.foldl fb s0 = r) (hS : St r = S3) (hq : Q (k S3)) : Q (sSeq (sFor wp fi g body) k S) :=
  seqQ ((for_ok hi).trans (by rw [hw, ← hS, ← hr]; exact forS_l St fb ok step xs s0 hk.q)) hq
/-! while -/
def wh (c : σ → Bool) (f : σ → σ) : Nat → σ → σ
  | 0, s => s
  | n + 1, s => if c s = true then wh c f n (f s) else s
def KWr (ok : σ → Prop) (c : σ → Bool) (f : σ → σ) : Nat → σ → Prop
  | 0, _ => False
  | n + 1, s => ok s ∧ (c s = true → KWr ok c f n (f s))
structure KW (ok : σ → Prop) (c : σ → Bool) (f : σ → σ) (n : Nat) (s : σ) : Prop where
  q : KWr ok c f n s
theorem KW_s {ok : σ → Prop} {c : σ → Bool} {f : σ → σ} {n : Nat} {s : σ} (h : ok s) (h2 : c s = true → KW ok c f n (f s)) : KW ok c f (n + 1) s := ⟨⟨h, fun z => (h2 z).q⟩⟩
theorem whileS_l (St : σ → Sts) (cb : σ → Bool) (fb : σ → σ) (ok : σ → Prop) {wp : List Nat} {body : Es'} (hc : ∀ s, ok s → ta (St s) = .ok (cb s) (St s)) (step : ∀ s, ok s → cb s = true → BdQ wp St (fb s) (body (St s))) : ∀ (n : Nat) (s : σ), KWr ok cb fb n s → whileS wp ta body n (St s) = .nx (St (wh cb fb n s))
  | 0, s, h => h.elim
  | n + 1, s, h => by
    obtain ⟨h1, h2⟩ := h
    rw [whileS, hc s h1]
    show (if cb s = true then _ else _) = _
    unfold wh
    cases q : cb s with
    | false => rfl
    | true =>
      rw [if_pos rfl, if_pos rfl]
      obtain ⟨st2, q2, q3⟩ := step s h1 q
      rcases q2 with q2 | q2 <;> rw [q2] <;> dsimp only <;> rw [q3, whileS_l St cb fb ok hc step n _ (h2 q)]
theorem whileSQ (St : σ → Sts) (cb : σ → Bool) (fb : σ → σ) (ok : σ → Prop) {wp : List Nat} {fu : Sts → Nat} {body : Es'} {s0 : σ} (n : Nat) (hw : wipes wp S = St s0) (hn : fu (St s0) = n) (hk : KW ok cb fb n s0) (hc : ∀ s, ok s → ta (St s) = .ok (cb s) (St s)) (step : ∀ s, ok s → cb s = true → BdQ wp St (fb s) (body (St s)))
    {r : σ} (hr : wh cb fb n s0 = r) (hS : St r = S3) (hq : Q (k S3)) : Q (sSeq (sWhile wp fu ta body) k S) :=
  seqQ (by unfold sWhile; rw [hw, hn, ← hS, ← hr]; exact whileS_l St cb fb ok hc step n s0 hk.q) hq
/-! simple ones -/
theorem setSQ (h : fa S = .ok d S1) (hp : noPar S1 i = true) (e : S1.set i (.im d) = S2) (h2 : Q (g S2)) : Q (sSeq (sSet i fa) g S) := seqQ ((set_ok h hp).trans (by rw [e])) h2
theorem ownSQ (h : fa S = .ok d S1) (hp : noPar S1 i = true) (e : S1.set i (.own d) = S2) (h2 : Q (g S2)) : Q (sSeq (sOwn i fa) g S) := seqQ ((own_ok h hp).trans (by rw [e])) h2
theorem exSQ (h : fa S = .ok d S1) (h2 : Q (g S1)) : Q (sSeq (sEx fa) g S) := seqQ (by rw [sEx_s, h, sExK_ok]) h2
theorem appSQ {e : α → D} {xs : List α} {v : α} (h : fa S = .ok (e v) S1) (h0 : (getL S i).isSome = true) (h1 : getO S1 i = some (eL e xs)) (hl : xs.length < 16777216) (e2 : setO S1 i (eL e (xs ++ [v])) = S2) (h2 : Q (g S2)) : Q (sSeq (sEx (mOn i goAppend (aCons fa aNil))) g S) := by
  refine exSQ (d := .none) ?_ h2
  rw [mOn_s h0, aCons_s, h, acK_ok, aNil_s, acL_ok, moK_ok]
  have : getL S1 i = some (xs.map e) := by unfold getL; rw [h1]; rfl
  rw [this, moL_ok, append_s (by rw [List.length_map, sizeLine_eq]; exact hl), moM_ok, ← e2]
  unfold eL
  rw [List.map_append]; rfl
theorem augSQ {f : Int → Int → Int} {u v : Int} (h0 : S[i]? = some (.im (.int u))) (h : fa S = .ok (.int v) S1) (hp : noPar S1 i = true) (e : S1.set i (.im (.int (f u v))) = S2) (h2 : Q (g S2)) : Q (sSeq (sAug i (ii tt2 fun i j => .int (f i j)) fa) g S) := by
  refine seqQ ?_ h2
  rw [sAug_s, h0, sAugO_im, h, sAugK_ok]
  show sAugL i S1 (some (.int (f u v))) = _
  rw [sAugL_ok hp, e]
theorem augCSQ {C : Int → Int → Bool} {f : Int → Int → Int} {u v : Int} (h0 : S[i]? = some (.im (.int u))) (h : fa S = .ok (.int v) S1) (hC : C u v = true) (hp : noPar S1 i = true) (e : S1.set i (.im (.int (f u v))) = S2) (h2 : Q (g S2)) : Q (sSeq (sAug i (ii C fun i j => .int (f i j)) fa) g S) := by
  refine seqQ ?_ h2
  rw [sAug_s, h0, sAugO_im, h, sAugK_ok]
  have : ii C (fun i j => PyData.int (f i j)) (.int u) (.int v) = some (.int (f u v)) := if_pos hC
  rw [this, sAugL_ok hp, e]
theorem unSQ {gg : D → Sts → Option Sts} (h : fa S = .ok d S1) (e : gg d S1 = some S2) (h2 : Q (g S2)) : Q (sSeq (sUn gg fa) g S) := by
  refine seqQ ?_ h2
  rw [sUn_s, h, sUnK_ok, e, sUnL_ok]
theorem parSQ {is : List Nat} {ks : List Bool} {fa : Ea} {ds : List D} (h : fa S = .ok ds S1) (e : pSet is ks ds S1 = some S2) (h2 : Q (g S2)) : Q (sSeq (sPar is ks fa) g S) := by
  refine seqQ ?_ h2
  rw [sPar_s, h, sParK_ok, e, sUnL_ok]
end
end Vs

set_option Elab.async false
set_option linter.all false
set_option maxRecDepth 100000
set_option maxHeartbeats 400000
namespace Vs
open PySem PySem.Spec PyProof.Rows L2
section
variable {α β σ : Type}
theorem mem_rgI {i j x : Int} : x ∈ rgI i j ↔ i ≤ x ∧ x < j := by
  unfold rgI
  rw [List.mem_map]
  constructor
  · rintro ⟨k, hk, rfl⟩
    have := List.mem_range.mp hk
    omega
  · intro h
    exact ⟨(x - i).toNat, List.mem_range.mpr (by omega), by omega⟩
theorem len_rgI (i j : Int) : (rgI i j).length = (j - i).toNat := by unfold rgI; simp
theorem ix_rgI {i j k : Int} (h : 0 ≤ k) (h2 : k < j - i) : ix (rgI i j) k = i + k := by
  unfold ix rgI
  rw [List.getD_eq_getElem?_getD, List.getElem?_map, List.getElem?_range (by omega)]
  simp; omega
theorem ix_eq [Inhabited α] {xs : List α} {i : Int} (h : i.toNat < xs.length) : ix xs i = xs[i.toNat] := by
  unfold ix
  rw [List.getD_eq_getElem?_getD, List.getElem?_eq_getElem h]; rfl
theorem ix_nat [Inhabited α] {xs : List α} {k : Nat} (h : k < xs.length) : ix xs (k : Int) = xs[k] := ix_eq (i := (k : Int)) h
theorem ix0 [Inhabited α] (x : α) (xs : List α) : ix (x :: xs) (0 : Int) = x := rfl
theorem ix_mem [Inhabited α] {xs : List α} {i : Int} (h : 0 ≤ i ∧ i < xs.length) : ix xs i ∈ xs := by
  rw [ix_eq (by omega)]; exact List.getElem_mem _
theorem ix_map [Inhabited α] [Inhabited β] {xs : List α} {i : Int} (f : α → β) (h : 0 ≤ i ∧ i < xs.length) : ix (xs.map f) i = f (ix xs i) := by
  rw [ix_eq (by simp; omega), ix_eq (by omega), List.getElem_map]
theorem ix_rev [Inhabited α] {xs : List α} {i : Int} (h : 0 ≤ i ∧ i < xs.length) : ix xs.reverse i = ix xs (xs.length - 1 - i) := by
  rw [ix_eq (by simp; omega), ix_eq (by omega), List.getElem_reverse]
  congr 1; omega
theorem mem_ix [Inhabited α] {xs : List α} {x : α} (h : x ∈ xs) : ∃ i : Int, (0 ≤ i ∧ i < xs.length) ∧ ix xs i = x := by
  obtain ⟨k, hk, e⟩ := List.mem_iff_getElem.mp h
  exact ⟨k, by omega, by rw [ix_nat hk, e]⟩
theorem ext_ix [Inhabited α] {xs ys : List α} (h : xs.length = ys.length) (h2 : ∀ i : Int, 0 ≤ i → i < xs.length → ix xs i = ix ys i) : xs = ys := by
  refine List.ext_getElem h fun k h1 h2' => ?_
  have := h2 k (by omega) (by omega)
  rwa [ix_nat h1, ix_nat h2'] at this
theorem rgI_map [Inhabited α] (xs : List α) : (rgI 0 xs.length).map (ix xs) = xs := by
  refine List.ext_getElem (by rw [List.length_map, len_rgI]; omega) fun k h1 h2 => ?_
  rw [List.getElem_map]
  unfold rgI
  rw [List.getElem_map, List.getElem_range]
  rw [show (0 : Int) + (k : Int) = k by omega, ix_nat h2]
theorem rgI_mk [Inhabited α] (f : Int → α) {n i : Int} (h : 0 ≤ i ∧ i < n) : ix ((rgI 0 n).map f) i = f i := by
  rw [ix_map f (by rw [len_rgI]; omega), ix_rgI h.1 (by omega)]
  congr 1; omega
theorem rgI_succ {i j : Int} (h : i ≤ j) : rgI i (j + 1) = rgI i j ++ [j] := by
  unfold rgI
  rw [show (j + 1 - i).toNat = (j - i).toNat + 1 by omega, List.range_succ, List.map_append, List.map_singleton]
  congr 2; omega
theorem rgI_nil {i j : Int} (h : j ≤ i) : rgI i j = [] := by
  unfold rgI
  rw [show (j - i).toNat = 0 by omega]; rfl
theorem rgI_cons {i j : Int} (h : i < j) : rgI i j = i :: rgI (i + 1) j := by
  unfold rgI
  rw [show (j - i).toNat = (j - (i + 1)).toNat + 1 by omega, List.range_succ_eq_map, List.map_cons, List.map_map]
  congr 1
  · simp
  · refine List.map_congr_left fun k _ => ?_
    show i + ((k + 1 : Nat) : Int) = _
    omega
theorem ix_app [Inhabited α] {xs ys : List α} {i : Int} (h : 0 ≤ i) : ix (xs ++ ys) i = if i < xs.length then ix xs i else ix ys (i - xs.length) := by
  unfold ix
  rw [List.getD_eq_getElem?_getD, List.getElem?_append]
  split
  · rw [if_pos (by omega), List.getD_eq_getElem?_getD]
  · rw [if_neg (by omega), List.getD_eq_getElem?_getD]
    congr 2; omega
theorem rgI_split {i j k : Int} (h : i ≤ j) (h2 : j ≤ k) : rgI i k = rgI i j ++ rgI j k := by
  refine ext_ix (by rw [List.length_append, len_rgI, len_rgI, len_rgI]; omega) fun t h0 h1 => ?_
  rw [len_rgI] at h1
  rw [ix_rgI h0 (by omega), ix_app h0, len_rgI]
  split
  · rw [ix_rgI h0 (by omega)]
  · rw [ix_rgI (by omega) (by omega)]; omega
theorem en_eq [Inhabited α] (xs : List α) : en xs = (rgI 0 xs.length).map fun i => (i, ix xs i) := by
  unfold en
  refine List.ext_getElem (by rw [List.length_map, List.length_map, List.length_zipIdx, len_rgI]; omega) fun k h1 h2 => ?_
  rw [List.length_map, List.length_zipIdx] at h1
  rw [List.getElem_map, List.getElem_map, List.getElem_zipIdx]
  unfold rgI
  rw [List.getElem_map, List.getElem_range]
  rw [show (0 : Int) + (k : Int) = k by omega, ix_nat h1]
  simp
theorem len_en (xs : List α) : (en xs).length = xs.length := by unfold en; rw [List.length_map, List.length_zipIdx]
theorem mem_en [Inhabited α] {xs : List α} {p : Int × α} : p ∈ en xs ↔ (0 ≤ p.1 ∧ p.1 < xs.length) ∧ p.2 = ix xs p.1 := by
  rw [en_eq, List.mem_map]
  constructor
  · rintro ⟨i, hi, rfl⟩
    exact ⟨by have := mem_rgI.mp hi; omega, rfl⟩
  · intro h
    exact ⟨p.1, mem_rgI.mpr h.1, by rw [← h.2]⟩
theorem mxI_ge {xs : List Int} {x : Int} (h : x ∈ xs) : x ≤ mxI xs := by
  cases xs with
  | nil => cases h
  | cons y ys =>
    have := maxOf_ge ys y
    show x ≤ PySem.W.maxOf y ys
    rcases List.mem_cons.mp h with rfl | h
    · exact this.1
    · exact this.2 x h
theorem mxI_mem {xs : List Int} (h : xs ≠ []) : mxI xs ∈ xs := by
  cases xs with
  | nil => exact (h rfl).elim
  | cons y ys =>
    show PySem.W.maxOf y ys ∈ _
    rcases maxOf_mem ys y with e | e
    · rw [e]; exact List.mem_cons_self ..
    · exact List.mem_cons_of_mem _ e
theorem mxI_eq {xs : List Int} {m : Int} (h : m ∈ xs) (h2 : ∀ x ∈ xs, x ≤ m) : mxI xs = m := by
  have h3 := mxI_mem (xs := xs) (fun z => by rw [z] at h; cases h)
  have := mxI_ge h
  have := h2 _ h3
  omega
theorem mxI_le {xs : List Int} {m : Int} (h : xs ≠ []) (h2 : ∀ x ∈ xs, x ≤ m) : mxI xs ≤ m := h2 _ (mxI_mem h)
theorem minOf_le : ∀ (xs : List Int) (x : Int), PySem.W.minOf x xs ≤ x ∧ ∀ y ∈ xs, PySem.W.minOf x xs ≤ y
  | [], x => ⟨Int.le_refl _, fun y h => by cases h⟩
  | z :: xs, x => by
    have h := minOf_le xs (if PySem.W.DatumOrd.lt z x = true then z else x)
    have e : PySem.W.minOf x (z :: xs) = PySem.W.minOf (if PySem.W.DatumOrd.lt z x = true then z else x) xs := rfl
    rw [e]
    have q : PySem.W.DatumOrd.lt z x = decide (z < x) := rfl
    rw [q] at h ⊢
    simp only [decide_eq_true_eq] at h ⊢
    refine ⟨?_, fun y hy => ?_⟩
    · split at h <;> rename_i g <;> simp only [g, if_true, if_false] <;> omega
    · rcases List.mem_cons.mp hy with rfl | hy
      · split at h <;> rename_i g <;> simp only [g, if_true, if_false] <;> omega
      · exact h.2 y hy
theorem minOf_mem : ∀ (xs : List Int) (x : Int), PySem.W.minOf x xs = x ∨ PySem.W.minOf x xs ∈ xs
  | [], x => .inl rfl
  | z :: xs, x => by
    have e : PySem.W.minOf x (z :: xs) = PySem.W.minOf (if PySem.W.DatumOrd.lt z x = true then z else x) xs := rfl
    rw [e]
    rcases minOf_mem xs (if PySem.W.DatumOrd.lt z x = true then z else x) with h | h
    · rw [h]
      split
      · exact .inr (List.mem_cons_self ..)
      · exact .inl rfl
    · exact .inr (List.mem_cons_of_mem _ h)
theorem mnI_le {xs : List Int} {x : Int} (h : x ∈ xs) : mnI xs ≤ x := by
  cases xs with
  | nil => cases h
  | cons y ys =>
    have := minOf_le ys y
    show PySem.W.minOf y ys ≤ x
    rcases List.mem_cons.mp h with rfl | h
    · exact this.1
    · exact this.2 x h
theorem mnI_mem {xs : List Int} (h : xs ≠ []) : mnI xs ∈ xs := by
  cases xs with
  | nil => exact (h rfl).elim
  | cons y ys =>
    show PySem.W.minOf y ys ∈ _
    rcases minOf_mem ys y with e | e
    · rw [e]; exact List.mem_cons_self ..
    · exact List.mem_cons_of_mem _ e
theorem mnI_eq {xs : List Int} {m : Int} (h : m ∈ xs) (h2 : ∀ x ∈ xs, m ≤ x) : mnI xs = m := by
  have h3 := mnI_mem (xs := xs) (fun z => by rw [z] at h; cases h)
  have := mnI_le h
  have := h2 _ h3
  omega
theorem foldl_app (p : α → Bool) (f : α → β) : ∀ (xs : List α) (s : List β), xs.foldl (fun s x => if p x = true then s ++ [f x] else s) s = s ++ (xs.filter p).map f
  | [], s => by simp
  | x :: xs, s => by
    rw [List.foldl_cons, foldl_app p f xs]
    cases h : p x with
    | true => rw [if_pos rfl, List.filter_cons_of_pos h, List.map_cons, List.append_assoc]; rfl
    | false => rw [if_neg (by decide), List.filter_cons_of_neg (by simp [h])]
theorem foldl_snoc (f : α → β) : ∀ (xs : List α) (s : List β), xs.foldl (fun s x => s ++ [f x]) s = s ++ xs.map f
  | [], s => by simp
  | x :: xs, s => by
    rw [List.foldl_cons, foldl_snoc f xs, List.map_cons, List.append_assoc]; rfl
/-- the first of those that p holds of -/
theorem first_rgI {p : Int → Bool} {n t : Int} (h0 : 0 ≤ t) (h1 : t < n) (h2 : p t = true) (h3 : ∀ s, 0 ≤ s → s < t → p s = false) : (rgI 0 n).filter p = t :: (rgI (t + 1) n).filter p := by
  rw [rgI_split (j := t) h0 (by omega), List.filter_append, rgI_cons h1, List.filter_cons_of_pos h2]
  rw [List.filter_eq_nil_iff.mpr]
  · rfl
  · intro a ha
    have := mem_rgI.mp ha
    rw [h3 a (by omega) (by omega)]; decide
theorem none_rgI {p : Int → Bool} {n : Int} (h : ∀ s, 0 ≤ s → s < n → p s = false) : (rgI 0 n).filter p = [] := by
  rw [List.filter_eq_nil_iff]
  intro a ha
  have := mem_rgI.mp ha
  rw [h a (by omega) (by omega)]; decide
theorem okA_ints (n : Nat) (m : List Int) (h : m.length < 100000) : OkA (n + 2) (eT PyData.int m) := .tup _ _ (by rw [List.length_map]; omega) fun d hd => by
  obtain ⟨x, _, rfl⟩ := List.mem_map.mp hd
  exact .int _ _
theorem lst_eq [Inhabited α] {xs : List α} (h : xs ≠ []) : lst xs = xs.getLast h := by
  unfold lst
  rw [List.getLastD_eq_getLast?, List.getLast?_eq_some_getLast h]; rfl
theorem lst_snoc [Inhabited α] (xs : List α) (x : α) : lst (xs ++ [x]) = x := by
  rw [lst_eq (by simp), List.getLast_append_of_ne_nil _ (by simp)]; rfl
theorem lst_mem [Inhabited α] {xs : List α} (h : xs ≠ []) : lst xs ∈ xs := by rw [lst_eq h]; exact List.getLast_mem h
theorem divO {i j : Int} (h : 0 < j) (h2 : j < 1606938044258990275541962092341162602522202993782792835301376) : divOk i j = true := by
  unfold divOk
  rw [decide_eq_true_eq]
  have := (Nat.log2_lt (n := j.natAbs) (k := 200) (by omega)).mpr (by omega)
  exact ⟨h, by omega⟩
theorem mulO {i j : Int} (h : i.natAbs < 1606938044258990275541962092341162602522202993782792835301376) (h2 : j.natAbs < 1606938044258990275541962092341162602522202993782792835301376) : mulOk i j = true := by
  unfold mulOk
  have a : Builtin.Int.intBits i ≤ 200 := intBits_le_iff.mpr (show i.natAbs < 2 ^ 200 by omega)
  have b : Builtin.Int.intBits j ≤ 200 := intBits_le_iff.mpr (show j.natAbs < 2 ^ 200 by omega)
  rw [decide_eq_true_eq]; omega
end
end Vs

set_option Elab.async false
set_option linter.all false
set_option maxRecDepth 100000
set_option maxHeartbeats 400000
namespace Vs
open PySem PySem.Spec PyProof.Rows L2
/-! ### errors -/
section
variable {S S1 S2 : Sts} {c : Str} {f g : Es'} {fa : Ev} {t : Et} {i : Nat}
theorem sqK_x (g : Es') (c : Str) (st : Sts) : sqK g (.exc c st) = .exc c st := Eq.trans rfl rfl
theorem sExK_x (c : Str) (st : Sts) : sExK (.exc c st) = .exc c st := Eq.trans rfl rfl
theorem sRetK_x (c : Str) (st : Sts) : sRetK (.exc c st) = .exc c st := Eq.trans rfl rfl
theorem sSetK_x (i : Nat) (c : Str) (st : Sts) : sSetK i (.exc c st) = .exc c st := Eq.trans rfl rfl
theorem sOwnK_x (i : Nat) (c : Str) (st : Sts) : sOwnK i (.exc c st) = .exc c st := Eq.trans rfl rfl
theorem binK_x (g : D → D → Option D) (fb : Ev) (c : Str) (st : Sts) : binK g fb (.exc c st) = .exc c st := Eq.trans rfl rfl
theorem binL_x (g : D → D → Option D) (x : D) (c : Str) (st : Sts) : binL g x (.exc c st) = .exc c st := Eq.trans rfl rfl
theorem tstK_x (c : Str) (st : Sts) : tstK (.exc c st) = .exc c st := Eq.trans rfl rfl
theorem ntK_x (c : Str) (st : Sts) : ntK (.exc c st) = .exc c st := Eq.trans rfl rfl
theorem sIfK_x (f g : Es') (c : Str) (st : Sts) : sIfK f g (.exc c st) = .exc c st := Eq.trans rfl rfl
theorem cbK_x (go : List D → Option D) (c : Str) (st : Sts) : cbK go (.exc c st) = .exc c st := Eq.trans rfl rfl
theorem acK_x (g : Ea) (c : Str) (st : Sts) : acK g (.exc c st) = .exc c st := Eq.trans rfl rfl
theorem acL_x (d : D) (c : Str) (st : Sts) : acL d (.exc c st) = .exc c st := Eq.trans rfl rfl
theorem resP_x {o : Ou} (h : ∃ st', o = .exc c st') (st : Sts) : resP st o = .exc c st := by obtain ⟨st', rfl⟩ := h; rfl
def tryK (i : Nat) (wd : Str → Option Str) (o : Ou) : Ou := match o with
  | .exc c st' => if i < st'.length then (match wd c with
    | some z => .rt (.str z) st'
    | none => .bad) else .bad
  | o => o
theorem sTry_s (i : Nat) (wd : Str → Option Str) (fb : Es') (st : Sts) : sTry i wd fb st = tryK i wd (fb st) := Eq.trans rfl rfl
theorem tryK_x {i : Nat} {wd : Str → Option Str} {c z : Str} {st : Sts} (h : wd c = some z) (hi : i < st.length) : tryK i wd (.exc c st) = .rt (.str z) st := by
  unfold tryK
  dsimp only
  rw [if_pos hi, h]
theorem tryK_rt (i : Nat) (wd : Str → Option Str) (d : D) (st : Sts) : tryK i wd (.rt d st) = .rt d st := Eq.trans rfl rfl
end
end Vs

set_option Elab.async false
set_option linter.all false
set_option maxRecDepth 100000
set_option maxHeartbeats 4000000
namespace Vs.k37
open PySem PySem.Spec PyProof.Rows L2 HotX L2H
/-! ### the program: its defs -/
def top (i : Nat) : Stmt := PySem.Challenge.pw_skisheld_k37_whole_figures_on_posts.main.body.getD i (.Pass ⟨0, 0, 0, 0⟩)
def N_is_number : List Str := ["value", "least", "most"]
theorem sc_is_number : FnScope N_is_number ["value", "least", "most"] (defScope (top 8)) := ⟨rfl, rfl, rfl, by decide +kernel, rfl, by decide +kernel, by decide +kernel⟩
def N_count_figures : List Str := ["n", "found", "begin", "figures"]
theorem sc_count_figures : FnScope N_count_figures ["n"] (defScope (top 11)) := ⟨rfl, rfl, rfl, by decide +kernel, rfl, by decide +kernel, by decide +kernel⟩
def N_times_of : List Str := ["figure", "n", "found", "place", "ahead", "here", "behind"]
theorem sc_times_of : FnScope N_times_of ["figure", "n"] (defScope (top 12)) := ⟨rfl, rfl, rfl, by decide +kernel, rfl, by decide +kernel, by decide +kernel⟩
def N_figure_at : List Str := ["place", "begin", "figures", "left", "post", "at", "behind", "_"]
theorem sc_figure_at : FnScope N_figure_at ["place"] (defScope (top 13)) := ⟨rfl, rfl, rfl, by decide +kernel, rfl, by decide +kernel, by decide +kernel⟩
def N__law_draws : List Str := ["script", "draws", "cell", "number", "first", "k", "seed"]
theorem sc__law_draws : FnScope N__law_draws ["script"] (defScope (top 15)) := ⟨rfl, rfl, rfl, by decide +kernel, rfl, by decide +kernel, by decide +kernel⟩
def N__law_take : List Str := ["draws", "bound"]
theorem sc__law_take : FnScope N__law_take ["draws", "bound"] (defScope (top 16)) := ⟨rfl, rfl, rfl, by decide +kernel, rfl, by decide +kernel, by decide +kernel⟩
def N__law_alike : List Str := ["found", "due", "k"]
theorem sc__law_alike : FnScope N__law_alike ["found", "due"] (defScope (top 17)) := ⟨rfl, rfl, rfl, by decide +kernel, rfl, by decide +kernel, by decide +kernel⟩
def N__law_word : List Str := ["error", "kinds", "one"]
theorem sc__law_word : FnScope N__law_word ["error"] (defScope (top 18)) := ⟨rfl, rfl, rfl, by decide +kernel, rfl, by decide +kernel, by decide +kernel⟩
def N__law_told : List Str := ["figure", "n", "e"]
theorem sc__law_told : FnScope N__law_told ["figure", "n"] (defScope (top 19)) := ⟨rfl, rfl, rfl, by decide +kernel, rfl, by decide +kernel, by decide +kernel⟩
def N__law_figures : List Str := ["number", "found"]
theorem sc__law_figures : FnScope N__law_figures ["number"] (defScope (top 20)) := ⟨rfl, rfl, rfl, by decide +kernel, rfl, by decide +kernel, by decide +kernel⟩
def N_law : List Str := ["script", "draws", "n", "painted", "post", "rows", "counts", "spots", "far", "step", "own", "figure", "begin", "at", "k", "ten", "noughts", "whole", "part", "row", "one", "place"]
theorem sc_law : FnScope N_law ["script"] (defScope (top 21)) := ⟨rfl, rfl, rfl, by decide +kernel, rfl, by decide +kernel, by decide +kernel⟩
def errs : List Str := ["OutOfRange", "Refused", "Malformed", "NotThere", "TooMuch"]
def wdN__law_word (c : Str) : Option Str := if c = "OutOfRange" then some "range" else if c = "Refused" then some "refused" else if c = "Malformed" then some "form" else if c = "NotThere" then some "none" else if c = "TooMuch" then some "much" else none
theorem wdN__law_word_in : ∀ c z, wdN__law_word c = some z → c ∈ errs := by
  intro c z h
  unfold wdN__law_word at h
  unfold errs
  repeat (split at h; · (rename_i e; subst e; simp))
  cases h
def fu_count_figures_0 (st : Sts) : Nat := 100
def fu_times_of_0 (st : Sts) : Nat := 100
def fu_figure_at_0 (st : Sts) : Nat := 100
def fu__law_figures_0 (st : Sts) : Nat := 100
def fu_law_0 (st : Sts) : Nat := 100
/-! ### what the defs compute -/
def M_is_number : Es' := sRet (val (an (tst (isF "int" (vIm 0))) (an (nt (tst (isF "bool" (vIm 0)))) (tst (chain leD leD (vIm 1) (vIm 0) (vIm 2))))))
def C_is_number : Es' := fun p => M_is_number (full 3 p)
def M_count_figures : Es' := sSeq (sPar [1, 2, 3] [false, false, false] (aCons (vC (.int 0)) (aCons (vC (.int 1)) (aCons (vC (.int 1)) (aNil))))) (sSeq (sWhile [] fu_count_figures_0 (tst (bin leD (vIm 2) (vIm 0))) (sSeq (sAug 1 (ii tt2 fun i j => .int (i + j)) (bin mulD (bin addD (bin subD (callB min2D (aCons (vIm 0) (aCons (bin subD (bin mulD (vIm 2) (vC (.int 10))) (vC (.int 1))) (aNil)))) (vIm 2)) (vC (.int 1))) (vIm 3))) (sPar [2, 3] [false, false] (aCons (bin mulD (vIm 2) (vC (.int 10))) (aCons (bin addD (vIm 3) (vC (.int 1))) (aNil)))))) (sWipe [0, 2, 3] (sRet (vIm 1))))
def C_count_figures : Es' := fun p => M_count_figures (full 4 p)
def M_figure_at : Es' := sSeq (sPar [1, 2, 3] [false, false, false] (aCons (vC (.int 1)) (aCons (vC (.int 1)) (aCons (vIm 0) (aNil))))) (sSeq (sWhile [] fu_figure_at_0 (tst (bin geD (vIm 3) (bin mulD (bin mulD (bin subD (vC (.int 10)) (vC (.int 1))) (vIm 1)) (vIm 2)))) (sSeq (sAug 3 (ii tt2 fun i j => .int (i - j)) (bin mulD (bin mulD (bin subD (vC (.int 10)) (vC (.int 1))) (vIm 1)) (vIm 2))) (sPar [1, 2] [false, false] (aCons (bin mulD (vIm 1) (vC (.int 10))) (aCons (bin addD (vIm 2) (vC (.int 1))) (aNil)))))) (sSeq (sPar [4, 5] [false, false] (aCons (bin addD (vIm 1) (bin fdivD (vIm 3) (vIm 2))) (aCons (bin modD (vIm 3) (vIm 2)) (aNil)))) (sSeq (sSet 6 (vC (.int 1))) (sSeq (sFor [7] (iRg (aCons (bin subD (bin subD (vIm 2) (vC (.int 1))) (vIm 5)) (aNil))) (gN 7) (sAug 6 (ii mulOk fun i j => .int (i * j)) (vC (.int 10)))) (sWipe [2, 5, 7] (sRet (callB mkT (aCons (bin modD (bin fdivD (vIm 4) (vIm 6)) (vC (.int 10))) (aCons (vIm 4) (aNil))))))))))
def C_figure_at : Es' := fun p => M_figure_at (full 8 p)
def M__law_draws : Es' := sSeq (sOwn 1 (callB mkL (aNil))) (sSeq (sFor [2, 3, 4, 5] (iScr 0) (gN 2) (sSeq (sSet 3 (callB absD (aCons (vIm 2) (aNil)))) (sSeq (sIf (tst (bin ltD (vIm 3) (bin powD (vC (.int 10)) (vC (.int 18))))) (sSeq (sSet 4 (bin modD (callB intD (aCons (bin addD (bin mulD (vIm 3) (vC (.int 48271))) (vC (.int 11))) (aNil))) (vC (.int 2147483647)))) (sSeq (sEx (mOn 1 goAppend (aCons (bin modD (callB intD (aCons (bin addD (bin mulD (vIm 4) (vC (.int 69621))) (vIm 3)) (aNil))) (vC (.int 2147483629))) (aNil)))) (sSeq (sEx (mOn 1 goAppend (aCons (bin modD (callB intD (aCons (bin addD (vIm 4) (bin fdivD (vIm 3) (vC (.int 7)))) (aNil))) (vC (.int 1000003))) (aNil)))) (sSet 3 (vC (.int 0)))))) (sNil)) (sWipe [4] (sSeq (sFor [5] (iRg (aCons (vC (.int 60)) (aNil))) (gN 5) (sIf (tst (bin gtD (vIm 3) (vC (.int 0)))) (sSeq (sEx (mOn 1 goAppend (aCons (bin modD (callB intD (aCons (vIm 3) (aNil))) (vC (.int 997))) (aNil)))) (sSet 3 (bin fdivD (vIm 3) (vC (.int 997))))) (sNil))) (sWipe [3, 5] (sNil))))))) (sWipe [2, 3, 4, 5] (sSeq (sSet 6 (vC (.int 1))) (sSeq (sIf (tst (bin gtD (lenScr 0) (vC (.int 0)))) (sSet 6 (bin addD (vC (.int 1)) (callB absD (aCons (ixScr 0 (vC (.int 0))) (aNil))))) (sNil)) (sSeq (sFor [5] (iRg (aCons (vC (.int 900)) (aNil))) (gN 5) (sSeq (sSet 6 (bin modD (callB intD (aCons (bin addD (bin mulD (vIm 6) (vC (.int 48271))) (vC (.int 69621))) (aNil))) (vC (.int 2147483647)))) (sEx (mOn 1 goAppend (aCons (bin fdivD (vIm 6) (vC (.int 5))) (aNil)))))) (sWipe [5, 6] (sRetF (lrv (vAny 1)))))))))
def C__law_draws : Es' := fun p => M__law_draws (full 7 p)
def M__law_take : Es' := sSeq (sIf (tst (bin eqD (callB lenD (aCons (vAny 0) (aNil))) (vC (.int 0)))) (sRet (vC (.int 0))) (sNil)) (sRet (bin modD (callB intD (aCons (mOn 0 goPop aNil) (aNil))) (vIm 1)))
def C__law_take : Es' := fun p => M__law_take (full 2 p)
def M__law_word : Es' := sSeq (sIf (tst (bin neD (callB lenD (aCons (cmpP [2] (iLst (vIm 1)) (gN 2) (tst (vIm 2)) (vIm 2)) (aNil))) (vC (.int 1)))) (sRet (vC (.str "another"))) (sNil)) (sRet (bin atD (callB mkL (aCons (vC (.str "range")) (aCons (vC (.str "refused")) (aCons (vC (.str "form")) (aCons (vC (.str "none")) (aCons (vC (.str "much")) (aNil))))))) (idx (vIm 1) (vC (.bool true)))))
def M__law_figures : Es' := sSeq (sSet 1 (callB mkL (aNil))) (sSeq (sWhile [] fu__law_figures_0 (tst (bin gtD (vIm 0) (vC (.int 0)))) (sSeq (sSet 1 (bin addD (callB mkL (aCons (bin modD (callB intD (aCons (vIm 0) (aNil))) (vC (.int 10))) (aNil))) (vIm 1))) (sSet 0 (bin fdivD (vIm 0) (vC (.int 10)))))) (sWipe [0] (sRet (vIm 1))))
def C__law_figures : Es' := fun p => M__law_figures (full 2 p)
def M_times_of : Es' := sSeq (sIf (nt (tst (callP C_is_number (aCons (vIm 0) (aCons (vC (.int 0)) (aCons (bin subD (vC (.int 10)) (vC (.int 1))) (aNil))))))) ((fun st => .exc "OutOfRange" st)) (sNil)) (sSeq (sPar [2, 3] [false, false] (aCons (vC (.int 0)) (aCons (vC (.int 1)) (aNil)))) (sSeq (sWhile [4, 5, 6] fu_times_of_0 (tst (bin leD (vIm 3) (vIm 1))) (sSeq (sPar [4, 5, 6] [false, false, false] (aCons (bin fdivD (vIm 1) (bin mulD (vIm 3) (vC (.int 10)))) (aCons (bin modD (bin fdivD (vIm 1) (vIm 3)) (vC (.int 10))) (aCons (bin modD (vIm 1) (vIm 3)) (aNil))))) (sSeq (sIf (tst (bin eqD (vIm 0) (vC (.int 0)))) (sAug 4 (ii tt2 fun i j => .int (i - j)) (vC (.int 1))) (sNil)) (sSeq (sAug 2 (ii tt2 fun i j => .int (i + j)) (bin mulD (vIm 4) (vIm 3))) (sSeq (sIf (tst (bin gtD (vIm 5) (vIm 0))) (sAug 2 (ii tt2 fun i j => .int (i + j)) (vIm 3)) (sSeq (sIf (tst (bin eqD (vIm 5) (vIm 0))) (sAug 2 (ii tt2 fun i j => .int (i + j)) (bin addD (vIm 6) (vC (.int 1)))) (sNil)) (sWipe [5, 6] (sNil)))) (sWipe [5, 6] (sAug 3 (ii mulOk fun i j => .int (i * j)) (vC (.int 10))))))))) (sWipe [0, 1, 3, 4, 5, 6] (sRet (vIm 2)))))
def C_times_of : Es' := fun p => M_times_of (full 7 p)
def M__law_told : Es' := sSeq (sTry 2 wdN__law_word (sRet (callP C_times_of (aCons (vIm 0) (aCons (vIm 1) (aNil)))))) (sWipe [0, 1, 2] (sNil))
def C__law_told : Es' := fun p => M__law_told (full 3 p)
def M__law_alike (self : Es') : Es' := sSeq (sIf (orr (tst (isF "list" (vIm 1))) (tst (isF "tuple" (vIm 1)))) (sSeq (sIf (orr (tst (bin neD (isF "list" (vIm 0)) (isF "list" (vIm 1)))) (tst (bin neD (isF "tuple" (vIm 0)) (isF "tuple" (vIm 1))))) (sRet (vC (.bool false))) (sNil)) (sRet (val (an (tst (bin eqD (callB lenD (aCons (vIm 0) (aNil))) (callB lenD (aCons (vIm 1) (aNil))))) (tst (bin eqD (cmpP [2] (iRg (aCons (callB lenD (aCons (vIm 1) (aNil))) (aNil))) (gN 2) (nt (tst (callP self (aCons (bin atD (vIm 0) (vIm 2)) (aCons (bin atD (vIm 1) (vIm 2)) (aNil)))))) (vIm 2)) (callB mkL (aNil)))))))) (sNil)) (sSeq (sIf (tst (bin isD (vIm 1) (vC .none))) (sRet (bin isD (vIm 0) (vC .none))) (sNil)) (sSeq (sIf (orr (tst (isF "bool" (vIm 1))) (tst (isF "bool" (vIm 0)))) (sRet (val (an (tst (isF "bool" (vIm 0))) (an (tst (isF "bool" (vIm 1))) (tst (bin eqD (vIm 0) (vIm 1))))))) (sNil)) (sSeq (sIf (tst (isF "int" (vIm 1))) (sRet (val (an (tst (isF "int" (vIm 0))) (tst (bin eqD (vIm 0) (vIm 1)))))) (sNil)) (sRet (val (an (tst (isF "str" (vIm 0))) (tst (bin eqD (vIm 0) (vIm 1)))))))))
def C__law_alike : Nat → Es'
  | 0 => fun _ => .bad
  | n + 1 => fun p => M__law_alike (C__law_alike n) (full 3 p)
def M_law : Es' := sSeq (sOwn 1 (callFS 0 C__law_draws)) (sSeq (sSet 2 (callD 1 C__law_take (aCons (bin atD (callB mkL (aCons (vC (.int 12)) (aCons (vC (.int 130)) (aCons (vC (.int 1300)) (aNil))))) (callD 1 C__law_take (aCons (vC (.int 3)) (aNil)))) (aNil)))) (sSeq (sSet 3 (callB mkL (aNil))) (sSeq (sFor [4, 11] (iRg (aCons (vC (.int 1)) (aCons (bin addD (vIm 2) (vC (.int 1))) (aNil)))) (gN 4) (sWipe [11] (sSet 3 (iff (tst (bin ltD (vIm 2) (vC (.int 200)))) (bin addD (vIm 3) (cmpP [11] (iVal (callP C__law_figures (aCons (vIm 4) (aNil)))) (gN 11) (tYes') (callB mkT (aCons (vIm 11) (aCons (vIm 4) (aNil)))))) (vIm 3))))) (sWipe [4, 11] (sSeq (sIf (tst (bin geD (vIm 2) (vC (.int 200)))) (sWipe [4] (sSeq (sSet 5 (cmpP [4] (iRg (aCons (vC (.int 1)) (aCons (bin addD (vIm 2) (vC (.int 1))) (aNil)))) (gN 4) (tYes') (callP C__law_figures (aCons (vIm 4) (aNil))))) (sWipe [11] (sSeq (sSet 6 (cmpP [11] (iRg (aCons (vC (.int 10)) (aNil))) (gN 11) (tYes') (callB sumD (aCons (cmpP [19] (iVal (vIm 5)) (gN 19) (tYes') (cnt (vIm 19) (vIm 11))) (aNil))))) (sSet 7 (callB sumD (aCons (cmpP [19] (iVal (vIm 5)) (gN 19) (tYes') (callB lenD (aCons (vIm 19) (aNil)))) (aNil)))))))) (sWipe [4, 11] (sSeq (sPar [6, 7] [false, false] (aCons (cmpP [11] (iRg (aCons (vC (.int 10)) (aNil))) (gN 11) (tYes') (callB lenD (aCons (cmpP [20, 4] (iVal (vIm 3)) (gT (gCons' (gN 20) (gCons' (gN 4) (gNil')))) (tst (bin eqD (vIm 20) (vIm 11))) (vC (.int 1))) (aNil)))) (aCons (callB lenD (aCons (vIm 3) (aNil))) (aNil)))) (sSeq (sIf (tst (bin neD (cmpP [21] (iRg (aCons (callB lenD (aCons (vIm 3) (aNil))) (aNil))) (gN 21) (nt (tst (callP (C__law_alike 8) (aCons (callP C_figure_at (aCons (vIm 21) (aNil))) (aCons (bin atD (vIm 3) (vIm 21)) (aNil)))))) (vIm 21)) (callB mkL (aNil)))) (sRet (vC (.bool false))) (sNil)) (sWipe [3] (sNil)))))) (sWipe [3, 4, 5, 11] (sWipe [11] (sSeq (sIf (orr (nt (tst (callP (C__law_alike 8) (aCons (callP C_count_figures (aCons (vIm 2) (aNil))) (aCons (vIm 7) (aNil)))))) (orr (tst (bin neD (cmpP [11] (iRg (aCons (vC (.int 10)) (aNil))) (gN 11) (nt (tst (callP (C__law_alike 8) (aCons (callP C__law_told (aCons (vIm 11) (aCons (vIm 2) (aNil)))) (aCons (bin atD (vIm 6) (vIm 11)) (aNil)))))) (vIm 11)) (callB mkL (aNil)))) (tst (bin neD (callB sumD (aCons (vIm 6) (aNil))) (vIm 7))))) (sRet (vC (.bool false))) (sNil)) (sWipe [2, 6, 7, 11] (sSeq (sSet 8 (bin addD (vC (.int 1)) (callD 1 C__law_take (aCons (vC (.int 9)) (aNil))))) (sSeq (sFor [9] (iRg (aCons (bin atD (callB mkL (aCons (vC (.int 3)) (aCons (vC (.int 40)) (aNil)))) (callD 1 C__law_take (aCons (vC (.int 2)) (aNil)))) (aNil))) (gN 9) (sSet 8 (bin addD (bin mulD (vIm 8) (vC (.int 10))) (callD 1 C__law_take (aCons (vC (.int 10)) (aNil)))))) (sWipe [9] (sSeq (sSet 10 (callP C__law_figures (aCons (vIm 8) (aNil)))) (sSeq (sFor [11] (iRg (aCons (vC (.int 10)) (aNil))) (gN 11) (sSeq (sIf (tst (bin neD (bin subD (callP C__law_told (aCons (vIm 11) (aCons (vIm 8) (aNil)))) (callP C__law_told (aCons (vIm 11) (aCons (bin subD (vIm 8) (vC (.int 1))) (aNil))))) (cnt (vIm 10) (vIm 11)))) (sRet (vC (.bool false))) (sNil)) (sWipe [11] (sNil)))) (sWipe [11] (sWipe [11] (sSeq (sIf (orr (tst (bin neD (callB sumD (aCons (cmpP [11] (iRg (aCons (vC (.int 10)) (aNil))) (gN 11) (tYes') (callP C__law_told (aCons (vIm 11) (aCons (vIm 8) (aNil))))) (aNil))) (callP C_count_figures (aCons (vIm 8) (aNil))))) (tst (bin neD (bin subD (callP C_count_figures (aCons (vIm 8) (aNil))) (callP C_count_figures (aCons (bin subD (vIm 8) (vC (.int 1))) (aNil)))) (callB lenD (aCons (vIm 10) (aNil)))))) (sRet (vC (.bool false))) (sNil)) (sWipe [11] (sSeq (sSet 12 (callP C_count_figures (aCons (bin subD (vIm 8) (vC (.int 1))) (aNil)))) (sSeq (sFor [13] (iVal (callB mkL (aCons (vC (.int 0)) (aCons (bin subD (callB lenD (aCons (vIm 10) (aNil))) (vC (.int 1))) (aCons (callD 1 C__law_take (aCons (callB lenD (aCons (vIm 10) (aNil))) (aNil))) (aNil)))))) (gN 13) (sSeq (sIf (nt (tst (callP (C__law_alike 8) (aCons (callP C_figure_at (aCons (bin addD (vIm 12) (vIm 13)) (aNil))) (aCons (callB mkT (aCons (bin atD (vIm 10) (vIm 13)) (aCons (vIm 8) (aNil)))) (aNil)))))) (sRet (vC (.bool false))) (sNil)) (sWipe [13] (sNil)))) (sWipe [10, 13] (sSeq (sIf (an (tst (bin gtD (vIm 12) (vC (.int 0)))) (tst (bin neD (callP C_figure_at (aCons (bin subD (vIm 12) (vC (.int 1))) (aNil))) (callB mkT (aCons (bin atD (callP C__law_figures (aCons (bin subD (vIm 8) (vC (.int 1))) (aNil))) (una negD (vC (.int 1)))) (aCons (bin subD (vIm 8) (vC (.int 1))) (aNil))))))) (sRet (vC (.bool false))) (sNil)) (sWipe [8, 12] (sSeq (sPar [14, 15, 16] [false, false, false] (aCons (bin addD (vC (.int 1)) (callD 1 C__law_take (aCons (vC (.int 30)) (aNil)))) (aCons (vC (.int 1)) (aCons (vC (.int 0)) (aNil))))) (sSeq (sFor [9] (iRg (aCons (bin subD (vIm 14) (vC (.int 1))) (aNil))) (gN 9) (sSet 15 (bin mulD (vIm 15) (vC (.int 10))))) (sWipe [9] (sSeq (sSet 17 (vC (.int 0))) (sSeq (sPar [9, 18] [false, false] (aCons (vC (.int 1)) (aCons (vC (.int 1)) (aNil)))) (sSeq (sWhile [] fu_law_0 (tst (bin leD (vIm 9) (vIm 14))) (sPar [17, 16, 18, 9] [false, false, false, false] (aCons (bin addD (vIm 17) (bin mulD (bin mulD (vC (.int 9)) (vIm 18)) (vIm 9))) (aCons (bin addD (vIm 16) (vIm 18)) (aCons (bin mulD (vIm 18) (vC (.int 10))) (aCons (bin addD (vIm 9) (vC (.int 1))) (aNil))))))) (sWipe [9, 18] (sWipe [11] (sSeq (sIf (orr (tst (bin neD (callP C_count_figures (aCons (bin subD (bin mulD (vIm 15) (vC (.int 10))) (vC (.int 1))) (aNil))) (vIm 17))) (orr (tst (bin neD (cmpP [11] (iRg (aCons (vC (.int 1)) (aCons (vC (.int 10)) (aNil)))) (gN 11) (tst (bin neD (callP C__law_told (aCons (vIm 11) (aCons (bin subD (bin mulD (vIm 15) (vC (.int 10))) (vC (.int 1))) (aNil)))) (bin mulD (vIm 14) (vIm 15)))) (vIm 11)) (callB mkL (aNil)))) (tst (bin neD (callP C__law_told (aCons (vC (.int 0)) (aCons (bin subD (bin mulD (vIm 15) (vC (.int 10))) (vC (.int 1))) (aNil)))) (bin subD (bin mulD (vIm 14) (vIm 15)) (vIm 16)))))) (sRet (vC (.bool false))) (sNil)) (sWipe [11, 14, 15, 16, 17] (sRet (val (an (tst (bin eqD (cmpP [20] (iVal (callB mkL (aCons (una negD (vC (.int 1))) (aCons (vC (.int 10)) (aNil))))) (gN 20) (tYes') (callP C__law_told (aCons (vIm 20) (aCons (vC (.int 5)) (aNil))))) (bin mulD (callB mkL (aCons (vC (.str "range")) (aNil))) (vC (.int 2))))) (an (tst (bin eqD (callP C_count_figures (aCons (vC (.int 0)) (aNil))) (vC (.int 0)))) (an (tst (bin eqD (callP C_figure_at (aCons (vC (.int 0)) (aNil))) (callB mkT (aCons (vC (.int 1)) (aCons (vC (.int 1)) (aNil)))))) (an (tst (bin eqD (callP C_figure_at (aCons (vC (.int 9)) (aNil))) (callB mkT (aCons (vC (.int 1)) (aCons (vC (.int 10)) (aNil)))))) (tst (bin eqD (callP C_figure_at (aCons (vC (.int 10)) (aNil))) (callB mkT (aCons (vC (.int 0)) (aCons (vC (.int 10)) (aNil)))))))))))))))))))))))))))))))))))))))))))))
def C_law : Es' := fun p => M_law (full 22 p)
/-! ### what stands in the module -/
structure GF (mg : Str → Option Value) : Prop where
  g_abs : mg "abs" = none
  g_bool : mg "bool" = none
  g_int : mg "int" = none
  g_isinstance : mg "isinstance" = none
  g_len : mg "len" = none
  g_list : mg "list" = none
  g_min : mg "min" = none
  g_range : mg "range" = none
  g_reversed : mg "reversed" = none
  g_str : mg "str" = none
  g_sum : mg "sum" = none
  g_tuple : mg "tuple" = none
  i_BASE : ∃ t, mg "BASE" = some (.int (10) t)
abbrev FnP (K : PySem.W.Frag) (x : Str) (st : Stmt) (fd : FuncData) : Prop := FunD K x x (defArgs st) (defBody st) (defScope st) [] [] (He.fAd K (x, none)) fd
structure FF (K : PySem.W.Frag) (mg : Str → Option Value) (base : Heap) (T : Addr → Prop) : Prop where
  G : GF mg
  e_SkiError : mg "SkiError" = some (.ref (He.ga K "SkiError"))
  e_OutOfRange : mg "OutOfRange" = some (.ref (He.ga K "OutOfRange"))
  e_Refused : mg "Refused" = some (.ref (He.ga K "Refused"))
  e_Malformed : mg "Malformed" = some (.ref (He.ga K "Malformed"))
  e_NotThere : mg "NotThere" = some (.ref (He.ga K "NotThere"))
  e_TooMuch : mg "TooMuch" = some (.ref (He.ga K "TooMuch"))
  eA : ∀ c ∈ errs, mg c = some (.ref (He.ga K c))
  x_OutOfRange : ExcF K mg "OutOfRange"
  wf : WF K "SkiError" errs
  fn_is_number : ∃ fd, FnP K "is_number" (top 8) fd
  gl_is_number : mg "is_number" = some (.ref (He.fAd K ("is_number", none)))
  fn_count_figures : ∃ fd, FnP K "count_figures" (top 11) fd
  gl_count_figures : mg "count_figures" = some (.ref (He.fAd K ("count_figures", none)))
  fn_figure_at : ∃ fd, FnP K "figure_at" (top 13) fd
  gl_figure_at : mg "figure_at" = some (.ref (He.fAd K ("figure_at", none)))
  fn__law_draws : ∃ fd, FnP K "_law_draws" (top 15) fd
  gl__law_draws : mg "_law_draws" = some (.ref (He.fAd K ("_law_draws", none)))
  fn__law_take : ∃ fd, FnP K "_law_take" (top 16) fd
  gl__law_take : mg "_law_take" = some (.ref (He.fAd K ("_law_take", none)))
  fn__law_word : ∃ fd, FnP K "_law_word" (top 18) fd
  gl__law_word : mg "_law_word" = some (.ref (He.fAd K ("_law_word", none)))
  fn__law_figures : ∃ fd, FnP K "_law_figures" (top 20) fd
  gl__law_figures : mg "_law_figures" = some (.ref (He.fAd K ("_law_figures", none)))
  fn_times_of : ∃ fd, FnP K "times_of" (top 12) fd
  gl_times_of : mg "times_of" = some (.ref (He.fAd K ("times_of", none)))
  fn__law_told : ∃ fd, FnP K "_law_told" (top 19) fd
  gl__law_told : mg "_law_told" = some (.ref (He.fAd K ("_law_told", none)))
  fn__law_alike : ∃ fd, FnP K "_law_alike" (top 17) fd
  gl__law_alike : mg "_law_alike" = some (.ref (He.fAd K ("_law_alike", none)))
  fn_law : ∃ fd, FnP K "law" (top 21) fd
  gl_law : mg "law" = some (.ref (He.fAd K ("law", none)))
section
variable {P : Program} {w : World} {K : PySem.W.Frag} {mg : Str → Option Value} {base : Heap} {T : Addr → Prop}
theorem ok_is_number (h : FF K mg base T) : Callee P w K mg base T "is_number" 1 ["value", "least", "most"] (spM mg K T false 3 C_is_number) := by
  obtain ⟨fd, Fd⟩ := h.fn_is_number
  exact callee_of (io := false) (x := "is_number") (s := top 8) (N := N_is_number) (k := 0) (M := M_is_number) Fd h.gl_is_number sc_is_number (fun _ _ _ _ _ _ us hl => match us, hl with | [_, _, _], _ => rfl) (fun A outer sh H E hr =>
    VSs.one (VS.ret ((VB.an (VB.val (VE.isinst (t := "int") (by rfl) h.G.g_isinstance (by rfl) h.G.g_int (by kernel_rfl) (dIm 0))) (VB.an (VB.nt (VB.val (VE.isinst (t := "bool") (by rfl) h.G.g_isinstance (by rfl) h.G.g_bool (by kernel_rfl) (dIm 0)))) (VB.one (VB.val (VE.chain op_leA v_le op_leA v_le (dIm 1) (dIm 0) (dIm 2)))))).ve)))
theorem ok_count_figures (h : FF K mg base T) : Callee P w K mg base T "count_figures" 1 ["n"] (spM mg K T false 1 C_count_figures) := by
  obtain ⟨fd, Fd⟩ := h.fn_count_figures
  exact callee_of (io := false) (x := "count_figures") (s := top 11) (N := N_count_figures) (k := 0) (M := M_count_figures) Fd h.gl_count_figures sc_count_figures (fun _ _ _ _ _ _ us hl => match us, hl with | [_], _ => rfl) (fun A outer sh H E hr =>
    VSs.cons (VS.parT (by rfl) (VPa.consV (VE.int) (VPa.consV (VE.int) (VPa.consV (VE.int) (VPa.nil)))) (VNs.cons sc_count_figures.nd (i := 1) (by rfl) (by first | exact .inl rfl | exact .inr rfl) (VNs.cons sc_count_figures.nd (i := 2) (by rfl) (by first | exact .inl rfl | exact .inr rfl) (VNs.cons sc_count_figures.nd (i := 3) (by rfl) (by first | exact .inl rfl | exact .inr rfl) (VNs.nil)))) (by rfl) (by rfl) (by decide)) (VSs.cons (VS.while (wp := []) fu_count_figures_0 hpB (VT.cmp op_leA v_le (dIm 2) (dIm 0)) (VSs.cons (VS.aug sc_count_figures.nd (i := 1) (by rfl) (by first | exact .inl rfl | exact .inr rfl) (VE.binop op_mulA v_mul (VE.binop op_addA v_add (VE.binop op_sub v_sub (VE.callB (call_min2 rfl) v_min2 (by rfl) h.G.g_min (by kernel_rfl) (VA.cons (dIm 0) (VA.cons (VE.binop op_sub v_sub (VE.binop op_mulA v_mul (dIm 2) (dGlobI h.G.i_BASE)) (VE.int)) (VA.nil)))) (dIm 2)) (VE.int)) (dIm 3)) ip_add av_add) (VSs.one (VS.par2 (by rfl) sc_count_figures.nd (i := 2) (j := 3) (by rfl) (by rfl) (by decide) (by rfl) (by rfl) (VPa.consV (VE.binop op_mulA v_mul (dIm 2) (dGlobI h.G.i_BASE)) (VPa.consV (VE.binop op_addA v_add (dIm 3) (VE.int)) (VPa.nil))) (by rfl))))) (VSs.wipe [0, 2, 3] (VSs.one (VS.ret (dIm 1))))))
theorem ok_figure_at (h : FF K mg base T) : Callee P w K mg base T "figure_at" 1 ["place"] (spM mg K T false 1 C_figure_at) := by
  obtain ⟨fd, Fd⟩ := h.fn_figure_at
  exact callee_of (io := false) (x := "figure_at") (s := top 13) (N := N_figure_at) (k := 0) (M := M_figure_at) Fd h.gl_figure_at sc_figure_at (fun _ _ _ _ _ _ us hl => match us, hl with | [_], _ => rfl) (fun A outer sh H E hr =>
    VSs.cons (VS.par3 (by rfl) sc_figure_at.nd (i := 1) (j := 2) (l := 3) (by rfl) (by rfl) (by rfl) (by decide) (by decide) (by decide) (by rfl) (by rfl) (by rfl) (VPa.consV (VE.int) (VPa.consV (VE.int) (VPa.consV (dIm 0) (VPa.nil)))) (by rfl)) (VSs.cons (VS.while (wp := []) fu_figure_at_0 hpB (VT.cmp op_ge v_ge (dIm 3) (VE.binop op_mulA v_mul (VE.binop op_mulA v_mul (VE.binop op_sub v_sub (dGlobI h.G.i_BASE) (VE.int)) (dIm 1)) (dIm 2))) (VSs.cons (VS.aug sc_figure_at.nd (i := 3) (by rfl) (by first | exact .inl rfl | exact .inr rfl) (VE.binop op_mulA v_mul (VE.binop op_mulA v_mul (VE.binop op_sub v_sub (dGlobI h.G.i_BASE) (VE.int)) (dIm 1)) (dIm 2)) ip_sub av_sub) (VSs.one (VS.par2 (by rfl) sc_figure_at.nd (i := 1) (j := 2) (by rfl) (by rfl) (by decide) (by rfl) (by rfl) (VPa.consV (VE.binop op_mulA v_mul (dIm 1) (dGlobI h.G.i_BASE)) (VPa.consV (VE.binop op_addA v_add (dIm 2) (VE.int)) (VPa.nil))) (by rfl))))) (VSs.cons (VS.par2 (by rfl) sc_figure_at.nd (i := 4) (j := 5) (by rfl) (by rfl) (by decide) (by rfl) (by rfl) (VPa.consV (VE.binop op_addA v_add (dIm 1) (VE.binop op_fdivW v_fdiv (dIm 3) (dIm 2))) (VPa.consV (VE.binop op_mod v_mod (dIm 3) (dIm 2)) (VPa.nil))) (by rfl)) (VSs.cons (VS.set sc_figure_at.nd (i := 6) (by rfl) (by first | exact .inl rfl | exact .inr rfl) (VE.int)) (VSs.cons (VS.for (wp := [7]) hpB (by rfl) (VI.rg1 (by rfl) h.G.g_range (VA.cons (VE.binop op_sub v_sub (VE.binop op_sub v_sub (dIm 2) (VE.int)) (dIm 5)) (VA.nil)) (lc ln)) (VG.name sc_figure_at.nd (i := 7) (by rfl) (by first | exact .inl rfl | exact .inr rfl)) (VSs.one (VS.aug sc_figure_at.nd (i := 6) (by rfl) (by first | exact .inl rfl | exact .inr rfl) (dGlobI h.G.i_BASE) ip_mul av_mul))) (VSs.wipe [2, 5, 7] (VSs.one (VS.ret (VE.tup (VA.cons (VE.binop op_mod v_mod (VE.binop op_fdivW v_fdiv (dIm 4) (dIm 6)) (dGlobI h.G.i_BASE)) (VA.cons (dIm 4) (VA.nil))))))))))))
theorem ok__law_draws (h : FF K mg base T) : Callee P w K mg base T "_law_draws" 1 ["script"] (spSc mg K T C__law_draws) := by
  obtain ⟨fd, Fd⟩ := h.fn__law_draws
  exact calleeS_of (x := "_law_draws") (s := top 15) (N := N__law_draws) (k := 0) (M := M__law_draws) Fd h.gl__law_draws sc__law_draws (fun _ _ _ _ _ _ us hl => match us, hl with | [_], _ => rfl) (fun A outer sh H E hr =>
    VSs.cons (VS.own sc__law_draws.nd (i := 1) (by rfl) (by first | exact .inl rfl | exact .inr rfl) (VF.lst (VA.nil))) (VSs.cons (VS.for (wp := [2, 3, 4, 5]) hpB (by rfl) (VI.scr (m := false) (i := 0) (by rfl) (by exact .inl rfl)) (VG.name sc__law_draws.nd (i := 2) (by rfl) (by first | exact .inl rfl | exact .inr rfl)) (VSs.cons (VS.set sc__law_draws.nd (i := 3) (by rfl) (by first | exact .inl rfl | exact .inr rfl) (VE.callB call_abs v_abs (by rfl) h.G.g_abs (by kernel_rfl) (VA.cons (dIm 2) (VA.nil)))) (VSs.cons (VS.if (VT.cmp (op_ltA (Room.hu hr 64)) v_lt (dIm 3) (VE.binop op_pow v_pow (VE.int) (VE.int))) (VSs.cons (VS.set sc__law_draws.nd (i := 4) (by rfl) (by first | exact .inl rfl | exact .inr rfl) (VE.binop op_mod v_mod (VE.callT call_int1 v_int (by rfl) h.G.g_int (by kernel_rfl) (VA.cons (VE.binop op_addA v_add (VE.binop op_mulA v_mul (dIm 3) (VE.int)) (VE.int)) (VA.nil))) (VE.int))) (VSs.cons (VS.ex (VE.mOn (r := false) F.plainAttrs_list F.slot_list_append F.type_list_append mt_append m_append (i := 1) (by rfl) (by first | exact .inl rfl | exact .inr (.inl rfl) | exact .inr (.inr rfl)) (VA.cons (VE.binop op_mod v_mod (VE.callT call_int1 v_int (by rfl) h.G.g_int (by kernel_rfl) (VA.cons (VE.binop op_addA v_add (VE.binop op_mulA v_mul (dIm 4) (VE.int)) (dIm 3)) (VA.nil))) (VE.int)) (VA.nil)))) (VSs.cons (VS.ex (VE.mOn (r := false) F.plainAttrs_list F.slot_list_append F.type_list_append mt_append m_append (i := 1) (by rfl) (by first | exact .inl rfl | exact .inr (.inl rfl) | exact .inr (.inr rfl)) (VA.cons (VE.binop op_mod v_mod (VE.callT call_int1 v_int (by rfl) h.G.g_int (by kernel_rfl) (VA.cons (VE.binop op_addA v_add (dIm 4) (VE.binop op_fdivW v_fdiv (dIm 3) (VE.int))) (VA.nil))) (VE.int)) (VA.nil)))) (VSs.one (VS.set sc__law_draws.nd (i := 3) (by rfl) (by first | exact .inl rfl | exact .inr rfl) (VE.int)))))) (VSs.nil)) (VSs.wipe [4] (VSs.cons (VS.for (wp := [5]) hpB (by rfl) (VI.rg1 (by rfl) h.G.g_range (VA.cons (VE.int) (VA.nil)) (lc ln)) (VG.name sc__law_draws.nd (i := 5) (by rfl) (by first | exact .inl rfl | exact .inr rfl)) (VSs.one (VS.if (VT.cmp op_gt v_gt (dIm 3) (VE.int)) (VSs.cons (VS.ex (VE.mOn (r := false) F.plainAttrs_list F.slot_list_append F.type_list_append mt_append m_append (i := 1) (by rfl) (by first | exact .inl rfl | exact .inr (.inl rfl) | exact .inr (.inr rfl)) (VA.cons (VE.binop op_mod v_mod (VE.callT call_int1 v_int (by rfl) h.G.g_int (by kernel_rfl) (VA.cons (dIm 3) (VA.nil))) (VE.int)) (VA.nil)))) (VSs.one (VS.set sc__law_draws.nd (i := 3) (by rfl) (by first | exact .inl rfl | exact .inr rfl) (VE.binop op_fdivW v_fdiv (dIm 3) (VE.int))))) (VSs.nil)))) (VSs.wipe [3, 5] (VSs.nil))))))) (VSs.wipe [2, 3, 4, 5] (VSs.cons (VS.set sc__law_draws.nd (i := 6) (by rfl) (by first | exact .inl rfl | exact .inr rfl) (VE.int)) (VSs.cons (VS.if (VT.cmp op_gt v_gt (VE.lenScr (m := false) (i := 0) (by rfl) h.G.g_len (by rfl) (by exact .inl rfl)) (VE.int)) (VSs.one (VS.set sc__law_draws.nd (i := 6) (by rfl) (by first | exact .inl rfl | exact .inr rfl) (VE.binop op_addA v_add (VE.int) (VE.callB call_abs v_abs (by rfl) h.G.g_abs (by kernel_rfl) (VA.cons (VE.ixScr (i := 0) (by rfl) (by exact .inl rfl) (VE.int)) (VA.nil)))))) (VSs.nil)) (VSs.cons (VS.for (wp := [5]) hpB (by rfl) (VI.rg1 (by rfl) h.G.g_range (VA.cons (VE.int) (VA.nil)) (lc ln)) (VG.name sc__law_draws.nd (i := 5) (by rfl) (by first | exact .inl rfl | exact .inr rfl)) (VSs.cons (VS.set sc__law_draws.nd (i := 6) (by rfl) (by first | exact .inl rfl | exact .inr rfl) (VE.binop op_mod v_mod (VE.callT call_int1 v_int (by rfl) h.G.g_int (by kernel_rfl) (VA.cons (VE.binop op_addA v_add (VE.binop op_mulA v_mul (dIm 6) (VE.int)) (VE.int)) (VA.nil))) (VE.int))) (VSs.one (VS.ex (VE.mOn (r := false) F.plainAttrs_list F.slot_list_append F.type_list_append mt_append m_append (i := 1) (by rfl) (by first | exact .inl rfl | exact .inr (.inl rfl) | exact .inr (.inr rfl)) (VA.cons (VE.binop op_fdivW v_fdiv (dIm 6) (VE.int)) (VA.nil))))))) (VSs.wipe [5, 6] (VSs.one (VS.retF (VF.listRev (by rfl) (by rfl) h.G.g_list (by rfl) h.G.g_reversed (dAny 1)))))))))))
theorem ok__law_take (h : FF K mg base T) : Callee P w K mg base T "_law_take" 1 ["draws", "bound"] (spM mg K T true 2 C__law_take) := by
  obtain ⟨fd, Fd⟩ := h.fn__law_take
  exact callee_of (io := true) (x := "_law_take") (s := top 16) (N := N__law_take) (k := 0) (M := M__law_take) Fd h.gl__law_take sc__law_take (fun _ _ _ _ _ _ us hl => match us, hl with | [_, _], _ => rfl) (fun A outer sh H E hr =>
    VSs.cons (VS.if (VT.cmp (op_eqD (Room.hu hr 64)) v_eq (VE.callB cr_len v_len (by rfl) h.G.g_len (by kernel_rfl) (VA.cons (dAny 0) (VA.nil))) (VE.int)) (VSs.one (VS.ret (VE.int))) (VSs.nil)) (VSs.one (VS.ret (VE.binop op_mod v_mod (VE.callT call_int1 v_int (by rfl) h.G.g_int (by kernel_rfl) (VA.cons (VE.mOn0 (r := false) F.plainAttrs_list F.slot_list_pop F.type_list_pop mt_pop m_pop (i := 0) (by rfl) (by first | exact .inl rfl | exact .inr (.inl rfl) | exact .inr (.inr rfl))) (VA.nil))) (dIm 1)))))
theorem okw__law_word (h : FF K mg base T) : ∃ fd, FnP K "_law_word" (top 18) fd ∧ FnW P w K mg base T 1 (He.fAd K ("_law_word", none)) fd "error" (wdA K errs wdN__law_word) := by
  obtain ⟨fd, Fd⟩ := h.fn__law_word
  refine ⟨fd, Fd, word_ok (k := 0) (j := 1) (N := N__law_word) (s := top 18) (kd := kdA K errs) (wd := wdA K errs wdN__law_word) (fr := M__law_word) Fd sc__law_word (by rfl) (by decide) (fun A outer sh H p C z hot hz hwd => ?_) (fun A outer sh H p hot hrH => ?_) (fun C z hw => ?_)⟩
  · obtain ⟨c, _, hc, rfl, _, ek⟩ := wdA_some hwd
    obtain ⟨_, vs, hvs, _⟩ := hot
    rw [ek]
    exact ps_kinds sc__law_word.nd (i := 0) (j := 1) (by rfl) (by exact .inl rfl) (Kinds.cons (pe_isE (oe := p.2) (List.mem_cons_self ..) (h.wf.ex c hc) hz ⟨vs, hvs⟩ (by rfl) h.G.g_isinstance (by rfl) (by exact .inl rfl) (by rfl) h.e_OutOfRange (h.wf.kit c hc _ (by unfold errs; simp))) (Kinds.cons (pe_isE (oe := p.2) (List.mem_cons_self ..) (h.wf.ex c hc) hz ⟨vs, hvs⟩ (by rfl) h.G.g_isinstance (by rfl) (by exact .inl rfl) (by rfl) h.e_Refused (h.wf.kit c hc _ (by unfold errs; simp))) (Kinds.cons (pe_isE (oe := p.2) (List.mem_cons_self ..) (h.wf.ex c hc) hz ⟨vs, hvs⟩ (by rfl) h.G.g_isinstance (by rfl) (by exact .inl rfl) (by rfl) h.e_Malformed (h.wf.kit c hc _ (by unfold errs; simp))) (Kinds.cons (pe_isE (oe := p.2) (List.mem_cons_self ..) (h.wf.ex c hc) hz ⟨vs, hvs⟩ (by rfl) h.G.g_isinstance (by rfl) (by exact .inl rfl) (by rfl) h.e_NotThere (h.wf.kit c hc _ (by unfold errs; simp))) (Kinds.cons (pe_isE (oe := p.2) (List.mem_cons_self ..) (h.wf.ex c hc) hz ⟨vs, hvs⟩ (by rfl) h.G.g_isinstance (by rfl) (by exact .inl rfl) (by rfl) h.e_TooMuch (h.wf.kit c hc _ (by unfold errs; simp))) (Kinds.nil)))))) (by show 5 ≤ 100; decide)
  · have hcH : HotC (cxH (L2N.CX P w) P w K mg base N__law_word "_law_word" (defScope (top 18)) (He.fAd K ("_law_word", none)) fd.code A outer sh H (fun _ _ _ => False) p) := ⟨p, hot, List.mem_cons_self ..⟩
    exact VSs.cons (VS.if (VT.cmp (op_neD (hotU hrH 64)) v_ne (VE.callB cr_len v_len (by rfl) h.G.g_len (by kernel_rfl) (VA.cons ((VF.compPH hcH sc__law_word.nd (VIH.lst (dIm 1)) (blkOk_by (N := N__law_word) (sc := defScope (top 18)) (own := [("one", 2)]) (by decide +kernel)) (by decide) (fun _ _ _ _ _ => VG.name sc__law_word.nd (i := 2) (by rfl) (by first | exact .inl rfl | exact .inr rfl)) (fun _ _ _ _ _ => VTs.one (VT.val (dIm 2))) (fun _ _ _ _ _ => dIm 2)).ve) (VA.nil))) (VE.int)) (VSs.one (VS.ret (VE.str))) (VSs.nil)) (VSs.one (VS.ret (VE.ix ix_seq v_at ((VF.lst (VA.cons (VE.str) (VA.cons (VE.str) (VA.cons (VE.str) (VA.cons (VE.str) (VA.cons (VE.str) (VA.nil))))))).ve) (VE.idx (r1 := false) (hotU hrH 65) (dIm 1) (VE.bool)))))
  · obtain ⟨c, _, hc, rfl, hz, ek⟩ := wdA_some hw
    rw [ek]
    unfold errs at hc ⊢
    simp only [List.mem_cons, List.not_mem_nil, or_false] at hc
    rcases hc with rfl | rfl | rfl | rfl | rfl <;> first | (cases hz; exact ⟨_, by rfl⟩) | (cases hz; exact ⟨_, by kernel_rfl⟩)
theorem ok__law_figures (h : FF K mg base T) : Callee P w K mg base T "_law_figures" 1 ["number"] (spM mg K T false 1 C__law_figures) := by
  obtain ⟨fd, Fd⟩ := h.fn__law_figures
  exact callee_of (io := false) (x := "_law_figures") (s := top 20) (N := N__law_figures) (k := 0) (M := M__law_figures) Fd h.gl__law_figures sc__law_figures (fun _ _ _ _ _ _ us hl => match us, hl with | [_], _ => rfl) (fun A outer sh H E hr =>
    VSs.cons (VS.set sc__law_figures.nd (i := 1) (by rfl) (by first | exact .inl rfl | exact .inr rfl) ((VF.lst (VA.nil)).ve)) (VSs.cons (VS.while (wp := []) fu__law_figures_0 hpB (VT.cmp op_gt v_gt (dIm 0) (VE.int)) (VSs.cons (VS.set sc__law_figures.nd (i := 1) (by rfl) (by first | exact .inl rfl | exact .inr rfl) (VE.binop op_addA v_add ((VF.lst (VA.cons (VE.binop op_mod v_mod (VE.callT call_int1 v_int (by rfl) h.G.g_int (by kernel_rfl) (VA.cons (dIm 0) (VA.nil))) (VE.int)) (VA.nil))).ve) (dIm 1))) (VSs.one (VS.set sc__law_figures.nd (i := 0) (by rfl) (by first | exact .inl rfl | exact .inr rfl) (VE.binop op_fdivW v_fdiv (dIm 0) (VE.int)))))) (VSs.wipe [0] (VSs.one (VS.ret (dIm 1))))))
theorem ok_times_of (h : FF K mg base T) : Callee P w K mg base T "times_of" 2 ["figure", "n"] (spM mg K T false 2 C_times_of) := by
  have c_is_number := ok_is_number (P := P) (w := w) (T := T) h
  obtain ⟨fd, Fd⟩ := h.fn_times_of
  exact callee_of (io := false) (x := "times_of") (s := top 12) (N := N_times_of) (k := 1) (M := M_times_of) Fd h.gl_times_of sc_times_of (fun _ _ _ _ _ _ us hl => match us, hl with | [_, _], _ => rfl) (fun A outer sh H E hr =>
    VSs.cons (VS.if (VT.nt (VT.val (dCall c_is_number tkB hr (VA.cons (dIm 0) (VA.cons (VE.int) (VA.cons (VE.binop op_sub v_sub (dGlobI h.G.i_BASE) (VE.int)) (VA.nil)))) (lc (lc (lc ln)))))) (VSs.one (VS.raise (by rfl) tkB h.x_OutOfRange (by rfl))) (VSs.nil)) (VSs.cons (VS.parT (by rfl) (VPa.consV (VE.int) (VPa.consV (VE.int) (VPa.nil))) (VNs.cons sc_times_of.nd (i := 2) (by rfl) (by first | exact .inl rfl | exact .inr rfl) (VNs.cons sc_times_of.nd (i := 3) (by rfl) (by first | exact .inl rfl | exact .inr rfl) (VNs.nil))) (by rfl) (by rfl) (by decide)) (VSs.cons (VS.while (wp := [4, 5, 6]) fu_times_of_0 hpB (VT.cmp op_leA v_le (dIm 3) (dIm 1)) (VSs.cons (VS.par3 (by rfl) sc_times_of.nd (i := 4) (j := 5) (l := 6) (by rfl) (by rfl) (by rfl) (by decide) (by decide) (by decide) (by rfl) (by rfl) (by rfl) (VPa.consV (VE.binop op_fdivW v_fdiv (dIm 1) (VE.binop op_mulA v_mul (dIm 3) (dGlobI h.G.i_BASE))) (VPa.consV (VE.binop op_mod v_mod (VE.binop op_fdivW v_fdiv (dIm 1) (dIm 3)) (dGlobI h.G.i_BASE)) (VPa.consV (VE.binop op_mod v_mod (dIm 1) (dIm 3)) (VPa.nil)))) (by rfl)) (VSs.cons (VS.if (VT.cmp (op_eqD (Room.hu hr 64)) v_eq (dIm 0) (VE.int)) (VSs.one (VS.aug sc_times_of.nd (i := 4) (by rfl) (by first | exact .inl rfl | exact .inr rfl) (VE.int) ip_sub av_sub)) (VSs.nil)) (VSs.cons (VS.aug sc_times_of.nd (i := 2) (by rfl) (by first | exact .inl rfl | exact .inr rfl) (VE.binop op_mulA v_mul (dIm 4) (dIm 3)) ip_add av_add) (VSs.cons (VS.if (VT.cmp op_gt v_gt (dIm 5) (dIm 0)) (VSs.one (VS.aug sc_times_of.nd (i := 2) (by rfl) (by first | exact .inl rfl | exact .inr rfl) (dIm 3) ip_add av_add)) (VSs.cons (VS.if (VT.cmp (op_eqD (Room.hu hr 64)) v_eq (dIm 5) (dIm 0)) (VSs.one (VS.aug sc_times_of.nd (i := 2) (by rfl) (by first | exact .inl rfl | exact .inr rfl) (VE.binop op_addA v_add (dIm 6) (VE.int)) ip_add av_add)) (VSs.nil)) (VSs.wipe [5, 6] (VSs.nil)))) (VSs.wipe [5, 6] (VSs.one (VS.aug sc_times_of.nd (i := 3) (by rfl) (by first | exact .inl rfl | exact .inr rfl) (dGlobI h.G.i_BASE) ip_mul av_mul)))))))) (VSs.wipe [0, 1, 3, 4, 5, 6] (VSs.one (VS.ret (dIm 2)))))))
theorem ok__law_told (h : FF K mg base T) : Callee P w K mg base T "_law_told" 3 ["figure", "n"] (spM mg K T false 2 C__law_told) := by
  have c_times_of := ok_times_of (P := P) (w := w) (T := T) h
  obtain ⟨fd__law_word, Fd__law_word, Fw__law_word⟩ := okw__law_word (P := P) (w := w) (T := T) (base := base) h
  obtain ⟨fd, Fd⟩ := h.fn__law_told
  exact callee_of (io := false) (x := "_law_told") (s := top 19) (N := N__law_told) (k := 2) (M := M__law_told) Fd h.gl__law_told sc__law_told (fun _ _ _ _ _ _ us hl => match us, hl with | [_, _], _ => rfl) (fun A outer sh H E hr =>
    VSs.cons (VS.tryW (i := 2) (by rfl) (by rfl) sc__law_told.nd (by rfl) (by rfl) (by rfl) ⟨by rfl, by decide, .inl h.e_SkiError⟩ tkB (fun W' pn xe tkT poT => VSs.one (VS.ret (dCall c_times_of tkT hr (VA.cons (dIm 0) (VA.cons (dIm 1) (VA.nil))) (lc (lc ln))))) Fw__law_word ((roomH_of hr).mono (by decide)) (by rfl) h.gl__law_word Fd__law_word.kp (Fd__law_word.bindsN (fun _ _ _ _ _ _ us hl => match us, hl with | [_], _ => rfl)) h.wf.sub' (h.wf.name' h.eA wdN__law_word_in)) (VSs.wipe [0, 1, 2] (VSs.nil)))
theorem okn__law_alike (h : FF K mg base T) : ∀ n : Nat, Callee P w K mg base T "_law_alike" (n + 1) ["found", "due"] (spM mg K T false 2 (C__law_alike n))
  | 0 => by
    obtain ⟨fd, Fd⟩ := h.fn__law_alike
    exact callee_of (io := false) (x := "_law_alike") (s := top 17) (N := N__law_alike) (M := fun _ => .bad) Fd h.gl__law_alike sc__law_alike (fun _ _ _ _ _ _ us hl => match us, hl with | [_, _], _ => rfl) (fun A outer sh H E hr => VSs.bad)
  | n + 1 => by
    have self := okn__law_alike h n
    obtain ⟨fd, Fd⟩ := h.fn__law_alike
    exact callee_of (io := false) (x := "_law_alike") (s := top 17) (N := N__law_alike) (k := n + 1) (M := M__law_alike (C__law_alike n)) Fd h.gl__law_alike sc__law_alike (fun _ _ _ _ _ _ us hl => match us, hl with | [_, _], _ => rfl) (fun A outer sh H E hr =>
    VSs.cons (VS.if ((VW.orr (VT.val (VE.isinst (t := "list") (by rfl) h.G.g_isinstance (by rfl) h.G.g_list (by kernel_rfl) (dIm 1))) (VW.or1 (VT.val (VE.isinst (t := "tuple") (by rfl) h.G.g_isinstance (by rfl) h.G.g_tuple (by kernel_rfl) (dIm 1))))).vt) (VSs.cons (VS.if ((VW.orr (VT.cmp (op_neD (Room.hu hr 64)) v_ne (VE.isinst (t := "list") (by rfl) h.G.g_isinstance (by rfl) h.G.g_list (by kernel_rfl) (dIm 0)) (VE.isinst (t := "list") (by rfl) h.G.g_isinstance (by rfl) h.G.g_list (by kernel_rfl) (dIm 1))) (VW.or1 (VT.cmp (op_neD (Room.hu hr 64)) v_ne (VE.isinst (t := "tuple") (by rfl) h.G.g_isinstance (by rfl) h.G.g_tuple (by kernel_rfl) (dIm 0)) (VE.isinst (t := "tuple") (by rfl) h.G.g_isinstance (by rfl) h.G.g_tuple (by kernel_rfl) (dIm 1))))).vt) (VSs.one (VS.ret (VE.bool))) (VSs.nil)) (VSs.one (VS.ret ((VB.an (VB.val (VE.cmp (op_eqD (Room.hu hr 64)) v_eq (VE.callB cr_len v_len (by rfl) h.G.g_len (by kernel_rfl) (VA.cons (dIm 0) (VA.nil))) (VE.callB cr_len v_len (by rfl) h.G.g_len (by kernel_rfl) (VA.cons (dIm 1) (VA.nil))))) (VB.one (VB.val (VE.cmp (op_eqD (Room.hu hr 64)) v_eq ((VF.compP (by rfl) sc__law_alike.nd (VI.rg1 (by rfl) h.G.g_range (VA.cons (VE.callB cr_len v_len (by rfl) h.G.g_len (by kernel_rfl) (VA.cons (dIm 1) (VA.nil))) (VA.nil)) (lc ln)) (blkOk_by (N := N__law_alike) (sc := defScope (top 17)) (own := [("k", 2)]) (by decide +kernel)) (by decide) (fun _ _ _ _ _ => VG.name sc__law_alike.nd (i := 2) (by rfl) (by first | exact .inl rfl | exact .inr rfl)) (fun _ _ _ _ _ => VTs.one (VT.nt (VT.val (dCall self tkN hr (VA.cons (VE.ix ix_seq v_at (dIm 0) (dIm 2)) (VA.cons (VE.ix ix_seq v_at (dIm 1) (dIm 2)) (VA.nil))) (lc (lc ln)))))) (fun _ _ _ _ _ => dIm 2)).ve) ((VF.lst (VA.nil)).ve))))).ve)))) (VSs.nil)) (VSs.cons (VS.if (VT.cmp (op_isN.or op_isBl) v_is (dIm 1) (VE.non)) (VSs.one (VS.ret (VE.cmp (op_isN.or op_isBl) v_is (dIm 0) (VE.non)))) (VSs.nil)) (VSs.cons (VS.if ((VW.orr (VT.val (VE.isinst (t := "bool") (by rfl) h.G.g_isinstance (by rfl) h.G.g_bool (by kernel_rfl) (dIm 1))) (VW.or1 (VT.val (VE.isinst (t := "bool") (by rfl) h.G.g_isinstance (by rfl) h.G.g_bool (by kernel_rfl) (dIm 0))))).vt) (VSs.one (VS.ret ((VB.an (VB.val (VE.isinst (t := "bool") (by rfl) h.G.g_isinstance (by rfl) h.G.g_bool (by kernel_rfl) (dIm 0))) (VB.an (VB.val (VE.isinst (t := "bool") (by rfl) h.G.g_isinstance (by rfl) h.G.g_bool (by kernel_rfl) (dIm 1))) (VB.one (VB.val (VE.cmp (op_eqD (Room.hu hr 64)) v_eq (dIm 0) (dIm 1)))))).ve))) (VSs.nil)) (VSs.cons (VS.if (VT.val (VE.isinst (t := "int") (by rfl) h.G.g_isinstance (by rfl) h.G.g_int (by kernel_rfl) (dIm 1))) (VSs.one (VS.ret ((VB.an (VB.val (VE.isinst (t := "int") (by rfl) h.G.g_isinstance (by rfl) h.G.g_int (by kernel_rfl) (dIm 0))) (VB.one (VB.val (VE.cmp (op_eqD (Room.hu hr 64)) v_eq (dIm 0) (dIm 1))))).ve))) (VSs.nil)) (VSs.one (VS.ret ((VB.an (VB.val (VE.isinst (t := "str") (by rfl) h.G.g_isinstance (by rfl) h.G.g_str (by kernel_rfl) (dIm 0))) (VB.one (VB.val (VE.cmp (op_eqD (Room.hu hr 64)) v_eq (dIm 0) (dIm 1))))).ve)))))))
theorem ok__law_alike (h : FF K mg base T) : Callee P w K mg base T "_law_alike" 9 ["found", "due"] (spM mg K T false 2 (C__law_alike 8)) := okn__law_alike h 8
theorem law_fn (h : FF K mg base T) {fd : FuncData} (Fd : FnP K "law" (top 21) fd) : FnOk P w K mg base (L2N.CX P w) 10 (He.fAd K ("law", none)) fd ["script"] (spSc mg K T C_law) := by
  have c__law_alike := ok__law_alike (P := P) (w := w) (T := T) h
  have c__law_draws := ok__law_draws (P := P) (w := w) (T := T) h
  have c__law_figures := ok__law_figures (P := P) (w := w) (T := T) h
  have c__law_take := ok__law_take (P := P) (w := w) (T := T) h
  have c__law_told := ok__law_told (P := P) (w := w) (T := T) h
  have c_count_figures := ok_count_figures (P := P) (w := w) (T := T) h
  have c_figure_at := ok_figure_at (P := P) (w := w) (T := T) h
  exact fn_okS (x := "law") (qual := "law") (s := top 21) (N := N_law) (k := 9) (M := M_law) Fd sc_law (by decide) (fun A outer sh H E hr =>
    VSs.cons (VS.own sc_law.nd (i := 1) (by rfl) (by first | exact .inl rfl | exact .inr rfl) (dCallFS (m := false) 0 c__law_draws tkB hr)) (VSs.cons (VS.set sc_law.nd (i := 2) (by rfl) (by first | exact .inl rfl | exact .inr rfl) (dCallD 1 c__law_take tkB hr (VA.cons (VE.ix ix_seq v_at ((VF.lst (VA.cons (VE.int) (VA.cons (VE.int) (VA.cons (VE.int) (VA.nil))))).ve) (dCallD 1 c__law_take tkB hr (VA.cons (VE.int) (VA.nil)) (lD (lc ln)))) (VA.nil)) (lD (lc ln)))) (VSs.cons (VS.set sc_law.nd (i := 3) (by rfl) (by first | exact .inl rfl | exact .inr rfl) ((VF.lst (VA.nil)).ve)) (VSs.cons (VS.for (wp := [4, 11]) hpB (by rfl) (VI.rg2 (by rfl) h.G.g_range (VA.cons (VE.int) (VA.cons (VE.binop op_addA v_add (dIm 2) (VE.int)) (VA.nil))) (lc (lc ln))) (VG.name sc_law.nd (i := 4) (by rfl) (by first | exact .inl rfl | exact .inr rfl)) (VSs.wipe [11] (VSs.one (VS.set sc_law.nd (i := 3) (by rfl) (by first | exact .inl rfl | exact .inr rfl) (VE.iff (VT.cmp (op_ltA (Room.hu hr 64)) v_lt (dIm 2) (VE.int)) (VE.binop op_addA v_add (dIm 3) ((VF.compP (by rfl) sc_law.nd (VI.val (dCall c__law_figures tkB hr (VA.cons (dIm 4) (VA.nil)) (lc ln))) (blkOk_by (N := N_law) (sc := defScope (top 21)) (own := [("figure", 11)]) (by decide +kernel)) (by decide) (fun _ _ _ _ _ => VG.name sc_law.nd (i := 11) (by rfl) (by first | exact .inl rfl | exact .inr rfl)) (fun _ _ _ _ _ => VTs.nil) (fun _ _ _ _ _ => VE.tup (VA.cons (dIm 11) (VA.cons (dIm 4) (VA.nil))))).ve)) (dIm 3)))))) (VSs.wipe [4, 11] (VSs.cons (VS.if (VT.cmp op_ge v_ge (dIm 2) (VE.int)) (VSs.wipe [4] (VSs.cons (VS.set sc_law.nd (i := 5) (by rfl) (by first | exact .inl rfl | exact .inr rfl) ((VF.compP (by rfl) sc_law.nd (VI.rg2 (by rfl) h.G.g_range (VA.cons (VE.int) (VA.cons (VE.binop op_addA v_add (dIm 2) (VE.int)) (VA.nil))) (lc (lc ln))) (blkOk_by (N := N_law) (sc := defScope (top 21)) (own := [("post", 4)]) (by decide +kernel)) (by decide) (fun _ _ _ _ _ => VG.name sc_law.nd (i := 4) (by rfl) (by first | exact .inl rfl | exact .inr rfl)) (fun _ _ _ _ _ => VTs.nil) (fun _ _ _ _ _ => dCall c__law_figures tkN hr (VA.cons (dIm 4) (VA.nil)) (lc ln))).ve)) (VSs.wipe [11] (VSs.cons (VS.set sc_law.nd (i := 6) (by rfl) (by first | exact .inl rfl | exact .inr rfl) ((VF.compP (by rfl) sc_law.nd (VI.rg1 (by rfl) h.G.g_range (VA.cons (VE.int) (VA.nil)) (lc ln)) (blkOk_by (N := N_law) (sc := defScope (top 21)) (own := [("figure", 11)]) (by decide +kernel)) (by decide) (fun _ _ _ _ _ => VG.name sc_law.nd (i := 11) (by rfl) (by first | exact .inl rfl | exact .inr rfl)) (fun _ _ _ _ _ => VTs.nil) (fun _ _ _ _ _ => VE.callB (cr_sum rfl) v_sum (by rfl) h.G.g_sum (by kernel_rfl) (VA.cons ((VF.compP (by rfl) sc_law.nd (VI.val (dIm 5)) (own := [("row", 19)]) (by refine blkOk_by (N := N_law) (own := [("row", 19)]) ?_; kernel_rfl) (by decide) (fun _ _ _ _ _ => VG.name sc_law.nd (i := 19) (by rfl) (by first | exact .inl rfl | exact .inr rfl)) (fun _ _ _ _ _ => VTs.nil) (fun _ _ _ _ _ => VE.cnt (r1 := false) (dIm 19) (dIm 11))).ve) (VA.nil)))).ve)) (VSs.one (VS.set sc_law.nd (i := 7) (by rfl) (by first | exact .inl rfl | exact .inr rfl) (VE.callB (cr_sum rfl) v_sum (by rfl) h.G.g_sum (by kernel_rfl) (VA.cons ((VF.compP (by rfl) sc_law.nd (VI.val (dIm 5)) (blkOk_by (N := N_law) (sc := defScope (top 21)) (own := [("row", 19)]) (by decide +kernel)) (by decide) (fun _ _ _ _ _ => VG.name sc_law.nd (i := 19) (by rfl) (by first | exact .inl rfl | exact .inr rfl)) (fun _ _ _ _ _ => VTs.nil) (fun _ _ _ _ _ => VE.callB cr_len v_len (by rfl) h.G.g_len (by kernel_rfl) (VA.cons (dIm 19) (VA.nil)))).ve) (VA.nil))))))))) (VSs.wipe [4, 11] (VSs.cons (VS.parT (by rfl) (VPa.consV ((VF.compP (by rfl) sc_law.nd (VI.rg1 (by rfl) h.G.g_range (VA.cons (VE.int) (VA.nil)) (lc ln)) (blkOk_by (N := N_law) (sc := defScope (top 21)) (own := [("figure", 11)]) (by decide +kernel)) (by decide) (fun _ _ _ _ _ => VG.name sc_law.nd (i := 11) (by rfl) (by first | exact .inl rfl | exact .inr rfl)) (fun _ _ _ _ _ => VTs.nil) (fun _ _ _ _ _ => VE.callB cr_len v_len (by rfl) h.G.g_len (by kernel_rfl) (VA.cons ((VF.compP (by rfl) sc_law.nd (VI.val (dIm 3)) (own := [("one", 20), ("post", 4)]) (by refine blkOk_by (N := N_law) (own := [("one", 20), ("post", 4)]) ?_; kernel_rfl) (by decide) (fun _ _ _ _ _ => VG.tup (by rfl) (VGs.cons (VG.name sc_law.nd (i := 20) (by rfl) (by first | exact .inl rfl | exact .inr rfl)) (VGs.cons (VG.name sc_law.nd (i := 4) (by rfl) (by first | exact .inl rfl | exact .inr rfl)) (VGs.nil))) (glS (glS gl0))) (fun _ _ _ _ _ => VTs.one (VT.cmp (op_eqD (Room.hu hr 64)) v_eq (dIm 20) (dIm 11))) (fun _ _ _ _ _ => VE.int)).ve) (VA.nil)))).ve) (VPa.consV (VE.callB cr_len v_len (by rfl) h.G.g_len (by kernel_rfl) (VA.cons (dIm 3) (VA.nil))) (VPa.nil))) (VNs.cons sc_law.nd (i := 6) (by rfl) (by first | exact .inl rfl | exact .inr rfl) (VNs.cons sc_law.nd (i := 7) (by rfl) (by first | exact .inl rfl | exact .inr rfl) (VNs.nil))) (by rfl) (by rfl) (by decide)) (VSs.cons (VS.if (VT.cmp (op_neD (Room.hu hr 64)) v_ne ((VF.compP (by rfl) sc_law.nd (VI.rg1 (by rfl) h.G.g_range (VA.cons (VE.callB cr_len v_len (by rfl) h.G.g_len (by kernel_rfl) (VA.cons (dIm 3) (VA.nil))) (VA.nil)) (lc ln)) (blkOk_by (N := N_law) (sc := defScope (top 21)) (own := [("place", 21)]) (by decide +kernel)) (by decide) (fun _ _ _ _ _ => VG.name sc_law.nd (i := 21) (by rfl) (by first | exact .inl rfl | exact .inr rfl)) (fun _ _ _ _ _ => VTs.one (VT.nt (VT.val (dCall c__law_alike tkN hr (VA.cons (dCall c_figure_at tkN hr (VA.cons (dIm 21) (VA.nil)) (lc ln)) (VA.cons (VE.ix ix_seq v_at (dIm 3) (dIm 21)) (VA.nil))) (lc (lc ln)))))) (fun _ _ _ _ _ => dIm 21)).ve) ((VF.lst (VA.nil)).ve)) (VSs.one (VS.ret (VE.bool))) (VSs.nil)) (VSs.wipe [3] (VSs.nil)))))) (VSs.wipe [3, 4, 5, 11] (VSs.wipe [11] (VSs.cons (VS.if ((VW.orr (VT.nt (VT.val (dCall c__law_alike tkB hr (VA.cons (dCall c_count_figures tkB hr (VA.cons (dIm 2) (VA.nil)) (lc ln)) (VA.cons (dIm 7) (VA.nil))) (lc (lc ln))))) (VW.orr (VT.cmp (op_neD (Room.hu hr 64)) v_ne ((VF.compP (by rfl) sc_law.nd (VI.rg1 (by rfl) h.G.g_range (VA.cons (VE.int) (VA.nil)) (lc ln)) (blkOk_by (N := N_law) (sc := defScope (top 21)) (own := [("figure", 11)]) (by decide +kernel)) (by decide) (fun _ _ _ _ _ => VG.name sc_law.nd (i := 11) (by rfl) (by first | exact .inl rfl | exact .inr rfl)) (fun _ _ _ _ _ => VTs.one (VT.nt (VT.val (dCall c__law_alike tkN hr (VA.cons (dCall c__law_told tkN hr (VA.cons (dIm 11) (VA.cons (dIm 2) (VA.nil))) (lc (lc ln))) (VA.cons (VE.ix ix_seq v_at (dIm 6) (dIm 11)) (VA.nil))) (lc (lc ln)))))) (fun _ _ _ _ _ => dIm 11)).ve) ((VF.lst (VA.nil)).ve)) (VW.or1 (VT.cmp (op_neD (Room.hu hr 64)) v_ne (VE.callB (cr_sum rfl) v_sum (by rfl) h.G.g_sum (by kernel_rfl) (VA.cons (dIm 6) (VA.nil))) (dIm 7))))).vt) (VSs.one (VS.ret (VE.bool))) (VSs.nil)) (VSs.wipe [2, 6, 7, 11] (VSs.cons (VS.set sc_law.nd (i := 8) (by rfl) (by first | exact .inl rfl | exact .inr rfl) (VE.binop op_addA v_add (VE.int) (dCallD 1 c__law_take tkB hr (VA.cons (VE.int) (VA.nil)) (lD (lc ln))))) (VSs.cons (VS.for (wp := [9]) hpB (by rfl) (VI.rg1 (by rfl) h.G.g_range (VA.cons (VE.ix ix_seq v_at ((VF.lst (VA.cons (VE.int) (VA.cons (VE.int) (VA.nil)))).ve) (dCallD 1 c__law_take tkB hr (VA.cons (VE.int) (VA.nil)) (lD (lc ln)))) (VA.nil)) (lc ln)) (VG.name sc_law.nd (i := 9) (by rfl) (by first | exact .inl rfl | exact .inr rfl)) (VSs.one (VS.set sc_law.nd (i := 8) (by rfl) (by first | exact .inl rfl | exact .inr rfl) (VE.binop op_addA v_add (VE.binop op_mulA v_mul (dIm 8) (VE.int)) (dCallD 1 c__law_take tkB hr (VA.cons (VE.int) (VA.nil)) (lD (lc ln))))))) (VSs.wipe [9] (VSs.cons (VS.set sc_law.nd (i := 10) (by rfl) (by first | exact .inl rfl | exact .inr rfl) (dCall c__law_figures tkB hr (VA.cons (dIm 8) (VA.nil)) (lc ln))) (VSs.cons (VS.for (wp := [11]) hpB (by rfl) (VI.rg1 (by rfl) h.G.g_range (VA.cons (VE.int) (VA.nil)) (lc ln)) (VG.name sc_law.nd (i := 11) (by rfl) (by first | exact .inl rfl | exact .inr rfl)) (VSs.cons (VS.if (VT.cmp (op_neD (Room.hu hr 64)) v_ne (VE.binop op_sub v_sub (dCall c__law_told tkB hr (VA.cons (dIm 11) (VA.cons (dIm 8) (VA.nil))) (lc (lc ln))) (dCall c__law_told tkB hr (VA.cons (dIm 11) (VA.cons (VE.binop op_sub v_sub (dIm 8) (VE.int)) (VA.nil))) (lc (lc ln)))) (VE.cnt (r1 := false) (dIm 10) (dIm 11))) (VSs.one (VS.ret (VE.bool))) (VSs.nil)) (VSs.wipe [11] (VSs.nil)))) (VSs.wipe [11] (VSs.wipe [11] (VSs.cons (VS.if ((VW.orr (VT.cmp (op_neD (Room.hu hr 64)) v_ne (VE.callB (cr_sum rfl) v_sum (by rfl) h.G.g_sum (by kernel_rfl) (VA.cons ((VF.compP (by rfl) sc_law.nd (VI.rg1 (by rfl) h.G.g_range (VA.cons (VE.int) (VA.nil)) (lc ln)) (blkOk_by (N := N_law) (sc := defScope (top 21)) (own := [("figure", 11)]) (by decide +kernel)) (by decide) (fun _ _ _ _ _ => VG.name sc_law.nd (i := 11) (by rfl) (by first | exact .inl rfl | exact .inr rfl)) (fun _ _ _ _ _ => VTs.nil) (fun _ _ _ _ _ => dCall c__law_told tkN hr (VA.cons (dIm 11) (VA.cons (dIm 8) (VA.nil))) (lc (lc ln)))).ve) (VA.nil))) (dCall c_count_figures tkB hr (VA.cons (dIm 8) (VA.nil)) (lc ln))) (VW.or1 (VT.cmp (op_neD (Room.hu hr 64)) v_ne (VE.binop op_sub v_sub (dCall c_count_figures tkB hr (VA.cons (dIm 8) (VA.nil)) (lc ln)) (dCall c_count_figures tkB hr (VA.cons (VE.binop op_sub v_sub (dIm 8) (VE.int)) (VA.nil)) (lc ln))) (VE.callB cr_len v_len (by rfl) h.G.g_len (by kernel_rfl) (VA.cons (dIm 10) (VA.nil)))))).vt) (VSs.one (VS.ret (VE.bool))) (VSs.nil)) (VSs.wipe [11] (VSs.cons (VS.set sc_law.nd (i := 12) (by rfl) (by first | exact .inl rfl | exact .inr rfl) (dCall c_count_figures tkB hr (VA.cons (VE.binop op_sub v_sub (dIm 8) (VE.int)) (VA.nil)) (lc ln))) (VSs.cons (VS.for (wp := [13]) hpB (by rfl) (VI.val ((VF.lst (VA.cons (VE.int) (VA.cons (VE.binop op_sub v_sub (VE.callB cr_len v_len (by rfl) h.G.g_len (by kernel_rfl) (VA.cons (dIm 10) (VA.nil))) (VE.int)) (VA.cons (dCallD 1 c__law_take tkB hr (VA.cons (VE.callB cr_len v_len (by rfl) h.G.g_len (by kernel_rfl) (VA.cons (dIm 10) (VA.nil))) (VA.nil)) (lD (lc ln))) (VA.nil))))).ve)) (VG.name sc_law.nd (i := 13) (by rfl) (by first | exact .inl rfl | exact .inr rfl)) (VSs.cons (VS.if (VT.nt (VT.val (dCall c__law_alike tkB hr (VA.cons (dCall c_figure_at tkB hr (VA.cons (VE.binop op_addA v_add (dIm 12) (dIm 13)) (VA.nil)) (lc ln)) (VA.cons (VE.tup (VA.cons (VE.ix ix_seq v_at (dIm 10) (dIm 13)) (VA.cons (dIm 8) (VA.nil)))) (VA.nil))) (lc (lc ln))))) (VSs.one (VS.ret (VE.bool))) (VSs.nil)) (VSs.wipe [13] (VSs.nil)))) (VSs.wipe [10, 13] (VSs.cons (VS.if ((VW.an (VT.cmp op_gt v_gt (dIm 12) (VE.int)) (VW.an1 (VT.cmp (op_neD (Room.hu hr 64)) v_ne (dCall c_figure_at tkB hr (VA.cons (VE.binop op_sub v_sub (dIm 12) (VE.int)) (VA.nil)) (lc ln)) (VE.tup (VA.cons (VE.ix ix_seq v_at (dCall c__law_figures tkB hr (VA.cons (VE.binop op_sub v_sub (dIm 8) (VE.int)) (VA.nil)) (lc ln)) (dNeg (VE.int))) (VA.cons (VE.binop op_sub v_sub (dIm 8) (VE.int)) (VA.nil))))))).vt) (VSs.one (VS.ret (VE.bool))) (VSs.nil)) (VSs.wipe [8, 12] (VSs.cons (VS.parT (by rfl) (VPa.consV (VE.binop op_addA v_add (VE.int) (dCallD 1 c__law_take tkB hr (VA.cons (VE.int) (VA.nil)) (lD (lc ln)))) (VPa.consV (VE.int) (VPa.consV (VE.int) (VPa.nil)))) (VNs.cons sc_law.nd (i := 14) (by rfl) (by first | exact .inl rfl | exact .inr rfl) (VNs.cons sc_law.nd (i := 15) (by rfl) (by first | exact .inl rfl | exact .inr rfl) (VNs.cons sc_law.nd (i := 16) (by rfl) (by first | exact .inl rfl | exact .inr rfl) (VNs.nil)))) (by rfl) (by rfl) (by decide)) (VSs.cons (VS.for (wp := [9]) hpB (by rfl) (VI.rg1 (by rfl) h.G.g_range (VA.cons (VE.binop op_sub v_sub (dIm 14) (VE.int)) (VA.nil)) (lc ln)) (VG.name sc_law.nd (i := 9) (by rfl) (by first | exact .inl rfl | exact .inr rfl)) (VSs.one (VS.set sc_law.nd (i := 15) (by rfl) (by first | exact .inl rfl | exact .inr rfl) (VE.binop op_mulA v_mul (dIm 15) (VE.int))))) (VSs.wipe [9] (VSs.cons (VS.set sc_law.nd (i := 17) (by rfl) (by first | exact .inl rfl | exact .inr rfl) (VE.int)) (VSs.cons (VS.parT (by rfl) (VPa.consV (VE.int) (VPa.consV (VE.int) (VPa.nil))) (VNs.cons sc_law.nd (i := 9) (by rfl) (by first | exact .inl rfl | exact .inr rfl) (VNs.cons sc_law.nd (i := 18) (by rfl) (by first | exact .inl rfl | exact .inr rfl) (VNs.nil))) (by rfl) (by rfl) (by decide)) (VSs.cons (VS.while (wp := []) fu_law_0 hpB (VT.cmp op_leA v_le (dIm 9) (dIm 14)) (VSs.one (VS.parT (by rfl) (VPa.consV (VE.binop op_addA v_add (dIm 17) (VE.binop op_mulA v_mul (VE.binop op_mulA v_mul (VE.int) (dIm 18)) (dIm 9))) (VPa.consV (VE.binop op_addA v_add (dIm 16) (dIm 18)) (VPa.consV (VE.binop op_mulA v_mul (dIm 18) (VE.int)) (VPa.consV (VE.binop op_addA v_add (dIm 9) (VE.int)) (VPa.nil))))) (VNs.cons sc_law.nd (i := 17) (by rfl) (by first | exact .inl rfl | exact .inr rfl) (VNs.cons sc_law.nd (i := 16) (by rfl) (by first | exact .inl rfl | exact .inr rfl) (VNs.cons sc_law.nd (i := 18) (by rfl) (by first | exact .inl rfl | exact .inr rfl) (VNs.cons sc_law.nd (i := 9) (by rfl) (by first | exact .inl rfl | exact .inr rfl) (VNs.nil))))) (by rfl) (by rfl) (by decide)))) (VSs.wipe [9, 18] (VSs.wipe [11] (VSs.cons (VS.if ((VW.orr (VT.cmp (op_neD (Room.hu hr 64)) v_ne (dCall c_count_figures tkB hr (VA.cons (VE.binop op_sub v_sub (VE.binop op_mulA v_mul (dIm 15) (VE.int)) (VE.int)) (VA.nil)) (lc ln)) (dIm 17)) (VW.orr (VT.cmp (op_neD (Room.hu hr 64)) v_ne ((VF.compP (by rfl) sc_law.nd (VI.rg2 (by rfl) h.G.g_range (VA.cons (VE.int) (VA.cons (VE.int) (VA.nil))) (lc (lc ln))) (blkOk_by (N := N_law) (sc := defScope (top 21)) (own := [("figure", 11)]) (by decide +kernel)) (by decide) (fun _ _ _ _ _ => VG.name sc_law.nd (i := 11) (by rfl) (by first | exact .inl rfl | exact .inr rfl)) (fun _ _ _ _ _ => VTs.one (VT.cmp (op_neD (Room.hu hr 64)) v_ne (dCall c__law_told tkN hr (VA.cons (dIm 11) (VA.cons (VE.binop op_sub v_sub (VE.binop op_mulA v_mul (dIm 15) (VE.int)) (VE.int)) (VA.nil))) (lc (lc ln))) (VE.binop op_mulA v_mul (dIm 14) (dIm 15)))) (fun _ _ _ _ _ => dIm 11)).ve) ((VF.lst (VA.nil)).ve)) (VW.or1 (VT.cmp (op_neD (Room.hu hr 64)) v_ne (dCall c__law_told tkB hr (VA.cons (VE.int) (VA.cons (VE.binop op_sub v_sub (VE.binop op_mulA v_mul (dIm 15) (VE.int)) (VE.int)) (VA.nil))) (lc (lc ln))) (VE.binop op_sub v_sub (VE.binop op_mulA v_mul (dIm 14) (dIm 15)) (dIm 16)))))).vt) (VSs.one (VS.ret (VE.bool))) (VSs.nil)) (VSs.wipe [11, 14, 15, 16, 17] (VSs.one (VS.ret ((VB.an (VB.val (VE.cmp (op_eqD (Room.hu hr 64)) v_eq ((VF.compP (by rfl) sc_law.nd (VI.val ((VF.lst (VA.cons (dNeg (VE.int)) (VA.cons (VE.int) (VA.nil)))).ve)) (blkOk_by (N := N_law) (sc := defScope (top 21)) (own := [("one", 20)]) (by decide +kernel)) (by decide) (fun _ _ _ _ _ => VG.name sc_law.nd (i := 20) (by rfl) (by first | exact .inl rfl | exact .inr rfl)) (fun _ _ _ _ _ => VTs.nil) (fun _ _ _ _ _ => dCall c__law_told tkN hr (VA.cons (dIm 20) (VA.cons (VE.int) (VA.nil))) (lc (lc ln)))).ve) (VE.binop op_mulA v_mul ((VF.lst (VA.cons (VE.str) (VA.nil))).ve) (VE.int)))) (VB.an (VB.val (VE.cmp (op_eqD (Room.hu hr 64)) v_eq (dCall c_count_figures tkB hr (VA.cons (VE.int) (VA.nil)) (lc ln)) (VE.int))) (VB.an (VB.val (VE.cmp (op_eqD (Room.hu hr 64)) v_eq (dCall c_figure_at tkB hr (VA.cons (VE.int) (VA.nil)) (lc ln)) (VE.tup (VA.cons (VE.int) (VA.cons (VE.int) (VA.nil)))))) (VB.an (VB.val (VE.cmp (op_eqD (Room.hu hr 64)) v_eq (dCall c_figure_at tkB hr (VA.cons (VE.int) (VA.nil)) (lc ln)) (VE.tup (VA.cons (VE.int) (VA.cons (VE.int) (VA.nil)))))) (VB.one (VB.val (VE.cmp (op_eqD (Room.hu hr 64)) v_eq (dCall c_figure_at tkB hr (VA.cons (VE.int) (VA.nil)) (lc ln)) (VE.tup (VA.cons (VE.int) (VA.cons (VE.int) (VA.nil))))))))))).ve)))))))))))))))))))))))))))))))))))))
end
end Vs.k37

set_option Elab.async false
set_option linter.all false
set_option maxRecDepth 100000
set_option maxHeartbeats 4000000
namespace Vs.k37
open PySem PySem.Spec PyProof.Rows L2
theorem alike_eq : ∀ n, C__law_alike n = aliC n
  | 0 => rfl
  | n + 1 => by unfold C__law_alike aliC; rw [alike_eq n]; rfl
theorem alikeE_l {α : Type} {n : Nat} {e : α → D} {a b : α} (h : a = b) (k : OkA n (e b)) (st : Sts) : resP st (C__law_alike n [.im (e a), .im (e b)]) = .ok (.bool true) st := by
  subst h
  rw [alike_eq]
  exact resP_rt (alike_ev k) st
/-! law -/
def d_law_1 (xs : List Int) : Int × List Int := take1 xs (3 : Int)
def d_law_2 (xs : List Int) : Int × List Int := take1 ((d_law_1 xs).2) (ix ([(12 : Int), (130 : Int), (1300 : Int)]) ((d_law_1 xs).1))
def v_law_painted  : (List (Int × Int)) := ([] : List (Int × Int))
/-! _law_figures -/
def v__law_figures_found  : (List Int) := ([] : List Int)
def v__law_figures_found_2 (s1 : (Int × (List Int))) : (List Int) := ([(s1.1 % (10 : Int))] ++ s1.2)
def v__law_figures_number (s1 : (Int × (List Int))) : Int := (s1.1 / (10 : Int))
def b__law_figures_1  (s1 : (Int × (List Int))) : Int × (List Int) := ((v__law_figures_number s1), (v__law_figures_found_2 s1))
def c__law_figures_1  (s1 : (Int × (List Int))) : Bool := (decide ((0 : Int) < s1.1))
def o__law_figures_1  (s1 : (Int × (List Int))) : Prop := ((decide ((0 : Int) < s1.1)) = true → ([(s1.1 % (10 : Int))]).length + (s1.2).length ≤ 100000)
def s__law_figures_1 (number : Int) : Int × (List Int) := wh (c__law_figures_1) (b__law_figures_1) 100 (number, v__law_figures_found)
def t__law_figures (number : Int) : (List Int) := (s__law_figures_1 number).2
def k__law_figures (number : Int) : Prop := KW (o__law_figures_1) (c__law_figures_1) (b__law_figures_1) 100 (number, v__law_figures_found)
theorem g__law_figures (number : Int) (h : k__law_figures number) : FnV (eL PyData.int) (t__law_figures number) (M__law_figures [.im (PyData.int number), .un]) := by
  unfold M__law_figures t__law_figures
  exact (setSQ (d := (eL PyData.int) v__law_figures_found) (mkL_h (ds := []) PyData.int ([] : List Int) (Nat.le_of_ble_eq_true rfl) anil_ok) (by rfl) (S2 := [.im (PyData.int number), .im ((eL PyData.int) v__law_figures_found)]) (by rfl) (whileSQ (fun s1 : Int × (List Int) => [.im (PyData.int s1.1), .im ((eL PyData.int) s1.2)]) (c__law_figures_1) (b__law_figures_1) (o__law_figures_1) (s0 := (number, v__law_figures_found)) 100 (by first | (simp only [wipes_t, wipes_n, noPar_s, g0, gS, npK_un, npK_im, npK_own, npK_scr, npK_par, List.set_cons_zero, List.set_cons_succ]; done) | rfl | (simp only [wipes_t, wipes_f, wipes_n, noPar_s, g0, gS, npK_un, npK_im, npK_own, npK_scr, npK_par, List.set_cons_zero, List.set_cons_succ]; rfl)) (by rfl) h (fun s1 ho => (tst_ok (bin_ok (im_ok (d := PyData.int s1.1) (by rfl)) c_ok (gtD_n _ _)))) (fun s1 ho hc2 => (setSQ (d := (eL PyData.int) (v__law_figures_found_2 s1)) (bin_ok (mkL_h (ds := []) PyData.int [(s1.1 % (10 : Int))] (Nat.le_of_ble_eq_true rfl) (acons_ok (bin_ok (call1_l (acons_ok (im_ok (d := PyData.int s1.1) (by rfl)) anil_ok) (int_i _)) c_ok (mod_n (by decide))) anil_ok)) (im_ok (d := (eL PyData.int) s1.2) (by rfl)) (add_L PyData.int ((ho hc2)))) (by rfl) (S2 := [.im (PyData.int s1.1), .im ((eL PyData.int) (v__law_figures_found_2 s1))]) (by rfl) (lastQ (setSQ (d := PyData.int (v__law_figures_number s1)) (bin_ok (im_ok (d := PyData.int s1.1) (by rfl)) c_ok (fdiv_n (by first | rfl | decide))) (by rfl) (S2 := [.im (PyData.int (v__law_figures_number s1)), .im ((eL PyData.int) (v__law_figures_found_2 s1))]) (by rfl) (bdQ_nx (by first | (simp only [wipes_t, wipes_n, noPar_s, g0, gS, npK_un, npK_im, npK_own, npK_scr, npK_par, List.set_cons_zero, List.set_cons_succ]; done) | rfl | (simp only [wipes_t, wipes_f, wipes_n, noPar_s, g0, gS, npK_un, npK_im, npK_own, npK_scr, npK_par, List.set_cons_zero, List.set_cons_succ]; rfl))))))) (r := (s__law_figures_1 number)) (by rfl) (S3 := [.im (PyData.int ((s__law_figures_1 number).1)), .im ((eL PyData.int) ((s__law_figures_1 number).2))]) (by rfl) (wipeQ (S1 := [.un, .im ((eL PyData.int) ((s__law_figures_1 number).2))]) (by first | (simp only [wipes_t, wipes_n, noPar_s, g0, gS, npK_un, npK_im, npK_own, npK_scr, npK_par, List.set_cons_zero, List.set_cons_succ]; done) | rfl | (simp only [wipes_t, wipes_f, wipes_n, noPar_s, g0, gS, npK_un, npK_im, npK_own, npK_scr, npK_par, List.set_cons_zero, List.set_cons_succ]; rfl)) (lastQ (retSQ (im_ok (d := (eL PyData.int) ((s__law_figures_1 number).2)) (by rfl)) (fnV_rt rfl))))))
theorem l__law_figures (number : Int) (h : k__law_figures number) (st : Sts) : resP st (C__law_figures [.im (PyData.int number)]) = .ok ((eL PyData.int) (t__law_figures number)) st := fnV_res (g__law_figures number h) st
def v_law_painted_2 (xs : List Int) (s1 : (List (Int × Int))) (x2 : Int) : (List (Int × Int)) := (if (decide ((d_law_2 xs).1 < (200 : Int))) = true then (s1 ++ (((t__law_figures x2)).map (fun x4 : Int => (x4, x2)))) else s1)
def b_law_1 (xs : List Int) (s1 : (List (Int × Int))) (x2 : Int) : (List (Int × Int)) := (v_law_painted_2 xs s1 x2)
def o_law_1 (xs : List Int) (s1 : (List (Int × Int))) (x2 : Int) : Prop := ((decide ((d_law_2 xs).1 < (200 : Int))) = true → (k__law_figures x2 ∧ ((t__law_figures x2)).length ≤ 16777216 ∧ (s1).length + ((((t__law_figures x2)).map (fun x4 : Int => (x4, x2)))).length ≤ 100000))
def s_law_1 (xs : List Int) : (List (Int × Int)) := ((rgI (1 : Int) ((d_law_2 xs).1 + (1 : Int)))).foldl (b_law_1 xs) v_law_painted
def v_law_rows (xs : List Int) : (List (List Int)) := (((rgI (1 : Int) ((d_law_2 xs).1 + (1 : Int)))).map (fun x6 : Int => (t__law_figures x6)))
def v_law_counts (xs : List Int) : (List Int) := (((rgI 0 (10 : Int))).map (fun x7 : Int => ((((v_law_rows xs)).map (fun x8 : (List Int) => ((List.count x7 x8 : Nat) : Int)))).sum))
def v_law_spots (xs : List Int) : Int := ((((v_law_rows xs)).map (fun x9 : (List Int) => ((x9).length : Int)))).sum
def v_law_counts_2 (xs : List Int) : (List Int) := (((rgI 0 (10 : Int))).map (fun x10 : Int => ((((((s_law_1 xs)).filter (fun x11 : (Int × Int) => (decide (x11.1 = x10)))).map (fun x11 : (Int × Int) => (1 : Int)))).length : Int)))
def v_law_spots_2 (xs : List Int) : Int := (((s_law_1 xs)).length : Int)
/-! figure_at -/
def v_figure_at_left (s1 : (Int × Int × Int)) : Int := (s1.2.2 - ((((10 : Int) - (1 : Int)) * s1.1) * s1.2.1))
def v_figure_at_begin (s1 : (Int × Int × Int)) : Int := (s1.1 * (10 : Int))
def v_figure_at_figures (s1 : (Int × Int × Int)) : Int := (s1.2.1 + (1 : Int))
def b_figure_at_1  (s1 : (Int × Int × Int)) : Int × Int × Int := ((v_figure_at_begin s1), (v_figure_at_figures s1), (v_figure_at_left s1))
def c_figure_at_1  (s1 : (Int × Int × Int)) : Bool := (decide (((((10 : Int) - (1 : Int)) * s1.1) * s1.2.1) ≤ s1.2.2))
def o_figure_at_1  (s1 : (Int × Int × Int)) : Prop := (mulOk ((10 : Int) - (1 : Int)) s1.1 = true ∧ mulOk (((10 : Int) - (1 : Int)) * s1.1) s1.2.1 = true ∧ ((decide (((((10 : Int) - (1 : Int)) * s1.1) * s1.2.1) ≤ s1.2.2)) = true → (mulOk ((10 : Int) - (1 : Int)) s1.1 = true ∧ mulOk (((10 : Int) - (1 : Int)) * s1.1) s1.2.1 = true ∧ mulOk s1.1 (10 : Int) = true)))
def s_figure_at_1 (place : Int) : Int × Int × Int := wh (c_figure_at_1) (b_figure_at_1) 100 ((1 : Int), (1 : Int), place)
def v_figure_at_post (place : Int) : Int := ((s_figure_at_1 place).1 + ((s_figure_at_1 place).2.2 / (s_figure_at_1 place).2.1))
def v_figure_at_at (place : Int) : Int := ((s_figure_at_1 place).2.2 % (s_figure_at_1 place).2.1)
def v_figure_at_behind (s3 : Int) : Int := (s3 * (10 : Int))
def b_figure_at_2  (s3 : Int) (x4 : Int) : Int := (v_figure_at_behind s3)
def o_figure_at_2  (s3 : Int) (x4 : Int) : Prop := mulOk s3 (10 : Int) = true
def s_figure_at_2 (place : Int) : Int := ((rgI 0 (((s_figure_at_1 place).2.1 - (1 : Int)) - (v_figure_at_at place)))).foldl (b_figure_at_2) (1 : Int)
def t_figure_at (place : Int) : (Int × Int) := ((((v_figure_at_post place) / (s_figure_at_2 place)) % (10 : Int)), (v_figure_at_post place))
def k_figure_at (place : Int) : Prop := (KW (o_figure_at_1) (c_figure_at_1) (b_figure_at_1) 100 ((1 : Int), (1 : Int), place) ∧ divOk ((s_figure_at_1 place).2.2) ((s_figure_at_1 place).2.1) = true ∧ 0 < (s_figure_at_1 place).2.1 ∧ (((s_figure_at_1 place).2.1 - (1 : Int)) - (v_figure_at_at place)) < 1000000000000 ∧ -(1000000000000) < (((s_figure_at_1 place).2.1 - (1 : Int)) - (v_figure_at_at place)) ∧ KF (o_figure_at_2) (b_figure_at_2) (rgI 0 (((s_figure_at_1 place).2.1 - (1 : Int)) - (v_figure_at_at place))) (1 : Int) ∧ divOk (v_figure_at_post place) (s_figure_at_2 place) = true)
theorem g_figure_at (place : Int) (h : k_figure_at place) : FnV (eP PyData.int PyData.int) (t_figure_at place) (M_figure_at [.im (PyData.int place), .un, .un, .un, .un, .un, .un, .un]) := by
  unfold M_figure_at t_figure_at
  exact (parSQ (ds := [PyData.int (1 : Int), PyData.int (1 : Int), PyData.int place]) (acons_ok c_ok (acons_ok c_ok (acons_ok (im_ok (d := PyData.int place) (by rfl)) anil_ok))) (S2 := [.im (PyData.int place), .im (PyData.int (1 : Int)), .im (PyData.int (1 : Int)), .im (PyData.int place), .un, .un, .un, .un]) (by rfl) (whileSQ (fun s1 : Int × Int × Int => [.im (PyData.int place), .im (PyData.int s1.1), .im (PyData.int s1.2.1), .im (PyData.int s1.2.2), .un, .un, .un, .un]) (c_figure_at_1) (b_figure_at_1) (o_figure_at_1) (s0 := ((1 : Int), (1 : Int), place)) 100 (by first | (simp only [wipes_t, wipes_n, noPar_s, g0, gS, npK_un, npK_im, npK_own, npK_scr, npK_par, List.set_cons_zero, List.set_cons_succ]; done) | rfl | (simp only [wipes_t, wipes_f, wipes_n, noPar_s, g0, gS, npK_un, npK_im, npK_own, npK_scr, npK_par, List.set_cons_zero, List.set_cons_succ]; rfl)) (by rfl) h.1 (fun s1 ho => (tst_ok (bin_ok (im_ok (d := PyData.int s1.2.2) (by rfl)) (bin_ok (bin_ok (bin_ok c_ok c_ok (subD_n _ _)) (im_ok (d := PyData.int s1.1) (by rfl)) (mul_n ho.1)) (im_ok (d := PyData.int s1.2.1) (by rfl)) (mul_n ho.2.1)) (geD_n _ _)))) (fun s1 ho hc2 => (augSQ (f := fun i j => i - j) (u := s1.2.2) (v := ((((10 : Int) - (1 : Int)) * s1.1) * s1.2.1)) (by rfl) (bin_ok (bin_ok (bin_ok c_ok c_ok (subD_n _ _)) (im_ok (d := PyData.int s1.1) (by rfl)) (mul_n ((ho.2.2 hc2).1))) (im_ok (d := PyData.int s1.2.1) (by rfl)) (mul_n ((ho.2.2 hc2).2.1))) (by rfl) (S2 := [.im (PyData.int place), .im (PyData.int s1.1), .im (PyData.int s1.2.1), .im (PyData.int (v_figure_at_left s1)), .un, .un, .un, .un]) (by rfl) (lastQ (parSQ (ds := [PyData.int (v_figure_at_begin s1), PyData.int (v_figure_at_figures s1)]) (acons_ok (bin_ok (im_ok (d := PyData.int s1.1) (by rfl)) c_ok (mul_n ((ho.2.2 hc2).2.2))) (acons_ok (bin_ok (im_ok (d := PyData.int s1.2.1) (by rfl)) c_ok (addD_n _ _)) anil_ok)) (S2 := [.im (PyData.int place), .im (PyData.int (v_figure_at_begin s1)), .im (PyData.int (v_figure_at_figures s1)), .im (PyData.int (v_figure_at_left s1)), .un, .un, .un, .un]) (by rfl) (bdQ_nx (by first | (simp only [wipes_t, wipes_n, noPar_s, g0, gS, npK_un, npK_im, npK_own, npK_scr, npK_par, List.set_cons_zero, List.set_cons_succ]; done) | rfl | (simp only [wipes_t, wipes_f, wipes_n, noPar_s, g0, gS, npK_un, npK_im, npK_own, npK_scr, npK_par, List.set_cons_zero, List.set_cons_succ]; rfl))))))) (r := (s_figure_at_1 place)) (by rfl) (S3 := [.im (PyData.int place), .im (PyData.int ((s_figure_at_1 place).1)), .im (PyData.int ((s_figure_at_1 place).2.1)), .im (PyData.int ((s_figure_at_1 place).2.2)), .un, .un, .un, .un]) (by rfl) (parSQ (ds := [PyData.int (v_figure_at_post place), PyData.int (v_figure_at_at place)]) (acons_ok (bin_ok (im_ok (d := PyData.int ((s_figure_at_1 place).1)) (by rfl)) (bin_ok (im_ok (d := PyData.int ((s_figure_at_1 place).2.2)) (by rfl)) (im_ok (d := PyData.int ((s_figure_at_1 place).2.1)) (by rfl)) (fdiv_n h.2.1)) (addD_n _ _)) (acons_ok (bin_ok (im_ok (d := PyData.int ((s_figure_at_1 place).2.2)) (by rfl)) (im_ok (d := PyData.int ((s_figure_at_1 place).2.1)) (by rfl)) (mod_n h.2.2.1)) anil_ok)) (S2 := [.im (PyData.int place), .im (PyData.int ((s_figure_at_1 place).1)), .im (PyData.int ((s_figure_at_1 place).2.1)), .im (PyData.int ((s_figure_at_1 place).2.2)), .im (PyData.int (v_figure_at_post place)), .im (PyData.int (v_figure_at_at place)), .un, .un]) (by rfl) (setSQ (d := PyData.int (1 : Int)) c_ok (by rfl) (S2 := [.im (PyData.int place), .im (PyData.int ((s_figure_at_1 place).1)), .im (PyData.int ((s_figure_at_1 place).2.1)), .im (PyData.int ((s_figure_at_1 place).2.2)), .im (PyData.int (v_figure_at_post place)), .im (PyData.int (v_figure_at_at place)), .im (PyData.int (1 : Int)), .un]) (by rfl) (forSQ (e := PyData.int) (fun s3 : Int => [.im (PyData.int place), .im (PyData.int ((s_figure_at_1 place).1)), .im (PyData.int ((s_figure_at_1 place).2.1)), .im (PyData.int ((s_figure_at_1 place).2.2)), .im (PyData.int (v_figure_at_post place)), .im (PyData.int (v_figure_at_at place)), .im (PyData.int s3), .un]) (b_figure_at_2) (o_figure_at_2) (xs := (rgI 0 (((s_figure_at_1 place).2.1 - (1 : Int)) - (v_figure_at_at place)))) (s0 := (1 : Int)) (iRg_l (acons_ok (bin_ok (bin_ok (im_ok (d := PyData.int ((s_figure_at_1 place).2.1)) (by rfl)) c_ok (subD_n _ _)) (im_ok (d := PyData.int (v_figure_at_at place)) (by rfl)) (subD_n _ _)) anil_ok) (rg1_l h.2.2.2.1 h.2.2.2.2.1)) (by first | (simp only [wipes_t, wipes_n, noPar_s, g0, gS, npK_un, npK_im, npK_own, npK_scr, npK_par, List.set_cons_zero, List.set_cons_succ]; done) | rfl | (simp only [wipes_t, wipes_f, wipes_n, noPar_s, g0, gS, npK_un, npK_im, npK_own, npK_scr, npK_par, List.set_cons_zero, List.set_cons_succ]; rfl)) h.2.2.2.2.2.1 (fun s3 x4 ho => ⟨[.im (PyData.int place), .im (PyData.int ((s_figure_at_1 place).1)), .im (PyData.int ((s_figure_at_1 place).2.1)), .im (PyData.int ((s_figure_at_1 place).2.2)), .im (PyData.int (v_figure_at_post place)), .im (PyData.int (v_figure_at_at place)), .im (PyData.int s3), .im (PyData.int x4)], by rfl, (lastQ (augCSQ (C := mulOk) (f := fun i j => i * j) (u := s3) (v := (10 : Int)) (by rfl) c_ok ho (by rfl) (S2 := [.im (PyData.int place), .im (PyData.int ((s_figure_at_1 place).1)), .im (PyData.int ((s_figure_at_1 place).2.1)), .im (PyData.int ((s_figure_at_1 place).2.2)), .im (PyData.int (v_figure_at_post place)), .im (PyData.int (v_figure_at_at place)), .im (PyData.int (v_figure_at_behind s3)), .im (PyData.int x4)]) (by rfl) (bdQ_nx (by first | (simp only [wipes_t, wipes_n, noPar_s, g0, gS, npK_un, npK_im, npK_own, npK_scr, npK_par, List.set_cons_zero, List.set_cons_succ]; done) | rfl | (simp only [wipes_t, wipes_f, wipes_n, noPar_s, g0, gS, npK_un, npK_im, npK_own, npK_scr, npK_par, List.set_cons_zero, List.set_cons_succ]; rfl)))))⟩) (r := (s_figure_at_2 place)) (by rfl) (S3 := [.im (PyData.int place), .im (PyData.int ((s_figure_at_1 place).1)), .im (PyData.int ((s_figure_at_1 place).2.1)), .im (PyData.int ((s_figure_at_1 place).2.2)), .im (PyData.int (v_figure_at_post place)), .im (PyData.int (v_figure_at_at place)), .im (PyData.int (s_figure_at_2 place)), .un]) (by rfl) (wipeQ (S1 := [.im (PyData.int place), .im (PyData.int ((s_figure_at_1 place).1)), .un, .im (PyData.int ((s_figure_at_1 place).2.2)), .im (PyData.int (v_figure_at_post place)), .un, .im (PyData.int (s_figure_at_2 place)), .un]) (by first | (simp only [wipes_t, wipes_n, noPar_s, g0, gS, npK_un, npK_im, npK_own, npK_scr, npK_par, List.set_cons_zero, List.set_cons_succ]; done) | rfl | (simp only [wipes_t, wipes_f, wipes_n, noPar_s, g0, gS, npK_un, npK_im, npK_own, npK_scr, npK_par, List.set_cons_zero, List.set_cons_succ]; rfl)) (lastQ (retSQ (mkP_h PyData.int PyData.int (((v_figure_at_post place) / (s_figure_at_2 place)) % (10 : Int)) (v_figure_at_post place) (acons_ok (bin_ok (bin_ok (im_ok (d := PyData.int (v_figure_at_post place)) (by rfl)) (im_ok (d := PyData.int (s_figure_at_2 place)) (by rfl)) (fdiv_n h.2.2.2.2.2.2)) c_ok (mod_n (by decide))) (acons_ok (im_ok (d := PyData.int (v_figure_at_post place)) (by rfl)) anil_ok))) (fnV_rt rfl)))))))))
theorem l_figure_at (place : Int) (h : k_figure_at place) (st : Sts) : resP st (C_figure_at [.im (PyData.int place)]) = .ok ((eP PyData.int PyData.int) (t_figure_at place)) st := fnV_res (g_figure_at place h) st
def j_law_1 (xs : List Int) : (List Int) × Int := (if (decide ((200 : Int) ≤ (d_law_2 xs).1)) = true then ((v_law_counts xs), (v_law_spots xs)) else ((v_law_counts_2 xs), (v_law_spots_2 xs)))
/-! count_figures -/
def v_count_figures_found (n : Int) (s1 : (Int × Int × Int)) : Int := (s1.1 + ((((min n ((s1.2.1 * (10 : Int)) - (1 : Int))) - s1.2.1) + (1 : Int)) * s1.2.2))
def v_count_figures_begin (s1 : (Int × Int × Int)) : Int := (s1.2.1 * (10 : Int))
def v_count_figures_figures (s1 : (Int × Int × Int)) : Int := (s1.2.2 + (1 : Int))
def b_count_figures_1 (n : Int) (s1 : (Int × Int × Int)) : Int × Int × Int := ((v_count_figures_found n s1), (v_count_figures_begin s1), (v_count_figures_figures s1))
def c_count_figures_1 (n : Int) (s1 : (Int × Int × Int)) : Bool := (decide (s1.2.1 ≤ n))
def o_count_figures_1 (n : Int) (s1 : (Int × Int × Int)) : Prop := ((decide (s1.2.1 ≤ n)) = true → (mulOk s1.2.1 (10 : Int) = true ∧ mulOk (((min n ((s1.2.1 * (10 : Int)) - (1 : Int))) - s1.2.1) + (1 : Int)) s1.2.2 = true ∧ mulOk s1.2.1 (10 : Int) = true))
def s_count_figures_1 (n : Int) : Int × Int × Int := wh (c_count_figures_1 n) (b_count_figures_1 n) 100 ((0 : Int), (1 : Int), (1 : Int))
def t_count_figures (n : Int) : Int := (s_count_figures_1 n).1
def k_count_figures (n : Int) : Prop := KW (o_count_figures_1 n) (c_count_figures_1 n) (b_count_figures_1 n) 100 ((0 : Int), (1 : Int), (1 : Int))
theorem g_count_figures (n : Int) (h : k_count_figures n) : FnV PyData.int (t_count_figures n) (M_count_figures [.im (PyData.int n), .un, .un, .un]) := by
  unfold M_count_figures t_count_figures
  exact (parSQ (ds := [PyData.int (0 : Int), PyData.int (1 : Int), PyData.int (1 : Int)]) (acons_ok c_ok (acons_ok c_ok (acons_ok c_ok anil_ok))) (S2 := [.im (PyData.int n), .im (PyData.int (0 : Int)), .im (PyData.int (1 : Int)), .im (PyData.int (1 : Int))]) (by rfl) (whileSQ (fun s1 : Int × Int × Int => [.im (PyData.int n), .im (PyData.int s1.1), .im (PyData.int s1.2.1), .im (PyData.int s1.2.2)]) (c_count_figures_1 n) (b_count_figures_1 n) (o_count_figures_1 n) (s0 := ((0 : Int), (1 : Int), (1 : Int))) 100 (by first | (simp only [wipes_t, wipes_n, noPar_s, g0, gS, npK_un, npK_im, npK_own, npK_scr, npK_par, List.set_cons_zero, List.set_cons_succ]; done) | rfl | (simp only [wipes_t, wipes_f, wipes_n, noPar_s, g0, gS, npK_un, npK_im, npK_own, npK_scr, npK_par, List.set_cons_zero, List.set_cons_succ]; rfl)) (by rfl) h (fun s1 ho => (tst_ok (bin_ok (im_ok (d := PyData.int s1.2.1) (by rfl)) (im_ok (d := PyData.int n) (by rfl)) (leD_n _ _)))) (fun s1 ho hc2 => (augSQ (f := fun i j => i + j) (u := s1.1) (v := ((((min n ((s1.2.1 * (10 : Int)) - (1 : Int))) - s1.2.1) + (1 : Int)) * s1.2.2)) (by rfl) (bin_ok (bin_ok (bin_ok (call1_l (acons_ok (im_ok (d := PyData.int n) (by rfl)) (acons_ok (bin_ok (bin_ok (im_ok (d := PyData.int s1.2.1) (by rfl)) c_ok (mul_n ((ho hc2).1))) c_ok (subD_n _ _)) anil_ok)) (min2_n _ _)) (im_ok (d := PyData.int s1.2.1) (by rfl)) (subD_n _ _)) c_ok (addD_n _ _)) (im_ok (d := PyData.int s1.2.2) (by rfl)) (mul_n ((ho hc2).2.1))) (by rfl) (S2 := [.im (PyData.int n), .im (PyData.int (v_count_figures_found n s1)), .im (PyData.int s1.2.1), .im (PyData.int s1.2.2)]) (by rfl) (lastQ (parSQ (ds := [PyData.int (v_count_figures_begin s1), PyData.int (v_count_figures_figures s1)]) (acons_ok (bin_ok (im_ok (d := PyData.int s1.2.1) (by rfl)) c_ok (mul_n ((ho hc2).2.2))) (acons_ok (bin_ok (im_ok (d := PyData.int s1.2.2) (by rfl)) c_ok (addD_n _ _)) anil_ok)) (S2 := [.im (PyData.int n), .im (PyData.int (v_count_figures_found n s1)), .im (PyData.int (v_count_figures_begin s1)), .im (PyData.int (v_count_figures_figures s1))]) (by rfl) (bdQ_nx (by first | (simp only [wipes_t, wipes_n, noPar_s, g0, gS, npK_un, npK_im, npK_own, npK_scr, npK_par, List.set_cons_zero, List.set_cons_succ]; done) | rfl | (simp only [wipes_t, wipes_f, wipes_n, noPar_s, g0, gS, npK_un, npK_im, npK_own, npK_scr, npK_par, List.set_cons_zero, List.set_cons_succ]; rfl))))))) (r := (s_count_figures_1 n)) (by rfl) (S3 := [.im (PyData.int n), .im (PyData.int ((s_count_figures_1 n).1)), .im (PyData.int ((s_count_figures_1 n).2.1)), .im (PyData.int ((s_count_figures_1 n).2.2))]) (by rfl) (wipeQ (S1 := [.un, .im (PyData.int ((s_count_figures_1 n).1)), .un, .un]) (by first | (simp only [wipes_t, wipes_n, noPar_s, g0, gS, npK_un, npK_im, npK_own, npK_scr, npK_par, List.set_cons_zero, List.set_cons_succ]; done) | rfl | (simp only [wipes_t, wipes_f, wipes_n, noPar_s, g0, gS, npK_un, npK_im, npK_own, npK_scr, npK_par, List.set_cons_zero, List.set_cons_succ]; rfl)) (lastQ (retSQ (im_ok (d := PyData.int ((s_count_figures_1 n).1)) (by rfl)) (fnV_rt rfl))))))
theorem l_count_figures (n : Int) (h : k_count_figures n) (st : Sts) : resP st (C_count_figures [.im (PyData.int n)]) = .ok (PyData.int (t_count_figures n)) st := fnV_res (g_count_figures n h) st
/-! _law_told -/
/-! times_of -/
def v_times_of_ahead (n : Int) (s2 : (Int × Int)) : Int := (n / (s2.2 * (10 : Int)))
def v_times_of_here (n : Int) (s2 : (Int × Int)) : Int := ((n / s2.2) % (10 : Int))
def v_times_of_ahead_2 (n : Int) (s2 : (Int × Int)) : Int := ((v_times_of_ahead n s2) - (1 : Int))
def j_times_of_1 (figure : Int) (n : Int) (s2 : (Int × Int)) : Int := (if (decide (figure = (0 : Int))) = true then (v_times_of_ahead_2 n s2) else (v_times_of_ahead n s2))
def v_times_of_found (figure : Int) (n : Int) (s2 : (Int × Int)) : Int := (s2.1 + ((j_times_of_1 figure n s2) * s2.2))
def v_times_of_found_2 (figure : Int) (n : Int) (s2 : (Int × Int)) : Int := ((v_times_of_found figure n s2) + s2.2)
def v_times_of_found_3 (figure : Int) (n : Int) (s2 : (Int × Int)) : Int := ((v_times_of_found figure n s2) + ((n % s2.2) + (1 : Int)))
def j_times_of_2 (figure : Int) (n : Int) (s2 : (Int × Int)) : Int := (if (decide ((v_times_of_here n s2) = figure)) = true then (v_times_of_found_3 figure n s2) else (v_times_of_found figure n s2))
def j_times_of_3 (figure : Int) (n : Int) (s2 : (Int × Int)) : Int := (if (decide (figure < (v_times_of_here n s2))) = true then (v_times_of_found_2 figure n s2) else (j_times_of_2 figure n s2))
def v_times_of_place (s2 : (Int × Int)) : Int := (s2.2 * (10 : Int))
def b_times_of_1 (figure : Int) (n : Int) (s2 : (Int × Int)) : Int × Int := ((j_times_of_3 figure n s2), (v_times_of_place s2))
def c_times_of_1 (figure : Int) (n : Int) (s2 : (Int × Int)) : Bool := (decide (s2.2 ≤ n))
def o_times_of_1 (figure : Int) (n : Int) (s2 : (Int × Int)) : Prop := ((decide (s2.2 ≤ n)) = true → (mulOk s2.2 (10 : Int) = true ∧ divOk n (s2.2 * (10 : Int)) = true ∧ divOk n s2.2 = true ∧ 0 < s2.2 ∧ mulOk (j_times_of_1 figure n s2) s2.2 = true ∧ mulOk s2.2 (10 : Int) = true))
def s_times_of_1 (figure : Int) (n : Int) : Int × Int := wh (c_times_of_1 figure n) (b_times_of_1 figure n) 100 ((0 : Int), (1 : Int))
def t_times_of (figure : Int) (n : Int) : Int := (s_times_of_1 figure n).1
def k_times_of (figure : Int) (n : Int) : Prop := ((!(decide ((0 : Int) ≤ figure ∧ figure ≤ ((10 : Int) - (1 : Int))))) = false ∧ KW (o_times_of_1 figure n) (c_times_of_1 figure n) (b_times_of_1 figure n) 100 ((0 : Int), (1 : Int)))
theorem g_times_of (figure : Int) (n : Int) (h : k_times_of figure n) : FnV PyData.int (t_times_of figure n) (M_times_of [.im (PyData.int figure), .im (PyData.int n), .un, .un, .un, .un, .un]) := by
  unfold M_times_of t_times_of
  exact (ifNSQ (b := (!(decide ((0 : Int) ≤ figure ∧ figure ≤ ((10 : Int) - (1 : Int)))))) (nt_ok (tst_ok (callP_l (acons_ok (im_ok (d := PyData.int figure) (by rfl)) (acons_ok c_ok (acons_ok (bin_ok c_ok c_ok (subD_n _ _)) anil_ok))) (num_i figure (0 : Int) ((10 : Int) - (1 : Int)) _)))) h.1 (fun hc1 => (nilSQ (parSQ (ds := [PyData.int (0 : Int), PyData.int (1 : Int)]) (acons_ok c_ok (acons_ok c_ok anil_ok)) (S2 := [.im (PyData.int figure), .im (PyData.int n), .im (PyData.int (0 : Int)), .im (PyData.int (1 : Int)), .un, .un, .un]) (by rfl) (whileSQ (fun s2 : Int × Int => [.im (PyData.int figure), .im (PyData.int n), .im (PyData.int s2.1), .im (PyData.int s2.2), .un, .un, .un]) (c_times_of_1 figure n) (b_times_of_1 figure n) (o_times_of_1 figure n) (s0 := ((0 : Int), (1 : Int))) 100 (by first | (simp only [wipes_t, wipes_n, noPar_s, g0, gS, npK_un, npK_im, npK_own, npK_scr, npK_par, List.set_cons_zero, List.set_cons_succ]; done) | rfl | (simp only [wipes_t, wipes_f, wipes_n, noPar_s, g0, gS, npK_un, npK_im, npK_own, npK_scr, npK_par, List.set_cons_zero, List.set_cons_succ]; rfl)) (by rfl) h.2 (fun s2 ho => (tst_ok (bin_ok (im_ok (d := PyData.int s2.2) (by rfl)) (im_ok (d := PyData.int n) (by rfl)) (leD_n _ _)))) (fun s2 ho hc3 => (parSQ (ds := [PyData.int (v_times_of_ahead n s2), PyData.int (v_times_of_here n s2), PyData.int (n % s2.2)]) (acons_ok (bin_ok (im_ok (d := PyData.int n) (by rfl)) (bin_ok (im_ok (d := PyData.int s2.2) (by rfl)) c_ok (mul_n ((ho hc3).1))) (fdiv_n ((ho hc3).2.1))) (acons_ok (bin_ok (bin_ok (im_ok (d := PyData.int n) (by rfl)) (im_ok (d := PyData.int s2.2) (by rfl)) (fdiv_n ((ho hc3).2.2.1))) c_ok (mod_n (by decide))) (acons_ok (bin_ok (im_ok (d := PyData.int n) (by rfl)) (im_ok (d := PyData.int s2.2) (by rfl)) (mod_n ((ho hc3).2.2.2.1))) anil_ok))) (S2 := [.im (PyData.int figure), .im (PyData.int n), .im (PyData.int s2.1), .im (PyData.int s2.2), .im (PyData.int (v_times_of_ahead n s2)), .im (PyData.int (v_times_of_here n s2)), .im (PyData.int (n % s2.2))]) (by rfl) (joinSQ (fun s : Int => [.im (PyData.int figure), .im (PyData.int n), .im (PyData.int s2.1), .im (PyData.int s2.2), .im (PyData.int s), .im (PyData.int (v_times_of_here n s2)), .im (PyData.int (n % s2.2))]) (b := (decide (figure = (0 : Int)))) (v1 := (v_times_of_ahead_2 n s2)) (v2 := (v_times_of_ahead n s2)) (tst_ok (bin_ok (im_ok (d := PyData.int figure) (by rfl)) c_ok (eq_l eqe_I _ _))) (fun hc4 => (lastQ (augSQ (f := fun i j => i - j) (u := (v_times_of_ahead n s2)) (v := (1 : Int)) (by rfl) c_ok (by rfl) (S2 := [.im (PyData.int figure), .im (PyData.int n), .im (PyData.int s2.1), .im (PyData.int s2.2), .im (PyData.int (v_times_of_ahead_2 n s2)), .im (PyData.int (v_times_of_here n s2)), .im (PyData.int (n % s2.2))]) (by rfl) (jnQ_nx (by first | (simp only [wipes_t, wipes_n, noPar_s, g0, gS, npK_un, npK_im, npK_own, npK_scr, npK_par, List.set_cons_zero, List.set_cons_succ]; done) | rfl | (simp only [wipes_t, wipes_f, wipes_n, noPar_s, g0, gS, npK_un, npK_im, npK_own, npK_scr, npK_par, List.set_cons_zero, List.set_cons_succ]; rfl)))))) (fun hc4 => (jnQ_nx (by first | (simp only [wipes_t, wipes_n, noPar_s, g0, gS, npK_un, npK_im, npK_own, npK_scr, npK_par, List.set_cons_zero, List.set_cons_succ]; done) | rfl | (simp only [wipes_t, wipes_f, wipes_n, noPar_s, g0, gS, npK_un, npK_im, npK_own, npK_scr, npK_par, List.set_cons_zero, List.set_cons_succ]; rfl)))) (v := (j_times_of_1 figure n s2)) (by rfl) (S3 := [.im (PyData.int figure), .im (PyData.int n), .im (PyData.int s2.1), .im (PyData.int s2.2), .im (PyData.int (j_times_of_1 figure n s2)), .im (PyData.int (v_times_of_here n s2)), .im (PyData.int (n % s2.2))]) (by rfl) (augSQ (f := fun i j => i + j) (u := s2.1) (v := ((j_times_of_1 figure n s2) * s2.2)) (by rfl) (bin_ok (im_ok (d := PyData.int (j_times_of_1 figure n s2)) (by rfl)) (im_ok (d := PyData.int s2.2) (by rfl)) (mul_n ((ho hc3).2.2.2.2.1))) (by rfl) (S2 := [.im (PyData.int figure), .im (PyData.int n), .im (PyData.int (v_times_of_found figure n s2)), .im (PyData.int s2.2), .im (PyData.int (j_times_of_1 figure n s2)), .im (PyData.int (v_times_of_here n s2)), .im (PyData.int (n % s2.2))]) (by rfl) (joinWSQ (fun s : Int => [.im (PyData.int figure), .im (PyData.int n), .im (PyData.int s), .im (PyData.int s2.2), .im (PyData.int (j_times_of_1 figure n s2)), .un, .un]) (b := (decide (figure < (v_times_of_here n s2)))) (v1 := (v_times_of_found_2 figure n s2)) (v2 := (j_times_of_2 figure n s2)) (tst_ok (bin_ok (im_ok (d := PyData.int (v_times_of_here n s2)) (by rfl)) (im_ok (d := PyData.int figure) (by rfl)) (gtD_n _ _))) (fun hc5 => (lastQ (augSQ (f := fun i j => i + j) (u := (v_times_of_found figure n s2)) (v := s2.2) (by rfl) (im_ok (d := PyData.int s2.2) (by rfl)) (by rfl) (S2 := [.im (PyData.int figure), .im (PyData.int n), .im (PyData.int (v_times_of_found_2 figure n s2)), .im (PyData.int s2.2), .im (PyData.int (j_times_of_1 figure n s2)), .im (PyData.int (v_times_of_here n s2)), .im (PyData.int (n % s2.2))]) (by rfl) (jnQ_nx (by first | (simp only [wipes_t, wipes_n, noPar_s, g0, gS, npK_un, npK_im, npK_own, npK_scr, npK_par, List.set_cons_zero, List.set_cons_succ]; done) | rfl | (simp only [wipes_t, wipes_f, wipes_n, noPar_s, g0, gS, npK_un, npK_im, npK_own, npK_scr, npK_par, List.set_cons_zero, List.set_cons_succ]; rfl)))))) (fun hc5 => (joinWSQ (fun s : Int => [.im (PyData.int figure), .im (PyData.int n), .im (PyData.int s), .im (PyData.int s2.2), .im (PyData.int (j_times_of_1 figure n s2)), .un, .un]) (b := (decide ((v_times_of_here n s2) = figure))) (v1 := (v_times_of_found_3 figure n s2)) (v2 := (v_times_of_found figure n s2)) (tst_ok (bin_ok (im_ok (d := PyData.int (v_times_of_here n s2)) (by rfl)) (im_ok (d := PyData.int figure) (by rfl)) (eq_l eqe_I _ _))) (fun hc6 => (lastQ (augSQ (f := fun i j => i + j) (u := (v_times_of_found figure n s2)) (v := ((n % s2.2) + (1 : Int))) (by rfl) (bin_ok (im_ok (d := PyData.int (n % s2.2)) (by rfl)) c_ok (addD_n _ _)) (by rfl) (S2 := [.im (PyData.int figure), .im (PyData.int n), .im (PyData.int (v_times_of_found_3 figure n s2)), .im (PyData.int s2.2), .im (PyData.int (j_times_of_1 figure n s2)), .im (PyData.int (v_times_of_here n s2)), .im (PyData.int (n % s2.2))]) (by rfl) (jnQ_nx (by first | (simp only [wipes_t, wipes_n, noPar_s, g0, gS, npK_un, npK_im, npK_own, npK_scr, npK_par, List.set_cons_zero, List.set_cons_succ]; done) | rfl | (simp only [wipes_t, wipes_f, wipes_n, noPar_s, g0, gS, npK_un, npK_im, npK_own, npK_scr, npK_par, List.set_cons_zero, List.set_cons_succ]; rfl)))))) (fun hc6 => (jnQ_nx (by first | (simp only [wipes_t, wipes_n, noPar_s, g0, gS, npK_un, npK_im, npK_own, npK_scr, npK_par, List.set_cons_zero, List.set_cons_succ]; done) | rfl | (simp only [wipes_t, wipes_f, wipes_n, noPar_s, g0, gS, npK_un, npK_im, npK_own, npK_scr, npK_par, List.set_cons_zero, List.set_cons_succ]; rfl)))) (v := (j_times_of_2 figure n s2)) (by rfl) (S3 := [.im (PyData.int figure), .im (PyData.int n), .im (PyData.int (j_times_of_2 figure n s2)), .im (PyData.int s2.2), .im (PyData.int (j_times_of_1 figure n s2)), .un, .un]) (by rfl) (jnQ_nx (by first | (simp only [wipes_t, wipes_n, noPar_s, g0, gS, npK_un, npK_im, npK_own, npK_scr, npK_par, List.set_cons_zero, List.set_cons_succ]; done) | rfl | (simp only [wipes_t, wipes_f, wipes_n, noPar_s, g0, gS, npK_un, npK_im, npK_own, npK_scr, npK_par, List.set_cons_zero, List.set_cons_succ]; rfl))))) (v := (j_times_of_3 figure n s2)) (by rfl) (S3 := [.im (PyData.int figure), .im (PyData.int n), .im (PyData.int (j_times_of_3 figure n s2)), .im (PyData.int s2.2), .im (PyData.int (j_times_of_1 figure n s2)), .un, .un]) (by rfl) (lastQ (augCSQ (C := mulOk) (f := fun i j => i * j) (u := s2.2) (v := (10 : Int)) (by rfl) c_ok ((ho hc3).2.2.2.2.2) (by rfl) (S2 := [.im (PyData.int figure), .im (PyData.int n), .im (PyData.int (j_times_of_3 figure n s2)), .im (PyData.int (v_times_of_place s2)), .im (PyData.int (j_times_of_1 figure n s2)), .un, .un]) (by rfl) (bdQ_nx (by first | (simp only [wipes_t, wipes_n, noPar_s, g0, gS, npK_un, npK_im, npK_own, npK_scr, npK_par, List.set_cons_zero, List.set_cons_succ]; done) | rfl | (simp only [wipes_t, wipes_f, wipes_n, noPar_s, g0, gS, npK_un, npK_im, npK_own, npK_scr, npK_par, List.set_cons_zero, List.set_cons_succ]; rfl)))))))))) (r := (s_times_of_1 figure n)) (by rfl) (S3 := [.im (PyData.int figure), .im (PyData.int n), .im (PyData.int ((s_times_of_1 figure n).1)), .im (PyData.int ((s_times_of_1 figure n).2)), .un, .un, .un]) (by rfl) (wipeQ (S1 := [.un, .un, .im (PyData.int ((s_times_of_1 figure n).1)), .un, .un, .un, .un]) (by first | (simp only [wipes_t, wipes_n, noPar_s, g0, gS, npK_un, npK_im, npK_own, npK_scr, npK_par, List.set_cons_zero, List.set_cons_succ]; done) | rfl | (simp only [wipes_t, wipes_f, wipes_n, noPar_s, g0, gS, npK_un, npK_im, npK_own, npK_scr, npK_par, List.set_cons_zero, List.set_cons_succ]; rfl)) (lastQ (retSQ (im_ok (d := PyData.int ((s_times_of_1 figure n).1)) (by rfl)) (fnV_rt rfl)))))))))
theorem l_times_of (figure : Int) (n : Int) (h : k_times_of figure n) (st : Sts) : resP st (C_times_of [.im (PyData.int figure), .im (PyData.int n)]) = .ok (PyData.int (t_times_of figure n)) st := fnV_res (g_times_of figure n h) st
def t__law_told (figure : Int) (n : Int) : Int := (t_times_of figure n)
def k__law_told (figure : Int) (n : Int) : Prop := k_times_of figure n
theorem g__law_told (figure : Int) (n : Int) (h : k__law_told figure n) : FnV PyData.int (t__law_told figure n) (M__law_told [.im (PyData.int figure), .im (PyData.int n), .un]) := by
  unfold M__law_told t__law_told
  exact (tryRSQ (lastQ (retSQ (callP_l (acons_ok (im_ok (d := PyData.int figure) (by rfl)) (acons_ok (im_ok (d := PyData.int n) (by rfl)) anil_ok)) (l_times_of figure n h _)) (fnR_rt rfl))))
theorem l__law_told (figure : Int) (n : Int) (h : k__law_told figure n) (st : Sts) : resP st (C__law_told [.im (PyData.int figure), .im (PyData.int n)]) = .ok (PyData.int (t__law_told figure n)) st := fnV_res (g__law_told figure n h) st
def d_law_3 (xs : List Int) : Int × List Int := take1 ((d_law_2 xs).2) (9 : Int)
def v_law_far (xs : List Int) : Int := ((1 : Int) + (d_law_3 xs).1)
def d_law_4 (xs : List Int) : Int × List Int := take1 ((d_law_3 xs).2) (2 : Int)
def d_law_5 (s17 : ((List Int) × Int)) : Int × List Int := take1 s17.1 (10 : Int)
def v_law_far_2 (s17 : ((List Int) × Int)) : Int := ((s17.2 * (10 : Int)) + (d_law_5 s17).1)
def b_law_2  (s17 : ((List Int) × Int)) (x18 : Int) : (List Int) × Int := ((d_law_5 s17).2, (v_law_far_2 s17))
def o_law_2  (s17 : ((List Int) × Int)) (x18 : Int) : Prop := mulOk s17.2 (10 : Int) = true
def s_law_2 (xs : List Int) : (List Int) × Int := ((rgI 0 (ix ([(3 : Int), (40 : Int)]) ((d_law_4 xs).1)))).foldl (b_law_2) ((d_law_4 xs).2, (v_law_far xs))
def v_law_own (xs : List Int) : (List Int) := (t__law_figures ((s_law_2 xs).2))
def b_law_3 (xs : List Int) (s19 : Unit) (x20 : Int) : Unit := ()
def o_law_3 (xs : List Int) (s19 : Unit) (x20 : Int) : Prop := (k__law_told x20 ((s_law_2 xs).2) ∧ k__law_told x20 ((s_law_2 xs).2 - (1 : Int)) ∧ (!decide (((t__law_told x20 ((s_law_2 xs).2)) - (t__law_told x20 ((s_law_2 xs).2 - (1 : Int)))) = ((List.count x20 (v_law_own xs) : Nat) : Int))) = false)
def v_law_begin (xs : List Int) : Int := (t_count_figures ((s_law_2 xs).2 - (1 : Int)))
def d_law_6 (xs : List Int) : Int × List Int := take1 ((s_law_2 xs).1) (((v_law_own xs)).length : Int)
def b_law_4 (xs : List Int) (s25 : Unit) (x26 : Int) : Unit := ()
def o_law_4 (xs : List Int) (s25 : Unit) (x26 : Int) : Prop := (k_figure_at ((v_law_begin xs) + x26) ∧ (0 ≤ x26 ∧ x26 < (((v_law_own xs)).length : Int)) ∧ ((t_figure_at ((v_law_begin xs) + x26)) = ((ix (v_law_own xs) x26), (s_law_2 xs).2) ∧ OkA 8 ((eP PyData.int PyData.int) ((ix (v_law_own xs) x26), (s_law_2 xs).2))))
def d_law_7 (xs : List Int) : Int × List Int := take1 ((d_law_6 xs).2) (30 : Int)
def v_law_k (xs : List Int) : Int := ((1 : Int) + (d_law_7 xs).1)
def v_law_ten (s30 : Int) : Int := (s30 * (10 : Int))
def b_law_5  (s30 : Int) (x31 : Int) : Int := (v_law_ten s30)
def o_law_5  (s30 : Int) (x31 : Int) : Prop := mulOk s30 (10 : Int) = true
def s_law_3 (xs : List Int) : Int := ((rgI 0 ((v_law_k xs) - (1 : Int)))).foldl (b_law_5) (1 : Int)
def v_law_whole (s32 : (Int × Int × Int × Int)) : Int := (s32.2.2.1 + (((9 : Int) * s32.2.2.2) * s32.1))
def v_law_noughts (s32 : (Int × Int × Int × Int)) : Int := (s32.2.1 + s32.2.2.2)
def v_law_part (s32 : (Int × Int × Int × Int)) : Int := (s32.2.2.2 * (10 : Int))
def v_law_step (s32 : (Int × Int × Int × Int)) : Int := (s32.1 + (1 : Int))
def b_law_6 (xs : List Int) (s32 : (Int × Int × Int × Int)) : Int × Int × Int × Int := ((v_law_step s32), (v_law_noughts s32), (v_law_whole s32), (v_law_part s32))
def c_law_6 (xs : List Int) (s32 : (Int × Int × Int × Int)) : Bool := (decide (s32.1 ≤ (v_law_k xs)))
def o_law_6 (xs : List Int) (s32 : (Int × Int × Int × Int)) : Prop := ((decide (s32.1 ≤ (v_law_k xs))) = true → (mulOk (9 : Int) s32.2.2.2 = true ∧ mulOk ((9 : Int) * s32.2.2.2) s32.1 = true ∧ mulOk s32.2.2.2 (10 : Int) = true))
def s_law_4 (xs : List Int) : Int × Int × Int × Int := wh (c_law_6 xs) (b_law_6 xs) 100 ((1 : Int), (0 : Int), (0 : Int), (1 : Int))
def k_law (ns xs : List Int) : Prop := ((0 ≤ (d_law_1 xs).1 ∧ (d_law_1 xs).1 < (([(12 : Int), (130 : Int), (1300 : Int)]).length : Int)) ∧ 0 < (ix ([(12 : Int), (130 : Int), (1300 : Int)]) ((d_law_1 xs).1)) ∧ ((d_law_2 xs).1 + (1 : Int)) < 1000000000000 ∧ -(1000000000000) < ((d_law_2 xs).1 + (1 : Int)) ∧ KF (o_law_1 xs) (b_law_1 xs) (rgI (1 : Int) ((d_law_2 xs).1 + (1 : Int))) v_law_painted ∧ ((decide ((200 : Int) ≤ (d_law_2 xs).1)) = true → (((d_law_2 xs).1 + (1 : Int)) < 1000000000000 ∧ -(1000000000000) < ((d_law_2 xs).1 + (1 : Int)) ∧ ((rgI (1 : Int) ((d_law_2 xs).1 + (1 : Int)))).length ≤ 16777216 ∧ (∀ x6 : Int, x6 ∈ (rgI (1 : Int) ((d_law_2 xs).1 + (1 : Int))) → k__law_figures x6) ∧ ((rgI 0 (10 : Int))).length ≤ 16777216 ∧ (∀ x7 : Int, x7 ∈ (rgI 0 (10 : Int)) → ((v_law_rows xs)).length ≤ 16777216) ∧ ((v_law_rows xs)).length ≤ 16777216)) ∧ ((decide ((200 : Int) ≤ (d_law_2 xs).1)) = false → (((rgI 0 (10 : Int))).length ≤ 16777216 ∧ (∀ x10 : Int, x10 ∈ (rgI 0 (10 : Int)) → ((s_law_1 xs)).length ≤ 16777216) ∧ (((s_law_1 xs)).length : Int) < 1000000000000 ∧ -(1000000000000) < (((s_law_1 xs)).length : Int) ∧ ((rgI 0 (((s_law_1 xs)).length : Int))).length ≤ 16777216 ∧ (∀ x12 : Int, x12 ∈ (rgI 0 (((s_law_1 xs)).length : Int)) → (k_figure_at x12 ∧ (0 ≤ x12 ∧ x12 < (((s_law_1 xs)).length : Int)) ∧ ((t_figure_at x12) = (ix (s_law_1 xs) x12) ∧ OkA 8 ((eP PyData.int PyData.int) (ix (s_law_1 xs) x12))))) ∧ (!decide (((((rgI 0 (((s_law_1 xs)).length : Int))).filter (fun x12 : Int => false)).map (fun x12 : Int => x12)) = ([] : List Int))) = false)) ∧ k_count_figures ((d_law_2 xs).1) ∧ ((t_count_figures ((d_law_2 xs).1)) = (j_law_1 xs).2 ∧ OkA 8 (PyData.int ((j_law_1 xs).2))) ∧ ((rgI 0 (10 : Int))).length ≤ 16777216 ∧ (∀ x14 : Int, x14 ∈ (rgI 0 (10 : Int)) → (k__law_told x14 ((d_law_2 xs).1) ∧ (0 ≤ x14 ∧ x14 < (((j_law_1 xs).1).length : Int)) ∧ ((t__law_told x14 ((d_law_2 xs).1)) = (ix ((j_law_1 xs).1) x14) ∧ OkA 8 (PyData.int (ix ((j_law_1 xs).1) x14))))) ∧ ((!decide (((((rgI 0 (10 : Int))).filter (fun x14 : Int => false)).map (fun x14 : Int => x14)) = ([] : List Int))) || (!decide (((j_law_1 xs).1).sum = (j_law_1 xs).2))) = false ∧ (0 ≤ (d_law_4 xs).1 ∧ (d_law_4 xs).1 < (([(3 : Int), (40 : Int)]).length : Int)) ∧ (ix ([(3 : Int), (40 : Int)]) ((d_law_4 xs).1)) < 1000000000000 ∧ -(1000000000000) < (ix ([(3 : Int), (40 : Int)]) ((d_law_4 xs).1)) ∧ KF (o_law_2) (b_law_2) (rgI 0 (ix ([(3 : Int), (40 : Int)]) ((d_law_4 xs).1))) ((d_law_4 xs).2, (v_law_far xs)) ∧ k__law_figures ((s_law_2 xs).2) ∧ KF (o_law_3 xs) (b_law_3 xs) (rgI 0 (10 : Int)) () ∧ ((rgI 0 (10 : Int))).length ≤ 16777216 ∧ (∀ x22 : Int, x22 ∈ (rgI 0 (10 : Int)) → k__law_told x22 ((s_law_2 xs).2)) ∧ k_count_figures ((s_law_2 xs).2) ∧ ((!decide (((((rgI 0 (10 : Int))).map (fun x22 : Int => (t__law_told x22 ((s_law_2 xs).2))))).sum = (t_count_figures ((s_law_2 xs).2)))) = false → (k_count_figures ((s_law_2 xs).2) ∧ k_count_figures ((s_law_2 xs).2 - (1 : Int)))) ∧ ((!decide (((((rgI 0 (10 : Int))).map (fun x22 : Int => (t__law_told x22 ((s_law_2 xs).2))))).sum = (t_count_figures ((s_law_2 xs).2)))) || (!decide (((t_count_figures ((s_law_2 xs).2)) - (t_count_figures ((s_law_2 xs).2 - (1 : Int)))) = (((v_law_own xs)).length : Int)))) = false ∧ k_count_figures ((s_law_2 xs).2 - (1 : Int)) ∧ 0 < (((v_law_own xs)).length : Int) ∧ KF (o_law_4 xs) (b_law_4 xs) ([(0 : Int), ((((v_law_own xs)).length : Int) - (1 : Int)), (d_law_6 xs).1]) () ∧ ((decide ((0 : Int) < (v_law_begin xs))) = true → (k_figure_at ((v_law_begin xs) - (1 : Int)) ∧ k__law_figures ((s_law_2 xs).2 - (1 : Int)) ∧ (t__law_figures ((s_law_2 xs).2 - (1 : Int))) ≠ [])) ∧ ((decide ((0 : Int) < (v_law_begin xs))) && (!decide ((t_figure_at ((v_law_begin xs) - (1 : Int))) = ((lst (t__law_figures ((s_law_2 xs).2 - (1 : Int)))), ((s_law_2 xs).2 - (1 : Int)))))) = false ∧ ((v_law_k xs) - (1 : Int)) < 1000000000000 ∧ -(1000000000000) < ((v_law_k xs) - (1 : Int)) ∧ KF (o_law_5) (b_law_5) (rgI 0 ((v_law_k xs) - (1 : Int))) (1 : Int) ∧ KW (o_law_6 xs) (c_law_6 xs) (b_law_6 xs) 100 ((1 : Int), (0 : Int), (0 : Int), (1 : Int)) ∧ mulOk (s_law_3 xs) (10 : Int) = true ∧ k_count_figures (((s_law_3 xs) * (10 : Int)) - (1 : Int)) ∧ ((!decide ((t_count_figures (((s_law_3 xs) * (10 : Int)) - (1 : Int))) = (s_law_4 xs).2.2.1)) = false → (((rgI (1 : Int) (10 : Int))).length ≤ 16777216 ∧ (∀ x35 : Int, x35 ∈ (rgI (1 : Int) (10 : Int)) → (mulOk (s_law_3 xs) (10 : Int) = true ∧ k__law_told x35 (((s_law_3 xs) * (10 : Int)) - (1 : Int)) ∧ mulOk (v_law_k xs) (s_law_3 xs) = true)) ∧ ((!decide (((((rgI (1 : Int) (10 : Int))).filter (fun x35 : Int => (!decide ((t__law_told x35 (((s_law_3 xs) * (10 : Int)) - (1 : Int))) = ((v_law_k xs) * (s_law_3 xs)))))).map (fun x35 : Int => x35)) = ([] : List Int))) = false → (mulOk (s_law_3 xs) (10 : Int) = true ∧ k__law_told (0 : Int) (((s_law_3 xs) * (10 : Int)) - (1 : Int)) ∧ mulOk (v_law_k xs) (s_law_3 xs) = true)))) ∧ ((!decide ((t_count_figures (((s_law_3 xs) * (10 : Int)) - (1 : Int))) = (s_law_4 xs).2.2.1)) || ((!decide (((((rgI (1 : Int) (10 : Int))).filter (fun x35 : Int => (!decide ((t__law_told x35 (((s_law_3 xs) * (10 : Int)) - (1 : Int))) = ((v_law_k xs) * (s_law_3 xs)))))).map (fun x35 : Int => x35)) = ([] : List Int))) || (!decide ((t__law_told (0 : Int) (((s_law_3 xs) * (10 : Int)) - (1 : Int))) = (((v_law_k xs) * (s_law_3 xs)) - (s_law_4 xs).2.1))))) = false ∧ (((cmpP [20] (iVal (callB mkL (aCons (una negD (vC (.int 1))) (aCons (vC (.int 10)) aNil)))) (gN 20) tYes' (callP C__law_told (aCons (vIm 20) (aCons (vC (.int 5)) aNil)))) : Ev) [.scr ns, .own ((eL PyData.int) ((d_law_7 xs).2)), .un, .un, .un, .un, .un, .un, .un, .un, .un, .un, .un, .un, .un, .un, .un, .un, .un, .un, .un, .un] = .ok ((id : D → D) (PyData.list [.str "range", .str "range"])) [.scr ns, .own ((eL PyData.int) ((d_law_7 xs).2)), .un, .un, .un, .un, .un, .un, .un, .un, .un, .un, .un, .un, .un, .un, .un, .un, .un, .un, .un, .un]) ∧ (-(2 ^ 63) ≤ (2 : Int) ∧ (2 : Int) < 2 ^ 63 ∧ ([("range" : Str)]).length * ((2 : Int)).toNat ≤ 16777216) ∧ eqD ((id : D → D) (PyData.list [.str "range", .str "range"])) ((eL PyData.str) ((List.replicate ((2 : Int)).toNat ([("range" : Str)])).flatten)) = some (.bool true) ∧ k_count_figures (0 : Int) ∧ ((decide ((t_count_figures (0 : Int)) = (0 : Int))) = true → (k_figure_at (0 : Int) ∧ ((decide ((t_figure_at (0 : Int)) = ((1 : Int), (1 : Int)))) = true → (k_figure_at (9 : Int) ∧ ((decide ((t_figure_at (9 : Int)) = ((1 : Int), (10 : Int)))) = true → k_figure_at (10 : Int)))))) ∧ ((decide ((t_count_figures (0 : Int)) = (0 : Int))) && ((decide ((t_figure_at (0 : Int)) = ((1 : Int), (1 : Int)))) && ((decide ((t_figure_at (9 : Int)) = ((1 : Int), (10 : Int)))) && (decide ((t_figure_at (10 : Int)) = ((0 : Int), (10 : Int))))))) = true)
theorem l_law (ns xs : List Int) (hd : ∃ st, C__law_draws [.scr ns] = .rf (eL PyData.int xs) st) (h : k_law ns xs) : FnL (M_law [.scr ns, .un, .un, .un, .un, .un, .un, .un, .un, .un, .un, .un, .un, .un, .un, .un, .un, .un, .un, .un, .un, .un]) := (ownSQ (d := (eL PyData.int) xs) (callFS_l (by rfl) hd) (by rfl) (S2 := [.scr ns, .own ((eL PyData.int) xs), .un, .un, .un, .un, .un, .un, .un, .un, .un, .un, .un, .un, .un, .un, .un, .un, .un, .un, .un, .un]) (by rfl) (setSQ (d := PyData.int ((d_law_2 xs).1)) (callD_l (S2 := [.scr ns, .own ((eL PyData.int) ((d_law_2 xs).2)), .un, .un, .un, .un, .un, .un, .un, .un, .un, .un, .un, .un, .un, .un, .un, .un, .un, .un, .un, .un]) (v := (d_law_2 xs)) (e := PyData.int) (by rfl) (acons_ok (bin_ok (mkL_h (ds := []) PyData.int [(12 : Int), (130 : Int), (1300 : Int)] (Nat.le_of_ble_eq_true rfl) (acons_ok c_ok (acons_ok c_ok (acons_ok c_ok anil_ok)))) (callD_l (S2 := [.scr ns, .own ((eL PyData.int) ((d_law_1 xs).2)), .un, .un, .un, .un, .un, .un, .un, .un, .un, .un, .un, .un, .un, .un, .un, .un, .un, .un, .un, .un]) (v := (d_law_1 xs)) (e := PyData.int) (by rfl) (acons_ok c_ok anil_ok) (by rfl) (take_l (fun _ => rfl) xs (3 : Int) (by decide)) (by rfl)) (at_L PyData.int h.1)) anil_ok) (by rfl) (take_l (fun _ => rfl) ((d_law_1 xs).2) (ix ([(12 : Int), (130 : Int), (1300 : Int)]) ((d_law_1 xs).1)) h.2.1) (by rfl)) (by rfl) (S2 := [.scr ns, .own ((eL PyData.int) ((d_law_2 xs).2)), .im (PyData.int ((d_law_2 xs).1)), .un, .un, .un, .un, .un, .un, .un, .un, .un, .un, .un, .un, .un, .un, .un, .un, .un, .un, .un]) (by rfl) (setSQ (d := (eL (eP PyData.int PyData.int)) v_law_painted) (mkL_h (ds := []) (eP PyData.int PyData.int) ([] : List (Int × Int)) (Nat.le_of_ble_eq_true rfl) anil_ok) (by rfl) (S2 := [.scr ns, .own ((eL PyData.int) ((d_law_2 xs).2)), .im (PyData.int ((d_law_2 xs).1)), .im ((eL (eP PyData.int PyData.int)) v_law_painted), .un, .un, .un, .un, .un, .un, .un, .un, .un, .un, .un, .un, .un, .un, .un, .un, .un, .un]) (by rfl) (forSQ (e := PyData.int) (fun s1 : (List (Int × Int)) => [.scr ns, .own ((eL PyData.int) ((d_law_2 xs).2)), .im (PyData.int ((d_law_2 xs).1)), .im ((eL (eP PyData.int PyData.int)) s1), .un, .un, .un, .un, .un, .un, .un, .un, .un, .un, .un, .un, .un, .un, .un, .un, .un, .un]) (b_law_1 xs) (o_law_1 xs) (xs := (rgI (1 : Int) ((d_law_2 xs).1 + (1 : Int)))) (s0 := v_law_painted) (iRg_l (acons_ok c_ok (acons_ok (bin_ok (im_ok (d := PyData.int ((d_law_2 xs).1)) (by rfl)) c_ok (addD_n _ _)) anil_ok)) (rg2_l (by decide) (by decide) h.2.2.1 h.2.2.2.1)) (by first | (simp only [wipes_t, wipes_n, noPar_s, g0, gS, npK_un, npK_im, npK_own, npK_scr, npK_par, List.set_cons_zero, List.set_cons_succ]; done) | rfl | (simp only [wipes_t, wipes_f, wipes_n, noPar_s, g0, gS, npK_un, npK_im, npK_own, npK_scr, npK_par, List.set_cons_zero, List.set_cons_succ]; rfl)) h.2.2.2.2.1 (fun s1 x2 ho => ⟨[.scr ns, .own ((eL PyData.int) ((d_law_2 xs).2)), .im (PyData.int ((d_law_2 xs).1)), .im ((eL (eP PyData.int PyData.int)) s1), .im (PyData.int x2), .un, .un, .un, .un, .un, .un, .un, .un, .un, .un, .un, .un, .un, .un, .un, .un, .un], by rfl, (wipeQ (S1 := [.scr ns, .own ((eL PyData.int) ((d_law_2 xs).2)), .im (PyData.int ((d_law_2 xs).1)), .im ((eL (eP PyData.int PyData.int)) s1), .im (PyData.int x2), .un, .un, .un, .un, .un, .un, .un, .un, .un, .un, .un, .un, .un, .un, .un, .un, .un]) (by first | (simp only [wipes_t, wipes_n, noPar_s, g0, gS, npK_un, npK_im, npK_own, npK_scr, npK_par, List.set_cons_zero, List.set_cons_succ]; done) | rfl | (simp only [wipes_t, wipes_f, wipes_n, noPar_s, g0, gS, npK_un, npK_im, npK_own, npK_scr, npK_par, List.set_cons_zero, List.set_cons_succ]; rfl)) (lastQ (setSQ (d := (eL (eP PyData.int PyData.int)) (v_law_painted_2 xs s1 x2)) (iff_l (eL (eP PyData.int PyData.int)) (u := (s1 ++ (((t__law_figures x2)).map (fun x4 : Int => (x4, x2))))) (v := s1) (tst_ok (bin_ok (im_ok (d := PyData.int ((d_law_2 xs).1)) (by rfl)) c_ok (ltD_n _ _))) (fun hc3 => (bin_ok (im_ok (d := (eL (eP PyData.int PyData.int)) s1) (by rfl)) (cmpP_m (e := PyData.int) (e' := (eP PyData.int PyData.int)) (f := fun x4 : Int => (x4, x2)) (fun x4 : Int => [.scr ns, .own ((eL PyData.int) ((d_law_2 xs).2)), .im (PyData.int ((d_law_2 xs).1)), .im ((eL (eP PyData.int PyData.int)) s1), .im (PyData.int x2), .un, .un, .un, .un, .un, .un, .im (PyData.int x4), .un, .un, .un, .un, .un, .un, .un, .un, .un, .un]) (iVal_l (callP_l (acons_ok (im_ok (d := PyData.int x2) (by rfl)) anil_ok) (l__law_figures x2 ((ho hc3).1) _)) (items_L PyData.int _)) (by rfl) ((ho hc3).2.1) (fun _ => by rfl) (fun x4 hx4 => (mkP_h PyData.int PyData.int x4 x2 (acons_ok (im_ok (d := PyData.int x4) (by rfl)) (acons_ok (im_ok (d := PyData.int x2) (by rfl)) anil_ok))))) (add_L (eP PyData.int PyData.int) ((ho hc3).2.2)))) (fun hc3 => (im_ok (d := (eL (eP PyData.int PyData.int)) s1) (by rfl)))) (by rfl) (S2 := [.scr ns, .own ((eL PyData.int) ((d_law_2 xs).2)), .im (PyData.int ((d_law_2 xs).1)), .im ((eL (eP PyData.int PyData.int)) (v_law_painted_2 xs s1 x2)), .im (PyData.int x2), .un, .un, .un, .un, .un, .un, .un, .un, .un, .un, .un, .un, .un, .un, .un, .un, .un]) (by rfl) (bdQ_nx (by first | (simp only [wipes_t, wipes_n, noPar_s, g0, gS, npK_un, npK_im, npK_own, npK_scr, npK_par, List.set_cons_zero, List.set_cons_succ]; done) | rfl | (simp only [wipes_t, wipes_f, wipes_n, noPar_s, g0, gS, npK_un, npK_im, npK_own, npK_scr, npK_par, List.set_cons_zero, List.set_cons_succ]; rfl))))))⟩) (r := (s_law_1 xs)) (by rfl) (S3 := [.scr ns, .own ((eL PyData.int) ((d_law_2 xs).2)), .im (PyData.int ((d_law_2 xs).1)), .im ((eL (eP PyData.int PyData.int)) (s_law_1 xs)), .un, .un, .un, .un, .un, .un, .un, .un, .un, .un, .un, .un, .un, .un, .un, .un, .un, .un]) (by rfl) (wipeQ (S1 := [.scr ns, .own ((eL PyData.int) ((d_law_2 xs).2)), .im (PyData.int ((d_law_2 xs).1)), .im ((eL (eP PyData.int PyData.int)) (s_law_1 xs)), .un, .un, .un, .un, .un, .un, .un, .un, .un, .un, .un, .un, .un, .un, .un, .un, .un, .un]) (by first | (simp only [wipes_t, wipes_n, noPar_s, g0, gS, npK_un, npK_im, npK_own, npK_scr, npK_par, List.set_cons_zero, List.set_cons_succ]; done) | rfl | (simp only [wipes_t, wipes_f, wipes_n, noPar_s, g0, gS, npK_un, npK_im, npK_own, npK_scr, npK_par, List.set_cons_zero, List.set_cons_succ]; rfl)) (joinWSQ (fun s : (List Int) × Int => [.scr ns, .own ((eL PyData.int) ((d_law_2 xs).2)), .im (PyData.int ((d_law_2 xs).1)), .un, .un, .un, .im ((eL PyData.int) s.1), .im (PyData.int s.2), .un, .un, .un, .un, .un, .un, .un, .un, .un, .un, .un, .un, .un, .un]) (b := (decide ((200 : Int) ≤ (d_law_2 xs).1))) (v1 := ((v_law_counts xs), (v_law_spots xs))) (v2 := ((v_law_counts_2 xs), (v_law_spots_2 xs))) (tst_ok (bin_ok (im_ok (d := PyData.int ((d_law_2 xs).1)) (by rfl)) c_ok (geD_n _ _))) (fun hc5 => (wipeQ (S1 := [.scr ns, .own ((eL PyData.int) ((d_law_2 xs).2)), .im (PyData.int ((d_law_2 xs).1)), .im ((eL (eP PyData.int PyData.int)) (s_law_1 xs)), .un, .un, .un, .un, .un, .un, .un, .un, .un, .un, .un, .un, .un, .un, .un, .un, .un, .un]) (by first | (simp only [wipes_t, wipes_n, noPar_s, g0, gS, npK_un, npK_im, npK_own, npK_scr, npK_par, List.set_cons_zero, List.set_cons_succ]; done) | rfl | (simp only [wipes_t, wipes_f, wipes_n, noPar_s, g0, gS, npK_un, npK_im, npK_own, npK_scr, npK_par, List.set_cons_zero, List.set_cons_succ]; rfl)) (setSQ (d := (eL (eL PyData.int)) (v_law_rows xs)) (cmpP_m (e := PyData.int) (e' := (eL PyData.int)) (f := fun x6 : Int => (t__law_figures x6)) (fun x6 : Int => [.scr ns, .own ((eL PyData.int) ((d_law_2 xs).2)), .im (PyData.int ((d_law_2 xs).1)), .im ((eL (eP PyData.int PyData.int)) (s_law_1 xs)), .im (PyData.int x6), .un, .un, .un, .un, .un, .un, .un, .un, .un, .un, .un, .un, .un, .un, .un, .un, .un]) (iRg_l (acons_ok c_ok (acons_ok (bin_ok (im_ok (d := PyData.int ((d_law_2 xs).1)) (by rfl)) c_ok (addD_n _ _)) anil_ok)) (rg2_l (by decide) (by decide) ((h.2.2.2.2.2.1 hc5).1) ((h.2.2.2.2.2.1 hc5).2.1))) (by rfl) ((h.2.2.2.2.2.1 hc5).2.2.1) (fun _ => by rfl) (fun x6 hx6 => (callP_l (acons_ok (im_ok (d := PyData.int x6) (by rfl)) anil_ok) (l__law_figures x6 ((((h.2.2.2.2.2.1 hc5).2.2.2.1) x6 hx6)) _)))) (by rfl) (S2 := [.scr ns, .own ((eL PyData.int) ((d_law_2 xs).2)), .im (PyData.int ((d_law_2 xs).1)), .im ((eL (eP PyData.int PyData.int)) (s_law_1 xs)), .un, .im ((eL (eL PyData.int)) (v_law_rows xs)), .un, .un, .un, .un, .un, .un, .un, .un, .un, .un, .un, .un, .un, .un, .un, .un]) (by rfl) (wipeQ (S1 := [.scr ns, .own ((eL PyData.int) ((d_law_2 xs).2)), .im (PyData.int ((d_law_2 xs).1)), .im ((eL (eP PyData.int PyData.int)) (s_law_1 xs)), .un, .im ((eL (eL PyData.int)) (v_law_rows xs)), .un, .un, .un, .un, .un, .un, .un, .un, .un, .un, .un, .un, .un, .un, .un, .un]) (by first | (simp only [wipes_t, wipes_n, noPar_s, g0, gS, npK_un, npK_im, npK_own, npK_scr, npK_par, List.set_cons_zero, List.set_cons_succ]; done) | rfl | (simp only [wipes_t, wipes_f, wipes_n, noPar_s, g0, gS, npK_un, npK_im, npK_own, npK_scr, npK_par, List.set_cons_zero, List.set_cons_succ]; rfl)) (setSQ (d := (eL PyData.int) (v_law_counts xs)) (cmpP_m (e := PyData.int) (e' := PyData.int) (f := fun x7 : Int => ((((v_law_rows xs)).map (fun x8 : (List Int) => ((List.count x7 x8 : Nat) : Int)))).sum) (fun x7 : Int => [.scr ns, .own ((eL PyData.int) ((d_law_2 xs).2)), .im (PyData.int ((d_law_2 xs).1)), .im ((eL (eP PyData.int PyData.int)) (s_law_1 xs)), .un, .im ((eL (eL PyData.int)) (v_law_rows xs)), .un, .un, .un, .un, .un, .im (PyData.int x7), .un, .un, .un, .un, .un, .un, .un, .un, .un, .un]) (iRg_l (acons_ok c_ok anil_ok) (rg1_l (by decide) (by decide))) (by rfl) ((h.2.2.2.2.2.1 hc5).2.2.2.2.1) (fun _ => by rfl) (fun x7 hx7 => (call1_l (acons_ok (cmpP_m (e := (eL PyData.int)) (e' := PyData.int) (f := fun x8 : (List Int) => ((List.count x7 x8 : Nat) : Int)) (fun x8 : (List Int) => [.scr ns, .own ((eL PyData.int) ((d_law_2 xs).2)), .im (PyData.int ((d_law_2 xs).1)), .im ((eL (eP PyData.int PyData.int)) (s_law_1 xs)), .un, .im ((eL (eL PyData.int)) (v_law_rows xs)), .un, .un, .un, .un, .un, .im (PyData.int x7), .un, .un, .un, .un, .un, .un, .un, .im ((eL PyData.int) x8), .un, .un]) (iVal_l (im_ok (d := (eL (eL PyData.int)) (v_law_rows xs)) (by rfl)) (items_L (eL PyData.int) _)) (by rfl) ((((h.2.2.2.2.2.1 hc5).2.2.2.2.2.1) x7 hx7)) (fun _ => by rfl) (fun x8 hx8 => (cnt_l (im_ok (d := (eL PyData.int) x8) (by rfl)) (im_ok (d := PyData.int x7) (by rfl))))) anil_ok) (sum_L _)))) (by rfl) (S2 := [.scr ns, .own ((eL PyData.int) ((d_law_2 xs).2)), .im (PyData.int ((d_law_2 xs).1)), .im ((eL (eP PyData.int PyData.int)) (s_law_1 xs)), .un, .im ((eL (eL PyData.int)) (v_law_rows xs)), .im ((eL PyData.int) (v_law_counts xs)), .un, .un, .un, .un, .un, .un, .un, .un, .un, .un, .un, .un, .un, .un, .un]) (by rfl) (lastQ (setSQ (d := PyData.int (v_law_spots xs)) (call1_l (acons_ok (cmpP_m (e := (eL PyData.int)) (e' := PyData.int) (f := fun x9 : (List Int) => ((x9).length : Int)) (fun x9 : (List Int) => [.scr ns, .own ((eL PyData.int) ((d_law_2 xs).2)), .im (PyData.int ((d_law_2 xs).1)), .im ((eL (eP PyData.int PyData.int)) (s_law_1 xs)), .un, .im ((eL (eL PyData.int)) (v_law_rows xs)), .im ((eL PyData.int) (v_law_counts xs)), .un, .un, .un, .un, .un, .un, .un, .un, .un, .un, .un, .un, .im ((eL PyData.int) x9), .un, .un]) (iVal_l (im_ok (d := (eL (eL PyData.int)) (v_law_rows xs)) (by rfl)) (items_L (eL PyData.int) _)) (by rfl) ((h.2.2.2.2.2.1 hc5).2.2.2.2.2.2) (fun _ => by rfl) (fun x9 hx9 => (call1_l (acons_ok (im_ok (d := (eL PyData.int) x9) (by rfl)) anil_ok) (len_L PyData.int _)))) anil_ok) (sum_L _)) (by rfl) (S2 := [.scr ns, .own ((eL PyData.int) ((d_law_2 xs).2)), .im (PyData.int ((d_law_2 xs).1)), .im ((eL (eP PyData.int PyData.int)) (s_law_1 xs)), .un, .im ((eL (eL PyData.int)) (v_law_rows xs)), .im ((eL PyData.int) (v_law_counts xs)), .im (PyData.int (v_law_spots xs)), .un, .un, .un, .un, .un, .un, .un, .un, .un, .un, .un, .un, .un, .un]) (by rfl) (jnQ_nx (by first | (simp only [wipes_t, wipes_n, noPar_s, g0, gS, npK_un, npK_im, npK_own, npK_scr, npK_par, List.set_cons_zero, List.set_cons_succ]; done) | rfl | (simp only [wipes_t, wipes_f, wipes_n, noPar_s, g0, gS, npK_un, npK_im, npK_own, npK_scr, npK_par, List.set_cons_zero, List.set_cons_succ]; rfl)))))))))) (fun hc5 => (wipeQ (S1 := [.scr ns, .own ((eL PyData.int) ((d_law_2 xs).2)), .im (PyData.int ((d_law_2 xs).1)), .im ((eL (eP PyData.int PyData.int)) (s_law_1 xs)), .un, .un, .un, .un, .un, .un, .un, .un, .un, .un, .un, .un, .un, .un, .un, .un, .un, .un]) (by first | (simp only [wipes_t, wipes_n, noPar_s, g0, gS, npK_un, npK_im, npK_own, npK_scr, npK_par, List.set_cons_zero, List.set_cons_succ]; done) | rfl | (simp only [wipes_t, wipes_f, wipes_n, noPar_s, g0, gS, npK_un, npK_im, npK_own, npK_scr, npK_par, List.set_cons_zero, List.set_cons_succ]; rfl)) (parSQ (ds := [(eL PyData.int) (v_law_counts_2 xs), PyData.int (v_law_spots_2 xs)]) (acons_ok (cmpP_m (e := PyData.int) (e' := PyData.int) (f := fun x10 : Int => ((((((s_law_1 xs)).filter (fun x11 : (Int × Int) => (decide (x11.1 = x10)))).map (fun x11 : (Int × Int) => (1 : Int)))).length : Int)) (fun x10 : Int => [.scr ns, .own ((eL PyData.int) ((d_law_2 xs).2)), .im (PyData.int ((d_law_2 xs).1)), .im ((eL (eP PyData.int PyData.int)) (s_law_1 xs)), .un, .un, .un, .un, .un, .un, .un, .im (PyData.int x10), .un, .un, .un, .un, .un, .un, .un, .un, .un, .un]) (iRg_l (acons_ok c_ok anil_ok) (rg1_l (by decide) (by decide))) (by rfl) ((h.2.2.2.2.2.2.1 hc5).1) (fun _ => by rfl) (fun x10 hx10 => (call1_l (acons_ok (cmpP_l (e := (eP PyData.int PyData.int)) (e' := PyData.int) (p := fun x11 : (Int × Int) => (decide (x11.1 = x10))) (f := fun x11 : (Int × Int) => (1 : Int)) (fun x11 : (Int × Int) => [.scr ns, .own ((eL PyData.int) ((d_law_2 xs).2)), .im (PyData.int ((d_law_2 xs).1)), .im ((eL (eP PyData.int PyData.int)) (s_law_1 xs)), .im (PyData.int x11.2), .un, .un, .un, .un, .un, .un, .im (PyData.int x10), .un, .un, .un, .un, .un, .un, .un, .un, .im (PyData.int x11.1), .un]) (iVal_l (im_ok (d := (eL (eP PyData.int PyData.int)) (s_law_1 xs)) (by rfl)) (items_L (eP PyData.int PyData.int) _)) (by rfl) ((((h.2.2.2.2.2.2.1 hc5).2.1) x10 hx10)) (fun _ => by rfl) (fun x11 hx11 => (tst_ok (bin_ok (im_ok (d := PyData.int x11.1) (by rfl)) (im_ok (d := PyData.int x10) (by rfl)) (eq_l eqe_I _ _)))) (fun x11 hx11 hpx11 => c_ok)) anil_ok) (len_L PyData.int _)))) (acons_ok (call1_l (acons_ok (im_ok (d := (eL (eP PyData.int PyData.int)) (s_law_1 xs)) (by rfl)) anil_ok) (len_L (eP PyData.int PyData.int) _)) anil_ok)) (S2 := [.scr ns, .own ((eL PyData.int) ((d_law_2 xs).2)), .im (PyData.int ((d_law_2 xs).1)), .im ((eL (eP PyData.int PyData.int)) (s_law_1 xs)), .un, .un, .im ((eL PyData.int) (v_law_counts_2 xs)), .im (PyData.int (v_law_spots_2 xs)), .un, .un, .un, .un, .un, .un, .un, .un, .un, .un, .un, .un, .un, .un]) (by rfl) (ifNSQ (b := (!decide (((((rgI 0 (((s_law_1 xs)).length : Int))).filter (fun x12 : Int => false)).map (fun x12 : Int => x12)) = ([] : List Int)))) (tst_ok (bin_ok (cmpP_l (e := PyData.int) (e' := PyData.int) (p := fun x12 : Int => false) (f := fun x12 : Int => x12) (fun x12 : Int => [.scr ns, .own ((eL PyData.int) ((d_law_2 xs).2)), .im (PyData.int ((d_law_2 xs).1)), .im ((eL (eP PyData.int PyData.int)) (s_law_1 xs)), .un, .un, .im ((eL PyData.int) (v_law_counts_2 xs)), .im (PyData.int (v_law_spots_2 xs)), .un, .un, .un, .un, .un, .un, .un, .un, .un, .un, .un, .un, .un, .im (PyData.int x12)]) (iRg_l (acons_ok (call1_l (acons_ok (im_ok (d := (eL (eP PyData.int PyData.int)) (s_law_1 xs)) (by rfl)) anil_ok) (len_L (eP PyData.int PyData.int) _)) anil_ok) (rg1_l ((h.2.2.2.2.2.2.1 hc5).2.2.1) ((h.2.2.2.2.2.2.1 hc5).2.2.2.1))) (by rfl) ((h.2.2.2.2.2.2.1 hc5).2.2.2.2.1) (fun _ => by rfl) (fun x12 hx12 => (nt_tl (tst_ok (callP_l (acons_ok (callP_l (acons_ok (im_ok (d := PyData.int x12) (by rfl)) anil_ok) (l_figure_at x12 ((((h.2.2.2.2.2.2.1 hc5).2.2.2.2.2.1) x12 hx12).1) _)) (acons_ok (bin_ok (im_ok (d := (eL (eP PyData.int PyData.int)) (s_law_1 xs)) (by rfl)) (im_ok (d := PyData.int x12) (by rfl)) (at_L (eP PyData.int PyData.int) ((((h.2.2.2.2.2.2.1 hc5).2.2.2.2.2.1) x12 hx12).2.1))) anil_ok)) (alikeE_l (e := (eP PyData.int PyData.int)) ((((h.2.2.2.2.2.2.1 hc5).2.2.2.2.2.1) x12 hx12).2.2).1 ((((h.2.2.2.2.2.2.1 hc5).2.2.2.2.2.1) x12 hx12).2.2).2 _))))) (fun x12 hx12 hpx12 => (im_ok (d := PyData.int x12) (by rfl)))) (mkL_h (ds := []) PyData.int ([] : List Int) (Nat.le_of_ble_eq_true rfl) anil_ok) (ne_l (eqe_L eqe_I) _ _))) ((h.2.2.2.2.2.2.1 hc5).2.2.2.2.2.2) (fun hc13 => (nilSQ (wipeQ (S1 := [.scr ns, .own ((eL PyData.int) ((d_law_2 xs).2)), .im (PyData.int ((d_law_2 xs).1)), .un, .un, .un, .im ((eL PyData.int) (v_law_counts_2 xs)), .im (PyData.int (v_law_spots_2 xs)), .un, .un, .un, .un, .un, .un, .un, .un, .un, .un, .un, .un, .un, .un]) (by first | (simp only [wipes_t, wipes_n, noPar_s, g0, gS, npK_un, npK_im, npK_own, npK_scr, npK_par, List.set_cons_zero, List.set_cons_succ]; done) | rfl | (simp only [wipes_t, wipes_f, wipes_n, noPar_s, g0, gS, npK_un, npK_im, npK_own, npK_scr, npK_par, List.set_cons_zero, List.set_cons_succ]; rfl)) (jnQ_nx (by first | (simp only [wipes_t, wipes_n, noPar_s, g0, gS, npK_un, npK_im, npK_own, npK_scr, npK_par, List.set_cons_zero, List.set_cons_succ]; done) | rfl | (simp only [wipes_t, wipes_f, wipes_n, noPar_s, g0, gS, npK_un, npK_im, npK_own, npK_scr, npK_par, List.set_cons_zero, List.set_cons_succ]; rfl)))))))))) (v := (j_law_1 xs)) (by rfl) (S3 := [.scr ns, .own ((eL PyData.int) ((d_law_2 xs).2)), .im (PyData.int ((d_law_2 xs).1)), .un, .un, .un, .im ((eL PyData.int) ((j_law_1 xs).1)), .im (PyData.int ((j_law_1 xs).2)), .un, .un, .un, .un, .un, .un, .un, .un, .un, .un, .un, .un, .un, .un]) (by rfl) (wipeQ (S1 := [.scr ns, .own ((eL PyData.int) ((d_law_2 xs).2)), .im (PyData.int ((d_law_2 xs).1)), .un, .un, .un, .im ((eL PyData.int) ((j_law_1 xs).1)), .im (PyData.int ((j_law_1 xs).2)), .un, .un, .un, .un, .un, .un, .un, .un, .un, .un, .un, .un, .un, .un]) (by first | (simp only [wipes_t, wipes_n, noPar_s, g0, gS, npK_un, npK_im, npK_own, npK_scr, npK_par, List.set_cons_zero, List.set_cons_succ]; done) | rfl | (simp only [wipes_t, wipes_f, wipes_n, noPar_s, g0, gS, npK_un, npK_im, npK_own, npK_scr, npK_par, List.set_cons_zero, List.set_cons_succ]; rfl)) (ifNSQ (b := ((!decide (((((rgI 0 (10 : Int))).filter (fun x14 : Int => false)).map (fun x14 : Int => x14)) = ([] : List Int))) || (!decide (((j_law_1 xs).1).sum = (j_law_1 xs).2)))) (orr_fl (nt_tl (tst_ok (callP_l (acons_ok (callP_l (acons_ok (im_ok (d := PyData.int ((d_law_2 xs).1)) (by rfl)) anil_ok) (l_count_figures ((d_law_2 xs).1) h.2.2.2.2.2.2.2.1 _)) (acons_ok (im_ok (d := PyData.int ((j_law_1 xs).2)) (by rfl)) anil_ok)) (alikeE_l (e := PyData.int) h.2.2.2.2.2.2.2.2.1.1 h.2.2.2.2.2.2.2.2.1.2 _)))) (orr_l (b := (!decide (((((rgI 0 (10 : Int))).filter (fun x14 : Int => false)).map (fun x14 : Int => x14)) = ([] : List Int)))) (c := (!decide (((j_law_1 xs).1).sum = (j_law_1 xs).2))) (tst_ok (bin_ok (cmpP_l (e := PyData.int) (e' := PyData.int) (p := fun x14 : Int => false) (f := fun x14 : Int => x14) (fun x14 : Int => [.scr ns, .own ((eL PyData.int) ((d_law_2 xs).2)), .im (PyData.int ((d_law_2 xs).1)), .un, .un, .un, .im ((eL PyData.int) ((j_law_1 xs).1)), .im (PyData.int ((j_law_1 xs).2)), .un, .un, .un, .im (PyData.int x14), .un, .un, .un, .un, .un, .un, .un, .un, .un, .un]) (iRg_l (acons_ok c_ok anil_ok) (rg1_l (by decide) (by decide))) (by rfl) h.2.2.2.2.2.2.2.2.2.1 (fun _ => by rfl) (fun x14 hx14 => (nt_tl (tst_ok (callP_l (acons_ok (callP_l (acons_ok (im_ok (d := PyData.int x14) (by rfl)) (acons_ok (im_ok (d := PyData.int ((d_law_2 xs).1)) (by rfl)) anil_ok)) (l__law_told x14 ((d_law_2 xs).1) ((h.2.2.2.2.2.2.2.2.2.2.1 x14 hx14).1) _)) (acons_ok (bin_ok (im_ok (d := (eL PyData.int) ((j_law_1 xs).1)) (by rfl)) (im_ok (d := PyData.int x14) (by rfl)) (at_L PyData.int ((h.2.2.2.2.2.2.2.2.2.2.1 x14 hx14).2.1))) anil_ok)) (alikeE_l (e := PyData.int) ((h.2.2.2.2.2.2.2.2.2.2.1 x14 hx14).2.2).1 ((h.2.2.2.2.2.2.2.2.2.2.1 x14 hx14).2.2).2 _))))) (fun x14 hx14 hpx14 => (im_ok (d := PyData.int x14) (by rfl)))) (mkL_h (ds := []) PyData.int ([] : List Int) (Nat.le_of_ble_eq_true rfl) anil_ok) (ne_l (eqe_L eqe_I) _ _))) (fun hc15 => (tst_ok (bin_ok (call1_l (acons_ok (im_ok (d := (eL PyData.int) ((j_law_1 xs).1)) (by rfl)) anil_ok) (sum_L _)) (im_ok (d := PyData.int ((j_law_1 xs).2)) (by rfl)) (ne_l eqe_I _ _)))))) h.2.2.2.2.2.2.2.2.2.2.2.1 (fun hc16 => (nilSQ (wipeQ (S1 := [.scr ns, .own ((eL PyData.int) ((d_law_2 xs).2)), .un, .un, .un, .un, .un, .un, .un, .un, .un, .un, .un, .un, .un, .un, .un, .un, .un, .un, .un, .un]) (by first | (simp only [wipes_t, wipes_n, noPar_s, g0, gS, npK_un, npK_im, npK_own, npK_scr, npK_par, List.set_cons_zero, List.set_cons_succ]; done) | rfl | (simp only [wipes_t, wipes_f, wipes_n, noPar_s, g0, gS, npK_un, npK_im, npK_own, npK_scr, npK_par, List.set_cons_zero, List.set_cons_succ]; rfl)) (setSQ (d := PyData.int (v_law_far xs)) (bin_ok c_ok (callD_l (S2 := [.scr ns, .own ((eL PyData.int) ((d_law_3 xs).2)), .un, .un, .un, .un, .un, .un, .un, .un, .un, .un, .un, .un, .un, .un, .un, .un, .un, .un, .un, .un]) (v := (d_law_3 xs)) (e := PyData.int) (by rfl) (acons_ok c_ok anil_ok) (by rfl) (take_l (fun _ => rfl) ((d_law_2 xs).2) (9 : Int) (by decide)) (by rfl)) (addD_n _ _)) (by rfl) (S2 := [.scr ns, .own ((eL PyData.int) ((d_law_3 xs).2)), .un, .un, .un, .un, .un, .un, .im (PyData.int (v_law_far xs)), .un, .un, .un, .un, .un, .un, .un, .un, .un, .un, .un, .un, .un]) (by rfl) (forSQ (e := PyData.int) (fun s17 : (List Int) × Int => [.scr ns, .own ((eL PyData.int) s17.1), .un, .un, .un, .un, .un, .un, .im (PyData.int s17.2), .un, .un, .un, .un, .un, .un, .un, .un, .un, .un, .un, .un, .un]) (b_law_2) (o_law_2) (xs := (rgI 0 (ix ([(3 : Int), (40 : Int)]) ((d_law_4 xs).1)))) (s0 := ((d_law_4 xs).2, (v_law_far xs))) (iRg_l (acons_ok (bin_ok (mkL_h (ds := []) PyData.int [(3 : Int), (40 : Int)] (Nat.le_of_ble_eq_true rfl) (acons_ok c_ok (acons_ok c_ok anil_ok))) (callD_l (S2 := [.scr ns, .own ((eL PyData.int) ((d_law_4 xs).2)), .un, .un, .un, .un, .un, .un, .im (PyData.int (v_law_far xs)), .un, .un, .un, .un, .un, .un, .un, .un, .un, .un, .un, .un, .un]) (v := (d_law_4 xs)) (e := PyData.int) (by rfl) (acons_ok c_ok anil_ok) (by rfl) (take_l (fun _ => rfl) ((d_law_3 xs).2) (2 : Int) (by decide)) (by rfl)) (at_L PyData.int h.2.2.2.2.2.2.2.2.2.2.2.2.1)) anil_ok) (rg1_l h.2.2.2.2.2.2.2.2.2.2.2.2.2.1 h.2.2.2.2.2.2.2.2.2.2.2.2.2.2.1)) (by first | (simp only [wipes_t, wipes_n, noPar_s, g0, gS, npK_un, npK_im, npK_own, npK_scr, npK_par, List.set_cons_zero, List.set_cons_succ]; done) | rfl | (simp only [wipes_t, wipes_f, wipes_n, noPar_s, g0, gS, npK_un, npK_im, npK_own, npK_scr, npK_par, List.set_cons_zero, List.set_cons_succ]; rfl)) h.2.2.2.2.2.2.2.2.2.2.2.2.2.2.2.1 (fun s17 x18 ho => ⟨[.scr ns, .own ((eL PyData.int) s17.1), .un, .un, .un, .un, .un, .un, .im (PyData.int s17.2), .im (PyData.int x18), .un, .un, .un, .un, .un, .un, .un, .un, .un, .un, .un, .un], by rfl, (lastQ (setSQ (d := PyData.int (v_law_far_2 s17)) (bin_ok (bin_ok (im_ok (d := PyData.int s17.2) (by rfl)) c_ok (mul_n ho)) (callD_l (S2 := [.scr ns, .own ((eL PyData.int) ((d_law_5 s17).2)), .un, .un, .un, .un, .un, .un, .im (PyData.int s17.2), .im (PyData.int x18), .un, .un, .un, .un, .un, .un, .un, .un, .un, .un, .un, .un]) (v := (d_law_5 s17)) (e := PyData.int) (by rfl) (acons_ok c_ok anil_ok) (by rfl) (take_l (fun _ => rfl) s17.1 (10 : Int) (by decide)) (by rfl)) (addD_n _ _)) (by rfl) (S2 := [.scr ns, .own ((eL PyData.int) ((d_law_5 s17).2)), .un, .un, .un, .un, .un, .un, .im (PyData.int (v_law_far_2 s17)), .im (PyData.int x18), .un, .un, .un, .un, .un, .un, .un, .un, .un, .un, .un, .un]) (by rfl) (bdQ_nx (by first | (simp only [wipes_t, wipes_n, noPar_s, g0, gS, npK_un, npK_im, npK_own, npK_scr, npK_par, List.set_cons_zero, List.set_cons_succ]; done) | rfl | (simp only [wipes_t, wipes_f, wipes_n, noPar_s, g0, gS, npK_un, npK_im, npK_own, npK_scr, npK_par, List.set_cons_zero, List.set_cons_succ]; rfl)))))⟩) (r := (s_law_2 xs)) (by rfl) (S3 := [.scr ns, .own ((eL PyData.int) ((s_law_2 xs).1)), .un, .un, .un, .un, .un, .un, .im (PyData.int ((s_law_2 xs).2)), .un, .un, .un, .un, .un, .un, .un, .un, .un, .un, .un, .un, .un]) (by rfl) (wipeQ (S1 := [.scr ns, .own ((eL PyData.int) ((s_law_2 xs).1)), .un, .un, .un, .un, .un, .un, .im (PyData.int ((s_law_2 xs).2)), .un, .un, .un, .un, .un, .un, .un, .un, .un, .un, .un, .un, .un]) (by first | (simp only [wipes_t, wipes_n, noPar_s, g0, gS, npK_un, npK_im, npK_own, npK_scr, npK_par, List.set_cons_zero, List.set_cons_succ]; done) | rfl | (simp only [wipes_t, wipes_f, wipes_n, noPar_s, g0, gS, npK_un, npK_im, npK_own, npK_scr, npK_par, List.set_cons_zero, List.set_cons_succ]; rfl)) (setSQ (d := (eL PyData.int) (v_law_own xs)) (callP_l (acons_ok (im_ok (d := PyData.int ((s_law_2 xs).2)) (by rfl)) anil_ok) (l__law_figures ((s_law_2 xs).2) h.2.2.2.2.2.2.2.2.2.2.2.2.2.2.2.2.1 _)) (by rfl) (S2 := [.scr ns, .own ((eL PyData.int) ((s_law_2 xs).1)), .un, .un, .un, .un, .un, .un, .im (PyData.int ((s_law_2 xs).2)), .un, .im ((eL PyData.int) (v_law_own xs)), .un, .un, .un, .un, .un, .un, .un, .un, .un, .un, .un]) (by rfl) (forSQ (e := PyData.int) (fun s19 : Unit => [.scr ns, .own ((eL PyData.int) ((s_law_2 xs).1)), .un, .un, .un, .un, .un, .un, .im (PyData.int ((s_law_2 xs).2)), .un, .im ((eL PyData.int) (v_law_own xs)), .un, .un, .un, .un, .un, .un, .un, .un, .un, .un, .un]) (b_law_3 xs) (o_law_3 xs) (xs := (rgI 0 (10 : Int))) (s0 := ()) (iRg_l (acons_ok c_ok anil_ok) (rg1_l (by decide) (by decide))) (by first | (simp only [wipes_t, wipes_n, noPar_s, g0, gS, npK_un, npK_im, npK_own, npK_scr, npK_par, List.set_cons_zero, List.set_cons_succ]; done) | rfl | (simp only [wipes_t, wipes_f, wipes_n, noPar_s, g0, gS, npK_un, npK_im, npK_own, npK_scr, npK_par, List.set_cons_zero, List.set_cons_succ]; rfl)) h.2.2.2.2.2.2.2.2.2.2.2.2.2.2.2.2.2.1 (fun s19 x20 ho => ⟨[.scr ns, .own ((eL PyData.int) ((s_law_2 xs).1)), .un, .un, .un, .un, .un, .un, .im (PyData.int ((s_law_2 xs).2)), .un, .im ((eL PyData.int) (v_law_own xs)), .im (PyData.int x20), .un, .un, .un, .un, .un, .un, .un, .un, .un, .un], by rfl, (ifNSQ (b := (!decide (((t__law_told x20 ((s_law_2 xs).2)) - (t__law_told x20 ((s_law_2 xs).2 - (1 : Int)))) = ((List.count x20 (v_law_own xs) : Nat) : Int)))) (tst_ok (bin_ok (bin_ok (callP_l (acons_ok (im_ok (d := PyData.int x20) (by rfl)) (acons_ok (im_ok (d := PyData.int ((s_law_2 xs).2)) (by rfl)) anil_ok)) (l__law_told x20 ((s_law_2 xs).2) ho.1 _)) (callP_l (acons_ok (im_ok (d := PyData.int x20) (by rfl)) (acons_ok (bin_ok (im_ok (d := PyData.int ((s_law_2 xs).2)) (by rfl)) c_ok (subD_n _ _)) anil_ok)) (l__law_told x20 ((s_law_2 xs).2 - (1 : Int)) ho.2.1 _)) (subD_n _ _)) (cnt_l (im_ok (d := (eL PyData.int) (v_law_own xs)) (by rfl)) (im_ok (d := PyData.int x20) (by rfl))) (ne_l eqe_I _ _))) ho.2.2 (fun hc21 => (nilSQ (wipeQ (S1 := [.scr ns, .own ((eL PyData.int) ((s_law_2 xs).1)), .un, .un, .un, .un, .un, .un, .im (PyData.int ((s_law_2 xs).2)), .un, .im ((eL PyData.int) (v_law_own xs)), .un, .un, .un, .un, .un, .un, .un, .un, .un, .un, .un]) (by first | (simp only [wipes_t, wipes_n, noPar_s, g0, gS, npK_un, npK_im, npK_own, npK_scr, npK_par, List.set_cons_zero, List.set_cons_succ]; done) | rfl | (simp only [wipes_t, wipes_f, wipes_n, noPar_s, g0, gS, npK_un, npK_im, npK_own, npK_scr, npK_par, List.set_cons_zero, List.set_cons_succ]; rfl)) (bdQ_nx (by first | (simp only [wipes_t, wipes_n, noPar_s, g0, gS, npK_un, npK_im, npK_own, npK_scr, npK_par, List.set_cons_zero, List.set_cons_succ]; done) | rfl | (simp only [wipes_t, wipes_f, wipes_n, noPar_s, g0, gS, npK_un, npK_im, npK_own, npK_scr, npK_par, List.set_cons_zero, List.set_cons_succ]; rfl)))))))⟩) (r := ()) (by rfl) (S3 := [.scr ns, .own ((eL PyData.int) ((s_law_2 xs).1)), .un, .un, .un, .un, .un, .un, .im (PyData.int ((s_law_2 xs).2)), .un, .im ((eL PyData.int) (v_law_own xs)), .un, .un, .un, .un, .un, .un, .un, .un, .un, .un, .un]) (by rfl) (wipeQ (S1 := [.scr ns, .own ((eL PyData.int) ((s_law_2 xs).1)), .un, .un, .un, .un, .un, .un, .im (PyData.int ((s_law_2 xs).2)), .un, .im ((eL PyData.int) (v_law_own xs)), .un, .un, .un, .un, .un, .un, .un, .un, .un, .un, .un]) (by first | (simp only [wipes_t, wipes_n, noPar_s, g0, gS, npK_un, npK_im, npK_own, npK_scr, npK_par, List.set_cons_zero, List.set_cons_succ]; done) | rfl | (simp only [wipes_t, wipes_f, wipes_n, noPar_s, g0, gS, npK_un, npK_im, npK_own, npK_scr, npK_par, List.set_cons_zero, List.set_cons_succ]; rfl)) (wipeQ (S1 := [.scr ns, .own ((eL PyData.int) ((s_law_2 xs).1)), .un, .un, .un, .un, .un, .un, .im (PyData.int ((s_law_2 xs).2)), .un, .im ((eL PyData.int) (v_law_own xs)), .un, .un, .un, .un, .un, .un, .un, .un, .un, .un, .un]) (by first | (simp only [wipes_t, wipes_n, noPar_s, g0, gS, npK_un, npK_im, npK_own, npK_scr, npK_par, List.set_cons_zero, List.set_cons_succ]; done) | rfl | (simp only [wipes_t, wipes_f, wipes_n, noPar_s, g0, gS, npK_un, npK_im, npK_own, npK_scr, npK_par, List.set_cons_zero, List.set_cons_succ]; rfl)) (ifNSQ (b := ((!decide (((((rgI 0 (10 : Int))).map (fun x22 : Int => (t__law_told x22 ((s_law_2 xs).2))))).sum = (t_count_figures ((s_law_2 xs).2)))) || (!decide (((t_count_figures ((s_law_2 xs).2)) - (t_count_figures ((s_law_2 xs).2 - (1 : Int)))) = (((v_law_own xs)).length : Int))))) (orr_l (b := (!decide (((((rgI 0 (10 : Int))).map (fun x22 : Int => (t__law_told x22 ((s_law_2 xs).2))))).sum = (t_count_figures ((s_law_2 xs).2))))) (c := (!decide (((t_count_figures ((s_law_2 xs).2)) - (t_count_figures ((s_law_2 xs).2 - (1 : Int)))) = (((v_law_own xs)).length : Int)))) (tst_ok (bin_ok (call1_l (acons_ok (cmpP_m (e := PyData.int) (e' := PyData.int) (f := fun x22 : Int => (t__law_told x22 ((s_law_2 xs).2))) (fun x22 : Int => [.scr ns, .own ((eL PyData.int) ((s_law_2 xs).1)), .un, .un, .un, .un, .un, .un, .im (PyData.int ((s_law_2 xs).2)), .un, .im ((eL PyData.int) (v_law_own xs)), .im (PyData.int x22), .un, .un, .un, .un, .un, .un, .un, .un, .un, .un]) (iRg_l (acons_ok c_ok anil_ok) (rg1_l (by decide) (by decide))) (by rfl) h.2.2.2.2.2.2.2.2.2.2.2.2.2.2.2.2.2.2.1 (fun _ => by rfl) (fun x22 hx22 => (callP_l (acons_ok (im_ok (d := PyData.int x22) (by rfl)) (acons_ok (im_ok (d := PyData.int ((s_law_2 xs).2)) (by rfl)) anil_ok)) (l__law_told x22 ((s_law_2 xs).2) ((h.2.2.2.2.2.2.2.2.2.2.2.2.2.2.2.2.2.2.2.1 x22 hx22)) _)))) anil_ok) (sum_L _)) (callP_l (acons_ok (im_ok (d := PyData.int ((s_law_2 xs).2)) (by rfl)) anil_ok) (l_count_figures ((s_law_2 xs).2) h.2.2.2.2.2.2.2.2.2.2.2.2.2.2.2.2.2.2.2.2.1 _)) (ne_l eqe_I _ _))) (fun hc23 => (tst_ok (bin_ok (bin_ok (callP_l (acons_ok (im_ok (d := PyData.int ((s_law_2 xs).2)) (by rfl)) anil_ok) (l_count_figures ((s_law_2 xs).2) ((h.2.2.2.2.2.2.2.2.2.2.2.2.2.2.2.2.2.2.2.2.2.1 hc23).1) _)) (callP_l (acons_ok (bin_ok (im_ok (d := PyData.int ((s_law_2 xs).2)) (by rfl)) c_ok (subD_n _ _)) anil_ok) (l_count_figures ((s_law_2 xs).2 - (1 : Int)) ((h.2.2.2.2.2.2.2.2.2.2.2.2.2.2.2.2.2.2.2.2.2.1 hc23).2) _)) (subD_n _ _)) (call1_l (acons_ok (im_ok (d := (eL PyData.int) (v_law_own xs)) (by rfl)) anil_ok) (len_L PyData.int _)) (ne_l eqe_I _ _))))) h.2.2.2.2.2.2.2.2.2.2.2.2.2.2.2.2.2.2.2.2.2.2.1 (fun hc24 => (nilSQ (wipeQ (S1 := [.scr ns, .own ((eL PyData.int) ((s_law_2 xs).1)), .un, .un, .un, .un, .un, .un, .im (PyData.int ((s_law_2 xs).2)), .un, .im ((eL PyData.int) (v_law_own xs)), .un, .un, .un, .un, .un, .un, .un, .un, .un, .un, .un]) (by first | (simp only [wipes_t, wipes_n, noPar_s, g0, gS, npK_un, npK_im, npK_own, npK_scr, npK_par, List.set_cons_zero, List.set_cons_succ]; done) | rfl | (simp only [wipes_t, wipes_f, wipes_n, noPar_s, g0, gS, npK_un, npK_im, npK_own, npK_scr, npK_par, List.set_cons_zero, List.set_cons_succ]; rfl)) (setSQ (d := PyData.int (v_law_begin xs)) (callP_l (acons_ok (bin_ok (im_ok (d := PyData.int ((s_law_2 xs).2)) (by rfl)) c_ok (subD_n _ _)) anil_ok) (l_count_figures ((s_law_2 xs).2 - (1 : Int)) h.2.2.2.2.2.2.2.2.2.2.2.2.2.2.2.2.2.2.2.2.2.2.2.1 _)) (by rfl) (S2 := [.scr ns, .own ((eL PyData.int) ((s_law_2 xs).1)), .un, .un, .un, .un, .un, .un, .im (PyData.int ((s_law_2 xs).2)), .un, .im ((eL PyData.int) (v_law_own xs)), .un, .im (PyData.int (v_law_begin xs)), .un, .un, .un, .un, .un, .un, .un, .un, .un]) (by rfl) (forSQ (e := PyData.int) (fun s25 : Unit => [.scr ns, .own ((eL PyData.int) ((d_law_6 xs).2)), .un, .un, .un, .un, .un, .un, .im (PyData.int ((s_law_2 xs).2)), .un, .im ((eL PyData.int) (v_law_own xs)), .un, .im (PyData.int (v_law_begin xs)), .un, .un, .un, .un, .un, .un, .un, .un, .un]) (b_law_4 xs) (o_law_4 xs) (xs := [(0 : Int), ((((v_law_own xs)).length : Int) - (1 : Int)), (d_law_6 xs).1]) (s0 := ()) (iVal_l (mkL_h (ds := []) PyData.int [(0 : Int), ((((v_law_own xs)).length : Int) - (1 : Int)), (d_law_6 xs).1] (Nat.le_of_ble_eq_true rfl) (acons_ok c_ok (acons_ok (bin_ok (call1_l (acons_ok (im_ok (d := (eL PyData.int) (v_law_own xs)) (by rfl)) anil_ok) (len_L PyData.int _)) c_ok (subD_n _ _)) (acons_ok (callD_l (S2 := [.scr ns, .own ((eL PyData.int) ((d_law_6 xs).2)), .un, .un, .un, .un, .un, .un, .im (PyData.int ((s_law_2 xs).2)), .un, .im ((eL PyData.int) (v_law_own xs)), .un, .im (PyData.int (v_law_begin xs)), .un, .un, .un, .un, .un, .un, .un, .un, .un]) (v := (d_law_6 xs)) (e := PyData.int) (by rfl) (acons_ok (call1_l (acons_ok (im_ok (d := (eL PyData.int) (v_law_own xs)) (by rfl)) anil_ok) (len_L PyData.int _)) anil_ok) (by rfl) (take_l (fun _ => rfl) ((s_law_2 xs).1) (((v_law_own xs)).length : Int) h.2.2.2.2.2.2.2.2.2.2.2.2.2.2.2.2.2.2.2.2.2.2.2.2.1) (by rfl)) anil_ok)))) (items_L PyData.int _)) (by first | (simp only [wipes_t, wipes_n, noPar_s, g0, gS, npK_un, npK_im, npK_own, npK_scr, npK_par, List.set_cons_zero, List.set_cons_succ]; done) | rfl | (simp only [wipes_t, wipes_f, wipes_n, noPar_s, g0, gS, npK_un, npK_im, npK_own, npK_scr, npK_par, List.set_cons_zero, List.set_cons_succ]; rfl)) h.2.2.2.2.2.2.2.2.2.2.2.2.2.2.2.2.2.2.2.2.2.2.2.2.2.1 (fun s25 x26 ho => ⟨[.scr ns, .own ((eL PyData.int) ((d_law_6 xs).2)), .un, .un, .un, .un, .un, .un, .im (PyData.int ((s_law_2 xs).2)), .un, .im ((eL PyData.int) (v_law_own xs)), .un, .im (PyData.int (v_law_begin xs)), .im (PyData.int x26), .un, .un, .un, .un, .un, .un, .un, .un], by rfl, (ifNSQ (nt_tl (tst_ok (callP_l (acons_ok (callP_l (acons_ok (bin_ok (im_ok (d := PyData.int (v_law_begin xs)) (by rfl)) (im_ok (d := PyData.int x26) (by rfl)) (addD_n _ _)) anil_ok) (l_figure_at ((v_law_begin xs) + x26) ho.1 _)) (acons_ok (mkP_h PyData.int PyData.int (ix (v_law_own xs) x26) ((s_law_2 xs).2) (acons_ok (bin_ok (im_ok (d := (eL PyData.int) (v_law_own xs)) (by rfl)) (im_ok (d := PyData.int x26) (by rfl)) (at_L PyData.int ho.2.1)) (acons_ok (im_ok (d := PyData.int ((s_law_2 xs).2)) (by rfl)) anil_ok))) anil_ok)) (alikeE_l (e := (eP PyData.int PyData.int)) ho.2.2.1 ho.2.2.2 _)))) rfl (fun hc27 => (nilSQ (wipeQ (S1 := [.scr ns, .own ((eL PyData.int) ((d_law_6 xs).2)), .un, .un, .un, .un, .un, .un, .im (PyData.int ((s_law_2 xs).2)), .un, .im ((eL PyData.int) (v_law_own xs)), .un, .im (PyData.int (v_law_begin xs)), .un, .un, .un, .un, .un, .un, .un, .un, .un]) (by first | (simp only [wipes_t, wipes_n, noPar_s, g0, gS, npK_un, npK_im, npK_own, npK_scr, npK_par, List.set_cons_zero, List.set_cons_succ]; done) | rfl | (simp only [wipes_t, wipes_f, wipes_n, noPar_s, g0, gS, npK_un, npK_im, npK_own, npK_scr, npK_par, List.set_cons_zero, List.set_cons_succ]; rfl)) (bdQ_nx (by first | (simp only [wipes_t, wipes_n, noPar_s, g0, gS, npK_un, npK_im, npK_own, npK_scr, npK_par, List.set_cons_zero, List.set_cons_succ]; done) | rfl | (simp only [wipes_t, wipes_f, wipes_n, noPar_s, g0, gS, npK_un, npK_im, npK_own, npK_scr, npK_par, List.set_cons_zero, List.set_cons_succ]; rfl)))))))⟩) (r := ()) (by rfl) (S3 := [.scr ns, .own ((eL PyData.int) ((d_law_6 xs).2)), .un, .un, .un, .un, .un, .un, .im (PyData.int ((s_law_2 xs).2)), .un, .im ((eL PyData.int) (v_law_own xs)), .un, .im (PyData.int (v_law_begin xs)), .un, .un, .un, .un, .un, .un, .un, .un, .un]) (by rfl) (wipeQ (S1 := [.scr ns, .own ((eL PyData.int) ((d_law_6 xs).2)), .un, .un, .un, .un, .un, .un, .im (PyData.int ((s_law_2 xs).2)), .un, .un, .un, .im (PyData.int (v_law_begin xs)), .un, .un, .un, .un, .un, .un, .un, .un, .un]) (by first | (simp only [wipes_t, wipes_n, noPar_s, g0, gS, npK_un, npK_im, npK_own, npK_scr, npK_par, List.set_cons_zero, List.set_cons_succ]; done) | rfl | (simp only [wipes_t, wipes_f, wipes_n, noPar_s, g0, gS, npK_un, npK_im, npK_own, npK_scr, npK_par, List.set_cons_zero, List.set_cons_succ]; rfl)) (ifNSQ (b := ((decide ((0 : Int) < (v_law_begin xs))) && (!decide ((t_figure_at ((v_law_begin xs) - (1 : Int))) = ((lst (t__law_figures ((s_law_2 xs).2 - (1 : Int)))), ((s_law_2 xs).2 - (1 : Int))))))) (an_l (b := (decide ((0 : Int) < (v_law_begin xs)))) (c := (!decide ((t_figure_at ((v_law_begin xs) - (1 : Int))) = ((lst (t__law_figures ((s_law_2 xs).2 - (1 : Int)))), ((s_law_2 xs).2 - (1 : Int)))))) (tst_ok (bin_ok (im_ok (d := PyData.int (v_law_begin xs)) (by rfl)) c_ok (gtD_n _ _))) (fun hc28 => (tst_ok (bin_ok (callP_l (acons_ok (bin_ok (im_ok (d := PyData.int (v_law_begin xs)) (by rfl)) c_ok (subD_n _ _)) anil_ok) (l_figure_at ((v_law_begin xs) - (1 : Int)) ((h.2.2.2.2.2.2.2.2.2.2.2.2.2.2.2.2.2.2.2.2.2.2.2.2.2.2.1 hc28).1) _)) (mkP_h PyData.int PyData.int (lst (t__law_figures ((s_law_2 xs).2 - (1 : Int)))) ((s_law_2 xs).2 - (1 : Int)) (acons_ok (bin_ok (callP_l (acons_ok (bin_ok (im_ok (d := PyData.int ((s_law_2 xs).2)) (by rfl)) c_ok (subD_n _ _)) anil_ok) (l__law_figures ((s_law_2 xs).2 - (1 : Int)) ((h.2.2.2.2.2.2.2.2.2.2.2.2.2.2.2.2.2.2.2.2.2.2.2.2.2.2.1 hc28).2.1) _)) (una_ok c_ok (neg_i _)) (atlast_L PyData.int ((h.2.2.2.2.2.2.2.2.2.2.2.2.2.2.2.2.2.2.2.2.2.2.2.2.2.2.1 hc28).2.2))) (acons_ok (bin_ok (im_ok (d := PyData.int ((s_law_2 xs).2)) (by rfl)) c_ok (subD_n _ _)) anil_ok))) (ne_l (eqe_P eqe_I eqe_I) _ _))))) h.2.2.2.2.2.2.2.2.2.2.2.2.2.2.2.2.2.2.2.2.2.2.2.2.2.2.2.1 (fun hc29 => (nilSQ (wipeQ (S1 := [.scr ns, .own ((eL PyData.int) ((d_law_6 xs).2)), .un, .un, .un, .un, .un, .un, .un, .un, .un, .un, .un, .un, .un, .un, .un, .un, .un, .un, .un, .un]) (by first | (simp only [wipes_t, wipes_n, noPar_s, g0, gS, npK_un, npK_im, npK_own, npK_scr, npK_par, List.set_cons_zero, List.set_cons_succ]; done) | rfl | (simp only [wipes_t, wipes_f, wipes_n, noPar_s, g0, gS, npK_un, npK_im, npK_own, npK_scr, npK_par, List.set_cons_zero, List.set_cons_succ]; rfl)) (parSQ (ds := [PyData.int (v_law_k xs), PyData.int (1 : Int), PyData.int (0 : Int)]) (acons_ok (bin_ok c_ok (callD_l (S2 := [.scr ns, .own ((eL PyData.int) ((d_law_7 xs).2)), .un, .un, .un, .un, .un, .un, .un, .un, .un, .un, .un, .un, .un, .un, .un, .un, .un, .un, .un, .un]) (v := (d_law_7 xs)) (e := PyData.int) (by rfl) (acons_ok c_ok anil_ok) (by rfl) (take_l (fun _ => rfl) ((d_law_6 xs).2) (30 : Int) (by decide)) (by rfl)) (addD_n _ _)) (acons_ok c_ok (acons_ok c_ok anil_ok))) (S2 := [.scr ns, .own ((eL PyData.int) ((d_law_7 xs).2)), .un, .un, .un, .un, .un, .un, .un, .un, .un, .un, .un, .un, .im (PyData.int (v_law_k xs)), .im (PyData.int (1 : Int)), .im (PyData.int (0 : Int)), .un, .un, .un, .un, .un]) (by rfl) (forSQ (e := PyData.int) (fun s30 : Int => [.scr ns, .own ((eL PyData.int) ((d_law_7 xs).2)), .un, .un, .un, .un, .un, .un, .un, .un, .un, .un, .un, .un, .im (PyData.int (v_law_k xs)), .im (PyData.int s30), .im (PyData.int (0 : Int)), .un, .un, .un, .un, .un]) (b_law_5) (o_law_5) (xs := (rgI 0 ((v_law_k xs) - (1 : Int)))) (s0 := (1 : Int)) (iRg_l (acons_ok (bin_ok (im_ok (d := PyData.int (v_law_k xs)) (by rfl)) c_ok (subD_n _ _)) anil_ok) (rg1_l h.2.2.2.2.2.2.2.2.2.2.2.2.2.2.2.2.2.2.2.2.2.2.2.2.2.2.2.2.1 h.2.2.2.2.2.2.2.2.2.2.2.2.2.2.2.2.2.2.2.2.2.2.2.2.2.2.2.2.2.1)) (by first | (simp only [wipes_t, wipes_n, noPar_s, g0, gS, npK_un, npK_im, npK_own, npK_scr, npK_par, List.set_cons_zero, List.set_cons_succ]; done) | rfl | (simp only [wipes_t, wipes_f, wipes_n, noPar_s, g0, gS, npK_un, npK_im, npK_own, npK_scr, npK_par, List.set_cons_zero, List.set_cons_succ]; rfl)) h.2.2.2.2.2.2.2.2.2.2.2.2.2.2.2.2.2.2.2.2.2.2.2.2.2.2.2.2.2.2.1 (fun s30 x31 ho => ⟨[.scr ns, .own ((eL PyData.int) ((d_law_7 xs).2)), .un, .un, .un, .un, .un, .un, .un, .im (PyData.int x31), .un, .un, .un, .un, .im (PyData.int (v_law_k xs)), .im (PyData.int s30), .im (PyData.int (0 : Int)), .un, .un, .un, .un, .un], by rfl, (lastQ (setSQ (d := PyData.int (v_law_ten s30)) (bin_ok (im_ok (d := PyData.int s30) (by rfl)) c_ok (mul_n ho)) (by rfl) (S2 := [.scr ns, .own ((eL PyData.int) ((d_law_7 xs).2)), .un, .un, .un, .un, .un, .un, .un, .im (PyData.int x31), .un, .un, .un, .un, .im (PyData.int (v_law_k xs)), .im (PyData.int (v_law_ten s30)), .im (PyData.int (0 : Int)), .un, .un, .un, .un, .un]) (by rfl) (bdQ_nx (by first | (simp only [wipes_t, wipes_n, noPar_s, g0, gS, npK_un, npK_im, npK_own, npK_scr, npK_par, List.set_cons_zero, List.set_cons_succ]; done) | rfl | (simp only [wipes_t, wipes_f, wipes_n, noPar_s, g0, gS, npK_un, npK_im, npK_own, npK_scr, npK_par, List.set_cons_zero, List.set_cons_succ]; rfl)))))⟩) (r := (s_law_3 xs)) (by rfl) (S3 := [.scr ns, .own ((eL PyData.int) ((d_law_7 xs).2)), .un, .un, .un, .un, .un, .un, .un, .un, .un, .un, .un, .un, .im (PyData.int (v_law_k xs)), .im (PyData.int (s_law_3 xs)), .im (PyData.int (0 : Int)), .un, .un, .un, .un, .un]) (by rfl) (wipeQ (S1 := [.scr ns, .own ((eL PyData.int) ((d_law_7 xs).2)), .un, .un, .un, .un, .un, .un, .un, .un, .un, .un, .un, .un, .im (PyData.int (v_law_k xs)), .im (PyData.int (s_law_3 xs)), .im (PyData.int (0 : Int)), .un, .un, .un, .un, .un]) (by first | (simp only [wipes_t, wipes_n, noPar_s, g0, gS, npK_un, npK_im, npK_own, npK_scr, npK_par, List.set_cons_zero, List.set_cons_succ]; done) | rfl | (simp only [wipes_t, wipes_f, wipes_n, noPar_s, g0, gS, npK_un, npK_im, npK_own, npK_scr, npK_par, List.set_cons_zero, List.set_cons_succ]; rfl)) (setSQ (d := PyData.int (0 : Int)) c_ok (by rfl) (S2 := [.scr ns, .own ((eL PyData.int) ((d_law_7 xs).2)), .un, .un, .un, .un, .un, .un, .un, .un, .un, .un, .un, .un, .im (PyData.int (v_law_k xs)), .im (PyData.int (s_law_3 xs)), .im (PyData.int (0 : Int)), .im (PyData.int (0 : Int)), .un, .un, .un, .un]) (by rfl) (parSQ (ds := [PyData.int (1 : Int), PyData.int (1 : Int)]) (acons_ok c_ok (acons_ok c_ok anil_ok)) (S2 := [.scr ns, .own ((eL PyData.int) ((d_law_7 xs).2)), .un, .un, .un, .un, .un, .un, .un, .im (PyData.int (1 : Int)), .un, .un, .un, .un, .im (PyData.int (v_law_k xs)), .im (PyData.int (s_law_3 xs)), .im (PyData.int (0 : Int)), .im (PyData.int (0 : Int)), .im (PyData.int (1 : Int)), .un, .un, .un]) (by rfl) (whileSQ (fun s32 : Int × Int × Int × Int => [.scr ns, .own ((eL PyData.int) ((d_law_7 xs).2)), .un, .un, .un, .un, .un, .un, .un, .im (PyData.int s32.1), .un, .un, .un, .un, .im (PyData.int (v_law_k xs)), .im (PyData.int (s_law_3 xs)), .im (PyData.int s32.2.1), .im (PyData.int s32.2.2.1), .im (PyData.int s32.2.2.2), .un, .un, .un]) (c_law_6 xs) (b_law_6 xs) (o_law_6 xs) (s0 := ((1 : Int), (0 : Int), (0 : Int), (1 : Int))) 100 (by first | (simp only [wipes_t, wipes_n, noPar_s, g0, gS, npK_un, npK_im, npK_own, npK_scr, npK_par, List.set_cons_zero, List.set_cons_succ]; done) | rfl | (simp only [wipes_t, wipes_f, wipes_n, noPar_s, g0, gS, npK_un, npK_im, npK_own, npK_scr, npK_par, List.set_cons_zero, List.set_cons_succ]; rfl)) (by rfl) h.2.2.2.2.2.2.2.2.2.2.2.2.2.2.2.2.2.2.2.2.2.2.2.2.2.2.2.2.2.2.2.1 (fun s32 ho => (tst_ok (bin_ok (im_ok (d := PyData.int s32.1) (by rfl)) (im_ok (d := PyData.int (v_law_k xs)) (by rfl)) (leD_n _ _)))) (fun s32 ho hc33 => (lastQ (parSQ (ds := [PyData.int (v_law_whole s32), PyData.int (v_law_noughts s32), PyData.int (v_law_part s32), PyData.int (v_law_step s32)]) (acons_ok (bin_ok (im_ok (d := PyData.int s32.2.2.1) (by rfl)) (bin_ok (bin_ok c_ok (im_ok (d := PyData.int s32.2.2.2) (by rfl)) (mul_n ((ho hc33).1))) (im_ok (d := PyData.int s32.1) (by rfl)) (mul_n ((ho hc33).2.1))) (addD_n _ _)) (acons_ok (bin_ok (im_ok (d := PyData.int s32.2.1) (by rfl)) (im_ok (d := PyData.int s32.2.2.2) (by rfl)) (addD_n _ _)) (acons_ok (bin_ok (im_ok (d := PyData.int s32.2.2.2) (by rfl)) c_ok (mul_n ((ho hc33).2.2))) (acons_ok (bin_ok (im_ok (d := PyData.int s32.1) (by rfl)) c_ok (addD_n _ _)) anil_ok)))) (S2 := [.scr ns, .own ((eL PyData.int) ((d_law_7 xs).2)), .un, .un, .un, .un, .un, .un, .un, .im (PyData.int (v_law_step s32)), .un, .un, .un, .un, .im (PyData.int (v_law_k xs)), .im (PyData.int (s_law_3 xs)), .im (PyData.int (v_law_noughts s32)), .im (PyData.int (v_law_whole s32)), .im (PyData.int (v_law_part s32)), .un, .un, .un]) (by rfl) (bdQ_nx (by first | (simp only [wipes_t, wipes_n, noPar_s, g0, gS, npK_un, npK_im, npK_own, npK_scr, npK_par, List.set_cons_zero, List.set_cons_succ]; done) | rfl | (simp only [wipes_t, wipes_f, wipes_n, noPar_s, g0, gS, npK_un, npK_im, npK_own, npK_scr, npK_par, List.set_cons_zero, List.set_cons_succ]; rfl)))))) (r := (s_law_4 xs)) (by rfl) (S3 := [.scr ns, .own ((eL PyData.int) ((d_law_7 xs).2)), .un, .un, .un, .un, .un, .un, .un, .im (PyData.int ((s_law_4 xs).1)), .un, .un, .un, .un, .im (PyData.int (v_law_k xs)), .im (PyData.int (s_law_3 xs)), .im (PyData.int ((s_law_4 xs).2.1)), .im (PyData.int ((s_law_4 xs).2.2.1)), .im (PyData.int ((s_law_4 xs).2.2.2)), .un, .un, .un]) (by rfl) (wipeQ (S1 := [.scr ns, .own ((eL PyData.int) ((d_law_7 xs).2)), .un, .un, .un, .un, .un, .un, .un, .un, .un, .un, .un, .un, .im (PyData.int (v_law_k xs)), .im (PyData.int (s_law_3 xs)), .im (PyData.int ((s_law_4 xs).2.1)), .im (PyData.int ((s_law_4 xs).2.2.1)), .un, .un, .un, .un]) (by first | (simp only [wipes_t, wipes_n, noPar_s, g0, gS, npK_un, npK_im, npK_own, npK_scr, npK_par, List.set_cons_zero, List.set_cons_succ]; done) | rfl | (simp only [wipes_t, wipes_f, wipes_n, noPar_s, g0, gS, npK_un, npK_im, npK_own, npK_scr, npK_par, List.set_cons_zero, List.set_cons_succ]; rfl)) (wipeQ (S1 := [.scr ns, .own ((eL PyData.int) ((d_law_7 xs).2)), .un, .un, .un, .un, .un, .un, .un, .un, .un, .un, .un, .un, .im (PyData.int (v_law_k xs)), .im (PyData.int (s_law_3 xs)), .im (PyData.int ((s_law_4 xs).2.1)), .im (PyData.int ((s_law_4 xs).2.2.1)), .un, .un, .un, .un]) (by first | (simp only [wipes_t, wipes_n, noPar_s, g0, gS, npK_un, npK_im, npK_own, npK_scr, npK_par, List.set_cons_zero, List.set_cons_succ]; done) | rfl | (simp only [wipes_t, wipes_f, wipes_n, noPar_s, g0, gS, npK_un, npK_im, npK_own, npK_scr, npK_par, List.set_cons_zero, List.set_cons_succ]; rfl)) (ifNSQ (b := ((!decide ((t_count_figures (((s_law_3 xs) * (10 : Int)) - (1 : Int))) = (s_law_4 xs).2.2.1)) || ((!decide (((((rgI (1 : Int) (10 : Int))).filter (fun x35 : Int => (!decide ((t__law_told x35 (((s_law_3 xs) * (10 : Int)) - (1 : Int))) = ((v_law_k xs) * (s_law_3 xs)))))).map (fun x35 : Int => x35)) = ([] : List Int))) || (!decide ((t__law_told (0 : Int) (((s_law_3 xs) * (10 : Int)) - (1 : Int))) = (((v_law_k xs) * (s_law_3 xs)) - (s_law_4 xs).2.1)))))) (orr_l (b := (!decide ((t_count_figures (((s_law_3 xs) * (10 : Int)) - (1 : Int))) = (s_law_4 xs).2.2.1))) (c := ((!decide (((((rgI (1 : Int) (10 : Int))).filter (fun x35 : Int => (!decide ((t__law_told x35 (((s_law_3 xs) * (10 : Int)) - (1 : Int))) = ((v_law_k xs) * (s_law_3 xs)))))).map (fun x35 : Int => x35)) = ([] : List Int))) || (!decide ((t__law_told (0 : Int) (((s_law_3 xs) * (10 : Int)) - (1 : Int))) = (((v_law_k xs) * (s_law_3 xs)) - (s_law_4 xs).2.1))))) (tst_ok (bin_ok (callP_l (acons_ok (bin_ok (bin_ok (im_ok (d := PyData.int (s_law_3 xs)) (by rfl)) c_ok (mul_n h.2.2.2.2.2.2.2.2.2.2.2.2.2.2.2.2.2.2.2.2.2.2.2.2.2.2.2.2.2.2.2.2.1)) c_ok (subD_n _ _)) anil_ok) (l_count_figures (((s_law_3 xs) * (10 : Int)) - (1 : Int)) h.2.2.2.2.2.2.2.2.2.2.2.2.2.2.2.2.2.2.2.2.2.2.2.2.2.2.2.2.2.2.2.2.2.1 _)) (im_ok (d := PyData.int ((s_law_4 xs).2.2.1)) (by rfl)) (ne_l eqe_I _ _))) (fun hc34 => (orr_l (b := (!decide (((((rgI (1 : Int) (10 : Int))).filter (fun x35 : Int => (!decide ((t__law_told x35 (((s_law_3 xs) * (10 : Int)) - (1 : Int))) = ((v_law_k xs) * (s_law_3 xs)))))).map (fun x35 : Int => x35)) = ([] : List Int)))) (c := (!decide ((t__law_told (0 : Int) (((s_law_3 xs) * (10 : Int)) - (1 : Int))) = (((v_law_k xs) * (s_law_3 xs)) - (s_law_4 xs).2.1)))) (tst_ok (bin_ok (cmpP_l (e := PyData.int) (e' := PyData.int) (p := fun x35 : Int => (!decide ((t__law_told x35 (((s_law_3 xs) * (10 : Int)) - (1 : Int))) = ((v_law_k xs) * (s_law_3 xs))))) (f := fun x35 : Int => x35) (fun x35 : Int => [.scr ns, .own ((eL PyData.int) ((d_law_7 xs).2)), .un, .un, .un, .un, .un, .un, .un, .un, .un, .im (PyData.int x35), .un, .un, .im (PyData.int (v_law_k xs)), .im (PyData.int (s_law_3 xs)), .im (PyData.int ((s_law_4 xs).2.1)), .im (PyData.int ((s_law_4 xs).2.2.1)), .un, .un, .un, .un]) (iRg_l (acons_ok c_ok (acons_ok c_ok anil_ok)) (rg2_l (by decide) (by decide) (by decide) (by decide))) (by rfl) ((h.2.2.2.2.2.2.2.2.2.2.2.2.2.2.2.2.2.2.2.2.2.2.2.2.2.2.2.2.2.2.2.2.2.2.1 hc34).1) (fun _ => by rfl) (fun x35 hx35 => (tst_ok (bin_ok (callP_l (acons_ok (im_ok (d := PyData.int x35) (by rfl)) (acons_ok (bin_ok (bin_ok (im_ok (d := PyData.int (s_law_3 xs)) (by rfl)) c_ok (mul_n ((((h.2.2.2.2.2.2.2.2.2.2.2.2.2.2.2.2.2.2.2.2.2.2.2.2.2.2.2.2.2.2.2.2.2.2.1 hc34).2.1) x35 hx35).1))) c_ok (subD_n _ _)) anil_ok)) (l__law_told x35 (((s_law_3 xs) * (10 : Int)) - (1 : Int)) ((((h.2.2.2.2.2.2.2.2.2.2.2.2.2.2.2.2.2.2.2.2.2.2.2.2.2.2.2.2.2.2.2.2.2.2.1 hc34).2.1) x35 hx35).2.1) _)) (bin_ok (im_ok (d := PyData.int (v_law_k xs)) (by rfl)) (im_ok (d := PyData.int (s_law_3 xs)) (by rfl)) (mul_n ((((h.2.2.2.2.2.2.2.2.2.2.2.2.2.2.2.2.2.2.2.2.2.2.2.2.2.2.2.2.2.2.2.2.2.2.1 hc34).2.1) x35 hx35).2.2))) (ne_l eqe_I _ _)))) (fun x35 hx35 hpx35 => (im_ok (d := PyData.int x35) (by rfl)))) (mkL_h (ds := []) PyData.int ([] : List Int) (Nat.le_of_ble_eq_true rfl) anil_ok) (ne_l (eqe_L eqe_I) _ _))) (fun hc36 => (tst_ok (bin_ok (callP_l (acons_ok c_ok (acons_ok (bin_ok (bin_ok (im_ok (d := PyData.int (s_law_3 xs)) (by rfl)) c_ok (mul_n ((((h.2.2.2.2.2.2.2.2.2.2.2.2.2.2.2.2.2.2.2.2.2.2.2.2.2.2.2.2.2.2.2.2.2.2.1 hc34).2.2) hc36).1))) c_ok (subD_n _ _)) anil_ok)) (l__law_told (0 : Int) (((s_law_3 xs) * (10 : Int)) - (1 : Int)) ((((h.2.2.2.2.2.2.2.2.2.2.2.2.2.2.2.2.2.2.2.2.2.2.2.2.2.2.2.2.2.2.2.2.2.2.1 hc34).2.2) hc36).2.1) _)) (bin_ok (bin_ok (im_ok (d := PyData.int (v_law_k xs)) (by rfl)) (im_ok (d := PyData.int (s_law_3 xs)) (by rfl)) (mul_n ((((h.2.2.2.2.2.2.2.2.2.2.2.2.2.2.2.2.2.2.2.2.2.2.2.2.2.2.2.2.2.2.2.2.2.2.1 hc34).2.2) hc36).2.2))) (im_ok (d := PyData.int ((s_law_4 xs).2.1)) (by rfl)) (subD_n _ _)) (ne_l eqe_I _ _))))))) h.2.2.2.2.2.2.2.2.2.2.2.2.2.2.2.2.2.2.2.2.2.2.2.2.2.2.2.2.2.2.2.2.2.2.2.1 (fun hc37 => (nilSQ (wipeQ (S1 := [.scr ns, .own ((eL PyData.int) ((d_law_7 xs).2)), .un, .un, .un, .un, .un, .un, .un, .un, .un, .un, .un, .un, .un, .un, .un, .un, .un, .un, .un, .un]) (by first | (simp only [wipes_t, wipes_n, noPar_s, g0, gS, npK_un, npK_im, npK_own, npK_scr, npK_par, List.set_cons_zero, List.set_cons_succ]; done) | rfl | (simp only [wipes_t, wipes_f, wipes_n, noPar_s, g0, gS, npK_un, npK_im, npK_own, npK_scr, npK_par, List.set_cons_zero, List.set_cons_succ]; rfl)) (lastQ (retSQ (val_ok (an_tl (tst_ok (bin_ok h.2.2.2.2.2.2.2.2.2.2.2.2.2.2.2.2.2.2.2.2.2.2.2.2.2.2.2.2.2.2.2.2.2.2.2.2.1 (bin_ok (mkL_h (ds := []) PyData.str [("range" : Str)] (Nat.le_of_ble_eq_true rfl) (acons_ok c_ok anil_ok)) c_ok (mul_L PyData.str h.2.2.2.2.2.2.2.2.2.2.2.2.2.2.2.2.2.2.2.2.2.2.2.2.2.2.2.2.2.2.2.2.2.2.2.2.2.1)) (h.2.2.2.2.2.2.2.2.2.2.2.2.2.2.2.2.2.2.2.2.2.2.2.2.2.2.2.2.2.2.2.2.2.2.2.2.2.2.1))) (an_l (b := (decide ((t_count_figures (0 : Int)) = (0 : Int)))) (c := ((decide ((t_figure_at (0 : Int)) = ((1 : Int), (1 : Int)))) && ((decide ((t_figure_at (9 : Int)) = ((1 : Int), (10 : Int)))) && (decide ((t_figure_at (10 : Int)) = ((0 : Int), (10 : Int))))))) (tst_ok (bin_ok (callP_l (acons_ok c_ok anil_ok) (l_count_figures (0 : Int) h.2.2.2.2.2.2.2.2.2.2.2.2.2.2.2.2.2.2.2.2.2.2.2.2.2.2.2.2.2.2.2.2.2.2.2.2.2.2.2.1 _)) c_ok (eq_l eqe_I _ _))) (fun hc38 => (an_l (b := (decide ((t_figure_at (0 : Int)) = ((1 : Int), (1 : Int))))) (c := ((decide ((t_figure_at (9 : Int)) = ((1 : Int), (10 : Int)))) && (decide ((t_figure_at (10 : Int)) = ((0 : Int), (10 : Int)))))) (tst_ok (bin_ok (callP_l (acons_ok c_ok anil_ok) (l_figure_at (0 : Int) ((h.2.2.2.2.2.2.2.2.2.2.2.2.2.2.2.2.2.2.2.2.2.2.2.2.2.2.2.2.2.2.2.2.2.2.2.2.2.2.2.2.1 hc38).1) _)) (mkP_h PyData.int PyData.int (1 : Int) (1 : Int) (acons_ok c_ok (acons_ok c_ok anil_ok))) (eq_l (eqe_P eqe_I eqe_I) _ _))) (fun hc39 => (an_l (b := (decide ((t_figure_at (9 : Int)) = ((1 : Int), (10 : Int))))) (c := (decide ((t_figure_at (10 : Int)) = ((0 : Int), (10 : Int))))) (tst_ok (bin_ok (callP_l (acons_ok c_ok anil_ok) (l_figure_at (9 : Int) ((((h.2.2.2.2.2.2.2.2.2.2.2.2.2.2.2.2.2.2.2.2.2.2.2.2.2.2.2.2.2.2.2.2.2.2.2.2.2.2.2.2.1 hc38).2) hc39).1) _)) (mkP_h PyData.int PyData.int (1 : Int) (10 : Int) (acons_ok c_ok (acons_ok c_ok anil_ok))) (eq_l (eqe_P eqe_I eqe_I) _ _))) (fun hc40 => (tst_ok (bin_ok (callP_l (acons_ok c_ok anil_ok) (l_figure_at (10 : Int) ((((((h.2.2.2.2.2.2.2.2.2.2.2.2.2.2.2.2.2.2.2.2.2.2.2.2.2.2.2.2.2.2.2.2.2.2.2.2.2.2.2.2.1 hc38).2) hc39).2) hc40)) _)) (mkP_h PyData.int PyData.int (0 : Int) (10 : Int) (acons_ok c_ok (acons_ok c_ok anil_ok))) (eq_l (eqe_P eqe_I eqe_I) _ _))))))))))) (fnL_rt (by rw [h.2.2.2.2.2.2.2.2.2.2.2.2.2.2.2.2.2.2.2.2.2.2.2.2.2.2.2.2.2.2.2.2.2.2.2.2.2.2.2.2.2])))))))))))))))))))))))))))))))))))))))))))))
end Vs.k37

set_option Elab.async false
set_option linter.all false
set_option maxRecDepth 100000
set_option maxHeartbeats 400000
namespace Vs.k37
open PySem PySem.Spec PyProof.Rows L2
/-! ### figures -/
def p10 (i : Nat) : Int := 10 ^ i
theorem p10_0 : p10 0 = 1 := rfl
theorem p10_s (i : Nat) : p10 (i + 1) = p10 i * 10 := by unfold p10; rw [Int.pow_succ]
theorem p10_pos : ∀ i : Nat, 0 < p10 i
  | 0 => by decide
  | i + 1 => by have := p10_pos i; rw [p10_s]; omega
theorem p10_mono {i j : Nat} (h : i ≤ j) : p10 i ≤ p10 j := by
  induction j with
  | zero => rw [show i = 0 by omega]; exact Int.le_refl _
  | succ j ih =>
    by_cases q : i = j + 1
    · rw [q]; exact Int.le_refl _
    · have := ih (by omega)
      have := p10_pos j
      rw [p10_s]; omega
/-- n has L figures -/
structure Is (n : Int) (L : Nat) : Prop where
  h1 : 1 ≤ L
  lo : p10 (L - 1) ≤ n
  hi : n < p10 L
theorem is_ex : ∀ (K : Nat) (n : Int), 1 ≤ n → n < p10 K → ∃ L, L ≤ K ∧ Is n L
  | 0, n, h, h2 => by rw [p10_0] at h2; omega
  | K + 1, n, h, h2 => by
    rcases Int.lt_or_le n (p10 K) with q | q
    · obtain ⟨L, l1, l2⟩ := is_ex K n h q
      exact ⟨L, by omega, l2⟩
    · exact ⟨K + 1, Nat.le_refl _, by omega, q, h2⟩
theorem Is.pos {n : Int} {L : Nat} (h : Is n L) : 1 ≤ n := by have := h.lo; have := p10_pos (L - 1); omega
theorem Is.uniq {n : Int} {L M : Nat} (h : Is n L) (g : Is n M) : L = M := by
  have a := h.lo; have b := h.hi; have c := g.lo; have d := g.hi; have e := h.h1; have f := g.h1
  by_cases q : L ≤ M - 1
  · have := p10_mono q; omega
  · by_cases q2 : M ≤ L - 1
    · have := p10_mono q2; omega
    · omega
theorem Is.div {n : Int} {L : Nat} (h : Is n (L + 2)) : Is (n / 10) (L + 1) := by
  have a := h.lo
  have b := h.hi
  rw [show L + 2 - 1 = L + 1 by omega, p10_s] at a
  rw [p10_s] at b
  exact ⟨by omega, by rw [show L + 1 - 1 = L by omega]; omega, by omega⟩
def dgs (n : Int) : Nat → List Int
  | 0 => []
  | L + 1 => dgs (n / 10) L ++ [n % 10]
theorem dgs_len : ∀ (L : Nat) (n : Int), (dgs n L).length = L
  | 0, n => rfl
  | L + 1, n => by unfold dgs; rw [List.length_append, dgs_len L]; rfl
theorem figs_wh : ∀ (L fuel : Nat) (n : Int) (acc : List Int), Is n L → L < fuel → acc.length + L ≤ 1000 → KWr o__law_figures_1 c__law_figures_1 b__law_figures_1 fuel (n, acc) ∧ wh c__law_figures_1 b__law_figures_1 fuel (n, acc) = (0, dgs n L ++ acc)
  | 0, fuel, n, acc, h, hf, ha => by have := h.h1; omega
  | L + 1, 0, n, acc, h, hf, ha => by omega
  | L + 1, fuel + 1, n, acc, h, hf, ha => by
    have n1 := h.pos
    have cc : c__law_figures_1 (n, acc) = true := decide_eq_true (by show 0 < n; omega)
    have oo : o__law_figures_1 (n, acc) := fun _ => by show [n % 10].length + acc.length ≤ 100000; rw [List.length_singleton]; omega
    have bb : b__law_figures_1 (n, acc) = (n / 10, [n % 10] ++ acc) := rfl
    unfold KWr wh
    rw [cc, bb, if_pos rfl]
    have ed : dgs n (L + 1) ++ acc = dgs (n / 10) L ++ ([n % 10] ++ acc) := by
      show (dgs (n / 10) L ++ [n % 10]) ++ acc = _
      rw [List.append_assoc]
    rw [ed]
    cases L with
    | zero =>
      have b := h.hi
      rw [p10_s, p10_0] at b
      have z : n / 10 = 0 := by omega
      rw [z]
      cases fuel with
      | zero => omega
      | succ fuel =>
        unfold KWr wh
        have c0 : c__law_figures_1 ((0 : Int), [n % 10] ++ acc) = false := decide_eq_false (by show ¬(0 : Int) < 0; omega)
        rw [c0]
        exact ⟨⟨oo, fun _ => ⟨fun z => (by simp at z), fun z => (by cases z)⟩⟩, by rw [if_neg (by decide)]; rfl⟩
    | succ L =>
      obtain ⟨k1, k2⟩ := figs_wh (L + 1) fuel (n / 10) ([n % 10] ++ acc) h.div (by omega) (by simp; omega)
      exact ⟨⟨oo, fun _ => k1⟩, k2⟩
theorem figs_ok {n : Int} {L : Nat} (h : Is n L) (hL : L ≤ 60) : k__law_figures n ∧ t__law_figures n = dgs n L := by
  obtain ⟨a, b⟩ := figs_wh L 100 n [] h (by omega) (by simp; omega)
  refine ⟨⟨a⟩, ?_⟩
  show (wh c__law_figures_1 b__law_figures_1 100 (n, [])).2 = _
  rw [b, List.append_nil]
theorem dgs_ix : ∀ (L : Nat) (n : Int), 0 ≤ n → ∀ k : Nat, k < L → ix (dgs n L) (k : Int) = n / p10 (L - 1 - k) % 10
  | 0, n, _, k, hk => by omega
  | L + 1, n, hn, k, hk => by
    have l := dgs_len L (n / 10)
    unfold dgs
    rw [ix_app (by omega), l]
    by_cases q : k < L
    · rw [if_pos (by omega), dgs_ix L (n / 10) (by omega) k q]
      congr 1
      rw [show L + 1 - 1 - k = (L - 1 - k) + 1 by omega, p10_s, Int.mul_comm, Int.ediv_ediv_of_nonneg (by decide)]
    · rw [if_neg (by omega), show (k : Int) - L = 0 by omega, ix0, show L + 1 - 1 - k = 0 by omega, p10_0, Int.ediv_one]
/-- how often f stands among the first K figures from behind -/
def cn (f n : Int) : Nat → Int
  | 0 => 0
  | K + 1 => cn f n K + if n / p10 K % 10 = f then 1 else 0
theorem cn_div (f n : Int) (hn : 0 ≤ n) : ∀ K : Nat, cn f n (K + 1) = cn f (n / 10) K + if n % 10 = f then 1 else 0
  | 0 => by unfold cn cn; rw [p10_0, Int.ediv_one]
  | K + 1 => by
    have := cn_div f n hn K
    have e : n / p10 (K + 1) = n / 10 / p10 K := by rw [p10_s, Int.mul_comm, Int.ediv_ediv_of_nonneg (by decide)]
    show cn f n (K + 1) + _ = (cn f (n / 10) K + _) + _
    rw [this, e]; omega
theorem count_dgs (f : Int) : ∀ (L : Nat) (n : Int), 0 ≤ n → ((List.count f (dgs n L) : Nat) : Int) = cn f n L
  | 0, n, _ => rfl
  | L + 1, n, hn => by
    unfold dgs
    rw [List.count_append, cn_div f n hn, ← count_dgs f L (n / 10) (by omega)]
    by_cases q : n % 10 = f
    · subst q; simp
    · rw [if_neg q, List.count_singleton, if_neg (by simpa using q)]; simp
/-! ### times -/
def tm (f n P : Int) : Int := (n / (P * 10) - (if f = 0 then 1 else 0)) * P + (if f < n / P % 10 then P else if n / P % 10 = f then n % P + 1 else 0)
theorem tm_step {f n P : Int} (f0 : 0 ≤ f) (f9 : f ≤ 9) (hP : 0 < P) (hn : 1 ≤ n) : tm f n P = tm f (n - 1) P + if n / P % 10 = f then 1 else 0 := by
  have e1 : ∀ x : Int, x / (P * 10) = x / P / 10 := fun x => (Int.ediv_ediv_of_nonneg (by omega)).symm
  unfold tm
  rw [e1, e1]
  have q0 := Int.mul_ediv_add_emod n P
  have b0 := Int.emod_nonneg n (show P ≠ 0 by omega)
  have b1 := Int.emod_lt_of_pos n hP
  generalize (if f = 0 then (1 : Int) else 0) = z
  by_cases hb : n % P = 0
  · have a1 : n - 1 = (P - 1) + P * (n / P - 1) := by rw [Int.mul_sub]; omega
    have d1 : (n - 1) / P = n / P - 1 := by
      rw [a1, Int.add_mul_ediv_left _ _ (by omega), Int.ediv_eq_zero_of_lt (by omega) (by omega)]; omega
    have d2 : (n - 1) % P = P - 1 := by
      rw [a1, Int.add_mul_emod_self_left, Int.emod_eq_of_lt (by omega) (by omega)]
    rw [d1, d2, hb]
    generalize n / P = q at *
    by_cases h0 : q % 10 = 0
    · have c1 : (q - 1) / 10 = q / 10 - 1 := by omega
      have c2 : (q - 1) % 10 = 9 := by omega
      rw [c1, c2, h0]
      have : (q / 10 - 1 - z) * P = (q / 10 - z) * P - P := by grind
      rw [this]
      by_cases k : f = 9
      · subst k; simp
      · rw [if_pos (show f < 9 by omega), if_neg (show ¬f < 0 by omega)]
        split <;> omega
    · have c1 : (q - 1) / 10 = q / 10 := by omega
      have c2 : (q - 1) % 10 = q % 10 - 1 := by omega
      rw [c1, c2]
      generalize (q / 10 - z) * P = A
      split <;> split <;> (try split) <;> (try split) <;> omega
  · have a1 : n - 1 = (n % P - 1) + P * (n / P) := by omega
    have d1 : (n - 1) / P = n / P := by
      rw [a1, Int.add_mul_ediv_left _ _ (by omega), Int.ediv_eq_zero_of_lt (by omega) (by omega)]; omega
    have d2 : (n - 1) % P = n % P - 1 := by
      rw [a1, Int.add_mul_emod_self_left, Int.emod_eq_of_lt (by omega) (by omega)]
    rw [d1, d2]
    generalize (n / P / 10 - z) * P = A
    split
    · rw [if_neg (by omega)]; omega
    · split <;> omega
def ts (f n : Int) : Nat → Int
  | 0 => 0
  | K + 1 => ts f n K + tm f n (p10 K)
theorem ts_step {f n : Int} (f0 : 0 ≤ f) (f9 : f ≤ 9) (hn : 1 ≤ n) : ∀ K : Nat, ts f n K = ts f (n - 1) K + cn f n K
  | 0 => rfl
  | K + 1 => by
    have a := ts_step f0 f9 hn K
    have b := tm_step f0 f9 (p10_pos K) hn
    unfold ts cn
    rw [a, b]; omega
/-- a place just above is nought -/
theorem tm_top {f : Int} (f0 : 0 ≤ f) {P : Int} (hP : 0 < P) : tm f (P - 1) P = 0 := by
  have e1 : (P - 1) / (P * 10) = 0 := Int.ediv_eq_zero_of_lt (by omega) (by omega)
  have e2 : (P - 1) / P = 0 := Int.ediv_eq_zero_of_lt (by omega) (by omega)
  have e3 : (P - 1) % P = P - 1 := Int.emod_eq_of_lt (by omega) (by omega)
  unfold tm
  rw [e1, e2, e3, show (0 : Int) % 10 = 0 by decide, if_neg (show ¬f < 0 by omega)]
  by_cases k : f = 0
  · subst k; simp; omega
  · rw [if_neg k, if_neg (show ¬0 = f by omega)]; simp
end Vs.k37

set_option Elab.async false
set_option linter.all false
set_option maxRecDepth 100000
set_option maxHeartbeats 400000
namespace Vs.k37
open PySem PySem.Spec PyProof.Rows L2
/-! ### the program's times -/
abbrev B200 : Int := 1606938044258990275541962092341162602522202993782792835301376
theorem p10_60 {i : Nat} (h : i ≤ 55) : p10 i ≤ 10000000000000000000000000000000000000000000000000000000 := by
  have := p10_mono h
  have e : p10 55 = 10000000000000000000000000000000000000000000000000000000 := by decide
  omega
theorem j_eq {f n P : Int} : j_times_of_1 f n (X, P) = n / (P * 10) - (if f = 0 then 1 else 0) := by
  unfold j_times_of_1 v_times_of_ahead_2 v_times_of_ahead
  by_cases k : f = 0
  · rw [if_pos (decide_eq_true k), if_pos k]
  · rw [if_neg (by simpa using k), if_neg k]
    show n / (P * 10) = _
    omega
theorem bt_eq (f n X P : Int) : b_times_of_1 f n (X, P) = (X + tm f n P, P * 10) := by
  show (j_times_of_3 f n (X, P), v_times_of_place (X, P)) = _
  have e : v_times_of_found f n (X, P) = X + (n / (P * 10) - (if f = 0 then 1 else 0)) * P := by
    unfold v_times_of_found
    rw [j_eq]
  unfold j_times_of_3 j_times_of_2 v_times_of_found_2 v_times_of_found_3 v_times_of_here tm
  rw [e]
  show (_, P * 10) = _
  congr 1
  show (if decide (f < n / P % 10) = true then _ + P else if decide (n / P % 10 = f) = true then _ + (n % P + 1) else _) = _
  by_cases a : f < n / P % 10
  · rw [if_pos (decide_eq_true a), if_pos a]; omega
  · rw [if_neg (by simpa using a), if_neg a]
    by_cases b : n / P % 10 = f
    · rw [if_pos (decide_eq_true b), if_pos b]; omega
    · rw [if_neg (by simpa using b), if_neg b]; omega
theorem ot_ok {f n : Int} (X : Int) {i : Nat} (hi : i ≤ 55) (h0 : 0 ≤ n) (h1 : n < p10 55) : o_times_of_1 f n (X, p10 i) := by
  have p := p10_pos i
  have q := p10_60 (i := i) (by omega)
  have r := p10_60 (i := 55) (by omega)
  intro hc
  have hc : p10 i ≤ n := of_decide_eq_true hc
  refine ⟨mulO (by show (p10 i).natAbs < _; omega) (by decide), divO (by show 0 < p10 i * 10; omega) (by show p10 i * 10 < _; omega), divO p (by show p10 i < _; omega), p, mulO ?_ (by show (p10 i).natAbs < _; omega), mulO (by show (p10 i).natAbs < _; omega) (by decide)⟩
  rw [j_eq]
  have a := Int.ediv_nonneg h0 (show 0 ≤ p10 i * 10 by omega)
  have b := Int.ediv_le_self (p10 i * 10) h0
  split <;> omega
theorem times_wh {f n : Int} {L : Nat} (h : n = 0 ∧ L = 0 ∨ Is n L) (hL : L ≤ 50) : ∀ (m fuel i : Nat) (X : Int), i + m = L → m < fuel → KWr (o_times_of_1 f n) (c_times_of_1 f n) (b_times_of_1 f n) fuel (X, p10 i) ∧
    ∃ P, wh (c_times_of_1 f n) (b_times_of_1 f n) fuel (X, p10 i) = (X + (ts f n L - ts f n i), P)
  | m, 0, i, X, e, hf => by omega
  | 0, fuel + 1, i, X, e, hf => by
    have ei : i = L := by omega
    subst ei
    have c : c_times_of_1 f n (X, p10 i) = false := by
      refine decide_eq_false ?_
      show ¬p10 i ≤ n
      rcases h with ⟨a, b⟩ | h
      · subst b; rw [a, p10_0]; omega
      · have := h.hi; omega
    have n0 : 0 ≤ n := by
      rcases h with ⟨a, _⟩ | h
      · omega
      · have := h.pos; omega
    have n1 : n < p10 55 := by
      rcases h with ⟨a, _⟩ | h
      · rw [a]; exact p10_pos 55
      · have := h.hi; have := p10_mono (show i ≤ 55 by omega); omega
    unfold KWr wh
    rw [c]
    exact ⟨⟨ot_ok X (by omega) n0 n1, fun z => (by cases z)⟩, p10 i, by rw [if_neg (by decide)]; congr 1; omega⟩
  | m + 1, fuel + 1, i, X, e, hf => by
    have hI : Is n L := by
      rcases h with ⟨_, b⟩ | h
      · omega
      · exact h
    have lo := hI.lo
    have := p10_mono (show i ≤ L - 1 by omega)
    have c : c_times_of_1 f n (X, p10 i) = true := decide_eq_true (show p10 i ≤ n by omega)
    have n1 : n < p10 55 := by have := hI.hi; have := p10_mono (show L ≤ 55 by omega); omega
    obtain ⟨k1, P, k2⟩ := times_wh h hL m fuel (i + 1) (X + tm f n (p10 i)) (by omega) (by omega)
    unfold KWr wh
    rw [c, bt_eq, if_pos rfl, ← p10_s]
    refine ⟨⟨ot_ok X (by omega) (by have := hI.pos; omega) n1, fun _ => k1⟩, P, ?_⟩
    rw [k2]
    congr 1
    show X + tm f n (p10 i) + (ts f n L - (ts f n i + tm f n (p10 i))) = _
    omega
theorem times_ok {f n : Int} (f0 : 0 ≤ f) (f9 : f ≤ 9) {L : Nat} (h : n = 0 ∧ L = 0 ∨ Is n L) (hL : L ≤ 50) : k_times_of f n ∧ t_times_of f n = ts f n L := by
  obtain ⟨a, P, b⟩ := times_wh (f := f) h hL L 100 0 0 (by omega) (by omega)
  refine ⟨⟨?_, ⟨a⟩⟩, ?_⟩
  · rw [decide_eq_true (show 0 ≤ f ∧ f ≤ 10 - 1 by omega)]; rfl
  · show (wh (c_times_of_1 f n) (b_times_of_1 f n) 100 (0, p10 0)).1 = _
    rw [b]
    show 0 + (ts f n L - 0) = _
    omega
/-! ### how many figures -/
def cf (n : Int) : Nat → Int
  | 0 => 0
  | K + 1 => cf n K + (min n (p10 (K + 1) - 1) - p10 K + 1) * ((K : Int) + 1)
theorem oc_ok {n : Int} (X : Int) {i : Nat} (hi : i ≤ 55) (h0 : 0 ≤ n) (h1 : n < p10 55) : o_count_figures_1 n (X, p10 i, (i : Int) + 1) := by
  have p := p10_pos i
  have q := p10_60 (i := i) (by omega)
  have r := p10_60 (i := 55) (by omega)
  intro hc
  refine ⟨mulO (by show (p10 i).natAbs < _; omega) (by decide), mulO (by show (min n (p10 i * 10 - 1) - p10 i + 1).natAbs < _; omega) (by show ((i : Int) + 1).natAbs < _; omega), mulO (by show (p10 i).natAbs < _; omega) (by decide)⟩
theorem count_wh {n : Int} {L : Nat} (h : n = 0 ∧ L = 0 ∨ Is n L) (hL : L ≤ 50) : ∀ (m fuel i : Nat) (X : Int), i + m = L → m < fuel → KWr (o_count_figures_1 n) (c_count_figures_1 n) (b_count_figures_1 n) fuel (X, p10 i, (i : Int) + 1) ∧
    ∃ P, wh (c_count_figures_1 n) (b_count_figures_1 n) fuel (X, p10 i, (i : Int) + 1) = (X + (cf n L - cf n i), P)
  | m, 0, i, X, e, hf => by omega
  | 0, fuel + 1, i, X, e, hf => by
    have ei : i = L := by omega
    subst ei
    have c : c_count_figures_1 n (X, p10 i, (i : Int) + 1) = false := by
      refine decide_eq_false ?_
      show ¬p10 i ≤ n
      rcases h with ⟨a, b⟩ | h
      · subst b; rw [a, p10_0]; omega
      · have := h.hi; omega
    have n0 : 0 ≤ n := by
      rcases h with ⟨a, _⟩ | h
      · omega
      · have := h.pos; omega
    have n1 : n < p10 55 := by
      rcases h with ⟨a, _⟩ | h
      · rw [a]; exact p10_pos 55
      · have := h.hi; have := p10_mono (show i ≤ 55 by omega); omega
    unfold KWr wh
    rw [c]
    exact ⟨⟨oc_ok X (by omega) n0 n1, fun z => (by cases z)⟩, _, by rw [if_neg (by decide)]; congr 1; omega⟩
  | m + 1, fuel + 1, i, X, e, hf => by
    have hI : Is n L := by
      rcases h with ⟨_, b⟩ | h
      · omega
      · exact h
    have lo := hI.lo
    have := p10_mono (show i ≤ L - 1 by omega)
    have c : c_count_figures_1 n (X, p10 i, (i : Int) + 1) = true := decide_eq_true (show p10 i ≤ n by omega)
    have n1 : n < p10 55 := by have := hI.hi; have := p10_mono (show L ≤ 55 by omega); omega
    have bb : b_count_figures_1 n (X, p10 i, (i : Int) + 1) = (X + (min n (p10 (i + 1) - 1) - p10 i + 1) * ((i : Int) + 1), p10 (i + 1), ((i + 1 : Nat) : Int) + 1) := by
      rw [p10_s]; rfl
    obtain ⟨k1, P, k2⟩ := count_wh h hL m fuel (i + 1) (X + (min n (p10 (i + 1) - 1) - p10 i + 1) * ((i : Int) + 1)) (by omega) (by omega)
    unfold KWr wh
    rw [c, bb, if_pos rfl]
    refine ⟨⟨oc_ok X (by omega) (by have := hI.pos; omega) n1, fun _ => k1⟩, P, ?_⟩
    rw [k2]
    congr 1
    show X + (min n (p10 (i + 1) - 1) - p10 i + 1) * ((i : Int) + 1) + (cf n L - (cf n i + (min n (p10 (i + 1) - 1) - p10 i + 1) * ((i : Int) + 1))) = _
    omega
theorem figures_ok {n : Int} {L : Nat} (h : n = 0 ∧ L = 0 ∨ Is n L) (hL : L ≤ 50) : k_count_figures n ∧ t_count_figures n = cf n L := by
  obtain ⟨a, P, b⟩ := count_wh h hL L 100 0 0 (by omega) (by omega)
  refine ⟨⟨a⟩, ?_⟩
  show (wh (c_count_figures_1 n) (b_count_figures_1 n) 100 (0, p10 0, ((0 : Nat) : Int) + 1)).1 = _
  rw [b]
  show 0 + (cf n L - 0) = _
  omega
/-! ### one post more -/
theorem prev {n : Int} {L : Nat} (h : Is n L) : (n - 1 = 0 ∧ L = 1) ∨ Is (n - 1) L ∨ (2 ≤ L ∧ n = p10 (L - 1) ∧ Is (n - 1) (L - 1)) := by
  have a := h.lo; have b := h.hi; have c := h.h1
  by_cases q : n = p10 (L - 1)
  · by_cases q2 : L = 1
    · left; subst q2; rw [q]; exact ⟨by decide, rfl⟩
    · right; right
      refine ⟨by omega, q, by omega, ?_, by omega⟩
      have e : p10 (L - 1) = p10 (L - 1 - 1) * 10 := by rw [← p10_s]; congr 1; omega
      have := p10_pos (L - 1 - 1)
      omega
  · exact .inr (.inl ⟨c, by omega, by omega⟩)
theorem cf_full : ∀ (K : Nat) (n m : Int), p10 K - 1 ≤ n → p10 K - 1 ≤ m → cf n K = cf m K
  | 0, n, m, _, _ => rfl
  | K + 1, n, m, hn, hm => by
    have p := p10_pos K
    have e := p10_s K
    unfold cf
    rw [cf_full K n m (by omega) (by omega), show min n (p10 (K + 1) - 1) = p10 (K + 1) - 1 by omega, show min m (p10 (K + 1) - 1) = p10 (K + 1) - 1 by omega]
/-- the figures of the posts up to n -/
theorem cf_is {n : Int} {L : Nat} (h : Is n (L + 1)) : cf n (L + 1) = cf (p10 L) L + (n - p10 L + 1) * ((L : Int) + 1) := by
  have a := h.lo; have b := h.hi
  rw [show L + 1 - 1 = L by omega] at a
  show cf n L + _ = _
  rw [cf_full L n (p10 L) (by omega) (by omega), show min n (p10 (L + 1) - 1) = n by omega]
theorem step_C {n : Int} {L : Nat} (h : Is n L) (hL : L ≤ 50) : t_count_figures n = t_count_figures (n - 1) + L ∧ k_count_figures (n - 1) ∧ k_count_figures n := by
  obtain ⟨k0, e0⟩ := figures_ok (.inr h) hL
  cases L with
  | zero => have := h.h1; omega
  | succ L =>
    rcases prev h with ⟨a, b⟩ | a | ⟨a, b, c⟩
    · obtain ⟨k1, e1⟩ := figures_ok (n := n - 1) (L := 0) (.inl ⟨a, rfl⟩) (by omega)
      rw [e0, e1, cf_is h]
      have : L = 0 := by omega
      subst this
      refine ⟨?_, k1, k0⟩
      show 0 + (n - 1 + 1) * (0 + 1) = 0 + 1
      omega
    · obtain ⟨k1, e1⟩ := figures_ok (.inr a) hL
      rw [e0, e1, cf_is h, cf_is a]
      refine ⟨?_, k1, k0⟩
      have : (n - p10 L + 1) * ((L : Int) + 1) = (n - 1 - p10 L + 1) * ((L : Int) + 1) + ((L : Int) + 1) := by grind
      omega
    · rw [show L + 1 - 1 = L by omega] at b c
      obtain ⟨k1, e1⟩ := figures_ok (.inr c) (by omega)
      refine ⟨?_, k1, k0⟩
      rw [e0, e1, cf_is h, b, cf_full L (p10 L - 1) (p10 L) (by omega) (by omega)]
      rw [show p10 L - p10 L + 1 = 1 by omega]
      omega
theorem step_T {f n : Int} (f0 : 0 ≤ f) (f9 : f ≤ 9) {L : Nat} (h : Is n L) (hL : L ≤ 50) : t_times_of f n = t_times_of f (n - 1) + cn f n L ∧ k_times_of f (n - 1) ∧ k_times_of f n := by
  obtain ⟨k0, e0⟩ := times_ok f0 f9 (.inr h) hL
  rcases prev h with ⟨a, b⟩ | a | ⟨a, b, c⟩
  · obtain ⟨k1, e1⟩ := times_ok f0 f9 (n := n - 1) (L := 0) (.inl ⟨a, rfl⟩) (by omega)
    refine ⟨?_, k1, k0⟩
    rw [e0, ts_step f0 f9 h.pos, e1, b, a]
    have := tm_top f0 (P := 1) (by decide)
    show 0 + tm f 0 (p10 0) + _ = 0 + _
    rw [show tm f 0 (p10 0) = 0 from this]
    omega
  · obtain ⟨k1, e1⟩ := times_ok f0 f9 (.inr a) hL
    exact ⟨by rw [e0, ts_step f0 f9 h.pos, e1], k1, k0⟩
  · obtain ⟨k1, e1⟩ := times_ok f0 f9 (.inr c) (by omega)
    refine ⟨?_, k1, k0⟩
    rw [e0, ts_step f0 f9 h.pos, e1]
    cases L with
    | zero => omega
    | succ L =>
      rw [show L + 1 - 1 = L by omega] at b ⊢
      show ts f (n - 1) L + tm f (n - 1) (p10 L) + _ = _
      rw [b, tm_top f0 (p10_pos L)]
      omega
end Vs.k37

set_option Elab.async false
set_option linter.all false
set_option maxRecDepth 100000
set_option maxHeartbeats 400000
namespace Vs.k37
open PySem PySem.Spec PyProof.Rows L2
/-! ### places -/
def SS : Nat → Int
  | 0 => 0
  | i + 1 => SS i + (10 - 1) * p10 i * ((i : Int) + 1)
theorem cf_SS : ∀ (K : Nat) (n : Int), p10 K - 1 ≤ n → cf n K = SS K
  | 0, n, _ => rfl
  | K + 1, n, h => by
    have p := p10_pos K
    have e := p10_s K
    unfold cf SS
    rw [cf_SS K n (by omega), show min n (p10 (K + 1) - 1) = p10 (K + 1) - 1 by omega, e]
    congr 2
    omega
theorem SS_mono {i j : Nat} (h : i ≤ j) : SS i ≤ SS j := by
  induction j with
  | zero => rw [show i = 0 by omega]; exact Int.le_refl _
  | succ j ih =>
    by_cases q : i = j + 1
    · rw [q]; exact Int.le_refl _
    · have a := ih (by omega)
      have b := p10_pos j
      have c := Int.mul_nonneg (show 0 ≤ (10 - 1) * p10 j by omega) (show 0 ≤ (j : Int) + 1 by omega)
      have es : SS (j + 1) = SS j + (10 - 1) * p10 j * ((j : Int) + 1) := rfl
      rw [es]; omega
theorem of_ok {i : Nat} (hi : i ≤ 50) (X : Int) : o_figure_at_1 (p10 i, (i : Int) + 1, X) := by
  have p := p10_pos i
  have q := p10_60 (i := i) (by omega)
  have a : mulOk ((10 : Int) - 1) (p10 i) = true := mulO (by decide) (by omega)
  have b : mulOk (((10 : Int) - 1) * p10 i) ((i : Int) + 1) = true := mulO (by omega) (by omega)
  exact ⟨a, b, fun _ => ⟨a, b, mulO (by show (p10 i).natAbs < _; omega) (by decide)⟩⟩
theorem at_wh {place : Int} {L : Nat} (hL : L ≤ 45) (h1 : SS L ≤ place) (h2 : place < SS (L + 1)) : ∀ (m fuel i : Nat), i + m = L → m < fuel → KWr o_figure_at_1 c_figure_at_1 b_figure_at_1 fuel (p10 i, (i : Int) + 1, place - SS i) ∧
    wh c_figure_at_1 b_figure_at_1 fuel (p10 i, (i : Int) + 1, place - SS i) = (p10 L, (L : Int) + 1, place - SS L)
  | m, 0, i, e, hf => by omega
  | 0, fuel + 1, i, e, hf => by
    have ei : i = L := by omega
    subst ei
    have c : c_figure_at_1 (p10 i, (i : Int) + 1, place - SS i) = false := by
      refine decide_eq_false ?_
      show ¬(10 - 1) * p10 i * ((i : Int) + 1) ≤ place - SS i
      unfold SS at h2
      omega
    unfold KWr wh
    rw [c]
    exact ⟨⟨of_ok (by omega) _, fun z => (by cases z)⟩, by rw [if_neg (by decide)]⟩
  | m + 1, fuel + 1, i, e, hf => by
    have mono := SS_mono (show i + 1 ≤ L by omega)
    have es : SS (i + 1) = SS i + (10 - 1) * p10 i * ((i : Int) + 1) := rfl
    have c : c_figure_at_1 (p10 i, (i : Int) + 1, place - SS i) = true := by
      refine decide_eq_true ?_
      show (10 - 1) * p10 i * ((i : Int) + 1) ≤ place - SS i
      omega
    have bb : b_figure_at_1 (p10 i, (i : Int) + 1, place - SS i) = (p10 (i + 1), ((i + 1 : Nat) : Int) + 1, place - SS (i + 1)) := by
      have : place - SS (i + 1) = place - SS i - (10 - 1) * p10 i * ((i : Int) + 1) := by omega
      rw [p10_s, this]; rfl
    obtain ⟨k1, k2⟩ := at_wh hL h1 h2 m fuel (i + 1) (by omega) (by omega)
    unfold KWr wh
    rw [c, bb, if_pos rfl]
    exact ⟨⟨of_ok (by omega) _, fun _ => k1⟩, k2⟩
theorem ten_fold (m : Nat) (hm : m ≤ 50) : KFr o_figure_at_2 b_figure_at_2 (rgI 0 m) 1 ∧ (rgI 0 m).foldl b_figure_at_2 1 = p10 m := by
  have K := KF_pre (ok := o_figure_at_2) (f := b_figure_at_2) (fun pre (s : Int) => s = p10 pre.length) (rgI 0 m) (xs := rgI 0 m) (pre := []) (s := 1) rfl (fun pre x s ⟨post, e⟩ hs => ?_) rfl
  · refine ⟨K.1.q, K.2.trans ?_⟩
    rw [len_rgI]; congr 1
  · have l1 : pre.length < (rgI 0 (m : Int)).length := by rw [← e]; simp
    rw [len_rgI] at l1
    have p := p10_pos pre.length
    have q := p10_60 (i := pre.length) (by omega)
    subst hs
    refine ⟨mulO (by omega) (by decide), ?_⟩
    rw [List.length_append, List.length_singleton, p10_s]; rfl
theorem at_ok {n : Int} {L : Nat} (h : Is n (L + 1)) (hL : L ≤ 45) {k : Nat} (hk : k < L + 1) : k_figure_at (t_count_figures (n - 1) + k) ∧ t_figure_at (t_count_figures (n - 1) + k) = (ix (dgs n (L + 1)) k, n) := by
  have lo := h.lo
  have hi := h.hi
  rw [show L + 1 - 1 = L by omega] at lo
  have e10 := p10_s L
  have p := p10_pos L
  have q := p10_60 (i := L) (by omega)
  have C : t_count_figures (n - 1) = SS L + (n - p10 L) * ((L : Int) + 1) := by
    have s := (step_C h (by omega)).1
    rw [(figures_ok (.inr h) (by omega)).2, cf_is h, cf_SS L (p10 L) (by omega)] at s
    have : (n - p10 L + 1) * ((L : Int) + 1) = (n - p10 L) * ((L : Int) + 1) + ((L : Int) + 1) := by grind
    omega
  generalize hP : t_count_figures (n - 1) + (k : Int) = place
  have eP : place - SS L = (k : Int) + ((L : Int) + 1) * (n - p10 L) := by rw [← hP, C, Int.mul_comm ((L : Int) + 1)]; omega
  have m0 := Int.mul_nonneg (show 0 ≤ (L : Int) + 1 by omega) (show 0 ≤ n - p10 L by omega)
  have m1 := Int.mul_le_mul_of_nonneg_left (show n - p10 L ≤ (10 - 1) * p10 L - 1 by omega) (show 0 ≤ (L : Int) + 1 by omega)
  have b1 : SS L ≤ place := by omega
  have b2 : place < SS (L + 1) := by
    have : ((L : Int) + 1) * ((10 - 1) * p10 L - 1) = (10 - 1) * p10 L * ((L : Int) + 1) - ((L : Int) + 1) := by grind
    unfold SS; omega
  obtain ⟨k1, k2⟩ := at_wh hL b1 b2 L 100 0 (by omega) (by omega)
  have w : s_figure_at_1 place = (p10 L, (L : Int) + 1, place - SS L) := by
    have : place - SS 0 = place := by show place - 0 = _; omega
    rw [this] at k2
    exact k2
  have kw : KW o_figure_at_1 c_figure_at_1 b_figure_at_1 100 ((1 : Int), (1 : Int), place) := by
    have : place - SS 0 = place := by show place - 0 = _; omega
    rw [this] at k1
    exact ⟨k1⟩
  have d1 : (place - SS L) / ((L : Int) + 1) = n - p10 L := by
    rw [eP, Int.add_mul_ediv_left _ _ (by omega), Int.ediv_eq_zero_of_lt (by omega) (by omega)]; omega
  have d2 : (place - SS L) % ((L : Int) + 1) = k := by
    rw [eP, Int.add_mul_emod_self_left, Int.emod_eq_of_lt (by omega) (by omega)]
  have vp : v_figure_at_post place = n := by
    unfold v_figure_at_post
    rw [w]
    show p10 L + (place - SS L) / ((L : Int) + 1) = n
    rw [d1]; omega
  have va : v_figure_at_at place = k := by
    unfold v_figure_at_at
    rw [w]; exact d2
  have m : (s_figure_at_1 place).2.1 - 1 - v_figure_at_at place = ((L - k : Nat) : Int) := by
    rw [w, va]
    show (L : Int) + 1 - 1 - k = _
    omega
  obtain ⟨t1, t2⟩ := ten_fold (L - k) (by omega)
  have s2 : s_figure_at_2 place = p10 (L - k) := by
    unfold s_figure_at_2
    rw [m]; exact t2
  have pk := p10_pos (L - k)
  have qk := p10_60 (i := L - k) (by omega)
  refine ⟨⟨kw, ?_, ?_, by rw [m]; omega, by rw [m]; omega, by rw [m]; exact ⟨t1⟩, ?_⟩, ?_⟩
  · rw [w]; exact divO (by show 0 < (L : Int) + 1; omega) (by show (L : Int) + 1 < _; omega)
  · rw [w]; show 0 < (L : Int) + 1; omega
  · rw [vp, s2]; exact divO pk (by omega)
  · unfold t_figure_at
    rw [vp, s2, dgs_ix (L + 1) n (by omega) k hk]
    congr 3
end Vs.k37

set_option Elab.async false
set_option linter.all false
set_option maxRecDepth 100000
set_option maxHeartbeats 400000
namespace Vs.k37
open PySem PySem.Spec PyProof.Rows L2
/-! ### all posts up to m -/
def FG (m : Int) : List Int := t__law_figures m
def PT : Nat → List (Int × Int)
  | 0 => []
  | m + 1 => PT m ++ (FG ((m : Int) + 1)).map fun x => (x, (m : Int) + 1)
theorem C_0 : t_count_figures 0 = 0 ∧ k_count_figures 0 := by
  obtain ⟨a, b⟩ := figures_ok (n := 0) (L := 0) (.inl ⟨rfl, rfl⟩) (by omega)
  exact ⟨b, a⟩
theorem T_0 {f : Int} (f0 : 0 ≤ f) (f9 : f ≤ 9) : t_times_of f 0 = 0 ∧ k_times_of f 0 := by
  obtain ⟨a, b⟩ := times_ok f0 f9 (n := 0) (L := 0) (.inl ⟨rfl, rfl⟩) (by omega)
  exact ⟨b, a⟩
theorem is_nat {m : Nat} (h : (m : Int) + 1 < p10 45) : ∃ L, L ≤ 44 ∧ Is ((m : Int) + 1) (L + 1) := by
  obtain ⟨L, l1, l2⟩ := is_ex 45 ((m : Int) + 1) (by omega) h
  have := l2.h1
  exact ⟨L - 1, by omega, by rw [show L - 1 + 1 = L by omega]; exact l2⟩
theorem FG_eq {n : Int} {L : Nat} (h : Is n (L + 1)) (hL : L ≤ 44) : FG n = dgs n (L + 1) ∧ k__law_figures n ∧ (FG n).length = L + 1 := by
  obtain ⟨a, b⟩ := figs_ok h (by omega)
  refine ⟨b, a, ?_⟩
  show (t__law_figures n).length = _
  rw [b, dgs_len]
theorem small {m : Nat} (h : m ≤ 5000) : (m : Int) + 1 < p10 45 := by
  have := p10_mono (show 4 ≤ 45 by omega)
  have e : p10 4 = 10000 := by decide
  omega
theorem PT_ok : ∀ m : Nat, m ≤ 3000 → ((PT m).length : Int) = t_count_figures m ∧ (∀ x : Int, 0 ≤ x → x < (PT m).length → k_figure_at x ∧ t_figure_at x = ix (PT m) x) ∧
    (∀ f : Int, 0 ≤ f → f ≤ 9 → ((((PT m).filter fun x : Int × Int => decide (x.1 = f)).map fun x : Int × Int => (1 : Int)).length : Int) = t_times_of f m) ∧ (PT m).length ≤ 50 * m
  | 0, _ => ⟨C_0.1.symm, fun x h0 h1 => by (have h1 : x < 0 := h1); omega, fun f f0 f9 => (T_0 f0 f9).1.symm, Nat.le_refl _⟩
  | m + 1, hm => by
    obtain ⟨a, b, c, d⟩ := PT_ok m (by omega)
    obtain ⟨L, l1, l2⟩ := is_nat (small (m := m) (by omega))
    obtain ⟨g1, g2, g3⟩ := FG_eq l2 l1
    have sC := (step_C l2 (by omega)).1
    rw [show (m : Int) + 1 - 1 = m by omega] at sC
    have ln : (PT (m + 1)).length = (PT m).length + (L + 1) := by
      show (PT m ++ _).length = _
      rw [List.length_append, List.length_map, g3]
    refine ⟨by rw [ln, show ((m + 1 : Nat) : Int) = (m : Int) + 1 by omega, sC]; omega, fun x x0 x1 => ?_, fun f f0 f9 => ?_, by omega⟩
    · show k_figure_at x ∧ t_figure_at x = ix (PT m ++ _) x
      rw [ix_app x0]
      by_cases q : x < ((PT m).length : Int)
      · rw [if_pos q]; exact b x x0 q
      · rw [if_neg q]
        rw [ln] at x1
        obtain ⟨y1, y2⟩ := at_ok l2 (by omega) (k := (x - (PT m).length).toNat) (by omega)
        rw [show (m : Int) + 1 - 1 = m by omega, ← a, show ((PT m).length : Int) + ((x - (PT m).length).toNat : Nat) = x by omega] at y1 y2
        refine ⟨y1, ?_⟩
        rw [y2, ix_map _ (by rw [g3]; omega), g1]
        congr 2
        omega
    · show ((((PT m ++ _).filter fun x : Int × Int => decide (x.1 = f)).map fun x : Int × Int => (1 : Int)).length : Int) = _
      have sT := (step_T f0 f9 l2 (by omega)).1
      rw [show (m : Int) + 1 - 1 = m by omega] at sT
      rw [show ((m + 1 : Nat) : Int) = (m : Int) + 1 by omega, sT, ← c f f0 f9, List.filter_append, List.map_append, List.length_append, ← count_dgs f (L + 1) _ (by omega), ← g1]
      rw [Int.natCast_add]
      congr 1
      congr 1
      rw [List.length_map]
      generalize FG ((m : Int) + 1) = l
      induction l with
      | nil => rfl
      | cons x l ih =>
        rw [List.map_cons]
        by_cases k : x = f
        · rw [List.filter_cons_of_pos (by simpa using k), List.length_cons, ih, k, List.count_cons_self]
        · rw [List.filter_cons_of_neg (by simpa using k), ih, List.count_cons_of_ne k]
theorem rows_ok : ∀ m : Nat, m ≤ 3000 → (((rgI 1 ((m : Int) + 1)).map FG).map fun l : List Int => ((l.length : Nat) : Int)).sum = t_count_figures m ∧
    (∀ f : Int, 0 ≤ f → f ≤ 9 → (((rgI 1 ((m : Int) + 1)).map FG).map fun l : List Int => ((List.count f l : Nat) : Int)).sum = t_times_of f m) ∧ ∀ x ∈ rgI 1 ((m : Int) + 1), k__law_figures x
  | 0, _ => ⟨C_0.1.symm, fun f f0 f9 => (T_0 f0 f9).1.symm, fun x hx => by have := mem_rgI.mp hx; omega⟩
  | m + 1, hm => by
    obtain ⟨a, c, d⟩ := rows_ok m (by omega)
    obtain ⟨L, l1, l2⟩ := is_nat (small (m := m) (by omega))
    obtain ⟨g1, g2, g3⟩ := FG_eq l2 l1
    have sC := (step_C l2 (by omega)).1
    have e : rgI 1 (((m + 1 : Nat) : Int) + 1) = rgI 1 ((m : Int) + 1) ++ [(m : Int) + 1] := by
      rw [show ((m + 1 : Nat) : Int) + 1 = ((m : Int) + 1) + 1 by omega]; exact rgI_succ (by omega)
    rw [show (m : Int) + 1 - 1 = m by omega] at sC
    rw [e, List.map_append]
    refine ⟨?_, fun f f0 f9 => ?_, fun x hx => ?_⟩
    · rw [List.map_append, List.sum_append, a, show ((m + 1 : Nat) : Int) = (m : Int) + 1 by omega, sC]
      show _ + (((FG ((m : Int) + 1)).length : Int) + 0) = _
      rw [g3]; omega
    · have sT := (step_T f0 f9 l2 (by omega)).1
      rw [show (m : Int) + 1 - 1 = m by omega] at sT
      rw [List.map_append, List.sum_append, c f f0 f9, show ((m + 1 : Nat) : Int) = (m : Int) + 1 by omega, sT, ← count_dgs f (L + 1) _ (by omega), ← g1]
      show _ + (((List.count f (FG ((m : Int) + 1)) : Nat) : Int) + 0) = _
      omega
    · rcases List.mem_append.mp hx with q | q
      · exact d x q
      · rw [List.mem_singleton.mp q]; exact g2
/-- all figures together -/
theorem cn_sum (n : Int) : ∀ K : Nat, ((rgI 0 10).map fun f => cn f n K).sum = K
  | 0 => rfl
  | K + 1 => by
    have e : rgI 0 10 = [0, 1, 2, 3, 4, 5, 6, 7, 8, 9] := rfl
    have ih := cn_sum n K
    rw [e] at ih ⊢
    simp only [List.map_cons, List.map_nil, List.sum_cons, List.sum_nil] at ih ⊢
    unfold cn
    have h0 := Int.emod_nonneg (n / p10 K) (show (10 : Int) ≠ 0 by decide)
    have h1 := Int.emod_lt_of_pos (n / p10 K) (show (0 : Int) < 10 by decide)
    generalize n / p10 K % 10 = r at h0 h1 ⊢
    have : r = 0 ∨ r = 1 ∨ r = 2 ∨ r = 3 ∨ r = 4 ∨ r = 5 ∨ r = 6 ∨ r = 7 ∨ r = 8 ∨ r = 9 := by omega
    rcases this with rfl | rfl | rfl | rfl | rfl | rfl | rfl | rfl | rfl | rfl <;> simp <;> omega
theorem T_sum (m : Nat) : (m : Int) < p10 45 → ((rgI 0 10).map fun f => t_times_of f m).sum = t_count_figures m := by
  induction m with
  | zero =>
    intro _
    have e : rgI 0 10 = [0, 1, 2, 3, 4, 5, 6, 7, 8, 9] := rfl
    rw [e, show ((0 : Nat) : Int) = 0 from rfl]
    simp only [List.map_cons, List.map_nil, List.sum_cons, List.sum_nil]
    rw [C_0.1, (T_0 (f := 0) (by decide) (by decide)).1, (T_0 (f := 1) (by decide) (by decide)).1, (T_0 (f := 2) (by decide) (by decide)).1, (T_0 (f := 3) (by decide) (by decide)).1, (T_0 (f := 4) (by decide) (by decide)).1, (T_0 (f := 5) (by decide) (by decide)).1, (T_0 (f := 6) (by decide) (by decide)).1, (T_0 (f := 7) (by decide) (by decide)).1, (T_0 (f := 8) (by decide) (by decide)).1, (T_0 (f := 9) (by decide) (by decide)).1]
    decide
  | succ m ih =>
    intro hm
    obtain ⟨L, l1, l2⟩ := is_nat (m := m) (by omega)
    have ih := ih (by omega)
    have sC := (step_C l2 (by omega)).1
    have cs := cn_sum ((m : Int) + 1) (L + 1)
    rw [show (m : Int) + 1 - 1 = m by omega] at sC
    rw [show ((m + 1 : Nat) : Int) = (m : Int) + 1 by omega, sC, ← ih]
    have e : rgI 0 10 = [0, 1, 2, 3, 4, 5, 6, 7, 8, 9] := rfl
    rw [e] at cs ⊢
    simp only [List.map_cons, List.map_nil, List.sum_cons, List.sum_nil] at cs ⊢
    have sT := fun (f : Int) (f0 : 0 ≤ f) (f9 : f ≤ 9) => (step_T f0 f9 l2 (by omega)).1
    rw [show (m : Int) + 1 - 1 = m by omega] at sT
    rw [sT 0 (by decide) (by decide), sT 1 (by decide) (by decide), sT 2 (by decide) (by decide), sT 3 (by decide) (by decide), sT 4 (by decide) (by decide), sT 5 (by decide) (by decide), sT 6 (by decide) (by decide), sT 7 (by decide) (by decide), sT 8 (by decide) (by decide), sT 9 (by decide) (by decide)]
    omega
/-! ### all nines -/
def NO : Nat → Int
  | 0 => 0
  | i + 1 => NO i + p10 i
theorem p10_add (i j : Nat) : p10 (i + j) = p10 i * p10 j := by unfold p10; rw [Int.pow_add]
theorem nine_tm {f : Int} (f0 : 0 ≤ f) (f9 : f ≤ 9) {k i : Nat} (h : i < k) : tm f (p10 k - 1) (p10 i) = p10 (k - 1) - (if f = 0 then 1 else 0) * p10 i := by
  have P := p10_pos i
  have Q := p10_pos (k - 1 - i)
  have e1 : p10 k = p10 (k - 1 - i) * (p10 i * 10) := by rw [← p10_s, ← p10_add]; congr 1; omega
  have e2 : p10 (k - 1) = p10 (k - 1 - i) * p10 i := by rw [← p10_add]; congr 1; omega
  unfold tm
  rw [e1, e2]
  generalize p10 (k - 1 - i) = q at *
  generalize p10 i = p at *
  generalize (if f = 0 then (1 : Int) else 0) = z
  have d1 : (q * (p * 10) - 1) / (p * 10) = q - 1 := by
    rw [show q * (p * 10) - 1 = (p * 10 - 1) + (p * 10) * (q - 1) by grind, Int.add_mul_ediv_left _ _ (by omega), Int.ediv_eq_zero_of_lt (by omega) (by omega)]; omega
  have a2 : q * (p * 10) - 1 = (p - 1) + p * (10 * q - 1) := by grind
  have d2 : (q * (p * 10) - 1) / p = 10 * q - 1 := by
    rw [a2, Int.add_mul_ediv_left _ _ (by omega), Int.ediv_eq_zero_of_lt (by omega) (by omega)]; omega
  have d3 : (q * (p * 10) - 1) % p = p - 1 := by
    rw [a2, Int.add_mul_emod_self_left, Int.emod_eq_of_lt (by omega) (by omega)]
  rw [d1, d2, d3, show (10 * q - 1) % 10 = 9 by omega]
  have : (q - 1 - z) * p = q * p - z * p - p := by grind
  rw [this]
  split
  · omega
  · rw [if_pos (by omega)]; omega
theorem nine_ts {f : Int} (f0 : 0 ≤ f) (f9 : f ≤ 9) {k : Nat} : ∀ K : Nat, K ≤ k → ts f (p10 k - 1) K = (K : Int) * p10 (k - 1) - (if f = 0 then 1 else 0) * NO K
  | 0, _ => by show (0 : Int) = ((0 : Nat) : Int) * _ - _ * 0; simp
  | K + 1, h => by
    have ih := nine_ts f0 f9 (k := k) K (by omega)
    have t := nine_tm f0 f9 (k := k) (i := K) (by omega)
    show ts f (p10 k - 1) K + tm f (p10 k - 1) (p10 K) = ((K + 1 : Nat) : Int) * p10 (k - 1) - (if f = 0 then 1 else 0) * (NO K + p10 K)
    rw [ih, t, show ((K + 1 : Nat) : Int) = (K : Int) + 1 by omega]
    generalize (if f = 0 then (1 : Int) else 0) = z
    grind
theorem nine_is {k : Nat} (h : 1 ≤ k) : Is (p10 k - 1) k := by
  have e : p10 k = p10 (k - 1) * 10 := by rw [← p10_s]; congr 1; omega
  have := p10_pos (k - 1)
  exact ⟨h, by omega, by omega⟩
theorem nine_ok {k : Nat} (h : 1 ≤ k) (h2 : k ≤ 45) : (k_count_figures (p10 k - 1) ∧ t_count_figures (p10 k - 1) = SS k) ∧ ∀ f : Int, 0 ≤ f → f ≤ 9 → k_times_of f (p10 k - 1) ∧ t_times_of f (p10 k - 1) = (k : Int) * p10 (k - 1) - (if f = 0 then 1 else 0) * NO k := by
  obtain ⟨a, b⟩ := figures_ok (.inr (nine_is h)) (by omega)
  refine ⟨⟨a, by rw [b, cf_SS k _ (Int.le_refl _)]⟩, fun f f0 f9 => ?_⟩
  obtain ⟨c, d⟩ := times_ok f0 f9 (.inr (nine_is h)) (by omega)
  exact ⟨c, by rw [d, nine_ts f0 f9 k (Nat.le_refl _)]⟩
end Vs.k37

set_option Elab.async false
set_option linter.all false
set_option maxRecDepth 100000
set_option maxHeartbeats 400000
namespace Vs.k37
open PySem PySem.Spec PyProof.Rows L2
theorem isnum (x a b : Int) (st : Sts) : resP st (C_is_number [.im (.int x), .im (.int a), .im (.int b)]) = .ok (.bool (decide (a ≤ x ∧ x ≤ b))) st := num_i x a b st
theorem times_x {f : Int} (n : Int) (h : ¬(0 ≤ f ∧ f ≤ 10 - 1)) : ∃ st, C_times_of [.im (.int f), .im (.int n)] = .exc "OutOfRange" st := by
  refine ⟨full 7 [.im (.int f), .im (.int n)], ?_⟩
  unfold C_times_of M_times_of
  show sSeq _ _ [.im (.int f), .im (.int n), .un, .un, .un, .un, .un] = _
  simp (disch := (first | (simp only [noPar_s, g0, gS, npK_un, npK_im, npK_own, npK_scr, getO_s, getL_s, getK_own, getK_par, lstK_ok, Option.isSome_some, getDc_s, dctK_ok]; done) | omega)) only [sSeq_s, sqK_nx, sqK_rt, sqK_rf, ofO_s, bin_s, binK_ok, binL_ok, una_s, unaK_ok, tst_s, tstK_ok, nt_s, ntK_ok, an_s, anK_t, anK_f, orr_s, orK_t, orK_f, val_s, valK_ok, iff_s, iffK_t, iffK_f, callB_s, cbK_ok, aCons_s, acK_ok, acL_ok, aNil_s, vC_s, vIm_s, vImK_im, vAny_s, vAnyK_im, vAnyK_own, vAnyK_par, g0, gS, sIf_s, sIfK_t, sIfK_f, sNil_s, sRet_s, sRetK_ok, sEx_s, sExK_ok, noPar_s, npK_un, npK_im, npK_own, npK_scr, npK_par, sSet_s, sSetK_ok, sOwn_s, sOwnK_ok, sWipe_s, wipes_n, wipes_t, sFor_s, sForK_ok, iRg_s, iRgK_ok, iVal_s, iValK_ok, items_l, items_t, callP_s, cpK_ok, gN_s, sUn_s, sUnK_ok, sUnL_ok, gT_t, gCons_c, gcK_ok, gNil_n, sPar_s, sParK_ok, pSet_f, pSet_t, pSet_n, sAug_s, sAugO_im, sAugK_ok, sAugL_ok, chain_s, chJ_ok, chK_ok, chL_t, chL_f, chM_ok, asB_s, tYes_s, callD_s, cdK_ok, cdL_ok, getO_s, getK_own, getK_par, setO_s, setK_own, setK_par, getL_s, lstK_ok, mOn_s, moK_ok, moL_ok, moM_ok, sGive_s, gives_n, gives_c, giveK_own, giveK_im, giveK_un, iRg3_s, iRg3K_ok, rv_s, rvK_ok, rev_l, rev_t, ii2, at_t0, at_t1, at_l0, at_l1, mkT0, mkT1, mkT2, mkT3, mkL0, mkL1, mkL2, mkL3, mkL4, mkL5, mkL6, mkL7, mkL8, mkL9, mkL10, mkL11, mkL12, mkL13, mkL14, mkT4, mkT5, mkT6, mkT7, lenT0, lenT1, lenT2, lenT3, lenL0, decide_true, decide_false, Int.reduceEq, Int.reduceLT, Int.reduceLE, eq_self, int_i, int_b, mulB, tup_l, tup_t, lst_l, lst_t, neg_i, addD_n, subD_n, ltD_n, leD_n, gtD_n, geD_n, eqD_ii, neD_ii, List.set_cons_zero, List.set_cons_succ, Option.bind_some, Option.map_some, List.map_cons, List.map_nil, Bool.not_true, Bool.not_false, pNo_s, pAt_s, pAtK_ok, cut_s, cutK_ok, cutM_ok, cutR_ok, cut_l, cut_t, isIn_s, notIn_s, aStar_s, aStK_l, aStK_t, aStL_ok, sAugX_s, auxK_ok, auxL_ok, iEnm_s, iEnK_ok, enum_l, enum_t, mkD_s, getDc_s, dctK_ok, sPut_s, putK_ok, putJ_s, putL_ok, putM_ok, putN_ok, isN_n, isN_t, notN_n, notN_t, isB_b, notB_b, abs_i, sortX_l, sortX_t, len_d, isnum, decide_eq_false h, sqK_x]
  rfl
theorem told_x {f : Int} (n : Int) (h : ¬(0 ≤ f ∧ f ≤ 10 - 1)) (st : Sts) : resP st (C__law_told [.im (.int f), .im (.int n)]) = .ok (.str "range") st := by
  have a := fun st => resP_x (times_x n h) st
  refine resP_rt ⟨[.im (.int f), .im (.int n), .un], ?_⟩ st
  have t := tryK_x (i := 2) (wd := wdN__law_word) (c := "OutOfRange") (z := "range") (st := [.im (.int f), .im (.int n), .un]) (by rfl) (by show 2 < 3; decide)
  unfold C__law_told M__law_told
  show sSeq _ _ [.im (.int f), .im (.int n), .un] = _
  simp (disch := (first | (simp only [noPar_s, g0, gS, npK_un, npK_im, npK_own, npK_scr, getO_s, getL_s, getK_own, getK_par, lstK_ok, Option.isSome_some, getDc_s, dctK_ok]; done) | omega)) only [sSeq_s, sqK_nx, sqK_rt, sqK_rf, ofO_s, bin_s, binK_ok, binL_ok, una_s, unaK_ok, tst_s, tstK_ok, nt_s, ntK_ok, an_s, anK_t, anK_f, orr_s, orK_t, orK_f, val_s, valK_ok, iff_s, iffK_t, iffK_f, callB_s, cbK_ok, aCons_s, acK_ok, acL_ok, aNil_s, vC_s, vIm_s, vImK_im, vAny_s, vAnyK_im, vAnyK_own, vAnyK_par, g0, gS, sIf_s, sIfK_t, sIfK_f, sNil_s, sRet_s, sRetK_ok, sEx_s, sExK_ok, noPar_s, npK_un, npK_im, npK_own, npK_scr, npK_par, sSet_s, sSetK_ok, sOwn_s, sOwnK_ok, sWipe_s, wipes_n, wipes_t, sFor_s, sForK_ok, iRg_s, iRgK_ok, iVal_s, iValK_ok, items_l, items_t, callP_s, cpK_ok, gN_s, sUn_s, sUnK_ok, sUnL_ok, gT_t, gCons_c, gcK_ok, gNil_n, sPar_s, sParK_ok, pSet_f, pSet_t, pSet_n, sAug_s, sAugO_im, sAugK_ok, sAugL_ok, chain_s, chJ_ok, chK_ok, chL_t, chL_f, chM_ok, asB_s, tYes_s, callD_s, cdK_ok, cdL_ok, getO_s, getK_own, getK_par, setO_s, setK_own, setK_par, getL_s, lstK_ok, mOn_s, moK_ok, moL_ok, moM_ok, sGive_s, gives_n, gives_c, giveK_own, giveK_im, giveK_un, iRg3_s, iRg3K_ok, rv_s, rvK_ok, rev_l, rev_t, ii2, at_t0, at_t1, at_l0, at_l1, mkT0, mkT1, mkT2, mkT3, mkL0, mkL1, mkL2, mkL3, mkL4, mkL5, mkL6, mkL7, mkL8, mkL9, mkL10, mkL11, mkL12, mkL13, mkL14, mkT4, mkT5, mkT6, mkT7, lenT0, lenT1, lenT2, lenT3, lenL0, decide_true, decide_false, Int.reduceEq, Int.reduceLT, Int.reduceLE, eq_self, int_i, int_b, mulB, tup_l, tup_t, lst_l, lst_t, neg_i, addD_n, subD_n, ltD_n, leD_n, gtD_n, geD_n, eqD_ii, neD_ii, List.set_cons_zero, List.set_cons_succ, Option.bind_some, Option.map_some, List.map_cons, List.map_nil, Bool.not_true, Bool.not_false, pNo_s, pAt_s, pAtK_ok, cut_s, cutK_ok, cutM_ok, cutR_ok, cut_l, cut_t, isIn_s, notIn_s, aStar_s, aStK_l, aStK_t, aStL_ok, sAugX_s, auxK_ok, auxL_ok, iEnm_s, iEnK_ok, enum_l, enum_t, mkD_s, getDc_s, dctK_ok, sPut_s, putK_ok, putJ_s, putL_ok, putM_ok, putN_ok, isN_n, isN_t, notN_n, notN_t, isB_b, notB_b, abs_i, sortX_l, sortX_t, len_d, sTry_s, a, sqK_x, sRetK_x, t]
end Vs.k37

set_option Elab.async false
set_option linter.all false
set_option maxRecDepth 100000
set_option maxHeartbeats 1000000
namespace Vs.k37
open PySem PySem.Spec PyProof.Rows L2
theorem okA_P (x y : Int) : OkA 8 ((eP PyData.int PyData.int) (x, y)) := by
  refine .tup _ _ (by show 2 < 2 ^ 24; decide) fun z hz => ?_
  simp only [List.mem_cons, List.not_mem_nil, or_false] at hz
  rcases hz with rfl | rfl <;> exact .int _ _
theorem okA_PP (p : Int × Int) : OkA 8 ((eP PyData.int PyData.int) p) := okA_P p.1 p.2
theorem most_ok {d : Int} (h : 0 ≤ d ∧ d < 3) : 0 < ix [(12 : Int), 130, 1300] d ∧ ix [(12 : Int), 130, 1300] d ≤ 1300 := by
  have : d = 0 ∨ d = 1 ∨ d = 2 := by omega
  rcases this with rfl | rfl | rfl <;> decide
theorem n_ok (xs : List Int) : (0 ≤ (d_law_1 xs).1 ∧ (d_law_1 xs).1 < 3) ∧ 0 < ix [(12 : Int), 130, 1300] (d_law_1 xs).1 ∧ 0 ≤ (d_law_2 xs).1 ∧ (d_law_2 xs).1 < 1300 := by
  have t1 : 0 ≤ (d_law_1 xs).1 ∧ (d_law_1 xs).1 < 3 := take_lt xs (b := 3) (by decide)
  have m := most_ok t1
  have t2 : 0 ≤ (d_law_2 xs).1 ∧ (d_law_2 xs).1 < ix [(12 : Int), 130, 1300] (d_law_1 xs).1 := take_lt (d_law_1 xs).2 m.1
  generalize (d_law_2 xs).1 = n at *
  generalize ix [(12 : Int), 130, 1300] (d_law_1 xs).1 = y at *
  exact ⟨t1, m.1, t2.1, by omega⟩
theorem painted_ok (xs : List Int) {n : Int} (hn : (d_law_2 xs).1 = n) (h0 : 0 ≤ n) (h1 : n < 1300) : KF (o_law_1 xs) (b_law_1 xs) (rgI (1 : Int) (n + 1)) v_law_painted ∧ s_law_1 xs = if n < 200 then PT n.toNat else [] := by
  have K := KF_pre (ok := o_law_1 xs) (f := b_law_1 xs) (fun pre (s : List (Int × Int)) => s = if n < 200 then PT pre.length else []) (rgI (1 : Int) (n + 1)) (xs := rgI (1 : Int) (n + 1)) (pre := []) (s := v_law_painted) rfl (fun pre x s ⟨post, e⟩ hs => ?_) (by split <;> rfl)
  · refine ⟨K.1, ?_⟩
    have := K.2
    rw [len_rgI, show (n + 1 - 1).toNat = n.toNat by omega] at this
    unfold s_law_1
    rw [hn]
    exact this
  · have l1 : pre.length < (rgI (1 : Int) (n + 1)).length := by rw [← e]; simp
    rw [len_rgI] at l1
    have ex : x = (pre.length : Int) + 1 := by
      have := congrArg (fun l => l[pre.length]?) e
      simp only [List.getElem?_append_right (Nat.le_refl _), Nat.sub_self, List.getElem?_cons_zero] at this
      unfold rgI at this
      rw [List.getElem?_map, List.getElem?_range (by omega)] at this
      have := Option.some.inj this
      dsimp only at this
      omega
    obtain ⟨L, l1', l2⟩ := is_nat (small (m := pre.length) (by omega))
    obtain ⟨g1, g2, g3⟩ := FG_eq l2 l1'
    rw [← ex] at g1 g2 g3
    have pl := (PT_ok pre.length (by omega)).2.2.2
    constructor
    · unfold o_law_1
      rw [hn]
      intro hc
      have hc : n < 200 := of_decide_eq_true hc
      rw [if_pos hc] at hs
      refine ⟨g2, by show (FG x).length ≤ _; rw [g3]; omega, ?_⟩
      show s.length + ((FG x).map _).length ≤ _
      rw [List.length_map, g3, hs]; omega
    · show v_law_painted_2 xs s x = _
      unfold v_law_painted_2
      rw [hn, List.length_append, List.length_singleton, hs]
      by_cases hc : n < 200
      · rw [if_pos (decide_eq_true hc), if_pos hc, if_pos hc]
        show PT pre.length ++ (FG x).map _ = PT pre.length ++ _
        rw [ex]
      · rw [if_neg (by simpa using hc), if_neg hc, if_neg hc]
theorem j_ok (xs : List Int) {n : Int} (hn : (d_law_2 xs).1 = n) (h0 : 0 ≤ n) (h1 : n < 1300) : (j_law_1 xs).2 = t_count_figures n ∧ (j_law_1 xs).1 = (rgI 0 10).map fun f => t_times_of f n := by
  have s1 := (painted_ok xs hn h0 h1).2
  have en : ((n.toNat : Nat) : Int) = n := by omega
  have rw1 : v_law_rows xs = (rgI 1 (((n.toNat : Nat) : Int) + 1)).map FG := by unfold v_law_rows; rw [hn, en]; rfl
  obtain ⟨a, c, d⟩ := rows_ok n.toNat (by omega)
  obtain ⟨p, q, r, _⟩ := PT_ok n.toNat (by omega)
  rw [en] at p
  unfold j_law_1 v_law_counts v_law_spots v_law_counts_2 v_law_spots_2
  rw [hn, s1, rw1]
  by_cases hc : n < 200
  · rw [if_neg (by rw [decide_eq_true_eq]; omega), if_pos hc]
    refine ⟨p, List.map_congr_left fun f hf => ?_⟩
    have hf := mem_rgI.mp hf
    have := r f hf.1 (by omega)
    rw [en] at this
    exact this
  · rw [if_pos (by rw [decide_eq_true_eq]; omega)]
    rw [en] at a
    refine ⟨by rw [en]; exact a, List.map_congr_left fun f hf => ?_⟩
    have hf := mem_rgI.mp hf
    have := c f hf.1 (by omega)
    rw [en] at this ⊢
    exact this
theorem cnt_ok {d : Int} (h : 0 ≤ d ∧ d < 2) : ix [(3 : Int), 40] d = 3 ∨ ix [(3 : Int), 40] d = 40 := by
  have : d = 0 ∨ d = 1 := by omega
  rcases this with rfl | rfl
  · exact .inl rfl
  · exact .inr rfl
theorem far_wh (l : List Int) {f0 : Int} (h0 : 1 ≤ f0) (h1 : f0 ≤ 9) (m : Nat) (hm : m ≤ 40) : KF o_law_2 b_law_2 (rgI 0 (m : Int)) (l, f0) ∧ p10 m ≤ ((rgI 0 (m : Int)).foldl b_law_2 (l, f0)).2 ∧ ((rgI 0 (m : Int)).foldl b_law_2 (l, f0)).2 < p10 (m + 1) := by
  have K := KF_pre (ok := o_law_2) (f := b_law_2) (fun pre (s : List Int × Int) => p10 pre.length ≤ s.2 ∧ s.2 < p10 (pre.length + 1)) (rgI 0 (m : Int)) (xs := rgI 0 (m : Int)) (pre := []) (s := (l, f0)) rfl (fun pre x s ⟨post, e⟩ hs => ?_) ⟨by show p10 0 ≤ f0; rw [p10_0]; exact h0, by show f0 < p10 (0 + 1); rw [p10_s, p10_0]; omega⟩
  · have := K.2
    rw [len_rgI, show ((m : Int) - 0).toNat = m by omega] at this
    exact ⟨K.1, this⟩
  · have l1 : pre.length < (rgI 0 (m : Int)).length := by rw [← e]; simp
    rw [len_rgI] at l1
    have q := p10_60 (i := pre.length + 1) (by omega)
    have p := p10_pos pre.length
    have t : 0 ≤ (d_law_5 s).1 ∧ (d_law_5 s).1 < 10 := take_lt s.1 (b := 10) (by decide)
    obtain ⟨a, b⟩ := hs
    have e1 := p10_s pre.length
    have e2 := p10_s (pre.length + 1)
    rw [List.length_append, List.length_singleton]
    refine ⟨mulO (by omega) (by decide), ?_, ?_⟩
    · show p10 (pre.length + 1) ≤ s.2 * 10 + (d_law_5 s).1
      generalize (d_law_5 s).1 = z at *
      omega
    · show s.2 * 10 + (d_law_5 s).1 < p10 (pre.length + 1 + 1)
      generalize (d_law_5 s).1 = z at *
      omega
theorem far_ok (xs : List Int) : (0 ≤ (d_law_4 xs).1 ∧ (d_law_4 xs).1 < 2) ∧ (ix [(3 : Int), 40] (d_law_4 xs).1 < 1000000000000 ∧ -(1000000000000) < ix [(3 : Int), 40] (d_law_4 xs).1) ∧ KF o_law_2 b_law_2 (rgI 0 (ix [(3 : Int), 40] (d_law_4 xs).1)) ((d_law_4 xs).2, (v_law_far xs)) ∧
    p10 3 ≤ (s_law_2 xs).2 ∧ (s_law_2 xs).2 < p10 41 := by
  have t3 : 0 ≤ (d_law_3 xs).1 ∧ (d_law_3 xs).1 < 9 := take_lt (d_law_2 xs).2 (b := 9) (by decide)
  have t4 : 0 ≤ (d_law_4 xs).1 ∧ (d_law_4 xs).1 < 2 := take_lt (d_law_3 xs).2 (b := 2) (by decide)
  have f1 : 1 ≤ v_law_far xs ∧ v_law_far xs ≤ 9 := by
    unfold v_law_far
    generalize (d_law_3 xs).1 = z at *
    omega
  have c := cnt_ok t4
  unfold s_law_2
  refine ⟨t4, ?_⟩
  generalize ix [(3 : Int), 40] (d_law_4 xs).1 = y at *
  rcases c with rfl | rfl
  · obtain ⟨a, b, d⟩ := far_wh (d_law_4 xs).2 f1.1 f1.2 3 (by decide)
    exact ⟨⟨by decide, by decide⟩, a, b, Int.lt_of_lt_of_le d (p10_mono (by decide))⟩
  · obtain ⟨a, b, d⟩ := far_wh (d_law_4 xs).2 f1.1 f1.2 40 (by decide)
    exact ⟨⟨by decide, by decide⟩, a, Int.le_trans (p10_mono (by decide)) b, d⟩
/-- a great number: its figures -/
theorem great {far : Int} (h0 : p10 3 ≤ far) (h1 : far < p10 41) : ∃ L, L ≤ 40 ∧ 3 ≤ L ∧ Is far (L + 1) := by
  have e : p10 3 = 1000 := by decide
  obtain ⟨L, l1, l2⟩ := is_ex 41 far (by omega) h1
  have := l2.hi
  have := l2.h1
  refine ⟨L - 1, by omega, ?_, by rw [show L - 1 + 1 = L by omega]; exact l2⟩
  by_cases q : L ≤ 3
  · have := p10_mono q; omega
  · omega
theorem T_all {far : Int} (h0 : p10 3 ≤ far) (h1 : far < p10 41) : ((rgI 0 10).map fun f => t_times_of f far).sum = t_count_figures far := by
  have e : p10 3 = 1000 := by decide
  have := p10_mono (show 41 ≤ 45 by decide)
  have s := T_sum far.toNat (by omega)
  rwa [show ((far.toNat : Nat) : Int) = far by omega] at s
theorem tens_ok (xs : List Int) : ∃ k : Nat, 1 ≤ k ∧ k ≤ 30 ∧ v_law_k xs = k := by
  have t7 : 0 ≤ (d_law_7 xs).1 ∧ (d_law_7 xs).1 < 30 := take_lt (d_law_6 xs).2 (b := 30) (by decide)
  unfold v_law_k
  generalize (d_law_7 xs).1 = z at *
  exact ⟨(1 + z).toNat, by omega, by omega, by omega⟩
theorem ten_ok (m : Nat) (hm : m ≤ 50) : KF o_law_5 b_law_5 (rgI 0 (m : Int)) 1 ∧ (rgI 0 (m : Int)).foldl b_law_5 1 = p10 m := by
  have K := KF_pre (ok := o_law_5) (f := b_law_5) (fun pre (s : Int) => s = p10 pre.length) (rgI 0 m) (xs := rgI 0 m) (pre := []) (s := 1) rfl (fun pre x s ⟨post, e⟩ hs => ?_) rfl
  · refine ⟨K.1, K.2.trans ?_⟩
    rw [len_rgI]; congr 1
  · have l1 : pre.length < (rgI 0 (m : Int)).length := by rw [← e]; simp
    rw [len_rgI] at l1
    have p := p10_pos pre.length
    have q := p10_60 (i := pre.length) (by omega)
    subst hs
    refine ⟨mulO (by omega) (by decide), ?_⟩
    rw [List.length_append, List.length_singleton, p10_s]; rfl
theorem nines_wh (xs : List Int) {k : Nat} (hk : v_law_k xs = k) (h2 : k ≤ 40) : ∀ (m fuel i : Nat), i + m = k → m < fuel → KWr (o_law_6 xs) (c_law_6 xs) (b_law_6 xs) fuel ((i : Int) + 1, NO i, SS i, p10 i) ∧ wh (c_law_6 xs) (b_law_6 xs) fuel ((i : Int) + 1, NO i, SS i, p10 i) = ((k : Int) + 1, NO k, SS k, p10 k)
  | m, 0, i, e, hf => by omega
  | 0, fuel + 1, i, e, hf => by
    have ei : i = k := by omega
    subst ei
    have c : c_law_6 xs ((i : Int) + 1, NO i, SS i, p10 i) = false := by
      unfold c_law_6
      rw [hk]
      exact decide_eq_false (by show ¬(i : Int) + 1 ≤ i; omega)
    unfold KWr wh
    rw [c]
    refine ⟨⟨fun hc => ?_, fun z => (by cases z)⟩, by rw [if_neg (by decide)]⟩
    rw [hk] at hc
    have hc : (i : Int) + 1 ≤ i := of_decide_eq_true hc
    omega
  | m + 1, fuel + 1, i, e, hf => by
    have p := p10_pos i
    have q := p10_60 (i := i) (by omega)
    have c : c_law_6 xs ((i : Int) + 1, NO i, SS i, p10 i) = true := by
      unfold c_law_6
      rw [hk]
      exact decide_eq_true (by show (i : Int) + 1 ≤ k; omega)
    have bb : b_law_6 xs ((i : Int) + 1, NO i, SS i, p10 i) = (((i + 1 : Nat) : Int) + 1, NO (i + 1), SS (i + 1), p10 (i + 1)) := by
      rw [p10_s]; rfl
    obtain ⟨k1, k2⟩ := nines_wh xs hk h2 m fuel (i + 1) (by omega) (by omega)
    unfold KWr wh
    rw [c, bb, if_pos rfl]
    exact ⟨⟨fun _ => ⟨mulO (by decide) (by show (p10 i).natAbs < _; omega), mulO (by show (9 * p10 i).natAbs < _; omega) (by show ((i : Int) + 1).natAbs < _; omega), mulO (by show (p10 i).natAbs < _; omega) (by decide)⟩, fun _ => k1⟩, k2⟩
end Vs.k37

set_option Elab.async false
set_option linter.all false
set_option maxRecDepth 100000
set_option maxHeartbeats 1000000
namespace Vs.k37
open PySem PySem.Spec PyProof.Rows L2
theorem words_ok {ns draws : List Int} : ((cmpP [20] (iVal (callB mkL (aCons (una negD (vC (.int 1))) (aCons (vC (.int 10)) (aNil))))) (gN 20) (tYes') (callP C__law_told (aCons (vIm 20) (aCons (vC (.int 5)) (aNil))))) : Ev) [.scr ns, .own (eL PyData.int draws), .un, .un, .un, .un, .un, .un, .un, .un, .un, .un, .un, .un, .un, .un, .un, .un, .un, .un, .un, .un] = .ok (.list [.str "range", .str "range"]) [.scr ns, .own (eL PyData.int draws), .un, .un, .un, .un, .un, .un, .un, .un, .un, .un, .un, .un, .un, .un, .un, .un, .un, .un, .un, .un] := by
  have a := fun st => told_x (f := -1) 5 (by decide) st
  have b := fun st => told_x (f := 10) 5 (by decide) st
  refine cmpP_ok (ds := [.int (-1), .int 10]) (st1 := [.scr ns, .own (eL PyData.int draws), .un, .un, .un, .un, .un, .un, .un, .un, .un, .un, .un, .un, .un, .un, .un, .un, .un, .un, .un, .un]) ?_ (by rfl) ?_ (by show 2 ≤ sizeLine; decide)
  · simp (disch := (first | (simp only [noPar_s, g0, gS, npK_un, npK_im, npK_own, npK_scr, getO_s, getL_s, getK_own, getK_par, lstK_ok, Option.isSome_some, getDc_s, dctK_ok]; done) | omega)) only [sSeq_s, sqK_nx, sqK_rt, sqK_rf, ofO_s, bin_s, binK_ok, binL_ok, una_s, unaK_ok, tst_s, tstK_ok, nt_s, ntK_ok, an_s, anK_t, anK_f, orr_s, orK_t, orK_f, val_s, valK_ok, iff_s, iffK_t, iffK_f, callB_s, cbK_ok, aCons_s, acK_ok, acL_ok, aNil_s, vC_s, vIm_s, vImK_im, vAny_s, vAnyK_im, vAnyK_own, vAnyK_par, g0, gS, sIf_s, sIfK_t, sIfK_f, sNil_s, sRet_s, sRetK_ok, sEx_s, sExK_ok, noPar_s, npK_un, npK_im, npK_own, npK_scr, npK_par, sSet_s, sSetK_ok, sOwn_s, sOwnK_ok, sWipe_s, wipes_n, wipes_t, sFor_s, sForK_ok, iRg_s, iRgK_ok, iVal_s, iValK_ok, items_l, items_t, callP_s, cpK_ok, gN_s, sUn_s, sUnK_ok, sUnL_ok, gT_t, gCons_c, gcK_ok, gNil_n, sPar_s, sParK_ok, pSet_f, pSet_t, pSet_n, sAug_s, sAugO_im, sAugK_ok, sAugL_ok, chain_s, chJ_ok, chK_ok, chL_t, chL_f, chM_ok, asB_s, tYes_s, callD_s, cdK_ok, cdL_ok, getO_s, getK_own, getK_par, setO_s, setK_own, setK_par, getL_s, lstK_ok, mOn_s, moK_ok, moL_ok, moM_ok, sGive_s, gives_n, gives_c, giveK_own, giveK_im, giveK_un, iRg3_s, iRg3K_ok, rv_s, rvK_ok, rev_l, rev_t, ii2, at_t0, at_t1, at_l0, at_l1, mkT0, mkT1, mkT2, mkT3, mkL0, mkL1, mkL2, mkL3, mkL4, mkL5, mkL6, mkL7, mkL8, mkL9, mkL10, mkL11, mkL12, mkL13, mkL14, mkT4, mkT5, mkT6, mkT7, lenT0, lenT1, lenT2, lenT3, lenL0, decide_true, decide_false, Int.reduceEq, Int.reduceLT, Int.reduceLE, eq_self, int_i, int_b, mulB, tup_l, tup_t, lst_l, lst_t, neg_i, addD_n, subD_n, ltD_n, leD_n, gtD_n, geD_n, eqD_ii, neD_ii, List.set_cons_zero, List.set_cons_succ, Option.bind_some, Option.map_some, List.map_cons, List.map_nil, Bool.not_true, Bool.not_false, pNo_s, pAt_s, pAtK_ok, cut_s, cutK_ok, cutM_ok, cutR_ok, cut_l, cut_t, isIn_s, notIn_s, aStar_s, aStK_l, aStK_t, aStL_ok, sAugX_s, auxK_ok, auxL_ok, iEnm_s, iEnK_ok, enum_l, enum_t, mkD_s, getDc_s, dctK_ok, sPut_s, putK_ok, putJ_s, putL_ok, putM_ok, putN_ok, isN_n, isN_t, notN_n, notN_t, isB_b, notB_b, abs_i, sortX_l, sortX_t, len_d]
  · have c : ∀ k : Int, (∀ st, resP st (C__law_told [.im (.int k), .im (.int 5)]) = .ok (.str "range") st) → cItem (gN 20) tYes' ((callP C__law_told (aCons (vIm 20) (aCons (vC (.int 5)) (aNil))))) [.scr ns, .own (eL PyData.int draws), .un, .un, .un, .un, .un, .un, .un, .un, .un, .un, .un, .un, .un, .un, .un, .un, .un, .un, .un, .un] (.int k) = some [.str "range"] := fun k hw => by
      exact cItem_yes (st1 := [.scr ns, .own (eL PyData.int draws), .un, .un, .un, .un, .un, .un, .un, .un, .un, .un, .un, .un, .un, .un, .un, .un, .un, .un, .im (.int k), .un]) (by rfl) (tYes_s _) (callP_l (acons_ok (im_ok (by rfl)) (acons_ok c_ok anil_ok)) (hw _))
    unfold flatM; rw [c (-1) a]
    unfold flatM; rw [c 10 b]
    rfl
theorem filt_f (xs : List Int) : xs.filter (fun _ => false) = [] := by
  induction xs with
  | nil => rfl
  | cons x xs ih => rw [List.filter_cons_of_neg (by decide), ih]
theorem none_f (xs : List Int) : (!decide (((xs.filter (fun x : Int => false)).map (fun x : Int => x)) = ([] : List Int))) = false := by rw [filt_f]; rfl
theorem len10 : (rgI 0 (10 : Int)).length ≤ 16777216 := by decide
theorem kT {n : Int} (h : n = 0 ∧ True ∨ ∃ L, L ≤ 44 ∧ Is n (L + 1)) {f : Int} (f0 : 0 ≤ f) (f9 : f ≤ 9) : k_times_of f n := by
  rcases h with ⟨a, _⟩ | ⟨L, a, b⟩
  · rw [a]; exact (T_0 f0 f9).2
  · exact (times_ok f0 f9 (.inr b) (by omega)).1
theorem kC {n : Int} (h : n = 0 ∧ True ∨ ∃ L, L ≤ 44 ∧ Is n (L + 1)) : k_count_figures n := by
  rcases h with ⟨a, _⟩ | ⟨L, a, b⟩
  · rw [a]; exact C_0.2
  · exact (figures_ok (.inr b) (by omega)).1
theorem is_small {n : Int} (h0 : 0 ≤ n) (h1 : n < 1300) : n = 0 ∧ True ∨ ∃ L, L ≤ 44 ∧ Is n (L + 1) := by
  by_cases q : n = 0
  · exact .inl ⟨q, trivial⟩
  · right
    obtain ⟨L, a, b⟩ := is_nat (small (m := (n - 1).toNat) (by omega))
    rw [show (((n - 1).toNat : Nat) : Int) + 1 = n by omega] at b
    exact ⟨L, a, b⟩
/-- painted posts, near -/
theorem near_ok {n : Int} (h0 : 0 ≤ n) (h1 : n < 200) : ∀ x : Int, x ∈ rgI 0 ((PT n.toNat).length : Int) → k_figure_at x ∧ (0 ≤ x ∧ x < ((PT n.toNat).length : Int)) ∧ (t_figure_at x = ix (PT n.toNat) x ∧ OkA 8 ((eP PyData.int PyData.int) (ix (PT n.toNat) x))) := fun x hx => by
  have hx := mem_rgI.mp hx
  obtain ⟨_, b, _⟩ := PT_ok n.toNat (by omega)
  obtain ⟨y1, y2⟩ := b x hx.1 hx.2
  exact ⟨y1, hx, y2, okA_PP _⟩
theorem PT_len {n : Int} (h0 : 0 ≤ n) (h1 : n < 1300) : ((if n < 200 then PT n.toNat else []) : List (Int × Int)).length ≤ 70000 := by
  have := (PT_ok n.toNat (by omega)).2.2.2
  split
  · omega
  · exact Nat.zero_le _
theorem rows_len {n : Int} (xs : List Int) (hn : (d_law_2 xs).1 = n) (h0 : 0 ≤ n) (h1 : n < 1300) : (v_law_rows xs).length ≤ 16777216 ∧ (∀ x6 : Int, x6 ∈ rgI 1 (n + 1) → k__law_figures x6) := by
  have d := (rows_ok n.toNat (by omega)).2.2
  rw [show ((n.toNat : Nat) : Int) = n by omega] at d
  refine ⟨?_, d⟩
  unfold v_law_rows
  rw [hn, List.length_map, len_rgI]; omega
section
variable {far : Int} {L : Nat} (hL : L ≤ 40) (h3 : 3 ≤ L) (h : Is far (L + 1))
include hL h3 h
theorem f_prev : ∃ L', L' ≤ 40 ∧ Is (far - 1) (L' + 1) := by
  rcases prev h with ⟨_, b⟩ | a | ⟨a, b, c⟩
  · omega
  · exact ⟨L, hL, a⟩
  · exact ⟨L - 1, by omega, by rw [show L - 1 + 1 = L + 1 - 1 by omega]; exact c⟩
theorem f_T {f : Int} (f0 : 0 ≤ f) (f9 : f ≤ 9) : k_times_of f far ∧ k_times_of f (far - 1) ∧ t_times_of f far - t_times_of f (far - 1) = ((List.count f (t__law_figures far) : Nat) : Int) := by
  obtain ⟨a, b, c⟩ := step_T f0 f9 h (by omega)
  refine ⟨c, b, ?_⟩
  rw [a, show t__law_figures far = dgs far (L + 1) from (FG_eq h (by omega)).1, count_dgs f _ _ (by have := h.pos; omega)]
  omega
theorem f_C : k_count_figures far ∧ k_count_figures (far - 1) ∧ t_count_figures far - t_count_figures (far - 1) = ((t__law_figures far).length : Int) := by
  obtain ⟨a, b, c⟩ := step_C h (by omega)
  refine ⟨c, b, ?_⟩
  rw [a, show (t__law_figures far).length = L + 1 from (FG_eq h (by omega)).2.2]
  omega
theorem f_at {k : Int} (k0 : 0 ≤ k) (k1 : k < ((t__law_figures far).length : Int)) : k_figure_at (t_count_figures (far - 1) + k) ∧ t_figure_at (t_count_figures (far - 1) + k) = (ix (t__law_figures far) k, far) := by
  have e := (FG_eq h (by omega)).2.2
  change (t__law_figures far).length = _ at e
  rw [e] at k1
  have := at_ok h (by omega) (k := k.toNat) (by omega)
  rw [show ((k.toNat : Nat) : Int) = k by omega] at this
  rw [show t__law_figures far = dgs far (L + 1) from (FG_eq h (by omega)).1]
  exact this
theorem f_last : (k_figure_at (t_count_figures (far - 1) - 1) ∧ k__law_figures (far - 1) ∧ t__law_figures (far - 1) ≠ []) ∧ t_figure_at (t_count_figures (far - 1) - 1) = (lst (t__law_figures (far - 1)), far - 1) := by
  obtain ⟨M, m1, m2⟩ := f_prev hL h3 h
  obtain ⟨g1, g2, g3⟩ := FG_eq m2 (by omega)
  change (t__law_figures (far - 1)) = _ at g1
  change (t__law_figures (far - 1)).length = _ at g3
  have sC := (step_C m2 (by omega)).1
  have ne : t__law_figures (far - 1) ≠ [] := by
    intro z; rw [z] at g3; cases g3
  obtain ⟨y1, y2⟩ := at_ok m2 (by omega) (k := M) (by omega)
  rw [show t_count_figures (far - 1 - 1) + (M : Int) = t_count_figures (far - 1) - 1 by rw [sC]; omega] at y1 y2
  refine ⟨⟨y1, g2, ne⟩, ?_⟩
  rw [y2, ← g1]
  congr 1
  rw [lst_eq ne, ix_nat (by omega), List.getLast_eq_getElem]
  congr 1
  omega
end
theorem nines_ok {k : Nat} (h : 1 ≤ k) (h2 : k ≤ 30) : (p10 (k - 1) * 10 - 1 = p10 k - 1) ∧ mulOk (p10 (k - 1)) 10 = true ∧ mulOk (k : Int) (p10 (k - 1)) = true := by
  have e : p10 k = p10 (k - 1) * 10 := by rw [← p10_s]; congr 1; omega
  have p := p10_pos (k - 1)
  have q := p10_60 (i := k - 1) (by omega)
  exact ⟨by omega, mulO (by omega) (by decide), mulO (by omega) (by omega)⟩
theorem first_ok : k_figure_at 0 ∧ k_figure_at 9 ∧ k_figure_at 10 ∧ t_figure_at 0 = (1, 1) ∧ t_figure_at 9 = (1, 10) ∧ t_figure_at 10 = (0, 10) := by
  have i1 : Is 1 (0 + 1) := ⟨by decide, by decide, by decide⟩
  have i10 : Is 10 (1 + 1) := ⟨by decide, by decide, by decide⟩
  have i9 : Is 9 (0 + 1) := ⟨by decide, by decide, by decide⟩
  have c9 : t_count_figures 9 = 9 := by
    rw [(figures_ok (.inr i9) (by decide)).2]; decide
  have a := at_ok i1 (by decide) (k := 0) (by decide)
  have b := at_ok i10 (by decide) (k := 0) (by decide)
  have c := at_ok i10 (by decide) (k := 1) (by decide)
  rw [show (1 : Int) - 1 = 0 by decide, C_0.1] at a
  rw [show (10 : Int) - 1 = 9 by decide, c9] at b c
  exact ⟨a.1, b.1, c.1, a.2, b.2, c.2⟩
theorem lt12 {n : Int} (h0 : 0 ≤ n) (h1 : n < 1300) : n + 1 < 1000000000000 ∧ -(1000000000000) < n + 1 ∧ (n + 1 - 1).toNat ≤ 16777216 := by omega
theorem nat12 {n : Nat} (h : n ≤ 70000) : n ≤ 16777216 ∧ (n : Int) < 1000000000000 ∧ -(1000000000000) < (n : Int) ∧ ((n : Int) - 0).toNat ≤ 16777216 := by omega
theorem k12 {k : Nat} (h : k ≤ 30) : (k : Int) - 1 < 1000000000000 ∧ -(1000000000000) < (k : Int) - 1 := by omega
theorem len_lt {l : Int} (hl : 0 < l) : (0 ≤ (0 : Int) ∧ 0 < l) ∧ (0 ≤ l - 1 ∧ l - 1 < l) := by omega
theorem law_k (ns xs : List Int) : k_law ns xs := by
  obtain ⟨t1, m1, n0, n1⟩ := n_ok xs
  obtain ⟨n, hn⟩ : ∃ n, (d_law_2 xs).1 = n := ⟨_, rfl⟩
  rw [hn] at n0 n1
  obtain ⟨pk, ps⟩ := painted_ok xs hn n0 n1
  obtain ⟨j2, j1⟩ := j_ok xs hn n0 n1
  have pl := PT_len n0 n1
  rw [← ps] at pl
  obtain ⟨r1, r2⟩ := rows_len xs hn n0 n1
  obtain ⟨t4, c4, kf, fa0, fa1⟩ := far_ok xs
  obtain ⟨L, l1, l2, hI⟩ := great fa0 fa1
  have TA := T_all fa0 fa1
  have FGk := (FG_eq hI (by omega)).2.1
  have FGl : (v_law_own xs).length = L + 1 := (FG_eq hI (by omega)).2.2
  have fT := fun {f : Int} (f0 : 0 ≤ f) (f9 : f ≤ 9) => f_T l1 l2 hI f0 f9
  have fC := f_C l1 l2 hI
  have fA := fun {k : Int} (k0 : 0 ≤ k) (k1 : k < ((t__law_figures (s_law_2 xs).2).length : Int)) => f_at l1 l2 hI k0 k1
  have fL := f_last l1 l2 hI
  clear fa0 fa1 hI
  have own0 : 0 < ((v_law_own xs).length : Int) := by rw [FGl]; omega
  clear FGl
  have t6 : 0 ≤ (d_law_6 xs).1 ∧ (d_law_6 xs).1 < ((v_law_own xs).length : Int) := take_lt (s_law_2 xs).1 own0
  obtain ⟨k, k1, k2, hk⟩ := tens_ok xs
  obtain ⟨tk, te⟩ := ten_ok (k - 1) (by omega)
  have k1' : ((k - 1 : Nat) : Int) = (k : Int) - 1 := by omega
  rw [k1'] at tk te
  have s3 : s_law_3 xs = p10 (k - 1) := by unfold s_law_3; rw [hk]; exact te
  obtain ⟨w1, w2⟩ := nines_wh xs hk (by omega) k 100 0 (by omega) (by omega)
  have s4 : s_law_4 xs = ((k : Int) + 1, NO k, SS k, p10 k) := w2
  have kw : KW (o_law_6 xs) (c_law_6 xs) (b_law_6 xs) 100 ((1 : Int), (0 : Int), (0 : Int), (1 : Int)) := ⟨w1⟩
  obtain ⟨e1, e2, e3⟩ := nines_ok k1 k2
  obtain ⟨⟨nC1, nC2⟩, nT⟩ := nine_ok k1 (by omega)
  obtain ⟨z1, z2, z3, z4, z5, z6⟩ := first_ok
  have sm := is_small n0 n1
  have lt := lt12 n0 n1
  have pls := nat12 pl
  have W := words_ok (ns := ns) (draws := (d_law_7 xs).2)
  have E : eqD ((id : D → D) (PyData.list [.str "range", .str "range"])) ((eL PyData.str) ((List.replicate ((2 : Int)).toNat ([("range" : Str)])).flatten)) = some (.bool true) := by kernel_rfl
  have x35 : ∀ x35 : Int, x35 ∈ rgI 1 10 → t__law_told x35 (p10 k - 1) = (k : Int) * p10 (k - 1) := fun x hx => by
    have hx := mem_rgI.mp hx
    have := (nT x (by omega) (by omega)).2
    rw [if_neg (show ¬x = 0 by omega)] at this
    show t_times_of x _ = _
    omega
  have x0 : t__law_told 0 (p10 k - 1) = (k : Int) * p10 (k - 1) - NO k := by
    have := (nT 0 (by omega) (by omega)).2
    rw [if_pos rfl] at this
    show t_times_of 0 _ = _
    omega
  have fin35 : ((((rgI (1 : Int) (10 : Int))).filter (fun x35 : Int => (!decide ((t__law_told x35 (p10 k - 1)) = ((k : Int) * p10 (k - 1)))))).map (fun x35 : Int => x35)) = ([] : List Int) := by
    rw [List.filter_eq_nil_iff.mpr]
    · rfl
    · intro x hx
      rw [x35 x hx, decide_eq_true rfl]; decide
  have sumT : ((((rgI 0 (10 : Int))).map (fun x22 : Int => (t__law_told x22 ((s_law_2 xs).2))))).sum = t_count_figures (s_law_2 xs).2 := TA
  have sumJ : ((rgI 0 (10 : Int)).map fun f => t_times_of f n).sum = t_count_figures n := by
    have := p10_mono (show 4 ≤ 45 by decide)
    have e4 : p10 4 = 10000 := by decide
    have := T_sum n.toNat (by omega)
    rwa [show ((n.toNat : Nat) : Int) = n by omega] at this
  have fC2 : t_count_figures (s_law_2 xs).2 - t_count_figures ((s_law_2 xs).2 - 1) = ((v_law_own xs).length : Int) := fC.2.2
  have fL2 : t_figure_at (v_law_begin xs - 1) = (lst (t__law_figures ((s_law_2 xs).2 - 1)), (s_law_2 xs).2 - 1) := fL.2
  have s41 : (s_law_4 xs).2.2.1 = SS k := by rw [s4]
  have s42 : (s_law_4 xs).2.1 = NO k := by rw [s4]
  have ls := len_lt own0
  have c17 : KF (o_law_3 xs) (b_law_3 xs) (rgI 0 (10 : Int)) () := (KF_inv (fun _ => True) (fun s x hx _ => ⟨by
    have hx := mem_rgI.mp hx
    have f9 : x ≤ 9 := Int.le_of_lt_add_one hx.2
    have f := fT hx.1 f9
    refine ⟨f.1, f.2.1, ?_⟩
    have e : t__law_told x (s_law_2 xs).2 - t__law_told x ((s_law_2 xs).2 - 1) = ((List.count x (v_law_own xs) : Nat) : Int) := f.2.2
    rw [decide_eq_true e]; rfl, trivial⟩) trivial).1
  have c25 : KF (o_law_4 xs) (b_law_4 xs) ([(0 : Int), ((((v_law_own xs)).length : Int) - (1 : Int)), (d_law_6 xs).1]) () := (KF_inv (fun _ => True) (fun s x hx _ => ⟨by
    have hb : 0 ≤ x ∧ x < ((v_law_own xs).length : Int) := by
      simp only [List.mem_cons, List.not_mem_nil, or_false] at hx
      rcases hx with rfl | rfl | rfl
      · exact ls.1
      · exact ls.2
      · exact t6
    have f := fA hb.1 hb.2
    exact ⟨f.1, hb, f.2, okA_P _ _⟩, trivial⟩) trivial).1
  clear s4 w1 w2 te
  unfold k_law
  rw [hn]
  refine ⟨t1, m1, lt.1, lt.2.1, pk, fun _ => ⟨lt.1, lt.2.1, by rw [len_rgI]; exact lt.2.2, r2, len10, fun _ _ => r1, r1⟩, fun hc => ?_, kC sm, ⟨j2.symm, .int _ _⟩, len10, fun x hx => ?_, ?_, t4, c4.1, c4.2, kf, FGk, c17, len10, fun x hx => ?_, fC.1, fun _ => ⟨fC.1, fC.2.1⟩, ?_, fC.2.1, own0, c25, fun _ => fL.1, ?_, ?_, ?_, ?_, kw, ?_, ?_, ?_, ?_, W, by decide, E, C_0.2, fun _ => ⟨z1, fun _ => ⟨z2, fun _ => z3⟩⟩, ?_⟩
  · have hc' : n < 200 := Int.not_le.mp (of_decide_eq_false hc)
    have e : s_law_1 xs = PT n.toNat := by rw [ps, if_pos hc']
    refine ⟨len10, fun _ _ => pls.1, pls.2.1, pls.2.2.1, by rw [len_rgI]; exact pls.2.2.2, ?_, none_f _⟩
    rw [e]; exact near_ok n0 hc'
  · have hx := mem_rgI.mp hx
    have f9 : x ≤ 9 := Int.le_of_lt_add_one hx.2
    refine ⟨kT sm hx.1 f9, ?_, ?_, .int _ _⟩
    · rw [j1, List.length_map, len_rgI]; exact ⟨hx.1, hx.2⟩
    · rw [j1, rgI_mk _ hx]; rfl
  · rw [none_f, j1, j2, sumJ, decide_eq_true rfl]; rfl
  · have hx := mem_rgI.mp hx
    exact (fT hx.1 (Int.le_of_lt_add_one hx.2)).1
  · rw [sumT, decide_eq_true rfl, decide_eq_true fC2]; rfl
  · rw [decide_eq_true fL2, Bool.not_true, Bool.and_false]
  · rw [hk]; exact (k12 k2).1
  · rw [hk]; exact (k12 k2).2
  · rw [hk]; exact tk
  · rw [s3]; exact e2
  · rw [s3, e1]; exact nC1
  · rw [s3, e1, hk]
    exact fun _ => ⟨by decide, fun x hx => ⟨e2, (nT x (Int.le_trans (by decide) (mem_rgI.mp hx).1) (Int.le_of_lt_add_one (mem_rgI.mp hx).2)).1, e3⟩, fun _ => ⟨e2, (nT 0 (by decide) (by decide)).1, e3⟩⟩
  · rw [s3, e1, hk, s41, s42, nC2, fin35, x0, decide_eq_true rfl, decide_eq_true rfl, decide_eq_true rfl]; rfl
  · rw [C_0.1, z4, z5, z6]; decide
theorem law_true (ns : List Int) (h1 : ns.length ≤ 63) (h2 : ∀ z ∈ ns, Builtin.Int.intBits z ≤ 1048576) : ∃ st, C_law [.scr ns] = .rt (.bool true) st := by
  obtain ⟨xs, st, e⟩ := drawsM_ev ns h1 h2
  exact (l_law ns xs ⟨st, e⟩ (law_k ns xs)).q
end Vs.k37

set_option Elab.async false
set_option linter.all false
set_option maxRecDepth 100000
set_option maxHeartbeats 0
namespace Vs.k37
open PySem PySem.Spec PyProof.Rows L2
/-! ### the head: facts by names, the run -/
def dd_is_number : He.DefD := ⟨("is_number", none), "is_number", "is_number", defArgs (top 8), defBody (top 8), defScope (top 8), [], []⟩
def dd_count_figures : He.DefD := ⟨("count_figures", none), "count_figures", "count_figures", defArgs (top 11), defBody (top 11), defScope (top 11), [], []⟩
def dd_figure_at : He.DefD := ⟨("figure_at", none), "figure_at", "figure_at", defArgs (top 13), defBody (top 13), defScope (top 13), [], []⟩
def dd__law_draws : He.DefD := ⟨("_law_draws", none), "_law_draws", "_law_draws", defArgs (top 15), defBody (top 15), defScope (top 15), [], []⟩
def dd__law_take : He.DefD := ⟨("_law_take", none), "_law_take", "_law_take", defArgs (top 16), defBody (top 16), defScope (top 16), [], []⟩
def dd__law_word : He.DefD := ⟨("_law_word", none), "_law_word", "_law_word", defArgs (top 18), defBody (top 18), defScope (top 18), [], []⟩
def dd__law_figures : He.DefD := ⟨("_law_figures", none), "_law_figures", "_law_figures", defArgs (top 20), defBody (top 20), defScope (top 20), [], []⟩
def dd_times_of : He.DefD := ⟨("times_of", none), "times_of", "times_of", defArgs (top 12), defBody (top 12), defScope (top 12), [], []⟩
def dd__law_told : He.DefD := ⟨("_law_told", none), "_law_told", "_law_told", defArgs (top 19), defBody (top 19), defScope (top 19), [], []⟩
def dd__law_alike : He.DefD := ⟨("_law_alike", none), "_law_alike", "_law_alike", defArgs (top 17), defBody (top 17), defScope (top 17), [], []⟩
def dd_law : He.DefD := ⟨("law", none), "law", "law", defArgs (top 21), defBody (top 21), defScope (top 21), [], []⟩
def dds : List He.DefD := [dd_is_number, dd_count_figures, dd_figure_at, dd__law_draws, dd__law_take, dd__law_word, dd__law_figures, dd_times_of, dd__law_told, dd__law_alike, dd_law]
def fas : List He.Fa := [.glo "is_number", .glo "count_figures", .glo "figure_at", .glo "_law_draws", .glo "_law_take", .glo "_law_word", .glo "_law_figures", .glo "times_of", .glo "_law_told", .glo "_law_alike", .glo "law", .free "abs", .free "bool", .free "int", .free "isinstance", .free "len", .free "list", .free "min", .free "range", .free "reversed", .free "str", .free "sum", .free "tuple", .int "BASE" (10), .glo "SkiError", .glo "OutOfRange", .glo "Refused", .glo "Malformed", .glo "NotThere", .glo "TooMuch", .exc "OutOfRange"]
def tfs : List He.Defn := []
def loose : List Str := (["SkiError", "OutOfRange", "Malformed", "NotThere", "Refused", "TooMuch", "is_number", "BASE", "count_figures", "times_of", "figure_at", "_law_draws", "_law_take", "_law_alike", "_law_word", "_law_told", "_law_figures"] : List Str)
abbrev R : PySem.W.OpenRow := PySem.W.OpenLaw.row PySem.Challenge.rw_skisheld_k37_whole_figures_on_posts
def ex0 : PySem.W.Frag → Bool := fun K => wfB K "SkiError" errs
abbrev hk : PySem.W.Hook := He.hookX 4 fas dds [] tfs ex0
def ob (s : PySem.W.SharedT) : He.AlX := He.obsX 4 fas dds [] tfs ex0 (HandSHeadRun.getT s)
theorem ob_eq (s : PySem.W.SharedT) : ob s = hk.obs s.abs := He.obsX_eq (HandSHeadRun.getT_eq s)
theorem run (w : World) : HandSHeadRun.RunEq R (PySem.W.view R.prog [21]) hk ob 2000 ((["SkiError", "OutOfRange", "Malformed", "NotThere", "Refused", "TooMuch", "is_number", "BASE", "count_figures", "times_of", "figure_at", "_law_draws", "_law_take", "_law_alike", "_law_word", "_law_told", "_law_figures"] : List Str)) w := by
  intro os
  kernel_rfl
def cs (K : PySem.W.Frag) : List (Addr × Addr) := tfs.map (He.cT K)
theorem gf {K : PySem.W.Frag} {h : Heap} {mg : Str → Option Value} (X : K.In h) (G : h.Ns mainGlobals mg) (c : He.SaysD fas dds K) : GF mg := by
  constructor
  · exact He.free_ok X G (c.fact 11 (f := .free "abs") rfl)
  · exact He.free_ok X G (c.fact 12 (f := .free "bool") rfl)
  · exact He.free_ok X G (c.fact 13 (f := .free "int") rfl)
  · exact He.free_ok X G (c.fact 14 (f := .free "isinstance") rfl)
  · exact He.free_ok X G (c.fact 15 (f := .free "len") rfl)
  · exact He.free_ok X G (c.fact 16 (f := .free "list") rfl)
  · exact He.free_ok X G (c.fact 17 (f := .free "min") rfl)
  · exact He.free_ok X G (c.fact 18 (f := .free "range") rfl)
  · exact He.free_ok X G (c.fact 19 (f := .free "reversed") rfl)
  · exact He.free_ok X G (c.fact 20 (f := .free "str") rfl)
  · exact He.free_ok X G (c.fact 21 (f := .free "sum") rfl)
  · exact He.free_ok X G (c.fact 22 (f := .free "tuple") rfl)
  · exact He.int_ok X G (c.fact 23 (f := .int "BASE" (10)) rfl)
theorem ff {K : PySem.W.Frag} {h base : Heap} {mg : Str → Option Value} (X : K.In h) (G : h.Ns mainGlobals mg) (c : He.SaysD fas dds K) (hT : ∀ p ∈ cs K, GxR.TabB base mg p.1 p.2) (hmore : ex0 K = true) : FF K mg base (tset (cs K)) := by
  have e_SkiError := He.glo_ok X G (c.fact 24 (f := .glo "SkiError") rfl)
  have e_OutOfRange := He.glo_ok X G (c.fact 25 (f := .glo "OutOfRange") rfl)
  have e_Refused := He.glo_ok X G (c.fact 26 (f := .glo "Refused") rfl)
  have e_Malformed := He.glo_ok X G (c.fact 27 (f := .glo "Malformed") rfl)
  have e_NotThere := He.glo_ok X G (c.fact 28 (f := .glo "NotThere") rfl)
  have e_TooMuch := He.glo_ok X G (c.fact 29 (f := .glo "TooMuch") rfl)
  constructor
  · exact gf X G c
  · exact e_SkiError
  · exact e_OutOfRange
  · exact e_Refused
  · exact e_Malformed
  · exact e_NotThere
  · exact e_TooMuch
  · intro c hc
    unfold errs at hc
    simp only [List.mem_cons, List.not_mem_nil, or_false] at hc
    rcases hc with rfl | rfl | rfl | rfl | rfl
    · exact e_OutOfRange
    · exact e_Refused
    · exact e_Malformed
    · exact e_NotThere
    · exact e_TooMuch
  · exact He_exc e_OutOfRange (c.fact 30 (f := .exc "OutOfRange") rfl)
  · exact wf_of hmore
  · exact c.def_ 0 (d := dd_is_number) rfl
  · exact He.glo_ok X G (c.fact 0 (f := .glo "is_number") rfl)
  · exact c.def_ 1 (d := dd_count_figures) rfl
  · exact He.glo_ok X G (c.fact 1 (f := .glo "count_figures") rfl)
  · exact c.def_ 2 (d := dd_figure_at) rfl
  · exact He.glo_ok X G (c.fact 2 (f := .glo "figure_at") rfl)
  · exact c.def_ 3 (d := dd__law_draws) rfl
  · exact He.glo_ok X G (c.fact 3 (f := .glo "_law_draws") rfl)
  · exact c.def_ 4 (d := dd__law_take) rfl
  · exact He.glo_ok X G (c.fact 4 (f := .glo "_law_take") rfl)
  · exact c.def_ 5 (d := dd__law_word) rfl
  · exact He.glo_ok X G (c.fact 5 (f := .glo "_law_word") rfl)
  · exact c.def_ 6 (d := dd__law_figures) rfl
  · exact He.glo_ok X G (c.fact 6 (f := .glo "_law_figures") rfl)
  · exact c.def_ 7 (d := dd_times_of) rfl
  · exact He.glo_ok X G (c.fact 7 (f := .glo "times_of") rfl)
  · exact c.def_ 8 (d := dd__law_told) rfl
  · exact He.glo_ok X G (c.fact 8 (f := .glo "_law_told") rfl)
  · exact c.def_ 9 (d := dd__law_alike) rfl
  · exact He.glo_ok X G (c.fact 9 (f := .glo "_law_alike") rfl)
  · exact c.def_ 10 (d := dd_law) rfl
  · exact He.glo_ok X G (c.fact 10 (f := .glo "law") rfl)
end Vs.k37

set_option Elab.async false
set_option linter.all false
set_option maxRecDepth 100000
set_option maxHeartbeats 0
namespace Vs.k37
open PySem PySem.Spec PyProof.Rows L2
end Vs.k37
open PySem PySem.W PySem.Calls PyProof.Rows
theorem PySem.Challenge.cw_skisheld_k37_whole_figures_on_posts_holds : PySem.Challenge.rw_skisheld_k37_whole_figures_on_posts.Holds := by
  w_on; o_law
  refine HandSHeadRun.head_any (r := OpenLaw.row PySem.Challenge.rw_skisheld_k37_whole_figures_on_posts) (q := view (OpenLaw.row PySem.Challenge.rw_skisheld_k37_whole_figures_on_posts).prog [21]) (H := Vs.k37.hk) (ob := Vs.k37.ob) (M := 2000) (loose := Vs.k37.loose) (d := HandSHeadRun.topDef (OpenLaw.row PySem.Challenge.rw_skisheld_k37_whole_figures_on_posts).prog 21) (kwd := []) Vs.k37.ob_eq
    (by kernel_rfl) (fun s => by kernel_rfl) Vs.k37.run (by kernel_rfl) (by kernel_rfl) (by kernel_rfl) (by rfl) (by first | assumption | decide +kernel) (by decide +kernel) ⟨rfl, rfl, rfl, rfl, rfl, by decide +kernel⟩ ?hw ?hc
  case hw => w_witness2
  case hc =>
    refine LamX.walk_ofTsE (l := PySem.Challenge.rw_skisheld_k37_whole_figures_on_posts) (n := 63) (k := 10) (x := "script") (CX := fun w => L2N.CX PySem.Challenge.rw_skisheld_k37_whole_figures_on_posts.prog w) rfl (by decide) (by kernel_rfl) ⟨rfl, by decide, by decide⟩ ?F (fun w H s e s' z => Vs.cx_no w H s e s' z)
    intro w mg fa h Y G hmg0
    obtain ⟨K, KX, c⟩ := Y
    have hmg : mg ("law" : PySem.Str) = some (.ref fa) := by
      have e : (HandSHeadRun.topDef (OpenLaw.row PySem.Challenge.rw_skisheld_k37_whole_figures_on_posts).prog 21).name = ("law" : PySem.Str) := by kernel_rfl
      rw [← e]
      exact hmg0
    have cd : He.SaysD Vs.k37.fas Vs.k37.dds K := c.t.d
    obtain ⟨fd, Fd⟩ := cd.def_ 10 (d := Vs.k37.dd_law) rfl
    have e := hmg.symm.trans (He.glo_ok KX G (cd.fact 10 (f := .glo "law") rfl))
    cases e
    refine ⟨K, KX, Vs.law_at (Vs.k37.cs K) (M := Vs.k37.C_law) (fd := fd) (fun p hp => ?_) (fun p hp => ?_) (fun p hp => ?_) (fun s u => ?_) Vs.k37.law_true fun base b1 b2 b3 => ?_⟩
    · obtain ⟨q, hq, rfl⟩ := List.mem_map.mp hp
      exact c.empty q hq
    · obtain ⟨q, hq, rfl⟩ := List.mem_map.mp hp
      exact c.out q hq
    · obtain ⟨q, hq, rfl⟩ := List.mem_map.mp hp
      exact PySem.W.codeHd_of_K KX (c.hd q hq)
    · exact L2.FunD.bindsA (ps := ["script"]) Fd (fun _ _ _ _ _ _ us hl => match us, hl with | [_], _ => rfl) s [u] rfl
    · exact Vs.k37.law_fn (P := PySem.Challenge.rw_skisheld_k37_whole_figures_on_posts.prog) (w := w) (Vs.k37.ff (base := base) KX G cd b3 c.more) Fd

