import PyProof.Rows.All
import Wide.All
import OpenK.AllK
import Wide.FinOn
import HandS.ForMost
import HandS.Exc
import HandS.ExcOwn
import HandS.ExcInit
import HandS.WordsExc
import HandS.TryOnly
import HandS.Defaults
import HandS.Deep
import HandS.Conv
import HandS.TupAny
import HandS.Rev
import HandS.RevRange
import HandS.Zip
import HandS.Flow
import HandS.Walk
import KE.KeyNested
import HandS.HeadHook1
import HandS.HeadHook2
import HandS.IsInst
import HandS.HeadEnd
import KE.KExcSuper
import HandS.ExcField
import HandS.ExcIs
import HandS.Words
import HandS.Head0
import HandS.Head1
import HandS.Head2
import PySem.Challenge.RW_migraproof_k79_text_rows_in_order
set_option Elab.async false
set_option linter.all false
set_option maxRecDepth 100000
/-! VS1: the value semantics' domain: data, slots, results; how data lies in the abstract heap; the state relation. -/
namespace VS
open PySem PySem.Spec PyProof.Rows L2

abbrev D := PyData
abbrev Sto := List (Option V)
/-- a slot of the frame: unbound; frozen data (shared, never changed); a container of our own, n levels deep -/
inductive Sl where
  | un | fz (d : D) | ow (n : Nat) (d : D)
abbrev En := List Sl
/-- a value of an expression -/
inductive Vl where
  | fz (d : D) | ow (n : Nat) (d : D)
def Vl.d : Vl → D
  | .fz d => d
  | .ow _ d => d
def Vl.sl : Vl → Sl
  | .fz d => .fz d
  | .ow n d => .ow n d
inductive Rs (α : Type) where
  | ok (a : α) | exc (c : Str) (fs : List (Str × D)) (e : En) | stuck
def Rs.bind {α β : Type} (r : Rs α) (f : α → Rs β) : Rs β := match r with
  | .ok a => f a
  | .exc c fs e => .exc c fs e
  | .stuck => .stuck
inductive Out where
  | nx (e : En) | bk (e : En) | ct (e : En) | rt (x : Vl) (e : En) | exc (c : Str) (fs : List (Str × D)) (e : En) | stuck
abbrev Ev := En → Rs (Vl × En)
abbrev Tv := En → Rs (Bool × En)
abbrev Av := En → Rs (List D × En)
abbrev Sv := En → Out

/-! ### data in the abstract heap -/
def isMut : D → Bool
  | .list _ => true
  | .dict _ => true
  | _ => false
def Sub (F H : Hp) : Prop := ∀ a o, F a = some o → H a = some o
theorem Sub.refl (F : Hp) : Sub F F := fun _ _ h => h
theorem Sub.trans {F G H : Hp} (a : Sub F G) (b : Sub G H) : Sub F H := fun x o h => b x o (a x o h)
theorem SqL.sub {K : PySem.W.Frag} {F H : Hp} {a : Addr} {xs : List V} (s : Sub F H) (h : SqL K F a xs) : SqL K H a xs := by
  rcases h with (h | ⟨o, h⟩) | h
  · exact .inl (.inl (s _ _ h))
  · exact .inl (.inr ⟨o, s _ _ h⟩)
  · exact .inr h
theorem SqT.sub {K : PySem.W.Frag} {F H : Hp} {a : Addr} {xs : List V} (s : Sub F H) (h : SqT K F a xs) : SqT K H a xs := by
  rcases h with (h | ⟨o, h⟩) | h
  · exact .inl (.inl (s _ _ h))
  · exact .inl (.inr ⟨o, s _ _ h⟩)
  · exact .inr h
/-- a list that the written part holds -/
def KL (K : PySem.W.Frag) (a : Addr) (xs : List V) : Prop := ∃ (its : List Value) (n : Nat), K.lookup a = some { cls := .type "list", data := .seq its.toArray n } ∧ xs.length ≤ sizeLine ∧ Vals xs its
def RdK (K : PySem.W.Frag) (F : Hp) (a : Addr) (xs : List V) : Prop := Rd F a (.lst xs) ∨ KL K a xs
theorem RdK.sub {K : PySem.W.Frag} {F H : Hp} {a : Addr} {xs : List V} (s : Sub F H) (h : RdK K F a xs) : RdK K H a xs := h.imp (fun h => h.elim (fun q => .inl (s _ _ q)) fun ⟨u, q⟩ => .inr ⟨u, s _ _ q⟩) id
theorem RdK.sq {K : PySem.W.Frag} {H : Hp} {a : Addr} {xs : List V} (h : RdK K H a xs) : SqL K H a xs := h.imp id fun ⟨its, n, h1, h2, h3⟩ => ⟨_, its.toArray, n, h1, rfl, rfl, rfl, by rw [List.size_toArray, ← h3.length]; exact h2, by simpa using h3⟩
/-- the written part, the world -/
structure KW where
  k : PySem.W.Frag
  w : World
/-- a dict's object: its entries as they stand -/
def DicO (a : Addr) (es : Array DictEntry) : HO := .ext fun h => ∃ o ep, h.get? a = some o ∧ o.ExactDict ∧ o.data = .dict es ep
mutual
/-- a key, up to == -/
def toKey : D → Option NestedKey
  | .none => some .none
  | .bool b => some (.num (if b then 1 else 0))
  | .int i => some (.num i)
  | .str x => some (.text x)
  | .tuple ds => (toKeys ds).map .tup
  | .list _ => none
  | .dict _ => none
def toKeys : List D → Option (List NestedKey)
  | [] => some []
  | d :: ds => (toKey d).bind fun k => (toKeys ds).map (k :: ·)
end
mutual
/-- v lies frozen in F as d -/
inductive Den (K : KW) (F : Hp) : V → D → Prop
  | non : Den K F .non .none
  | bl (b : Bool) : Den K F (.bl b) (.bool b)
  | int (i : Int) : Den K F (.int i) (.int i)
  | str (x : Str) : Den K F (.str x) (.str x)
  | lst {a : Addr} {xs : List V} {ds : List D} : RdK K.k F a xs → DenAll K F xs ds → Den K F (.ref a) (.list ds)
  | tup {a : Addr} {xs : List V} {ds : List D} : SqT K.k F a xs → DenAll K F xs ds → Den K F (.ref a) (.tuple ds)
  | dic {a : Addr} {es : Array DictEntry} {kvs : List (D × D)} : F a = some (DicO a es) → (a == sysModules) = false → DenKV K F es.toList kvs → (kvs.map fun p => toKey p.1).Nodup → Den K F (.ref a) (.dict kvs)
inductive DenAll (K : KW) (F : Hp) : List V → List D → Prop
  | nil : DenAll K F [] []
  | cons {v : V} {vs : List V} {d : D} {ds : List D} : Den K F v d → DenAll K F vs ds → DenAll K F (v :: vs) (d :: ds)
inductive DenKV (K : KW) (F : Hp) : List DictEntry → List (D × D) → Prop
  | nil : DenKV K F [] []
  | cons {e : DictEntry} {es : List DictEntry} {vk vv : V} {nk : NestedKey} {dk dv : D} {kvs : List (D × D)} : RelV vk e.key → Den K F vk dk → toKey dk = some nk → e.hash = nk.hash K.w → RelV vv e.val → Den K F vv dv → DenKV K F es kvs → DenKV K F (e :: es) ((dk, dv) :: kvs)
end
theorem Rd.sub {F H : Hp} {a : Addr} {o : HO} (s : Sub F H) (h : Rd F a o) : Rd H a o := h.elim (fun q => .inl (s _ _ q)) fun ⟨u, q⟩ => .inr ⟨u, s _ _ q⟩
mutual
theorem Den.sub {K : KW} {F H : Hp} (s : Sub F H) : ∀ (d : D) (v : V), Den K F v d → Den K H v d
  | .none, _, h => by cases h; exact .non
  | .bool b, _, h => by cases h; exact .bl b
  | .int i, _, h => by cases h; exact .int i
  | .str x, _, h => by cases h; exact .str x
  | .list ds, _, h => by
    cases h with
    | lst hs ha => exact .lst (RdK.sub s hs) (DenAll.sub s ds _ ha)
  | .tuple ds, _, h => by
    cases h with
    | tup hs ha => exact .tup (SqT.sub s hs) (DenAll.sub s ds _ ha)
  | .dict kvs, _, h => by
    cases h with
    | dic hs hm ha hn => exact .dic (s _ _ hs) hm (DenKV.sub s kvs _ ha) hn
theorem DenAll.sub {K : KW} {F H : Hp} (s : Sub F H) : ∀ (ds : List D) (vs : List V), DenAll K F vs ds → DenAll K H vs ds
  | [], _, h => by cases h; exact .nil
  | d :: ds, _, h => by
    cases h with
    | cons h1 h2 => exact .cons (Den.sub s d _ h1) (DenAll.sub s ds _ h2)
theorem DenKV.sub {K : KW} {F H : Hp} (s : Sub F H) : ∀ (kvs : List (D × D)) (es : List DictEntry), DenKV K F es kvs → DenKV K H es kvs
  | [], _, h => by cases h; exact .nil
  | (dk, dv) :: kvs, _, h => by
    cases h with
    | cons h1 h2 h3 h4 h5 h6 h7 => exact .cons h1 (Den.sub s dk _ h2) h3 h4 h5 (Den.sub s dv _ h6) (DenKV.sub s kvs _ h7)
end
theorem DenAll.length {K : KW} {F : Hp} : ∀ {ds : List D} {vs : List V}, DenAll K F vs ds → vs.length = ds.length
  | [], _, h => by cases h; rfl
  | d :: ds, _, h => by
    cases h with
    | cons h1 h2 => simp [DenAll.length h2]
theorem DenAll.get {K : KW} {F : Hp} : ∀ {ds : List D} {vs : List V} {i : Nat} {d : D}, DenAll K F vs ds → ds[i]? = some d → ∃ v, vs[i]? = some v ∧ Den K F v d
  | [], _, _, _, _, e => by simp at e
  | _ :: _, _, 0, _, h, e => by
    cases h with
    | cons h1 h2 =>
      simp only [List.getElem?_cons_zero, Option.some.injEq] at e
      subst e
      exact ⟨_, rfl, h1⟩
  | _ :: _, _, i + 1, d, h, e => by
    cases h with
    | cons h1 h2 =>
      obtain ⟨v, q1, q2⟩ := DenAll.get (i := i) (d := d) h2 (by simpa using e)
      exact ⟨v, by simpa using q1, q2⟩
theorem DenAll.append {K : KW} {F : Hp} : ∀ {ds es : List D} {vs ws : List V}, DenAll K F vs ds → DenAll K F ws es → DenAll K F (vs ++ ws) (ds ++ es)
  | [], _, _, _, h, g => by cases h; exact g
  | _ :: _, _, _, _, h, g => by
    cases h with
    | cons h1 h2 => exact .cons h1 (DenAll.append h2 g)
theorem DenAll.take {K : KW} {F : Hp} : ∀ {ds : List D} {vs : List V} (n : Nat), DenAll K F vs ds → DenAll K F (vs.take n) (ds.take n)
  | _, _, 0, _ => by simpa using DenAll.nil
  | [], _, _ + 1, h => by cases h; simpa using DenAll.nil
  | _ :: _, _, n + 1, h => by
    cases h with
    | cons h1 h2 => exact .cons h1 (DenAll.take n h2)
theorem DenAll.drop {K : KW} {F : Hp} : ∀ {ds : List D} {vs : List V} (n : Nat), DenAll K F vs ds → DenAll K F (vs.drop n) (ds.drop n)
  | _, _, 0, h => h
  | [], _, _ + 1, h => by cases h; simpa using DenAll.nil
  | _ :: _, _, n + 1, h => by
    cases h with
    | cons h1 h2 => exact DenAll.drop n h2
theorem DenAll.set {K : KW} {F : Hp} {v : V} {d : D} (r : Den K F v d) : ∀ {ds : List D} {vs : List V} (i : Nat), DenAll K F vs ds → DenAll K F (vs.set i v) (ds.set i d)
  | [], _, _, h => by cases h; simpa using DenAll.nil
  | _ :: _, _, 0, h => by
    cases h with
    | cons h1 h2 => exact .cons r h2
  | _ :: _, _, i + 1, h => by
    cases h with
    | cons h1 h2 => exact .cons h1 (DenAll.set r i h2)
theorem DenAll.reverse {K : KW} {F : Hp} : ∀ {ds : List D} {vs : List V}, DenAll K F vs ds → DenAll K F vs.reverse ds.reverse
  | [], _, h => by cases h; simpa using DenAll.nil
  | _ :: _, _, h => by
    cases h with
    | cons h1 h2 =>
      rw [List.reverse_cons, List.reverse_cons]
      exact DenAll.append (DenAll.reverse h2) (.cons h1 .nil)
theorem DenAll.inj_len {K : KW} {F : Hp} {ds : List D} {vs : List V} (h : DenAll K F vs ds) {i : Nat} {v : V} (e : vs[i]? = some v) : ∃ d, ds[i]? = some d ∧ Den K F v d := by
  have hl := DenAll.length h
  obtain ⟨hi, _⟩ := List.getElem?_eq_some_iff.mp e
  have hd : i < ds.length := by omega
  obtain ⟨w, h1, h2⟩ := DenAll.get h (List.getElem?_eq_getElem hd)
  rw [e] at h1
  cases h1
  exact ⟨_, List.getElem?_eq_getElem hd, h2⟩

/-- what may be shared -/
def Kd (o : HO) : Prop := (∃ xs, o = .lst xs) ∨ (∃ xs, o = .tup xs) ∨ (∃ ob u, o = .frz ob u) ∨ ∃ a es, o = DicO a es

/-! ### what is our own -/
inductive OwL (P : V → D → List Addr → Prop) : List V → List D → List Addr → Prop
  | nil : OwL P [] [] []
  | cons {v : V} {vs : List V} {d : D} {ds : List D} {A B : List Addr} : P v d A → OwL P vs ds B → (∀ a ∈ A, a ∉ B) → OwL P (v :: vs) (d :: ds) (A ++ B)
/-- v is d, its containers to n levels our own, at the addresses A; the rest lies frozen in F -/
def Own (K : KW) (F H : Hp) : Nat → V → D → List Addr → Prop
  | 0, v, d, A => A = [] ∧ Den K F v d
  | n + 1, v, d, A => match d with
    | .list ds => ∃ a xs B, v = .ref a ∧ H a = some (.lst xs) ∧ F a = none ∧ A = a :: B ∧ a ∉ B ∧ OwL (Own K F H n) xs ds B
    | d => A = [] ∧ Den K F v d
theorem OwL.length {P : V → D → List Addr → Prop} : ∀ {vs : List V} {ds : List D} {A : List Addr}, OwL P vs ds A → vs.length = ds.length
  | _, _, _, .nil => rfl
  | _, _, _, .cons _ t _ => by simp [OwL.length t]
theorem OwL.imp {P Q : V → D → List Addr → Prop} : ∀ {vs : List V} {ds : List D} {A : List Addr}, OwL P vs ds A → (∀ v d B, (∀ a ∈ B, a ∈ A) → P v d B → Q v d B) → OwL Q vs ds A
  | _, _, _, .nil, _ => .nil
  | _, _, _, .cons h t n, f => .cons (f _ _ _ (fun a ha => List.mem_append_left _ ha) h) (OwL.imp t fun v d B hB => f v d B fun a ha => List.mem_append_right _ (hB a ha)) n
theorem OwL.get {P : V → D → List Addr → Prop} : ∀ {vs : List V} {ds : List D} {A : List Addr} {i : Nat} {d : D}, OwL P vs ds A → ds[i]? = some d → ∃ v B, vs[i]? = some v ∧ (∀ a ∈ B, a ∈ A) ∧ P v d B
  | _, _, _, _, _, .nil, e => by simp at e
  | _, _, _, 0, _, .cons h t _, e => by
    simp only [List.getElem?_cons_zero, Option.some.injEq] at e
    subst e
    exact ⟨_, _, rfl, fun a ha => List.mem_append_left _ ha, h⟩
  | _, _, _, i + 1, d, .cons h t _, e => by
    obtain ⟨v, B, h1, h2, h3⟩ := OwL.get (i := i) (d := d) t (by simpa using e)
    exact ⟨v, B, by simpa using h1, fun a ha => List.mem_append_right _ (h2 a ha), h3⟩
theorem OwL.append {P : V → D → List Addr → Prop} : ∀ {vs ws : List V} {ds es : List D} {A B : List Addr}, OwL P vs ds A → OwL P ws es B → (∀ a ∈ A, a ∉ B) → OwL P (vs ++ ws) (ds ++ es) (A ++ B)
  | _, _, _, _, _, _, .nil, g, _ => g
  | _, _, _, _, _, _, .cons (A := A1) (B := A2) h t n, g, dj => by
    rw [List.append_assoc]
    refine .cons h (OwL.append t g fun a ha => dj a (List.mem_append_right _ ha)) fun a ha hb => ?_
    rcases List.mem_append.mp hb with hb | hb
    · exact n a ha hb
    · exact dj a (List.mem_append_left _ ha) hb
theorem own_tracked {K : KW} {F H : Hp} : ∀ (n : Nat) {v : V} {d : D} {A : List Addr}, Own K F H n v d A → ∀ a ∈ A, (∃ o, H a = some o ∧ Kd o) ∧ F a = none
  | 0, _, _, _, h, a, ha => by
    rw [h.1] at ha
    cases ha
  | n + 1, v, d, A, h, a, ha => by
    cases d with
    | list ds =>
      obtain ⟨b, xs, B, _, hb, fb, rfl, _, t⟩ := h
      rcases List.mem_cons.mp ha with rfl | ha
      · exact ⟨⟨_, hb, .inl ⟨xs, rfl⟩⟩, fb⟩
      · have key : ∀ {vs : List V} {ds : List D} {B : List Addr}, OwL (Own K F H n) vs ds B → ∀ a ∈ B, (∃ o, H a = some o ∧ Kd o) ∧ F a = none := by
          intro vs ds B t
          induction t with
          | nil => intro a ha; cases ha
          | cons h t nd ih =>
            intro a ha
            rcases List.mem_append.mp ha with ha | ha
            · exact own_tracked n h a ha
            · exact ih a ha
        exact key t a ha
    | _ =>
      obtain ⟨e, _⟩ := h
      rw [e] at ha
      cases ha
theorem own_nodup {K : KW} {F H : Hp} : ∀ (n : Nat) {v : V} {d : D} {A : List Addr}, Own K F H n v d A → A.Nodup
  | 0, _, _, _, h => by
    rw [h.1]
    exact List.nodup_nil
  | n + 1, v, d, A, h => by
    cases d with
    | list ds =>
      obtain ⟨b, xs, B, _, hb, fb, rfl, nb, t⟩ := h
      refine List.nodup_cons.mpr ⟨nb, ?_⟩
      have key : ∀ {vs : List V} {ds : List D} {B : List Addr}, OwL (Own K F H n) vs ds B → B.Nodup := by
        intro vs ds B t
        induction t with
        | nil => exact List.nodup_nil
        | cons h t nd ih =>
          rw [List.nodup_append]
          exact ⟨own_nodup n h, ih, fun a ha b hb e => nd a ha (e ▸ hb)⟩
      exact key t
    | _ =>
      obtain ⟨e, _⟩ := h
      rw [e]
      exact List.nodup_nil
/-- kept where its own addresses and what is frozen are kept -/
theorem own_keep {K : KW} {F H F' H' : Hp} (s : Sub F F') : ∀ (n : Nat) {v : V} {d : D} {A : List Addr}, Own K F H n v d A → (∀ a ∈ A, F' a = none) → (∀ a ∈ A, H' a = H a) → Own K F' H' n v d A
  | 0, _, d, _, h, _, _ => ⟨h.1, Den.sub s d _ h.2⟩
  | n + 1, v, d, A, h, hf, hh => by
    cases d with
    | list ds =>
      obtain ⟨b, xs, B, e, hb, fb, rfl, nb, t⟩ := h
      refine ⟨b, xs, B, e, (hh b List.mem_cons_self).trans hb, hf b List.mem_cons_self, rfl, nb, t.imp fun v d C hC q => ?_⟩
      exact own_keep s n q (fun a ha => hf a (List.mem_cons_of_mem _ (hC a ha))) (fun a ha => hh a (List.mem_cons_of_mem _ (hC a ha)))
    | _ => exact ⟨h.1, Den.sub s _ _ h.2⟩
/-- frozen: its addresses are shared from now on -/
theorem own_freeze {K : KW} {F H F' : Hp} (s : Sub F F') : ∀ (n : Nat) {v : V} {d : D} {A : List Addr}, Own K F H n v d A → (∀ a ∈ A, F' a = H a) → Den K F' v d
  | 0, _, d, _, h, _ => Den.sub s d _ h.2
  | n + 1, v, d, A, h, hf => by
    cases d with
    | list ds =>
      obtain ⟨b, xs, B, rfl, hb, fb, rfl, nb, t⟩ := h
      refine .lst (.inl (.inl ((hf b List.mem_cons_self).trans hb))) ?_
      have hB : ∀ a ∈ B, F' a = H a := fun a ha => hf a (List.mem_cons_of_mem _ ha)
      have key : ∀ {vs : List V} {ds : List D} {B : List Addr}, OwL (Own K F H n) vs ds B → (∀ a ∈ B, F' a = H a) → DenAll K F' vs ds := by
        intro vs ds B t
        induction t with
        | nil => intro _; exact .nil
        | cons h t nd ih =>
          intro hB
          exact .cons (own_freeze s n h fun a ha => hB a (List.mem_append_left _ ha)) (ih fun a ha => hB a (List.mem_append_right _ ha))
      exact key t hB
    | _ => exact Den.sub s _ _ h.2
/-- read where it stands -/
theorem own_reads {K : KW} {F H : Hp} (s : Sub F H) (n : Nat) {v : V} {d : D} {A : List Addr} (h : Own K F H n v d A) : Den K H v d := own_freeze s n h fun _ _ => rfl

/-! ### the state -/
def Onn (As : Nat → List Addr) (a : Addr) : Prop := ∃ i, a ∈ As i
def SlOk (K : KW) (F H : Hp) (x : Sl) (v : Option V) (A : List Addr) : Prop := match x with
  | .un => A = []
  | .fz d => A = [] ∧ ∃ u, v = some u ∧ Den K F u d
  | .ow n d => ∃ u, v = some u ∧ Own K F H n u d A
def VlOk (K : KW) (F H : Hp) (x : Vl) (v : V) (A : List Addr) : Prop := match x with
  | .fz d => A = [] ∧ Den K F v d
  | .ow n d => Own K F H n v d A
structure Rel (K : KW) (F : Hp) (e : En) (As : Nat → List Addr) (σ : Sto) (H : Hp) : Prop where
  sub : Sub F H
  len : e.length = σ.length
  slot : ∀ i x, e[i]? = some x → ∃ v, σ[i]? = some v ∧ SlOk K F H x v (As i)
  out : ∀ i, e.length ≤ i → As i = []
  dj : ∀ i j a, i ≠ j → a ∈ As i → a ∉ As j
  /-- what is frozen stands still -/
  frz : ∀ a o, F a = some o → Kd o
theorem SlOk.tracked {K : KW} {F H : Hp} {x : Sl} {v : Option V} {A : List Addr} (h : SlOk K F H x v A) : ∀ a ∈ A, (∃ o, H a = some o ∧ Kd o) ∧ F a = none := by
  cases x with
  | un => intro a ha; rw [show A = [] from h] at ha; cases ha
  | fz d => intro a ha; rw [h.1] at ha; cases ha
  | ow n d =>
    obtain ⟨u, _, q⟩ := h
    exact own_tracked n q
theorem Rel.tracked {K : KW} {F : Hp} {e : En} {As : Nat → List Addr} {σ : Sto} {H : Hp} (r : Rel K F e As σ H) {i : Nat} {a : Addr} (ha : a ∈ As i) : (∃ o, H a = some o ∧ Kd o) ∧ F a = none := by
  by_cases hi : i < e.length
  · obtain ⟨v, _, q⟩ := r.slot i _ (List.getElem?_eq_getElem hi)
    exact q.tracked a ha
  · rw [r.out i (by omega)] at ha
    cases ha
theorem Rel.onn {K : KW} {F : Hp} {e : En} {As : Nat → List Addr} {σ : Sto} {H : Hp} (r : Rel K F e As σ H) {a : Addr} (ha : Onn As a) : (∃ o, H a = some o ∧ Kd o) ∧ F a = none := by
  obtain ⟨i, hi⟩ := ha
  exact r.tracked hi
theorem SlOk.keep {K : KW} {F H F' H' : Hp} (s : Sub F F') {x : Sl} {v : Option V} {A : List Addr} (h : SlOk K F H x v A) (hf : ∀ a ∈ A, F' a = none) (hh : ∀ a ∈ A, H' a = H a) : SlOk K F' H' x v A := by
  cases x with
  | un => exact h
  | fz d => exact ⟨h.1, h.2.elim fun u q => ⟨u, q.1, Den.sub s d _ q.2⟩⟩
  | ow n d =>
    obtain ⟨u, e, q⟩ := h
    exact ⟨u, e, own_keep s n q hf hh⟩

/-- what an evaluation may do: own things of the slots may change or be shared; new things may come; all else stands -/
structure Ext (F H : Hp) (As : Nat → List Addr) (F' H' : Hp) (As' : Nat → List Addr) : Prop where
  ff : Sub F F'
  fn : ∀ a, (∃ o, H a = some o) → ¬ Onn As a → F a = none → F' a = none
  hh : ∀ a o, H a = some o → ¬ Onn As a → H' a = some o
  oo : ∀ a, Onn As' a → Onn As a ∨ H a = none
theorem Ext.refl {F H : Hp} {As : Nat → List Addr} : Ext F H As F H As := ⟨Sub.refl _, fun _ _ _ h => h, fun _ _ h _ => h, fun _ h => .inl h⟩
theorem Ext.trans {F H F1 H1 F2 H2 : Hp} {As As1 As2 : Nat → List Addr} (a : Ext F H As F1 H1 As1) (b : Ext F1 H1 As1 F2 H2 As2) : Ext F H As F2 H2 As2 := by
  have n1 : ∀ x o, H x = some o → ¬ Onn As x → ¬ Onn As1 x := fun x o e n z => by
    rcases a.oo x z with q | q
    · exact n q
    · rw [e] at q; cases q
  refine ⟨a.ff.trans b.ff, fun x ⟨o, e⟩ n f => b.fn x ⟨o, a.hh x o e n⟩ (n1 x o e n) (a.fn x ⟨o, e⟩ n f), fun x o e n => b.hh x o (a.hh x o e n) (n1 x o e n), fun x z => ?_⟩
  rcases b.oo x z with q | q
  · exact a.oo x q
  · cases e : H x with
    | none => exact .inr rfl
    | some o =>
      by_cases n : Onn As x
      · exact .inl n
      · rw [a.hh x o e n] at q; cases q
/-- an object that is new behind the step is new ahead of it, or was our own -/
theorem Ext.back {F H F1 H1 : Hp} {As As1 : Nat → List Addr} (a : Ext F H As F1 H1 As1) {x : Addr} (h : Onn As1 x ∨ H1 x = none) : Onn As x ∨ H x = none := by
  rcases h with h | h
  · exact a.oo x h
  · cases e : H x with
    | none => exact .inr rfl
    | some o =>
      by_cases n : Onn As x
      · exact .inl n
      · rw [a.hh x o e n] at h; cases h
/-- a value of our own that no slot holds -/
structure Fresh (H : Hp) (As As' : Nat → List Addr) (A : List Addr) : Prop where
  new : ∀ a ∈ A, Onn As a ∨ H a = none
  off : ∀ a ∈ A, ¬ Onn As' a
theorem Fresh.nil {H : Hp} {As As' : Nat → List Addr} : Fresh H As As' [] := ⟨fun _ h => (nomatch h), fun _ h => (nomatch h)⟩
theorem Fresh.back {F H F1 H1 : Hp} {As As1 As2 : Nat → List Addr} {A : List Addr} (a : Ext F H As F1 H1 As1) (f : Fresh H1 As1 As2 A) : Fresh H As As2 A := ⟨fun x hx => a.back (f.new x hx), f.off⟩

/-! ### sharing -/
/-- F and the things at A as they stand -/
def shr (F H : Hp) (A : List Addr) : Hp := fun b => if b ∈ A then H b else F b
theorem shr_in {F H : Hp} {A : List Addr} {a : Addr} (h : a ∈ A) : shr F H A a = H a := if_pos h
theorem shr_out {F H : Hp} {A : List Addr} {a : Addr} (h : a ∉ A) : shr F H A a = F a := if_neg h
theorem shr_nil {F H : Hp} : shr F H [] = F := by
  funext b
  exact shr_out (by simp)
theorem shr_sub {F H : Hp} {A : List Addr} (h : ∀ a ∈ A, F a = none) : Sub F (shr F H A) := fun a o e => by
  by_cases ha : a ∈ A
  · rw [h a ha] at e; cases e
  · rw [shr_out ha]; exact e
theorem shr_subH {F H : Hp} {A : List Addr} (s : Sub F H) : Sub (shr F H A) H := fun a o e => by
  by_cases ha : a ∈ A
  · rw [shr_in ha] at e; exact e
  · rw [shr_out ha] at e; exact s _ _ e
/-- a value that nothing holds is shared -/
theorem Rel.share {K : KW} {F : Hp} {e : En} {As : Nat → List Addr} {σ : Sto} {H : Hp} (r : Rel K F e As σ H) {A : List Addr} (hA : ∀ a ∈ A, (∃ o, H a = some o ∧ Kd o) ∧ F a = none) (off : ∀ a ∈ A, ¬ Onn As a) :
    Rel K (shr F H A) e As σ H where
  sub := shr_subH r.sub
  len := r.len
  slot := fun i x h => by
    obtain ⟨v, h1, h2⟩ := r.slot i x h
    exact ⟨v, h1, h2.keep (shr_sub fun a ha => (hA a ha).2) (fun a ha => by
      rw [shr_out fun z => off a z ⟨i, ha⟩]
      exact (r.tracked ha).2) fun _ _ => rfl⟩
  out := r.out
  dj := r.dj
  frz := fun a o h => by
    by_cases ha : a ∈ A
    · rw [shr_in ha] at h
      obtain ⟨⟨o', q, kd⟩, _⟩ := hA a ha
      rw [q] at h
      cases h
      exact kd
    · rw [shr_out ha] at h
      exact r.frz a o h
theorem Ext.share {F H F1 H1 : Hp} {As As1 : Nat → List Addr} (x : Ext F H As F1 H1 As1) {A : List Addr} (hA : ∀ a ∈ A, F1 a = none) (f : ∀ a ∈ A, Onn As a ∨ H a = none) : Ext F H As (shr F1 H1 A) H1 As1 where
  ff := x.ff.trans (shr_sub hA)
  fn := fun a ho n e => by
    by_cases ha : a ∈ A
    · rcases f a ha with q | q
      · exact absurd q n
      · obtain ⟨o, ho⟩ := ho
        rw [q] at ho; cases ho
    · rw [shr_out ha]; exact x.fn a ho n e
  hh := x.hh
  oo := x.oo
theorem VlOk.tracked {K : KW} {F H : Hp} {x : Vl} {v : V} {A : List Addr} (h : VlOk K F H x v A) : ∀ a ∈ A, (∃ o, H a = some o ∧ Kd o) ∧ F a = none := by
  cases x with
  | fz d => intro a ha; rw [h.1] at ha; cases ha
  | ow n d => exact own_tracked n h
theorem VlOk.share {K : KW} {F H : Hp} {x : Vl} {v : V} {A : List Addr} (h : VlOk K F H x v A) : Den K (shr F H A) v x.d := by
  cases x with
  | fz d =>
    obtain ⟨e, q⟩ := h
    rw [e, shr_nil]
    exact q
  | ow n d => exact own_freeze (shr_sub fun a ha => (own_tracked n h a ha).2) n h fun a ha => shr_in ha
theorem VlOk.reads {K : KW} {F H : Hp} (s : Sub F H) {x : Vl} {v : V} {A : List Addr} (h : VlOk K F H x v A) : Den K H v x.d := by
  cases x with
  | fz d => exact Den.sub s d _ h.2
  | ow n d => exact own_reads s n h

/-! ### exceptions -/
/-- an exception of the class called c, its fields fs in order -/
def ExcAt (K : KW) (F H : Hp) (cls : Value) (dx : Option Addr) (c : Str) (fs : List (Str × D)) : Prop :=
  cls = .ref (He.ga K.k c) ∧ match fs with
    | [] => True
    | _ => ∃ d vs, dx = some d ∧ H d = some (.xd ((fs.map (·.1)).zip vs)) ∧ DenAll K F vs (fs.map (·.2))
end VS


set_option Elab.async false
set_option linter.all false
set_option maxRecDepth 100000
/-! VS2: readings by evaluators; new objects; primitives. -/
namespace VS
open PySem PySem.Spec PyProof.Rows L2

abbrev _root_.L2.Cx.KW (X : Cx) : VS.KW := ⟨X.K, X.w⟩
/-! ### the readings -/
def PEx (K : KW) (W : WX) (F H : Hp) (As : Nat → List Addr) (σ : Sto) (c : Str) (fs : List (Str × D)) (e : En) : Prop :=
  ∀ cls dx F' H' As', Ext F H As F' H' As' → Rel K F' e As' σ H' → ExcAt K F' H' cls dx c fs → W cls dx σ H'
def PR {α : Type} (K : KW) (W : WX) (F H : Hp) (As : Nat → List Addr) (σ : Sto) (k : α → Prop) (r : Rs α) : Prop := match r with
  | .ok a => k a
  | .exc c fs e => PEx K W F H As σ c fs e
  | .stuck => False
def PV (K : KW) (F H : Hp) (As : Nat → List Addr) (σ : Sto) (Q : VK) (p : Vl × En) : Prop :=
  ∀ v F' H' As' A, Ext F H As F' H' As' → Rel K F' p.2 As' σ H' → VlOk K F' H' p.1 v A → Fresh H As As' A → Q v H'
/-- the same, the value shared -/
def PVF (K : KW) (F H : Hp) (As : Nat → List Addr) (σ : Sto) (Q : V → Hp → Hp → (Nat → List Addr) → Prop) (p : Vl × En) : Prop :=
  ∀ v F' H' As', Ext F H As F' H' As' → Rel K F' p.2 As' σ H' → Den K F' v p.1.d → Q v F' H' As'
def PB (K : KW) (F H : Hp) (As : Nat → List Addr) (σ : Sto) (Q : Bool → Hp → Prop) (p : Bool × En) : Prop :=
  ∀ F' H' As', Ext F H As F' H' As' → Rel K F' p.2 As' σ H' → Q p.1 H'
def PL (K : KW) (F H : Hp) (As : Nat → List Addr) (σ : Sto) (Q : List V → Hp → Prop) (p : List D × En) : Prop :=
  ∀ vs F' H' As', Ext F H As F' H' As' → Rel K F' p.2 As' σ H' → DenAll K F' vs p.1 → Q vs H'
def tD (K : KW) (W : WX) (f : Ev) : TE := fun σ H Q => ∃ F e As, Rel K F e As σ H ∧ PR K W F H As σ (PV K F H As σ Q) (f e)
def tDT (K : KW) (W : WX) (f : Tv) : TT := fun σ H Q => ∃ F e As, Rel K F e As σ H ∧ PR K W F H As σ (PB K F H As σ Q) (f e)
def tDA (K : KW) (W : WX) (f : Av) : TA := fun σ H Q => ∃ F e As, Rel K F e As σ H ∧ PR K W F H As σ (PL K F H As σ Q) (f e)
abbrev DE (X : Cx) (W : WX) (x : Expr) (f : Ev) : Prop := PE X x (tD X.KW W f)
abbrev DT (X : Cx) (W : WX) (x : Expr) (f : Tv) : Prop := PT X x (tDT X.KW W f)
abbrev DA (X : Cx) (W : WX) (xs : List Expr) (f : Av) : Prop := PA X xs (tDA X.KW W f)

theorem pe_weak {X : Cx} {e : Expr} {t t' : TE} (h : PE X e t) (w : ∀ σ H Q, t' σ H Q → t σ H Q) : PE X e t' := ⟨fun pins s σ H Q I q => h.run pins s σ H Q I (w _ _ _ q)⟩
theorem pt_weak {X : Cx} {e : Expr} {t t' : TT} (h : PT X e t) (w : ∀ σ H Q, t' σ H Q → t σ H Q) : PT X e t' := ⟨fun pins s σ H Q I q => h.run pins s σ H Q I (w _ _ _ q)⟩
theorem pw_weak {X : Cx} {e : Expr} {t t' : TT} (h : PW X e t) (w : ∀ σ H Q, t' σ H Q → t σ H Q) : PW X e t' := ⟨fun wh pins s σ H Q I q => h.run wh pins s σ H Q I (w _ _ _ q)⟩
theorem pa_weak {X : Cx} {e : List Expr} {t t' : TA} (h : PA X e t) (w : ∀ σ H Q, t' σ H Q → t σ H Q) : PA X e t' := ⟨fun pos pins s σ H Q I q => h.run pos pins s σ H Q I (w _ _ _ q)⟩
theorem ps_weak {X : Cx} {e : Stmt} {t t' : TS} (h : PS X e t) (w : ∀ D σ H, t' D σ H → t D σ H) : PS X e t' := ⟨fun pins s σ H D I q => h.run pins s σ H D I (w _ _ _ q)⟩
theorem pss_weak {X : Cx} {e : List Stmt} {t t' : TS} (h : PSs X e t) (w : ∀ D σ H, t' D σ H → t D σ H) : PSs X e t' := ⟨fun pins s σ H D I q => h.run pins s σ H D I (w _ _ _ q)⟩

section
variable {K : KW} {W : WX} {F H F1 H1 : Hp} {As As1 : Nat → List Addr} {σ : Sto}
theorem PEx.on {c : Str} {fs : List (Str × D)} {e : En} (x : Ext F H As F1 H1 As1) (h : PEx K W F H As σ c fs e) : PEx K W F1 H1 As1 σ c fs e :=
  fun cls dx F' H' As' y r z => h cls dx F' H' As' (x.trans y) r z
theorem PR.imp {α : Type} {k k' : α → Prop} {r : Rs α} (h : PR K W F H As σ k r) (f : ∀ a, r = .ok a → k a → k' a) : PR K W F H As σ k' r := by
  cases r with
  | ok a => exact f a rfl h
  | exc c fs e => exact h
  | stuck => exact h
theorem PR.on {α : Type} {k : α → Prop} {r : Rs α} (x : Ext F H As F1 H1 As1) (h : PR K W F H As σ k r) : PR K W F1 H1 As1 σ k r := by
  cases r with
  | ok a => exact h
  | exc c fs e => exact PEx.on x h
  | stuck => exact h
theorem PR.bind {α β : Type} {k : α → Prop} {k' : β → Prop} {r : Rs α} {f : α → Rs β} (h : PR K W F H As σ k' (r.bind f)) (g : ∀ a, r = .ok a → PR K W F H As σ k' (f a) → k a) : PR K W F H As σ k r := by
  cases r with
  | ok a => exact g a rfl h
  | exc c fs e => exact h
  | stuck => exact h
theorem PV.on {Q : VK} {p : Vl × En} (x : Ext F H As F1 H1 As1) (h : PV K F H As σ Q p) : PV K F1 H1 As1 σ Q p :=
  fun v F' H' As' A y r o f => h v F' H' As' A (x.trans y) r o (f.back x)
theorem PB.on {Q : Bool → Hp → Prop} {p : Bool × En} (x : Ext F H As F1 H1 As1) (h : PB K F H As σ Q p) : PB K F1 H1 As1 σ Q p :=
  fun F' H' As' y r => h F' H' As' (x.trans y) r
theorem PL.on {Q : List V → Hp → Prop} {p : List D × En} (x : Ext F H As F1 H1 As1) (h : PL K F H As σ Q p) : PL K F1 H1 As1 σ Q p :=
  fun v F' H' As' y r o => h v F' H' As' (x.trans y) r o
/-- the value that comes is shared -/
theorem tD_share {f : Ev} {e : En} {Q : VK} (r : Rel K F e As σ H) (h : PR K W F H As σ (PVF K F H As σ fun v _ H' _ => Q v H') (f e)) : tD K W f σ H Q := by
  refine ⟨F, e, As, r, h.imp fun p _ q v F' H' As' A x r1 o fr => ?_⟩
  exact q v (shr F' H' A) H' As' (x.share (fun a ha => (o.tracked a ha).2) fr.new) (r1.share o.tracked fr.off) o.share
/-- one evaluation, then what hangs on it -/
theorem tD_then {β : Type} {f : Ev} {g : Vl × En → Rs β} {e : En} {Q : VK} {k : β → Prop} (r : Rel K F e As σ H) (h : PR K W F H As σ k ((f e).bind g))
    (go : ∀ p v F1 H1 As1, f e = .ok p → Ext F H As F1 H1 As1 → Rel K F1 p.2 As1 σ H1 → Den K F1 v p.1.d → PR K W F1 H1 As1 σ k (g p) → Q v H1) : tD K W f σ H Q :=
  tD_share r (h.bind fun p ep q v F1 H1 As1 x r1 d => go p v F1 H1 As1 ep x r1 d (PR.on x q))
end

/-! ### new objects -/
structure New (F H F' H' : Hp) (A : List Addr) : Prop where
  ff : Sub F F'
  fn : ∀ a, (∃ o, H a = some o) → F a = none → F' a = none
  hh : Sub H H'
  nw : ∀ a ∈ A, H a = none
  sub : Sub F' H'
  kind : ∀ a o, F' a = some o → F a = some o ∨ Kd o
section
variable {K : KW} {W : WX} {F H F' H' : Hp} {As : Nat → List Addr} {σ : Sto} {e : En} {A : List Addr} {p : Addr}
theorem New.refl (s : Sub F H) : New F H F H [] := ⟨Sub.refl _, fun _ _ h => h, Sub.refl _, fun _ h => (nomatch h), s, fun _ _ h => .inl h⟩
theorem upd_sub {o : HO} (h : H p = none) : Sub H (upd H p o) := fun a u q => by
  rw [upd_ne (ne_of_none q h)]
  exact q
theorem New.tup {xs : List V} (s : Sub F H) (h : H p = none) : New F H (upd F p (.tup xs)) (upd H p (.tup xs)) [] := by
  have hf : F p = none := by
    cases q : F p with
    | none => rfl
    | some o => rw [s _ _ q] at h; cases h
  refine ⟨upd_sub hf, fun a ⟨o, ho⟩ q => ?_, upd_sub h, fun _ h => (nomatch h), fun a o q => ?_, fun a o q => ?_⟩
  · rw [upd_ne (ne_of_none ho h)]; exact q
  · by_cases ha : a = p
    · subst ha; rw [upd_same] at q ⊢; exact q
    · rw [upd_ne ha] at q ⊢; exact s _ _ q
  · by_cases ha : a = p
    · subst ha; rw [upd_same] at q; cases q; exact .inr (.inr (.inl ⟨xs, rfl⟩))
    · rw [upd_ne ha] at q; exact .inl q
theorem New.lst {xs : List V} (s : Sub F H) (h : H p = none) : New F H F (upd H p (.lst xs)) [p] :=
  ⟨Sub.refl _, fun _ _ q => q, upd_sub h, fun a ha => by
    have e : a = p := by simpa using ha
    subst e; exact h, s.trans (upd_sub h), fun _ _ q => .inl q⟩
theorem New.ext (n : New F H F' H' A) : Ext F H As F' H' As := ⟨n.ff, fun a ho _ q => n.fn a ho q, fun a o q _ => n.hh a o q, fun _ q => .inl q⟩
theorem Rel.new (r : Rel K F e As σ H) (n : New F H F' H' A) : Rel K F' e As σ H' where
  sub := n.sub
  len := r.len
  slot := fun i x h => by
    obtain ⟨v, h1, h2⟩ := r.slot i x h
    refine ⟨v, h1, h2.keep n.ff (fun a ha => ?_) fun a ha => ?_⟩
    · obtain ⟨⟨o', q, _⟩, q2⟩ := r.tracked ha
      exact n.fn a ⟨_, q⟩ q2
    · obtain ⟨⟨o', q, _⟩, q2⟩ := r.tracked ha
      rw [q]
      exact n.hh _ _ q
  out := r.out
  dj := r.dj
  frz := fun a o q => (n.kind a o q).elim (fun q => r.frz a o q) id
theorem New.fresh (n : New F H F' H' A) (r : Rel K F e As σ H) : Fresh H As As A := ⟨fun a ha => .inr (n.nw a ha), fun a ha z => by
  obtain ⟨⟨o', q, _⟩, _⟩ := r.onn z
  rw [n.nw a ha] at q; cases q⟩
/-- the result of a primitive: from the wish of a value to the wish of what it makes -/
theorem PV.prim {Q : VK} {x : Vl} {v : V} (h : PV K F H As σ Q (x, e)) (r : Rel K F e As σ H) (n : New F H F' H' A) (o : VlOk K F' H' x v A) : Q v H' :=
  h v F' H' As A n.ext (r.new n) o (n.fresh r)
theorem DenAll.own : ∀ {xs : List V} {ds : List D}, DenAll K F xs ds → OwL (Own K F H 0) xs ds []
  | _, [], h => by cases h; exact .nil
  | _, d :: ds, h => by
    cases h with
    | cons h1 h2 => exact .cons (A := []) ⟨rfl, h1⟩ (DenAll.own h2) fun _ z => (nomatch z)
theorem vl_lst {xs : List V} {ds : List D} (s : Sub F H) (hp : H p = none) (d : DenAll K F xs ds) : VlOk K F (upd H p (.lst xs)) (.ow 1 (.list ds)) (.ref p) [p] := by
  refine ⟨p, xs, [], rfl, upd_same, ?_, rfl, by simp, DenAll.own d⟩
  cases q : F p with
  | none => rfl
  | some o => rw [s _ _ q] at hp; cases hp
theorem vl_tup {xs : List V} {ds : List D} (s : Sub F H) (hp : H p = none) (d : DenAll K F xs ds) : VlOk K (upd F p (.tup xs)) (upd H p (.tup xs)) (.fz (.tuple ds)) (.ref p) [] := by
  have hf : F p = none := by
    cases q : F p with
    | none => rfl
    | some o => rw [s _ _ q] at hp; cases hp
  exact ⟨rfl, .tup (.inl (.inl upd_same)) (DenAll.sub (upd_sub hf) _ _ d)⟩
end

/-! ### primitives -/
/-- r is met by arguments that are ds, where g tells what comes -/
def Prim (K : KW) (r : List V → Hp → VK → Prop) (g : List D → Option Vl) : Prop :=
  ∀ (F H : Hp) (vs : List V) (ds : List D) (x : Vl) (Q : VK), Sub F H → DenAll K F vs ds → g ds = some x →
    (∀ v F' H' A, New F H F' H' A → VlOk K F' H' x v A → Q v H') → r vs H Q
def Prim2 (K : KW) (r : R2) (g : D → D → Option Vl) : Prop :=
  ∀ (F H : Hp) (v w : V) (d d' : D) (x : Vl) (Q : VK), Sub F H → Den K F v d → Den K F w d' → g d d' = some x →
    (∀ v F' H' A, New F H F' H' A → VlOk K F' H' x v A → Q v H') → r v w H Q
def Prim1 (K : KW) (r : V → Hp → VK → Prop) (g : D → Option Vl) : Prop :=
  ∀ (F H : Hp) (v : V) (d : D) (x : Vl) (Q : VK), Sub F H → Den K F v d → g d = some x →
    (∀ v F' H' A, New F H F' H' A → VlOk K F' H' x v A → Q v H') → r v H Q
def Rs.of {α : Type} : Option α → Rs α
  | some a => .ok a
  | none => .stuck
def eBin (g : D → D → Option Vl) (fa fb : Ev) : Ev := fun e => (fa e).bind fun p => (fb p.2).bind fun q => (Rs.of (g p.1.d q.1.d)).bind fun x => .ok (x, q.2)
def eUn (g : D → Option Vl) (fa : Ev) : Ev := fun e => (fa e).bind fun p => (Rs.of (g p.1.d)).bind fun x => .ok (x, p.2)
def eArgs (g : List D → Option Vl) (fa : Av) : Ev := fun e => (fa e).bind fun p => (Rs.of (g p.1)).bind fun x => .ok (x, p.2)
def aNil : Av := fun e => .ok ([], e)
def aCons (fa : Ev) (fr : Av) : Av := fun e => (fa e).bind fun p => (fr p.2).bind fun q => .ok (p.1.d :: q.1, q.2)
section
variable {K : KW} {W : WX}
theorem PR.of {F H : Hp} {As : Nat → List Addr} {σ : Sto} {α β : Type} {o : Option α} {f : α → Rs β} {k : β → Prop} (h : PR K W F H As σ k ((Rs.of o).bind f)) : ∃ a, o = some a ∧ PR K W F H As σ k (f a) := by
  cases o with
  | none => exact h.elim
  | some a => exact ⟨a, rfl, h⟩
theorem bin_weak {r : R2} {g : D → D → Option Vl} {fa fb : Ev} (p : Prim2 K r g) : ∀ σ H Q, tD K W (eBin g fa fb) σ H Q → tOp r (tD K W fa) (tD K W fb) σ H Q := by
  intro σ H Q ⟨F, e, As, r0, h⟩
  refine tD_then (k := PV K F H As σ Q) r0 h fun p1 v F1 H1 As1 ep x1 r1 d1 h1 => ?_
  refine tD_then (k := PV K F H As σ Q) r1 h1 fun p2 w F2 H2 As2 eq x2 r2 d2 h2 => ?_
  obtain ⟨y, hy, h3⟩ := h2.of
  exact p F2 H2 v w p1.1.d p2.1.d y Q r2.sub (Den.sub x2.ff _ _ d1) d2 hy fun u F' H' A n o => PV.prim (PV.on (x1.trans x2) h3) r2 n o
theorem un_weak {r : V → Hp → VK → Prop} {g : D → Option Vl} {fa : Ev} (p : Prim1 K r g) : ∀ σ H Q, tD K W (eUn g fa) σ H Q → tUn r (tD K W fa) σ H Q := by
  intro σ H Q ⟨F, e, As, r0, h⟩
  refine tD_then (k := PV K F H As σ Q) r0 h fun p1 v F1 H1 As1 ep x1 r1 d1 h1 => ?_
  obtain ⟨y, hy, h3⟩ := h1.of
  exact p F1 H1 v p1.1.d y Q r1.sub d1 hy fun u F' H' A n o => PV.prim (PV.on x1 h3) r1 n o
theorem args_weak {r : List V → Hp → VK → Prop} {g : List D → Option Vl} {fa : Av} (p : Prim K r g) : ∀ σ H Q, tD K W (eArgs g fa) σ H Q → tCB r (tDA K W fa) σ H Q := by
  intro σ H Q ⟨F, e, As, r0, h⟩
  refine ⟨F, e, As, r0, h.bind fun q eq h1 vs F1 H1 As1 x1 r1 d1 => ?_⟩
  obtain ⟨y, hy, h3⟩ := (PR.on x1 h1).of
  exact p F1 H1 vs q.1 y Q r1.sub d1 hy fun u F' H' A n o => PV.prim (PV.on x1 h3) r1 n o
theorem da_nil {X : Cx} : DA X W [] aNil := pa_weak pa_nil fun σ H Q ⟨F, e, As, r0, h⟩ => h [] F H As Ext.refl r0 .nil
theorem da_cons {X : Cx} {a : Expr} {es : List Expr} {fa : Ev} {fr : Av} (ha : DE X W a fa) (hr : DA X W es fr) (hs : starEach (a :: es) X.env = (false, eval a X.env) :: starEach es X.env := by rfl) : DA X W (a :: es) (aCons fa fr) := by
  refine pa_weak (pa_cons ha hr hs) fun σ H Q ⟨F, e, As, r0, h⟩ => ?_
  refine tD_then (k := PL X.KW F H As σ Q) r0 h fun p1 v F1 H1 As1 ep x1 r1 d1 h1 => ?_
  refine ⟨F1, p1.2, As1, r1, h1.bind fun q eq h2 vs F2 H2 As2 x2 r2 d2 => ?_⟩
  exact PL.on (x1.trans x2) h2 (v :: vs) F2 H2 As2 Ext.refl r2 (.cons (Den.sub x2.ff _ _ d1) d2)
/-! names and constants -/
def eVar (i : Nat) : Ev := fun e => match e[i]? with
  | some (.fz d) => .ok (.fz d, e)
  | some (.ow _ d) => .ok (.fz d, e.set i (.fz d))
  | _ => .stuck
def eC (d : D) : Ev := fun e => .ok (.fz d, e)
theorem Rel.fzAt {F H : Hp} {e : En} {As : Nat → List Addr} {σ : Sto} (r : Rel K F e As σ H) {i : Nat} {d : D} (h : e[i]? = some (.fz d)) : ∃ v, σ[i]? = some (some v) ∧ Den K F v d := by
  obtain ⟨v, h1, h2, u, rfl, h3⟩ := r.slot i _ h
  exact ⟨u, h1, h3⟩
theorem Rel.owAt {F H : Hp} {e : En} {As : Nat → List Addr} {σ : Sto} (r : Rel K F e As σ H) {i n : Nat} {d : D} (h : e[i]? = some (.ow n d)) : ∃ v, σ[i]? = some (some v) ∧ Own K F H n v d (As i) := by
  obtain ⟨v, h1, u, rfl, h3⟩ := r.slot i _ h
  exact ⟨u, h1, h3⟩
/-- a slot of our own is shared -/
theorem Rel.shareAt {F H : Hp} {e : En} {As : Nat → List Addr} {σ : Sto} (r : Rel K F e As σ H) {i n : Nat} {d : D} (h : e[i]? = some (.ow n d)) :
    Rel K (shr F H (As i)) (e.set i (.fz d)) (fun j => if j = i then [] else As j) σ H ∧ Ext F H As (shr F H (As i)) H (fun j => if j = i then [] else As j) ∧ ∃ v, σ[i]? = some (some v) ∧ Den K (shr F H (As i)) v d := by
  obtain ⟨v, hv, ho⟩ := r.owAt h
  have hA : ∀ a ∈ As i, F a = none := fun a ha => (r.tracked ha).2
  have hd : Den K (shr F H (As i)) v d := own_freeze (shr_sub hA) n ho fun a ha => shr_in ha
  have hi : i < e.length := (List.getElem?_eq_some_iff.mp h).1
  refine ⟨⟨shr_subH r.sub, by simpa using r.len, fun j x hj => ?_, fun j hj => ?_, fun j k a hjk ha => ?_, fun a o q => ?_⟩, ⟨shr_sub hA, fun a ho n q => ?_, fun a o q _ => q, fun a ⟨j, hj⟩ => ?_⟩, v, hv, hd⟩
  · by_cases e1 : j = i
    · subst e1
      rw [List.getElem?_set_self hi] at hj
      cases hj
      rw [if_pos rfl]
      exact ⟨_, hv, rfl, v, rfl, hd⟩
    · rw [List.getElem?_set_ne (Ne.symm e1)] at hj
      rw [if_neg e1]
      obtain ⟨w, h1, h2⟩ := r.slot j x hj
      exact ⟨w, h1, h2.keep (shr_sub hA) (fun a ha => by
        rw [shr_out (r.dj j i a e1 ha)]
        exact (r.tracked ha).2) fun _ _ => rfl⟩
  · by_cases e1 : j = i
    · rw [if_pos e1]
    · rw [if_neg e1]
      exact r.out j (by simpa using hj)
  · by_cases e1 : j = i
    · rw [if_pos e1] at ha; cases ha
    · rw [if_neg e1] at ha
      by_cases e2 : k = i
      · rw [if_pos e2]; simp
      · rw [if_neg e2]; exact r.dj j k a hjk ha
  · by_cases ha : a ∈ As i
    · rw [shr_in ha] at q
      obtain ⟨⟨o', z, kd⟩, _⟩ := r.tracked ha
      rw [z] at q; cases q
      exact kd
    · rw [shr_out ha] at q; exact r.frz a o q
  · by_cases ha : a ∈ As i
    · exact absurd ⟨i, ha⟩ n
    · rw [shr_out ha]; exact q
  · have hj2 : a ∈ (if j = i then [] else As j) := hj
    by_cases e1 : j = i
    · rw [if_pos e1] at hj2; cases hj2
    · rw [if_neg e1] at hj2; exact .inl ⟨j, hj2⟩
theorem de_var {X : Cx} (i : Nat) {x : Str} {pos : Pos} (hN : X.N[i]? = some x := by rfl) (hv : Vis X.env.scope x := by first | exact Or.inl rfl | exact Or.inr (Or.inl rfl) | exact Or.inr (Or.inr rfl)) (hd : (x == ("__debug__" : Str)) = false := by decide)
    (hcd : (x == ("__classdict__" : Str)) = false := by decide) : DE X W (.Name x pos) (eVar i) := by
  refine pe_weak (pv i hN hv hd hcd) fun σ H Q ⟨F, e, As, r0, h⟩ => ?_
  unfold eVar at h
  cases q : e[i]? with
  | none => rw [q] at h; exact h.elim
  | some s =>
    rw [q] at h
    cases s with
    | un => exact h.elim
    | fz d =>
      obtain ⟨v, h1, h2⟩ := r0.fzAt q
      exact ⟨v, h1, h v F H As [] Ext.refl r0 ⟨rfl, h2⟩ Fresh.nil⟩
    | ow n d =>
      obtain ⟨r1, x1, v, h1, h2⟩ := r0.shareAt q
      exact ⟨v, h1, h v _ H _ [] x1 r1 ⟨rfl, h2⟩ Fresh.nil⟩
theorem c_weak {v : V} {d : D} (h : ∀ F, Den K F v d) : ∀ σ H Q, tD K W (eC d) σ H Q → tC v σ H Q := fun σ H Q ⟨F, e, As, r0, q⟩ => q v F H As [] Ext.refl r0 ⟨rfl, h F⟩ Fresh.nil
theorem de_int {X : Cx} {i j pos} : DE X W (.Constant (.int i) j pos) (eC (.int i)) := pe_weak pe_int (c_weak fun _ => .int i)
theorem de_bl {X : Cx} {b j pos} : DE X W (.Constant (.bool b) j pos) (eC (.bool b)) := pe_weak pe_bl (c_weak fun _ => .bl b)
theorem de_non {X : Cx} {j pos} : DE X W (.Constant .none j pos) (eC .none) := pe_weak pe_non (c_weak fun _ => .non)
theorem de_str {X : Cx} {x j pos} : DE X W (.Constant (.str x) j pos) (eC (.str x)) := pe_weak pe_str (c_weak fun _ => .str x)
/-- a module's constant -/
theorem de_glob {X : Cx} {x : Str} {v : V} {u : Value} {d : D} {pos : Pos} (hg : Gl X x) (hm : X.mg x = some u) (r : RelV v u) (hd : ∀ F, Den X.KW F v d) (hdb : (x == ("__debug__" : Str)) = false := by decide) : DE X W (.Name x pos) (eC d) :=
  pe_weak (pe_glob hg hm r hdb) (c_weak hd)
/-! displays -/
def gTup (ds : List D) : Option Vl := if ds.length ≤ sizeLine then some (.fz (.tuple ds)) else none
def gLst (ds : List D) : Option Vl := if ds.length ≤ sizeLine then some (.ow 1 (.list ds)) else none
theorem tup_prim : Prim K (fun xs H Q => xs.length ≤ sizeLine ∧ ∀ p, H p = none → Q (.ref p) (upd H p (.tup xs))) gTup := by
  intro F H vs ds x Q s d hg k
  unfold gTup at hg
  split at hg
  · rename_i hz
    cases hg
    exact ⟨by rw [DenAll.length d]; exact hz, fun p hp => k _ _ _ _ (New.tup s hp) (vl_tup s hp d)⟩
  · cases hg
theorem lst_prim : Prim K (fun xs H Q => xs.length ≤ sizeLine ∧ ∀ p, H p = none → Q (.ref p) (upd H p (.lst xs))) gLst := by
  intro F H vs ds x Q s d hg k
  unfold gLst at hg
  split at hg
  · rename_i hz
    cases hg
    exact ⟨by rw [DenAll.length d]; exact hz, fun p hp => k _ _ _ _ (New.lst s hp) (vl_lst s hp d)⟩
  · cases hg
theorem de_tup {X : Cx} {es : List Expr} {x1 : Nat} {pos : Pos} {fa : Av} (h : DA X W es fa) : DE X W (.Tuple es x1 pos) (eArgs gTup fa) := pe_weak (pe_tup h) (args_weak tup_prim)
theorem de_lst {X : Cx} {es : List Expr} {pos : Pos} {fa : Av} (h : DA X W es fa) : DE X W (.List es pos) (eArgs gLst fa) := pe_weak (pe_lst h) (args_weak lst_prim)
end
end VS


set_option Elab.async false
set_option linter.all false
set_option maxRecDepth 100000
/-! VS3: primitives: operators, comparisons, built-ins, subscripts, slices. -/
namespace VS
open PySem PySem.Spec PyProof.Rows L2
section
variable {X : Cx}
theorem ite_some {c : Prop} [Decidable c] {α : Type} {a x : α} (h : (if c then some a else none) = some x) : c ∧ a = x := by
  by_cases hc : c
  · rw [if_pos hc] at h
    exact ⟨hc, Option.some.inj h⟩
  · rw [if_neg hc] at h
    cases h
/-! ### operators -/
theorem RdK.lst {pins : List (Addr × Obj)} {σ : Sto} {H : Hp} {s : Shared} {a : Addr} {xs : List V} (I : Inv X pins σ H s) (h : RdK X.K H a xs) :
    xs.length ≤ sizeLine ∧ ∃ (its : List Value) (n : Nat), Vals xs its ∧ s.heap.get? a = some { cls := .type "list", data := .seq its.toArray n } := h.elim (fun h => h.ok I.hok) fun ⟨its, n, h1, h2, h3⟩ => ⟨h2, its, n, h3, I.kIn a _ h1⟩
def rCatR (K : PySem.W.Frag) : R2 := fun x y H Q => ∃ l b xs zs, x = .ref l ∧ y = .ref b ∧ RdK K H l xs ∧ RdK K H b zs ∧ xs.length + zs.length ≤ sizeLine ∧ ∀ p, H p = none → Q (.ref p) (upd H p (.lst (xs ++ zs)))
theorem op_catR : OpR X (binaryOp .Add) (rCatR X.K) := by
  intro pins s σ H x y v u Q I rx ry h
  obtain ⟨l, b, xs, zs, rfl, rfl, hH, hB, hz, q⟩ := h
  cases rx
  cases ry
  obtain ⟨z, its, n, r, e⟩ := RdK.lst I hH
  obtain ⟨z2, its2, n2, r2, e2⟩ := RdK.lst I hB
  have hl := r.length
  have hl2 := r2.length
  refine PySem.P.add_list e e2 ?_ (by rw [List.size_toArray, List.size_toArray]; omega)
  have ea : its.toArray ++ its2.toArray = (its ++ its2).toArray := by simp
  rw [ea]
  exact ⟨.ref _, _, I.lnew (t' := s.toks) (r.append r2) (by rw [List.length_append]; omega), rfl, q _ I.fresh⟩
def rRepR : R2 := fun x y H Q => ∃ l k xs, x = .ref l ∧ y = .int k ∧ H l = some (.lst xs) ∧ -(2 ^ 63) ≤ k ∧ k < 2 ^ 63 ∧ xs.length * k.toNat ≤ sizeLine ∧
  ∀ p, H p = none → Q (.ref p) (upd H p (.lst (List.replicate k.toNat xs).flatten))
def okMul (x : Str) (n : Int) : Bool := decide (0 ≤ n) && decide (n ≤ 16777216) && decide (x.length * n.toNat ≤ 16777216)
theorem okMul_ok {x : Str} {n : Int} (h : okMul x n = true) : MulOk x n := by
  unfold okMul at h
  simp only [Bool.and_eq_true, decide_eq_true_eq] at h
  obtain ⟨⟨h1, h2⟩, h3⟩ := h
  refine ⟨by simp only [Bool.or_eq_false_iff, decide_eq_false_iff_not]; omega, fun hn _ hc => ?_, fun _ _ => ?_⟩
  · have hn' : 0 < n := by omega
    have h4 : (x.length : Int) * n ≤ 16777216 := by
      obtain ⟨k, rfl⟩ := Int.eq_ofNat_of_zero_le h1
      have : x.length * k ≤ 16777216 := by simpa using h3
      have h5 : ((x.length * k : Nat) : Int) ≤ ((16777216 : Nat) : Int) := Int.ofNat_le.mpr this
      simpa using h5
    have h5 : (x.length : Int) ≤ (2 ^ 63 - 1) / n := by
      rw [Int.le_ediv_iff_mul_le hn']
      omega
    omega
  · unfold Builtin.Str.tooLong
    simp only [decide_eq_false_iff_not]
    have : sizeLine = 16777216 := by decide
    omega
theorem op_mul_str : OpR X (binaryOp .Mult) (fun x y H Q => ∃ z n, x = .str z ∧ y = .int n ∧ okMul z n = true ∧ Q (.str (Txt.mul z n)) H) := by
  intro pins s σ H x y v u Q I rx ry h
  obtain ⟨z, n, rfl, rfl, hz, q⟩ := h
  obtain ⟨t, rfl⟩ := rx
  obtain ⟨t', rfl⟩ := ry
  exact SB.mul (okMul_ok hz) fun t' k => ⟨.str _, H, I.tok _, ⟨_, rfl⟩, q⟩
def gAdd : D → D → Option Vl
  | .int i, .int j => some (.fz (.int (i + j)))
  | .str x, .str y => if x.length + y.length ≤ sizeLine then some (.fz (.str (x ++ y))) else none
  | .list xs, .list ys => if xs.length + ys.length ≤ sizeLine then some (.ow 1 (.list (xs ++ ys))) else none
  | .tuple xs, .tuple ys => if xs.length + ys.length ≤ sizeLine then some (.fz (.tuple (xs ++ ys))) else none
  | _, _ => none
def rAdd (K : PySem.W.Frag) : R2 := fun x y H Q => rI0 (fun i j => .int (i + j)) x y H Q ∨ (∃ i j, x = .str i ∧ y = .str j ∧ i.length + j.length ≤ sizeLine ∧ Q (.str (i ++ j)) H) ∨ rCatR K x y H Q ∨ rCatA K x y H Q
theorem op_addD : OpR X (binaryOp .Add) (rAdd X.K) := op_add.or (op_add_str.or (op_catR.or op_catA))
variable {K : KW}
theorem den_lst {F H : Hp} {v : V} {ds : List D} (s : Sub F H) (h : Den K F v (.list ds)) : ∃ a xs, v = .ref a ∧ RdK K.k H a xs ∧ DenAll K F xs ds := by
  cases h with
  | lst h1 h2 => exact ⟨_, _, rfl, RdK.sub s h1, h2⟩
theorem den_tup {F H : Hp} {v : V} {ds : List D} (s : Sub F H) (h : Den K F v (.tuple ds)) : ∃ a xs, v = .ref a ∧ SqT K.k H a xs ∧ DenAll K F xs ds := by
  cases h with
  | tup h1 h2 => exact ⟨_, _, rfl, SqT.sub s h1, h2⟩
theorem den_int {F : Hp} {v : V} {i : Int} (h : Den K F v (.int i)) : v = .int i := by cases h; rfl
theorem den_str {F : Hp} {v : V} {i : Str} (h : Den K F v (.str i)) : v = .str i := by cases h; rfl
theorem den_bl {F : Hp} {v : V} {i : Bool} (h : Den K F v (.bool i)) : v = .bl i := by cases h; rfl
theorem den_non {F : Hp} {v : V} (h : Den K F v .none) : v = .non := by cases h; rfl
theorem vl_int {F H : Hp} (i : Int) : VlOk K F H (.fz (.int i)) (.int i) [] := ⟨rfl, .int i⟩
theorem vl_bl {F H : Hp} (i : Bool) : VlOk K F H (.fz (.bool i)) (.bl i) [] := ⟨rfl, .bl i⟩
theorem vl_str {F H : Hp} (i : Str) : VlOk K F H (.fz (.str i)) (.str i) [] := ⟨rfl, .str i⟩
theorem vl_fz {F H : Hp} {d : D} {v : V} (h : Den K F v d) : VlOk K F H (.fz d) v [] := ⟨rfl, h⟩
theorem nil_of_len {α : Type} {xs : List α} {β : Type} {ds : List β} (h : xs.length = ds.length) (e : xs = []) : ds = [] := by
  subst e
  exact List.eq_nil_of_length_eq_zero h.symm
theorem prim_add : Prim2 K (rAdd K.k) gAdd := by
  intro F H v w d d' x Q s h1 h2 hg k
  cases d with
  | int i =>
    cases d' with
    | int j =>
      cases hg
      exact .inl ⟨i, j, den_int h1, den_int h2, k _ _ _ _ (New.refl s) (vl_int _)⟩
    | _ => cases hg
  | str a =>
    cases d' with
    | str b =>
      obtain ⟨hz, rfl⟩ := ite_some hg
      exact .inr (.inl ⟨a, b, den_str h1, den_str h2, hz, k _ _ _ _ (New.refl s) (vl_str _)⟩)
    | _ => cases hg
  | list xs =>
    cases d' with
    | list ys =>
      obtain ⟨hz, rfl⟩ := ite_some hg
      obtain ⟨a, vs, rfl, r1, q1⟩ := den_lst s h1
      obtain ⟨b, ws, rfl, r2, q2⟩ := den_lst s h2
      exact .inr (.inr (.inl ⟨a, b, vs, ws, rfl, rfl, r1, r2, by rw [DenAll.length q1, DenAll.length q2]; exact hz, fun p hp => k _ _ _ _ (New.lst s hp) (vl_lst s hp (DenAll.append q1 q2))⟩))
    | _ => cases hg
  | tuple xs =>
    cases d' with
    | tuple ys =>
      obtain ⟨hz, rfl⟩ := ite_some hg
      obtain ⟨a, vs, rfl, r1, q1⟩ := den_tup s h1
      obtain ⟨b, ws, rfl, r2, q2⟩ := den_tup s h2
      have l1 := DenAll.length q1
      have l2 := DenAll.length q2
      refine .inr (.inr (.inr ⟨a, b, vs, ws, rfl, rfl, r1, r2, by rw [l1, l2]; exact hz, fun e => ?_, fun _ e => ?_, fun _ _ p hp => k _ _ _ _ (New.tup s hp) (vl_tup s hp (DenAll.append q1 q2))⟩))
      · have e2 := nil_of_len l1 e
        subst e2
        exact k _ _ _ _ (New.refl s) (vl_fz h2)
      · have e2 := nil_of_len l2 e
        subst e2
        rw [List.append_nil] at k
        exact k _ _ _ _ (New.refl s) (vl_fz h1)
    | _ => cases hg
  | _ => cases d' <;> cases hg
def gSub : D → D → Option Vl
  | .int i, .int j => some (.fz (.int (i - j)))
  | _, _ => none
theorem prim_int2 {r : R2} {c : Int → Int → Prop} [∀ i j, Decidable (c i j)] {f : Int → Int → Int} {g : D → D → Option Vl} (hr : ∀ i j H Q, c i j → Q (.int (f i j)) H → r (.int i) (.int j) H Q)
    (hg : ∀ d d' x, g d d' = some x → ∃ i j, d = .int i ∧ d' = .int j ∧ c i j ∧ x = .fz (.int (f i j))) : Prim2 K r g := by
  intro F H v w d d' x Q s h1 h2 e k
  obtain ⟨i, j, rfl, rfl, hc, rfl⟩ := hg _ _ _ e
  rw [den_int h1, den_int h2]
  exact hr i j H Q hc (k _ _ _ _ (New.refl s) (vl_int _))
theorem prim_sub : Prim2 K (rI0 fun i j => .int (i - j)) gSub := prim_int2 (c := fun _ _ => True) (fun i j H Q _ q => ⟨i, j, rfl, rfl, q⟩) fun d d' x e => by
  cases d <;> cases d' <;> cases e
  exact ⟨_, _, rfl, rfl, trivial, rfl⟩
def isSmall (i : Int) : Bool := decide (-18446744073709551616 < i) && decide (i < 18446744073709551616)
theorem isSmall_ok {i : Int} (h : isSmall i = true) : -(2 ^ 64) < i ∧ i < 2 ^ 64 := by
  unfold isSmall at h
  simp only [Bool.and_eq_true, decide_eq_true_eq] at h
  omega
def gMul : D → D → Option Vl
  | .int i, .int j => if (isSmall i || isSmall j) = true then some (.fz (.int (i * j))) else none
  | .str x, .int n => if okMul x n = true then some (.fz (.str (Txt.mul x n))) else none
  | .list xs, .int n => if 0 ≤ n ∧ n ≤ 16777216 ∧ xs.length * n.toNat ≤ sizeLine then some (.ow 1 (.list (List.replicate n.toNat xs).flatten)) else none
  | _, _ => none
def rMul : R2 := fun x y H Q => rI CMul (fun i j => .int (i * j)) x y H Q ∨ (∃ z n, x = .str z ∧ y = .int n ∧ okMul z n = true ∧ Q (.str (Txt.mul z n)) H) ∨ rRep x y H Q
theorem op_mulD : OpR X (binaryOp .Mult) rMul := op_mul.or (op_mul_str.or op_rep)
end
section
variable {X : Cx} {K : KW}
def CDivB (j : Int) : Bool := decide (0 < j) && decide (j < 1073741824)
def gFdiv : D → D → Option Vl
  | .int i, .int j => if CDivB j = true then some (.fz (.int (i / j))) else none
  | _, _ => none
theorem prim_fdiv : Prim2 K (rI CDiv fun i j => .int (i / j)) gFdiv := prim_int2 (c := fun _ j => CDivB j = true) (fun i j H Q c q => ⟨i, j, rfl, rfl, by
    unfold CDivB at c
    simp only [Bool.and_eq_true, decide_eq_true_eq] at c
    exact c, q⟩) fun d d' x e => by
  cases d <;> cases d' <;> first
    | cases e
    | (rename_i i j
       obtain ⟨h, rfl⟩ := ite_some e
       exact ⟨_, _, rfl, rfl, h, rfl⟩)
def gMod : D → D → Option Vl
  | .int i, .int j => if 0 < j then some (.fz (.int (i % j))) else none
  | _, _ => none
theorem prim_mod : Prim2 K (rI (fun _ j => 0 < j) fun i j => .int (i % j)) gMod := prim_int2 (c := fun _ j => 0 < j) (fun i j H Q c q => ⟨i, j, rfl, rfl, c, q⟩) fun d d' x e => by
  cases d <;> cases d' <;> first
    | cases e
    | (rename_i i j
       obtain ⟨h, rfl⟩ := ite_some e
       exact ⟨_, _, rfl, rfl, h, rfl⟩)
def gPow : D → D → Option Vl
  | .int i, .int j => if 0 ≤ j ∧ j ≤ 1000 ∧ isSmall i = true then some (.fz (.int (i ^ j.toNat))) else none
  | _, _ => none
theorem prim_pow : Prim2 K (rI CPow fun i j => .int (i ^ j.toNat)) gPow := prim_int2 (c := fun i j => 0 ≤ j ∧ j ≤ 1000 ∧ isSmall i = true) (fun i j H Q c q => ⟨i, j, rfl, rfl, ⟨c.1, by omega, by
    have := isSmall_ok c.2.2
    omega⟩, q⟩) fun d d' x e => by
  cases d <;> cases d' <;> first
    | cases e
    | (rename_i i j
       obtain ⟨h, rfl⟩ := ite_some e
       exact ⟨_, _, rfl, rfl, h, rfl⟩)
/-- a list on the left of a product that is new or tracked: (the script itself isn't multiplied) -/
theorem prim_mulI : Prim2 K (rI CMul fun i j => .int (i * j)) (fun d d' => match d, d' with
    | .int i, .int j => if (isSmall i || isSmall j) = true then some (.fz (.int (i * j))) else none
    | _, _ => none) := prim_int2 (c := fun i j => (isSmall i || isSmall j) = true) (fun i j H Q c q => ⟨i, j, rfl, rfl, by
    rw [Bool.or_eq_true] at c
    rcases c with c | c
    · exact .inl (isSmall_ok c)
    · exact .inr (isSmall_ok c), q⟩) fun d d' x e => by
  cases d <;> cases d' <;> first
    | cases e
    | (rename_i i j
       obtain ⟨h, rfl⟩ := ite_some e
       exact ⟨_, _, rfl, rfl, h, rfl⟩)
def rRepW (K : PySem.W.Frag) : R2 := fun x y H Q => ∃ l k xs, x = .ref l ∧ y = .int k ∧ RdK K H l xs ∧ 0 ≤ k ∧ k ≤ 16777216 ∧ xs.length * k.toNat ≤ sizeLine ∧
  ∀ p, H p = none → Q (.ref p) (upd H p (.lst (List.replicate k.toNat xs).flatten))
theorem op_repW : OpR X (binaryOp .Mult) (rRepW X.K) := by
  intro pins s σ H x y v u Q I rx ry h
  obtain ⟨l, k, xs, rfl, rfl, hH, h1, h2, hz, q⟩ := h
  cases rx
  obtain ⟨t, rfl⟩ := ry
  obtain ⟨z, its, n, r, e⟩ := RdK.lst I hH
  have hl := r.length
  have hlen : its.toArray.size * k.toNat ≤ sizeLine := by rw [List.size_toArray, ← hl]; exact hz
  have hcap : ¬ its.toArray.size * k.toNat > (2 ^ 63 - 1) / 8 := by
    have : (sizeLine : Nat) ≤ (2 ^ 63 - 1) / 8 := by decide
    omega
  have hfit : ¬ (!Builtin.List.listFitsIndex k) = true := by
    rw [fitsIndex_both (by omega) (by omega)]
    exact Bool.false_ne_true
  have hlong : ¬ Builtin.List.listTooLong (its.toArray.size * k.toNat) = true := by
    rw [notLongL hlen]
    exact Bool.false_ne_true
  have hnew : List.foldl (fun x1 x2 => x1 ++ x2) #[] (List.replicate (if its.toArray.isEmpty = true then 0 else k.toNat) its.toArray) = (List.replicate k.toNat its).flatten.toArray := by
    have f0 : ∀ m : Nat, List.foldl (fun x1 x2 => x1 ++ x2) #[] (List.replicate m its.toArray) = (List.replicate m its).flatten.toArray := fun m => by
      have := foldl_rep its m []
      rw [List.nil_append] at this
      exact this
    rw [f0]
    cases its with
    | nil => simp
    | cons a r' => rw [if_neg (by simp)]
  refine wpAny_binaryOp_repeat_ref (T := "list") (U := "int") (by decide) ⟨_, e, rfl⟩ (fun s' => typeIs_int s' k t) noFill_list_mul F.fills_int_mul F.slot_int_rmul repeat_list F.slot_int_index.lookup
    (call_meets F.slot_int_rmul (typeIs_int s k t) F.entry_int_rmul (F.args_int_rmul_2 _ _) (int___rmul___int_list k t l its.toArray n)
      ⟨e, rfl, ⟨_, e, rfl⟩, call_meets F.slot_list_mul ⟨_, e, rfl⟩ F.entry_list_mul (F.args_list_mul_2 _ _) (AutoListH.list___mul___list_int_3 l its.toArray n k t hfit hcap hlong) ⟨e, ?_⟩⟩)
  rw [hnew]
  exact ⟨.ref _, _, I.lnew (t' := s.toks) (r.rep k.toNat) (by rw [PyProof.Rows.lm_len_rep_flat, Nat.mul_comm]; exact hz), rfl, q _ I.fresh⟩
def rMulD (K : PySem.W.Frag) : R2 := fun x y H Q => rI CMul (fun i j => .int (i * j)) x y H Q ∨ (∃ z n, x = .str z ∧ y = .int n ∧ okMul z n = true ∧ Q (.str (Txt.mul z n)) H) ∨ rRepW K x y H Q
theorem op_mulW2 : OpR X (binaryOp .Mult) (rMulD X.K) := op_mul.or (op_mul_str.or op_repW)
theorem DenAll.rep {F : Hp} {xs : List V} {ds : List D} (h : DenAll K F xs ds) : ∀ n : Nat, DenAll K F (List.replicate n xs).flatten (List.replicate n ds).flatten
  | 0 => .nil
  | n + 1 => by
    rw [List.replicate_succ, List.replicate_succ, List.flatten_cons, List.flatten_cons]
    exact DenAll.append h (DenAll.rep h n)
theorem prim_mul : Prim2 K (rMulD K.k) gMul := by
  intro F H v w d d' x Q s h1 h2 hg k
  cases d with
  | int i =>
    cases d' with
    | int j => exact .inl (prim_mulI F H v w _ _ x Q s h1 h2 hg k)
    | _ => cases hg
  | str a =>
    cases d' with
    | int n =>
      obtain ⟨hz, rfl⟩ := ite_some hg
      exact .inr (.inl ⟨a, n, den_str h1, den_int h2, hz, k _ _ _ _ (New.refl s) (vl_str _)⟩)
    | _ => cases hg
  | list xs =>
    cases d' with
    | int n =>
      obtain ⟨hz, rfl⟩ := ite_some hg
      obtain ⟨a, vs, rfl, r1, q1⟩ := den_lst s h1
      exact .inr (.inr ⟨a, n, vs, rfl, den_int h2, r1, hz.1, hz.2.1, by rw [DenAll.length q1]; exact hz.2.2, fun p hp => k _ _ _ _ (New.lst s hp) (vl_lst s hp (DenAll.rep q1 _))⟩)
    | _ => cases hg
  | _ => cases d' <;> cases hg
def gNeg : D → Option Vl
  | .int i => some (.fz (.int (-i)))
  | _ => none
theorem prim_neg : Prim1 K (rU fun i => .int (-i)) gNeg := by
  intro F H v d x Q s h1 hg k
  cases d <;> cases hg
  exact ⟨_, den_int h1, k _ _ _ _ (New.refl s) (vl_int _)⟩

/-! ### comparisons -/
mutual
theorem Den.dp {F : Hp} : ∀ (d : D) (v : V), d.canLay0 = true → Den K F v d → L2.Dp K.k F v d
  | .none, _, _, h => by cases h; exact .non
  | .bool b, _, _, h => by cases h; exact .bl b
  | .int i, _, _, h => by cases h; exact .int i
  | .str x, _, _, h => by cases h; exact .str x
  | .list ds, _, c, h => by
    cases h with
    | lst hs ha => exact .lst hs.sq (DenAll.dp ds _ (by simpa only [PyData.canLay0] using c) ha)
  | .tuple ds, _, c, h => by
    cases h with
    | tup hs ha => exact .tup hs (DenAll.dp ds _ (by simpa only [PyData.canLay0] using c) ha)
  | .dict kvs, _, c, h => by simp [PyData.canLay0] at c
theorem DenAll.dp {F : Hp} : ∀ (ds : List D) (vs : List V), PyData.canLayAll0 ds = true → DenAll K F vs ds → L2.DpAll K.k F vs ds
  | [], _, _, h => by cases h; exact .nil
  | d :: ds, _, c, h => by
    have c2 : d.canLay0 = true ∧ PyData.canLayAll0 ds = true := by simpa [PyData.canLayAll0] using c
    cases h with
    | cons h1 h2 => exact .cons (Den.dp d _ c2.1 h1) (DenAll.dp ds _ c2.2 h2)
end
theorem den_shaped {F H : Hp} {d : D} {v : V} (s : Sub F H) (c : SeqAt.shaped d = true) (h : Den K F v d) : L2.Dp K.k H v d := Den.dp d v (SeqAt.canLay_of_shaped c) (Den.sub s _ _ h)
def gEq (d d' : D) : Option Vl := if (SeqAt.shaped d && SeqAt.shaped d') = true then some (.fz (.bool (PyData.eqv d d'))) else none
def gNe (d d' : D) : Option Vl := if (SeqAt.shaped d && SeqAt.shaped d') = true then some (.fz (.bool (!PyData.eqv d d'))) else none
theorem prim_eq : Prim2 K (rEqD K.k) gEq := by
  intro F H v w d d' x Q s h1 h2 hg k
  obtain ⟨hz, rfl⟩ := ite_some hg
  obtain ⟨c1, c2⟩ := Bool.and_eq_true_iff.mp hz
  exact ⟨d, d', den_shaped s c1 h1, den_shaped s c2 h2, c1, c2, k _ _ _ _ (New.refl s) (vl_bl _)⟩
theorem prim_ne : Prim2 K (rNeD K.k) gNe := by
  intro F H v w d d' x Q s h1 h2 hg k
  obtain ⟨hz, rfl⟩ := ite_some hg
  obtain ⟨c1, c2⟩ := Bool.and_eq_true_iff.mp hz
  exact ⟨d, d', den_shaped s c1 h1, den_shaped s c2 h2, c1, c2, k _ _ _ _ (New.refl s) (vl_bl _)⟩
theorem prim_cmp {c : Int → Int → Bool} {g : D → D → Option Vl} (hg : ∀ d d' x, g d d' = some x → ∃ i j, d = .int i ∧ d' = .int j ∧ x = .fz (.bool (c i j))) : Prim2 K (rI0 fun i j => .bl (c i j)) g := by
  intro F H v w d d' x Q s h1 h2 e k
  obtain ⟨i, j, rfl, rfl, rfl⟩ := hg _ _ _ e
  exact ⟨i, j, den_int h1, den_int h2, k _ _ _ _ (New.refl s) (vl_bl _)⟩
def gLt : D → D → Option Vl
  | .int i, .int j => some (.fz (.bool (decide (i < j))))
  | _, _ => none
def gLe : D → D → Option Vl
  | .int i, .int j => some (.fz (.bool (decide (i ≤ j))))
  | _, _ => none
def gGt : D → D → Option Vl
  | .int i, .int j => some (.fz (.bool (decide (j < i))))
  | _, _ => none
def gGe : D → D → Option Vl
  | .int i, .int j => some (.fz (.bool (decide (j ≤ i))))
  | _, _ => none
theorem prim_lt : Prim2 K (rI0 fun i j => .bl (decide (i < j))) gLt := prim_cmp fun d d' x e => by
  cases d <;> cases d' <;> cases e
  exact ⟨_, _, rfl, rfl, rfl⟩
theorem prim_le : Prim2 K (rI0 fun i j => .bl (decide (i ≤ j))) gLe := prim_cmp fun d d' x e => by
  cases d <;> cases d' <;> cases e
  exact ⟨_, _, rfl, rfl, rfl⟩
theorem prim_gt : Prim2 K (rI0 fun i j => .bl (decide (j < i))) gGt := prim_cmp fun d d' x e => by
  cases d <;> cases d' <;> cases e
  exact ⟨_, _, rfl, rfl, rfl⟩
theorem prim_ge : Prim2 K (rI0 fun i j => .bl (decide (j ≤ i))) gGe := prim_cmp fun d d' x e => by
  cases d <;> cases d' <;> cases e
  exact ⟨_, _, rfl, rfl, rfl⟩
def isNone : D → Bool
  | .none => true
  | _ => false
def gIs : D → D → Option Vl
  | d, .none => some (.fz (.bool (isNone d)))
  | _, _ => none
def gIsNot : D → D → Option Vl
  | d, .none => some (.fz (.bool (!isNone d)))
  | _, _ => none
theorem den_isNone {F : Hp} {v : V} {d : D} (h : Den K F v d) : decide (v = .non) = isNone d := by
  cases h <;> rfl
theorem prim_is : Prim2 K (fun x y H Q => y = .non ∧ Q (.bl (decide (x = .non))) H) gIs := by
  intro F H v w d d' x Q s h1 h2 hg k
  cases d' with
  | none =>
    have e : some (Vl.fz (.bool (isNone d))) = some x := hg
    cases e
    rw [den_isNone h1]
    exact ⟨den_non h2, k _ _ _ _ (New.refl s) (vl_bl _)⟩
  | _ => cases d <;> cases hg
theorem prim_isnot : Prim2 K (fun x y H Q => y = .non ∧ Q (.bl (!decide (x = .non))) H) gIsNot := by
  intro F H v w d d' x Q s h1 h2 hg k
  cases d' with
  | none =>
    have e : some (Vl.fz (.bool (!isNone d))) = some x := hg
    cases e
    rw [den_isNone h1]
    exact ⟨den_non h2, k _ _ _ _ (New.refl s) (vl_bl _)⟩
  | _ => cases d <;> cases hg
/-! in -/
def rInT (K : PySem.W.Frag) : R2 := fun x y H Q => ∃ d ds, L2.Dp K H x d ∧ L2.Dp K H y (.tuple ds) ∧ SeqAt.shaped d = true ∧ SeqAt.shaped (.tuple ds) = true ∧ Q (.bl (ds.any fun z => PyData.eqv z d)) H
def rNotInT (K : PySem.W.Frag) : R2 := fun x y H Q => ∃ d ds, L2.Dp K H x d ∧ L2.Dp K H y (.tuple ds) ∧ SeqAt.shaped d = true ∧ SeqAt.shaped (.tuple ds) = true ∧ Q (.bl (!ds.any fun z => PyData.eqv z d)) H
theorem op_inT (hu : X.A.units + 65 < cLine) : OpR X (compareOp .In) (rInT X.K) := by
  intro pins s σ H x y v u Q I rx ry h
  obtain ⟨d, ds, hd, he, sd, se, q⟩ := h
  obtain ⟨as, r1⟩ := Dp.reads I d x v hd rx
  obtain ⟨bs, r2⟩ := Dp.reads I (.tuple ds) y u he ry
  exact SeqAt.in_tuple_reads r2 r1 (SeqAt.canLay_of_shaped se) (SeqAt.canLay_of_shaped sd) (room_in_shaped sd hu) ⟨.bl _, H, I, rfl, q⟩
theorem op_notInT (hu : X.A.units + 65 < cLine) : OpR X (compareOp .NotIn) (rNotInT X.K) := by
  intro pins s σ H x y v u Q I rx ry h
  obtain ⟨d, ds, hd, he, sd, se, q⟩ := h
  obtain ⟨as, r1⟩ := Dp.reads I d x v hd rx
  obtain ⟨bs, r2⟩ := Dp.reads I (.tuple ds) y u he ry
  exact SeqAt.notIn_tuple_reads r2 r1 (SeqAt.canLay_of_shaped se) (SeqAt.canLay_of_shaped sd) (room_in_shaped sd hu) ⟨.bl _, H, I, rfl, q⟩
def isIn : D → D → Option Bool
  | .str c, .str z => if c.cps.size = 1 then some (decide (c.cps.getD 0 0 ∈ z.cps.toList)) else none
  | d, .list ds => if (SeqAt.shaped d && SeqAt.shaped (.list ds)) = true then some (ds.any fun z => PyData.eqv z d) else none
  | d, .tuple ds => if (SeqAt.shaped d && SeqAt.shaped (.tuple ds)) = true then some (ds.any fun z => PyData.eqv z d) else none
  | _, _ => none
def gIn (d d' : D) : Option Vl := (isIn d d').map fun b => .fz (.bool b)
def gNotIn (d d' : D) : Option Vl := (isIn d d').map fun b => .fz (.bool (!b))
def rInA (K : PySem.W.Frag) : R2 := fun x y H Q => rInD K x y H Q ∨ rInT K x y H Q ∨ ∃ (c : Nat) (z : Str), x = .str ⟨#[c]⟩ ∧ y = .str z ∧ Q (.bl (decide (c ∈ z.cps.toList))) H
def rNotInA (K : PySem.W.Frag) : R2 := fun x y H Q => rNotInD K x y H Q ∨ rNotInT K x y H Q ∨ ∃ (c : Nat) (z : Str), x = .str ⟨#[c]⟩ ∧ y = .str z ∧ Q (.bl (!decide (c ∈ z.cps.toList))) H
theorem op_inA (hu : X.A.units + 65 < cLine) : OpR X (compareOp .In) (rInA X.K) := (op_inD hu).or ((op_inT hu).or op_in_sign)
theorem op_notInA (hu : X.A.units + 65 < cLine) : OpR X (compareOp .NotIn) (rNotInA X.K) := (op_notInD hu).or ((op_notInT hu).or op_notIn_sign)
theorem one_sign {c : Str} (h : c.cps.size = 1) : c = ⟨#[c.cps.getD 0 0]⟩ := by
  obtain ⟨⟨l⟩⟩ := c
  match l, h with
  | [a], _ => rfl
theorem isIn_cases {d d' : D} {b : Bool} (h : isIn d d' = some b) : (∃ ds, d' = .list ds ∧ SeqAt.shaped d = true ∧ SeqAt.shaped (.list ds) = true ∧ b = ds.any fun z => PyData.eqv z d) ∨
    (∃ ds, d' = .tuple ds ∧ SeqAt.shaped d = true ∧ SeqAt.shaped (.tuple ds) = true ∧ b = ds.any fun z => PyData.eqv z d) ∨ ∃ (c : Nat) (z : Str), d = .str ⟨#[c]⟩ ∧ d' = .str z ∧ b = decide (c ∈ z.cps.toList) := by
  cases d' with
  | list ds =>
    have h2 : (if (SeqAt.shaped d && SeqAt.shaped (.list ds)) = true then some (ds.any fun z => PyData.eqv z d) else none) = some b := by cases d <;> exact h
    obtain ⟨hz, rfl⟩ := ite_some h2
    obtain ⟨c1, c2⟩ := Bool.and_eq_true_iff.mp hz
    exact .inl ⟨ds, rfl, c1, c2, rfl⟩
  | tuple ds =>
    have h2 : (if (SeqAt.shaped d && SeqAt.shaped (.tuple ds)) = true then some (ds.any fun z => PyData.eqv z d) else none) = some b := by cases d <;> exact h
    obtain ⟨hz, rfl⟩ := ite_some h2
    obtain ⟨c1, c2⟩ := Bool.and_eq_true_iff.mp hz
    exact .inr (.inl ⟨ds, rfl, c1, c2, rfl⟩)
  | str z =>
    cases d with
    | str c =>
      obtain ⟨hz, rfl⟩ := ite_some (show (if c.cps.size = 1 then some (decide (c.cps.getD 0 0 ∈ z.cps.toList)) else none) = some b from h)
      exact .inr (.inr ⟨_, z, congrArg PyData.str (one_sign hz), rfl, rfl⟩)
    | _ => cases h
  | _ => cases d <;> cases h
theorem prim_in : Prim2 K (rInA K.k) gIn := by
  intro F H v w d d' x Q s h1 h2 hg k
  obtain ⟨b, hb, rfl⟩ := Option.map_eq_some_iff.mp hg
  rcases isIn_cases hb with ⟨ds, rfl, c1, c2, rfl⟩ | ⟨ds, rfl, c1, c2, rfl⟩ | ⟨c, z, rfl, rfl, rfl⟩
  · exact .inl ⟨d, ds, den_shaped s c1 h1, den_shaped s c2 h2, c1, c2, k _ _ _ _ (New.refl s) (vl_bl _)⟩
  · exact .inr (.inl ⟨d, ds, den_shaped s c1 h1, den_shaped s c2 h2, c1, c2, k _ _ _ _ (New.refl s) (vl_bl _)⟩)
  · exact .inr (.inr ⟨c, z, den_str h1, den_str h2, k _ _ _ _ (New.refl s) (vl_bl _)⟩)
theorem prim_notin : Prim2 K (rNotInA K.k) gNotIn := by
  intro F H v w d d' x Q s h1 h2 hg k
  obtain ⟨b, hb, rfl⟩ := Option.map_eq_some_iff.mp hg
  rcases isIn_cases hb with ⟨ds, rfl, c1, c2, rfl⟩ | ⟨ds, rfl, c1, c2, rfl⟩ | ⟨c, z, rfl, rfl, rfl⟩
  · exact .inl ⟨d, ds, den_shaped s c1 h1, den_shaped s c2 h2, c1, c2, k _ _ _ _ (New.refl s) (vl_bl _)⟩
  · exact .inr (.inl ⟨d, ds, den_shaped s c1 h1, den_shaped s c2 h2, c1, c2, k _ _ _ _ (New.refl s) (vl_bl _)⟩)
  · exact .inr (.inr ⟨c, z, den_str h1, den_str h2, k _ _ _ _ (New.refl s) (vl_bl _)⟩)

/-! ### built-ins -/
def gLen : List D → Option Vl
  | [.list ds] => some (.fz (.int ds.length))
  | [.tuple ds] => some (.fz (.int ds.length))
  | [.str x] => if x.length ≤ sizeLine then some (.fz (.int x.length)) else none
  | _ => none
def rLenA (K : PySem.W.Frag) : List V → Hp → VK → Prop := fun xs H Q => (∃ p ys, xs = [.ref p] ∧ (SqL K H p ys ∨ SqT K H p ys) ∧ Q (.int ys.length) H) ∨ ∃ z, xs = [.str z] ∧ z.length ≤ sizeLine ∧ Q (.int z.length) H
theorem call_lenA : CallR X (.builtin "len") (rLenA X.K) := call_len_seq.or call_len_str
theorem DenAll.one {F : Hp} {vs : List V} {d : D} (h : DenAll K F vs [d]) : ∃ v, vs = [v] ∧ Den K F v d := by
  cases h with
  | cons h1 h2 => cases h2; exact ⟨_, rfl, h1⟩
theorem DenAll.two {F : Hp} {vs : List V} {d e : D} (h : DenAll K F vs [d, e]) : ∃ v w, vs = [v, w] ∧ Den K F v d ∧ Den K F w e := by
  cases h with
  | cons h1 h2 =>
    obtain ⟨w, rfl, h3⟩ := DenAll.one h2
    exact ⟨_, w, rfl, h1, h3⟩
theorem prim_len : Prim K (rLenA K.k) gLen := by
  intro F H vs ds x Q s h hg k
  match ds, hg with
  | [.list es], hg =>
    cases hg
    obtain ⟨v, rfl, h1⟩ := DenAll.one h
    obtain ⟨a, xs, rfl, r1, q1⟩ := den_lst s h1
    refine .inl ⟨a, xs, rfl, .inl (RdK.sq r1), ?_⟩
    rw [DenAll.length q1]
    exact k _ _ _ _ (New.refl s) (vl_int _)
  | [.tuple es], hg =>
    cases hg
    obtain ⟨v, rfl, h1⟩ := DenAll.one h
    obtain ⟨a, xs, rfl, r1, q1⟩ := den_tup s h1
    refine .inl ⟨a, xs, rfl, .inr r1, ?_⟩
    rw [DenAll.length q1]
    exact k _ _ _ _ (New.refl s) (vl_int _)
  | [.str z], hg =>
    obtain ⟨hz, rfl⟩ := ite_some hg
    obtain ⟨v, rfl, h1⟩ := DenAll.one h
    rw [den_str h1]
    exact .inr ⟨z, rfl, hz, k _ _ _ _ (New.refl s) (vl_int _)⟩
def gAbs : List D → Option Vl
  | [.int i] => some (.fz (.int (if i < 0 then -i else i)))
  | _ => none
theorem prim_abs : Prim K (fun xs H Q => ∃ i, xs = [.int i] ∧ Q (.int (if i < 0 then -i else i)) H) gAbs := by
  intro F H vs ds x Q s h hg k
  match ds, hg with
  | [.int i], hg =>
    cases hg
    obtain ⟨v, rfl, h1⟩ := DenAll.one h
    rw [den_int h1]
    exact ⟨i, rfl, k _ _ _ _ (New.refl s) (vl_int _)⟩
def gMax2 : List D → Option Vl
  | [.int i, .int j] => some (.fz (.int (if j > i then j else i)))
  | _ => none
theorem prim_max2 : Prim K (fun xs H Q => ∃ i j, xs = [.int i, .int j] ∧ Q (.int (if j > i then j else i)) H) gMax2 := by
  intro F H vs ds x Q s h hg k
  match ds, hg with
  | [.int i, .int j], hg =>
    cases hg
    obtain ⟨v, w, rfl, h1, h2⟩ := DenAll.two h
    rw [den_int h1, den_int h2]
    exact ⟨i, j, rfl, k _ _ _ _ (New.refl s) (vl_int _)⟩
def gMin2 : List D → Option Vl
  | [.int i, .int j] => some (.fz (.int (if j < i then j else i)))
  | _ => none
theorem prim_min2 : Prim K (fun xs H Q => ∃ i j, xs = [.int i, .int j] ∧ Q (.int (if j < i then j else i)) H) gMin2 := by
  intro F H vs ds x Q s h hg k
  match ds, hg with
  | [.int i, .int j], hg =>
    cases hg
    obtain ⟨v, w, rfl, h1, h2⟩ := DenAll.two h
    rw [den_int h1, den_int h2]
    exact ⟨i, j, rfl, k _ _ _ _ (New.refl s) (vl_int _)⟩
def gInt : List D → Option Vl
  | [.int i] => some (.fz (.int i))
  | [.bool b] => some (.fz (.int (if b then 1 else 0)))
  | _ => none
theorem prim_int : Prim K (fun xs H Q => (∃ i, xs = [.int i] ∧ Q (.int i) H) ∨ ∃ k, xs = [.bl k] ∧ Q (.int (if k then 1 else 0)) H) gInt := by
  intro F H vs ds x Q s h hg k
  match ds, hg with
  | [.int i], hg =>
    cases hg
    obtain ⟨v, rfl, h1⟩ := DenAll.one h
    rw [den_int h1]
    exact .inl ⟨i, rfl, k _ _ _ _ (New.refl s) (vl_int _)⟩
  | [.bool b], hg =>
    cases hg
    obtain ⟨v, rfl, h1⟩ := DenAll.one h
    rw [den_bl h1]
    exact .inr ⟨b, rfl, k _ _ _ _ (New.refl s) (vl_int _)⟩
def gStr : List D → Option Vl
  | [.int i] => if i.natAbs.log2 < 1920 then some (.fz (.str (toString i))) else none
  | _ => none
theorem prim_str : Prim K (fun xs H Q => ∃ i, xs = [.int i] ∧ i.natAbs.log2 < 1920 ∧ Q (.str (toString i)) H) gStr := by
  intro F H vs ds x Q s h hg k
  match ds, hg with
  | [.int i], hg =>
    obtain ⟨hz, rfl⟩ := ite_some hg
    obtain ⟨v, rfl, h1⟩ := DenAll.one h
    rw [den_int h1]
    exact ⟨i, rfl, hz, k _ _ _ _ (New.refl s) (vl_str _)⟩
def gTuple : List D → Option Vl
  | [.list ds] => some (.fz (.tuple ds))
  | [.tuple ds] => some (.fz (.tuple ds))
  | _ => none
theorem prim_tuple : Prim K (fun xs H Q => ∃ p ys, xs = [.ref p] ∧ ((SqL K.k H p ys ∧ ∀ l, H l = none → Q (.ref l) (upd H l (.tup ys))) ∨ (SqT K.k H p ys ∧ Q (.ref p) H))) gTuple := by
  intro F H vs ds x Q s h hg k
  match ds, hg with
  | [.list es], hg =>
    cases hg
    obtain ⟨v, rfl, h1⟩ := DenAll.one h
    obtain ⟨a, xs, rfl, r1, q1⟩ := den_lst s h1
    exact ⟨a, xs, rfl, .inl ⟨RdK.sq r1, fun p hp => k _ _ _ _ (New.tup s hp) (vl_tup s hp q1)⟩⟩
  | [.tuple es], hg =>
    cases hg
    obtain ⟨v, rfl, h1⟩ := DenAll.one h
    obtain ⟨a, xs, rfl, r1, q1⟩ := den_tup s h1
    exact ⟨a, xs, rfl, .inr ⟨r1, k _ _ _ _ (New.refl s) (vl_fz h1)⟩⟩
def gList : List D → Option Vl
  | [.list ds] => some (.ow 1 (.list ds))
  | [.tuple ds] => some (.ow 1 (.list ds))
  | _ => none
theorem prim_list : Prim K (fun xs H Q => ∃ p ys, xs = [.ref p] ∧ (SqL K.k H p ys ∨ SqT K.k H p ys) ∧ ∀ l, H l = none → Q (.ref l) (upd H l (.lst ys))) gList := by
  intro F H vs ds x Q s h hg k
  match ds, hg with
  | [.list es], hg =>
    cases hg
    obtain ⟨v, rfl, h1⟩ := DenAll.one h
    obtain ⟨a, xs, rfl, r1, q1⟩ := den_lst s h1
    exact ⟨a, xs, rfl, .inl (RdK.sq r1), fun p hp => k _ _ _ _ (New.lst s hp) (vl_lst s hp q1)⟩
  | [.tuple es], hg =>
    cases hg
    obtain ⟨v, rfl, h1⟩ := DenAll.one h
    obtain ⟨a, xs, rfl, r1, q1⟩ := den_tup s h1
    exact ⟨a, xs, rfl, .inr r1, fun p hp => k _ _ _ _ (New.lst s hp) (vl_lst s hp q1)⟩
def intsOf : List D → Option (List Int)
  | [] => some []
  | .int i :: ds => (intsOf ds).map (i :: ·)
  | _ => none
theorem ints_den {F : Hp} : ∀ {ds : List D} {ns : List Int} {vs : List V}, intsOf ds = some ns → DenAll K F vs ds → vs = ns.map V.int
  | [], _, _, e, h => by
    cases h
    cases e
    rfl
  | .int i :: ds, ns, _, e, h => by
    obtain ⟨ms, e2, rfl⟩ := Option.map_eq_some_iff.mp (show (intsOf ds).map (i :: ·) = some ns from e)
    cases h with
    | cons h1 h2 => rw [den_int h1, ints_den e2 h2] <;> rfl
  | .none :: _, _, _, e, _ => by cases e
  | .bool _ :: _, _, _, e, _ => by cases e
  | .str _ :: _, _, _, e, _ => by cases e
  | .list _ :: _, _, _, e, _ => by cases e
  | .tuple _ :: _, _, _, e, _ => by cases e
  | .dict _ :: _, _, _, e, _ => by cases e
def gSum : List D → Option Vl
  | [.list ds] => (intsOf ds).map fun ns => .fz (.int ns.sum)
  | _ => none
theorem prim_sum : Prim K (rSum K.k) gSum := by
  intro F H vs ds x Q s h hg k
  match ds, hg with
  | [.list es], hg =>
    obtain ⟨ns, e1, rfl⟩ := Option.map_eq_some_iff.mp (show (intsOf es).map (fun ns => Vl.fz (.int ns.sum)) = some x from hg)
    obtain ⟨v, rfl, h1⟩ := DenAll.one h
    obtain ⟨a, xs, rfl, r1, q1⟩ := den_lst s h1
    have e2 := ints_den e1 q1
    subst e2
    exact ⟨a, ns, rfl, RdK.sq r1, k _ _ _ _ (New.refl s) (vl_int _)⟩
theorem de_callB {W : WX} {x : Str} {p pos : Pos} {e : Expr} {es : List Expr} {id : String} {r : List V → Hp → VK → Prop} {g : List D → Option Vl} {fa : Av} (hc : CallR X (.builtin id) r) (pr : Prim X.KW r g) (hg : Gl X x) (hm : X.mg x = none) (hv : bootBuiltins x = some (.builtin id)) (ha : DA X W (e :: es) fa)
    (hn : x ≠ "__name__" := by decide) (hdb : (x == ("__debug__" : Str)) = false := by decide)
    (he : starEach (e :: es) X.env = (false, eval e X.env) :: starEach es X.env := by rfl) (hpl : (backTo pos (starEach es X.env)).any (·.1) = false := by rfl) : DE X W (.Call (.Name x p) (e :: es) [] pos) (eArgs g fa) :=
  pe_weak (pe_callB hc hg hm hv ha hn hdb he hpl) (args_weak pr)
theorem de_callTy {W : WX} {x : Str} {p pos : Pos} {e : Expr} {es : List Expr} {T : String} {r : List V → Hp → VK → Prop} {g : List D → Option Vl} {fa : Av} (hc : CallR X (.type T) r) (pr : Prim X.KW r g) (hg : Gl X x) (hm : X.mg x = none) (hv : bootBuiltins x = some (.type T)) (ha : DA X W (e :: es) fa)
    (hn : x ≠ "__name__" := by decide) (hdb : (x == ("__debug__" : Str)) = false := by decide)
    (he : starEach (e :: es) X.env = (false, eval e X.env) :: starEach es X.env := by rfl) (hpl : (backTo pos (starEach es X.env)).any (·.1) = false := by rfl) : DE X W (.Call (.Name x p) (e :: es) [] pos) (eArgs g fa) :=
  pe_weak (pe_callTy hc hg hm hv ha hn hdb he hpl) (args_weak pr)
theorem de_op {W : WX} {op : Operator} {a b : Expr} {pos : Pos} {r : R2} {g : D → D → Option Vl} {fa fb : Ev} (ho : OpR X (binaryOp op) r) (pr : Prim2 X.KW r g) (ha : DE X W a fa) (hb : DE X W b fb) : DE X W (.BinOp a op b pos) (eBin g fa fb) := pe_weak (pe_op ho ha hb) (bin_weak pr)
theorem de_un {W : WX} {op : UnaryOp} {a : Expr} {pos : Pos} {r : V → Hp → VK → Prop} {g : D → Option Vl} {fa : Ev} (ho : UnR X (unaryOp op) r) (pr : Prim1 X.KW r g) (ha : DE X W a fa) : DE X W (.UnaryOp op a pos) (eUn g fa) := pe_weak (pe_un ho ha) (un_weak pr)
theorem de_cmp {W : WX} {op : CmpOp} {a b : Expr} {pos : Pos} {r : R2} {g : D → D → Option Vl} {fa fb : Ev} (ho : OpR X (compareOp op) r) (pr : Prim2 X.KW r g) (ha : DE X W a fa) (hb : DE X W b fb) (hm : behindInMarks op b = false) : DE X W (.Compare a [op] [b] pos) (eBin g fa fb) := pe_weak (pe_cmpR ho ha hb hm) (bin_weak pr)
/-! isinstance -/
def tyName : D → Option String
  | .none => some "NoneType"
  | .bool _ => some "bool"
  | .int _ => some "int"
  | .str _ => some "str"
  | .list _ => some "list"
  | .tuple _ => some "tuple"
  | .dict _ => none
def eIsi (T : String) (fa : Ev) : Ev := eUn (fun d => ((tyName d).bind fun n => kitB n T).map fun b => .fz (.bool b)) fa
theorem den_ty {F H : Hp} {v : V} {d : D} {n : String} (s : Sub F H) (h : Den K F v d) (e : tyName d = some n) : TyX K.k H v (.type n) := by
  cases h with
  | non => cases e; exact .base .non
  | bl b => cases e; exact .base (.bl b)
  | int i => cases e; exact .base (.int i)
  | str x => cases e; exact .base (.str x)
  | lst hs _ =>
    cases e
    rcases RdK.sub s hs with (q | ⟨o, q⟩) | ⟨its, m, q, _⟩
    · exact .base (.lst q)
    · exact .base (.frz q)
    · exact .kList q rfl
  | tup hs _ =>
    cases e
    rcases SqT.sub s hs with (q | ⟨o, q⟩) | ⟨o, its, m, q, c, _⟩
    · exact .base (.tup q)
    · exact .fTuple q
    · exact .kTuple q c
  | dic => cases e
theorem de_isi {W : WX} {T : String} {x : Str} {a : Expr} {p p2 pos : Pos} {fa : Ev} (hg : Gl X "isinstance") (hm : X.mg "isinstance" = none) (hg2 : Gl X x) (hm2 : X.mg x = none) (hv2 : bootBuiltins x = some (.type T)) (ha : DE X W a fa)
    (hn : x ≠ "__name__" := by decide) (hdb : (x == ("__debug__" : Str)) = false := by decide)
    (hs : starEach [a, .Name x p2] X.env = (false, eval a X.env) :: starEach [.Name x p2] X.env := by rfl) (hs2 : starEach [.Name x p2] X.env = (false, eval (.Name x p2) X.env) :: starEach [] X.env := by rfl)
    (hpl : (backTo pos (starEach [.Name x p2] X.env)).any (·.1) = false := by rfl) : DE X W (.Call (.Name "isinstance" p) [a, .Name x p2] [] pos) (eIsi T fa) := by
  refine pe_weak (pe_callB call_isi hg hm (by decide +kernel) (pa_cons ha (pa_cons (pe_bltn (v := .ty T) hg2 hm2 hv2 rfl hn hdb) pa_nil hs2) hs) (by decide) (by decide) hs hpl) fun σ H Q ⟨F, e, As, r0, h⟩ => ?_
  refine tD_then (k := PV X.KW F H As σ Q) r0 h fun p1 v F1 H1 As1 ep x1 r1 d1 h1 => ?_
  obtain ⟨y, hy, h3⟩ := h1.of
  obtain ⟨b, hb, rfl⟩ := Option.map_eq_some_iff.mp hy
  obtain ⟨n, hn, hb⟩ := Option.bind_eq_some_iff.mp hb
  exact ⟨v, .ty T, .type n, .type T, b, rfl, .ty T, den_ty r1.sub d1 hn, kit_ty hb, PV.prim (PV.on x1 h3) r1 (New.refl r1.sub) (vl_bl _)⟩

/-! ### subscripts, slices -/
theorem atI_den {F : Hp} {ds : List D} {vs : List V} {i : Int} {d : D} (h : DenAll K F vs ds) (e : atI ds i = some d) : ∃ v, atI vs i = some v ∧ Den K F v d := by
  unfold atI at e ⊢
  obtain ⟨j, h1, h2⟩ := Option.bind_eq_some_iff.mp e
  obtain ⟨v, h3, h4⟩ := DenAll.get h h2
  exact ⟨v, by rw [DenAll.length h, h1]; exact h3, h4⟩
def gIdx : D → D → Option Vl
  | .list ds, .int i => (atI ds i).map .fz
  | .tuple ds, .int i => (atI ds i).map .fz
  | .str z, .int i => if z.length ≤ sizeLine then (atI z.cps.toList i).map fun c => .fz (.str ⟨#[c]⟩) else none
  | _, _ => none
theorem prim_idx : Prim2 K (rIx K.k) gIdx := by
  intro F H v w d d' x Q s h1 h2 hg k
  cases d with
  | list es =>
    cases d' with
    | int i =>
      obtain ⟨d, e, rfl⟩ := Option.map_eq_some_iff.mp (show (atI es i).map Vl.fz = some x from hg)
      obtain ⟨a, xs, rfl, r1, q1⟩ := den_lst s h1
      obtain ⟨u, e2, q2⟩ := atI_den q1 e
      exact .inl ⟨a, xs, i, u, rfl, den_int h2, RdK.sq r1, e2, k _ _ _ _ (New.refl s) (vl_fz q2)⟩
    | _ => cases hg
  | tuple es =>
    cases d' with
    | int i =>
      obtain ⟨d, e, rfl⟩ := Option.map_eq_some_iff.mp (show (atI es i).map Vl.fz = some x from hg)
      obtain ⟨a, xs, rfl, r1, q1⟩ := den_tup s h1
      obtain ⟨u, e2, q2⟩ := atI_den q1 e
      exact .inr (.inl ⟨a, xs, i, u, rfl, den_int h2, r1, e2, k _ _ _ _ (New.refl s) (vl_fz q2)⟩)
    | _ => cases hg
  | str z =>
    cases d' with
    | int i =>
      have hg2 : (if z.length ≤ sizeLine then (atI z.cps.toList i).map (fun c => Vl.fz (.str ⟨#[c]⟩)) else none) = some x := hg
      by_cases hz : z.length ≤ sizeLine
      · rw [if_pos hz] at hg2
        obtain ⟨c, e, rfl⟩ := Option.map_eq_some_iff.mp hg2
        exact .inr (.inr ⟨z, i, c, den_str h1, den_int h2, hz, e, k _ _ _ _ (New.refl s) (vl_str _)⟩)
      · rw [if_neg hz] at hg2; cases hg2
    | _ => cases hg
  | _ => cases d' <;> cases hg
theorem de_ix {W : WX} {a b : Expr} {pos : Pos} {fa fb : Ev} (ha : DE X W a fa) (hb : DE X W b fb) (hs : PlainIx b := by exact fun _ _ => rfl) : DE X W (.Subscript a b pos) (eBin gIdx fa fb) := pe_weak (pe_ix ix_seq ha hb hs) (bin_weak prim_idx)
def cutL {α : Type} (xs : List α) (lo hi : Option Int) : List α := (xs.drop (HT.sIx xs.length 0 lo)).take (HT.sIx xs.length xs.length hi - HT.sIx xs.length 0 lo)
theorem DenAll.cut {F : Hp} {xs : List V} {ds : List D} (h : DenAll K F xs ds) (lo hi : Option Int) : DenAll K F (cutV xs lo hi) (cutL ds lo hi) := by
  unfold cutV cutL
  rw [DenAll.length h]
  exact DenAll.take _ (DenAll.drop _ h)
def gSlice (d : D) (lo hi : Option Int) : Option Vl := match d with
  | .list ds => some (.ow 1 (.list (cutL ds lo hi)))
  | .tuple ds => some (.fz (.tuple (cutL ds lo hi)))
  | .str z => if z.length ≤ sizeLine then some (.fz (.str (cutS z lo hi))) else none
  | _ => none
def rSl (K : PySem.W.Frag) : V → Option Int → Option Int → Hp → VK → Prop := fun x lo hi H Q => rSlL K x lo hi H Q ∨ rSlA K x lo hi H Q ∨ rSlS x lo hi H Q
theorem sl_any : SlR X (rSl X.K) := sl_list.or (sl_tupA.or sl_str)
theorem prim_slice {F H : Hp} {v : V} {d : D} {lo hi : Option Int} {x : Vl} {Q : VK} (s : Sub F H) (h1 : Den K F v d) (hg : gSlice d lo hi = some x) (k : ∀ v F' H' A, New F H F' H' A → VlOk K F' H' x v A → Q v H') : rSl K.k v lo hi H Q := by
  cases d with
  | list es =>
    cases hg
    obtain ⟨a, xs, rfl, r1, q1⟩ := den_lst s h1
    exact .inl ⟨a, xs, rfl, RdK.sq r1, fun p hp => k _ _ _ _ (New.lst s hp) (vl_lst s hp (DenAll.cut q1 lo hi))⟩
  | tuple es =>
    cases hg
    obtain ⟨a, xs, rfl, r1, q1⟩ := den_tup s h1
    refine .inr (.inl ⟨a, xs, rfl, r1, fun ⟨e1, e2⟩ => ?_, fun _ p hp => k _ _ _ _ (New.tup s hp) (vl_tup s hp (DenAll.cut q1 lo hi))⟩)
    have e3 : cutL es lo hi = es := by
      unfold cutL
      rw [← DenAll.length q1, e1, e2, List.drop_zero, Nat.sub_zero, DenAll.length q1, List.take_length]
    rw [e3] at k
    exact k _ _ _ _ (New.refl s) (vl_fz h1)
  | str z =>
    obtain ⟨hz, rfl⟩ := ite_some (show (if z.length ≤ sizeLine then some (Vl.fz (.str (cutS z lo hi))) else none) = some x from hg)
    exact .inr (.inr ⟨z, den_str h1, hz, k _ _ _ _ (New.refl s) (vl_str _)⟩)
  | _ => cases hg
abbrev Pv := En → Rs (Option Int × En)
def pNo : Pv := fun e => .ok (none, e)
def pSo (f : Ev) : Pv := fun e => (f e).bind fun p => match p.1.d with
  | .int i => .ok (some i, p.2)
  | _ => .stuck
def PO1 (K : KW) (F H : Hp) (As : Nat → List Addr) (σ : Sto) (Q : Option Int → Hp → Prop) (p : Option Int × En) : Prop :=
  ∀ F' H' As', Ext F H As F' H' As' → Rel K F' p.2 As' σ H' → Q p.1 H'
def tDO (K : KW) (W : WX) (f : Pv) : TO := fun σ H Q => ∃ F e As, Rel K F e As σ H ∧ PR K W F H As σ (PO1 K F H As σ Q) (f e)
abbrev DO (X : Cx) (W : WX) (x : Option Expr) (f : Pv) : Prop := PO X x (tDO X.KW W f)
theorem po_weak {x : Option Expr} {t t' : TO} (h : PO X x t) (w : ∀ σ H Q, t' σ H Q → t σ H Q) : PO X x t' := ⟨fun pins s σ H Q I q => h.run pins s σ H Q I (w _ _ _ q)⟩
theorem do_none {W : WX} : DO X W none pNo := po_weak po_none fun σ H Q ⟨F, e, As, r0, h⟩ => h F H As Ext.refl r0
theorem do_some {W : WX} {x : Expr} {f : Ev} (h : DE X W x f) : DO X W (some x) (pSo f) := po_weak (po_some h) fun σ H Q ⟨F, e, As, r0, h⟩ => by
  refine tD_then (k := PO1 X.KW F H As σ Q) r0 h fun p1 v F1 H1 As1 ep x1 r1 d1 h1 => ?_
  obtain ⟨px, pe⟩ := p1
  cases q : px.d with
  | int i =>
    simp only [q] at h1 d1
    exact ⟨i, den_int d1, h1 F1 H1 As1 x1 r1⟩
  | _ => simp only [q] at h1; exact h1.elim
def eSlice (fx : Ev) (fl fh : Pv) : Ev := fun e => (fx e).bind fun p => (fl p.2).bind fun l => (fh l.2).bind fun h => (Rs.of (gSlice p.1.d l.1 h.1)).bind fun x => .ok (x, h.2)
theorem de_slice {W : WX} {x : Expr} {lo hi : Option Expr} {p2 pos : Pos} {fx : Ev} {fl fh : Pv} (he : DE X W x fx) (hl : DO X W lo fl) (hh : DO X W hi fh) : DE X W (.Subscript x (.Slice lo hi none p2) pos) (eSlice fx fl fh) := by
  refine pe_weak (pe_slice sl_any he hl hh) fun σ H Q ⟨F, e, As, r0, h⟩ => ?_
  refine tD_then (k := PV X.KW F H As σ Q) r0 h fun p1 v F1 H1 As1 ep x1 r1 d1 h1 => ?_
  refine ⟨F1, p1.2, As1, r1, h1.bind fun l el h2 F2 H2 As2 x2 r2 => ?_⟩
  refine ⟨F2, l.2, As2, r2, (PR.on x2 h2).bind fun u eu h3 F3 H3 As3 x3 r3 => ?_⟩
  obtain ⟨y, hy, h4⟩ := (PR.on x3 h3).of
  exact prim_slice r3.sub (Den.sub x3.ff _ _ (Den.sub x2.ff _ _ d1)) hy fun u F' H' A n o => PV.prim (PV.on (x1.trans (x2.trans x3)) h4) r3 n o
end
end VS


set_option Elab.async false
set_option linter.all false
set_option maxRecDepth 100000
/-! VS4: tests, statements, loops. -/
namespace VS
open PySem PySem.Spec PyProof.Rows L2
/-! ### tests -/
def truthD : D → Option Bool
  | .none => some false
  | .bool b => some b
  | .int i => some (i != 0)
  | .str x => if x.length ≤ sizeLine then some ((x.length : Int) != 0) else none
  | .list ds => some (!ds.isEmpty)
  | .tuple ds => some (!ds.isEmpty)
  | .dict _ => none
theorem DenAll.empty {K : KW} {F : Hp} {vs : List V} {ds : List D} (h : DenAll K F vs ds) : vs.isEmpty = ds.isEmpty := by cases h <;> rfl
theorem den_truth {K : KW} {F H : Hp} {v : V} {d : D} {b : Bool} (s : Sub F H) (h : Den K F v d) (e : truthD d = some b) : TruV K.k v H b := by
  cases d with
  | none => cases e; rw [den_non h] <;> rfl
  | bool k => cases e; rw [den_bl h] <;> rfl
  | int i => cases e; rw [den_int h] <;> rfl
  | str x =>
    obtain ⟨hz, rfl⟩ := ite_some (show (if x.length ≤ sizeLine then some ((x.length : Int) != 0) else none) = some b from e)
    rw [den_str h]
    exact ⟨hz, rfl⟩
  | list ds =>
    cases e
    obtain ⟨a, xs, rfl, r, q⟩ := den_lst s h
    exact .inl ⟨xs, RdK.sq r, by rw [DenAll.empty q]⟩
  | tuple ds =>
    cases e
    obtain ⟨a, xs, rfl, r, q⟩ := den_tup s h
    exact .inr (.inl ⟨xs, r, by rw [DenAll.empty q]⟩)
  | dict _ => cases e
def tTru (f : Ev) : Tv := fun e => (f e).bind fun p => (Rs.of (truthD p.1.d)).bind fun b => .ok (b, p.2)
def tAndD (f g : Tv) : Tv := fun e => (f e).bind fun p => match p.1 with
  | true => g p.2
  | false => .ok (false, p.2)
def tOrD (f g : Tv) : Tv := fun e => (f e).bind fun p => match p.1 with
  | true => .ok (true, p.2)
  | false => g p.2
def tNotD (f : Tv) : Tv := fun e => (f e).bind fun p => .ok (!p.1, p.2)
def eAnd (f g : Ev) : Ev := fun e => (f e).bind fun p => (Rs.of (truthD p.1.d)).bind fun b => match b with
  | true => g p.2
  | false => .ok (.fz p.1.d, p.2)
def eOr (f g : Ev) : Ev := fun e => (f e).bind fun p => (Rs.of (truthD p.1.d)).bind fun b => match b with
  | true => .ok (.fz p.1.d, p.2)
  | false => g p.2
def eNot (f : Ev) : Ev := fun e => (f e).bind fun p => (Rs.of (truthD p.1.d)).bind fun b => .ok (.fz (.bool (!b)), p.2)
def eIf (t : Tv) (f g : Ev) : Ev := fun e => (t e).bind fun p => match p.1 with
  | true => f p.2
  | false => g p.2
def eChain (g g' : D → D → Option Vl) (fa fb fc : Ev) : Ev := fun e => (fa e).bind fun p => (fb p.2).bind fun q => (Rs.of (g p.1.d q.1.d)).bind fun x => match x.d with
  | .bool true => (fc q.2).bind fun r => (Rs.of (g' q.1.d r.1.d)).bind fun y => .ok (y, r.2)
  | .bool false => .ok (.fz (.bool false), q.2)
  | _ => .stuck
def IsB (g : D → D → Option Vl) : Prop := ∀ d d' x, g d d' = some x → ∃ b, x = .fz (.bool b)
theorem isB_eq : IsB gEq := fun _ _ _ h => ⟨_, (ite_some h).2.symm⟩
theorem isB_ne : IsB gNe := fun _ _ _ h => ⟨_, (ite_some h).2.symm⟩
theorem isB_in : IsB gIn := fun _ _ _ h => by
  obtain ⟨b, _, rfl⟩ := Option.map_eq_some_iff.mp h
  exact ⟨_, rfl⟩
theorem isB_notin : IsB gNotIn := fun _ _ _ h => by
  obtain ⟨b, _, rfl⟩ := Option.map_eq_some_iff.mp h
  exact ⟨_, rfl⟩
theorem isB_lt : IsB gLt := fun d d' x h => by cases d <;> cases d' <;> cases h; exact ⟨_, rfl⟩
theorem isB_le : IsB gLe := fun d d' x h => by cases d <;> cases d' <;> cases h; exact ⟨_, rfl⟩
theorem isB_gt : IsB gGt := fun d d' x h => by cases d <;> cases d' <;> cases h; exact ⟨_, rfl⟩
theorem isB_ge : IsB gGe := fun d d' x h => by cases d <;> cases d' <;> cases h; exact ⟨_, rfl⟩
theorem isB_is : IsB gIs := fun d d' x h => by
  cases d' with
  | none => exact ⟨_, (Option.some.inj (show some (Vl.fz (.bool (isNone d))) = some x by cases d <;> exact h)).symm⟩
  | _ => cases d <;> cases h
theorem isB_isnot : IsB gIsNot := fun d d' x h => by
  cases d' with
  | none => exact ⟨_, (Option.some.inj (show some (Vl.fz (.bool (!isNone d))) = some x by cases d <;> exact h)).symm⟩
  | _ => cases d <;> cases h
section
variable {X : Cx} {K : KW} {W : WX}
abbrev DW (X : Cx) (W : WX) (x : Expr) (f : Tv) : Prop := PW X x (tDT X.KW W f)
theorem tru_then {F H : Hp} {As : Nat → List Addr} {σ : Sto} {f : Ev} {e : En} {Q : Bool → Hp → Prop} (r : Rel K F e As σ H) (h : PR K W F H As σ (PB K F H As σ Q) (tTru f e)) :
    tD K W f σ H fun x H' => ∃ k, TruV K.k x H' k ∧ Q k H' := by
  refine tD_then (k := PB K F H As σ Q) r h fun p v F1 H1 As1 ep x1 r1 d1 h1 => ?_
  obtain ⟨b, hb, h2⟩ := h1.of
  exact ⟨b, den_truth r1.sub d1 hb, h2 F1 H1 As1 x1 r1⟩
theorem dt_tru {x : Expr} {f : Ev} (h : DE X W x f) (he : ∀ whole, isTrue x X.env whole = (do let v ← whole; standAt x.pos; holding [v] (truthy v)) := by exact fun _ => rfl) : DT X W x (tTru f) :=
  pt_weak (pt_truth h he) fun σ H Q ⟨F, e, As, r0, q⟩ => tru_then r0 q
/-- a comparison's value is a bool -/
theorem bin_bool {g : D → D → Option Vl} {fa fb : Ev} (ib : IsB g) {e : En} {p : Vl × En} (h : eBin g fa fb e = .ok p) : ∃ b, p.1 = .fz (.bool b) := by
  unfold eBin at h
  cases h1 : fa e with
  | ok a =>
    rw [h1] at h
    cases h2 : fb a.2 with
    | ok b =>
      have h' : ((fb a.2).bind fun q => (Rs.of (g a.1.d q.1.d)).bind fun x => Rs.ok (x, q.2)) = .ok p := h
      rw [h2] at h'
      have h'' : ((Rs.of (g a.1.d b.1.d)).bind fun x => Rs.ok (x, b.2)) = .ok p := h'
      cases h3 : g a.1.d b.1.d with
      | none => rw [h3] at h''; cases h''
      | some x =>
        rw [h3] at h''
        cases h''
        exact ib _ _ _ h3
    | exc c fs e' =>
      have h' : ((fb a.2).bind fun q => (Rs.of (g a.1.d q.1.d)).bind fun x => Rs.ok (x, q.2)) = .ok p := h
      rw [h2] at h'; cases h'
    | stuck =>
      have h' : ((fb a.2).bind fun q => (Rs.of (g a.1.d q.1.d)).bind fun x => Rs.ok (x, q.2)) = .ok p := h
      rw [h2] at h'; cases h'
  | exc c fs e' => rw [h1] at h; cases h
  | stuck => rw [h1] at h; cases h
theorem tru_bool {f : Ev} (hb : ∀ e p, f e = .ok p → ∃ b, p.1 = .fz (.bool b)) : ∀ σ H Q, tDT K W (tTru f) σ H Q → tTest (tD K W f) σ H Q := by
  intro σ H Q ⟨F, e, As, r0, h⟩
  refine tD_then (k := PB K F H As σ Q) r0 h fun p v F1 H1 As1 ep x1 r1 d1 h1 => ?_
  obtain ⟨b, hb2⟩ := hb e p ep
  obtain ⟨c, hc, h2⟩ := h1.of
  rw [hb2] at hc d1
  cases hc
  exact ⟨b, den_bl d1, h2 F1 H1 As1 x1 r1⟩
theorem ttest_mono {t t' : TE} (h : ∀ σ H Q, t' σ H Q → t σ H Q) : ∀ σ H Q, tTest t' σ H Q → tTest t σ H Q := fun σ H Q q => h σ H _ q
theorem dt_cmp {op : CmpOp} {a b : Expr} {pos : Pos} {r : R2} {g : D → D → Option Vl} {fa fb : Ev} (ho : OpR X (compareOp op) r) (pr : Prim2 X.KW r g) (ib : IsB g) (ha : DE X W a fa) (hb : DE X W b fb) (hm : behindInMarks op b = false) : DT X W (.Compare a [op] [b] pos) (tTru (eBin g fa fb)) :=
  pt_weak (pt_cmpR ho ha hb hm) fun σ H Q q => ttest_mono (bin_weak pr) σ H Q (tru_bool (fun _ _ h => bin_bool ib h) σ H Q q)
theorem dw_and1 {a : Expr} {pos : Pos} {f : Tv} (h : DT X W a f) : DW X W (.BoolOp .And [a] pos) f := pw_and1 h
theorem dw_or1 {a : Expr} {pos : Pos} {f : Tv} (h : DT X W a f) : DW X W (.BoolOp .Or [a] pos) f := pw_or1 h
theorem tt_then {β : Type} {F H : Hp} {As : Nat → List Addr} {σ : Sto} {f : Tv} {g : Bool × En → Rs β} {e : En} {Q : Bool → Hp → Prop} {k : β → Prop} (r : Rel K F e As σ H) (h : PR K W F H As σ k ((f e).bind g))
    (go : ∀ p F1 H1 As1, f e = .ok p → Ext F H As F1 H1 As1 → Rel K F1 p.2 As1 σ H1 → PR K W F1 H1 As1 σ k (g p) → Q p.1 H1) : tDT K W f σ H Q :=
  ⟨F, e, As, r, h.bind fun p ep q F1 H1 As1 x r1 => go p F1 H1 As1 ep x r1 (PR.on x q)⟩
theorem dw_and {a b : Expr} {rest : List Expr} {pos : Pos} {f g : Tv} (ha : DT X W a f) (hb : DW X W (.BoolOp .And (b :: rest) pos) g) : DW X W (.BoolOp .And (a :: b :: rest) pos) (tAndD f g) := by
  refine pw_weak (pw_and ha hb) fun σ H Q ⟨F, e, As, r0, h⟩ => ?_
  refine tt_then (k := PB X.KW F H As σ Q) r0 h fun p F1 H1 As1 ep x1 r1 h1 => ?_
  obtain ⟨pb, pe⟩ := p
  cases pb with
  | true => exact iteT ⟨F1, _, As1, r1, PR.imp h1 fun _ _ z => PB.on x1 z⟩
  | false => exact iteF (h1 F1 H1 As1 x1 r1)
theorem dw_or {a b : Expr} {rest : List Expr} {pos : Pos} {f g : Tv} (ha : DT X W a f) (hb : DW X W (.BoolOp .Or (b :: rest) pos) g) : DW X W (.BoolOp .Or (a :: b :: rest) pos) (tOrD f g) := by
  refine pw_weak (pw_or ha hb) fun σ H Q ⟨F, e, As, r0, h⟩ => ?_
  refine tt_then (k := PB X.KW F H As σ Q) r0 h fun p F1 H1 As1 ep x1 r1 h1 => ?_
  obtain ⟨pb, pe⟩ := p
  cases pb with
  | true => exact iteT (h1 F1 H1 As1 x1 r1)
  | false => exact iteF ⟨F1, _, As1, r1, PR.imp h1 fun _ _ z => PB.on x1 z⟩
theorem dt_not {a : Expr} {pos : Pos} {f : Tv} (ha : DT X W a f) : DT X W (.UnaryOp .Not a pos) (tNotD f) := by
  refine pt_weak (pt_not ha) fun σ H Q ⟨F, e, As, r0, h⟩ => ?_
  exact tt_then (k := PB X.KW F H As σ Q) r0 h fun p F1 H1 As1 ep x1 r1 h1 => h1 F1 H1 As1 x1 r1
theorem de_one {op} {a : Expr} {pos : Pos} {f : Ev} (h : DE X W a f) : DE X W (.BoolOp op [a] pos) f := pe_one h
theorem de_and {a b : Expr} {rest : List Expr} {pos : Pos} {f g : Ev} (ha : DE X W a f) (hb : DE X W (.BoolOp .And (b :: rest) pos) g) : DE X W (.BoolOp .And (a :: b :: rest) pos) (eAnd f g) := by
  refine pe_weak (pe_andT ha hb) fun σ H Q ⟨F, e, As, r0, h⟩ => ?_
  refine tD_then (k := PV X.KW F H As σ Q) r0 h fun p v F1 H1 As1 ep x1 r1 d1 h1 => ?_
  obtain ⟨b, hb, h2⟩ := h1.of
  refine ⟨b, den_truth r1.sub d1 hb, ?_⟩
  cases b with
  | true => exact iteT ⟨F1, _, As1, r1, PR.imp h2 fun _ _ z => PV.on x1 z⟩
  | false => exact iteF (PV.prim (PV.on x1 h2) r1 (New.refl r1.sub) (vl_fz d1))
theorem de_or {a b : Expr} {rest : List Expr} {pos : Pos} {f g : Ev} (ha : DE X W a f) (hb : DE X W (.BoolOp .Or (b :: rest) pos) g) : DE X W (.BoolOp .Or (a :: b :: rest) pos) (eOr f g) := by
  refine pe_weak (pe_orT ha hb) fun σ H Q ⟨F, e, As, r0, h⟩ => ?_
  refine tD_then (k := PV X.KW F H As σ Q) r0 h fun p v F1 H1 As1 ep x1 r1 d1 h1 => ?_
  obtain ⟨b, hb, h2⟩ := h1.of
  refine ⟨b, den_truth r1.sub d1 hb, ?_⟩
  cases b with
  | true => exact iteT (PV.prim (PV.on x1 h2) r1 (New.refl r1.sub) (vl_fz d1))
  | false => exact iteF ⟨F1, _, As1, r1, PR.imp h2 fun _ _ z => PV.on x1 z⟩
theorem de_not {a : Expr} {pos : Pos} {f : Ev} (ha : DE X W a f) : DE X W (.UnaryOp .Not a pos) (eNot f) := by
  refine pe_weak (pe_notT ha) fun σ H Q ⟨F, e, As, r0, h⟩ => ?_
  refine tD_then (k := PV X.KW F H As σ Q) r0 h fun p v F1 H1 As1 ep x1 r1 d1 h1 => ?_
  obtain ⟨b, hb, h2⟩ := h1.of
  exact ⟨b, den_truth r1.sub d1 hb, PV.prim (PV.on x1 h2) r1 (New.refl r1.sub) (vl_bl _)⟩
theorem de_if {c a b : Expr} {pos : Pos} {t : Tv} {f g : Ev} (hc : DT X W c t) (ha : DE X W a f) (hb : DE X W b g) : DE X W (.IfExp c a b pos) (eIf t f g) := by
  refine pe_weak (pe_ifExp hc ha hb) fun σ H Q ⟨F, e, As, r0, h⟩ => ?_
  refine tt_then (k := PV X.KW F H As σ Q) r0 h fun p F1 H1 As1 ep x1 r1 h1 => ?_
  obtain ⟨pb, pe⟩ := p
  cases pb with
  | true => exact iteT ⟨F1, _, As1, r1, PR.imp h1 fun _ _ z => PV.on x1 z⟩
  | false => exact iteF ⟨F1, _, As1, r1, PR.imp h1 fun _ _ z => PV.on x1 z⟩
theorem chain_weak {r r' : R2} {g g' : D → D → Option Vl} {fa fb fc : Ev} (pr : Prim2 K r g) (pr' : Prim2 K r' g') (ib : IsB g) : ∀ σ H Q, tD K W (eChain g g' fa fb fc) σ H Q → tChain r r' (tD K W fa) (tD K W fb) (tD K W fc) σ H Q := by
  intro σ H Q ⟨F, e, As, r0, h⟩
  refine tD_then (k := PV K F H As σ Q) r0 h fun p1 v F1 H1 As1 ep x1 r1 d1 h1 => ?_
  refine tD_then (k := PV K F H As σ Q) r1 h1 fun p2 w F2 H2 As2 eq x2 r2 d2 h2 => ?_
  obtain ⟨y, hy, h3⟩ := h2.of
  obtain ⟨b, rfl⟩ := ib _ _ _ hy
  refine pr F2 H2 v w p1.1.d p2.1.d _ _ r2.sub (Den.sub x2.ff _ _ d1) d2 hy fun u F' H' A n o => ?_
  have eu : u = .bl b := den_bl o.2
  refine ⟨b, eu, ?_⟩
  have r3 := r2.new n
  have x3 : Ext F2 H2 As2 F' H' As2 := n.ext
  cases b with
  | true =>
    refine iteT (tD_then (k := PV K F H As σ Q) r3 (PR.on x3 h3) fun p3 w3 F3 H3 As3 e3 x4 r4 d4 h4 => ?_)
    obtain ⟨z, hz, h5⟩ := h4.of
    exact pr' F3 H3 w w3 p2.1.d p3.1.d z Q r4.sub (Den.sub x4.ff _ _ (Den.sub x3.ff _ _ d2)) d4 hz fun u F' H' A n o => PV.prim (PV.on (x1.trans (x2.trans (x3.trans x4))) h5) r4 n o
  | false => exact iteF (PV.prim (PV.on (x1.trans (x2.trans x3)) h3) r3 (New.refl r3.sub) (vl_bl _))
theorem chain_bool {g g' : D → D → Option Vl} {fa fb fc : Ev} (ib' : IsB g') {e : En} {p : Vl × En} (h : eChain g g' fa fb fc e = .ok p) : ∃ b, p.1 = .fz (.bool b) := by
  unfold eChain at h
  cases h1 : fa e with
  | ok a =>
    rw [h1] at h
    change (fb a.2).bind _ = _ at h
    cases h2 : fb a.2 with
    | ok b =>
      rw [h2] at h
      change (Rs.of (g a.1.d b.1.d)).bind _ = _ at h
      cases h3 : g a.1.d b.1.d with
      | none => rw [h3] at h; cases h
      | some x =>
        rw [h3] at h
        change (match x.d with
          | .bool true => (fc b.2).bind fun r => (Rs.of (g' b.1.d r.1.d)).bind fun y => Rs.ok (y, r.2)
          | .bool false => .ok (.fz (.bool false), b.2)
          | _ => .stuck) = _ at h
        split at h
        · cases h4 : fc b.2 with
          | ok c =>
            rw [h4] at h
            change (Rs.of (g' b.1.d c.1.d)).bind _ = _ at h
            cases h5 : g' b.1.d c.1.d with
            | none => rw [h5] at h; cases h
            | some y => rw [h5] at h; cases h; exact ib' _ _ _ h5
          | exc c fs e' => rw [h4] at h; cases h
          | stuck => rw [h4] at h; cases h
        · cases h; exact ⟨_, rfl⟩
        · cases h
    | exc c fs e' => rw [h2] at h; cases h
    | stuck => rw [h2] at h; cases h
  | exc c fs e' => rw [h1] at h; cases h
  | stuck => rw [h1] at h; cases h
theorem dt_chain {op op' : CmpOp} {a b c : Expr} {pos : Pos} {r r' : R2} {g g' : D → D → Option Vl} {fa fb fc : Ev} (ho : OpR X (compareOp op) r) (ho' : OpR X (compareOp op') r') (pr : Prim2 X.KW r g) (pr' : Prim2 X.KW r' g') (ib : IsB g) (ib' : IsB g')
    (ha : DE X W a fa) (hb : DE X W b fb) (hc : DE X W c fc) (hm : lastMarks [op, op'] [b, c] = false := by with_unfolding_all rfl) : DT X W (.Compare a [op, op'] [b, c] pos) (tTru (eChain g g' fa fb fc)) :=
  pt_weak (pt_chain ho ho' ha hb hc hm) fun σ H Q q => ttest_mono (chain_weak pr pr' ib) σ H Q (tru_bool (fun _ _ h => chain_bool ib' h) σ H Q q)
theorem de_chain {op op' : CmpOp} {a b c : Expr} {pos : Pos} {r r' : R2} {g g' : D → D → Option Vl} {fa fb fc : Ev} (ho : OpR X (compareOp op) r) (ho' : OpR X (compareOp op') r') (pr : Prim2 X.KW r g) (pr' : Prim2 X.KW r' g') (ib : IsB g)
    (ha : DE X W a fa) (hb : DE X W b fb) (hc : DE X W c fc) (hm : lastMarks [op, op'] [b, c] = false := by with_unfolding_all rfl) : DE X W (.Compare a [op, op'] [b, c] pos) (eChain g g' fa fb fc) :=
  pe_weak (pe_chain ho ho' ha hb hc hm) (chain_weak pr pr' ib)
end

/-! ### statements -/
def Keep (io : List Nat) (σ σ' : Sto) : Prop := σ'.length = σ.length ∧ ∀ i ∈ io, σ'[i]? = σ[i]?
theorem Keep.refl {io : List Nat} {σ : Sto} : Keep io σ σ := ⟨rfl, fun _ _ => rfl⟩
theorem Keep.trans {io : List Nat} {a b c : Sto} (h : Keep io a b) (g : Keep io b c) : Keep io a c := ⟨g.1.trans h.1, fun i hi => (g.2 i hi).trans (h.2 i hi)⟩
theorem Keep.set {io : List Nat} {σ : Sto} {i : Nat} {x : Option V} (h : i ∉ io) : Keep io σ (σ.set i x) := ⟨List.length_set, fun j hj => List.getElem?_set_ne (fun e => h (by rw [e]; exact hj))⟩
def PSt (K : KW) (W : WX) (io : List Nat) (F H : Hp) (As : Nat → List Addr) (σ : Sto) (Dn : Ends) (o : Out) : Prop := match o with
  | .nx e => ∀ F' H' As' σ', Ext F H As F' H' As' → Rel K F' e As' σ' H' → Keep io σ σ' → Dn.nx σ' H'
  | .bk e => ∀ F' H' As' σ', Ext F H As F' H' As' → Rel K F' e As' σ' H' → Keep io σ σ' → Dn.bk σ' H'
  | .ct e => ∀ F' H' As' σ', Ext F H As F' H' As' → Rel K F' e As' σ' H' → Keep io σ σ' → Dn.ct σ' H'
  | .rt x e => ∀ v F' H' As' σ' A, Ext F H As F' H' As' → Rel K F' e As' σ' H' → Keep io σ σ' → VlOk K F' H' x v A → Fresh H As As' A → Dn.rt v H'
  | .exc c fs e => ∀ cls dx F' H' As' σ', Ext F H As F' H' As' → Rel K F' e As' σ' H' → Keep io σ σ' → ExcAt K F' H' cls dx c fs → W cls dx σ' H'
  | .stuck => False
def tS (K : KW) (W : WX) (io : List Nat) (f : Sv) : TS := fun Dn σ H => ∃ F e As, Rel K F e As σ H ∧ PSt K W io F H As σ Dn (f e)
abbrev DS (X : Cx) (W : WX) (io : List Nat) (s : Stmt) (f : Sv) : Prop := PS X s (tS X.KW W io f)
abbrev DSs (X : Cx) (W : WX) (io : List Nat) (s : List Stmt) (f : Sv) : Prop := PSs X s (tS X.KW W io f)
def Rs.out {α : Type} (r : Rs α) (f : α → Out) : Out := match r with
  | .ok a => f a
  | .exc c fs e => .exc c fs e
  | .stuck => .stuck
def sNx : Sv := .nx
def sBk : Sv := .bk
def sCt : Sv := .ct
def sSeq (f g : Sv) : Sv := fun e => match f e with
  | .nx e' => g e'
  | o => o
def sExpr (f : Ev) : Sv := fun e => (f e).out fun p => .nx p.2
def sRet (f : Ev) : Sv := fun e => (f e).out fun p => .rt p.1 p.2
def sRetN : Sv := fun e => .rt (.fz .none) e
def sIf (t : Tv) (f g : Sv) : Sv := fun e => (t e).out fun p => match p.1 with
  | true => f p.2
  | false => g p.2
def sSet (i : Nat) (f : Ev) : Sv := fun e => (f e).out fun p => if i < p.2.length then .nx (p.2.set i p.1.sl) else .stuck
/-! targets -/
abbrev Gv := D → En → Option En
def gNm (i : Nat) : Gv := fun d e => if i < e.length then some (e.set i (.fz d)) else none
def gTupD (gs : List Gv) : Gv := fun d e => match d with
  | .tuple ds => go gs ds e
  | _ => none
where go : List Gv → List D → En → Option En
  | [], [], e => some e
  | g :: gs, d :: ds, e => (g d e).bind (go gs ds)
  | _, _, _ => none
def sAsg (f : Ev) (g : Gv) : Sv := fun e => (f e).out fun p => match g p.1.d p.2 with
  | some e' => .nx e'
  | none => .stuck
def sAug (i : Nat) (g : D → D → Option Vl) (f : Ev) : Sv := fun e => match e[i]? with
  | some (.fz d) => (f e).out fun p => match g d p.1.d with
    | some x => .nx (p.2.set i x.sl)
    | none => .stuck
  | _ => .stuck
section
variable {X : Cx} {K : KW} {W : WX} {io : List Nat} {F H F1 H1 : Hp} {As As1 : Nat → List Addr} {σ σ1 : Sto} {Dn : Ends}
theorem PSt.on {o : Out} (x : Ext F H As F1 H1 As1) (k : Keep io σ σ1) (h : PSt K W io F H As σ Dn o) : PSt K W io F1 H1 As1 σ1 Dn o := by
  cases o with
  | nx e => exact fun F' H' As' σ' y r z => h F' H' As' σ' (x.trans y) r (k.trans z)
  | bk e => exact fun F' H' As' σ' y r z => h F' H' As' σ' (x.trans y) r (k.trans z)
  | ct e => exact fun F' H' As' σ' y r z => h F' H' As' σ' (x.trans y) r (k.trans z)
  | rt v e => exact fun v F' H' As' σ' A y r z o f => h v F' H' As' σ' A (x.trans y) r (k.trans z) o (f.back x)
  | exc c fs e => exact fun cls dx F' H' As' σ' y r z o => h cls dx F' H' As' σ' (x.trans y) r (k.trans z) o
  | stuck => exact h
/-- an evaluation within a statement -/
theorem PSt.pr {α : Type} {r : Rs α} {f : α → Out} {k : α → Prop} (h : PSt K W io F H As σ Dn (r.out f)) (go : ∀ a, r = .ok a → PSt K W io F H As σ Dn (f a) → k a) : PR K W F H As σ k r := by
  cases r with
  | ok a => exact go a rfl h
  | exc c fs e => exact fun cls dx F' H' As' x r z => h cls dx F' H' As' σ x r Keep.refl z
  | stuck => exact h
theorem dss_nil : DSs X W io [] sNx := ⟨fun pins s σ H D I ⟨F, e, As, r0, h⟩ => wpAny_execs_nil ⟨σ, H, I, h F H As σ Ext.refl r0 Keep.refl⟩⟩
theorem dss_cons {st : Stmt} {sts : List Stmt} {f g : Sv} (h1 : DS X W io st f) (h2 : DSs X W io sts g) : DSs X W io (st :: sts) (sSeq f g) := by
  refine pss_weak (pss_cons h1 h2) fun D σ H ⟨F, e, As, r0, h⟩ => ⟨F, e, As, r0, ?_⟩
  unfold sSeq at h
  cases q : f e with
  | nx e' =>
    rw [q] at h
    exact fun F' H' As' σ' x r k => ⟨F', e', As', r, h.on x k⟩
  | bk e' => rw [q] at h; exact h
  | ct e' => rw [q] at h; exact h
  | rt x e' => rw [q] at h; exact h
  | exc c fs e' => rw [q] at h; exact h
  | stuck => rw [q] at h; exact h
theorem dss_one {st : Stmt} {f : Sv} (h1 : DS X W io st f) : DSs X W io [st] f := pss_one h1
theorem ds_pass {pos : Pos} : DS X W io (.Pass pos) sNx := ps_weak ps_pass fun D σ H ⟨F, e, As, r0, h⟩ => h F H As σ Ext.refl r0 Keep.refl
theorem ds_break {pos : Pos} : DS X W io (.Break pos) sBk := ps_weak ps_break fun D σ H ⟨F, e, As, r0, h⟩ => h F H As σ Ext.refl r0 Keep.refl
theorem ds_continue {pos : Pos} : DS X W io (.Continue pos) sCt := ps_weak ps_continue fun D σ H ⟨F, e, As, r0, h⟩ => h F H As σ Ext.refl r0 Keep.refl
theorem ds_doc {x j pos pos'} : DS X W io (.Expr (.Constant (.str x) j pos) pos') sNx := ps_weak ps_doc fun D σ H ⟨F, e, As, r0, h⟩ => h F H As σ Ext.refl r0 Keep.refl
theorem ds_retN {pos : Pos} : DS X W io (.Return none pos) sRetN := ps_weak ps_retN fun D σ H ⟨F, e, As, r0, h⟩ => h .non F H As σ [] Ext.refl r0 Keep.refl ⟨rfl, .non⟩ Fresh.nil
theorem ds_expr {x : Expr} {pos : Pos} {f : Ev} (h : DE X W x f) (hs : swapsWith x none pos.line X.env = pure false := by rfl) : DS X W io (.Expr x pos) (sExpr f) :=
  ps_weak (ps_expr h hs) fun D σ H ⟨F, e, As, r0, h⟩ => ⟨F, e, As, r0, h.pr fun p _ q v F' H' As' A x r o fr => q F' H' As' σ x r Keep.refl⟩
theorem ds_ret {x : Expr} {pos : Pos} {f : Ev} (h : DE X W x f) : DS X W io (.Return (some x) pos) (sRet f) :=
  ps_weak (ps_ret h) fun D σ H ⟨F, e, As, r0, h⟩ => ⟨F, e, As, r0, h.pr fun p _ q v F' H' As' A x r o fr => q v F' H' As' σ A x r Keep.refl o fr⟩
theorem ds_if {c : Expr} {a b : List Stmt} {pos : Pos} {t : Tv} {f g : Sv} (hc : DT X W c t) (ha : DSs X W io a f) (hb : DSs X W io b g) : DS X W io (.If c a b pos) (sIf t f g) := by
  refine ps_weak (ps_if hc ha hb) fun D σ H ⟨F, e, As, r0, h⟩ => ⟨F, e, As, r0, h.pr fun p _ q F' H' As' x r => ?_⟩
  obtain ⟨pb, pe⟩ := p
  cases pb with
  | true => exact iteT ⟨F', pe, As', r, q.on x Keep.refl⟩
  | false => exact iteF ⟨F', pe, As', r, q.on x Keep.refl⟩
/-! a slot is stored -/
theorem Vl.sl_ok {x : Vl} {v : V} {A : List Addr} (o : VlOk K F H x v A) : SlOk K F H x.sl (some v) A := by
  cases x with
  | fz d => exact ⟨o.1, v, rfl, o.2⟩
  | ow n d => exact ⟨v, rfl, o⟩
def putA (As : Nat → List Addr) (i : Nat) (A : List Addr) : Nat → List Addr := fun j => if j = i then A else As j
theorem putA_same {As : Nat → List Addr} {i : Nat} {A : List Addr} : putA As i A i = A := if_pos rfl
theorem putA_ne {As : Nat → List Addr} {i j : Nat} {A : List Addr} (h : j ≠ i) : putA As i A j = As j := if_neg h
theorem onn_putA {As : Nat → List Addr} {i : Nat} {A : List Addr} {a : Addr} (h : Onn (putA As i A) a) : a ∈ A ∨ Onn As a := by
  obtain ⟨j, hj⟩ := h
  by_cases e : j = i
  · subst e; rw [putA_same] at hj; exact .inl hj
  · rw [putA_ne e] at hj; exact .inr ⟨j, hj⟩
theorem Rel.put {e : En} (r : Rel K F e As σ H) {i : Nat} (hi : i < e.length) {x : Sl} {v : V} {A : List Addr} (o : SlOk K F H x (some v) A) (off : ∀ a ∈ A, ¬ Onn As a) : Rel K F (e.set i x) (putA As i A) (σ.set i (some v)) H where
  sub := r.sub
  len := by simpa using r.len
  slot := fun j y hj => by
    by_cases e1 : j = i
    · subst e1
      rw [List.getElem?_set_self hi] at hj
      cases hj
      rw [putA_same, List.getElem?_set_self (by rw [← r.len]; exact hi)]
      exact ⟨_, rfl, o⟩
    · rw [List.getElem?_set_ne (Ne.symm e1)] at hj
      rw [putA_ne e1, List.getElem?_set_ne (Ne.symm e1)]
      exact r.slot j y hj
  out := fun j hj => by
    rw [List.length_set] at hj
    rw [putA_ne (by omega)]
    exact r.out j hj
  dj := fun j k a hjk ha => by
    by_cases e1 : j = i
    · subst e1
      rw [putA_same] at ha
      rw [putA_ne (Ne.symm hjk)]
      exact fun z => off a ha ⟨k, z⟩
    · rw [putA_ne e1] at ha
      by_cases e2 : k = i
      · subst e2
        rw [putA_same]
        exact fun z => off a z ⟨j, ha⟩
      · rw [putA_ne e2]
        exact r.dj j k a hjk ha
  frz := r.frz
theorem Ext.put {i : Nat} {A : List Addr} (x : Ext F H As F1 H1 As1) (f : ∀ a ∈ A, Onn As a ∨ H a = none) : Ext F H As F1 H1 (putA As1 i A) :=
  ⟨x.ff, x.fn, x.hh, fun a z => (onn_putA z).elim (f a) (x.oo a)⟩
theorem set_weak {i : Nat} {f : Ev} (hio : i ∉ io) : ∀ D σ H, tS K W io (sSet i f) D σ H → tAsg (tD K W f) (gName i) D σ H := by
  intro D σ H ⟨F, e, As, r0, h⟩
  refine ⟨F, e, As, r0, h.pr fun p _ q v F' H' As' A x r o fr => ?_⟩
  by_cases hi : i < p.2.length
  · rw [if_pos hi] at q
    exact q F' H' (putA As' i A) _ (x.put fr.new) (r.put hi (Vl.sl_ok o) fr.off) (Keep.set hio)
  · rw [if_neg hi] at q
    exact q.elim
theorem ds_set {i : Nat} {x : Str} {e : Expr} {pos pos' : Pos} {f : Ev} (hN : X.N.Nodup) (hi : X.N[i]? = some x) (hx : Loc X.env.scope x) (he : DE X W e f) (hio : i ∉ io) (hs : swapsWith e (some (.Name x pos')) pos.line X.env = pure false := by rfl)
    (hf : X.fn x = true ∨ X.env.scope.names.lookup x = some .local := by first | exact .inl rfl | exact .inr rfl | assumption) : DS X W io (.Assign [.Name x pos'] e pos) (sSet i f) := ps_weak (ps_set hN hi hx he hs hf) (set_weak hio)
/-! targets -/
def tG (K : KW) (io : List Nat) (g : Gv) : TG := fun v σ H Q => ∃ F e As d e', Rel K F e As σ H ∧ Den K F v d ∧ g d e = some e' ∧ ∀ As' σ', Ext F H As F H As' → Rel K F e' As' σ' H → Keep io σ σ' → Q σ' H
def tGs (K : KW) (io : List Nat) (gs : List Gv) : TGs := fun vs σ H Q => ∃ F e As ds e', Rel K F e As σ H ∧ DenAll K F vs ds ∧ gTupD.go gs ds e = some e' ∧ ∀ As' σ', Ext F H As F H As' → Rel K F e' As' σ' H → Keep io σ σ' → Q σ' H
abbrev DG (X : Cx) (io : List Nat) (x : Expr) (g : Gv) : Prop := PG X x (tG X.KW io g)
abbrev DGs (X : Cx) (io : List Nat) (x : List Expr) (g : List Gv) : Prop := PGs X x (tGs X.KW io g)
theorem pg_weak {x : Expr} {t t' : TG} (h : PG X x t) (w : ∀ v σ H Q, t' v σ H Q → t v σ H Q) : PG X x t' := ⟨fun pins s σ H v u Q I r q => h.run pins s σ H v u Q I r (w _ _ _ _ q)⟩
theorem pgs_weak {x : List Expr} {t t' : TGs} (h : PGs X x t) (w : ∀ v σ H Q, t' v σ H Q → t v σ H Q) : PGs X x t' := ⟨fun pins s σ H v u Q I r q => h.run pins s σ H v u Q I r (w _ _ _ _ q)⟩
theorem dg_name {i : Nat} {x : Str} {pos : Pos} (hN : X.N.Nodup) (hi : X.N[i]? = some x) (hx : Loc X.env.scope x) (hio : i ∉ io) (hf : X.fn x = true ∨ X.env.scope.names.lookup x = some .local := by first | exact .inl rfl | exact .inr rfl | assumption) : DG X io (.Name x pos) (gNm i) :=
  pg_weak (pg_name hN hi hx hf) fun v σ H Q ⟨F, e, As, d, e', r, hd, hg, k⟩ => by
    obtain ⟨hl, rfl⟩ := ite_some hg
    exact k _ _ (Ext.refl.put (A := []) fun _ z => (nomatch z)) (r.put hl (A := []) ⟨rfl, v, rfl, hd⟩ fun _ z => (nomatch z)) (Keep.set hio)
theorem dgs_nil : DGs X io [] [] := pgs_weak pgs_nil fun vs σ H Q ⟨F, e, As, ds, e', r, hd, hg, k⟩ => by
  cases hd with
  | nil => cases hg; exact ⟨rfl, k As σ Ext.refl r Keep.refl⟩
  | cons => cases hg
theorem dgs_cons {x : Expr} {xs : List Expr} {g : Gv} {gs : List Gv} (h1 : DG X io x g) (h2 : DGs X io xs gs) (hs : (assignEach (x :: xs) X.env).map (·.2) = assign x X.env :: (assignEach xs X.env).map (·.2) := by rfl) : DGs X io (x :: xs) (g :: gs) :=
  pgs_weak (pgs_cons h1 h2 hs) fun vs σ H Q ⟨F, e, As, ds, e', r, hd, hg, k⟩ => by
    cases hd with
    | nil => cases hg
    | cons d1 d2 =>
      obtain ⟨e1, q1, q2⟩ := Option.bind_eq_some_iff.mp hg
      exact ⟨_, _, rfl, F, e, As, _, e1, r, d1, q1, fun As' σ' x1 r1 k1 => ⟨F, e1, As', _, e', r1, d2, q2, fun As2 σ2 x2 r2 k2 => k As2 σ2 (x1.trans x2) r2 (k1.trans k2)⟩⟩
theorem dg_tup {es : List Expr} {kk n : Nat} {pos : Pos} {gs : List Gv} (hc : X.calm = true) (h : DGs X io es gs) (hl : gs.length = n := by rfl) (hn : (assignEach es X.env).length = n := by rfl) (hst : (assignEach es X.env).findIdx? (·.1) = none := by rfl) : DG X io (.Tuple es kk pos) (gTupD gs) :=
  pg_weak (pg_tup hc h hn hst) fun v σ H Q ⟨F, e, As, d, e', r, hd, hg, k⟩ => by
    have key : ∀ (gs : List Gv) (ds : List D) (e e' : En), gTupD.go gs ds e = some e' → ds.length = gs.length := by
      intro gs
      induction gs with
      | nil => intro ds e e' h; cases ds with
        | nil => rfl
        | cons => cases h
      | cons g gs ih => intro ds e e' h; cases ds with
        | nil => cases h
        | cons d ds =>
          obtain ⟨e1, _, q2⟩ := Option.bind_eq_some_iff.mp h
          simp [ih ds e1 e' q2]
    cases d with
    | tuple ds =>
      obtain ⟨a, xs, rfl, r1, q1⟩ := den_tup r.sub hd
      exact ⟨a, xs, rfl, r1, by rw [DenAll.length q1, key gs ds e e' hg, hl], F, e, As, ds, e', r, q1, hg, k⟩
    | _ => cases hg
theorem asg_weak {f : Ev} {g : Gv} : ∀ D σ H, tS K W io (sAsg f g) D σ H → tAsg (tD K W f) (tG K io g) D σ H := by
  intro D σ H ⟨F, e, As, r0, h⟩
  refine tD_share r0 (h.pr fun p _ q v F' H' As' x r d => ?_)
  cases hg : g p.1.d p.2 with
  | none => rw [hg] at q; exact q.elim
  | some e' =>
    rw [hg] at q
    exact ⟨F', p.2, As', p.1.d, e', r, d, hg, fun As2 σ2 x2 r2 k2 => q F' H' As2 σ2 (x.trans x2) r2 k2⟩
theorem ds_asg {tg x : Expr} {pos : Pos} {f : Ev} {g : Gv} (he : DE X W x f) (hg : DG X io tg g) (hs : swapsWithSole [tg] x pos.line X.env = pure false := by rfl) (hw : swappedStores [tg] x X.env = pure none := by rfl)
    (h1 : (assignEach [tg] X.env).map (·.2) = [assign tg X.env] := by rfl) : DS X W io (.Assign [tg] x pos) (sAsg f g) := ps_weak (ps_asg he hg hs hw h1) asg_weak
/-! name += e -/
theorem ds_aug {i : Nat} {x : Str} {e : Expr} {op : Operator} {r : R2} {g : D → D → Option Vl} {f : Ev} {pos pos' : Pos} (hN : X.N.Nodup) (hi : X.N[i]? = some x) (hx : Loc X.env.scope x) (he : DE X W e f) (ho : OpR X (inplaceOp op) r) (pr : Prim2 X.KW r g) (hio : i ∉ io)
    (hf : X.fn x = true ∨ X.env.scope.names.lookup x = some .local := by first | exact .inl rfl | exact .inr rfl | assumption) : DS X W io (.AugAssign (.Name x pos') op e pos) (sAug i g f) := by
  refine ps_weak (ps_aug (ti := r) hN hi hx he (fun pins s σ H x y v u Q I rx ry q => ho pins s σ H x y v u Q I rx ry q) hf) fun D σ H ⟨F, e, As, r0, h⟩ => ?_
  unfold sAug at h
  cases q : e[i]? with
  | none => rw [q] at h; exact h.elim
  | some sl =>
    rw [q] at h
    cases sl with
    | un => exact h.elim
    | ow n d => exact h.elim
    | fz d =>
      obtain ⟨v, h1, h2⟩ := r0.fzAt q
      refine ⟨v, h1, tD_share r0 (h.pr fun p _ hq w F' H' As' x1 r1 d1 => ?_)⟩
      cases hg : g d p.1.d with
      | none =>
        change PSt X.KW W io F H As σ D (match g d p.1.d with
          | some x => .nx (p.2.set i x.sl)
          | none => .stuck) at hq
        rw [hg] at hq
        exact hq.elim
      | some y =>
        change PSt X.KW W io F H As σ D (match g d p.1.d with
          | some x => .nx (p.2.set i x.sl)
          | none => .stuck) at hq
        rw [hg] at hq
        refine pr F' H' v w d p.1.d y _ r1.sub (Den.sub x1.ff _ _ h2) d1 hg fun u F2 H2 A n o => ?_
        have r2 := r1.new n
        have hl : i < p.2.length := by
          rw [r1.len, ← r0.len]
          exact (List.getElem?_eq_some_iff.mp q).1
        have fr := n.fresh r1
        exact hq F2 H2 (putA As' i A) _ ((x1.trans (n.ext (As := As'))).put fun a ha => x1.back (fr.new a ha)) (r2.put hl (Vl.sl_ok o) fr.off) (Keep.set hio)
end
end VS


set_option Elab.async false
set_option linter.all false
set_option maxRecDepth 100000
/-! VS5: loops, what they walk, comprehensions, the methods that change a list of our own. -/
namespace VS
open PySem PySem.Spec PyProof.Rows L2
abbrev Iv := En → Rs (List D × En)
def forL (g : Gv) (body : Sv) : List D → En → Out
  | [], e => .nx e
  | d :: ds, e => match g d e with
    | none => .stuck
    | some e1 => match body e1 with
      | .nx e2 => forL g body ds e2
      | .ct e2 => forL g body ds e2
      | .bk e2 => .nx e2
      | .rt x e2 => .rt x e2
      | .exc c fs e2 => .exc c fs e2
      | .stuck => .stuck
def sFor (it : Iv) (g : Gv) (body : Sv) : Sv := fun e => (it e).out fun p => forL g body p.1 p.2
def whileN (t : Tv) (b : Sv) : Nat → En → Out
  | 0, _ => .stuck
  | n + 1, e => (t e).out fun p => match p.1 with
    | false => .nx p.2
    | true => match b p.2 with
      | .nx e2 => whileN t b n e2
      | .ct e2 => whileN t b n e2
      | .bk e2 => .nx e2
      | .rt x e2 => .rt x e2
      | .exc c fs e2 => .exc c fs e2
      | .stuck => .stuck
/-- what is walked: ds, as long as what is frozen in F stays -/
def WalkD (K : KW) (J : It) (F : Hp) (ds : List D) : Prop := ∀ F' H', Sub F F' → Sub F' H' →
  (∀ i, i < ds.length → J.go i H') ∧ J.stop ds.length H' ∧ ∀ i x H'', i < ds.length → J.yld i H' x H'' → ∃ F'', New F' H' F'' H'' [] ∧ ∃ d, ds[i]? = some d ∧ Den K F'' x d
def PI2 (K : KW) (F H : Hp) (As : Nat → List Addr) (σ : Sto) (R : It → Hp → Prop) (p : List D × En) : Prop :=
  ∀ J F' H' As', Ext F H As F' H' As' → Rel K F' p.2 As' σ H' → WalkD K J F' p.1 → R J H'
def tI (K : KW) (W : WX) (it : Iv) : TI := fun σ H R => ∃ F e As, Rel K F e As σ H ∧ PR K W F H As σ (PI2 K F H As σ R) (it e)
abbrev DI (X : Cx) (W : WX) (tg iter : Expr) (it : Iv) : Prop := PI X tg iter (tI X.KW W it)
theorem pi_weak {X : Cx} {tg x : Expr} {t t' : TI} (h : PI X tg x t) (w : ∀ σ H R, t' σ H R → t σ H R) : PI X tg x t' := ⟨fun pins s σ H R I q => h.run pins s σ H R I (w _ _ _ q)⟩
section
variable {X : Cx} {K : KW} {W : WX} {io : List Nat} {F H F1 H1 : Hp} {As As1 : Nat → List Addr} {σ σ1 : Sto} {Dn : Ends}
theorem for_weak {it : Iv} {g : Gv} {body : Sv} : ∀ D σ H, tS K W io (sFor it g body) D σ H → tFor (tI K W it) (tG K io g) (tS K W io body) D σ H := by
  intro D σ H ⟨F, e, As, r0, h⟩
  refine ⟨F, e, As, r0, h.pr fun p _ q J F1 H1 As1 x1 r1 wk => ?_⟩
  obtain ⟨ds, e1⟩ := p
  refine ⟨fun i m σi Hi => m = ds.length - i ∧ i ≤ ds.length ∧ ∃ Fi ei Asi, Rel K Fi ei Asi σi Hi ∧ Sub F1 Fi ∧ Ext F H As Fi Hi Asi ∧ Keep io σ σi ∧ PSt K W io F H As σ D (forL g body (ds.drop i) ei),
    ⟨ds.length, by simp, Nat.zero_le _, F1, e1, As1, r1, Sub.refl _, x1, Keep.refl, by simpa using q⟩, ?_⟩
  rintro i m σi Hi ⟨rfl, hi, Fi, ei, Asi, ri, si, xi, ki, hq⟩
  obtain ⟨w1, w2, w3⟩ := wk Fi Hi si ri.sub
  by_cases hlt : i < ds.length
  · refine .inr ⟨w1 i hlt, fun σ' H' => ∃ F' e' As', Rel K F' e' As' σ' H' ∧ Sub F1 F' ∧ Ext F H As F' H' As' ∧ Keep io σ σ' ∧ PSt K W io F H As σ D (forL g body (ds.drop (i + 1)) e'), fun σ' H' hN => ⟨ds.length - (i + 1), by omega, rfl, hlt, hN⟩, fun x H' y => ?_⟩
    obtain ⟨F2, n2, d, hd, dn⟩ := w3 i x H' hlt y
    rw [List.drop_eq_getElem_cons hlt] at hq
    have ed : ds[i] = d := by
      rw [List.getElem?_eq_getElem hlt] at hd
      exact Option.some.inj hd
    rw [ed] at hq
    unfold forL at hq
    cases hg : g d ei with
    | none => rw [hg] at hq; exact hq.elim
    | some e2 =>
      rw [hg] at hq
      have r2 := ri.new n2
      have x2 : Ext F H As F2 H' Asi := xi.trans n2.ext
      refine ⟨F2, ei, Asi, d, e2, r2, dn, hg, fun As3 σ3 x3 r3 k3 => ⟨F2, e2, As3, r3, ?_⟩⟩
      have s3 : Sub F1 F2 := si.trans n2.ff
      change PSt K W io F H As σ D (match body e2 with
        | .nx e2 => forL g body (ds.drop (i + 1)) e2
        | .ct e2 => forL g body (ds.drop (i + 1)) e2
        | .bk e2 => .nx e2
        | .rt x e2 => .rt x e2
        | .exc c fs e2 => .exc c fs e2
        | .stuck => .stuck) at hq
      cases hb : body e2 with
      | nx e4 =>
        rw [hb] at hq
        exact fun F' H'' As' σ' x r k => ⟨F', e4, As', r, s3.trans x.ff, x2.trans (x3.trans x), (ki.trans k3).trans k, hq⟩
      | ct e4 =>
        rw [hb] at hq
        exact fun F' H'' As' σ' x r k => ⟨F', e4, As', r, s3.trans x.ff, x2.trans (x3.trans x), (ki.trans k3).trans k, hq⟩
      | bk e4 =>
        rw [hb] at hq
        exact fun F' H'' As' σ' x r k => hq F' H'' As' σ' (x2.trans (x3.trans x)) r ((ki.trans k3).trans k)
      | rt v e4 =>
        rw [hb] at hq
        exact fun v F' H'' As' σ' A x r k o f => hq v F' H'' As' σ' A (x2.trans (x3.trans x)) r ((ki.trans k3).trans k) o ((f.back x3).back x2)
      | exc c fs e4 =>
        rw [hb] at hq
        exact fun cls dx F' H'' As' σ' x r k z => hq cls dx F' H'' As' σ' (x2.trans (x3.trans x)) r ((ki.trans k3).trans k) z
      | stuck => rw [hb] at hq; exact hq.elim
  · have e0 : i = ds.length := by omega
    subst e0
    rw [List.drop_length] at hq
    exact .inl ⟨w2, hq Fi Hi Asi σi xi ri ki⟩
theorem ds_for {tg iter : Expr} {body : List Stmt} {it : Iv} {g : Gv} {f : Sv} {pos : Pos} (hp : PassesOwn (model X.prog X.w) X.A X.env X.xe) (hc : X.calm = true) (hi : DI X W tg iter it) (hg : DG X io tg g) (hb : DSs X W io body f)
    (hs : ∀ x, foldedSetIterable iter X.env x = pure x := by exact fun _ => rfl) : DS X W io (.For tg iter body [] pos) (sFor it g f) := ps_weak (ps_for hp hc hi hg hb hs) for_weak
theorem while_weak {n : Nat} {t : Tv} {body : Sv} : ∀ D σ H, tS K W io (whileN t body n) D σ H → tWhile (tDT K W t) (tS K W io body) D σ H := by
  intro D σ H ⟨F, e, As, r0, h⟩
  refine ⟨fun m σi Hi => ∃ Fi ei Asi, Rel K Fi ei Asi σi Hi ∧ Ext F H As Fi Hi Asi ∧ Keep io σ σi ∧ PSt K W io F H As σ D (whileN t body m ei), ⟨n, F, e, As, r0, Ext.refl, Keep.refl, h⟩, ?_⟩
  rintro m σi Hi ⟨Fi, ei, Asi, ri, xi, ki, hq⟩
  cases m with
  | zero => exact hq.elim
  | succ m =>
    refine ⟨Fi, ei, Asi, ri, ?_⟩
    unfold whileN at hq
    cases ht : t ei with
    | stuck => rw [ht] at hq; exact hq.elim
    | exc c fs e2 =>
      rw [ht] at hq
      exact fun cls dx F' H' As' x r z => hq cls dx F' H' As' σi (xi.trans x) r ki z
    | ok p =>
      obtain ⟨b, e2⟩ := p
      rw [ht] at hq
      cases b with
      | false => exact fun F2 H2 As2 x2 r2 => iteF (hq F2 H2 As2 σi (xi.trans x2) r2 ki)
      | true =>
        intro F2 H2 As2 x2 r2
        refine iteT ⟨fun σ' H' => ∃ F' e' As', Rel K F' e' As' σ' H' ∧ Ext F H As F' H' As' ∧ Keep io σ σ' ∧ PSt K W io F H As σ D (whileN t body m e'), fun σ' H' z => ⟨m, Nat.lt_succ_self m, z⟩, F2, e2, As2, r2, ?_⟩
        change PSt K W io F H As σ D (match body e2 with
          | .nx e2 => whileN t body m e2
          | .ct e2 => whileN t body m e2
          | .bk e2 => .nx e2
          | .rt x e2 => .rt x e2
          | .exc c fs e2 => .exc c fs e2
          | .stuck => .stuck) at hq
        have x3 := xi.trans x2
        cases hb : body e2 with
        | nx e4 =>
          rw [hb] at hq
          exact fun F' H'' As' σ' x r k => ⟨F', e4, As', r, x3.trans x, ki.trans k, hq⟩
        | ct e4 =>
          rw [hb] at hq
          exact fun F' H'' As' σ' x r k => ⟨F', e4, As', r, x3.trans x, ki.trans k, hq⟩
        | bk e4 =>
          rw [hb] at hq
          exact fun F' H'' As' σ' x r k => hq F' H'' As' σ' (x3.trans x) r (ki.trans k)
        | rt v e4 =>
          rw [hb] at hq
          exact fun v F' H'' As' σ' A x r k o f => hq v F' H'' As' σ' A (x3.trans x) r (ki.trans k) o (f.back x3)
        | exc c fs e4 =>
          rw [hb] at hq
          exact fun cls dx F' H'' As' σ' x r k z => hq cls dx F' H'' As' σ' (x3.trans x) r (ki.trans k) z
        | stuck => rw [hb] at hq; exact hq.elim
def sWhile (n : Nat) (t : Tv) (b : Sv) : Sv := whileN t b n
theorem ds_while {n : Nat} {c : Expr} {body : List Stmt} {t : Tv} {f : Sv} {pos : Pos} (hp : PassesOwn (model X.prog X.w) X.A X.env X.xe) (hc : DT X W c t) (hb : DSs X W io body f) : DS X W io (.While c body [] pos) (sWhile n t f) := ps_weak (ps_while hp hc hb) while_weak
/-! ### what is walked -/
theorem pi_any {tg l : Expr} {tl : TE} (hl : PE X l tl) : PI X tg l (fun σ H R => tl σ H fun x H1 => ∃ a, x = .ref a ∧ (((∃ xs, SqL X.K H1 a xs) ∧ R (Itl X.K a) H1) ∨ ((∃ xs, SqT X.K H1 a xs) ∧ R (Itt X.K a) H1))) := by
  refine ⟨fun pins s σ H R I h => ?_⟩
  refine thn (hl.run pins s σ H _ I h) fun v s1 ⟨x, H1, I1, r1, q1⟩ => ?_
  obtain ⟨a, e, q⟩ := q1
  subst e
  cases r1
  rcases q with ⟨⟨xs, hq⟩, q⟩ | ⟨⟨xs, hq⟩, q⟩
  · obtain ⟨its, rv, p, hz⟩ := I1.list hq
    refine wpAny_pyIter_list p.isList ?_
    refine ⟨s1.heap.objs.size, [s1.heap.objs.size], _, _, H1, rfl, I1.kept (t' := s1.toks) fun b o e => Heap.get?_push_of_some _ e, turn_list a _, ⟨_, Heap.get?_push_size _ rfl, rfl, rfl⟩, fun b hb => ?_, q⟩
    have e : b = s1.heap.objs.size := by simpa using hb
    subst e
    exact I1.fpOk (Nat.le_refl _) (I1.hok.fresh (Nat.le_refl _))
  · obtain ⟨its, rv, p, hz⟩ := I1.tuple hq
    refine wpAny_pyIter_tuple (show s1.heap.IsTuple a its.toArray from p) ?_
    refine ⟨s1.heap.objs.size, [s1.heap.objs.size], _, _, H1, rfl, I1.kept (t' := s1.toks) fun b o e => Heap.get?_push_of_some _ e, turn_tuple a _, ⟨_, Heap.get?_push_size _ rfl, rfl, rfl⟩, fun b hb => ?_, q⟩
    have e : b = s1.heap.objs.size := by simpa using hb
    subst e
    exact I1.fpOk (Nat.le_refl _) (I1.hok.fresh (Nat.le_refl _))
def seqOf : D → Option (List D)
  | .list ds => some ds
  | .tuple ds => some ds
  | _ => none
def iSeq (f : Ev) : Iv := fun e => (f e).bind fun p => (Rs.of (seqOf p.1.d)).bind fun ds => .ok (ds, p.2)
theorem walk_at {J : It} {xs : List V} {ds : List D} (G : Hp → Prop) (w : L2.Walk J xs.length G (YAt xs)) (h : DenAll K F xs ds) (hG : ∀ F' H', Sub F F' → Sub F' H' → G H') : WalkD K J F ds := fun F' H' s1 s2 => by
  have hl := DenAll.length h
  rw [← hl]
  refine ⟨fun i hi => w.goes i H' hi (hG F' H' s1 s2), w.stops H' (hG F' H' s1 s2), fun i x H'' hi y => ?_⟩
  obtain ⟨rfl, e⟩ := w.yields i H' x H'' hi (hG F' H' s1 s2) y
  obtain ⟨d, e2, q⟩ := DenAll.inj_len h e
  exact ⟨F', New.refl s2, d, e2, Den.sub s1 _ _ q⟩
theorem di_seq {tg l : Expr} {f : Ev} (hl : DE X W l f) : DI X W tg l (iSeq f) := by
  refine pi_weak (pi_any hl) fun σ H R ⟨F, e, As, r0, h⟩ => ?_
  refine tD_then (k := PI2 X.KW F H As σ R) r0 h fun p v F1 H1 As1 ep x1 r1 d1 h1 => ?_
  obtain ⟨ds, hd, h2⟩ := h1.of
  cases q : p.1.d with
  | list es =>
    rw [q] at hd d1
    cases hd
    cases d1 with
    | lst hr ha => exact ⟨_, rfl, .inl ⟨⟨_, RdK.sq (RdK.sub r1.sub hr)⟩, h2 _ F1 H1 As1 x1 r1 (walk_at _ walk_list ha fun F' H' s1 s2 => RdK.sq (RdK.sub (s1.trans s2) hr))⟩⟩
  | tuple es =>
    rw [q] at hd d1
    cases hd
    cases d1 with
    | tup hr ha => exact ⟨_, rfl, .inr ⟨⟨_, SqT.sub r1.sub hr⟩, h2 _ F1 H1 As1 x1 r1 (walk_at _ walk_tup ha fun F' H' s1 s2 => SqT.sub (s1.trans s2) hr)⟩⟩
  | _ => rw [q] at hd; cases hd
def rangeD (lo : Int) (n : Nat) : List D := (List.range n).map fun i => .int (lo + (i : Nat))
theorem walk_fn {J : It} {n : Nat} {f : Nat → Int} (w : L2.Walk J n (fun _ => True) (YFn fun i => .int (f i))) : WalkD K J F ((List.range n).map fun i => .int (f i)) := fun F' H' s1 s2 => by
  rw [List.length_map, List.length_range]
  refine ⟨fun i hi => w.goes i H' hi trivial, w.stops H' trivial, fun i x H'' hi y => ?_⟩
  obtain ⟨rfl, rfl⟩ := w.yields i H' x H'' hi trivial y
  exact ⟨F', New.refl s2, .int (f i), by rw [List.getElem?_map, List.getElem?_range hi] <;> rfl, .int _⟩
def inR (i : Int) : Bool := decide (-4611686018427387904 ≤ i) && decide (i < 4611686018427387904)
theorem inR_ok {i : Int} (h : inR i = true) : -(2 ^ 62) ≤ i ∧ i < 2 ^ 62 := by
  unfold inR at h
  simp only [Bool.and_eq_true, decide_eq_true_eq] at h
  omega
def iRange1 (f : Ev) : Iv := fun e => (f e).bind fun p => match p.1.d with
  | .int j => if inR j = true then .ok (rangeD 0 j.toNat, p.2) else .stuck
  | _ => .stuck
theorem di_range1 {tg a : Expr} {p pos : Pos} {f : Ev} (hg : Gl X "range") (hm : X.mg "range" = none) (ha : DE X W a f) (hs : starEach [a] X.env = [(false, eval a X.env)] := by rfl) : DI X W tg (.Call (.Name "range" p) [a] [] pos) (iRange1 f) := by
  refine pi_weak (pi_range1 hg hm (pa_cons ha pa_nil hs) hs) fun σ H R ⟨F, e, As, r0, h⟩ => ?_
  refine tD_then (k := PI2 X.KW F H As σ R) r0 h fun p v F1 H1 As1 ep x1 r1 d1 h1 => ?_
  obtain ⟨px, pe⟩ := p
  cases q : px.d with
  | int j =>
    simp only [q] at h1 d1
    by_cases hj : inR j = true
    · rw [if_pos hj] at h1
      rw [den_int d1]
      exact ⟨j, rfl, (inR_ok hj).1, (inR_ok hj).2, h1 _ F1 H1 As1 x1 r1 (walk_fn walk_range)⟩
    · rw [if_neg hj] at h1; exact h1.elim
  | _ => simp only [q] at h1; exact h1.elim
def iRange2 (f g : Ev) : Iv := fun e => (f e).bind fun p => (g p.2).bind fun q => match p.1.d, q.1.d with
  | .int i, .int j => if (inR i && inR j) = true then .ok (rangeD i (j - i).toNat, q.2) else .stuck
  | _, _ => .stuck
theorem di_range2 {tg a b : Expr} {p pos : Pos} {f g : Ev} (hg : Gl X "range") (hm : X.mg "range" = none) (ha : DE X W a f) (hb : DE X W b g) (hs : starEach [a, b] X.env = [(false, eval a X.env), (false, eval b X.env)] := by rfl) (hs2 : starEach [b] X.env = [(false, eval b X.env)] := by rfl) : DI X W tg (.Call (.Name "range" p) [a, b] [] pos) (iRange2 f g) := by
  refine pi_weak (pi_range2 hg hm (pa_cons ha (pa_cons hb pa_nil hs2) (by rw [hs, hs2])) hs hs2) fun σ H R ⟨F, e, As, r0, h⟩ => ?_
  refine tD_then (k := PI2 X.KW F H As σ R) r0 h fun p v F1 H1 As1 ep x1 r1 d1 h1 => ?_
  refine tD_then (k := PI2 X.KW F H As σ R) r1 h1 fun p2 w F2 H2 As2 ep2 x2 r2 d2 h2 => ?_
  obtain ⟨px, pe⟩ := p
  obtain ⟨px2, pe2⟩ := p2
  cases q : px.d with
  | int i =>
    cases q2 : px2.d with
    | int j =>
      simp only [q, q2] at h2 d1 d2
      by_cases hj : (inR i && inR j) = true
      · rw [if_pos hj] at h2
        obtain ⟨c1, c2⟩ := Bool.and_eq_true_iff.mp hj
        rw [den_int d1, den_int d2]
        exact ⟨i, j, rfl, ⟨(inR_ok c1).1, (inR_ok c1).2, (inR_ok c2).1, (inR_ok c2).2⟩, h2 _ F2 H2 As2 (x1.trans x2) r2 (walk_fn walk_range)⟩
      · rw [if_neg hj] at h2; exact h2.elim
    | _ => simp only [q, q2] at h2; exact h2.elim
  | _ => simp only [q] at h2; exact h2.elim
/-- reversed(range(n)) -/
def iRevRange (f : Ev) : Iv := fun e => (f e).bind fun p => match p.1.d with
  | .int j => if inR j = true then .ok ((List.range j.toNat).map fun i => .int (0 + ((j - 0).toNat : Int) - 1 + (i : Nat) * (-1)), p.2) else .stuck
  | _ => .stuck
theorem di_revRange {tg a : Expr} {p p2 pos pos2 : Pos} {f : Ev} (hg : Gl X "reversed") (hm : X.mg "reversed" = none) (hg2 : Gl X "range") (hm2 : X.mg "range" = none) (ha : DE X W a f)
    (na : starEach [a] X.env = (false, eval a X.env) :: starEach [] X.env := by rfl) (hs : starEach [.Call (.Name "range" p2) [a] [] pos2] X.env = (false, eval (.Call (.Name "range" p2) [a] [] pos2) X.env) :: starEach [] X.env := by rfl) :
    DI X W tg (.Call (.Name "reversed" p) [.Call (.Name "range" p2) [a] [] pos2] [] pos) (iRevRange f) := by
  refine pi_weak (pi_revR hg hm (prg_1 hg2 hm2 ha na) hs) fun σ H R ⟨F, e, As, r0, h⟩ => ?_
  refine tD_then (k := PI2 X.KW F H As σ R) r0 h fun p v F1 H1 As1 ep x1 r1 d1 h1 => ?_
  obtain ⟨px, pe⟩ := p
  cases q : px.d with
  | int j =>
    simp only [q] at h1 d1
    by_cases hj : inR j = true
    · rw [if_pos hj] at h1
      rw [den_int d1]
      refine ⟨j, rfl, by omega, by omega, (inR_ok hj).1, (inR_ok hj).2, ?_⟩
      have w := h1 (Itc (0 + (((j - 0).toNat : Nat) : Int) - 1) (-1) (j - 0).toNat) F1 H1 As1 x1 r1
      have e0 : (j - 0).toNat = j.toNat := by rw [Int.sub_zero]
      refine w ?_
      have ww : WalkD X.KW (Itc (0 + (((j - 0).toNat : Nat) : Int) - 1) (-1) (j - 0).toNat) F1 ((List.range (j - 0).toNat).map fun i => .int (0 + ((j - 0).toNat : Int) - 1 + (i : Nat) * (-1))) := walk_fn walk_rangeC
      rw [show List.range (j - 0).toNat = List.range j.toNat by rw [e0]] at ww
      exact ww
    · rw [if_neg hj] at h1; exact h1.elim
  | _ => simp only [q] at h1; exact h1.elim
/-- a new pair a turn -/
theorem walk_pair {J : It} {n : Nat} {G : Hp → Prop} {xs ys : Nat → Option V} (ds es : List D) (w : L2.Walk J n G (YPair xs ys)) (h1 : ds.length = n) (h2 : es.length = n) (dx : ∀ i x, i < n → xs i = some x → ∃ d, ds[i]? = some d ∧ Den K F x d) (dy : ∀ i x, i < n → ys i = some x → ∃ d, es[i]? = some d ∧ Den K F x d)
    (hG : ∀ F' H', Sub F F' → Sub F' H' → G H') : WalkD K J F ((ds.zip es).map fun p => .tuple [p.1, p.2]) := fun F' H' s1 s2 => by
  have hl : ((ds.zip es).map fun p => (.tuple [p.1, p.2] : D)).length = n := by rw [List.length_map, List.length_zip, h1, h2, Nat.min_self]
  rw [hl]
  refine ⟨fun i hi => w.goes i H' hi (hG F' H' s1 s2), w.stops H' (hG F' H' s1 s2), fun i x H'' hi y => ?_⟩
  obtain ⟨T, u, v, rfl, nT, rfl, e1, e2⟩ := w.yields i H' x H'' hi (hG F' H' s1 s2) y
  obtain ⟨d, q1, q2⟩ := dx i u hi e1
  obtain ⟨d', q3, q4⟩ := dy i v hi e2
  refine ⟨upd F' T (.tup [u, v]), New.tup s2 nT, .tuple [d, d'], ?_, (vl_tup s2 nT (.cons (Den.sub s1 _ _ q2) (.cons (Den.sub s1 _ _ q4) .nil))).2⟩
  rw [List.getElem?_map, show (ds.zip es)[i]? = some (d, d') from List.getElem?_zip_eq_some.mpr ⟨q1, q3⟩] <;> rfl
def enumD (ds : List D) : List D := ((rangeD 0 ds.length).zip ds).map fun p => .tuple [p.1, p.2]
def iEnumL (f : Ev) : Iv := fun e => (f e).bind fun p => match p.1.d with
  | .list ds => .ok (enumD ds, p.2)
  | _ => .stuck
theorem di_enumL {a : Expr} {p pos tpos : Pos} {elts : List Expr} {kk : Nat} {f : Ev} (hg : Gl X "enumerate") (hm : X.mg "enumerate" = none) (ha : DE X W a f) (hs : starEach [a] X.env = [(false, eval a X.env)] := by rfl) : DI X W (.Tuple elts kk tpos) (.Call (.Name "enumerate" p) [a] [] pos) (iEnumL f) := by
  refine pi_weak (pi_enum hg hm (pa_cons ha pa_nil hs) hs) fun σ H R ⟨F, e, As, r0, h⟩ => ?_
  refine tD_then (k := PI2 X.KW F H As σ R) r0 h fun p v F1 H1 As1 ep x1 r1 d1 h1 => ?_
  obtain ⟨px, pe⟩ := p
  cases q : px.d with
  | list ds =>
    simp only [q] at h1 d1
    cases d1 with
    | lst hr ha =>
      have hl := DenAll.length ha
      refine ⟨_, _, rfl, RdK.sq (RdK.sub r1.sub hr), h1 _ F1 H1 As1 x1 r1 ?_⟩
      refine walk_pair (rangeD 0 ds.length) ds walk_enum (by unfold rangeD; simp [hl]) hl.symm (fun i x hi e => ?_) (fun i x hi e => DenAll.inj_len ha e) fun F' H' s1 s2 => RdK.sq (RdK.sub (s1.trans s2) hr)
      cases e
      refine ⟨.int (i : Nat), ?_, .int _⟩
      unfold rangeD
      rw [List.getElem?_map, List.getElem?_range (by omega)]
      simp
  | _ => simp only [q] at h1; exact h1.elim
def zipD (ds es : List D) : List D := (ds.zip es).map fun p => .tuple [p.1, p.2]

/-! ### comprehensions -/
def noX {α : Type} (r : Rs α) : Rs α := match r with
  | .exc _ _ _ => .stuck
  | r => r
theorem noX_pr {α : Type} {k : α → Prop} {r : Rs α} {W' : WX} (h : PR K W F H As σ k (noX r)) : PR K W' F H As σ k r := by
  cases r with
  | ok a => exact h
  | exc c fs e => exact h.elim
  | stuck => exact h.elim
def wipeE (e : En) : List Nat → En
  | [] => e
  | v :: vs => (wipeE e vs).set v .un
theorem wipeE_len (e : En) : ∀ vs : List Nat, (wipeE e vs).length = e.length
  | [] => rfl
  | v :: vs => by unfold wipeE; rw [List.length_set, wipeE_len e vs]
theorem wipeE_in {e : En} {i : Nat} (hi : i < e.length) : ∀ {vs : List Nat}, i ∈ vs → (wipeE e vs)[i]? = some .un
  | [], h => nomatch h
  | v :: vs, h => by
    unfold wipeE
    by_cases q : i = v
    · subst q
      rw [List.getElem?_set_self (by rw [wipeE_len]; exact hi)]
    · rw [List.getElem?_set_ne (Ne.symm q)]
      exact wipeE_in hi ((List.mem_cons.mp h).resolve_left q)
theorem wipeE_out {e : En} {i : Nat} : ∀ {vs : List Nat}, i ∉ vs → (wipeE e vs)[i]? = e[i]?
  | [], _ => rfl
  | v :: vs, h => by
    unfold wipeE
    rw [List.getElem?_set_ne (fun q => h (by rw [← q]; exact List.mem_cons_self))]
    exact wipeE_out fun q => h (List.mem_cons_of_mem _ q)
theorem wipe_in {σ : Sto} {i : Nat} (hi : i < σ.length) : ∀ {vs : List Nat}, i ∈ vs → (wipe σ vs)[i]? = some none
  | [], h => nomatch h
  | v :: vs, h => by
    unfold wipe
    by_cases q : i = v
    · subst q
      rw [List.getElem?_set_self (by rw [wipe_length]; exact hi)]
    · rw [List.getElem?_set_ne (Ne.symm q)]
      exact wipe_in hi ((List.mem_cons.mp h).resolve_left q)
def offA (As : Nat → List Addr) (vs : List Nat) : Nat → List Addr := fun j => if j ∈ vs then [] else As j
theorem onn_offA {vs : List Nat} {a : Addr} (h : Onn (offA As vs) a) : Onn As a := by
  obtain ⟨j, hj⟩ := h
  unfold offA at hj
  by_cases q : j ∈ vs
  · rw [if_pos q] at hj; cases hj
  · rw [if_neg q] at hj; exact ⟨j, hj⟩
/-- the block's own names forgotten, in the environment and in the slots as one likes -/
theorem Rel.wipe {e : En} (r : Rel K F e As σ H) (vs : List Nat) {τ : Sto} (hl : τ.length = σ.length) (hτ : ∀ i, i ∉ vs → τ[i]? = σ[i]?) : Rel K F (wipeE e vs) (offA As vs) τ H where
  sub := r.sub
  len := by rw [wipeE_len, hl]; exact r.len
  slot := fun i x h => by
    have hi : i < e.length := by
      have := (List.getElem?_eq_some_iff.mp h).1
      rwa [wipeE_len] at this
    unfold offA
    by_cases q : i ∈ vs
    · rw [wipeE_in hi q] at h
      cases h
      rw [if_pos q]
      have ht : i < τ.length := by rw [hl, ← r.len]; exact hi
      exact ⟨_, List.getElem?_eq_getElem ht, rfl⟩
    · rw [wipeE_out q] at h
      rw [if_neg q, hτ i q]
      exact r.slot i x h
  out := fun i hi => by
    rw [wipeE_len] at hi
    unfold offA
    by_cases q : i ∈ vs
    · rw [if_pos q]
    · rw [if_neg q]; exact r.out i hi
  dj := fun i j a hij ha hb => by
    unfold offA at ha hb
    by_cases q : i ∈ vs
    · rw [if_pos q] at ha; cases ha
    · by_cases q2 : j ∈ vs
      · rw [if_pos q2] at hb; cases hb
      · rw [if_neg q] at ha
        rw [if_neg q2] at hb
        exact r.dj i j a hij ha hb
  frz := r.frz
theorem Ext.off {vs : List Nat} (x : Ext F H As F1 H1 As1) : Ext F H As F1 H1 (offA As1 vs) := ⟨x.ff, x.fn, x.hh, fun a z => x.oo a (onn_offA z)⟩
/-- all slots but the block's own -/
def others (n : Nat) (vs : List Nat) : List Nat := (List.range n).filter fun i => !(vs.contains i)
theorem keep_others {n : Nat} {vs : List Nat} {σ τ : Sto} (hn : σ.length ≤ n) (hl : τ.length = σ.length) (k : Keep (others n vs) σ τ) {i : Nat} (h : i ∉ vs) : τ[i]? = σ[i]? := by
  by_cases hi : i < n
  · exact k.2 i (List.mem_filter.mpr ⟨List.mem_range.mpr hi, by simpa using h⟩)
  · rw [List.getElem?_eq_none (by omega), List.getElem?_eq_none (by omega)]
theorem wipe_eq {n : Nat} {vs : List Nat} {σ τ : Sto} (hn : σ.length ≤ n) (hl : τ.length = σ.length) (k : Keep (others n vs) (wipe σ vs) τ) : L2.wipe τ vs = L2.wipe σ vs := by
  apply List.ext_getElem?
  intro i
  by_cases q : i ∈ vs
  · by_cases hi : i < σ.length
    · rw [wipe_in (by rw [hl]; exact hi) q, wipe_in hi q]
    · rw [List.getElem?_eq_none (by rw [wipe_length]; omega), List.getElem?_eq_none (by rw [wipe_length]; omega)]
  · rw [wipe_out q, keep_others (by rw [wipe_length]; exact hn) (by rw [wipe_length]; exact hl) k q]
/-- an element as it is laid into a list n levels deep -/
def elt? (n : Nat) (x : Vl) : Option D := match n, x with
  | 0, x => some x.d
  | n + 1, .ow m d => if m = n + 1 then some d else none
  | _ + 1, .fz d => if isMut d then none else some d
def compL (n : Nat) (g : Gv) (t : Tv) (f : Ev) (vs : List Nat) : List D → En → Rs (List D × En)
  | [], e => .ok ([], e)
  | d :: ds, e => match g d (wipeE e vs) with
    | none => .stuck
    | some e1 => (noX (t e1)).bind fun p => match p.1 with
      | true => (noX (f p.2)).bind fun q => (Rs.of (elt? n q.1)).bind fun y => (compL n g t f vs ds q.2).bind fun r => .ok (y :: r.1, r.2)
      | false => compL n g t f vs ds p.2
def tYesD : Tv := fun e => .ok (true, e)
def eComp (n : Nat) (it : Iv) (g : Gv) (t : Tv) (f : Ev) (vs : List Nat) : Ev := fun e => (it e).bind fun p => (compL n g t f vs p.1 p.2).bind fun r => if r.1.length ≤ sizeLine then .ok (.ow (n + 1) (.list r.1), wipeE r.2 vs) else .stuck
/-- an element laid: shared where the list is one level deep, else our own -/
theorem elt_lay {e : En} {n : Nat} {x : Vl} {d : D} {v : V} {A : List Addr} (r : Rel K F e As σ H) (o : VlOk K F H x v A) (off : ∀ a ∈ A, ¬ Onn As a) (h : elt? n x = some d) :
    ∃ F' B, Rel K F' e As σ H ∧ Own K F' H n v d B ∧ Sub F F' ∧ (∀ a, F' a = F a ∨ a ∈ A) ∧ (∀ a ∈ B, a ∈ A) ∧ (∀ a ∈ B, F' a = none) := by
  cases n with
  | zero =>
    cases h
    exact ⟨shr F H A, [], r.share o.tracked off, ⟨rfl, o.share⟩, shr_sub fun a ha => (o.tracked a ha).2, fun a => by
      by_cases ha : a ∈ A
      · exact .inr ha
      · exact .inl (shr_out ha), fun _ z => (nomatch z), fun _ z => (nomatch z)⟩
  | succ n =>
    cases x with
    | fz d' =>
      have h2 : (if isMut d' = true then none else some d') = some d := h
      by_cases q : isMut d' = true
      · rw [if_pos q] at h2; cases h2
      · rw [if_neg q] at h2
        cases h2
        obtain ⟨rfl, o2⟩ := o
        refine ⟨F, [], r, ?_, Sub.refl _, fun _ => .inl rfl, fun _ z => (nomatch z), fun _ z => (nomatch z)⟩
        cases d with
        | list ds => exact absurd rfl q
        | dict _ => exact absurd rfl q
        | _ => exact ⟨rfl, o2⟩
    | ow m d' =>
      have h2 : (if m = n + 1 then some d' else none) = some d := h
      obtain ⟨rfl, rfl⟩ := ite_some h2
      exact ⟨F, A, r, o, Sub.refl _, fun _ => .inl rfl, fun _ z => z, fun a ha => (o.tracked a ha).2⟩
theorem Rel.updOff {e : En} (r : Rel K F e As σ H) {p : Addr} {o o' : HO} (hf : F p = none) (off : ¬ Onn As p) (hp : H p = some o) : Rel K F e As σ (upd H p o') where
  sub := fun a u q => by
    rw [upd_ne (fun z => by rw [z, hf] at q; cases q)]
    exact r.sub a u q
  len := r.len
  slot := fun i x h => by
    obtain ⟨v, h1, h2⟩ := r.slot i x h
    exact ⟨v, h1, h2.keep (Sub.refl _) (fun a ha => (r.tracked ha).2) fun a ha => upd_ne fun z => off ⟨i, z ▸ ha⟩⟩
  out := r.out
  dj := r.dj
  frz := r.frz
theorem Ext.updNew {p : Addr} {o : HO} (x : Ext F H As F1 H1 As1) (n : Onn As p ∨ H p = none) : Ext F H As F1 (upd H1 p o) As1 := ⟨x.ff, x.fn, fun a u q na => by
  rw [upd_ne (fun z => by
    rcases n with n | n
    · exact na (z ▸ n)
    · rw [z, n] at q; cases q)]
  exact x.hh a u q na, x.oo⟩
theorem Rel.unwipe {e : En} {vs : List Nat} (r : Rel K F (wipeE e vs) As (L2.wipe σ vs) H) (av : ∀ j ∈ vs, As j = []) (hl : (L2.wipe σ vs).length = σ.length) : Rel K F (wipeE e vs) As σ H where
  sub := r.sub
  len := r.len.trans hl
  slot := fun i x h => by
    by_cases q : i ∈ vs
    · have hi : i < e.length := by
        have := (List.getElem?_eq_some_iff.mp h).1
        rwa [wipeE_len] at this
      rw [wipeE_in hi q] at h
      cases h
      have ht : i < σ.length := by
        have := r.len
        rw [wipeE_len, hl] at this
        omega
      exact ⟨_, List.getElem?_eq_getElem ht, av i q⟩
    · have h2 := r.slot i x h
      rw [wipe_out q] at h2
      exact h2
  out := r.out
  dj := r.dj
  frz := r.frz
theorem OwL.snoc {P : V → D → List Addr → Prop} {vs : List V} {ds : List D} {A B : List Addr} {v : V} {d : D} (h : OwL P vs ds A) (g : P v d B) (dj : ∀ a ∈ A, a ∉ B) : OwL P (vs ++ [v]) (ds ++ [d]) (A ++ B) := by
  have q : OwL P [v] [d] (B ++ []) := .cons g .nil fun _ _ z => nomatch z
  rw [List.append_nil] at q
  exact h.append q dj
theorem comp_weak {K : KW} {W W0 : WX} {n N : Nat} {it : Iv} {g : Gv} {t : Tv} {f : Ev} {vs : List Nat} : ∀ σ H Q, σ.length ≤ N → tD K W (eComp n it g t f vs) σ H Q →
    tLc (tI K W it) (tG K (others N vs) g) (tDT K W0 t) (tD K W0 f) vs σ H Q := by
  intro σ H Q hN ⟨F, e, As, r0, h⟩
  refine ⟨F, e, As, r0, h.bind fun p ep hq J F1 H1 As1 x1 r1 wk Da nD => ?_⟩
  obtain ⟨ds, e1⟩ := p
  -- the run of the elements
  cases hc : compL n g t f vs ds e1 with
  | stuck => change PR K W F H As σ _ ((compL n g t f vs ds e1).bind _) at hq; rw [hc] at hq; exact hq.elim
  | exc c fs e' =>
    have no : ∀ (ds : List D) (e : En), ∀ c fs e', compL n g t f vs ds e ≠ .exc c fs e' := by
      intro ds
      induction ds with
      | nil => intro e c fs e' z; cases z
      | cons d ds ih =>
        intro e c fs e' z
        unfold compL at z
        cases hg : g d (wipeE e vs) with
        | none => rw [hg] at z; cases z
        | some e1 =>
          rw [hg] at z
          change (noX (t e1)).bind _ = _ at z
          cases ht : t e1 with
          | stuck => rw [ht] at z; cases z
          | exc _ _ _ => rw [ht] at z; cases z
          | ok p =>
            obtain ⟨b, e2⟩ := p
            rw [ht] at z
            cases b with
            | false => exact ih _ _ _ _ z
            | true =>
              change (noX (f e2)).bind _ = _ at z
              cases hf : f e2 with
              | stuck => rw [hf] at z; cases z
              | exc _ _ _ => rw [hf] at z; cases z
              | ok q =>
                rw [hf] at z
                change (Rs.of (elt? n q.1)).bind _ = _ at z
                cases hy : elt? n q.1 with
                | none => rw [hy] at z; cases z
                | some y =>
                  rw [hy] at z
                  change (compL n g t f vs ds q.2).bind _ = _ at z
                  cases hr : compL n g t f vs ds q.2 with
                  | ok r => rw [hr] at z; cases z
                  | stuck => rw [hr] at z; cases z
                  | exc c2 fs2 e3 => exact ih _ _ _ _ hr
    exact absurd hc (no _ _ _ _ _)
  | ok res =>
    change PR K W F H As σ _ ((compL n g t f vs ds e1).bind _) at hq
    rw [hc] at hq
    obtain ⟨tot, eE⟩ := res
    change PR K W F H As σ (PV K F H As σ Q) (if tot.length ≤ sizeLine then .ok (.ow (n + 1) (.list tot), wipeE eE vs) else .stuck) at hq
    by_cases hz : tot.length ≤ sizeLine
    · rw [if_pos hz] at hq
      have FD : F1 Da = none := by
        cases q : F1 Da with
        | none => rfl
        | some o => rw [r1.sub _ _ q] at nD; cases nD
      have x0 : Ext F H As F1 (upd H1 Da (.lst [])) (offA As1 vs) := (x1.trans ⟨Sub.refl _, fun _ _ _ q => q, fun a o q _ => upd_sub nD a o q, fun a q => .inl q⟩).off
      have rw0 : Rel K F1 (wipeE e1 vs) (offA As1 vs) (L2.wipe σ vs) (upd H1 Da (.lst [])) := (r1.new (New.lst (xs := []) r1.sub nD)).wipe vs (wipe_length σ vs) fun i hi => wipe_out hi
      refine ⟨fun i m Hi => m = ds.length - i ∧ i ≤ ds.length ∧ ∃ Fi ei Asi acc da B rest, Rel K Fi (wipeE ei vs) Asi (L2.wipe σ vs) Hi ∧ (∀ j ∈ vs, Asi j = []) ∧ Sub F1 Fi ∧ Ext F H As Fi Hi Asi ∧ Hi Da = some (.lst acc) ∧ Fi Da = none ∧ ¬ Onn Asi Da ∧
          OwL (Own K Fi Hi n) acc da B ∧ (∀ a ∈ B, a ≠ Da ∧ ¬ Onn Asi a ∧ Fi a = none ∧ (Onn As a ∨ H a = none)) ∧ compL n g t f vs (ds.drop i) ei = .ok (rest, eE) ∧ da ++ rest = tot,
        ⟨ds.length, by simp, Nat.zero_le _, F1, e1, offA As1 vs, [], [], [], tot, rw0, fun j hj => if_pos hj, Sub.refl _, x0, upd_same, FD, fun z => ?_, .nil, fun _ z => (nomatch z), by rw [List.drop_zero]; exact hc, rfl⟩, ?_⟩
      · obtain ⟨⟨o', q, _⟩, _⟩ := r1.onn (onn_offA z)
        rw [nD] at q; cases q
      · rintro i m Hi ⟨rfl, hi, Fi, ei, Asi, acc, da, B, rest, ri, av, si, xi, hD, fD, oD, ow, hB, hr, ht⟩
        obtain ⟨w1, w2, w3⟩ := wk Fi Hi si ri.sub
        by_cases hlt : i < ds.length
        · refine .inr ⟨w1 i hlt, fun H' => ∃ F' e' As' acc da B rest, Rel K F' (wipeE e' vs) As' (L2.wipe σ vs) H' ∧ (∀ j ∈ vs, As' j = []) ∧ Sub F1 F' ∧ Ext F H As F' H' As' ∧ H' Da = some (.lst acc) ∧ F' Da = none ∧ ¬ Onn As' Da ∧
            OwL (Own K F' H' n) acc da B ∧ (∀ a ∈ B, a ≠ Da ∧ ¬ Onn As' a ∧ F' a = none ∧ (Onn As a ∨ H a = none)) ∧ compL n g t f vs (ds.drop (i + 1)) e' = .ok (rest, eE) ∧ da ++ rest = tot, fun H' hN => ⟨ds.length - (i + 1), by omega, rfl, hlt, hN⟩, fun x H' y => ?_⟩
          obtain ⟨F2, n2, d, hd, dn⟩ := w3 i x H' hlt y
          rw [List.drop_eq_getElem_cons hlt] at hr
          have ed : ds[i] = d := by
            rw [List.getElem?_eq_getElem hlt] at hd
            exact Option.some.inj hd
          rw [ed] at hr
          unfold compL at hr
          cases hg : g d (wipeE ei vs) with
          | none => rw [hg] at hr; cases hr
          | some e2 =>
            rw [hg] at hr
            have r2 := ri.new n2
            have x2 : Ext F H As F2 H' Asi := xi.trans n2.ext
            have trk : ∀ {Fx Hx : Hp} {Asx : Nat → List Addr}, Ext F2 H' Asi Fx Hx Asx → Hx Da = some (.lst acc) ∧ Fx Da = none ∧ ¬ Onn Asx Da ∧ OwL (Own K Fx Hx n) acc da B ∧ (∀ a ∈ B, a ≠ Da ∧ ¬ Onn Asx a ∧ Fx a = none ∧ (Onn As a ∨ H a = none)) := by
              intro Fx Hx Asx xx
              have hD2 := n2.hh _ _ hD
              have fD2 := n2.fn Da ⟨_, hD⟩ fD
              have off : ∀ {a : Addr}, (∃ o, H' a = some o) → ¬ Onn Asi a → ¬ Onn Asx a := fun {a} ⟨o, ho⟩ na z => by
                rcases xx.oo a z with q | q
                · exact na q
                · rw [ho] at q; cases q
              have keepB : ∀ a ∈ B, (∃ o, Hi a = some o) := fun a ha => by
                have key : ∀ {vs : List V} {ds : List D} {B : List Addr}, OwL (Own K Fi Hi n) vs ds B → ∀ a ∈ B, ∃ o, Hi a = some o := by
                  intro vs ds B t
                  induction t with
                  | nil => intro a ha; cases ha
                  | cons h t nd ih =>
                    intro a ha
                    rcases List.mem_append.mp ha with ha | ha
                    · obtain ⟨⟨o, q, _⟩, _⟩ := own_tracked n h a ha
                      exact ⟨o, q⟩
                    · exact ih a ha
                exact key ow a ha
              refine ⟨xx.hh _ _ hD2 oD, xx.fn Da ⟨_, hD2⟩ oD fD2, off ⟨_, hD2⟩ oD, ow.imp fun v d C hC q => own_keep (n2.ff.trans xx.ff) n q (fun a ha => ?_) fun a ha => ?_, fun a ha => ?_⟩
              · obtain ⟨o, ho⟩ := keepB a (hC a ha)
                obtain ⟨_, q2, q3, _⟩ := hB a (hC a ha)
                exact xx.fn a ⟨o, n2.hh _ _ ho⟩ q2 (n2.fn a ⟨o, ho⟩ q3)
              · obtain ⟨o, ho⟩ := keepB a (hC a ha)
                obtain ⟨_, q2, q3, _⟩ := hB a (hC a ha)
                rw [ho]
                exact xx.hh _ _ (n2.hh _ _ ho) q2
              · obtain ⟨o, ho⟩ := keepB a ha
                obtain ⟨q1, q2, q3, q4⟩ := hB a ha
                exact ⟨q1, off ⟨o, n2.hh _ _ ho⟩ q2, xx.fn a ⟨o, n2.hh _ _ ho⟩ q2 (n2.fn a ⟨o, ho⟩ q3), q4⟩
            refine ⟨F2, wipeE ei vs, Asi, d, e2, r2, dn, hg, fun As3 σ3 x3 r3 k3 => ?_⟩
            have l3 : σ3.length = σ.length := k3.1.trans (wipe_length σ vs)
            refine ⟨wipe_eq hN l3 k3, ?_⟩
            have back : ∀ i, i ∉ vs → (L2.wipe σ vs)[i]? = σ3[i]? := fun i hi => (keep_others (by rw [wipe_length]; exact hN) k3.1 k3 hi).symm
            have lb : (L2.wipe σ vs).length = σ3.length := k3.1.symm
            have nwD : Onn As Da ∨ H Da = none := x1.back (.inr nD)
            change (noX (t e2)).bind _ = _ at hr
            cases ht2 : t e2 with
            | stuck => rw [ht2] at hr; cases hr
            | exc _ _ _ => rw [ht2] at hr; cases hr
            | ok p2 =>
              obtain ⟨b, e3⟩ := p2
              rw [ht2] at hr
              refine ⟨F2, e2, As3, r3, ?_⟩
              rw [ht2]
              intro F' H3 As' xx rr
              have xa := x3.trans xx
              obtain ⟨t1, t2, t3, t4, t5⟩ := trk xa
              cases b with
              | false =>
                refine iteF ⟨F', e3, offA As' vs, acc, da, B, rest, rr.wipe vs lb back, fun j hj => if_pos hj, (si.trans n2.ff).trans xa.ff, (x2.trans xa).off, t1, t2, fun z => t3 (onn_offA z), t4, fun a ha => ?_, hr, ht⟩
                obtain ⟨q1, q2, q3, q4⟩ := t5 a ha
                exact ⟨q1, fun z => q2 (onn_offA z), q3, q4⟩
              | true =>
                refine iteT ⟨F', e3, As', rr, ?_⟩
                change (noX (f e3)).bind _ = _ at hr
                cases hf : f e3 with
                | stuck => rw [hf] at hr; cases hr
                | exc _ _ _ => rw [hf] at hr; cases hr
                | ok q =>
                  obtain ⟨qx, e4⟩ := q
                  rw [hf] at hr
                  change (Rs.of (elt? n qx)).bind _ = _ at hr
                  cases hy : elt? n qx with
                  | none => rw [hy] at hr; cases hr
                  | some y =>
                    rw [hy] at hr
                    change (compL n g t f vs (ds.drop (i + 1)) e4).bind _ = _ at hr
                    cases hc2 : compL n g t f vs (ds.drop (i + 1)) e4 with
                    | stuck => rw [hc2] at hr; cases hr
                    | exc _ _ _ => rw [hc2] at hr; cases hr
                    | ok res2 =>
                      obtain ⟨rest2, eE2⟩ := res2
                      rw [hc2] at hr
                      have hr2 : (Rs.ok (y :: rest2, eE2) : Rs (List D × En)) = .ok (rest, eE) := hr
                      cases hr2
                      intro v F4 H4 As4 A xv rv o fr
                      obtain ⟨F5, B', r5, ow5, s5, f5, b5, z5⟩ := elt_lay rv o fr.off hy
                      have xb := xa.trans xv
                      obtain ⟨u1, u2, u3, u4, u5⟩ := trk xb
                      have nA : ∀ a, (∃ o, H3 a = some o) → ¬ Onn As' a → a ∉ A := fun a ⟨o, ho⟩ na z => by
                        rcases fr.new a z with q | q
                        · exact na q
                        · rw [ho] at q; cases q
                      have frH : ∀ a ∈ A, Onn As a ∨ H a = none := fun a ha => (x2.trans xa).back (fr.new a ha)
                      have DA : Da ∉ A := nA Da ⟨_, t1⟩ t3
                      have F5D : F5 Da = none := by
                        rcases f5 Da with q | q
                        · rw [q]; exact u2
                        · exact absurd q DA
                      have F5of : ∀ a, a ∉ A → F5 a = F4 a := fun a ha => (f5 a).resolve_right ha
                      have BA : ∀ a ∈ B, a ∉ A := fun a ha => by
                        have hB3 : ∃ o, H3 a = some o := by
                          have key : ∀ {vs : List V} {ds : List D} {B : List Addr}, OwL (Own K F' H3 n) vs ds B → ∀ a ∈ B, ∃ o, H3 a = some o := by
                            intro vs ds B t
                            induction t with
                            | nil => intro a ha; cases ha
                            | cons h t nd ih =>
                              intro a ha
                              rcases List.mem_append.mp ha with ha | ha
                              · obtain ⟨⟨o, q, _⟩, _⟩ := own_tracked n h a ha
                                exact ⟨o, q⟩
                              · exact ih a ha
                          exact key t4 a ha
                        exact nA a hB3 (t5 a ha).2.1
                      have xF : Ext F H As F5 H4 As4 := by
                        have y1 := (x2.trans xb)
                        refine ⟨y1.ff.trans s5, fun a ho na e => ?_, y1.hh, y1.oo⟩
                        have aA : a ∉ A := fun z => by
                          rcases frH a z with q | q
                          · exact na q
                          · obtain ⟨o, ho⟩ := ho
                            rw [ho] at q; cases q
                        rw [F5of a aA]
                        exact y1.fn a ho na e
                      have hlen : acc.length = da.length := u4.length
                      have htl : da.length + (rest2.length + 1) ≤ sizeLine := by
                        have := congrArg List.length ht
                        rw [List.length_append, List.length_cons] at this
                        omega
                      refine ⟨acc, u1, by omega, F5, e4, offA As4 vs, acc ++ [v], da ++ [y], B ++ B', rest2, (Rel.updOff r5 F5D u3 u1).wipe vs lb back, fun j hj => if_pos hj, ((si.trans n2.ff).trans xb.ff).trans s5, (xF.updNew nwD).off, upd_same, F5D, fun z => u3 (onn_offA z), ?_, fun a ha => ?_, hc2, by rw [List.append_assoc]; exact ht⟩
                      · refine OwL.snoc (u4.imp fun w d' C hC q => own_keep s5 n q (fun a ha => by rw [F5of a (BA a (hC a ha))]; exact (u5 a (hC a ha)).2.2.1) fun a ha => upd_ne (u5 a (hC a ha)).1) (own_keep (Sub.refl _) n ow5 z5 fun a ha => upd_ne fun z => DA (z ▸ b5 a ha)) fun a ha hb => BA a ha (b5 a hb)
                      · rcases List.mem_append.mp ha with ha | ha
                        · obtain ⟨q1, q2, q3, q4⟩ := u5 a ha
                          exact ⟨q1, fun z => q2 (onn_offA z), by rw [F5of a (BA a ha)]; exact q3, q4⟩
                        · exact ⟨fun z => DA (z ▸ b5 a ha), fun z => fr.off a (b5 a ha) (onn_offA z), z5 a ha, frH a (b5 a ha)⟩
        · have e0 : i = ds.length := by omega
          subst e0
          rw [List.drop_length] at hr
          have hr2 : (Rs.ok ([], ei) : Rs (List D × En)) = .ok (rest, eE) := hr
          cases hr2
          rw [List.append_nil] at ht
          subst ht
          refine .inl ⟨w2, hq (.ref Da) Fi Hi Asi (Da :: B) xi ?_ ?_ ?_⟩
          · exact ri.unwipe av (wipe_length σ vs)
          · exact ⟨Da, acc, B, rfl, hD, fD, rfl, fun z => (hB Da z).1 rfl, ow⟩
          · exact ⟨fun a ha => by
              rcases List.mem_cons.mp ha with rfl | ha
              · exact x1.back (.inr nD)
              · exact (hB a ha).2.2.2, fun a ha => by
              rcases List.mem_cons.mp ha with rfl | ha
              · exact oD
              · exact (hB a ha).2.1⟩
    · rw [if_neg hz] at hq; exact hq.elim
end
end VS


set_option Elab.async false
set_option linter.all false
set_option maxRecDepth 100000
/-! VS6: comprehensions joined; methods of lists on a slot; places stored. -/
namespace VS
open PySem PySem.Spec PyProof.Rows L2
section
variable {X : Cx} {K : KW} {W : WX} {F H F1 H1 : Hp} {As As1 : Nat → List Addr} {σ : Sto} {io : List Nat}
theorem pe_weakI {e : Expr} {t t' : TE} (h : PE X e t) (w : ∀ σ H Q, σ.length = X.N.length → t' σ H Q → t σ H Q) : PE X e t' := ⟨fun pins s σ H Q I q => h.run pins s σ H Q I (w _ _ _ I.len q)⟩
theorem ps_weakI {e : Stmt} {t t' : TS} (h : PS X e t) (w : ∀ D σ H, σ.length = X.N.length → t' D σ H → t D σ H) : PS X e t' := ⟨fun pins s σ H D I q => h.run pins s σ H D I (w _ _ _ I.len q)⟩
/-- no exception may come -/
def W0 : WX := fun _ _ _ _ => False
abbrev DTs (X : Cx) (W : WX) (x : List Expr) (f : Tv) : Prop := PTs X x (tDT X.KW W f)
theorem dts_one {c : Expr} {f : Tv} (h : DT X W c f) : DTs X W [c] f := pts_one h
theorem pts_weak {e : List Expr} {t t' : TT} (h : PTs X e t) (w : ∀ σ H Q, t' σ H Q → t σ H Q) : PTs X e t' := ⟨fun pins s σ H Q I q => h.run pins s σ H Q I (w _ _ _ q)⟩
theorem dts_nil : DTs X W [] tYesD := pts_weak pts_nil fun σ H Q ⟨F, e, As, r0, h⟩ => h F H As Ext.refl r0
abbrev Blk (X : Cx) (scope : Scope) (P : Cx → Prop) : Prop := ∀ (s : Shared) (H : Hp) (C : Addr) (cl : List (Str × Addr)) (fp : List Addr), P (X.blk s H scope (compEnvC scope cl C X.env) fp)
theorem de_comp {elt tg iter : Expr} {ifs : List Expr} {scope : Scope} {own : List (Str × Nat)} {pos : Pos} {n : Nat} {it : Iv} {g : Gv} {t : Tv} {f : Ev} (hc : X.calm = true) (hN : X.N.Nodup) (hi : DI X W tg iter it) (ok : BlkOk X.N X.env.scope scope own)
    (hg : Blk X scope fun Y => DG Y (others X.N.length (own.map (·.2))) tg g) (ht : Blk X scope fun Y => DTs Y W0 ifs t) (he : Blk X scope fun Y => DE Y W0 elt f) (hs : ∀ x, foldedSetIterable iter X.env x = pure x := by intro _; rfl) :
    DE X W (.ListComp elt [⟨tg, iter, ifs, 0⟩] scope pos) (eComp n it g t f (own.map (·.2))) :=
  pe_weakI (pe_lc hc hN hi ok hg ht he hs) fun σ H Q hl q => comp_weak σ H Q (Nat.le_of_eq hl) q
theorem ds_setComp {i : Nat} {y : Str} {py : Pos} {elt tg iter : Expr} {ifs : List Expr} {scope : Scope} {own : List (Str × Nat)} {pos spos : Pos} {n : Nat} {it : Iv} {g : Gv} {t : Tv} {f : Ev} (hc : X.calm = true) (hN : X.N.Nodup) (hy : X.N[i]? = some y) (hyl : X.env.scope.names.lookup y = some .local) (hio : i ∉ io)
    (hsw : swapsWith (.ListComp elt [⟨tg, iter, ifs, 0⟩] scope pos) (some (.Name y py)) spos.line X.env = pure true) (hi : DI X W tg iter it) (ok : BlkOk X.N X.env.scope scope own)
    (hg : Blk X scope fun Y => DG Y (others X.N.length (own.map (·.2))) tg g) (ht : Blk X scope fun Y => DTs Y W0 ifs t) (he : Blk X scope fun Y => DE Y W0 elt f) (hs : ∀ x, foldedSetIterable iter X.env x = pure x := by intro _; rfl) :
    DS X W io (.Assign [.Name y py] (.ListComp elt [⟨tg, iter, ifs, 0⟩] scope pos) spos) (sSet i (eComp n it g t f (own.map (·.2)))) :=
  ps_weakI (t := tAsg (tLc (tI X.KW W it) (tG X.KW (others X.N.length (own.map (·.2))) g) (tDT X.KW W0 t) (tD X.KW W0 f) (own.map (·.2))) (gName i)) (ps_setLc hc hN hy hyl hsw hi ok hg ht he hs) fun D σ H hl q => by
    have h2 := set_weak hio D σ H q
    have h3 : tD X.KW W (eComp n it g t f (own.map (·.2))) σ H (fun v H1 => gName i v σ H1 D.nx) := h2
    exact comp_weak (W0 := W0) σ H _ (Nat.le_of_eq hl) h3

/-! ### peeks: read where it stands, nothing changed -/
abbrev Pk := En → Option D
def tP (K : KW) (f : Pk) : TE := fun σ H Q => ∃ F e As d, Rel K F e As σ H ∧ f e = some d ∧ ∀ v H', Sub H H' → Den K H' v d → Q v H'
abbrev DP (X : Cx) (x : Expr) (f : Pk) : Prop := PE X x (tP X.KW f)
theorem New.grow (s : Sub F H) {H' : Hp} (g : Sub H H') : New F H F H' [] := ⟨Sub.refl _, fun _ _ q => q, g, fun _ z => (nomatch z), s.trans g, fun _ _ q => .inl q⟩
def Sl.d? : Sl → Option D
  | .un => none
  | .fz d => some d
  | .ow _ d => some d
def pkVar (i : Nat) : Pk := fun e => (e[i]?).bind Sl.d?
def pkC (d : D) : Pk := fun _ => some d
def pkBin (g : D → D → Option Vl) (fa fb : Pk) : Pk := fun e => (fa e).bind fun d => (fb e).bind fun d' => (g d d').map Vl.d
def pkUn (g : D → Option Vl) (fa : Pk) : Pk := fun e => (fa e).bind fun d => (g d).map Vl.d
def pkCall1 (g : List D → Option Vl) (fa : Pk) : Pk := fun e => (fa e).bind fun d => (g [d]).map Vl.d
def pkCall2 (g : List D → Option Vl) (fa fb : Pk) : Pk := fun e => (fa e).bind fun d => (fb e).bind fun d' => (g [d, d']).map Vl.d
theorem dp_var (i : Nat) {x : Str} {pos : Pos} (hN : X.N[i]? = some x := by rfl) (hv : Vis X.env.scope x := by first | exact Or.inl rfl | exact Or.inr (Or.inl rfl) | exact Or.inr (Or.inr rfl)) (hd : (x == ("__debug__" : Str)) = false := by decide)
    (hcd : (x == ("__classdict__" : Str)) = false := by decide) : DP X (.Name x pos) (pkVar i) := by
  refine pe_weak (pv i hN hv hd hcd) fun σ H Q ⟨F, e, As, d, r0, h, k⟩ => ?_
  obtain ⟨s, q1, q2⟩ := Option.bind_eq_some_iff.mp h
  cases s with
  | un => cases q2
  | fz d' =>
    cases q2
    obtain ⟨v, h1, h2⟩ := r0.fzAt q1
    exact ⟨v, h1, k v H (Sub.refl _) (Den.sub r0.sub _ _ h2)⟩
  | ow n d' =>
    cases q2
    obtain ⟨v, h1, h2⟩ := r0.owAt q1
    exact ⟨v, h1, k v H (Sub.refl _) (own_reads r0.sub n h2)⟩
theorem pc_weak {v : V} {d : D} (h : ∀ F, Den K F v d) : ∀ σ H Q, tP K (pkC d) σ H Q → tC v σ H Q := fun σ H Q ⟨F, e, As, d', r0, q, k⟩ => by
  cases q
  exact k v H (Sub.refl _) (h H)
theorem dp_int {i j pos} : DP X (.Constant (.int i) j pos) (pkC (.int i)) := pe_weak pe_int (pc_weak fun _ => .int i)
theorem dp_str {x j pos} : DP X (.Constant (.str x) j pos) (pkC (.str x)) := pe_weak pe_str (pc_weak fun _ => .str x)
theorem dp_bl {b j pos} : DP X (.Constant (.bool b) j pos) (pkC (.bool b)) := pe_weak pe_bl (pc_weak fun _ => .bl b)
theorem dp_non {j pos} : DP X (.Constant .none j pos) (pkC .none) := pe_weak pe_non (pc_weak fun _ => .non)
theorem VlOk.denH {x : Vl} {v : V} {A : List Addr} (s : Sub F H) (o : VlOk K F H x v A) : Den K H v x.d := o.reads s
theorem pbin_weak {r : R2} {g : D → D → Option Vl} {fa fb : Pk} (p : Prim2 K r g) : ∀ σ H Q, tP K (pkBin g fa fb) σ H Q → tOp r (tP K fa) (tP K fb) σ H Q := by
  intro σ H Q ⟨F, e, As, d, r0, h, k⟩
  obtain ⟨d1, q1, h⟩ := Option.bind_eq_some_iff.mp h
  obtain ⟨d2, q2, h⟩ := Option.bind_eq_some_iff.mp h
  obtain ⟨x, q3, rfl⟩ := Option.map_eq_some_iff.mp h
  refine ⟨F, e, As, d1, r0, q1, fun v H1 s1 n1 => ⟨F, e, As, d2, r0.new (New.grow r0.sub s1), q2, fun w H2 s2 n2 => ?_⟩⟩
  exact p H2 H2 v w d1 d2 x Q (Sub.refl _) (Den.sub s2 _ _ n1) n2 q3 fun u F' H' A n o => k u H' (s1.trans (s2.trans n.hh)) (o.denH n.sub)
theorem pun_weak {r : V → Hp → VK → Prop} {g : D → Option Vl} {fa : Pk} (p : Prim1 K r g) : ∀ σ H Q, tP K (pkUn g fa) σ H Q → tUn r (tP K fa) σ H Q := by
  intro σ H Q ⟨F, e, As, d, r0, h, k⟩
  obtain ⟨d1, q1, h⟩ := Option.bind_eq_some_iff.mp h
  obtain ⟨x, q3, rfl⟩ := Option.map_eq_some_iff.mp h
  exact ⟨F, e, As, d1, r0, q1, fun v H1 s1 n1 => p H1 H1 v d1 x Q (Sub.refl _) n1 q3 fun u F' H' A n o => k u H' (s1.trans n.hh) (o.denH n.sub)⟩
theorem dp_op {op : Operator} {a b : Expr} {pos : Pos} {r : R2} {g : D → D → Option Vl} {fa fb : Pk} (ho : OpR X (binaryOp op) r) (pr : Prim2 X.KW r g) (ha : DP X a fa) (hb : DP X b fb) : DP X (.BinOp a op b pos) (pkBin g fa fb) := pe_weak (pe_op ho ha hb) (pbin_weak pr)
theorem dp_un {op : UnaryOp} {a : Expr} {pos : Pos} {r : V → Hp → VK → Prop} {g : D → Option Vl} {fa : Pk} (ho : UnR X (unaryOp op) r) (pr : Prim1 X.KW r g) (ha : DP X a fa) : DP X (.UnaryOp op a pos) (pkUn g fa) := pe_weak (pe_un ho ha) (pun_weak pr)
theorem dp_cmp {op : CmpOp} {a b : Expr} {pos : Pos} {r : R2} {g : D → D → Option Vl} {fa fb : Pk} (ho : OpR X (compareOp op) r) (pr : Prim2 X.KW r g) (ha : DP X a fa) (hb : DP X b fb) (hm : behindInMarks op b = false) : DP X (.Compare a [op] [b] pos) (pkBin g fa fb) := pe_weak (pe_cmpR ho ha hb hm) (pbin_weak pr)
theorem dp_ix {a b : Expr} {pos : Pos} {fa fb : Pk} (ha : DP X a fa) (hb : DP X b fb) (hs : PlainIx b := by exact fun _ _ => rfl) : DP X (.Subscript a b pos) (pkBin gIdx fa fb) := pe_weak (pe_ix ix_seq ha hb hs) (pbin_weak prim_idx)
theorem pcall1_weak {r : List V → Hp → VK → Prop} {g : List D → Option Vl} {fa : Pk} (p : Prim K r g) : ∀ σ H Q, tP K (pkCall1 g fa) σ H Q → tCB r (tCons (tP K fa) tNil) σ H Q := by
  intro σ H Q ⟨F, e, As, d, r0, h, k⟩
  obtain ⟨d1, q1, h⟩ := Option.bind_eq_some_iff.mp h
  obtain ⟨x, q3, rfl⟩ := Option.map_eq_some_iff.mp h
  exact ⟨F, e, As, d1, r0, q1, fun v H1 s1 n1 => p H1 H1 [v] [d1] x Q (Sub.refl _) (.cons n1 .nil) q3 fun u F' H' A n o => k u H' (s1.trans n.hh) (o.denH n.sub)⟩
theorem pcall2_weak {r : List V → Hp → VK → Prop} {g : List D → Option Vl} {fa fb : Pk} (p : Prim K r g) : ∀ σ H Q, tP K (pkCall2 g fa fb) σ H Q → tCB r (tCons (tP K fa) (tCons (tP K fb) tNil)) σ H Q := by
  intro σ H Q ⟨F, e, As, d, r0, h, k⟩
  obtain ⟨d1, q1, h⟩ := Option.bind_eq_some_iff.mp h
  obtain ⟨d2, q2, h⟩ := Option.bind_eq_some_iff.mp h
  obtain ⟨x, q3, rfl⟩ := Option.map_eq_some_iff.mp h
  refine ⟨F, e, As, d1, r0, q1, fun v H1 s1 n1 => ⟨F, e, As, d2, r0.new (New.grow r0.sub s1), q2, fun w H2 s2 n2 => ?_⟩⟩
  exact p H2 H2 [v, w] [d1, d2] x Q (Sub.refl _) (.cons (Den.sub s2 _ _ n1) (.cons n2 .nil)) q3 fun u F' H' A n o => k u H' (s1.trans (s2.trans n.hh)) (o.denH n.sub)
theorem dp_callB1 {x : Str} {p pos : Pos} {a : Expr} {id : String} {r : List V → Hp → VK → Prop} {g : List D → Option Vl} {fa : Pk} (hc : CallR X (.builtin id) r) (pr : Prim X.KW r g) (hg : Gl X x) (hm : X.mg x = none) (hv : bootBuiltins x = some (.builtin id)) (ha : DP X a fa)
    (hn : x ≠ "__name__" := by decide) (hdb : (x == ("__debug__" : Str)) = false := by decide)
    (he : starEach [a] X.env = (false, eval a X.env) :: starEach [] X.env := by rfl) (hpl : (backTo pos (starEach [] X.env)).any (·.1) = false := by rfl) : DP X (.Call (.Name x p) [a] [] pos) (pkCall1 g fa) :=
  pe_weak (pe_callB hc hg hm hv (pa_cons ha pa_nil he) hn hdb he hpl) (pcall1_weak pr)
theorem dp_callTy1 {x : Str} {p pos : Pos} {a : Expr} {T : String} {r : List V → Hp → VK → Prop} {g : List D → Option Vl} {fa : Pk} (hc : CallR X (.type T) r) (pr : Prim X.KW r g) (hg : Gl X x) (hm : X.mg x = none) (hv : bootBuiltins x = some (.type T)) (ha : DP X a fa)
    (hn : x ≠ "__name__" := by decide) (hdb : (x == ("__debug__" : Str)) = false := by decide)
    (he : starEach [a] X.env = (false, eval a X.env) :: starEach [] X.env := by rfl) (hpl : (backTo pos (starEach [] X.env)).any (·.1) = false := by rfl) : DP X (.Call (.Name x p) [a] [] pos) (pkCall1 g fa) :=
  pe_weak (pe_callTy hc hg hm hv (pa_cons ha pa_nil he) hn hdb he hpl) (pcall1_weak pr)
theorem dp_callB2 {x : Str} {p pos : Pos} {a b : Expr} {id : String} {r : List V → Hp → VK → Prop} {g : List D → Option Vl} {fa fb : Pk} (hc : CallR X (.builtin id) r) (pr : Prim X.KW r g) (hg : Gl X x) (hm : X.mg x = none) (hv : bootBuiltins x = some (.builtin id)) (ha : DP X a fa) (hb : DP X b fb)
    (hn : x ≠ "__name__" := by decide) (hdb : (x == ("__debug__" : Str)) = false := by decide)
    (he : starEach [a, b] X.env = (false, eval a X.env) :: starEach [b] X.env := by rfl) (he2 : starEach [b] X.env = (false, eval b X.env) :: starEach [] X.env := by rfl) (hpl : (backTo pos (starEach [b] X.env)).any (·.1) = false := by rfl) : DP X (.Call (.Name x p) [a, b] [] pos) (pkCall2 g fa fb) :=
  pe_weak (pe_callB hc hg hm hv (pa_cons ha (pa_cons hb pa_nil he2) he) hn hdb he hpl) (pcall2_weak pr)
/-! out of the peeks -/
def flatD : D → Bool
  | .none => true
  | .bool _ => true
  | .int _ => true
  | .str _ => true
  | _ => false
theorem den_flat {v : V} {d : D} (h : Den K H v d) (f : flatD d = true) : Den K F v d := by
  cases d with
  | none => cases h; exact .non
  | bool b => cases h; exact .bl b
  | int i => cases h; exact .int i
  | str x => cases h; exact .str x
  | _ => cases f
def ePk (f : Pk) : Ev := fun e => match f e with
  | some d => if flatD d = true then .ok (.fz d, e) else .stuck
  | none => .stuck
def tPk (f : Pk) : Tv := fun e => match f e with
  | some d => (Rs.of (truthD d)).bind fun b => .ok (b, e)
  | none => .stuck
theorem pk_weak {f : Pk} : ∀ σ H Q, tD K W (ePk f) σ H Q → tP K f σ H Q := by
  intro σ H Q ⟨F, e, As, r0, h⟩
  unfold ePk at h
  cases q : f e with
  | none => rw [q] at h; exact h.elim
  | some d =>
    rw [q] at h
    by_cases hf : flatD d = true
    · have h : PR K W F H As σ (PV K F H As σ Q) (if flatD d = true then .ok (.fz d, e) else .stuck) := h
      rw [if_pos hf] at h
      refine ⟨F, e, As, d, r0, q, fun v H' s n => ?_⟩
      have g := New.grow r0.sub s
      exact h v F H' As [] g.ext (r0.new g) ⟨rfl, den_flat n hf⟩ Fresh.nil
    · have h : PR K W F H As σ (PV K F H As σ Q) (if flatD d = true then .ok (.fz d, e) else .stuck) := h
      rw [if_neg hf] at h
      exact h.elim
theorem de_pk {x : Expr} {f : Pk} (h : DP X x f) : DE X W x (ePk f) := pe_weak h pk_weak
theorem dt_pk {x : Expr} {f : Pk} (h : DP X x f) (he : ∀ whole, isTrue x X.env whole = (do let v ← whole; standAt x.pos; holding [v] (truthy v)) := by exact fun _ => rfl) : DT X W x (tPk f) :=
  pt_weak (pt_truth h he) fun σ H Q ⟨F, e, As, r0, q⟩ => by
    unfold tPk at q
    cases z : f e with
    | none => rw [z] at q; exact q.elim
    | some d =>
      rw [z] at q
      obtain ⟨b, hb, h2⟩ := PR.of q
      refine ⟨F, e, As, d, r0, z, fun v H' s n => ⟨b, den_truth (Sub.refl _) n hb, ?_⟩⟩
      have g := New.grow r0.sub s
      exact h2 F H' As g.ext (r0.new g)
/-- a comparison's test -/
theorem dt_pkcmp {op : CmpOp} {a b : Expr} {pos : Pos} {r : R2} {g : D → D → Option Vl} {fa fb : Pk} (ho : OpR X (compareOp op) r) (pr : Prim2 X.KW r g) (ib : IsB g) (ha : DP X a fa) (hb : DP X b fb) (hm : behindInMarks op b = false) : DT X W (.Compare a [op] [b] pos) (tPk (pkBin g fa fb)) :=
  pt_weak (pt_cmpR ho ha hb hm) fun σ H Q ⟨F, e, As, r0, q⟩ => by
    refine pbin_weak pr σ H _ ?_
    unfold tPk at q
    cases z : pkBin g fa fb e with
    | none => rw [z] at q; exact q.elim
    | some d =>
      rw [z] at q
      obtain ⟨b, hb, h2⟩ := PR.of q
      refine ⟨F, e, As, d, r0, z, fun v H' s n => ?_⟩
      have gr := New.grow r0.sub s
      obtain ⟨d1, q1, h⟩ := Option.bind_eq_some_iff.mp z
      obtain ⟨d2, q2, h⟩ := Option.bind_eq_some_iff.mp h
      obtain ⟨x, q3, rfl⟩ := Option.map_eq_some_iff.mp h
      obtain ⟨k, rfl⟩ := ib _ _ _ q3
      cases hb
      exact ⟨_, den_bl n, h2 F H' As gr.ext (r0.new gr)⟩

/-! ### a list of our own is changed -/
theorem OwL.keepU {n : Nat} {a : Addr} {o : HO} {vs : List V} {ds : List D} {B : List Addr} (h : OwL (Own K F H n) vs ds B) (na : a ∉ B) (fb : ∀ b ∈ B, F b = none) : OwL (Own K F (upd H a o) n) vs ds B :=
  h.imp fun v d C hC q => own_keep (Sub.refl _) n q (fun b hb => fb b (hC b hb)) fun b hb => upd_ne fun z => na (z ▸ hC b hb)
theorem OwL.fn {n : Nat} : ∀ {vs : List V} {ds : List D} {B : List Addr}, OwL (Own K F H n) vs ds B → ∀ a ∈ B, (∃ o, H a = some o ∧ Kd o) ∧ F a = none := by
  intro vs ds B t
  induction t with
  | nil => intro a ha; cases ha
  | cons h t nd ih =>
    intro a ha
    rcases List.mem_append.mp ha with ha | ha
    · exact own_tracked n h a ha
    · exact ih a ha
theorem Rel.mutL {e : En} (r : Rel K F e As σ H) {i n : Nat} {ds : List D} (h : e[i]? = some (.ow (n + 1) (.list ds))) :
    ∃ a xs B, σ[i]? = some (some (.ref a)) ∧ H a = some (.lst xs) ∧ F a = none ∧ As i = a :: B ∧ a ∉ B ∧ OwL (Own K F H n) xs ds B ∧
      ∀ ys es B', OwL (Own K F H n) ys es B' → a ∉ B' → (∀ b ∈ B', b ∈ B ∨ ¬ Onn As b) →
        Rel K F (e.set i (.ow (n + 1) (.list es))) (putA As i (a :: B')) σ (upd H a (.lst ys)) := by
  obtain ⟨v, hv, a, xs, B, rfl, ha, fa, eA, nB, ow⟩ := r.owAt h
  have hi : i < e.length := (List.getElem?_eq_some_iff.mp h).1
  have aO : a ∈ As i := by rw [eA]; exact List.mem_cons_self
  refine ⟨a, xs, B, hv, ha, fa, eA, nB, ow, fun ys es B' o nb hB => ⟨fun b u q => ?_, by simpa using r.len, fun j x hj => ?_, fun j hj => ?_, fun j k b hjk hb => ?_, r.frz⟩⟩
  · rw [upd_ne (fun z => by rw [z, fa] at q; cases q)]
    exact r.sub b u q
  · by_cases e1 : j = i
    · subst e1
      rw [List.getElem?_set_self hi] at hj
      cases hj
      rw [putA_same]
      exact ⟨_, hv, _, rfl, a, ys, B', rfl, upd_same, fa, rfl, nb, o.keepU nb fun b hb => (o.fn b hb).2⟩
    · rw [List.getElem?_set_ne (Ne.symm e1)] at hj
      obtain ⟨w, h1, h2⟩ := r.slot j x hj
      rw [putA_ne e1]
      exact ⟨w, h1, h2.keep (Sub.refl _) (fun b hb => (r.tracked hb).2) fun b hb => upd_ne fun z => r.dj j i b e1 hb (z ▸ aO)⟩
  · rw [List.length_set] at hj
    rw [putA_ne (by omega)]
    exact r.out j hj
  · have key : ∀ {b : Addr}, b ∈ a :: B' → ∀ m, m ≠ i → b ∉ As m := fun {b} hb m hm z => by
      rcases List.mem_cons.mp hb with rfl | hb
      · exact r.dj m i b hm z aO
      · rcases hB b hb with q | q
        · exact r.dj m i b hm z (by rw [eA]; exact List.mem_cons_of_mem _ q)
        · exact q ⟨m, z⟩
    by_cases e1 : j = i
    · subst e1
      rw [putA_same] at hb
      rw [putA_ne (Ne.symm hjk)]
      exact key hb k (Ne.symm hjk)
    · rw [putA_ne e1] at hb
      by_cases e2 : k = i
      · subst e2
        rw [putA_same]
        exact fun z => key z j e1 hb
      · rw [putA_ne e2]
        exact r.dj j k b hjk hb
theorem Ext.mutL {F0 H0 : Hp} {As0 : Nat → List Addr} {i : Nat} {a : Addr} {B' : List Addr} {o : HO} (x : Ext F0 H0 As0 F H As) (ha : a ∈ As i) (f : ∀ b ∈ B', Onn As0 b ∨ H0 b = none) : Ext F0 H0 As0 F (upd H a o) (putA As i (a :: B')) :=
  (x.updNew (x.oo a ⟨i, ha⟩)).put fun b hb => (List.mem_cons.mp hb).elim (fun z => z ▸ x.oo a ⟨i, ha⟩) (f b)
/-- xs.append(e) -/
def eAppend (i : Nat) (f : Ev) : Ev := fun e => match e[i]? with
  | some (.ow (_ + 1) (.list _)) => (f e).bind fun p => match p.2[i]? with
    | some (.ow (n + 1) (.list ds)) => (Rs.of (elt? n p.1)).bind fun y => if ds.length < sizeLine then .ok (.fz .none, p.2.set i (.ow (n + 1) (.list (ds ++ [y])))) else .stuck
    | _ => .stuck
  | _ => .stuck
theorem append_weak {i : Nat} {f : Ev} : ∀ σ H Q, tD K W (eAppend i f) σ H Q → tBM K.k "list" rAppend (tVar i) (tCons (tD K W f) tNil) σ H Q := by
  intro σ H Q ⟨F, e, As, r0, h⟩
  unfold eAppend at h
  cases q : e[i]? with
  | none => rw [q] at h; exact h.elim
  | some s =>
    rw [q] at h
    match s, q, h with
    | .ow (m + 1) (.list ds0), q, h =>
      obtain ⟨a, xs0, B0, hv, ha0, -, -, -, -, -⟩ := r0.mutL q
      refine ⟨_, hv, .inl ⟨rfl, _, .inl (.inl ha0)⟩, F, e, As, r0, ?_⟩
      refine PR.bind h fun p ep h1 v F1 H1 As1 A x1 r1 o fr => ?_
      cases q1 : p.2[i]? with
      | none => rw [q1] at h1; exact h1.elim
      | some s1 =>
        rw [q1] at h1
        match s1, q1, h1 with
        | .ow (n + 1) (.list ds), q1, h1 =>
          obtain ⟨y, hy, h2⟩ := PR.of h1
          by_cases hz : ds.length < sizeLine
          · rw [if_pos hz] at h2
            obtain ⟨F2, C, r2, o2, s2, f2, c2, z2⟩ := elt_lay r1 o fr.off hy
            obtain ⟨b, xs, B, hb, hxs, fb, eA, nB, ow, mk⟩ := r2.mutL q1
            rw [hv] at hb
            cases hb
            have aC : a ∉ C := fun z => fr.off a (c2 a z) ⟨i, by rw [eA]; exact List.mem_cons_self⟩
            have dBC : ∀ b ∈ B, b ∉ C := fun b hb z => fr.off b (c2 b z) ⟨i, by rw [eA]; exact List.mem_cons_of_mem _ hb⟩
            refine ⟨a, xs, v, rfl, rfl, hxs, by rw [ow.length]; exact hz, ?_⟩
            have x2 : Ext F H As F2 H1 As1 := by
              refine ⟨x1.ff.trans s2, fun b ho n e => ?_, x1.hh, x1.oo⟩
              rcases f2 b with q | q
              · rw [q]; exact x1.fn b ho n e
              · rcases fr.new b q with w | w
                · exact absurd w n
                · obtain ⟨o, ho⟩ := ho
                  rw [w] at ho; cases ho
            refine h2 .non F2 (upd H1 a (.lst (xs ++ [v]))) (putA As1 i (a :: (B ++ C))) [] ?_ ?_ ⟨rfl, .non⟩ Fresh.nil
            · exact x2.mutL (by rw [eA]; exact List.mem_cons_self) fun b hb => by
                rcases List.mem_append.mp hb with hb | hb
                · exact x2.oo b ⟨i, by rw [eA]; exact List.mem_cons_of_mem _ hb⟩
                · exact fr.new b (c2 b hb)
            · exact mk _ _ _ (ow.snoc o2 dBC) (fun z => (List.mem_append.mp z).elim nB aC) fun b hb => (List.mem_append.mp hb).imp id fun z => fr.off b (c2 b z)
          · rw [if_neg hz] at h2; exact h2.elim
        | .un, _, h1 => exact h1.elim
        | .fz _, _, h1 => exact h1.elim
        | .ow 0 _, _, h1 => exact h1.elim
        | .ow (_ + 1) .none, _, h1 => exact h1.elim
        | .ow (_ + 1) (.bool _), _, h1 => exact h1.elim
        | .ow (_ + 1) (.int _), _, h1 => exact h1.elim
        | .ow (_ + 1) (.str _), _, h1 => exact h1.elim
        | .ow (_ + 1) (.tuple _), _, h1 => exact h1.elim
        | .ow (_ + 1) (.dict _), _, h1 => exact h1.elim
    | .un, _, h => exact h.elim
    | .fz _, _, h => exact h.elim
    | .ow 0 _, _, h => exact h.elim
    | .ow (_ + 1) .none, _, h => exact h.elim
    | .ow (_ + 1) (.bool _), _, h => exact h.elim
    | .ow (_ + 1) (.int _), _, h => exact h.elim
    | .ow (_ + 1) (.str _), _, h => exact h.elim
    | .ow (_ + 1) (.tuple _), _, h => exact h.elim
    | .ow (_ + 1) (.dict _), _, h => exact h.elim
theorem de_append (i : Nat) {x : Str} {a : Expr} {p apos cpos : Pos} {f : Ev} (ha : DE X W a f) (hN : X.N[i]? = some x := by rfl) (hv : Vis X.env.scope x := by first | exact Or.inl rfl | exact Or.inr (Or.inl rfl) | exact Or.inr (Or.inr rfl)) (hd : (x == ("__debug__" : Str)) = false := by decide)
    (hcd : (x == ("__classdict__" : Str)) = false := by decide)
    (hbase : attributeBase (.Name x p) (Str.ofString "append") X.env (eval (.Name x p) X.env) = eval (.Name x p) X.env := by rfl)
    (hfew : ((backTo cpos (starEach [a] X.env)).all (fun x => !x.1) && (backToKw cpos (keywordEach [] X.env)).all (fun x => x.1.isSome)
      && decide ([a].length + ([] : List Keyword).length + (if ([] : List Keyword).isEmpty then 0 else 1) < 30)) = true := by rfl)
    (hline : (apos.endLine == cpos.line) = true := by rfl) (hs : starEach [a] X.env = (false, eval a X.env) :: starEach [] X.env := by rfl) (hplain : (backTo cpos (starEach [] X.env)).any (·.1) = false := by rfl) :
    DE X W (.Call (.Attribute (.Name x p) (Str.ofString "append") apos) [a] [] cpos) (eAppend i f) :=
  pe_weak (pe_bm PySem.F.plainAttrs_list PySem.F.slot_list_append PySem.F.type_list_append mt_append (pv i hN hv hd hcd) (pa_cons ha pa_nil hs) hbase hfew hline hs hplain) append_weak
end
end VS


set_option Elab.async false
set_option linter.all false
set_option maxRecDepth 100000
/-! VS7: places stored; values moved out of slots; defs and their calls. -/
namespace VS
open PySem PySem.Spec PyProof.Rows L2
section
variable {X : Cx} {K : KW} {W : WX} {F H F1 H1 : Hp} {As As1 : Nat → List Addr} {σ : Sto} {io : List Nat}
/-! ### xs[i] = e -/
theorem OwL.set {P : V → D → List Addr → Prop} {w : V} {d' : D} {C : List Addr} (hp : P w d' C) : ∀ {vs : List V} {ds : List D} {A : List Addr} (j : Nat), OwL P vs ds A → (∀ a ∈ C, a ∉ A) →
    ∃ A', OwL P (vs.set j w) (ds.set j d') A' ∧ ∀ a ∈ A', a ∈ A ∨ a ∈ C
  | _, _, _, _, .nil, _ => ⟨[], by simpa using OwL.nil, fun _ z => (nomatch z)⟩
  | _, _, _, 0, .cons (A := A1) (B := A2) h t n, dj => ⟨C ++ A2, .cons hp t fun a ha z => dj a ha (List.mem_append_right _ z), fun a ha => (List.mem_append.mp ha).elim .inr fun z => .inl (List.mem_append_right _ z)⟩
  | _, _, _, j + 1, .cons (A := A1) (B := A2) h t n, dj => by
    obtain ⟨A', t', s'⟩ := OwL.set hp j t fun a ha z => dj a ha (List.mem_append_right _ z)
    refine ⟨A1 ++ A', .cons h t' fun a ha z => ?_, fun a ha => ?_⟩
    · rcases s' a z with q | q
      · exact n a ha q
      · exact dj a q (List.mem_append_left _ ha)
    · rcases List.mem_append.mp ha with q | q
      · exact .inl (List.mem_append_left _ q)
      · exact (s' a q).imp (List.mem_append_right _) id
def sSetIx (i : Nat) (fi : Pk) (f : Ev) : Sv := fun e => (f e).out fun p => match p.2[i]? with
  | some (.ow (n + 1) (.list ds)) => match fi p.2, elt? n p.1 with
    | some (.int k), some y => match ixN ds.length k with
      | some j => .nx (p.2.set i (.ow (n + 1) (.list (ds.set j y))))
      | none => .stuck
    | _, _ => .stuck
  | _ => .stuck
theorem setIx_weak {i : Nat} {fi : Pk} {f : Ev} : ∀ D σ H, tS K W io (sSetIx i fi f) D σ H → tAsg (tD K W f) (L2.gSub (tVar i) (tP K fi) rSetL) D σ H := by
  intro D σ H ⟨F, e, As, r0, h⟩
  refine ⟨F, e, As, r0, h.pr fun p ep h1 v F1 H1 As1 A x1 r1 o fr => ?_⟩
  cases q1 : p.2[i]? with
  | none => rw [q1] at h1; exact h1.elim
  | some s1 =>
    rw [q1] at h1
    match s1, q1, h1 with
    | .ow (n + 1) (.list ds), q1, h1 =>
      cases q2 : fi p.2 with
      | none => simp only [q2] at h1; exact h1.elim
      | some d2 =>
        cases q3 : elt? n p.1 with
        | none => simp only [q2, q3] at h1; cases d2 <;> exact h1.elim
        | some y =>
          simp only [q2, q3] at h1
          match d2, q2, h1 with
          | .int k, q2, h1 =>
            cases q4 : ixN ds.length k with
            | none => simp only [q4] at h1; exact h1.elim
            | some j =>
              simp only [q4] at h1
              obtain ⟨F2, C, r2, o2, s2, f2, c2, z2⟩ := elt_lay r1 o fr.off q3
              obtain ⟨a0, xs0, B0, hv, _⟩ := r2.mutL q1
              refine ⟨_, hv, F2, p.2, As1, .int k, r2, q2, fun w H2 g2 n2 => ?_⟩
              have gr := New.grow r2.sub g2
              have r3 := r2.new gr
              obtain ⟨a, xs, B, ha, hxs, fa, eA, nB, ow, mk⟩ := r3.mutL q1
              rw [hv] at ha
              cases ha
              have o3 : Own K F2 H2 n v y C := own_keep (Sub.refl _) n o2 z2 fun b hb => by
                obtain ⟨⟨u, q, _⟩, _⟩ := own_tracked n o2 b hb
                rw [q]
                exact g2 _ _ q
              have onn : ∀ b, b ∈ a0 :: B → Onn As1 b := fun b hb => ⟨i, by rw [eA]; exact hb⟩
              have dC : ∀ b ∈ C, b ∉ B := fun b hb z => fr.off b (c2 b hb) (onn b (List.mem_cons_of_mem _ z))
              obtain ⟨B', o4, s4⟩ := OwL.set o3 j ow dC
              have x2 : Ext F H As F2 H1 As1 := by
                refine ⟨x1.ff.trans s2, fun b ho n e => ?_, x1.hh, x1.oo⟩
                rcases f2 b with q | q
                · rw [q]; exact x1.fn b ho n e
                · rcases fr.new b q with w | w
                  · exact absurd w n
                  · obtain ⟨o, ho⟩ := ho
                    rw [w] at ho; cases ho
              have x3 : Ext F H As F2 H2 As1 := x2.trans gr.ext
              refine ⟨a0, xs, k, j, rfl, den_int n2, hxs, by rw [ow.length]; exact q4, ?_⟩
              refine h1 F2 (upd H2 a0 (.lst (xs.set j v))) (putA As1 i (a0 :: B')) σ ?_ ?_ Keep.refl
              · exact x3.mutL (by rw [eA]; exact List.mem_cons_self) fun b hb => by
                  rcases s4 b hb with q | q
                  · exact x3.oo b (onn b (List.mem_cons_of_mem _ q))
                  · exact fr.new b (c2 b q)
              · exact mk _ _ _ o4 (fun z => (s4 _ z).elim nB fun q => fr.off _ (c2 _ q) (onn _ List.mem_cons_self)) fun b hb => (s4 b hb).imp id fun q => fr.off b (c2 b q)
          | .none, _, h1 => exact h1.elim
          | .bool _, _, h1 => exact h1.elim
          | .str _, _, h1 => exact h1.elim
          | .list _, _, h1 => exact h1.elim
          | .tuple _, _, h1 => exact h1.elim
          | .dict _, _, h1 => exact h1.elim
    | .un, _, h1 => exact h1.elim
    | .fz _, _, h1 => exact h1.elim
    | .ow 0 _, _, h1 => exact h1.elim
    | .ow (_ + 1) .none, _, h1 => exact h1.elim
    | .ow (_ + 1) (.bool _), _, h1 => exact h1.elim
    | .ow (_ + 1) (.int _), _, h1 => exact h1.elim
    | .ow (_ + 1) (.str _), _, h1 => exact h1.elim
    | .ow (_ + 1) (.tuple _), _, h1 => exact h1.elim
    | .ow (_ + 1) (.dict _), _, h1 => exact h1.elim
theorem ds_setIx (i : Nat) {x : Str} {p spos pos : Pos} {ix e : Expr} {fi : Pk} {f : Ev} (he : DE X W e f) (hi : DP X ix fi) (hN : X.N[i]? = some x := by rfl) (hv : Vis X.env.scope x := by first | exact Or.inl rfl | exact Or.inr (Or.inl rfl) | exact Or.inr (Or.inr rfl)) (hd : (x == ("__debug__" : Str)) = false := by decide)
    (hcd : (x == ("__classdict__" : Str)) = false := by decide)
    (hs : swapsWithSole [.Subscript (.Name x p) ix spos] e pos.line X.env = pure false := by rfl) (hw : swappedStores [.Subscript (.Name x p) ix spos] e X.env = pure none := by rfl)
    (h1 : (assignEach [.Subscript (.Name x p) ix spos] X.env).map (·.2) = [assign (.Subscript (.Name x p) ix spos) X.env] := by rfl)
    (ha : ∀ v, assign (.Subscript (.Name x p) ix spos) X.env v = (do
      let ov ← holding [v] (eval (.Name x p) X.env)
      let iv ← holding [v, ov] (eval ix X.env)
      standAt spos
      holding [v, ov, iv] (setItem ov iv v)
      release [v, ov, iv] []) := by intro _; rfl) : DS X W io (.Assign [.Subscript (.Name x p) ix spos] e pos) (sSetIx i fi f) :=
  ps_weak (ps_asg he (pg_sub (pv i hN hv hd hcd) hi set_list ha) hs hw h1) setIx_weak
/-! ### a slot's value is moved out -/
def eMove (i : Nat) : Ev := fun e => match e[i]? with
  | some (.fz d) => .ok (.fz d, e)
  | some (.ow n d) => .ok (.ow n d, e.set i .un)
  | _ => .stuck
theorem Rel.drop {e : En} (r : Rel K F e As σ H) {i : Nat} (hi : i < e.length) : Rel K F (e.set i .un) (putA As i []) σ H where
  sub := r.sub
  len := by simpa using r.len
  slot := fun j y hj => by
    by_cases e1 : j = i
    · subst e1
      rw [List.getElem?_set_self hi] at hj
      cases hj
      rw [putA_same]
      exact ⟨_, List.getElem?_eq_getElem (by rw [← r.len]; exact hi), rfl⟩
    · rw [List.getElem?_set_ne (Ne.symm e1)] at hj
      rw [putA_ne e1]
      exact r.slot j y hj
  out := fun j hj => by
    rw [List.length_set] at hj
    by_cases e1 : j = i
    · subst e1; exact putA_same
    · rw [putA_ne e1]; exact r.out j hj
  dj := fun j k a hjk ha => by
    by_cases e1 : j = i
    · subst e1
      rw [putA_same] at ha; cases ha
    · rw [putA_ne e1] at ha
      by_cases e2 : k = i
      · subst e2; rw [putA_same]; simp
      · rw [putA_ne e2]; exact r.dj j k a hjk ha
  frz := r.frz
theorem Ext.drop {i : Nat} (x : Ext F H As F1 H1 As1) : Ext F H As F1 H1 (putA As1 i []) := x.put fun _ z => (nomatch z)
theorem de_move (i : Nat) {x : Str} {pos : Pos} (hN : X.N[i]? = some x := by rfl) (hv : Vis X.env.scope x := by first | exact Or.inl rfl | exact Or.inr (Or.inl rfl) | exact Or.inr (Or.inr rfl)) (hd : (x == ("__debug__" : Str)) = false := by decide)
    (hcd : (x == ("__classdict__" : Str)) = false := by decide) : DE X W (.Name x pos) (eMove i) := by
  refine pe_weak (pv i hN hv hd hcd) fun σ H Q ⟨F, e, As, r0, h⟩ => ?_
  unfold eMove at h
  cases q : e[i]? with
  | none => rw [q] at h; exact h.elim
  | some s =>
    rw [q] at h
    cases s with
    | un => exact h.elim
    | fz d =>
      obtain ⟨v, h1, h2⟩ := r0.fzAt q
      exact ⟨v, h1, h v F H As [] Ext.refl r0 ⟨rfl, h2⟩ Fresh.nil⟩
    | ow n d =>
      obtain ⟨v, h1, h2⟩ := r0.owAt q
      refine ⟨v, h1, h v F H (putA As i []) (As i) Ext.refl.drop (r0.drop (List.getElem?_eq_some_iff.mp q).1) h2 ⟨fun a ha => .inl ⟨i, ha⟩, fun a ha ⟨j, z⟩ => ?_⟩⟩
      by_cases e1 : j = i
      · subst e1; rw [putA_same] at z; cases z
      · rw [putA_ne e1] at z; exact r0.dj j i a e1 z ha
/-! ### frames -/
theorem DenAll.slots : ∀ {vs : List V} {ds : List D}, DenAll K F vs ds → ∀ (i : Nat) (x : Sl), (ds.map Sl.fz)[i]? = some x → ∃ v, (vs.map some)[i]? = some v ∧ SlOk K F H x v []
  | _, [], h, i, x, e => by simp at e
  | _, d :: ds, h, 0, x, e => by
    cases h with
    | cons h1 h2 =>
      simp only [List.map_cons, List.getElem?_cons_zero, Option.some.injEq] at e
      subst e
      exact ⟨_, rfl, rfl, _, rfl, h1⟩
  | _, d :: ds, h, i + 1, x, e => by
    cases h with
    | cons h1 h2 =>
      obtain ⟨v, q1, q2⟩ := DenAll.slots h2 i x (by simpa using e)
      exact ⟨v, by simpa using q1, q2⟩
def noA : Nat → List Addr := fun _ => []
theorem not_noA {a : Addr} : ¬ Onn noA a := fun ⟨_, h⟩ => nomatch h
theorem Rel.args {e : En} {vs : List V} {ds : List D} (r : Rel K F e As σ H) (d : DenAll K F vs ds) : Rel K F (ds.map Sl.fz) noA (vs.map some) H :=
  ⟨r.sub, by rw [List.length_map, List.length_map, d.length], fun i x h => d.slots i x h, fun _ _ => rfl, fun _ _ _ _ z => (nomatch z), r.frz⟩
/-- behind a call that was lent the addresses of slot i (none, if i is no slot) -/
theorem Rel.behind {e out : En} {σ0 : Sto} {B As0 As0' : Nat → List Addr} (r : Rel K F e As σ H) (x : Ext F H As0 F1 H1 As0') (r1 : Rel K F1 out As0' σ0 H1) (h0 : ∀ a, Onn As0 a → ¬ Onn As a) : Rel K F1 e As σ H1 where
  sub := r1.sub
  len := r.len
  slot := fun i y h => by
    obtain ⟨v, h1, h2⟩ := r.slot i y h
    refine ⟨v, h1, h2.keep x.ff (fun a ha => ?_) fun a ha => ?_⟩
    · obtain ⟨⟨o, q, _⟩, f⟩ := r.tracked ha
      exact x.fn a ⟨o, q⟩ (fun z => h0 a z ⟨i, ha⟩) f
    · obtain ⟨⟨o, q, _⟩, f⟩ := r.tracked ha
      rw [q]
      exact x.hh a o q fun z => h0 a z ⟨i, ha⟩
  out := r.out
  dj := r.dj
  frz := r1.frz
/-! ### what a def promises -/
def spD (K : KW) (np : Nat) (G : Ev) : Sp := fun vs H Q E => vs.length = np ∧ tD K (fun c d _ H' => E c d H') G (vs.map some) H Q
structure FnG (P : Program) (w : World) (K : PySem.W.Frag) (mg : Str → Option Value) (base : Heap) (k : Nat) (f : Addr) (fd : FuncData) (ps : List Str) (G : Ev) : Prop where
  run : ∀ (A : Around) (outer : List Env) (s : Shared) (H : Hp) (args : Args) (us : List Value) (vs : List V) (Q : VK) (E : XK), Room k A → A.guards = some [] → Env0 P w K mg base A outer s H → BindsTo s fd args (ps.zip us) → Vals vs us → spD ⟨K, w⟩ ps.length G vs H Q E →
    codeAny (model P w) A (.call (.ref f) args) (CR (L2.CX P w) outer P w H s Q E) s
/-- a def that may be called by its name x -/
structure DefOk (P : Program) (w : World) (K : PySem.W.Frag) (mg : Str → Option Value) (base : Heap) (x : Str) (k np : Nat) (G : Ev) : Prop where
  ex : ∃ (f : Addr) (fd : FuncData) (ps : List Str), ps.length = np ∧ mg x = some (.ref f) ∧ PySem.W.keepIn K (.ref f) = true ∧ Binds K fd ps [] ∧ FnG P w K mg base k f fd ps G
/-- what a context allows -/
structure Ctx (X : Cx) (W : WX) (k : Nat) : Prop where
  room : Room k X.A
  gd : X.A.guards = some []
  tk : Takes X W
  calm : X.calm = true
theorem run_g {k : Nat} {f : Addr} {fd : FuncData} {ps : List Str} {G : Ev} {pins : List (Addr × Obj)} {s : Shared} {Q : VK} {args : Args} {us : List Value} {vs : List V} {k' : Nat} (Fn : FnG X.prog X.w X.K X.mg X.base k f fd ps G) (hk : k ≤ k') (C : Ctx X W k') (I : Inv X pins σ H s) (hb : BindsTo s fd args (ps.zip us))
    (r : Vals vs us) (h : spD X.KW ps.length G vs H Q (WE W σ)) : codeAny (model X.prog X.w) X.A (.call (.ref f) args) (fun r s' => match r with
      | .ok (.ret u) => EP X pins σ Q u s'
      | .ok _ => False
      | .error e => X.xe e s') s := by
  refine codeAny_mono (Fn.run X.A X.stack s H args us vs Q (WE W σ) (C.room.mono hk) C.gd I.env0 hb r h) fun res s' hq => ?_
  match res, hq with
  | .ok (.ret u), hq => exact I.after hq
  | .error e, hq => exact passAt C.tk σ pins H s e s' I hq
  | .ok .next, hq => exact hq.elim
  | .ok .brk, hq => exact hq.elim
  | .ok .cont, hq => exact hq.elim
theorem pe_callG {k k' np : Nat} {x : Str} {G : Ev} {p pos : Pos} {e : Expr} {es : List Expr} {t : TA} (D0 : DefOk X.prog X.w X.K X.mg X.base x k np G) (hk : k ≤ k') (C : Ctx X W k') (hg : Gl X x) (ha : PA X (e :: es) t)
    (hdb : (x == ("__debug__" : Str)) = false) (he : starEach (e :: es) X.env = (false, eval e X.env) :: starEach es X.env) (hpl : (backTo pos (starEach es X.env)).any (·.1) = false) :
    PE X (.Call (.Name x p) (e :: es) [] pos) (fun σ H Q => t σ H fun vs H1 => spD X.KW np G vs H1 Q (WE W σ)) := by
  obtain ⟨f, fd, ps, rfl, hm, kp, hb, Fn⟩ := D0.ex
  refine ⟨fun pins s σ H Q I h => wpAny_Call_Name_kw (ld_glob I hg hm ?_ hdb)⟩
  refine PySem.W.callWith_K (h₀ := X.base) I.ok.mod.kin kp (thn (ha.run pos pins s σ H _ I h) fun us s1 hh => ?_) he hpl
  obtain ⟨vs, H1, I1, r, q⟩ := hh
  refine ⟨I1.kIn, wpAny_call (codeAny_mono (run_g (us := us) Fn hk C I1 ?_ r q) fun res s' hq => ?_)⟩
  · have z := hb s1 us I1.kIn (by rw [List.append_nil, ← r.length]; exact q.1)
    rwa [List.append_nil] at z
  · match res, hq with
    | .ok (.ret u), hq => exact hq
    | .error e, hq => exact hq
    | .ok .next, hq => exact hq.elim
    | .ok .brk, hq => exact hq.elim
    | .ok .cont, hq => exact hq.elim
theorem pe_callG0 {k k' np : Nat} {x : Str} {G : Ev} {p pos : Pos} (D0 : DefOk X.prog X.w X.K X.mg X.base x k np G) (hk : k ≤ k') (C : Ctx X W k') (hg : Gl X x) (hdb : (x == ("__debug__" : Str)) = false) :
    PE X (.Call (.Name x p) [] [] pos) (fun σ H Q => spD X.KW np G [] H Q (WE W σ)) := by
  obtain ⟨f, fd, ps, rfl, hm, kp, hb, Fn⟩ := D0.ex
  refine ⟨fun pins s σ H Q I h => wpAny_Call_Name_kw (ld_glob I hg hm (PySem.W.callWith_K0 I.kIn kp ?_) hdb)⟩
  refine wpAny_call (codeAny_mono (run_g (us := []) Fn hk C I ?_ .nil h) fun res s' hq => ?_)
  · have z := hb s [] I.kIn (by rw [List.append_nil]; exact h.1)
    rwa [List.append_nil] at z
  · match res, hq with
    | .ok (.ret u), hq => exact hq
    | .error e, hq => exact hq
    | .ok .next, hq => exact hq.elim
    | .ok .brk, hq => exact hq.elim
    | .ok .cont, hq => exact hq.elim
/-! ### calls: all values shared -/
def eCall (np : Nat) (G : Ev) (fa : Av) : Ev := fun e => (fa e).bind fun p => if p.1.length = np then match G (p.1.map Sl.fz) with
    | .ok (x, _) => .ok (x, p.2)
    | .exc c fs _ => .exc c fs p.2
    | .stuck => .stuck
  else .stuck
theorem sp_shared {np : Nat} {G : Ev} {As0 : Nat → List Addr} {F0 H0 : Hp} {e : En} {vs : List V} {ds : List D} {Q : VK} (r : Rel K F e As σ H) (x0 : Ext F0 H0 As0 F H As) (d : DenAll K F vs ds) (hl : ds.length = np)
    (h : PR K W F0 H0 As0 σ (PV K F0 H0 As0 σ Q) (match G (ds.map Sl.fz) with
      | .ok (x, _) => .ok (x, e)
      | .exc c fs _ => .exc c fs e
      | .stuck => .stuck)) : spD K np G vs H Q (WE W σ) := by
  refine ⟨by rw [d.length, hl], F, ds.map Sl.fz, noA, r.args d, ?_⟩
  have wide : ∀ {F' H' : Hp} {As' : Nat → List Addr}, Ext F H noA F' H' As' → Ext F H As F' H' As := fun {F' H' As'} x => ⟨x.ff, fun a ho _ f => x.fn a ho not_noA f, fun a o ho _ => x.hh a o ho not_noA, fun a z => .inl z⟩
  cases hG : G (ds.map Sl.fz) with
  | stuck => rw [hG] at h; exact h.elim
  | ok p =>
    obtain ⟨y, out⟩ := p
    rw [hG] at h
    intro v F' H' As' A x r1 o fr
    have n : ∀ a ∈ A, H a = none := fun a ha => (fr.new a ha).resolve_left not_noA
    refine h v F' H' As A (x0.trans (wide x)) (r.behind (B := noA) x r1 fun a z => absurd z not_noA) o ⟨fun a ha => x0.back (.inr (n a ha)), fun a ha z => ?_⟩
    obtain ⟨⟨u, q, _⟩, _⟩ := r.onn z
    rw [n a ha] at q; cases q
  | exc c fs out =>
    rw [hG] at h
    intro cls dx F' H' As' x r1 z
    exact h cls dx F' H' As (x0.trans (wide x)) (r.behind (B := noA) x r1 fun a z => absurd z not_noA) z
theorem de_call {k k' np : Nat} {x : Str} {G : Ev} {p pos : Pos} {e : Expr} {es : List Expr} {fa : Av} (C : Ctx X W k') (D0 : DefOk X.prog X.w X.K X.mg X.base x k np G) (ha : DA X W (e :: es) fa) (hk : k ≤ k' := by decide) (hg : Gl X x := by rfl)
    (hdb : (x == ("__debug__" : Str)) = false := by decide) (he : starEach (e :: es) X.env = (false, eval e X.env) :: starEach es X.env := by rfl) (hpl : (backTo pos (starEach es X.env)).any (·.1) = false := by rfl) :
    DE X W (.Call (.Name x p) (e :: es) [] pos) (eCall np G fa) := by
  refine pe_weak (pe_callG D0 hk C hg ha hdb he hpl) fun σ H Q ⟨F, e, As, r0, h⟩ => ⟨F, e, As, r0, h.bind fun q eq h1 vs F1 H1 As1 x1 r1 d1 => ?_⟩
  by_cases hl : q.1.length = np
  · rw [if_pos hl] at h1
    exact sp_shared r1 x1 d1 hl h1
  · rw [if_neg hl] at h1
    exact h1.elim
theorem de_call0 {k k' : Nat} {x : Str} {G : Ev} {p pos : Pos} (C : Ctx X W k') (D0 : DefOk X.prog X.w X.K X.mg X.base x k 0 G) (hk : k ≤ k' := by decide) (hg : Gl X x := by rfl) (hdb : (x == ("__debug__" : Str)) = false := by decide) :
    DE X W (.Call (.Name x p) [] [] pos) (eCall 0 G aNil) := by
  refine pe_weak (pe_callG0 D0 hk C hg hdb) fun σ H Q ⟨F, e, As, r0, h⟩ => ?_
  exact sp_shared (ds := []) r0 Ext.refl .nil rfl h
end
end VS


set_option Elab.async false
set_option linter.all false
set_option maxRecDepth 100000
/-! VS8: calls that lend a slot; a def's body keeps its promise. -/
namespace VS
open PySem PySem.Spec PyProof.Rows L2
section
variable {X : Cx} {K : KW} {W : WX} {F H F1 H1 : Hp} {As As1 : Nat → List Addr} {σ : Sto} {io : List Nat}
/-! ### calls whose first argument is lent: the slot i, a container of our own -/
def put0 (i : Nat) (out e : En) : En := match out with
  | s :: _ => e.set i s
  | [] => e
def eLend (np : Nat) (G : Ev) (i : Nat) (fa : Av) : Ev := fun e => match e[i]? with
  | some (.ow _ _) => (fa e).bind fun p => match p.2[i]? with
    | some (.ow n d) => if p.1.length + 1 = np then match G (.ow n d :: p.1.map Sl.fz) with
        | .ok (x, out) => .ok (x, put0 i out p.2)
        | .exc c fs out => .exc c fs (put0 i out p.2)
        | .stuck => .stuck
      else .stuck
    | _ => .stuck
  | _ => .stuck
def at0 (A : List Addr) : Nat → List Addr := fun j => if j = 0 then A else []
theorem onn_at0 {A : List Addr} {a : Addr} (h : Onn (at0 A) a) : a ∈ A := by
  obtain ⟨j, hj⟩ := h
  unfold at0 at hj
  split at hj
  · exact hj
  · cases hj
theorem at0_onn {A : List Addr} {a : Addr} (h : a ∈ A) : Onn (at0 A) a := ⟨0, h⟩
/-- behind the call: the slot holds what the callee left -/
theorem Rel.lent {e out : En} {i n : Nat} {d : D} {v : V} {vs : List V} {As' : Nat → List Addr} (r : Rel K F e As σ H) (q : e[i]? = some (.ow n d)) (hv : σ[i]? = some (some v)) (x : Ext F H (at0 (As i)) F1 H1 As') (r1 : Rel K F1 out As' ((v :: vs).map some) H1) :
    ∃ B, Rel K F1 (put0 i out e) (putA As i B) σ H1 ∧ (∀ a ∈ B, a ∈ As i ∨ H a = none) ∧ ∀ a ∈ B, Onn As' a := by
  have hi : i < e.length := (List.getElem?_eq_some_iff.mp q).1
  have off : ∀ j a, j ≠ i → a ∈ As j → ¬ Onn (at0 (As i)) a := fun j a hj ha z => r.dj j i a hj ha (onn_at0 z)
  have keep : ∀ j y, j ≠ i → e[j]? = some y → ∃ v, σ[j]? = some v ∧ SlOk K F1 H1 y v (As j) := fun j y hj h => by
    obtain ⟨w, h1, h2⟩ := r.slot j y h
    refine ⟨w, h1, h2.keep x.ff (fun a ha => ?_) fun a ha => ?_⟩
    · obtain ⟨⟨o, z, _⟩, f⟩ := r.tracked ha
      exact x.fn a ⟨o, z⟩ (off j a hj ha) f
    · obtain ⟨⟨o, z, _⟩, f⟩ := r.tracked ha
      rw [z]
      exact x.hh a o z (off j a hj ha)
  have hb : ∀ a ∈ As' 0, a ∈ As i ∨ H a = none := fun a ha => (x.oo a ⟨0, ha⟩).imp onn_at0 id
  cases out with
  | nil => have := r1.len; simp at this
  | cons s out =>
    obtain ⟨w, h1, h2⟩ := r1.slot 0 s rfl
    have h1 : some (some v) = some w := h1
    cases h1
    refine ⟨As' 0, ⟨r1.sub, by show (e.set i s).length = _; simpa using r.len, fun j y hj => ?_, fun j hj => ?_, fun j k a hjk ha => ?_, r1.frz⟩, hb, fun a ha => ⟨0, ha⟩⟩
    · by_cases e1 : j = i
      · subst e1
        have hj : (e.set j s)[j]? = some y := hj
        rw [List.getElem?_set_self hi] at hj
        cases hj
        rw [putA_same]
        exact ⟨_, hv, h2⟩
      · have hj : (e.set i s)[j]? = some y := hj
        rw [List.getElem?_set_ne (Ne.symm e1)] at hj
        rw [putA_ne e1]
        exact keep j y e1 hj
    · have hj : (e.set i s).length ≤ j := hj
      rw [List.length_set] at hj
      rw [putA_ne (by omega)]
      exact r.out j hj
    · have key : ∀ {b : Addr}, b ∈ As' 0 → ∀ m, m ≠ i → b ∉ As m := fun {b} hb2 m hm z => by
        rcases hb b hb2 with w | w
        · exact r.dj m i b hm z w
        · obtain ⟨⟨o, w2, _⟩, _⟩ := r.tracked z
          rw [w] at w2; cases w2
      by_cases e1 : j = i
      · subst e1
        rw [putA_same] at ha
        rw [putA_ne (Ne.symm hjk)]
        exact key ha k (Ne.symm hjk)
      · rw [putA_ne e1] at ha
        by_cases e2 : k = i
        · subst e2
          rw [putA_same]
          exact fun z => key z j e1 ha
        · rw [putA_ne e2]
          exact r.dj j k a hjk ha
theorem sp_lent {np : Nat} {G : Ev} {As0 : Nat → List Addr} {F0 H0 : Hp} {e : En} {i n : Nat} {d : D} {v : V} {vs : List V} {ds : List D} {Q : VK} (r : Rel K F e As σ H) (x0 : Ext F0 H0 As0 F H As) (q : e[i]? = some (.ow n d)) (hv : σ[i]? = some (some v)) (dd : DenAll K F vs ds) (hl : ds.length + 1 = np)
    (h : PR K W F0 H0 As0 σ (PV K F0 H0 As0 σ Q) (match G (.ow n d :: ds.map Sl.fz) with
      | .ok (x, out) => .ok (x, put0 i out e)
      | .exc c fs out => .exc c fs (put0 i out e)
      | .stuck => .stuck)) : spD K np G (v :: vs) H Q (WE W σ) := by
  obtain ⟨v', hv', ho⟩ := r.owAt q
  rw [hv] at hv'
  cases hv'
  have r0 : Rel K F (.ow n d :: ds.map Sl.fz) (at0 (As i)) ((v :: vs).map some) H := by
    refine ⟨r.sub, by simp [dd.length], fun j y hj => ?_, fun j hj => ?_, fun j k a hjk ha => ?_, r.frz⟩
    · cases j with
      | zero =>
        simp only [List.getElem?_cons_zero, Option.some.injEq] at hj
        subst hj
        exact ⟨_, rfl, _, rfl, ho⟩
      | succ j =>
        obtain ⟨w, h1, h2⟩ := DenAll.slots (H := H) dd j y (by simpa using hj)
        exact ⟨w, by simpa using h1, h2⟩
    · cases j with
      | zero => simp at hj
      | succ j => rfl
    · cases j with
      | zero =>
        cases k with
        | zero => exact absurd rfl hjk
        | succ k => exact fun z => (nomatch z)
      | succ j => cases ha
  refine ⟨by rw [List.length_cons, dd.length, hl], F, _, _, r0, ?_⟩
  have wide : ∀ {F' H' : Hp} {As' : Nat → List Addr} {B : List Addr}, Ext F H (at0 (As i)) F' H' As' → (∀ a ∈ B, a ∈ As i ∨ H a = none) → Ext F H As F' H' (putA As i B) := fun {F' H' As' B} x hB => by
    have sub : ∀ a, ¬ Onn As a → ¬ Onn (at0 (As i)) a := fun a n z => n ⟨i, onn_at0 z⟩
    refine ⟨x.ff, fun a ho n f => x.fn a ho (sub a n) f, fun a o ho n => x.hh a o ho (sub a n), fun a z => ?_⟩
    rcases onn_putA z with z | z
    · exact (hB a z).imp (fun w => ⟨i, w⟩) id
    · exact .inl z
  cases hG : G (.ow n d :: ds.map Sl.fz) with
  | stuck => rw [hG] at h; exact h.elim
  | ok p =>
    obtain ⟨y, out⟩ := p
    rw [hG] at h
    intro u F' H' As' A x r1 o fr
    obtain ⟨B, r2, hB, hO⟩ := r.lent q hv x r1
    have x2 := wide x hB
    refine h u F' H' _ A (x0.trans x2) r2 o ⟨fun a ha => ?_, fun a ha z => ?_⟩
    · rcases fr.new a ha with w | w
      · exact x0.oo a ⟨i, onn_at0 w⟩
      · exact x0.back (.inr w)
    · obtain ⟨j, hj⟩ := z
      by_cases e1 : j = i
      · subst e1
        rw [putA_same] at hj
        exact fr.off a ha (hO a hj)
      · rw [putA_ne e1] at hj
        rcases fr.new a ha with w | w
        · exact r.dj j i a e1 hj (onn_at0 w)
        · obtain ⟨⟨o', w2, _⟩, _⟩ := r.tracked hj
          rw [w] at w2; cases w2
  | exc c fs out =>
    rw [hG] at h
    intro cls dx F' H' As' x r1 z
    obtain ⟨B, r2, hB, _⟩ := r.lent q hv x r1
    exact h cls dx F' H' _ (x0.trans (wide x hB)) r2 z
theorem pa_lend {x : Str} {i : Nat} {p : Pos} {es : List Expr} {fa : Av} (ha : DA X W es fa) (hv : PE X (.Name x p) (tVar i)) (hs : starEach (.Name x p :: es) X.env = (false, eval (.Name x p) X.env) :: starEach es X.env := by rfl) : PA X (.Name x p :: es) (tCons (tVar i) (tDA X.KW W fa)) := pa_cons hv ha hs
theorem de_lend (i : Nat) {k k' np : Nat} {x y : Str} {G : Ev} {p py pos : Pos} {es : List Expr} {fa : Av} (C : Ctx X W k') (D0 : DefOk X.prog X.w X.K X.mg X.base x k np G) (ha : DA X W es fa) (hk : k ≤ k' := by decide) (hg : Gl X x := by rfl)
    (hN : X.N[i]? = some y := by rfl) (hv : Vis X.env.scope y := by first | exact Or.inl rfl | exact Or.inr (Or.inl rfl) | exact Or.inr (Or.inr rfl)) (hd : (y == ("__debug__" : Str)) = false := by decide) (hcd : (y == ("__classdict__" : Str)) = false := by decide)
    (hdb : (x == ("__debug__" : Str)) = false := by decide) (he : starEach (.Name y py :: es) X.env = (false, eval (.Name y py) X.env) :: starEach es X.env := by rfl) (hpl : (backTo pos (starEach es X.env)).any (·.1) = false := by rfl) :
    DE X W (.Call (.Name x p) (.Name y py :: es) [] pos) (eLend np G i fa) := by
  refine pe_weak (pe_callG D0 hk C hg (pa_lend ha (pv i hN hv hd hcd) he) hdb he hpl) fun σ H Q ⟨F, e, As, r0, h⟩ => ?_
  unfold eLend at h
  cases q : e[i]? with
  | none => rw [q] at h; exact h.elim
  | some s =>
    rw [q] at h
    cases s with
    | un => exact h.elim
    | fz d => exact h.elim
    | ow n0 d0 =>
      obtain ⟨v, h1, _⟩ := r0.owAt q
      refine ⟨v, h1, F, e, As, r0, h.bind fun p ep h2 vs F1 H1 As1 x1 r1 d1 => ?_⟩
      cases q1 : p.2[i]? with
      | none => rw [q1] at h2; exact h2.elim
      | some s1 =>
        rw [q1] at h2
        cases s1 with
        | un => exact h2.elim
        | fz d => exact h2.elim
        | ow n d =>
          by_cases hl : p.1.length + 1 = np
          · have h3 : PR X.KW W F H As σ (PV X.KW F H As σ Q) (if p.1.length + 1 = np then match G (.ow n d :: p.1.map Sl.fz) with
              | .ok (x, out) => .ok (x, put0 i out p.2)
              | .exc c fs out => .exc c fs (put0 i out p.2)
              | .stuck => .stuck else .stuck) := h2
            rw [if_pos hl] at h3
            exact sp_lent r1 x1 q1 h1 d1 hl h3
          · have h3 : PR X.KW W F H As σ (PV X.KW F H As σ Q) (if p.1.length + 1 = np then match G (.ow n d :: p.1.map Sl.fz) with
              | .ok (x, out) => .ok (x, put0 i out p.2)
              | .exc c fs out => .exc c fs (put0 i out p.2)
              | .stuck => .stuck else .stuck) := h2
            rw [if_neg hl] at h3
            exact h3.elim
end
/-! ### a def's body -/
/-- what the caller sees of the parameters: those lent -/
def mask (io : List Nat) (np : Nat) (e : En) : En := (List.range np).map fun i => if i ∈ io then (e[i]?).getD .un else .un
def gDef (io : List Nat) (np N : Nat) (f : Sv) : Ev := fun e => match f (e ++ List.replicate (N - np) .un) with
  | .nx e' => .ok (.fz .none, mask io np e')
  | .rt x e' => .ok (x, mask io np e')
  | .exc c fs e' => .exc c fs (mask io np e')
  | _ => .stuck
def maskA (io : List Nat) (np : Nat) (As : Nat → List Addr) : Nat → List Addr := fun i => if i ∈ io ∧ i < np then As i else []
section
variable {K : KW} {F H : Hp} {As : Nat → List Addr} {io : List Nat}
theorem onn_maskA {np : Nat} {a : Addr} (h : Onn (maskA io np As) a) : Onn As a := by
  obtain ⟨i, hi⟩ := h
  unfold maskA at hi
  split at hi
  · exact ⟨i, hi⟩
  · cases hi
theorem Rel.atEntry {e : En} {vs : List V} {N : List Str} {np : Nat} (r : Rel K F e As (vs.map some) H) (hl : vs.length = np) (hN : np ≤ N.length) : Rel K F (e ++ List.replicate (N.length - np) .un) As (L2.start N vs) H := by
  have le : e.length = np := by rw [r.len, List.length_map, hl]
  refine ⟨r.sub, ?_, fun i x h => ?_, fun i hi => ?_, r.dj, r.frz⟩
  · unfold L2.start
    rw [List.length_append, List.length_append, List.length_map, List.length_replicate, List.length_replicate, le, hl]
  · by_cases hi : i < e.length
    · rw [List.getElem?_append_left hi] at h
      obtain ⟨v, h1, h2⟩ := r.slot i x h
      refine ⟨v, ?_, h2⟩
      unfold L2.start
      rw [List.getElem?_append_left (by rw [List.length_map, hl, ← le]; exact hi)]
      exact h1
    · rw [List.getElem?_append_right (by omega), List.getElem?_replicate] at h
      split at h
      · cases h
        rw [r.out i (by omega)]
        refine ⟨none, ?_, rfl⟩
        unfold L2.start
        rw [List.getElem?_append_right (by rw [List.length_map]; omega), List.getElem?_replicate, List.length_map, hl]
        rename_i h2
        rw [if_pos (by omega)]
      · cases h
  · rw [List.length_append] at hi
    exact r.out i (by omega)
theorem Rel.masked {e : En} {vs : List V} {N : List Str} {np : Nat} {σ : Sto} (r : Rel K F e As σ H) (hl : vs.length = np) (hN : np ≤ N.length) (k : Keep io (L2.start N vs) σ) : Rel K F (mask io np e) (maskA io np As) (vs.map some) H := by
  have ls : (L2.start N vs).length = N.length := by
    unfold L2.start
    rw [List.length_append, List.length_map, List.length_replicate]
    omega
  have le : e.length = N.length := by rw [r.len, k.1, ls]
  refine ⟨r.sub, by unfold mask; rw [List.length_map, List.length_map, List.length_range, hl], fun i x h => ?_, fun i hi => ?_, fun i j a hij ha => ?_, r.frz⟩
  · unfold mask at h
    rw [List.getElem?_map] at h
    obtain ⟨m, hm, rfl⟩ := Option.map_eq_some_iff.mp h
    have hi : i < np := by
      have := (List.getElem?_eq_some_iff.mp hm).1
      rwa [List.length_range] at this
    have em : m = i := by
      rw [List.getElem?_range hi] at hm
      exact (Option.some.inj hm).symm
    subst em
    have hv : m < vs.length := by omega
    have hs : (vs.map some)[m]? = some (some vs[m]) := by rw [List.getElem?_map, List.getElem?_eq_getElem hv]; rfl
    refine ⟨_, hs, ?_⟩
    by_cases hio : m ∈ io
    · rw [if_pos hio]
      have hE : m < e.length := by omega
      rw [List.getElem?_eq_getElem hE]
      obtain ⟨v, h1, h2⟩ := r.slot m _ (List.getElem?_eq_getElem hE)
      rw [k.2 m hio] at h1
      have : (L2.start N vs)[m]? = some (some vs[m]) := by
        unfold L2.start
        rw [List.getElem?_append_left (by rw [List.length_map]; exact hv)]
        exact hs
      rw [this] at h1
      cases h1
      unfold maskA
      rw [if_pos ⟨hio, hi⟩]
      exact h2
    · rw [if_neg hio]
      unfold maskA
      rw [if_neg fun z => hio z.1]
      rfl
  · unfold mask at hi
    rw [List.length_map, List.length_range] at hi
    unfold maskA
    rw [if_neg (by omega)]
  · unfold maskA at ha ⊢
    split at ha
    · split
      · exact r.dj i j a hij ha
      · simp
    · cases ha
theorem Ext.masked {F0 H0 : Hp} {As0 : Nat → List Addr} {np : Nat} (x : Ext F0 H0 As0 F H As) : Ext F0 H0 As0 F H (maskA io np As) := ⟨x.ff, x.fn, x.hh, fun a z => x.oo a (onn_maskA z)⟩
end
theorem fn_ofG {P : Program} {w : World} {K : PySem.W.Frag} {mg : Str → Option Value} {base : Heap} {k : Nat} {f : Addr} {x qual : Str} {params : Arguments} {body : List Stmt} {scope : Scope} {dvs : List V} {kws : List (Str × V)} {fd : FuncData} {N ps : List Str} {io : List Nat} {g : Sv}
    (Fd : FunD K x qual params body scope dvs kws f fd) (S : FnScope N ps scope) (hN : ps.length ≤ N.length)
    (hb : ∀ (cdv : Value) (A : Around) (outer : List Env) (s : Shared) (H : Hp) (E : XK), Ctx (cxOf (L2.CX P w) P w K mg base N qual scope f cdv A outer s H E) (fun c d _ H' => E c d H') k →
      DSs (cxOf (L2.CX P w) P w K mg base N qual scope f cdv A outer s H E) (fun c d _ H' => E c d H') io body g) : FnG P w K mg base (k + 1) f fd ps (gDef io ps.length N.length g) := by
  obtain ⟨oc, od, dV, kV, doc, pm, an, cdv, ct, osl, rfl, lk, hcd, _, _⟩ := Fd.ex
  refine ⟨fun A outer s H args us vs Q E hr hgd e0 hbd r hsp => ?_⟩
  obtain ⟨hl, F, e, As, r0, hG⟩ := hsp
  have KX : K.In s.heap := e0.mod.kin.keeps fun b o q => (e0.bs b o q).1
  have lim : s.heap.NoLimit := e0.mod.nolimit.keeps fun b o q => (e0.bs b o q).1
  refine codeAny_call_function hr.depth (KX _ _ lk) rfl S.co S.gen rfl (PySem.W.codeRec_of KX hcd) (hbd _ _ _ _ ?_)
  refine wpAny_newFunctionEnv_cells S.kind (fun y hy => (S.par y.1 (List.of_mem_zip (show (y.1, y.2) ∈ ps.zip us from hy)).1).imp id fun q => ⟨q, PySem.W.cellsFrom_some _ _ _ (.inl q)⟩) fun env he s1 xx => ?_
  subst he
  refine ⟨lim.keeps xx.toInCall.keep, codeAny_func ?_⟩
  have I := inv_start (CX := L2.CX P w) (E := E) S hr.hd e0 hl r xx
  have C : Ctx (cxOf (L2.CX P w) P w K mg base N qual scope f cdv A outer s H E) (fun c d _ H' => E c d H') k := ⟨hr.deeper _, hgd, takes_of rfl rfl rfl rfl, rfl⟩
  have run := (hb cdv A outer s H E C).run [] s1 (L2.start N vs) H { nx := fun _ H' => Q .non H', rt := Q } I ⟨F, _, As, r0.atEntry hl hN, ?_⟩
  · refine wpAny_mono run (fun fl s' hs => ?_) fun e s' hs => hs
    match fl, hs with
    | .ret u, ⟨v, σ', H', J, rv, q⟩ => exact ⟨v, H', J.os, J.bare, J.base, J.hok, rv, q⟩
    | .next, ⟨σ', H', J, q⟩ => exact ⟨V.non, H', J.os, J.bare, J.base, J.hok, rfl, q⟩
    | .brk, ⟨_, _, _, q⟩ => exact q.elim
    | .cont, ⟨_, _, _, q⟩ => exact q.elim
  · unfold gDef at hG
    have hl2 : vs.length = ps.length := hl
    cases hr2 : g (e ++ List.replicate (N.length - ps.length) .un) with
    | nx e' =>
      rw [hr2] at hG
      exact fun F' H' As' σ' x r1 k => hG .non F' H' (maskA io ps.length As') [] x.masked (r1.masked hl2 hN k) ⟨rfl, .non⟩ Fresh.nil
    | rt y e' =>
      rw [hr2] at hG
      exact fun v F' H' As' σ' A' x r1 k o fr => hG v F' H' (maskA io ps.length As') A' x.masked (r1.masked hl2 hN k) o ⟨fr.new, fun a ha z => fr.off a ha (onn_maskA z)⟩
    | exc c fs e' =>
      rw [hr2] at hG
      exact fun cls dx F' H' As' σ' x r1 k z => hG cls dx F' H' (maskA io ps.length As') x.masked (r1.masked hl2 hN k) z
    | bk e' => rw [hr2] at hG; exact hG.elim
    | ct e' => rw [hr2] at hG; exact hG.elim
    | stuck => rw [hr2] at hG; exact hG.elim
end VS


set_option Elab.async false
set_option linter.all false
set_option maxRecDepth 100000
/-! VS9: the law's end. -/
namespace VS
open PySem PySem.Spec PyProof.Rows L2
theorem den_script {K : KW} {F : Hp} {ns : List Int} : DenAll K F (ns.map V.int) (ns.map PyData.int) := by
  induction ns with
  | nil => exact .nil
  | cons n ns ih => exact .cons (.int n) ih
/-- the script's abstract heap: it alone, known to the object -/
def hS (a : Addr) (vs : List Value) (ns : List Int) : Hp := fun b => if b = a then some (.frz { cls := .type "list", data := .seq vs.toArray } (.lst (ns.map V.int))) else none
theorem law_G {P : Program} {w : World} {K : PySem.W.Frag} {mg mb : Str → Option Value} {k : Nat} {fa a : Addr} {fd : FuncData} {x : Str} {G : Ev} {s₁ : Shared} {vs : List Value} {ns : List Int}
    (KX : K.In s₁.heap) (hns : s₁.heap.Ns mainGlobals mg) (hb : s₁.heap.Ns builtinsNs mb) (hbb : ∀ y : Str, y ≠ "__name__" → mb y = bootBuiltins y) (hlim : s₁.heap.NoLimit)
    (hg : s₁.gens = #[]) (ha : s₁.heap.get? a = some { cls := .type "list", data := .seq vs.toArray }) (hi : IntsAre vs ns) (hl : ns.length ≤ sizeLine)
    (hr : Room k callerA) (Fn : ∀ base : Heap, K.In base → base.Ns mainGlobals mg → FnG P w K mg base k fa fd [x] G)
    (hbd : ∀ (s : Shared) (u : Value), BindsTo s fd ⟨[u], []⟩ [(x, u)]) (hG : ∃ out, G [.fz (.list (ns.map .int))] = .ok (.fz (.bool true), out)) :
    codeAny (model P w) callerA (.call (.ref fa) ⟨[.ref a], []⟩) (fun r s' => (r = .ok (.ret (.bool true))) ∧ OldK s₁.heap s'.heap ∧ (s'.os = s₁.os) ∧ AllBare s'.gens) s₁ := by
  have rv := vals_ints hi
  have run : ∀ H : Hp, (∀ b, H b = none ∨ (b = a ∧ K.lookup a = none ∧ ∃ o xs, H b = some (.frz o (.lst xs)))) → RdK K H a (ns.map V.int) → HOk P w H s₁.heap →
      codeAny (model P w) callerA (.call (.ref fa) ⟨[.ref a], []⟩) (fun r s' => (r = .ok (.ret (.bool true))) ∧ OldK s₁.heap s'.heap ∧ (s'.os = s₁.os) ∧ AllBare s'.gens) s₁ := by
    intro H hO hS hok
    have only : ∀ b u, H b = some u → b = a ∧ K.lookup a = none := fun b u q => by
      rcases hO b with z | ⟨z, z2, _⟩
      · rw [q] at z; cases z
      · exact ⟨z, z2⟩
    have away : ∀ {b : Addr} {o : Obj}, s₁.heap.get? b = some o → (b = a → False) → H b = none := fun {b o} _ n => by
      cases q : H b with
      | none => rfl
      | some u => exact (n (only b u q).1).elim
    have dct : ∀ {b : Addr} {m : Str → Option Value}, s₁.heap.Ns b m → (hidT s₁.heap H).Ns b m := fun {b m} h => by
      obtain ⟨o, es, ep, q, d, r⟩ := h
      refine ⟨o, es, ep, hidT_get q (away q fun z => ?_), d, r⟩
      rw [z, ha] at q
      cases q
      cases (show Data.seq vs.toArray _ = Data.dict es ep from d)
    have kin : K.In (hidT s₁.heap H) := fun b o q => hidT_get (KX b o q) (by
      cases z : H b with
      | none => rfl
      | some u =>
        obtain ⟨z1, z2⟩ := only b u z
        rw [z1, z2] at q; cases q)
    have md : Mod K mg (hidT s₁.heap H) := ⟨kin, dct hns, ⟨mb, dct hb, hbb⟩, hlim.elim fun mc h => ⟨mc, dct h.1, h.2⟩⟩
    have e0 : Env0 P w K mg (hidT s₁.heap H) callerA [] s₁ H := ⟨rfl, md, fun _ _ q => of_hidT q, Nat.le_of_eq (hidT_size _ _), trivial, fun b z => absurd (show b ∈ ([] : List Addr) from z) (by simp), hok, .of_eq hg⟩
    obtain ⟨out, hG⟩ := hG
    have kd : ∀ b o, H b = some o → Kd o := fun b o q => by
      rcases hO b with z | ⟨_, _, o', xs, z⟩
      · rw [q] at z; cases z
      · rw [q] at z; cases z; exact .inr (.inr (.inl ⟨_, _, rfl⟩))
    have r0 : Rel ⟨K, w⟩ H [.fz (.list (ns.map .int))] noA ([V.ref a].map some) H :=
      Rel.args (K := ⟨K, w⟩) (ds := [.list (ns.map .int)]) (vs := [.ref a]) (e := []) (As := noA) (σ := []) ⟨Sub.refl _, rfl, fun i y h => by simp at h, fun _ _ => rfl, fun _ _ _ _ z => (nomatch z), kd⟩ (.cons (.lst hS den_script) .nil)
    refine codeAny_mono ((Fn _ kin (dct hns)).run callerA [] s₁ H ⟨[.ref a], []⟩ [.ref a] [.ref a] (fun v _ => v = .bl true) (fun _ _ _ => False) hr rfl e0 (hbd s₁ (.ref a)) (.cons rfl .nil) ⟨rfl, H, _, noA, r0, ?_⟩) fun r s' h => ?_
    · show PR _ _ _ _ _ _ _ (G [.fz (.list (ns.map .int))])
      rw [hG]
      intro v F' H' As' A _ _ o _
      exact den_bl o.2
    · match r, h with
      | .error e, h =>
        obtain ⟨_, _, _, _, _, _, _, _, _, _, _, _, z⟩ := h
        exact z.elim
      | .ok .next, h => exact h.elim
      | .ok .brk, h => exact h.elim
      | .ok .cont, h => exact h.elim
      | .ok (.ret u), h =>
        obtain ⟨v, H', os, bare, un, hok', r', q⟩ := h
        cases (show v = .bl true from q)
        obtain rfl : u = Value.bool true := r'
        refine ⟨rfl, OldK.of_keep fun b o e => ?_, os, bare⟩
        rcases hO b with z | ⟨_, _, ob, xs, z⟩
        · exact un.keep b o e z (fun y => absurd (show b ∈ ([] : List Addr) from y) (by simp)) (by simp)
        · obtain ⟨e1, _⟩ := hok b _ z
          obtain ⟨e2, _⟩ := hok' b _ (un.frzs b ob _ z)
          rw [e] at e1
          cases e1
          exact e2
  have hz : (ns.map V.int).length ≤ sizeLine := by rw [List.length_map]; exact hl
  cases hk : K.lookup a with
  | some o =>
    have e := KX a o hk
    rw [ha] at e
    cases e
    exact run (fun _ => none) (fun _ => .inl rfl) (.inr ⟨vs, _, hk, hz, rv⟩) fun b u z => nomatch z
  | none =>
    refine run (hS a vs ns) (fun b => ?_) (.inl (.inr ⟨_, if_pos rfl⟩)) fun b u z => ?_
    · by_cases h : b = a
      · exact .inr ⟨h, hk, _, _, if_pos h⟩
      · exact .inl (if_neg h)
    · by_cases h : b = a
      · subst h
        rw [show hS b vs ns b = _ from if_pos rfl] at z
        cases z
        exact ⟨ha, hz, vs, _, rv, ha⟩
      · rw [show hS a vs ns b = _ from if_neg h] at z
        cases z
/-- the row's end: the law's mirror answers True -/
theorem walk_G {l : PySem.W.OpenLaw} {n k : Nat} {q : Program} {loose : List Str} {XP : (Str → Option Value) → Heap → Prop} {YP : World → Heap → Prop} {d : DefRec} {x : Str} {G : Ev}
    (hn : l.most = some n) (hn2 : n ≤ sizeLine) (hdf : d.params.defaults = []) (hr : Room k callerA)
    (hF : ∀ (w : World) (mg : Str → Option Value) (fa : Addr) (h : Heap), YP w h → h.Ns mainGlobals mg → mg d.name = some (.ref fa) →
      ∃ (K : PySem.W.Frag) (fd : FuncData), K.In h ∧ (∀ (s : Shared) (u : Value), BindsTo s fd ⟨[u], []⟩ [(x, u)]) ∧ ∀ base : Heap, K.In base → base.Ns mainGlobals mg → FnG l.prog w K mg base k fa fd [x] G)
    (hG : ∀ ns : List Int, ns.length ≤ n → ∃ out, G [.fz (.list (ns.map .int))] = .ok (.fz (.bool true), out)) : PySem.W.WalkO q loose XP YP l.row.toRowW d [] (fun f vs => PySem.call f vs) := by
  refine Att.attach_call hn hdf fun w s₀ s₁ mg mb fa o pm cd doc a vs ns G0 Y ho hd hcd hmg hobj hints hlen hg => ?_
  obtain ⟨K, fd, KX, hb, Fn⟩ := hF w mg fa _ Y G0.T.g hmg
  exact law_G KX G0.T.g G0.T.b G0.T.builtins G0.T.nolimit hg hobj hints (Nat.le_trans hlen hn2) hr Fn hb (hG ns hlen)
end VS


set_option Elab.async false
set_option linter.all false
set_option maxRecDepth 100000
set_option maxHeartbeats 1000000
/-! VS10: exception classes whose __init__ says super().__init__(text) and stores its parameters. -/
namespace VS
open PySem PySem.Spec PyProof.Rows L2
open PySem.W (ksFn ksEnv kxs_mw)
/-- what the written part holds of such a class and its __init__ -/
structure ExI (K : PySem.W.Frag) (file qual : Str) (params : Arguments) (body : List Stmt) (scope : Scope) (C fI : Addr) (fd : FuncData) : Prop where
  oex : OexC K C
  ini : PySem.W.findIn K (.ref C) "__init__" = some (some (.ref fI))
  tI : PySem.W.typeIn K (.ref fI) = some (.type "function")
  fn : ∃ (oc : Value) (od : Option Addr) (kV doc pm : Value) (an : Option Addr) (cda : Addr) (ct : Value) (osl : Array (Option Value)) (ccl : Value) (cdd : Option Addr) (vs : Array Value) (ccs : Array (Option Value)) (tf : Tok) (cc : Addr) (cl : Value) (cld : Option Addr) (csl : Array (Option Value)),
    fd = ksFn "__init__" qual params body scope .none kV doc pm an (.ref cda) ct cc ∧ K.lookup fI = some ⟨oc, od, .func fd, osl⟩ ∧ PySem.W.codeIn K (.ref cda) qual = true ∧ K.lookup cda = some ⟨ccl, cdd, .fields vs, ccs⟩ ∧ vs[2]? = some (.str file tf) ∧
      K.lookup cc = some ⟨cl, cld, .cell (some (.ref C)), csl⟩
  sup : PySem.W.ks_superIn K C C "__init__" = some (some (.builtin "ValueError.__init__"))
  subVE : PySem.W.subIn K (.ref C) (.type "ValueError") = some true
  third : PySem.W.nsIn K cStatics "thirdparty.any" = some none
  mroC : PySem.W.mroIn K C (.ref C) = some true
/-- the context of its body -/
def cxI (P : Program) (w : World) (K : PySem.W.Frag) (mg : Str → Option Value) (base : Heap) (N : List Str) (qual : Str) (scope : Scope) (f cda cc : Addr) (A : Around) (outer : List Env) (s : Shared) (H : Hp) : Cx where
  prog := P
  w := w
  K := K
  mg := mg
  base := base
  A := A.deeper (ksEnv qual scope s.heap.objs.size f (.ref cda) cc)
  N := N
  s_0 := s
  H_0 := H
  env := ksEnv qual scope s.heap.objs.size f (.ref cda) cc
  outer := outer
  stack := ksEnv qual scope s.heap.objs.size f (.ref cda) cc :: outer
  ex := []
  calm := true
  fn := fun _ => false
  pn := []
  xe := fun _ _ => False
theorem lk_none {y : Str} : ∀ {ps : List Str} {us : List Value}, y ∉ ps → (ps.zip us).reverse.lookup y = none
  | [], _, _ => by simp
  | _ :: _, [], _ => by simp
  | p :: ps, u :: us, h => by
    have h1 : y ≠ p := fun e => h (by rw [e]; exact List.mem_cons_self)
    have h2 : (y == p) = false := by simpa using h1
    rw [List.zip_cons_cons, List.reverse_cons, List.lookup_append, lk_none fun q => h (List.mem_cons_of_mem _ q)]
    simp [List.lookup, h2]
theorem lk_zip {y : Str} {u : Value} : ∀ {ps : List Str} {us : List Value} {i : Nat}, ps.Nodup → ps[i]? = some y → us[i]? = some u → (ps.zip us).reverse.lookup y = some u
  | [], _, _, _, h, _ => by simp at h
  | _ :: _, [], _, _, _, h => by simp at h
  | p :: ps, v :: us, 0, nd, h1, h2 => by
    simp only [List.getElem?_cons_zero, Option.some.injEq] at h1 h2
    subst h1 h2
    rw [List.zip_cons_cons, List.reverse_cons, List.lookup_append, lk_none (List.nodup_cons.mp nd).1]
    simp [List.lookup]
  | p :: ps, v :: us, i + 1, nd, h1, h2 => by
    rw [List.zip_cons_cons, List.reverse_cons, List.lookup_append, lk_zip (i := i) (List.nodup_cons.mp nd).2 (by simpa using h1) (by simpa using h2)]
    rfl
theorem mro_of {K : PySem.W.Frag} {C : Addr} (T : OexC K C) : ∃ cd : ClassData, PySem.W.clsIn K C = some cd := by
  obtain ⟨nm, q, N, bs, bm, sn, sub, ab, col, dd, k0, k1, k2, k3, k5, hC, hbm⟩ := T.cls
  unfold PySem.W.clsIn
  rw [hC]
  exact ⟨_, rfl⟩
section
variable {P : Program} {w : World} {K : PySem.W.Frag} {mg : Str → Option Value} {base : Heap}
theorem inv_init {ps : List Str} {qual : Str} {scope : Scope} {f cda cc C : Addr} {A : Around} {outer : List Env} {s : Shared} {H : Hp} {us : List Value} {vs : List V} {cl : Value} {cld : Option Addr} {csl : Array (Option Value)} {h₁ : Heap} {tk : Nat}
    (hcc : K.lookup cc = some ⟨cl, cld, .cell (some (.ref C)), csl⟩) (hk : scope.kind = .function) (nd : ps.Nodup) (hp : ∀ x ∈ ps, scope.names.lookup x = some .local) (hfree : ∀ x, scope.names.lookup x = some .cell ∨ scope.names.lookup x = some .free → x = "__class__")
    (hd : A.handled = none) (e0 : Env0 P w K mg base A outer s H) (hl : vs.length = ps.length) (r : Vals vs us) (hns : h₁.Ns s.heap.objs.size fun x => (ps.zip us).reverse.lookup x) (hkp : ∀ b o, s.heap.get? b = some o → h₁.get? b = some o) :
    Inv (cxI P w K mg base ps qual scope f cda cc A outer s H) [] (vs.map some) H { s with heap := h₁, toks := tk } := by
  have KX : K.In s.heap := e0.mod.kin.keeps fun b o q => (e0.bs b o q).1
  have noE : ∀ b : Addr, b ∉ (cxI P w K mg base ps qual scope f cda cc A outer s H).ex := fun b z => absurd (show b ∈ ([] : List Addr) from z) (by simp)
  have cells : ∀ {y : Str} {c : Addr}, (cxI P w K mg base ps qual scope f cda cc A outer s H).env.cells.lookup y = some c → y = "__class__" ∧ c = cc := fun {y c} q => by
    have q : ([("__class__", cc)] : List (Str × Addr)).lookup y = some c := q
    by_cases e : y = "__class__"
    · subst e
      have z : ([("__class__", cc)] : List (Str × Addr)).lookup ("__class__" : Str) = some cc := by simp [List.lookup]
      rw [z] at q
      exact ⟨rfl, (Option.some.inj q).symm⟩
    · have e2 : (y == ("__class__" : Str)) = false := by simpa using e
      simp [List.lookup, e2] at q
  refine ⟨⟨e0.mod, hk, rfl, rfl, Nat.le_refl _, fun x y c h1 h2 => (cells h1).1.trans (cells h2).1.symm, fun x hx => ?_, fun x c q _ => absurd (show (false : Bool) = true from q) (by simp), fun _ => hd, Around.frames_deeper e0.frames, .inr ⟨rfl, rfl⟩, fun b z => absurd z (noE b), e0.bs, e0.bsz, fun b _ _ => noE b, fun b z => absurd z (noE b), e0.funs, e0.frf⟩,
    rfl, e0.bare, Un.kept hkp, ⟨_, hns, fun i y v h1 h2 h3 => ?_⟩, fun x c q => ?_, e0.hok.fresh (Nat.le_refl _), fun x c q => ?_, fun p hp => absurd (show p ∈ ([] : List (Addr × Obj)) from hp) (by simp), e0.hok.kept hkp, ?_⟩
  · have e : x = "__class__" := hfree x hx
    subst e
    exact ⟨cc, by show ([("__class__", cc)] : List (Str × Addr)).lookup ("__class__" : Str) = some cc; simp [List.lookup]⟩
  · rw [List.getElem?_map] at h2
    obtain ⟨v', h4, h5⟩ := Option.map_eq_some_iff.mp h2
    cases h5
    obtain ⟨u, hu, rv⟩ := r.get h4
    exact ⟨u, rv, .inl ⟨hp y (List.mem_of_getElem? h1), lk_zip nd h1 hu⟩⟩
  · obtain ⟨_, rfl⟩ := cells q
    exact ⟨_, ⟨_, hkp _ _ (KX _ _ hcc), rfl⟩⟩
  · obtain ⟨_, rfl⟩ := cells q
    exact (e0.bs _ _ (e0.mod.kin _ _ hcc)).2
  · show (vs.map some).length = ps.length
    rw [List.length_map, hl]
end
theorem fn_init {P : Program} {w : World} {K : PySem.W.Frag} {mg : Str → Option Value} {base : Heap} {CX : CXT} {k : Nat} {file qual : Str} {params : Arguments} {scope : Scope} {C fI : Addr} {fd : FuncData} {ps : List Str} {sp : Sp} {t : TS} {ar : Arg} {msg : Str} {kk : Nat} {p0 p1 p2 p3 p4 p5 : Pos} {rest : List Stmt}
    (X0 : ExI K file qual params (.Expr (.Call (.Attribute (.Call (.Name "super" p0) [] [] p1) "__init__" p2) [.Constant (.str msg) kk p3] [] p4) p5 :: rest) scope C fI fd)
    (hfile : ((P.main.file : Str) == file) = true) (htop : (P.main.scope.names.lookup ("super" : Str)).isSome = false) (hmg : mg "super" = none)
    (hk : scope.kind = .function) (hco : scope.isCoroutine = false) (hgen : scope.isGenerator = false) (nd : ps.Nodup) (hp : ∀ x ∈ ps, scope.names.lookup x = some .local) (hnc : ∀ x ∈ scope.names, x.2 ≠ .cell) (hfree : ∀ x, scope.names.lookup x = some .cell ∨ scope.names.lookup x = some .free → x = "__class__")
    (hks : scope.names.lookup ("super" : Str) = some .globalImplicit) (hkc : scope.names.lookup ("__class__" : Str) = some .free) (hpa : (params.posonlyargs ++ params.args).head? = some ar) (har : ps[0]? = some ar.arg)
    (hint : ∀ (L f cda cc : Addr), interactive (ksEnv qual scope L f (.ref cda) cc) = false)
    (hev : ∀ (L f cda cc : Addr), ∃ pl : Sem Bool, eval (.Call (.Attribute (.Call (.Name "super" p0) [] [] p1) "__init__" p2) [.Constant (.str msg) kk p3] [] p4) (ksEnv qual scope L f (.ref cda) cc) = (do
      let ov ← attributeBase (.Call (.Name "super" p0) [] [] p1) "__init__" (ksEnv qual scope L f (.ref cda) cc) (eval (.Call (.Name "super" p0) [] [] p1) (ksEnv qual scope L f (.ref cda) cc))
      standAt p2.atName
      let (f', first) ← holding [ov] (getMethod ov "__init__" pl)
      callWith p4 f' first (backTo p4 (starEach [.Constant (.str msg) kk p3] (ksEnv qual scope L f (.ref cda) cc))) []))
    (len : ∀ vs H Q E, sp vs H Q E → vs.length = ps.length)
    (hsp : ∀ vs H Q E, sp vs H Q E → ∃ a ys, vs = V.ref a :: ys ∧ H a = some (exo a C none) ∧ t { nx := fun _ H' => Q .non H', rt := fun v H' => Q v H' } (vs.map some) H)
    (hrest : ∀ (f cda cc : Addr) (A : Around) (outer : List Env) (s : Shared) (H : Hp), PSs (cxI P w K mg base ps qual scope f cda cc A outer s H) rest t) : FnOk P w K mg base CX (k + 1) fI fd ps sp := by
  obtain ⟨oc, od, kV, doc, pm, an, cda, ct, osl, ccl, cdd, cvs, ccs, tf, cc, cl, cld, csl, rfl, lk, hcd, hcda, hcvs, hcc⟩ := X0.fn
  refine ⟨len, fun A outer s H args us vs Q E hr e0 hbd r hspv => ?_⟩
  have hl := len _ _ _ _ hspv
  obtain ⟨a, ys, hvs, ha, ht⟩ := hsp _ _ _ _ hspv
  have KX : K.In s.heap := e0.mod.kin.keeps fun b o q => (e0.bs b o q).1
  have lim : s.heap.NoLimit := e0.mod.nolimit.keeps fun b o q => (e0.bs b o q).1
  refine PySem.ks_codeAny_call_defAt (fd := ksFn "__init__" qual params _ scope .none kV doc pm an (.ref cda) ct cc) (binds := ps.zip us) hr.depth (KX _ _ lk) rfl lim (PySem.W.codeRec_of KX hcd) rfl hbd hnc (fun y hy => hp y.1 (List.of_mem_zip (show (y.1, y.2) ∈ ps.zip us from hy)).1) (fun h₁ hns hkp => ?_) hco hgen hk
  generalize hs1 : ({ s with heap := h₁, toks := s.toks + (ps.zip us).length } : Shared) = s1
  have I : Inv (cxI P w K mg base ps qual scope fI cda cc A outer s H) [] (vs.map some) H s1 := by
    rw [← hs1]
    exact inv_init hcc hk nd hp hfree hr.hd e0 hl r hns hkp
  show PySem.wpAt (model P w) (A.deeper (ksEnv qual scope s.heap.objs.size fI (.ref cda) cc)) (.func _ (ksEnv qual scope s.heap.objs.size fI (.ref cda) cc)) (execs _ (ksEnv qual scope s.heap.objs.size fI (.ref cda) cc)) _ _ s1
  have K1 : K.In s1.heap := I.kIn
  obtain ⟨t1, ho⟩ := exo_at I.hok ha
  obtain ⟨cd, hcl⟩ := mro_of X0.oex
  obtain ⟨nm, q, N, bs, bm, sn, sub, ab, col, dd, k0, k1, k2, k3, k5, hC, hbm⟩ := X0.oex.cls
  have hcl2 : cd.mro = .ref C :: bm := by
    unfold PySem.W.clsIn at hcl
    rw [hC] at hcl
    cases hcl
    rfl
  have hcl3 : ∃ oD, s1.heap.get? C = some oD ∧ oD.data = .cls cd := by
    unfold PySem.W.clsIn at hcl
    rw [hC] at hcl
    cases hcl
    exact ⟨_, K1 _ _ hC, rfl⟩
  obtain ⟨oD, hD1, hD2⟩ := hcl3
  obtain ⟨pl, hpl⟩ := hev s.heap.objs.size fI cda cc
  refine PySem.ks_wpAt_execs_cons (PySem.ks_wpAt_Expr_any (hi := hint _ _ _ _) (PySem.ks_wpAt_MethodCall (pl := pl) (he := hpl) (PySem.ks_wpAt_super_base (env := ksEnv qual scope s.heap.objs.size fI (.ref cda) cc) hks hkc (by decide) rfl (K1 _ _ lk) rfl hpa rfl (K1 _ _ hcda) rfl hcvs hfile htop ?_)))
  obtain ⟨mb, hmb, hbb⟩ := I.mod.blt
  refine PySem.W.ks_loadName_global hk hks (Calls.loadGlobal_builtin (env := ksEnv qual scope s.heap.objs.size fI (.ref cda) cc) (I.mod.glob.keeps I.bk) hmg (hmb.keeps I.bk) ((hbb "super" (by decide)).trans (by decide +kernel)) ⟨rfl, ?_⟩)
  refine wpAny_loadName_free hk hkc rfl ⟨_, K1 _ _ hcc, rfl⟩ ?_
  have hself : (ps.zip us).reverse.lookup ar.arg = some (.ref a) := by
    subst hvs
    cases r with
    | cons r1 r2 =>
      cases r1
      exact lk_zip (i := 0) nd har rfl
  have hnsL : s1.heap.Ns (ksEnv qual scope s.heap.objs.size fI (.ref cda) cc).locals fun x => (ps.zip us).reverse.lookup x := by
    rw [← hs1]
    exact hns
  refine wpAny_loadName_local hk (hp _ (List.mem_of_getElem? har)) hnsL hself ?_
  obtain ⟨hh, g, d, tk, os⟩ := s1
  refine PySem.ks_wpAny_isType_cls hD1 hD2 ⟨rfl, ?_⟩
  refine PySem.ks_wpAny_call_super hD1 hD2 ho rfl (fun c e => by cases e) (PySem.W.looks_mroIn K1 X0.mroC) fun h2 hso k2 => ?_
  have I2 : Inv (cxI P w K mg base ps qual scope fI cda cc A outer s H) [] (vs.map some) H ⟨h2, g, d, tk, os⟩ := I.kept (t' := tk) k2
  have K2 : K.In h2 := I2.kIn
  obtain ⟨t2, ho2⟩ := exo_at I2.hok ha
  have inst : PySem.W.InstAt h2 a { cls := .ref C, dict := none, data := .fields #[.ref t2, .none, .none, .none, .bool false, .none] } C none := ⟨ho2, rfl, rfl, trivial⟩
  have hsup : PySem.W.alongIn K "__init__" ((cd.mro.dropWhile (· != .ref C)).drop 1) = some (some (.builtin "ValueError.__init__")) := by
    have z := X0.sup
    unfold PySem.W.ks_superIn at z
    rw [hcl] at z
    exact z
  refine PySem.W.kxs_getMethod PySem.W.kxs_ValueError hso (PySem.W.looks_opaque K2 X0.third) (l₀ := cd.mro) (fun A Q E s k q => wpAny_bind ((PySem.W.looks_clsIn K2 hcl) A _ E s k (wpAny_pure q))) rfl K2 hsup (inst.type.andThen (PySem.W.looks_subIn K2 X0.subVE)) (PySem.W.ks_ne K2 inst hcl) (by decide) ?_
  have I3 : Inv (cxI P w K mg base ps qual scope fI cda cc A outer s H) [] (vs.map some) H ⟨h2.push (kxs_mw "ValueError.__init__" a), g, d, tk + 1, os⟩ := I2.kept (t' := tk + 1) fun b o q => Heap.get?_push_of_some _ q
  have hu : (h2.push (kxs_mw "ValueError.__init__" a)).get? h2.objs.size = some (kxs_mw "ValueError.__init__" a) := Heap.get?_push_size _ rfl
  refine PySem.W.kxs_callWith (i := "ValueError.__init__") (x := a) rfl (Calls.evalArgs_plain (Calls.spliced_cons (Calls.Constant_str (x := msg) (k := kk) (pos := p3) (env := ksEnv qual scope s.heap.objs.size fI (.ref cda) cc) (Calls.spliced_nil ⟨hu, ?_⟩))))
  have I4 : Inv (cxI P w K mg base ps qual scope fI cda cc A outer s H) [] (vs.map some) H ⟨h2.push (kxs_mw "ValueError.__init__" a), g, d, tk + 1 + 1, os⟩ := I3.tok _
  obtain ⟨t4, ho4⟩ := exo_at I4.hok ha
  have FB := PySem.F.excBase_ValueError
  refine wpAny_call (codeAny_of_tree ?_)
  show wpAny _ (A.deeper (ksEnv qual scope s.heap.objs.size fI (.ref cda) cc)).in1 (callAny (.ref h2.objs.size) ⟨[Value.str msg _], []⟩) _ _ _
  simp only [callAny]
  refine wpAny_bind (wpAny_load hu ?_)
  simp only [kxs_mw, show (Value.type "method-wrapper" == Value.type "method" || Value.type "method-wrapper" == Value.type "builtin_function_or_method" || Value.type "method-wrapper" == Value.type "method-wrapper") = true by decide, if_true]
  refine PySem.W.KFB.if_so (by decide) ?_
  refine wpAny_bind (PySem.W.check_bound_init FB.toExcCallFacts (I4.kIn _ _ hC) ho4 rfl ?_)
  refine wpAny_bind (wpAny_pure (wpAny_pure ?_))
  refine ⟨PySem.plainId_quiet FB.init.plain _, codeAny_builtin FB.initEntry ?_⟩
  refine PySem.W.exc_init_tree (cls := .ref C) (t0 := t4) (dv := none) (c2 := .none) (c3 := .none) (b4 := .bool false) ho4 (by show 1 ≤ sizeLine; rw [sizeLine_eq]; decide) fun h' kh hx _ => ?_
  have J := I4.write (t' := tk + 1 + 1) (x := a) (e := a) (o := exo a C none) (by rw [ha]; exact True.intro) (.inl rfl) kh ⟨_, hx⟩ (exo_ok hx)
  have eu : upd H a (exo a C none) = H := by
    funext b
    by_cases hb : b = a
    · rw [hb, upd_same, ha]
    · rw [upd_ne hb]
  rw [eu] at J
  refine wpAt_of_wpAny (wpAny_mono ((hrest fI cda cc A outer s H).run [] _ (vs.map some) H _ J ht) (fun fl s' hs => ?_) fun _ _ z => z.elim)
  match fl, hs with
  | .ret u, ⟨v, σ', H', J, rv, q⟩ => exact ⟨v, H', J.os, J.bare, J.base, J.hok, rv, q⟩
  | .next, ⟨σ', H', J, q⟩ => exact ⟨V.non, H', J.os, J.bare, J.base, J.hok, rfl, q⟩
  | .brk, ⟨_, _, _, q⟩ => exact q.elim
  | .cont, ⟨_, _, _, q⟩ => exact q.elim
end VS


set_option Elab.async false
set_option linter.all false
set_option maxRecDepth 100000
/-! VS11: raise, try/except. -/
namespace VS
open PySem PySem.Spec PyProof.Rows L2
/-! ### raise C(e, ..) -/
def sRaise (c : Str) (np : Nat) (fs : List D → List (Str × D)) (fa : Av) : Sv := fun e => (fa e).out fun p => if p.1.length = np then .exc c (fs p.1) p.2 else .stuck
/-- what __init__ promises of a new exception at a: the fields fs of the arguments -/
def spI (K : KW) (C : Addr) (np : Nat) (fs : List D → List (Str × D)) : Sp := fun vs H Q _ => ∃ a us ds F, vs = V.ref a :: us ∧ us.length = np ∧ DenAll K F us ds ∧ H a = some (exo a C none) ∧ ∀ H1 d ws, (∀ b, b ≠ a → b ≠ d → H1 b = H b) → H d = none → d ≠ a → DenAll K F ws ((fs ds).map (·.2)) → H1 a = some (exo a C (some d)) → H1 d = some (exd d (((fs ds).map (·.1)).zip ws)) → Q .non H1
structure RaiseOk (P : Program) (w : World) (K : PySem.W.Frag) (mg : Str → Option Value) (base : Heap) (x : Str) (k np : Nat) (fs : List D → List (Str × D)) : Prop where
  ex : ∃ (fI : Addr) (fd : FuncData) (ps : List Str), OexC K (He.ga K x) ∧ PySem.W.findIn K (.ref (He.ga K x)) "__init__" = some (some (.ref fI)) ∧ PySem.W.typeIn K (.ref fI) = some (.type "function") ∧ mg x = some (.ref (He.ga K x)) ∧ Binds K fd ps [] ∧
    FnOk P w K mg base CX0 k fI fd ps (spI ⟨K, w⟩ (He.ga K x) np fs)
section
variable {X : Cx} {K : KW} {W : WX} {F H F1 H1 : Hp} {As As1 : Nat → List Addr} {σ : Sto} {io : List Nat}
theorem DenAll.sub' {vs : List V} {ds : List D} (s : Sub F H) (h : DenAll K F vs ds) : DenAll K H vs ds := DenAll.sub s ds vs h
theorem excAt_of {C : Addr} {c : Str} {fs : List (Str × D)} {d : Addr} {ws : List V} (hc : C = He.ga K.k c) (h1 : H d = some (.xd ((fs.map (·.1)).zip ws))) (h2 : DenAll K F ws (fs.map (·.2))) : ExcAt K F H (.ref C) (some d) c fs := by
  subst hc
  refine ⟨rfl, ?_⟩
  cases fs with
  | nil => trivial
  | cons p r => exact ⟨d, ws, rfl, h1, h2⟩
theorem ds_raise {k k' np : Nat} {x : Str} {fs : List D → List (Str × D)} {p pos pos' : Pos} {e : Expr} {es : List Expr} {fa : Av} (C : Ctx X W k') (R : RaiseOk X.prog X.w X.K X.mg X.base x k np fs) (ha : DA X W (e :: es) fa) (hn : np ≤ 1000 := by decide) (hk : k + 1 ≤ k' := by decide) (hg : Gl X x := by rfl)
    (hdb : (x == ("__debug__" : Str)) = false := by decide) (he : starEach (e :: es) X.env = (false, eval e X.env) :: starEach es X.env := by rfl) (hpl : (backTo pos (starEach es X.env)).any (·.1) = false := by rfl) :
    DS X W io (.Raise (some (.Call (.Name x p) (e :: es) [] pos)) none pos') (sRaise x np fs fa) := by
  obtain ⟨fI, fd, ps, T, iC, tI, hm, hb, Fn⟩ := R.ex
  refine ps_weak (ps_raise C.calm C.tk (pmk_oex (dvs := []) (ds := []) T iC tI Fn (C.room.mono hk) hb .nil pass0 hg hm ha hdb he hpl)) fun Dn σ H ⟨F, e, As, r0, h⟩ => ?_
  refine ⟨F, e, As, r0, h.pr fun q eq hq vs F1 H1 As1 x1 r1 d1 => ?_⟩
  by_cases hl : q.1.length = np
  · rw [if_pos hl] at hq
    have lv : vs.length = np := by rw [d1.length, hl]
    refine ⟨by omega, fun a hna => ⟨a, vs, q.1, F1, by rw [List.append_nil], lv, d1, upd_same, fun H2 d ws hoth hd hda hw h1 h2 => ⟨rfl, d, _, h1, h2, ?_, ?_⟩⟩⟩
    · rw [upd_ne hda] at hd
      exact hd
    · rw [upd_ne hda] at hd
      have eH : upd (del H2 a) d (.xd (((fs q.1).map (·.1)).zip ws)) = upd H1 d (.xd (((fs q.1).map (·.1)).zip ws)) := by
        funext b
        by_cases e1 : b = d
        · subst e1; rw [upd_same, upd_same]
        · rw [upd_ne e1, upd_ne e1]
          by_cases e2 : b = a
          · subst e2; rw [del_same, hna]
          · rw [del_ne e2, hoth b e2 e1, upd_ne e2]
      rw [eH]
      have g := New.grow (F := F1) r1.sub (upd_sub (o := .xd (((fs q.1).map (·.1)).zip ws)) hd)
      exact hq _ _ F1 _ As1 σ (x1.trans g.ext) (r1.new g) Keep.refl (excAt_of rfl upd_same hw)
  · rw [if_neg hl] at hq
    exact hq.elim
end
/-! ### __init__ of one field, of two -/
section
variable {P : Program} {w : World} {K : PySem.W.Frag} {mg : Str → Option Value} {base : Heap}
def fs1 (f : Str) : List D → List (Str × D)
  | [d] => [(f, d)]
  | _ => []
def fs2 (f g : Str) : List D → List (Str × D)
  | [d, d'] => [(g, d'), (f, d)]
  | _ => []
theorem spI_len {K : KW} {C : Addr} {np : Nat} {fs : List D → List (Str × D)} {ps : List Str} (hp : ps.length = np + 1) : ∀ vs H Q E, spI K C np fs vs H Q E → vs.length = ps.length := by
  rintro vs H Q E ⟨a, us, ds, F, rfl, hl, _⟩
  rw [List.length_cons, hl, hp]
/-- self.f = name of parameter 1 -/
theorem init1 {w : World} {C : Addr} {f : Str} (T : OexC K C) (hno : PySem.W.findIn K (.ref C) f = some none) (vs : List V) (H : Hp) (Q : VK) (E : XK) (h : spI ⟨K, w⟩ C 1 (fs1 f) vs H Q E) :
    ∃ a ys, vs = V.ref a :: ys ∧ H a = some (exo a C none) ∧ tOst K f (tVar 0) (tVar 1) { nx := fun _ H' => Q .non H', rt := fun v H' => Q v H' } (vs.map some) H := by
  obtain ⟨a, us, ds, F, rfl, hl, hd, ha, k⟩ := h
  match us, ds, hl, hd with
  | [y], [d], _, hd =>
    refine ⟨a, [y], rfl, ha, y, rfl, .ref a, rfl, a, C, rfl, T, hno, .inl ⟨ha, fun dx h1 h2 => ?_⟩⟩
    refine k _ dx [y] (fun b e1 e2 => ?_) h1 h2 hd upd_same ?_
    · rw [upd_ne e1, upd_ne e2]
    · rw [upd_ne h2, upd_same]; rfl
theorem init2 {w : World} {C : Addr} {f g : Str} (T : OexC K C) (hno : PySem.W.findIn K (.ref C) f = some none) (hno2 : PySem.W.findIn K (.ref C) g = some none) (vs : List V) (H : Hp) (Q : VK) (E : XK) (h : spI ⟨K, w⟩ C 2 (fs2 f g) vs H Q E) :
    ∃ a ys, vs = V.ref a :: ys ∧ H a = some (exo a C none) ∧ tSeq (tOst K f (tVar 0) (tVar 1)) (tOst K g (tVar 0) (tVar 2)) { nx := fun _ H' => Q .non H', rt := fun v H' => Q v H' } (vs.map some) H := by
  obtain ⟨a, us, ds, F, rfl, hl, hd, ha, k⟩ := h
  match us, ds, hl, hd with
  | [y, z], [d, d'], _, .cons hd1 (.cons hd2 .nil) =>
    refine ⟨a, [y, z], rfl, ha, y, rfl, .ref a, rfl, a, C, rfl, T, hno, .inl ⟨ha, fun dx h1 h2 => ?_⟩⟩
    refine ⟨z, rfl, .ref a, rfl, a, C, rfl, T, hno2, .inr ⟨dx, [(f, y)], upd_same, by rw [upd_ne h2, upd_same], by show 1 ≤ 900; decide, ?_⟩⟩
    refine k _ dx [z, y] (fun b e1 e2 => ?_) h1 h2 (.cons hd2 (.cons hd1 .nil)) ?_ ?_
    · rw [upd_ne e2, upd_ne e1, upd_ne e2]
    · rw [upd_ne h2.symm, upd_same]
    · rw [upd_same]; rfl
theorem raise_of {x file qual : Str} {params : Arguments} {body : List Stmt} {scope : Scope} {fI : Addr} {fd : FuncData} {ps : List Str} {k np : Nat} {fs : List D → List (Str × D)} (X0 : ExI K file qual params body scope (He.ga K x) fI fd) (hm : mg x = some (.ref (He.ga K x)))
    (hb : ∀ (kV doc pm : Value) (an : Option Addr) (cda : Addr) (ct : Value) (cc : Addr) (us : List Value), us.length = ps.length → bindArgs (PySem.W.ksFn "__init__" qual params body scope .none kV doc pm an (.ref cda) ct cc) ⟨us, []⟩ = pure (ps.zip us))
    (Fn : FnOk P w K mg base CX0 k fI fd ps (spI ⟨K, w⟩ (He.ga K x) np fs)) : RaiseOk P w K mg base x k np fs := by
  obtain ⟨_, _, kV, doc, pm, an, cda, ct, _, _, _, _, _, _, cc, _, _, _, rfl, _⟩ := X0.fn
  exact ⟨fI, _, ps, X0.oex, X0.ini, X0.tI, hm, .all fun us hl => hb kV doc pm an cda ct cc us hl, Fn⟩
end
end VS


set_option Elab.async false
set_option linter.all false
set_option maxRecDepth 100000
set_option maxHeartbeats 1000000
/-! VS12: try: .. except C as e: return .. -/
namespace VS
open PySem PySem.Spec PyProof.Rows L2
/-! ### isinstance of a caught exception that has fields -/
section
open PySem.W
variable {prog : Program} {w : World} {K : Frag} {D : Addr}
theorem own_class {C : Addr} {od : Option Obj} {a g : Value} (hc : (clsIn K C).isSome = true) (ha : findIn K (.ref C) "__class__" = some (some a)) (hg : specialIn K a "__get__" = some (some g)) (ht : takesIn K a = some true) : findObj K C od "__class__" = some (.bind g a) := by
  obtain ⟨cd, hcd⟩ := Option.isSome_iff_exists.mp hc
  simp [findObj, hcd, ha, hg, ht]
theorem asks_class {A : Around} {E : Value → Shared → Prop} {s : Shared} {x : Addr} {ox : Obj} {od : Option Obj} {Q : Option Value → Shared → Prop} (T : ExcC K D) (X : K.In s.heap) (I : InstAt s.heap x ox D od) (h : Q (some (.ref D)) { s with toks := s.toks + 1 }) :
    wpAny (model prog w) A (getAttr? (.ref x) "__class__") Q E s := by
  have isC : (clsIn K D).isSome = true := by
    obtain ⟨cd, hcd, _⟩ := any_some T.hd
    rw [hcd]; rfl
  obtain ⟨hp, gs, dr, t, os⟩ := s
  have lt := I.type (M := model prog w)
  have lf := looks_find (M := model prog w) X I (own_class (od := od) isC T.ha T.hn T.ht)
  have sb : Looks (model prog w) hp (isInstance (.ref x) (.type "BaseException")) true := lt.andThen (looks_subIn X T.hs)
  have nob : (onTheHeap (Value.ref D) && Value.builtin "BaseException.__getattribute__" == Value.builtin "object.__getattribute__") = false := by rw [show (Value.builtin "BaseException.__getattribute__" == Value.builtin "object.__getattribute__") = false by decide +kernel, Bool.and_false]
  unfold getAttr? getAttrBy? getAttrBy
  refine wpAny_bind (wpAny_mkText (wpAny_bind (wpAny_attempt (wpAny_holding (wpAny_bind (lt.at (wpAny_bind ((looks_findIn (M := model prog w) X T.hg).at ?_))))))))
  change wpAny _ _ (if (onTheHeap (Value.ref D) && Value.builtin "BaseException.__getattribute__" == Value.builtin "object.__getattribute__") = true then _ else _) _ _ _
  rw [nob, if_neg (by simp)]
  unfold getAttrByItsOwn hookBefore; refine wpAny_bind ?_
  rw [show onTheHeap (Value.ref D) = true from rfl, if_pos rfl]
  refine (looks_findIn (M := model prog w) X T.hk).at (wpAny_bind (wpAny_attempt (wpAny_holding ?_)))
  have nf : (false && onTheHeap (Value.builtin "BaseException.__getattribute__")) = false := rfl
  unfold callGetattribute; rw [nf, if_neg (show ¬ (false = true) by simp)]
  unfold boundAndCalled; rw [PySem.F.excAttr_ValueError.ga.bind (.ref x)]
  refine wpAny_bind (wpAny_pure ?_)
  change wpAny _ _ (call (.builtin "BaseException.__getattribute__") [.ref x, .str "__class__" t]) _ _ _
  refine wpAny_call ?_
  refine codeAny_call_builtin PySem.F.excAttr_ValueError.ga.plain PySem.F.entry_bexc_ga ?_
  refine @check_slot (model prog w) _ _ ⟨hp, gs, dr, t + 1, os⟩ "BaseException.__getattribute__" "BaseException" "__getattribute__" (.ref x) [.str "__class__" t] [] _ (by decide +kernel) (by decide +kernel) sb (PySem.F.args_bexc_ga (.ref x) (.str "__class__" t)) ?_
  unfold Builtin.«object.__getattribute__»; refine wpAny_bind (wpAny_of_eq (a := ((Value.ref x : Value), [Value.str "__class__" t])) (by first | rfl | (simp only [slotArgs]; rfl)) (wpAny_bind (wpAny_pure (wpAny_bind (lt.at (wpAny_bind (lf.at ?_)))))))
  change wpAny _ _ (holding [Value.builtin "object.__class__"] (call (.builtin "getset_descriptor.__get__") [.builtin "object.__class__", .ref x, .ref D]) >>= ret) _ _ _
  refine wpAny_bind (wpAny_holding (wpAny_call (class_get (s := ⟨hp, gs, dr, t + 1, os⟩) (ox := ox) (od := od) X I T.hm (wpAny_pure ?_))))
  change wpAny _ _ (handedOut (.ref D)) _ _ _
  rw [handedOut_of (v := .ref D) rfl]
  first | exact wpAny_pure (wpAny_pure h) | exact wpAny_pure h | exact wpAny_pure (wpAny_bind (wpAny_pure (wpAny_pure h)))
theorem kit_exc {x : Addr} {ox : Obj} {od : Option Obj} (T : ExcC K D) : KitX K (.ref x) (.ref D) (fun h => InstAt h x ox D od) where
  ty := fun _ _ _ I => I.type
  it := fun _ h X _ => by
    obtain ⟨cd, hcd, _⟩ := any_some T.hd
    unfold clsIn at hcd; split at hcd
    · rename_i ho; intro A' Q' E' s' k q; unfold isType loadHead; exact wpAny_bind (wpAny_loadPart (k _ _ (X _ _ ho)) (wpAny_pure q))
    · cases hcd
  ne := fun h tp dd its n sl X htp => by
    cases q : (Value.ref D == Value.ref tp) with
    | false => rfl
    | true =>
      obtain rfl : D = tp := Value.ref.inj (beq_iff_eq.mp q)
      obtain ⟨cd, hcd, _⟩ := any_some T.hd
      unfold clsIn at hcd; split at hcd
      · rename_i ho; cases (X _ _ ho).symm.trans htp
      · cases hcd
  ca := fun X I k => asks_class T X I k
end

/-! ### the suite's expression -/
section
variable {X : Cx} {a Dc : Addr} {oe : Obj} {pn : List (Addr × Obj)} {cls : Value} {dx : Option Addr}
def rIsX (K : PySem.W.Frag) (Dc a : Addr) (dx : Option Addr) : List V → Hp → VK → Prop := fun xs H Q => ∃ (c : V) (cv : Value) (b : Bool), xs = [.ref a, c] ∧ (∀ u, RelV c u → u = cv) ∧ PySem.W.kitOne K (.ref Dc) cv = some b ∧ (∀ d, dx = some d → ∃ fs, H d = some (.xd fs)) ∧ Q (.bl b) H
theorem call_isX (T : ExcC X.K Dc) (hz : Zc (.ref Dc) dx oe) (hf : ∃ vs, oe.data = .fields vs) : CallR (X.suite a ((a, oe) :: pn)) (.builtin "isinstance") (rIsX X.K Dc a dx) := by
  rintro pins s σ H xs us Q I r ⟨c, cv, b, rfl, hcv, e, hx, q⟩
  cases r with
  | cons rx rr =>
    cases rr with
    | cons rt rr =>
      cases rr
      cases rx
      obtain rfl := hcv _ rt
      obtain ⟨hget, _⟩ := I.pin (a, oe) (List.mem_append.mpr (.inl List.mem_cons_self))
      obtain ⟨vs, hv⟩ := hf
      obtain ⟨oc, od, oda, osl⟩ := oe
      obtain ⟨h1, h2⟩ := hz
      dsimp only at h1 h2 hv
      subst h1 h2 hv
      have J : ∃ o2, PySem.W.InstAt s.heap a ⟨.ref Dc, od, .fields vs, osl⟩ Dc o2 := by
        cases od with
        | none => exact ⟨none, hget, rfl, rfl, trivial⟩
        | some d =>
          obtain ⟨fs, hd⟩ := hx d rfl
          obtain ⟨mA, ⟨o, es, ep, ho, _⟩, _⟩ := I.hok d _ hd
          exact ⟨some o, hget, rfl, rfl, ho⟩
      obtain ⟨o2, J⟩ := J
      exact PySem.W.kia_one (kit_exc T) I.kIn J e (fun z => nomatch z) fun tk => ⟨.bl b, H, I.kept (t' := tk) fun _ _ z => z, rfl, q⟩
/-- the caught exception is of the class called c, its fields are fs; x what the expression gives of them -/
def tXs (K : KW) (i : Nat) (a : Addr) (cls : Value) (dx : Option Addr) (c : Str) (fx : List (Str × D) → Option D) : TE := fun σ H Q => ∃ F e As fs y, Rel K F e As σ H ∧ σ[i]? = some (some (.ref a)) ∧ ExcAt K F H cls dx c fs ∧ fx fs = some y ∧ ∀ v F' H', New F H F' H' [] → Den K F' v y → Q v H'
def tXl (K : KW) (i : Nat) (a : Addr) (cls : Value) (dx : Option Addr) (c : Str) (fx : List (Str × D) → Option (List D)) : TA := fun σ H Q => ∃ F e As fs y, Rel K F e As σ H ∧ σ[i]? = some (some (.ref a)) ∧ ExcAt K F H cls dx c fs ∧ fx fs = some y ∧ ∀ v F' H', New F H F' H' [] → DenAll K F' v y → Q v H'
abbrev DX (X : Cx) (i : Nat) (a : Addr) (cls : Value) (dx : Option Addr) (c : Str) (x : Expr) (fx : List (Str × D) → Option D) : Prop := PE X x (tXs X.KW i a cls dx c fx)
theorem New.trans0 {F H F1 H1 F2 H2 : Hp} (a : New F H F1 H1 []) (b : New F1 H1 F2 H2 []) : New F H F2 H2 [] where
  ff := a.ff.trans b.ff
  fn := fun x ⟨o, ho⟩ h => b.fn x ⟨o, a.hh _ _ ho⟩ (a.fn x ⟨o, ho⟩ h)
  hh := a.hh.trans b.hh
  nw := fun _ z => (nomatch z)
  sub := b.sub
  kind := fun x o h => (b.kind x o h).elim (fun q => a.kind x o q) .inr
theorem ExcAt.new {K : KW} {F H F' H' : Hp} {c : Str} {fs : List (Str × D)} {A : List Addr} (n : New F H F' H' A) (h : ExcAt K F H cls dx c fs) : ExcAt K F' H' cls dx c fs := by
  refine ⟨h.1, ?_⟩
  have h2 := h.2
  cases fs with
  | nil => trivial
  | cons p r =>
    obtain ⟨d, vs, h3, h4, h5⟩ := h2
    exact ⟨d, vs, h3, n.hh _ _ h4, DenAll.sub n.ff _ _ h5⟩
variable {i : Nat} {c : Str}
theorem dx_int {n : Int} {j pos} : DX X i a cls dx c (.Constant (.int n) j pos) (fun _ => some (.int n)) := pe_weak pe_int fun σ H Q ⟨F, e, As, fs, y, r, _, _, hy, k⟩ => by
  cases hy; exact k _ F H (New.refl r.sub) (.int n)
theorem dx_str {z : Str} {j pos} : DX X i a cls dx c (.Constant (.str z) j pos) (fun _ => some (.str z)) := pe_weak pe_str fun σ H Q ⟨F, e, As, fs, y, r, _, _, hy, k⟩ => by
  cases hy; exact k _ F H (New.refl r.sub) (.str z)
theorem lookup_zip {K : KW} {F : Hp} {n : Str} {y : D} : ∀ {fs : List (Str × D)} {vs : List V}, DenAll K F vs (fs.map (·.2)) → fs.lookup n = some y → ∃ v, ((fs.map (·.1)).zip vs).lookup n = some v ∧ Den K F v y
  | [], _, _, h => by simp at h
  | (f, d) :: fs, vs, hd, h => by
    cases hd with
    | cons h1 h2 =>
      by_cases e : n = f
      · subst e
        simp only [List.lookup, beq_self_eq_true, Option.some.injEq] at h
        subst h
        exact ⟨_, by simp [List.lookup], h1⟩
      · have e2 : (n == f) = false := by simpa using e
        simp only [List.lookup, e2] at h
        obtain ⟨v, q1, q2⟩ := lookup_zip h2 h
        exact ⟨v, by simpa [List.lookup, e2] using q1, q2⟩
/-- e.f -/
theorem dx_fld {f n : Str} {p pos : Pos} (T : XfC X.K (He.ga X.K c)) (hno : PySem.W.findIn X.K (.ref (He.ga X.K c)) f = some none) (hz : Zc cls dx oe) (hf : ∃ vs, oe.data = .fields vs) (hN : X.N[i]? = some n) (hv : Vis X.env.scope n) (hd : (n == ("__debug__" : Str)) = false) (hcd : (n == ("__classdict__" : Str)) = false)
    (hb : attributeBase (.Name n p) f X.env (eval (.Name n p) X.env) = eval (.Name n p) X.env := by rfl) : DX (X.suite a ((a, oe) :: pn)) i a cls dx c (.Attribute (.Name n p) f pos) (fun fs => fs.lookup f) := by
  refine pe_weak (pe_xf (X := X) T hno hz hf (pv i hN hv hd hcd) hb) fun σ H Q ⟨F, e, As, fs, y, r, hs, hx, hy, k⟩ => ⟨_, hs, rfl, hx.1, ?_⟩
  have h2 := hx.2
  cases fs with
  | nil => simp at hy
  | cons q r' =>
    obtain ⟨d, vs, h3, h4, h5⟩ := h2
    obtain ⟨v, h6, h7⟩ := lookup_zip h5 hy
    exact ⟨d, _, v, h3, h4, h6, k v F H (New.refl r.sub) h7⟩
/-- isinstance(e, C) -/
theorem dx_isi {n x : Str} {p p2 p3 pos : Pos} {cv : Value} {b : Bool} (T : ExcC X.K (He.ga X.K c)) (hz : Zc cls dx oe) (hf : ∃ vs, oe.data = .fields vs) (hN : X.N[i]? = some n) (hv : Vis X.env.scope n) (hd : (n == ("__debug__" : Str)) = false) (hcd : (n == ("__classdict__" : Str)) = false)
    (hkit : PySem.W.kitOne X.K (.ref (He.ga X.K c)) cv = some b) (hcls : cls = .ref (He.ga X.K c)) {vc : V} (hc : PE (X.suite a ((a, oe) :: pn)) (.Name x p2) (tC vc)) (hvc : ∀ u, RelV vc u → u = cv)
    (hg : Gl (X.suite a ((a, oe) :: pn)) "isinstance") (hm : X.mg "isinstance" = none)
    (hs : starEach [.Name n p, .Name x p2] X.env = (false, eval (.Name n p) X.env) :: starEach [.Name x p2] X.env := by rfl) (hs2 : starEach [.Name x p2] X.env = (false, eval (.Name x p2) X.env) :: starEach [] X.env := by rfl)
    (hpl : (backTo pos (starEach [.Name x p2] X.env)).any (·.1) = false := by rfl) : DX (X.suite a ((a, oe) :: pn)) i a cls dx c (.Call (.Name "isinstance" p3) [.Name n p, .Name x p2] [] pos) (fun fs => if fs.isEmpty = false then some (.bool b) else none) := by
  subst hcls
  refine pe_weak (pe_callB (X := X.suite a ((a, oe) :: pn)) (call_isX (X := X) T hz hf) hg hm (by decide +kernel) (pa_cons (pv i hN hv hd hcd) (pa_cons hc pa_nil hs2) hs) (by decide) (by decide) hs hpl) fun σ H Q ⟨F, e, As, fs, y, r, hs, hx, hy, k⟩ => ?_
  have hy2 : (if fs.isEmpty = false then some (PyData.bool b) else none) = some y := hy
  obtain ⟨hem, rfl⟩ := ite_some hy2
  refine ⟨_, hs, vc, cv, b, rfl, hvc, hkit, fun d hd => ?_, k _ F H (New.refl r.sub) (.bl b)⟩
  have h2 := hx.2
  cases fs with
  | nil => cases hem
  | cons q r' =>
    obtain ⟨d', vs, h3, h4, h5⟩ := h2
    rw [hd] at h3
    cases h3
    exact ⟨_, h4⟩
theorem dxl_nil : PA X [] (tXl X.KW i a cls dx c fun _ => some []) := pa_weak pa_nil fun σ H Q ⟨F, e, As, fs, y, r, _, _, hy, k⟩ => by
  cases hy; exact k _ F H (New.refl r.sub) .nil
theorem dxl_cons {e : Expr} {es : List Expr} {fx : List (Str × D) → Option D} {fl : List (Str × D) → Option (List D)} (h1 : DX X i a cls dx c e fx) (h2 : PA X es (tXl X.KW i a cls dx c fl)) (hs : starEach (e :: es) X.env = (false, eval e X.env) :: starEach es X.env := by rfl) : PA X (e :: es) (tXl X.KW i a cls dx c fun fs => (fx fs).bind fun y => (fl fs).map (y :: ·)) :=
  pa_weak (pa_cons h1 h2 hs) fun σ H Q ⟨F, e, As, fs, y, r, hs, hx, hy, k⟩ => by
    obtain ⟨y1, q1, q2⟩ := Option.bind_eq_some_iff.mp hy
    obtain ⟨y2, q3, rfl⟩ := Option.map_eq_some_iff.mp q2
    exact ⟨F, e, As, fs, y1, r, hs, hx, q1, fun v F1 H1 n1 d1 => ⟨F1, e, As, fs, y2, r.new n1, hs, hx.new n1, q3, fun vs F2 H2 n2 d2 => k (v :: vs) F2 H2 (n1.trans0 n2) (.cons (Den.sub n2.ff _ _ d1) d2)⟩⟩
theorem dx_tup {es : List Expr} {x1 : Nat} {pos : Pos} {fl : List (Str × D) → Option (List D)} (h : PA X es (tXl X.KW i a cls dx c fl)) : DX X i a cls dx c (.Tuple es x1 pos) (fun fs => (fl fs).bind fun ds => if ds.length ≤ sizeLine then some (.tuple ds) else none) :=
  pe_weak (pe_tup h) fun σ H Q ⟨F, e, As, fs, y, r, hs, hx, hy, k⟩ => by
    obtain ⟨ds, q1, q2⟩ := Option.bind_eq_some_iff.mp hy
    obtain ⟨hz, rfl⟩ := ite_some q2
    exact ⟨F, e, As, fs, ds, r, hs, hx, q1, fun vs F1 H1 n1 d1 => ⟨by rw [d1.length]; exact hz, fun p hp => k _ _ _ (n1.trans0 (New.tup n1.sub hp)) (vl_tup n1.sub hp d1).2⟩⟩
theorem dx_one {op} {e : Expr} {pos : Pos} {fx : List (Str × D) → Option D} (h : DX X i a cls dx c e fx) : DX X i a cls dx c (.BoolOp op [e] pos) fx := pe_one h
def andX (fx gx : List (Str × D) → Option D) : List (Str × D) → Option D := fun fs => (fx fs).bind fun y => (truthD y).bind fun b => if b = true then gx fs else some y
theorem dx_and {x y : Expr} {rest : List Expr} {pos : Pos} {fx gx : List (Str × D) → Option D} (h1 : DX X i a cls dx c x fx) (h2 : DX X i a cls dx c (.BoolOp .And (y :: rest) pos) gx) : DX X i a cls dx c (.BoolOp .And (x :: y :: rest) pos) (andX fx gx) :=
  pe_weak (pe_andT h1 h2) fun σ H Q ⟨F, e, As, fs, y, r, hs, hx, hy, k⟩ => by
    obtain ⟨y1, q1, hy⟩ := Option.bind_eq_some_iff.mp hy
    obtain ⟨b, q2, hy⟩ := Option.bind_eq_some_iff.mp hy
    refine ⟨F, e, As, fs, y1, r, hs, hx, q1, fun v F1 H1 n1 d1 => ⟨b, den_truth n1.sub d1 q2, ?_⟩⟩
    cases b with
    | true =>
      rw [if_pos rfl] at hy ⊢
      exact ⟨F1, e, As, fs, y, r.new n1, hs, hx.new n1, hy, fun v' F2 H2 n2 d2 => k v' F2 H2 (n1.trans0 n2) d2⟩
    | false =>
      rw [if_neg (by simp)] at hy ⊢
      cases hy
      exact k v F1 H1 n1 d1
theorem dx_not {x : Expr} {pos : Pos} {fx : List (Str × D) → Option D} (h1 : DX X i a cls dx c x fx) : DX X i a cls dx c (.UnaryOp .Not x pos) (fun fs => (fx fs).bind fun y => (truthD y).map fun b => .bool (!b)) :=
  pe_weak (pe_notT h1) fun σ H Q ⟨F, e, As, fs, y, r, hs, hx, hy, k⟩ => by
    obtain ⟨y1, q1, hy⟩ := Option.bind_eq_some_iff.mp hy
    obtain ⟨b, q2, rfl⟩ := Option.map_eq_some_iff.mp hy
    exact ⟨F, e, As, fs, y1, r, hs, hx, q1, fun v F1 H1 n1 d1 => ⟨b, den_truth n1.sub d1 q2, k _ F1 H1 n1 (.bl _)⟩⟩
end

/-! ### try: body, except C as e: return x -/
def sTryAs (c0 : Str) (L : List Str) (i : Nat) (body : Sv) (fx : List (Str × D) → Option D) : Sv := fun e => match body e with
  | .exc c fs e' => if c = c0 then (match fx fs with
      | some y => .rt (.fz y) (e'.set i .un)
      | none => .stuck) else if c ∈ L then .exc c fs e' else .stuck
  | o => o
section
variable {X : Cx} {K : KW} {W : WX} {F H F1 H1 : Hp} {As As1 : Nat → List Addr} {σ : Sto} {io : List Nat}
theorem Rel.unSet {e : En} {i : Nat} {v : Option V} (r : Rel K F e As σ H) (h : e[i]? = some .un) : Rel K F e As (σ.set i v) H where
  sub := r.sub
  len := by rw [List.length_set]; exact r.len
  slot := fun j y hj => by
    obtain ⟨w, h1, h2⟩ := r.slot j y hj
    by_cases e1 : j = i
    · subst e1
      rw [h] at hj
      cases hj
      exact ⟨v, List.getElem?_set_self (List.getElem?_eq_some_iff.mp h1).1, h2⟩
    · exact ⟨w, by rw [List.getElem?_set_ne (Ne.symm e1)]; exact h1, h2⟩
  out := r.out
  dj := r.dj
  frz := r.frz
theorem ds_tryAs (i : Nat) {k' : Nat} {x n : Str} {c0 : Str} {L : List Str} {body : List Stmt} {ex : Expr} {f : Sv} {fx : List (Str × D) → Option D} {np rp pos' pos : Pos} (C : Ctx X W k') (hs : X.stack = X.env :: X.outer) (hf : X.env.frame = some X.env.locals) (hN : X.N.Nodup) (hi : X.N[i]? = some n) (hln : X.env.kindOf n = some .local) (hio : i ∉ io)
    (hc : Names X x (.ref (He.ga X.K c0))) (hex : PySem.W.exmOne X.K (.ref (He.ga X.K c0)) (.ref (He.ga X.K c0)) = some true) (hL : ∀ c ∈ L, PySem.W.exmOne X.K (.ref (He.ga X.K c)) (.ref (He.ga X.K c0)) = some false)
    (hb : ∀ (W : WX) (pn : List (Addr × Obj)) (xe : Value → Shared → Prop), Ctx (X.tr pn xe) W k' → PassesOwn (model X.prog X.w) X.A X.env xe → DSs (X.tr pn xe) W io body f)
    (hsu : ∀ (a : Addr) (oe : Obj) (cls : Value) (d : Option Addr) (pn : List (Addr × Obj)), Zc cls d oe → (∃ vs, oe.data = .fields vs) → cls = .ref (He.ga X.K c0) → DX (X.suite a ((a, oe) :: pn)) i a cls d c0 ex fx) :
    DS X W io (.Try body [.ExceptHandler (some (.Name x np)) (some n) [.Return (some ex) rp] pos'] [] [] pos) (sTryAs c0 L i f fx) := by
  refine ps_weakI (ps_try_as (tb := fun W => tS X.KW W io f) (ts := fun a cls d D σ H => cls = .ref (He.ga X.K c0) ∧ tXs X.KW i a cls d c0 fx σ H D.rt) hs hf hN hi hln hc C.tk (fun W' pn xe tk po => hb W' pn xe ⟨C.room, C.gd, tk, C.calm⟩ po)
    (fun a oe cls d pn hz hv => ⟨fun pins s σ H D I h => (pss_one (ps_ret (hsu a oe cls d pn hz hv h.1))).run pins s σ H D I h.2⟩)) fun Dn σ H hsl ⟨F, e, As, r0, h⟩ => ⟨F, e, As, r0, ?_⟩
  unfold sTryAs at h
  cases q : f e with
  | nx e' => rw [q] at h; exact h
  | bk e' => rw [q] at h; exact h
  | ct e' => rw [q] at h; exact h
  | rt v e' => rw [q] at h; exact h
  | stuck => rw [q] at h; exact h
  | exc c fs e' =>
    rw [q] at h
    intro cls dx F' H' As' σ' x1 r1 k1 ea
    by_cases hcc : c = c0
    · subst hcc
      have h2 : PSt X.KW W io F H As σ Dn (match fx fs with
          | some y => .rt (.fz y) (e'.set i .un)
          | none => .stuck) := by
        have h3 : PSt X.KW W io F H As σ Dn (if c = c then (match fx fs with
          | some y => .rt (.fz y) (e'.set i .un)
          | none => .stuck) else if c ∈ L then .exc c fs e' else .stuck) := h
        rwa [if_pos rfl] at h3
      refine ⟨true, by rw [ea.1]; exact hex, fun _ a ha => ⟨ea.1, ?_⟩, fun z => by cases z⟩
      cases hy : fx fs with
      | none => rw [hy] at h2; exact h2.elim
      | some y =>
        rw [hy] at h2
        have hle : e'.length = σ'.length := r1.len
        by_cases hlt : i < e'.length
        · have hun : (e'.set i Sl.un)[i]? = some .un := List.getElem?_set_self hlt
          have r2 : Rel X.KW F' (e'.set i .un) (putA As' i []) (σ'.set i (some (.ref a))) H' := (r1.drop hlt).unSet hun
          have x2 : Ext F H As F' H' (putA As' i []) := x1.drop
          refine ⟨F', _, _, fs, y, r2, List.getElem?_set_self (by rw [← hle]; exact hlt), ea, hy, fun v F2 H2 n2 d2 => ?_⟩
          exact h2 v F2 H2 _ (σ'.set i (some (.ref a))) [] (x2.trans n2.ext) (r2.new n2) (k1.trans (Keep.set hio)) ⟨rfl, d2⟩ Fresh.nil
        · exfalso
          have hin := (List.getElem?_eq_some_iff.mp hi).1
          rw [hle, k1.1, hsl] at hlt
          exact hlt hin
    · have h3 : PSt X.KW W io F H As σ Dn (if c = c0 then (match fx fs with
          | some y => .rt (.fz y) (e'.set i .un)
          | none => .stuck) else if c ∈ L then .exc c fs e' else .stuck) := h
      rw [if_neg hcc] at h3
      by_cases hm : c ∈ L
      · rw [if_pos hm] at h3
        exact ⟨false, by rw [ea.1]; exact hL c hm, (fun z => by cases z), fun _ => h3 cls dx F' H' As' σ' x1 r1 k1 ea⟩
      · rw [if_neg hm] at h3
        exact h3.elim
end
end VS


set_option Elab.async false
set_option linter.all false
set_option maxRecDepth 100000
/-! VS13: repr; calls with keywords. -/
namespace VS
open PySem PySem.Spec PyProof.Rows L2
section
variable {X : Cx} {W : WX}
mutual
theorem Den.reads {pins : List (Addr × Obj)} {σ : Sto} {F H : Hp} {s : Shared} (I : Inv X pins σ H s) (sb : Sub F H) : ∀ (d : D) (v : V) (u : Value), Den X.KW F v d → RelV v u → d.hasDict = false → ∃ as, Reads s.heap u d as
  | .none, _, _, h, r, _ => by cases h; cases r; exact ⟨_, .none⟩
  | .bool b, _, _, h, r, _ => by cases h; cases r; exact ⟨_, .bool b⟩
  | .int i, _, _, h, r, _ => by cases h; obtain ⟨t, rfl⟩ := r; exact ⟨_, .int i t⟩
  | .str x, _, _, h, r, _ => by cases h; obtain ⟨t, rfl⟩ := r; exact ⟨_, .str x t⟩
  | .list ds, _, _, h, r, hd => by
    cases h with
    | lst h1 h2 =>
      cases r
      obtain ⟨_, its, n, rv, e⟩ := RdK.lst I (RdK.sub sb h1)
      obtain ⟨as, q⟩ := DenAll.reads I sb ds _ its h2 rv (by simpa [PyData.hasDict] using hd)
      exact ⟨_, .list e rfl rfl (by simpa using q)⟩
  | .tuple ds, _, _, h, r, hd => by
    cases h with
    | tup h1 h2 =>
      cases r
      obtain ⟨its, rv, ⟨o, e, c, n, hs⟩, _⟩ := I.tuple (SqT.sub sb h1)
      obtain ⟨as, q⟩ := DenAll.reads I sb ds _ its h2 rv (by simpa [PyData.hasDict] using hd)
      exact ⟨_, .tuple e c hs (by simpa using q)⟩
  | .dict kvs, _, _, _, _, hd => by simp [PyData.hasDict] at hd
theorem DenAll.reads {pins : List (Addr × Obj)} {σ : Sto} {F H : Hp} {s : Shared} (I : Inv X pins σ H s) (sb : Sub F H) : ∀ (ds : List D) (vs : List V) (us : List Value), DenAll X.KW F vs ds → Vals vs us → PyData.hasDictAll ds = false → ∃ as, ReadsAll s.heap us ds as
  | [], _, _, h, r, _ => by cases h; cases r; exact ⟨_, .nil⟩
  | d :: ds, _, _, h, r, hd => by
    have hd2 : d.hasDict = false ∧ PyData.hasDictAll ds = false := by simpa [PyData.hasDictAll] using hd
    cases h with
    | cons h1 h2 =>
      cases r with
      | cons r1 r2 =>
        obtain ⟨as, q1⟩ := Den.reads I sb d _ _ h1 r1 hd2.1
        obtain ⟨bs, q2⟩ := DenAll.reads I sb ds _ _ h2 r2 hd2.2
        exact ⟨_, .cons q1 q2⟩
end
def reprOk (d : D) : Bool := d.showable && (!d.hasDict && (decide (d.depth ≤ 60) && decide (d.shown.length ≤ sizeLine)))
def rRepr (X : Cx) : List V → Hp → VK → Prop := fun xs H Q => ∃ v d, xs = [v] ∧ Den X.KW H v d ∧ reprOk d = true ∧ Q (.str d.shown) H
theorem call_reprD {k : Nat} (C : Ctx X W k) : CallR X (.builtin "repr") (rRepr X) := by
  rintro pins s σ H xs us Q I r ⟨v, d, rfl, hd, ok, q⟩
  obtain ⟨u, rfl, ru⟩ := vals1 r
  unfold reprOk at ok
  simp only [Bool.and_eq_true, Bool.not_eq_true', decide_eq_true_eq] at ok
  obtain ⟨h1, h2, h3, h4⟩ := ok
  obtain ⟨as, rd⟩ := Den.reads I (Sub.refl _) d v u hd ru h2
  have hu := C.room.un
  cases hd with
  | non => cases ru; exact PySem.P.repr_of_none ⟨.str _, H, I.tok _, ⟨_, rfl⟩, q⟩
  | bl b => cases ru; exact PySem.P.repr_of_bool ⟨.str _, H, I.tok _, ⟨_, rfl⟩, q⟩
  | int i =>
    obtain ⟨t, rfl⟩ := ru
    exact PySem.P.repr_of_int (by simpa [PyData.showable] using h1) ⟨.str _, H, I.tok _, ⟨_, rfl⟩, q⟩
  | str x =>
    obtain ⟨t, rfl⟩ := ru
    exact PySem.P.repr_of_str (hsz := h4) ⟨.str _, H, I.tok _, ⟨_, rfl⟩, q⟩
  | lst _ _ =>
    cases ru
    exact repr_of_reads' rd h1 (fun z => by rw [h2] at z; cases z) C.gd (by omega) (fun _ _ e => e) (fun h' u tk k => ⟨.str _, H, I.kept (t' := tk) k, ⟨_, rfl⟩, q⟩) h4
  | tup _ _ =>
    cases ru
    exact repr_of_reads' rd h1 (fun z => by rw [h2] at z; cases z) C.gd (by omega) (fun _ _ e => e) (fun h' u tk k => ⟨.str _, H, I.kept (t' := tk) k, ⟨_, rfl⟩, q⟩) h4
  | dic => simp [PyData.hasDict] at h2
def gRepr : List D → Option Vl
  | [d] => if reprOk d = true then some (.fz (.str d.shown)) else none
  | _ => none
theorem prim_repr : Prim X.KW (rRepr X) gRepr := by
  intro F H vs ds x Q s d hg k
  match ds, vs, d, hg with
  | [d0], [v], .cons h1 .nil, hg =>
    obtain ⟨ok, rfl⟩ := ite_some (show (if reprOk d0 = true then some (Vl.fz (.str d0.shown)) else none) = some x from hg)
    exact ⟨v, d0, rfl, Den.sub s _ _ h1, ok, k _ _ _ _ (New.refl s) (vl_str _)⟩
/-! ### f(e, .., k = v) -/
structure DefOkK (P : Program) (w : World) (K : PySem.W.Frag) (mg : Str → Option Value) (base : Heap) (x : Str) (k np : Nat) (ks : List Str) (G : Ev) : Prop where
  ex : ∃ (f : Addr) (fd : FuncData) (ps : List Str), ps.length = np ∧ mg x = some (.ref f) ∧ PySem.W.keepIn K (.ref f) = true ∧ (∀ (s : Shared) (us ws : List Value), us.length + ws.length = np → ws.length = ks.length → BindsTo s fd ⟨us, ks.zip ws⟩ (ps.zip (us ++ ws))) ∧ FnG P w K mg base k f fd ps G
def eCallK (np nk : Nat) (G : Ev) (fa fk : Av) : Ev := fun e => (fa e).bind fun p => (fk p.2).bind fun q => if (p.1 ++ q.1).length = np ∧ q.1.length = nk then match G ((p.1 ++ q.1).map Sl.fz) with
    | .ok (x, _) => .ok (x, q.2)
    | .exc c fs _ => .exc c fs q.2
    | .stuck => .stuck
  else .stuck
abbrev DK (X : Cx) (W : WX) (kws : List Keyword) (f : Av) : Prop := PK X kws (tDA X.KW W f)
theorem pkw_weak {kws : List Keyword} {t t' : TA} (h : PK X kws t) (w : ∀ σ H Q, t' σ H Q → t σ H Q) : PK X kws t' := ⟨fun pos pins s σ H Q I q => h.run pos pins s σ H Q I (w _ _ _ q)⟩
theorem dk_nil : DK X W [] aNil := pkw_weak pk_nil fun σ H Q ⟨F, e, As, r0, h⟩ => h [] F H As Ext.refl r0 .nil
theorem dk_cons {nm : Option Str} {a : Expr} {kpos : Pos} {kws : List Keyword} {fa : Ev} {fr : Av} (ha : DE X W a fa) (hr : DK X W kws fr) : DK X W (⟨nm, a, kpos⟩ :: kws) (aCons fa fr) := by
  refine pkw_weak (pk_cons ha hr) fun σ H Q ⟨F, e, As, r0, h⟩ => ?_
  refine tD_then (k := PL X.KW F H As σ Q) r0 h fun p1 v F1 H1 As1 ep x1 r1 d1 h1 => ?_
  refine ⟨F1, p1.2, As1, r1, h1.bind fun q eq h2 vs F2 H2 As2 x2 r2 d2 => ?_⟩
  exact PL.on (x1.trans x2) h2 (v :: vs) F2 H2 As2 Ext.refl r2 (.cons (Den.sub x2.ff _ _ d1) d2)
theorem pe_callGK {k k' np : Nat} {x : Str} {ks : List Str} {G : Ev} {p pos : Pos} {e : Expr} {es : List Expr} {kws : List Keyword} {t tk : TA} (C : Ctx X W k') (D0 : DefOkK X.prog X.w X.K X.mg X.base x k np ks G) (ha : PA X (e :: es) t) (hkw : PK X kws tk) (hk : k ≤ k') (hg : Gl X x)
    (hall : (backToKw pos (keywordEach kws X.env)).all (·.1.isSome) = true) (hks : (backToKw pos (keywordEach kws X.env)).filterMap (·.1) = ks)
    (hdb : (x == ("__debug__" : Str)) = false) (he : starEach (e :: es) X.env = (false, eval e X.env) :: starEach es X.env)
    (hpl : ((backTo pos (starEach (e :: es) X.env)).any (·.1) || (backToKw pos (keywordEach kws X.env)).any (·.1.isNone)) = false) : PE X (.Call (.Name x p) (e :: es) kws pos) (fun σ H Q => t σ H fun vs H1 => tk σ H1 fun zs H2 => zs.length = ks.length ∧ spD X.KW np G (vs ++ zs) H2 Q (WE W σ)) := by
  obtain ⟨f, fd, ps, rfl, hm, kp, hb, Fn⟩ := D0.ex
  refine ⟨fun pins s σ H Q I h => wpAny_Call_Name_kw (ld_glob I hg hm ?_ hdb)⟩
  refine PySem.W.callWith_KW (h₀ := X.base) I.ok.mod.kin kp hall (thn (ha.run pos pins s σ H _ I h) fun us s1 hh => ?_) hpl he
  obtain ⟨vs, H1, I1, r, q⟩ := hh
  refine thn (hkw.run pos pins s1 σ H1 _ I1 q) fun ws s2 hh => ?_
  obtain ⟨zs, H2, I2, rz, hlz, sp⟩ := hh
  refine ⟨I2.kIn, ?_⟩
  rw [hks]
  have rr := r.append rz
  have lu : us.length + ws.length = ps.length := by
    have h1 := rr.length
    have h2 : (vs ++ zs).length = ps.length := sp.1
    rw [h2, List.length_append] at h1
    exact h1.symm
  refine wpAny_call (codeAny_mono (run_g Fn hk C I2 (hb s2 us ws lu (by rw [← rz.length, hlz])) rr sp) fun res s' hq => ?_)
  match res, hq with
  | .ok (.ret u), hq => exact hq
  | .error e, hq => exact hq
  | .ok .next, hq => exact hq.elim
  | .ok .brk, hq => exact hq.elim
  | .ok .cont, hq => exact hq.elim
theorem de_callK {k k' np : Nat} {x : Str} {ks : List Str} {G : Ev} {p pos : Pos} {e : Expr} {es : List Expr} {kws : List Keyword} {fa fk : Av} (C : Ctx X W k') (D0 : DefOkK X.prog X.w X.K X.mg X.base x k np ks G) (ha : DA X W (e :: es) fa) (hkw : DK X W kws fk) (hk : k ≤ k' := by decide) (hg : Gl X x := by rfl)
    (hall : (backToKw pos (keywordEach kws X.env)).all (·.1.isSome) = true := by rfl) (hks : (backToKw pos (keywordEach kws X.env)).filterMap (·.1) = ks := by rfl)
    (hdb : (x == ("__debug__" : Str)) = false := by decide) (he : starEach (e :: es) X.env = (false, eval e X.env) :: starEach es X.env := by rfl)
    (hpl : ((backTo pos (starEach (e :: es) X.env)).any (·.1) || (backToKw pos (keywordEach kws X.env)).any (·.1.isNone)) = false := by rfl) : DE X W (.Call (.Name x p) (e :: es) kws pos) (eCallK np ks.length G fa fk) := by
  refine pe_weak (pe_callGK C D0 ha hkw hk hg hall hks hdb he hpl) fun σ H Q ⟨F, e, As, r0, h⟩ => ?_
  refine ⟨F, e, As, r0, h.bind fun q eq h1 vs F1 H1 As1 x1 r1 d1 => ?_⟩
  refine ⟨F1, q.2, As1, r1, (PR.on x1 h1).bind fun q' eq' h2 zs F2 H2 As2 x2 r2 d2 => ?_⟩
  by_cases hl : (q.1 ++ q'.1).length = np ∧ q'.1.length = ks.length
  · rw [if_pos hl] at h2
    exact ⟨by rw [d2.length, hl.2], sp_shared r2 x2 (DenAll.append (DenAll.sub' x2.ff d1) d2) hl.1 (PR.imp h2 fun _ _ z => PV.on x1 z)⟩
  · rw [if_neg hl] at h2
    exact h2.elim
end
end VS


set_option Elab.async false
set_option linter.all false
set_option maxRecDepth 100000
set_option maxHeartbeats 1000000
/-! VS14: the head's facts. -/
namespace VS
open PySem PySem.Spec PyProof.Rows L2 He
/-- an exception class with its own __init__: name, parameters, body, scope of __init__, fields -/
structure ExD where
  x : Str
  file : Str
  params : Arguments
  body : List Stmt
  scope : Scope
  fields : List Str
abbrev FnC : Type := Option (Str × Str × Arguments × FuncBody × Scope × Addr × List Str × Value × Addr)
def iAd (K : PySem.W.Frag) (x : Str) : Addr := ma K (ga K x) "__init__"
def fnC (K : PySem.W.Frag) (x : Str) : FnC := match K.lookup (iAd K x) with
  | some ⟨_, _, .func fd, _⟩ => some (fd.name, fd.qualname, fd.params, fd.body, fd.scope, fd.globals, fd.closure.map (·.1), fd.defaults, fd.builtins)
  | _ => none
def ExD.val (d : ExD) : FnC := some ("__init__", d.x ++ ".__init__", d.params, .stmts d.body, d.scope, mainGlobals, ["__class__"], .none, builtinsNs)
def fnB (K : PySem.W.Frag) (d : ExD) : Bool := match K.lookup (iAd K d.x) with
  | some ⟨_, _, .func fd, _⟩ => (match fd.code, fd.closure with
    | .ref cda, [(_, cc)] => PySem.W.codeIn K (.ref cda) (d.x ++ ".__init__") && ((match K.lookup cda with
        | some ⟨_, _, .fields vs, _⟩ => (match (vs[2]? : Option Value) with
          | some (Value.str f _) => decide (f = d.file)
          | _ => false)
        | _ => false) && (match K.lookup cc with
        | some ⟨_, _, .cell (some (.ref C)), _⟩ => decide (C = ga K d.x)
        | _ => false))
    | _, _ => false)
  | _ => false
def clB (K : PySem.W.Frag) (C : Addr) : Bool := match K.lookup C with
  | some ⟨.type "type", dd, .cls ⟨nm, bs, .ref c :: bm, ns, qn, true, sn, sub, ab, col, false⟩, sl⟩ => decide (c = C) && (PySem.HandSPX.refsVE bm && (match sl.toList with
    | [_, _, _, _, some (.builtin n), _] => decide (n = "ValueError.__new__")
    | _ => false))
  | _ => false
theorem clB_ok {K : PySem.W.Frag} {C : Addr} (h : clB K C = true) : ∃ nm q N bs bm sn sub ab col dd k0 k1 k2 k3 k5, K.lookup C = some (excClassObj nm q C N bs bm true sn sub ab col dd k0 k1 k2 k3 k5 "ValueError.__new__") ∧ PySem.HandSPX.refsVE bm = true := by
  unfold clB at h
  split at h
  · rename_i dd nm bs c bm ns qn sn sub ab col sl e
    obtain ⟨h1, h'⟩ := ba h
    obtain ⟨h2, h3⟩ := ba h'
    clear h h'
    have hc : c = C := of_decide_eq_true h1
    subst hc
    split at h3
    · rename_i k0 k1 k2 k3 n k5 hs
      have hn : n = "ValueError.__new__" := of_decide_eq_true h3
      subst hn
      obtain ⟨l⟩ := sl
      simp only at hs
      subst hs
      exact ⟨nm, qn, ns, bs, bm, sn, sub, ab, col, dd, k0, k1, k2, k3, k5, e, h2⟩
    · cases h3
  · cases h
def exB (K : PySem.W.Frag) (d : ExD) : Bool :=
  fnB K d && (clB K (ga K d.x) && (eqO (PySem.W.nsIn K mainGlobals d.x) (some (some (.ref (ga K d.x)))) && (eqO (PySem.W.findIn K (.ref (ga K d.x)) "__setattr__") (some (some (.builtin "object.__setattr__"))) && (decide (PySem.W.subIn K (.ref (ga K d.x)) (.type "BaseException") = some true) && (decide (PySem.W.typeIn K (.ref (ga K d.x)) = some (.type "type")) && (PySem.W.keepIn K (.ref (ga K d.x)) &&
    (eqO (PySem.W.findIn K (.ref (ga K d.x)) "__init__") (some (some (.ref (iAd K d.x)))) && (decide (PySem.W.typeIn K (.ref (iAd K d.x)) = some (.type "function")) && (eqO (PySem.W.ks_superIn K (ga K d.x) (ga K d.x) "__init__") (some (some (.builtin "ValueError.__init__"))) && (decide (PySem.W.subIn K (.ref (ga K d.x)) (.type "ValueError") = some true) &&
      (eqO (PySem.W.nsIn K cStatics "thirdparty.any") (some none) && (decide (PySem.W.mroIn K (ga K d.x) (.ref (ga K d.x)) = some true) && (d.fields.all (fun f => eqO (PySem.W.findIn K (.ref (ga K d.x)) f) (some none)) && xfB K (ga K d.x))))))))))))))
theorem exB_ok {K : PySem.W.Frag} {d : ExD} (h : exB K d = true) (e : fnC K d.x = d.val) : (∃ fd, ExI K d.file (d.x ++ ".__init__") d.params d.body d.scope (ga K d.x) (iAd K d.x) fd) ∧ PySem.W.nsIn K mainGlobals d.x = some (some (.ref (ga K d.x))) ∧ (∀ f ∈ d.fields, PySem.W.findIn K (.ref (ga K d.x)) f = some none) ∧ XfC K (ga K d.x) := by
  obtain ⟨h1, h⟩ := ba h
  obtain ⟨h2, h⟩ := ba h
  obtain ⟨h3, h⟩ := ba h
  obtain ⟨h4, h⟩ := ba h
  obtain ⟨h5, h⟩ := ba h
  obtain ⟨h6, h⟩ := ba h
  obtain ⟨h7, h⟩ := ba h
  obtain ⟨h8, h⟩ := ba h
  obtain ⟨h9, h⟩ := ba h
  obtain ⟨h10, h⟩ := ba h
  obtain ⟨h11, h⟩ := ba h
  obtain ⟨h12, h⟩ := ba h
  obtain ⟨h13, h⟩ := ba h
  obtain ⟨h14, h15⟩ := ba h
  refine ⟨?_, eqO_ok h3, fun f hf => eqO_ok (List.all_eq_true.mp h14 f hf), xfB_ok h15⟩
  have oex : OexC K (ga K d.x) := ⟨clB_ok h2, eqO_ok h4, of_decide_eq_true h5, of_decide_eq_true h6, h7⟩
  unfold fnB at h1
  unfold fnC at e
  cases q : K.lookup (iAd K d.x) with
  | none => rw [q] at h1; cases h1
  | some o =>
    obtain ⟨oc, od, dt, osl⟩ := o
    rw [q] at h1 e
    cases dt with
    | func fd =>
      obtain ⟨n1, n2, n3, n4, n5, n6, n7, n8, n9, n10, n11, n12, n13, n14, n15⟩ := fd
      have e2 : (some (n1, n2, n3, n4, n5, n6, n7.map (·.1), n8, n15) : FnC) = (some (("__init__" : Str), d.x ++ (".__init__" : Str), d.params, FuncBody.stmts d.body, d.scope, mainGlobals, ([("__class__" : Str)] : List Str), Value.none, builtinsNs) : FnC) := e
      simp only [Option.some.injEq, Prod.mk.injEq] at e2
      obtain ⟨g1, g2, g3, g4, g5, g6, g7, g8, g9⟩ := e2
      subst g1 g2 g3 g4 g5 g6 g8 g9
      dsimp only at h1
      split at h1
      · rename_i cda nm cc
        have hnm : nm = "__class__" := by simpa using g7
        subst hnm
        obtain ⟨k1, k2⟩ := ba h1
        obtain ⟨k2, k3⟩ := ba k2
        cases qa : K.lookup cda with
        | none => rw [qa] at k2; cases k2
        | some oa =>
          obtain ⟨a1, a2, a3, a4⟩ := oa
          rw [qa] at k2
          cases a3 with
          | fields vs =>
            dsimp only at k2
            split at k2
            · rename_i f tf hv
              have hfile : f = d.file := of_decide_eq_true k2
              subst hfile
              cases qc : K.lookup cc with
              | none => rw [qc] at k3; cases k3
              | some ob =>
                obtain ⟨b1, b2, b3, b4⟩ := ob
                rw [qc] at k3
                cases b3 with
                | cell v =>
                  cases v with
                  | none => cases k3
                  | some v =>
                    cases v with
                    | ref C =>
                      have hC : C = ga K d.x := of_decide_eq_true k3
                      subst hC
                      exact ⟨_, oex, eqO_ok h8, of_decide_eq_true h9, ⟨oc, od, n9, n10, n11, n12, cda, n14, osl, a1, a2, vs, a4, tf, cc, b1, b2, b4, rfl, q, k1, qa, hv, qc⟩, eqO_ok h10, of_decide_eq_true h11, eqO_ok h12, of_decide_eq_true h13⟩
                    | _ => cases k3
                | _ => cases k3
            · cases k2
          | _ => cases k2
      · cases h1
    | _ => cases h1
/-! ### the Hook -/
abbrev AlV : Type := Bool × (List FnW × List FnC)
def obsV (fa : PySem.W.Frag → Bool) (fn : List DefD) (ex : List ExD) (K : PySem.W.Frag) : AlV := (fa K && ((fn.all fun d => d.ok K) && ex.all fun d => exB K d), fn.map (fun d => fnW K d.at_), ex.map fun d => fnC K d.x)
def valV (fn : List DefD) (ex : List ExD) : AlV := (true, fn.map DefD.val, ex.map ExD.val)
def SaysV (fa : PySem.W.Frag → Bool) (fn : List DefD) (ex : List ExD) (K : PySem.W.Frag) : Prop := obsV fa fn ex K = valV fn ex
def obsVG (n : Nat) (fa : PySem.W.Frag → Bool) (fn : List DefD) (ex : List ExD) (g : Addr → Option Obj) : AlV := obsV fa fn ex (frG g (cStatics :: asD g n))
def hookV (n : Nat) (fa : PySem.W.Frag → Bool) (fn : List DefD) (ex : List ExD) : PySem.W.Hook where
  α := AlV
  obs := fun s => obsVG n fa fn ex s.heap.get?
  val := fun _ => valV fn ex
  says := fun _ h => ∃ K : PySem.W.Frag, K.In h ∧ SaysV fa fn ex K
  of := fun _ _ e => ⟨_, frG_in, e⟩
  keeps := fun _ _ _ ⟨K, hK, c⟩ k => ⟨K, PySem.W.Frag.In.keeps hK k, c⟩
theorem obsVG_eq {n : Nat} {fa : PySem.W.Frag → Bool} {fn : List DefD} {ex : List ExD} {g : Addr → Option Obj} {s : Shared} (h : ∀ a, g a = s.heap.get? a) : obsVG n fa fn ex g = (hookV n fa fn ex).obs s := by
  have e : g = s.heap.get? := funext h
  rw [e] <;> rfl
section
variable {fa : PySem.W.Frag → Bool} {fn : List DefD} {ex : List ExD} {K : PySem.W.Frag}
theorem SaysV.facts (c : SaysV fa fn ex K) : fa K = true := (ba (show (fa K && ((fn.all fun d => d.ok K) && ex.all fun d => exB K d)) = true from congrArg (fun z : AlV => z.1) c)).1
theorem SaysV.def_ (c : SaysV fa fn ex K) (i : Nat) {d : DefD} (h : fn[i]? = some d := by rfl) : ∃ fd, FunD K d.name d.qual d.params d.body d.scope (d.dvs K) (d.kws K) (fAd K d.at_) fd := by
  have c2 := (ba (ba (show (fa K && ((fn.all fun d => d.ok K) && ex.all fun d => exB K d)) = true from congrArg (fun z : AlV => z.1) c)).2).1
  have e : (fn.map (fun d => fnW K d.at_))[i]? = (fn.map DefD.val)[i]? := congrArg (fun z : AlV => z.2.1[i]?) c
  rw [List.getElem?_map, List.getElem?_map, h] at e
  exact DefD.funD (Option.some.inj e) (List.all_eq_true.mp c2 d (List.mem_of_getElem? h))
theorem SaysV.ex_ (c : SaysV fa fn ex K) (i : Nat) {d : ExD} (h : ex[i]? = some d := by rfl) : (∃ fd, ExI K d.file (d.x ++ ".__init__") d.params d.body d.scope (ga K d.x) (iAd K d.x) fd) ∧ PySem.W.nsIn K mainGlobals d.x = some (some (.ref (ga K d.x))) ∧ (∀ f ∈ d.fields, PySem.W.findIn K (.ref (ga K d.x)) f = some none) ∧ XfC K (ga K d.x) := by
  have c2 := (ba (ba (show (fa K && ((fn.all fun d => d.ok K) && ex.all fun d => exB K d)) = true from congrArg (fun z : AlV => z.1) c)).2).2
  have e : (ex.map (fun d => fnC K d.x))[i]? = (ex.map ExD.val)[i]? := congrArg (fun z : AlV => z.2.2[i]?) c
  rw [List.getElem?_map, List.getElem?_map, h] at e
  exact exB_ok (List.all_eq_true.mp c2 d (List.mem_of_getElem? h)) (Option.some.inj e)
end
/-! ### a def, by its function object -/
theorem defOk_of {P : Program} {w : World} {K : PySem.W.Frag} {mg : Str → Option Value} {base : Heap} {x : Str} {k np : Nat} {G : Ev} {f : Addr} {fd : FuncData} {ps : List Str} (hn : ps.length = np) (hm : mg x = some (.ref f)) (kp : PySem.W.keepIn K (.ref f) = true) (hb : Binds K fd ps []) (Fn : FnG P w K mg base k f fd ps G) : DefOk P w K mg base x k np G :=
  ⟨f, fd, ps, hn, hm, kp, hb, Fn⟩
end VS


set_option Elab.async false
set_option linter.all false
set_option maxRecDepth 100000
/-! VS15: small things for derivations. -/
namespace VS
open PySem PySem.Spec PyProof.Rows L2
section
variable {X : Cx} {W : WX} {k : Nat} {K : KW}
theorem takes0 {s : Shared} {H : Hp} {scope : Scope} {env : Env} {fp : List Addr} : Takes (X.blk s H scope env fp) W0 := fun _ _ ⟨_, _, _, _, _, _, _, _, _, _, _, _, _, _, _, _, w⟩ => w.elim
theorem Ctx.blk (C : Ctx X W k) {s : Shared} {H : Hp} {scope : Scope} {env : Env} {fp : List Addr} : Ctx (X.blk s H scope env fp) W0 k := ⟨C.room, C.gd, takes0, C.calm⟩
theorem Ctx.u64 (C : Ctx X W k) : X.A.units + 64 < cLine := C.room.units
theorem Ctx.u65 (C : Ctx X W k) : X.A.units + 65 < cLine := by
  have := C.room.un
  omega
def gAddI : D → D → Option Vl
  | .int i, .int j => some (.fz (.int (i + j)))
  | _, _ => none
theorem prim_addI : Prim2 K (rI0 fun i j => .int (i + j)) gAddI := prim_int2 (c := fun _ _ => True) (fun i j H Q _ q => ⟨i, j, rfl, rfl, q⟩) fun d d' x e => by
  cases d <;> cases d' <;> cases e
  exact ⟨_, _, rfl, rfl, trivial, rfl⟩
def gSubI : D → D → Option Vl
  | .int i, .int j => some (.fz (.int (i - j)))
  | _, _ => none
theorem prim_subI : Prim2 K (rI0 fun i j => .int (i - j)) gSubI := prim_int2 (c := fun _ _ => True) (fun i j H Q _ q => ⟨i, j, rfl, rfl, q⟩) fun d d' x e => by
  cases d <;> cases d' <;> cases e
  exact ⟨_, _, rfl, rfl, trivial, rfl⟩
theorem dt_w {x : Expr} {f : Tv} (h : DW X W x f) : DT X W x f := h.pt
abbrev Xe := List (Str × D) → Option D
abbrev xC (d : D) : Xe := fun _ => some d
abbrev xF (f : Str) : Xe := fun fs => fs.lookup f
abbrev xNil : List (Str × D) → Option (List D) := fun _ => some []
abbrev xCons (fx : Xe) (fl : List (Str × D) → Option (List D)) : List (Str × D) → Option (List D) := fun fs => (fx fs).bind fun y => (fl fs).map (y :: ·)
abbrev xTup (fl : List (Str × D) → Option (List D)) : Xe := fun fs => (fl fs).bind fun ds => if ds.length ≤ sizeLine then some (.tuple ds) else none
abbrev xIs (b : Bool) : Xe := fun fs => if fs.isEmpty = false then some (.bool b) else none
end
/-! ### facts, once more -/
open He
def excCB (K : PySem.W.Frag) (C : Addr) : Bool :=
  eqO (PySem.W.findIn K (.ref C) "__getattribute__") (some (some (.builtin "BaseException.__getattribute__"))) && (eqO (PySem.W.findIn K (.ref C) "__getattr__") (some none) && (decide (PySem.W.subIn K (.ref C) (.type "BaseException") = some true) && (PySem.W.hasDictIn K C && (eqO (PySem.W.findIn K (.ref C) "__class__") (some (some (.builtin "object.__class__"))) &&
    (eqO (PySem.W.specialIn K (.builtin "object.__class__") "__get__") (some (some (.builtin "getset_descriptor.__get__"))) && (decide (PySem.W.takesIn K (.builtin "object.__class__") = some true) && decide (PySem.W.mroIn K C (.type "object") = some true)))))))
theorem excCB_ok {K : PySem.W.Frag} {C : Addr} (h : excCB K C = true) : ExcC K C := by
  obtain ⟨h1, h⟩ := ba h
  obtain ⟨h2, h⟩ := ba h
  obtain ⟨h3, h⟩ := ba h
  obtain ⟨h4, h⟩ := ba h
  obtain ⟨h5, h⟩ := ba h
  obtain ⟨h6, h⟩ := ba h
  obtain ⟨h7, h8⟩ := ba h
  exact ⟨eqO_ok h1, eqO_ok h2, of_decide_eq_true h3, h4, eqO_ok h5, eqO_ok h6, of_decide_eq_true h7, of_decide_eq_true h8⟩
structure ExcF (K : PySem.W.Frag) (c : Str) (fs : List Str) : Prop where
  xf : XfC K (ga K c)
  no : ∀ f ∈ fs, PySem.W.findIn K (.ref (ga K c)) f = some none
  exm : PySem.W.exmOne K (.ref (ga K c)) (.ref (ga K c)) = some true
  ec : ExcC K (ga K c)
/-- what isinstance answers: an own class, a built-in one -/
def kitB2 (K : PySem.W.Frag) (q : Str × Str × Bool) : Bool := decide (PySem.W.kitOne K (.ref (ga K q.1)) (.ref (ga K q.2.1)) = some q.2.2)
def kitB3 (K : PySem.W.Frag) (q : Str × String × Bool) : Bool := decide (PySem.W.kitOne K (.ref (ga K q.1)) (.type q.2.1) = some q.2.2)
def faV (fa : List Fa) (ec : List Str) (k2 : List (Str × Str × Bool)) (k3 : List (Str × String × Bool)) (K : PySem.W.Frag) : Bool := (fa.all fun f => f.ok K) && ((ec.all fun x => excCB K (ga K x)) && ((k2.all fun q => kitB2 K q) && k3.all fun q => kitB3 K q))
section
variable {fa : List Fa} {ec : List Str} {k2 : List (Str × Str × Bool)} {k3 : List (Str × String × Bool)} {K : PySem.W.Frag}
theorem faV_fa (h : faV fa ec k2 k3 K = true) (i : Nat) {f : Fa} (e : fa[i]? = some f := by rfl) : f.ok K = true := List.all_eq_true.mp (ba h).1 f (List.mem_of_getElem? e)
theorem faV_ec (h : faV fa ec k2 k3 K = true) (i : Nat) {x : Str} (e : ec[i]? = some x := by rfl) : ExcC K (ga K x) := excCB_ok (List.all_eq_true.mp (ba (ba h).2).1 x (List.mem_of_getElem? e))
theorem faV_k2 (h : faV fa ec k2 k3 K = true) (i : Nat) {x y : Str} {b : Bool} (e : k2[i]? = some (x, y, b) := by rfl) : PySem.W.kitOne K (.ref (ga K x)) (.ref (ga K y)) = some b := of_decide_eq_true (List.all_eq_true.mp (ba (ba (ba h).2).2).1 _ (List.mem_of_getElem? e))
theorem faV_k3 (h : faV fa ec k2 k3 K = true) (i : Nat) {x : Str} {y : String} {b : Bool} (e : k3[i]? = some (x, y, b) := by rfl) : PySem.W.kitOne K (.ref (ga K x)) (.type y) = some b := of_decide_eq_true (List.all_eq_true.mp (ba (ba (ba h).2).2).2 _ (List.mem_of_getElem? e))
theorem bindK {x qual : Str} {params : Arguments} {body : List Stmt} {scope : Scope} {f : Addr} {fd : FuncData} {ps ks : List Str} {np : Nat} (F : FunD K x qual params body scope [] [] f fd)
    (h : ∀ (kV doc pm : Value) (an : Option Addr) (cdv ct : Value) (us ws : List Value), us.length = np - ks.length → ws.length = ks.length → bindArgs (PySem.W.fnOf x qual params body scope .none kV doc pm an cdv ct) ⟨us, ks.zip ws⟩ = pure (ps.zip (us ++ ws))) :
    ∀ (s : Shared) (us ws : List Value), us.length + ws.length = np → ws.length = ks.length → BindsTo s fd ⟨us, ks.zip ws⟩ (ps.zip (us ++ ws)) := by
  obtain ⟨oc, od, dV, kV, doc, pm, an, cdv, ct, osl, rfl, lk, hcd, hD, hK⟩ := F.ex
  rcases hD with ⟨_, rfl⟩ | ⟨e, _⟩
  · exact fun s us ws h1 h2 => .of_eq (h kV doc pm an cdv ct us ws (by omega) h2)
  · exact absurd rfl e
end
end VS


set_option Elab.async false
set_option linter.all false
set_option maxRecDepth 100000
/-! VS16: evaluation lemmas. -/
namespace VS
open PySem PySem.Spec PyProof.Rows L2
section
variable {i j : Int} {ds : List D} {d : D} {e : En} {x y : Str}
theorem gAdd_ii : gAdd (.int i) (.int j) = some (.fz (.int (i + j))) := rfl
theorem gAdd_ss (h : x.length + y.length ≤ sizeLine) : gAdd (.str x) (.str y) = some (.fz (.str (x ++ y))) := if_pos h
theorem gAdd_ll {xs ys : List D} (h : xs.length + ys.length ≤ sizeLine) : gAdd (.list xs) (.list ys) = some (.ow 1 (.list (xs ++ ys))) := if_pos h
theorem gAdd_tt {xs ys : List D} (h : xs.length + ys.length ≤ sizeLine) : gAdd (.tuple xs) (.tuple ys) = some (.fz (.tuple (xs ++ ys))) := if_pos h
theorem gAddI_ii : gAddI (.int i) (.int j) = some (.fz (.int (i + j))) := rfl
theorem gSub_ii : gSub (.int i) (.int j) = some (.fz (.int (i - j))) := rfl
theorem gMul_r (h : isSmall j = true) : gMul (.int i) (.int j) = some (.fz (.int (i * j))) := if_pos (by rw [h, Bool.or_true])
theorem gMul_l (h : isSmall i = true) : gMul (.int i) (.int j) = some (.fz (.int (i * j))) := if_pos (by rw [h, Bool.true_or])
theorem gMul_si (h : okMul x j = true) : gMul (.str x) (.int j) = some (.fz (.str (Txt.mul x j))) := if_pos h
theorem gMod_ii (h : 0 < j) : gMod (.int i) (.int j) = some (.fz (.int (i % j))) := if_pos h
theorem gFdiv_ii (h : CDivB j = true) : gFdiv (.int i) (.int j) = some (.fz (.int (i / j))) := if_pos h
theorem gLt_ii : gLt (.int i) (.int j) = some (.fz (.bool (decide (i < j)))) := rfl
theorem gLe_ii : gLe (.int i) (.int j) = some (.fz (.bool (decide (i ≤ j)))) := rfl
theorem gGt_ii : gGt (.int i) (.int j) = some (.fz (.bool (decide (j < i)))) := rfl
theorem gGe_ii : gGe (.int i) (.int j) = some (.fz (.bool (decide (j ≤ i)))) := rfl
theorem gEq_ii : gEq (.int i) (.int j) = some (.fz (.bool (i == j))) := rfl
theorem gNe_ii : gNe (.int i) (.int j) = some (.fz (.bool (!(i == j)))) := rfl
theorem gEq_bb {a b : Bool} : gEq (.bool a) (.bool b) = some (.fz (.bool (a == b))) := rfl
theorem gNe_bb {a b : Bool} : gNe (.bool a) (.bool b) = some (.fz (.bool (!(a == b)))) := rfl
theorem gLen_l : gLen [.list ds] = some (.fz (.int ds.length)) := rfl
theorem gLen_t : gLen [.tuple ds] = some (.fz (.int ds.length)) := rfl
theorem gAbs_i : gAbs [.int i] = some (.fz (.int (if i < 0 then -i else i))) := rfl
theorem gInt_i : gInt [.int i] = some (.fz (.int i)) := rfl
theorem gInt_b {b : Bool} : gInt [.bool b] = some (.fz (.int (if b = true then 1 else 0))) := rfl
theorem gMax_ii : gMax2 [.int i, .int j] = some (.fz (.int (if j > i then j else i))) := rfl
theorem gStr_i (h : i.natAbs.log2 < 1920) : gStr [.int i] = some (.fz (.str (toString i))) := if_pos h
theorem gTuple_l : gTuple [.list ds] = some (.fz (.tuple ds)) := rfl
theorem gTuple_t : gTuple [.tuple ds] = some (.fz (.tuple ds)) := rfl
theorem gList_l : gList [.list ds] = some (.ow 1 (.list ds)) := rfl
theorem gList_t : gList [.tuple ds] = some (.ow 1 (.list ds)) := rfl
theorem gTup_ok (h : ds.length ≤ sizeLine) : gTup ds = some (.fz (.tuple ds)) := if_pos h
theorem gLst_ok (h : ds.length ≤ sizeLine) : gLst ds = some (.ow 1 (.list ds)) := if_pos h
theorem gIdx_l (h : atI ds i = some d) : gIdx (.list ds) (.int i) = some (.fz d) := by
  show (atI ds i).map Vl.fz = _
  rw [h]; rfl
theorem gIdx_t (h : atI ds i = some d) : gIdx (.tuple ds) (.int i) = some (.fz d) := by
  show (atI ds i).map Vl.fz = _
  rw [h]; rfl
theorem atI_nat {α : Type} {xs : List α} {n : Nat} {a : α} (h : xs[n]? = some a) : atI xs (n : Int) = some a := by
  have hn := (List.getElem?_eq_some_iff.mp h).1
  have h1 : (0 : Int) ≤ (n : Int) := by omega
  have h2 : (n : Int) < (xs.length : Int) := by omega
  simp only [atI, ixN, if_pos h1, if_pos h2, Option.bind_some]
  simpa using h
theorem ixN_nat {n k : Nat} (h : k < n) : ixN n (k : Int) = some k := by
  have h1 : (0 : Int) ≤ (k : Int) := by omega
  have h2 : (k : Int) < (n : Int) := by omega
  simp [ixN, h1, h2]
theorem eVar_fz {k : Nat} (h : e[k]? = some (.fz d)) : eVar k e = .ok (.fz d, e) := by unfold eVar; rw [h]
theorem eVar_ow {k n : Nat} (h : e[k]? = some (.ow n d)) : eVar k e = .ok (.fz d, e.set k (.fz d)) := by unfold eVar; rw [h]
theorem slice_to {n : Nat} : gSlice (.list ds) none (some (n : Int)) = some (.ow 1 (.list (ds.take n))) := by
  show some (Vl.ow 1 (.list (cutL ds none (some (n : Int))))) = _
  unfold cutL
  rw [HT.sIx_none, HT.sIx_nat]
  simp
theorem sSeq_nx {f g : Sv} {e' : En} (h : f e = .nx e') : sSeq f g e = g e' := by unfold sSeq; rw [h]
theorem sSeq_rt {f g : Sv} {e' : En} {v : Vl} (h : f e = .rt v e') : sSeq f g e = .rt v e' := by unfold sSeq; rw [h]
theorem sSeq_exc {f g : Sv} {e' : En} {c : Str} {fs : List (Str × D)} (h : f e = .exc c fs e') : sSeq f g e = .exc c fs e' := by unfold sSeq; rw [h]
theorem gDef_rt {io : List Nat} {np N : Nat} {f : Sv} {e' : En} {v : Vl} (h : f (e ++ List.replicate (N - np) .un) = .rt v e') : gDef io np N f e = .ok (v, mask io np e') := by unfold gDef; rw [h]
theorem gDef_exc {io : List Nat} {np N : Nat} {f : Sv} {e' : En} {c : Str} {fs : List (Str × D)} (h : f (e ++ List.replicate (N - np) .un) = .exc c fs e') : gDef io np N f e = .exc c fs (mask io np e') := by unfold gDef; rw [h]
theorem sSet_ok {k : Nat} {f : Ev} {v : Vl} {e' : En} (h : f e = .ok (v, e')) (hk : k < e'.length) : sSet k f e = .nx (e'.set k v.sl) := by
  unfold sSet
  rw [h]
  exact if_pos hk
theorem sRet_ok {f : Ev} {v : Vl} {e' : En} (h : f e = .ok (v, e')) : sRet f e = .rt v e' := by unfold sRet; rw [h]; rfl
theorem sIf_t {t : Tv} {f g : Sv} {e' : En} (h : t e = .ok (true, e')) : sIf t f g e = f e' := by unfold sIf; rw [h]; rfl
theorem sIf_f {t : Tv} {f g : Sv} {e' : En} (h : t e = .ok (false, e')) : sIf t f g e = g e' := by unfold sIf; rw [h]; rfl
theorem eCall_ok {np : Nat} {G : Ev} {fa : Av} {ds : List D} {v : Vl} {e' out : En} (h : fa e = .ok (ds, e')) (hl : ds.length = np) (hg : G (ds.map Sl.fz) = .ok (v, out)) : eCall np G fa e = .ok (v, e') := by
  unfold eCall
  rw [h]
  change (if ds.length = np then (match G (ds.map Sl.fz) with
    | .ok (x, _) => Rs.ok (x, e')
    | .exc c fs _ => .exc c fs e'
    | .stuck => .stuck) else .stuck) = _
  rw [if_pos hl, hg]
theorem eCall_exc {np : Nat} {G : Ev} {fa : Av} {ds : List D} {e' out : En} {c : Str} {fs : List (Str × D)} (h : fa e = .ok (ds, e')) (hl : ds.length = np) (hg : G (ds.map Sl.fz) = .exc c fs out) : eCall np G fa e = .exc c fs e' := by
  unfold eCall
  rw [h]
  change (if ds.length = np then (match G (ds.map Sl.fz) with
    | .ok (x, _) => Rs.ok (x, e')
    | .exc c fs _ => .exc c fs e'
    | .stuck => .stuck) else .stuck) = _
  rw [if_pos hl, hg]
theorem eLend_ok {np k n n0 : Nat} {G : Ev} {fa : Av} {ds : List D} {d d0 : D} {v : Vl} {e' out : En} {s : Sl} (h0 : e[k]? = some (.ow n0 d0)) (h : fa e = .ok (ds, e')) (h1 : e'[k]? = some (.ow n d)) (hl : ds.length + 1 = np) (hg : G (.ow n d :: ds.map Sl.fz) = .ok (v, s :: out)) : eLend np G k fa e = .ok (v, e'.set k s) := by
  unfold eLend
  rw [h0]
  change (fa e).bind _ = _
  rw [h]
  change (match e'[k]? with
    | some (.ow n d) => if ds.length + 1 = np then (match G (.ow n d :: ds.map Sl.fz) with
        | .ok (x, out) => Rs.ok (x, put0 k out e')
        | .exc c fs out => .exc c fs (put0 k out e')
        | .stuck => .stuck) else .stuck
    | _ => .stuck) = _
  rw [h1]
  change (if ds.length + 1 = np then (match G (.ow n d :: ds.map Sl.fz) with
        | .ok (x, out) => Rs.ok (x, put0 k out e')
        | .exc c fs out => .exc c fs (put0 k out e')
        | .stuck => .stuck) else .stuck) = _
  rw [if_pos hl, hg]
  rfl
theorem forL_nil {g : Gv} {f : Sv} : forL g f [] e = .nx e := rfl
theorem forL_nx {g : Gv} {f : Sv} {d : D} {ds : List D} {e1 e2 : En} (h1 : g d e = some e1) (h2 : f e1 = .nx e2) : forL g f (d :: ds) e = forL g f ds e2 := by
  show (match g d e with
    | none => Out.stuck
    | some e1 => match f e1 with
      | .nx e2 => forL g f ds e2
      | .ct e2 => forL g f ds e2
      | .bk e2 => .nx e2
      | .rt x e2 => .rt x e2
      | .exc c fs e2 => .exc c fs e2
      | .stuck => .stuck) = _
  rw [h1]
  change (match f e1 with
      | .nx e2 => forL g f ds e2
      | .ct e2 => forL g f ds e2
      | .bk e2 => .nx e2
      | .rt x e2 => .rt x e2
      | .exc c fs e2 => .exc c fs e2
      | .stuck => .stuck) = _
  rw [h2]
theorem sFor_ok {it : Iv} {g : Gv} {f : Sv} {ds : List D} {e' : En} (h : it e = .ok (ds, e')) : sFor it g f e = forL g f ds e' := by unfold sFor; rw [h]; rfl
theorem inR_nat {k : Nat} (h : k ≤ 1000000) : VS.inR (k : Int) = true := by
  unfold VS.inR
  simp only [Bool.and_eq_true, decide_eq_true_eq]
  omega
theorem rangeD_eq (k : Nat) : rangeD 0 k = (List.range' 0 k).map fun i => .int ((i : Nat) : Int) := by
  unfold rangeD
  rw [List.range_eq_range']
  congr 1
  funext i
  simp
theorem iRange1_nat {f : Ev} {v : Vl} {e' : En} {k : Nat} (h : f e = .ok (v, e')) (hv : v.d = .int (k : Int)) (hk : k ≤ 1000000) : iRange1 f e = .ok ((List.range' 0 k).map fun i => .int ((i : Nat) : Int), e') := by
  unfold iRange1
  rw [h]
  simp only [Rs.bind, hv]
  rw [if_pos (inR_nat hk), Int.toNat_natCast, rangeD_eq]
theorem iRevRange_nat {f : Ev} {v : Vl} {e' : En} {k : Nat} (h : f e = .ok (v, e')) (hv : v.d = .int (k : Int)) (hk : k ≤ 1000000) : iRevRange f e = .ok ((List.range k).map fun i => .int ((k : Int) - 1 - (i : Nat)), e') := by
  unfold iRevRange
  rw [h]
  simp only [Rs.bind, hv]
  rw [if_pos (inR_nat hk), Int.toNat_natCast]
  congr 2
  refine List.map_congr_left fun i _ => ?_
  congr 1
  omega
theorem compL_ok {n : Nat} {g : Gv} {t : Tv} {f : Ev} {vs : List Nat} {b : D → Bool} {y : D → D} (P : En → Prop) : ∀ {ds : List D} {e : En}, P (wipeE e vs) → (∀ d ∈ ds, ∀ E0, P E0 → ∃ e1 e2, g d E0 = some e1 ∧ t e1 = .ok (b d, e2) ∧ (b d = true → ∃ x e3, f e2 = .ok (x, e3) ∧ elt? n x = some (y d) ∧ P (wipeE e3 vs)) ∧ (b d = false → P (wipeE e2 vs))) →
    ∃ e', compL n g t f vs ds e = .ok ((ds.filter b).map y, e') ∧ P (wipeE e' vs)
  | [], e, h0, _ => ⟨e, rfl, h0⟩
  | d :: ds, e, h0, h => by
    obtain ⟨e1, e2, h1, h2, h3, h4⟩ := h d List.mem_cons_self _ h0
    cases hb : b d with
    | false =>
      rw [hb] at h2
      obtain ⟨e', q1, q2⟩ := compL_ok P (h4 hb) fun d' hd => h d' (List.mem_cons_of_mem _ hd)
      refine ⟨e', ?_, q2⟩
      unfold compL
      rw [h1]
      change (noX (t e1)).bind _ = _
      rw [h2]
      change compL n g t f vs ds e2 = _
      rw [q1, List.filter_cons_of_neg (by rw [hb]; simp)]
    | true =>
      rw [hb] at h2
      obtain ⟨x, e3, k1, k2, k3⟩ := h3 hb
      obtain ⟨e', q1, q2⟩ := compL_ok P k3 fun d' hd => h d' (List.mem_cons_of_mem _ hd)
      refine ⟨e', ?_, q2⟩
      unfold compL
      rw [h1]
      change (noX (t e1)).bind _ = _
      rw [h2]
      change (noX (f e2)).bind _ = _
      rw [k1]
      change (Rs.of (elt? n x)).bind _ = _
      rw [k2]
      change (compL n g t f vs ds e3).bind _ = _
      rw [q1, List.filter_cons_of_pos hb]
      rfl
theorem eComp_ok {n : Nat} {it : Iv} {g : Gv} {t : Tv} {f : Ev} {vs : List Nat} {b : D → Bool} {y : D → D} {ds : List D} {e0 : En} (P : En → Prop) (hi : it e = .ok (ds, e0)) (hP : P (wipeE e0 vs)) (h : ∀ d ∈ ds, ∀ E0, P E0 → ∃ e1 e2, g d E0 = some e1 ∧ t e1 = .ok (b d, e2) ∧ (b d = true → ∃ x e3, f e2 = .ok (x, e3) ∧ elt? n x = some (y d) ∧ P (wipeE e3 vs)) ∧ (b d = false → P (wipeE e2 vs)))
    (hl : ds.length ≤ sizeLine) : ∃ e', eComp n it g t f vs e = .ok (.ow (n + 1) (.list ((ds.filter b).map y)), e') ∧ P e' := by
  obtain ⟨e', q1, q2⟩ := compL_ok P hP h
  have hl2 : ((ds.filter b).map y).length ≤ sizeLine := by
    rw [List.length_map]
    exact Nat.le_trans (List.length_filter_le _ _) hl
  refine ⟨wipeE e' vs, ?_, q2⟩
  unfold eComp
  rw [hi]
  change (compL n g t f vs ds e0).bind _ = _
  rw [q1]
  change (if ((ds.filter b).map y).length ≤ sizeLine then Rs.ok (Vl.ow (n + 1) (.list ((ds.filter b).map y)), wipeE e' vs) else .stuck) = _
  rw [if_pos hl2]
/-- without a test -/
theorem eComp_all {n : Nat} {it : Iv} {g : Gv} {f : Ev} {vs : List Nat} {y : D → D} {ds : List D} {e0 : En} (P : En → Prop) (hi : it e = .ok (ds, e0)) (hP : P (wipeE e0 vs)) (h : ∀ d ∈ ds, ∀ E0, P E0 → ∃ e1 x e3, g d E0 = some e1 ∧ f e1 = .ok (x, e3) ∧ elt? n x = some (y d) ∧ P (wipeE e3 vs))
    (hl : ds.length ≤ sizeLine) : ∃ e', eComp n it g tYesD f vs e = .ok (.ow (n + 1) (.list (ds.map y)), e') ∧ P e' := by
  obtain ⟨e', q, q2⟩ := eComp_ok (n := n) (t := tYesD) (f := f) (b := fun _ => true) (y := y) (g := g) P hi hP (fun d hd E0 p0 => by
    obtain ⟨e1, x, e3, h1, h2, h3, h4⟩ := h d hd E0 p0
    exact ⟨e1, e1, h1, rfl, fun _ => ⟨x, e3, h2, h3, h4⟩, fun z => by cases z⟩) hl
  refine ⟨e', ?_, q2⟩
  rw [q]
  congr 4
  exact congrArg (List.map y) (List.filter_eq_self.mpr fun _ _ => rfl)
theorem eCallK_ok {np nk : Nat} {G : Ev} {fa fk : Av} {ds ds' : List D} {v : Vl} {e' e2 out : En} (h : fa e = .ok (ds, e')) (h2 : fk e' = .ok (ds', e2)) (hl : (ds ++ ds').length = np ∧ ds'.length = nk) (hg : G ((ds ++ ds').map Sl.fz) = .ok (v, out)) : eCallK np nk G fa fk e = .ok (v, e2) := by
  unfold eCallK
  rw [h]
  change (fk e').bind _ = _
  rw [h2]
  change (if (ds ++ ds').length = np ∧ ds'.length = nk then (match G ((ds ++ ds').map Sl.fz) with
    | .ok (x, _) => Rs.ok (x, e2)
    | .exc c fs _ => .exc c fs e2
    | .stuck => .stuck) else .stuck) = _
  rw [if_pos hl, hg]
end
end VS


set_option Elab.async false
set_option linter.all false
set_option maxRecDepth 100000
/-! VS17: texts that repr gives are texts; isinstance and repr(..) == repr(..) at equal data. -/
namespace VS
open PySem PySem.Spec PyProof.Rows L2
def okS (x : Str) : Prop := ∀ c ∈ x.cps.toList, c < 0x110000
theorem okS_of {x : Str} (h : PyData.strOk x = true) : okS x := by
  intro c hc
  have h0 : x.cps.all (· < 0x110000) = true := h
  have := (Array.all_eq_true_iff_forall_mem.mp h0) c (Array.mem_toList_iff.mp hc)
  simpa using this
theorem okS_to {x : Str} (h : okS x) : PyData.strOk x = true := by
  show x.cps.all (· < 0x110000) = true
  refine Array.all_eq_true_iff_forall_mem.mpr fun c hc => ?_
  have := h c (Array.mem_toList_iff.mpr hc)
  simpa using this
theorem okS_lay {x : Str} (h : okS x) : (PyData.str x).canLay0 = true := by simpa only [PyData.canLay0] using okS_to h
theorem okS_app {x y : Str} (h : okS x) (k : okS y) : okS (x ++ y) := by
  intro c hc
  have hc : c ∈ x.cps.toList ++ y.cps.toList := by rw [← Array.toList_append]; exact hc
  rcases List.mem_append.mp hc with h1 | h1
  · exact h c h1
  · exact k c h1
theorem char_lt (c : Char) : c.toNat < 0x110000 := by
  rcases c.valid with h | h
  · show c.val.toNat < _
    omega
  · show c.val.toNat < _
    omega
theorem okS_str (s : String) : okS (Str.ofString s) := by
  intro c hc
  rw [Str.ofString_eq_toList] at hc
  obtain ⟨k, _, rfl⟩ := List.mem_map.mp (by simpa using hc : c ∈ s.toList.map Char.toNat)
  exact char_lt k
theorem okS_empty : okS Str.empty := fun c hc => by simp [Str.empty] at hc
theorem okS_join {sep : Str} (hs : okS sep) : ∀ {l : List Str}, (∀ x ∈ l, okS x) → okS (Str.join sep l)
  | [], _ => okS_empty
  | [x], h => h x (List.mem_cons_self ..)
  | x :: y :: r, h => okS_app (okS_app (h x (List.mem_cons_self ..)) hs) (okS_join hs fun z hz => h z (List.mem_cons_of_mem _ hz))
theorem okS_textFrom : ∀ (l : List Str) (k : Nat) (acc : Str), okS acc → (∀ x ∈ l, okS x) → okS (textFrom k acc l)
  | [], _, _, h, _ => h
  | t :: r, k, acc, h, hl => okS_textFrom r (k + 1) _ (okS_app (okS_app h (by split <;> exact okS_str _)) (hl t (List.mem_cons_self ..))) fun z hz => hl z (List.mem_cons_of_mem _ hz)
theorem reprChar_lt {q c : Nat} (hq : q < 0x110000) (hc : c < 0x110000) : ∀ z ∈ PySem.Builtin.Str.reprChar q c, z < 0x110000 := by
  have hx : ∀ (w : Nat), ∀ z ∈ (List.replicate (w - ((Nat.toDigits 16 c).map Char.toNat).length) 48 ++ (Nat.toDigits 16 c).map Char.toNat), z < 0x110000 := fun w z hz => by
    rcases List.mem_append.mp hz with h | h
    · have := (List.mem_replicate.mp h).2
      omega
    · obtain ⟨k, _, rfl⟩ := List.mem_map.mp h
      exact char_lt k
  have two : ∀ a b : Nat, a < 0x110000 → b < 0x110000 → ∀ z ∈ [a, b], z < 0x110000 := fun a b ha hb z hz => by
    rcases List.mem_cons.mp hz with rfl | hz
    · exact ha
    · exact List.mem_singleton.mp hz ▸ hb
  intro z hz
  unfold PySem.Builtin.Str.reprChar at hz
  simp only at hz
  split at hz
  · exact two _ _ (by decide) hc z hz
  split at hz
  · exact two _ _ (by decide) (by decide) z hz
  split at hz
  · exact two _ _ (by decide) (by decide) z hz
  split at hz
  · exact two _ _ (by decide) (by decide) z hz
  split at hz
  · exact List.mem_singleton.mp hz ▸ hc
  split at hz
  · rcases List.mem_append.mp hz with h | h
    · exact two _ _ (by decide) (by decide) z h
    · exact hx 2 z h
  split at hz
  · rcases List.mem_append.mp hz with h | h
    · exact two _ _ (by decide) (by decide) z h
    · exact hx 4 z h
  · rcases List.mem_append.mp hz with h | h
    · exact two _ _ (by decide) (by decide) z h
    · exact hx 8 z h
theorem okS_repr {x : Str} (h : okS x) : okS (reprText x) := by
  have hq : reprQuote x < 0x110000 := by unfold reprQuote; split <;> decide
  have fold : ∀ (l : List Nat) (acc : Array Nat), (∀ c ∈ l, c < 0x110000) → (∀ c ∈ acc.toList, c < 0x110000) → ∀ c ∈ (l.foldl (fun out c => out ++ (PySem.Builtin.Str.reprChar (reprQuote x) c).toArray) acc).toList, c < 0x110000 := by
    intro l
    induction l with
    | nil => intro acc _ h2; exact h2
    | cons c l ih =>
      intro acc h1 h2
      refine ih _ (fun z hz => h1 z (List.mem_cons_of_mem _ hz)) fun z hz => ?_
      rw [Array.toList_append] at hz
      rcases List.mem_append.mp hz with h | h
      · exact h2 z h
      · exact reprChar_lt hq (h1 c (List.mem_cons_self ..)) z h
  intro c hc
  unfold reprText at hc
  simp only [Array.toList_push] at hc
  rcases List.mem_append.mp hc with h1 | h1
  · rw [← Array.foldl_toList] at h1
    refine fold x.cps.toList #[reprQuote x] h (fun z hz => ?_) c h1
    have e := List.mem_singleton.mp hz
    omega
  · have e := List.mem_singleton.mp h1
    omega
mutual
theorem shown_ok : ∀ d : D, d.canLay0 = true → okS d.shown
  | .none, _ => okS_str _
  | .bool b, _ => by cases b <;> exact okS_str _
  | .int i, _ => okS_str _
  | .str x, h => by
    simp only [PyData.shown]
    exact okS_repr (okS_of (by simpa only [PyData.canLay0] using h))
  | .list xs, h => by
    simp only [PyData.shown]
    exact okS_app (okS_textFrom _ 0 _ (okS_str _) (shown_okAll xs (by simpa only [PyData.canLay0] using h))) (okS_str _)
  | .tuple xs, h => by
    simp only [PyData.shown]
    unfold tupleText
    exact okS_app (okS_app (okS_str _) (okS_join (okS_str _) (shown_okAll xs (by simpa only [PyData.canLay0] using h)))) (by split <;> exact okS_str _)
  | .dict _, h => by simp [PyData.canLay0] at h
theorem shown_okAll : ∀ ds : List D, PyData.canLayAll0 ds = true → ∀ x ∈ PyData.shownAll ds, okS x
  | [], _, x, hx => by simp [PyData.shownAll] at hx
  | d :: ds, h, x, hx => by
    have h' : d.canLay0 = true ∧ PyData.canLayAll0 ds = true := by simpa only [PyData.canLayAll0, Bool.and_eq_true] using h
    simp only [PyData.shownAll] at hx
    rcases List.mem_cons.mp hx with rfl | hx
    · exact shown_ok d h'.1
    · exact shown_okAll ds h'.2 x hx
end
theorem isi_of {T n : String} {d : D} {b : Bool} {fa : Ev} {e e' : En} {v : Vl} (ht : tyName d = some n) (hk : kitB n T = some b) (h : fa e = .ok (v, e')) (hv : v.d = d) : eIsi T fa e = .ok (.fz (.bool b), e') := by
  unfold eIsi eUn
  rw [h]
  subst hv
  simp only [Rs.bind, Rs.of, ht, hk, Option.bind_some, Option.map_some]
theorem eq_self {d : D} (hc : d.canLay0 = true) (hd : d.depth ≤ 64) : gEq d d = some (.fz (.bool true)) := by
  have s : SeqAt.shaped d = true := by unfold SeqAt.shaped; rw [hc, decide_eq_true hd]; rfl
  unfold gEq
  rw [if_pos (by rw [s]; rfl), SeqAt.eqv_refl _ hc]
theorem eq_shown {d : D} (hc : d.canLay0 = true) : gEq (.str d.shown) (.str d.shown) = some (.fz (.bool true)) := eq_self (okS_lay (shown_ok d hc)) (by show (0 : Nat) ≤ 64; decide)
/-- `x == x` and `repr(x) == repr(x)` -/
theorem same_data {d : D} (hl : d.layable0 = true) (hi : d.intsShort 13 = true) (hs : d.showable = true) (hd : d.depth ≤ 60) : gEq d d = some (.fz (.bool true)) ∧ gRepr [d] = some (.fz (.str d.shown)) ∧ gEq (.str d.shown) (.str d.shown) = some (.fz (.bool true)) := by
  have hc : d.canLay0 = true := SeqAt.canLay_of_shaped (SeqAt.shaped_of_layable hl)
  have hnd := PyData.hasDict_of_canLay _ hc
  have hsz := PyData.shown_fits_of_layable0 (B := 13) (by decide) (by decide) hl hi
  refine ⟨eq_self hc (by omega), ?_, eq_shown hc⟩
  have rok : reprOk d = true := by
    unfold reprOk
    rw [hs, hnd, decide_eq_true hd, decide_eq_true hsz]; rfl
  show (if reprOk d = true then _ else _) = _
  rw [if_pos rok]
theorem sTryAs_rt {c0 : Str} {L : List Str} {i : Nat} {body : Sv} {fx : List (Str × D) → Option D} {e e' : En} {v : Vl} (h : body e = .rt v e') : sTryAs c0 L i body fx e = .rt v e' := by
  unfold sTryAs
  rw [h]
theorem sTryAs_exc {c0 : Str} {L : List Str} {i : Nat} {body : Sv} {fx : List (Str × D) → Option D} {e e' : En} {fs : List (Str × D)} {y : D} (h : body e = .exc c0 fs e') (hy : fx fs = some y) : sTryAs c0 L i body fx e = .rt (.fz y) (e'.set i .un) := by
  unfold sTryAs
  rw [h]
  simp only [if_true, hy]
theorem sRet_exc {f : Ev} {e e' : En} {c : Str} {fs : List (Str × D)} (h : f e = .exc c fs e') : sRet f e = .exc c fs e' := by
  unfold sRet
  rw [h]; rfl
end VS


set_option Elab.async false
set_option linter.all false
set_option maxRecDepth 100000
/-! VS18: data that can be shown and compared: lists of it. -/
namespace VS
open PySem PySem.Spec PyProof.Rows L2
theorem lay_all : ∀ {ds : List D}, (∀ d ∈ ds, d.canLay0 = true) → PyData.canLayAll0 ds = true
  | [], _ => rfl
  | d :: ds, h => by
    simp only [PyData.canLayAll0, h d (List.mem_cons_self ..), lay_all fun x hx => h x (List.mem_cons_of_mem _ hx), Bool.and_self]
theorem show_all : ∀ {ds : List D}, (∀ d ∈ ds, d.showable = true) → PyData.showableAll ds = true
  | [], _ => rfl
  | d :: ds, h => by
    simp only [PyData.showableAll, h d (List.mem_cons_self ..), show_all fun x hx => h x (List.mem_cons_of_mem _ hx), Bool.and_self]
theorem short_all {B : Nat} : ∀ {ds : List D}, (∀ d ∈ ds, d.intsShort B = true) → PyData.intsShortAll B ds = true
  | [], _ => rfl
  | d :: ds, h => by
    simp only [PyData.intsShortAll, h d (List.mem_cons_self ..), short_all fun x hx => h x (List.mem_cons_of_mem _ hx), Bool.and_self]
theorem depth_all {B : Nat} : ∀ {ds : List D}, (∀ d ∈ ds, d.depth ≤ B) → PyData.depthAll ds ≤ B
  | [], _ => Nat.zero_le _
  | d :: ds, h => by
    simp only [PyData.depthAll]
    exact Nat.max_le.mpr ⟨h d (List.mem_cons_self ..), depth_all fun x hx => h x (List.mem_cons_of_mem _ hx)⟩
theorem weight_all {B : Nat} : ∀ {ds : List D}, (∀ d ∈ ds, d.weight + 1 ≤ B) → PyData.weightAll ds ≤ ds.length * B
  | [], _ => Nat.zero_le _
  | d :: ds, h => by
    have h1 := h d (List.mem_cons_self ..)
    have h2 := weight_all (B := B) fun x hx => h x (List.mem_cons_of_mem _ hx)
    simp only [PyData.weightAll, List.length_cons, Nat.add_mul, Nat.one_mul]
    omega
/-- data of bounded depth and weight that can be laid, shown and compared -/
structure Fine (d : D) (k w : Nat) : Prop where
  lay : d.canLay0 = true
  sh : d.showable = true
  st : d.intsShort 13 = true
  dp : d.depth ≤ k
  wt : d.weight ≤ w
theorem Fine.mono {d : D} {k w k' w' : Nat} (h : Fine d k w) (hk : k ≤ k') (hw : w ≤ w') : Fine d k' w' := ⟨h.lay, h.sh, h.st, Nat.le_trans h.dp hk, Nat.le_trans h.wt hw⟩
theorem fine_bool (b : Bool) : Fine (.bool b) 0 0 := ⟨rfl, rfl, rfl, Nat.le_refl _, Nat.le_refl _⟩
theorem fine_none : Fine .none 0 0 := ⟨rfl, rfl, rfl, Nat.le_refl _, Nat.le_refl _⟩
theorem fine_str {x : Str} {n : Nat} (h : (PyData.str x).canLay0 = true) (hn : x.length ≤ n) : Fine (.str x) 0 n := ⟨h, rfl, rfl, Nat.le_refl _, hn⟩
theorem fine_int {i : Int} (h : i.natAbs < 10 ^ 12) : Fine (.int i) 0 41 := by
  have h40 : i.natAbs.log2 ≤ 40 := by
    by_cases z : i.natAbs = 0
    · rw [z]; decide
    · refine Nat.le_of_lt_succ ((Nat.log2_lt z).mpr (Nat.lt_trans h (by decide)))
  refine ⟨rfl, ?_, ?_, Nat.le_refl _, ?_⟩
  · simp only [PyData.showable, decide_eq_true_eq]; omega
  · simp only [PyData.intsShort, decide_eq_true_eq]; exact PyData.shown_int_le h
  · simp only [PyData.weight]
    split <;> omega
theorem fine_tup {ds : List D} {k w n : Nat} (h : ∀ d ∈ ds, Fine d k w) (hn : ds.length ≤ n) : Fine (.tuple ds) (k + 1) (n * (w + 1)) := by
  refine ⟨?_, ?_, ?_, ?_, ?_⟩
  · simp only [PyData.canLay0]; exact lay_all fun d hd => (h d hd).lay
  · simp only [PyData.showable]; exact show_all fun d hd => (h d hd).sh
  · simp only [PyData.intsShort]; exact short_all fun d hd => (h d hd).st
  · simp only [PyData.depth]; exact Nat.succ_le_succ (depth_all fun d hd => (h d hd).dp)
  · simp only [PyData.weight]
    exact Nat.le_trans (weight_all fun d hd => Nat.succ_le_succ (h d hd).wt) (Nat.mul_le_mul_right _ hn)
theorem fine_lst {ds : List D} {k w n : Nat} (h : ∀ d ∈ ds, Fine d k w) (hn : ds.length ≤ n) : Fine (.list ds) (k + 1) (n * (w + 1)) := by
  refine ⟨?_, ?_, ?_, ?_, ?_⟩
  · simp only [PyData.canLay0]; exact lay_all fun d hd => (h d hd).lay
  · simp only [PyData.showable]; exact show_all fun d hd => (h d hd).sh
  · simp only [PyData.intsShort]; exact short_all fun d hd => (h d hd).st
  · simp only [PyData.depth]; exact Nat.succ_le_succ (depth_all fun d hd => (h d hd).dp)
  · simp only [PyData.weight]
    exact Nat.le_trans (weight_all fun d hd => Nat.succ_le_succ (h d hd).wt) (Nat.mul_le_mul_right _ hn)
theorem Fine.layable {d : D} {k w : Nat} (h : Fine d k w) (hk : k ≤ 60) (hw : w ≤ 1048576) : d.layable0 = true := by
  unfold PyData.layable0
  have e : (2 : Nat) ^ 20 = 1048576 := by decide
  rw [h.lay, decide_eq_true (Nat.le_trans h.dp (Nat.le_trans hk (by decide))), decide_eq_true (by rw [e]; exact Nat.le_trans h.wt hw)]
  rfl
theorem Fine.same {d : D} {k w : Nat} (h : Fine d k w) (hk : k ≤ 60) (hw : w ≤ 1048576) : gEq d d = some (.fz (.bool true)) ∧ gRepr [d] = some (.fz (.str d.shown)) ∧ gEq (.str d.shown) (.str d.shown) = some (.fz (.bool true)) :=
  same_data (h.layable hk hw) h.st h.sh (Nat.le_trans h.dp hk)
end VS


set_option Elab.async false
set_option linter.all false
set_option maxRecDepth 100000
set_option maxHeartbeats 0
namespace K79
open PySem PySem.Spec PyProof.Rows L2 VS
def fuel : Nat := 1000000
def top (i : Nat) : Stmt := PySem.Challenge.pw_migraproof_k79_text_rows_in_order.main.body.getD i (.Pass ⟨0, 0, 0, 0⟩)
structure Bl (mg : Str → Option Value) : Prop where
  ValueError_ : mg "ValueError" = none
  abs_ : mg "abs" = none
  bool_ : mg "bool" = none
  enumerate_ : mg "enumerate" = none
  int_ : mg "int" = none
  isinstance_ : mg "isinstance" = none
  len_ : mg "len" = none
  list_ : mg "list" = none
  max_ : mg "max" = none
  range_ : mg "range" = none
  repr_ : mg "repr" = none
  reversed_ : mg "reversed" = none
  str_ : mg "str" = none
  sum_ : mg "sum" = none
  tuple_ : mg "tuple" = none
/-! numbered_texts -/
abbrev s_numbered_texts : Stmt := top 1
theorem S_numbered_texts : FnScope ["letter", "many", "but", "found", "number", "text"] ["letter", "many", "but"] (defScope s_numbered_texts) := ⟨rfl, rfl, rfl, by decide +kernel, rfl, by decide +kernel, by decide +kernel⟩
def m_numbered_texts : Sv :=
    sSeq (sSet 3 (eArgs gLst (aNil))) <|
    sSeq (sSet 4 (eC (.int 0))) <|
    sSeq (sWhile fuel (tPk (pkBin gLt (pkCall1 gLen (pkVar 3)) (pkVar 1))) (sSeq (sAug 4 gAddI (eC (.int 1))) <|
    sSeq (sSet 5 (eBin gAdd (eVar 0) (eArgs gStr (aCons (eVar 4) aNil)))) <|
    sIf (tTru (eBin gNotIn (eVar 5) (eVar 2))) (sExpr (eAppend 3 (eVar 5))) (sNx))) <|
    sRet (eArgs gTuple (aCons (eVar 3) aNil))
def g_numbered_texts : Ev := gDef [] 3 6 m_numbered_texts
theorem b_numbered_texts {P : Program} {w : World} {K : PySem.W.Frag} {mg : Str → Option Value} {base : Heap} {f : Addr} (B : Bl mg)  (cdv : Value) (A : Around) (outer : List Env) (s : Shared) (H : Hp) (E : XK)
    (C : Ctx (cxOf (L2.CX P w) P w K mg base ["letter", "many", "but", "found", "number", "text"] "numbered_texts" (defScope s_numbered_texts) f cdv A outer s H E) (fun c d _ H' => E c d H') 0) : DSs (cxOf (L2.CX P w) P w K mg base ["letter", "many", "but", "found", "number", "text"] "numbered_texts" (defScope s_numbered_texts) f cdv A outer s H E) (fun c d _ H' => E c d H') [] (defBody s_numbered_texts) m_numbered_texts := by
  have po : PassesOwn (model P w) (cxOf (L2.CX P w) P w K mg base ["letter", "many", "but", "found", "number", "text"] "numbered_texts" (defScope s_numbered_texts) f cdv A outer s H E).A (cxOf (L2.CX P w) P w K mg base ["letter", "many", "but", "found", "number", "text"] "numbered_texts" (defScope s_numbered_texts) f cdv A outer s H E).env (cxOf (L2.CX P w) P w K mg base ["letter", "many", "but", "found", "number", "text"] "numbered_texts" (defScope s_numbered_texts) f cdv A outer s H E).xe := passes_of rfl
  exact dss_cons (ds_set (i := 3) S_numbered_texts.nd rfl (by first | exact .inl rfl | exact .inr rfl) (de_lst (da_nil)) (by decide)) <|
    dss_cons (ds_set (i := 4) S_numbered_texts.nd rfl (by first | exact .inl rfl | exact .inr rfl) (de_int) (by decide)) <|
    dss_cons (ds_while po (dt_pkcmp op_lt prim_lt isB_lt (dp_callB1 call_lenA prim_len rfl B.len_ (by decide +kernel) (dp_var 3)) (dp_var 1) (nomark _)) (dss_cons (ds_aug (i := 4) S_numbered_texts.nd rfl (by first | exact .inl rfl | exact .inr rfl) (de_int) iop_add prim_addI (by decide)) <|
    dss_cons (ds_set (i := 5) S_numbered_texts.nd rfl (by first | exact .inl rfl | exact .inr rfl) (de_op op_addD prim_add (de_var 0) (de_callTy call_str_int prim_str rfl B.str_ (by decide +kernel) (da_cons (de_var 4) da_nil))) (by decide)) <|
    dss_one (ds_if (dt_cmp (op_notInA C.u65) prim_notin isB_notin (de_var 5) (de_var 2) rfl) (dss_one (ds_expr (de_append 3 (de_var 5)))) (dss_nil)))) <|
    dss_one (ds_ret (de_callTy call_tuple_of prim_tuple rfl B.tuple_ (by decide +kernel) (da_cons (de_var 3) da_nil)))
/-! sample_texts -/
abbrev s_sample_texts : Stmt := top 2
theorem S_sample_texts : FnScope ["many", "but"] ["many", "but"] (defScope s_sample_texts) := ⟨rfl, rfl, rfl, by decide +kernel, rfl, by decide +kernel, by decide +kernel⟩
def m_sample_texts : Sv :=
    sRet (eCall 3 g_numbered_texts (aCons (eC (.str "v")) (aCons (eVar 0) (aCons (eVar 1) aNil))))
def g_sample_texts : Ev := gDef [] 2 2 m_sample_texts
theorem b_sample_texts {P : Program} {w : World} {K : PySem.W.Frag} {mg : Str → Option Value} {base : Heap} {f : Addr} (B : Bl mg) (d_numbered_texts : DefOk P w K mg base "numbered_texts" 1 3 g_numbered_texts) (cdv : Value) (A : Around) (outer : List Env) (s : Shared) (H : Hp) (E : XK)
    (C : Ctx (cxOf (L2.CX P w) P w K mg base ["many", "but"] "sample_texts" (defScope s_sample_texts) f cdv A outer s H E) (fun c d _ H' => E c d H') 1) : DSs (cxOf (L2.CX P w) P w K mg base ["many", "but"] "sample_texts" (defScope s_sample_texts) f cdv A outer s H E) (fun c d _ H' => E c d H') [] (defBody s_sample_texts) m_sample_texts := by
  have po : PassesOwn (model P w) (cxOf (L2.CX P w) P w K mg base ["many", "but"] "sample_texts" (defScope s_sample_texts) f cdv A outer s H E).A (cxOf (L2.CX P w) P w K mg base ["many", "but"] "sample_texts" (defScope s_sample_texts) f cdv A outer s H E).env (cxOf (L2.CX P w) P w K mg base ["many", "but"] "sample_texts" (defScope s_sample_texts) f cdv A outer s H E).xe := passes_of rfl
  exact dss_one (ds_ret (de_call C d_numbered_texts (da_cons (de_str) (da_cons (de_var 0) (da_cons (de_var 1) da_nil)))))
/-! many_text_rows -/
abbrev s_many_text_rows : Stmt := top 8
theorem S_many_text_rows : FnScope ["length", "columns", "many", "ways", "column", "longer", "shifted", "used", "number"] ["length", "columns", "many"] (defScope s_many_text_rows) := ⟨rfl, rfl, rfl, by decide +kernel, rfl, by decide +kernel, by decide +kernel⟩
def m_many_text_rows : Sv :=
    sSeq (sSet 3 (eArgs gLst (aCons (eC (.int 1)) aNil))) <|
    sSeq (sFor (iRange1 (eVar 1)) (gNm 4) (sSeq (sSet 5 (eBin gAdd (eVar 3) (eArgs gLst (aCons (eC (.int 0)) aNil)))) <|
    sSeq (sSet 6 (eBin gAdd (eArgs gLst (aCons (eC (.int 0)) aNil)) (eVar 3))) <|
    sSet 3 (eComp 0 (iEnumL (eVar 5)) (gTupD [gNm 7, gNm 8]) (tYesD) (eBin gAdd (eBin gMul (eBin gAdd (eVar 0) (eVar 7)) (eVar 8)) (eBin gIdx (eVar 6) (eVar 7))) [7, 8]))) <|
    sRet (eBin gIdx (eVar 3) (eVar 2))
def g_many_text_rows : Ev := gDef [] 3 9 m_many_text_rows
theorem b_many_text_rows {P : Program} {w : World} {K : PySem.W.Frag} {mg : Str → Option Value} {base : Heap} {f : Addr} (B : Bl mg)  (cdv : Value) (A : Around) (outer : List Env) (s : Shared) (H : Hp) (E : XK)
    (C : Ctx (cxOf (L2.CX P w) P w K mg base ["length", "columns", "many", "ways", "column", "longer", "shifted", "used", "number"] "many_text_rows" (defScope s_many_text_rows) f cdv A outer s H E) (fun c d _ H' => E c d H') 0) : DSs (cxOf (L2.CX P w) P w K mg base ["length", "columns", "many", "ways", "column", "longer", "shifted", "used", "number"] "many_text_rows" (defScope s_many_text_rows) f cdv A outer s H E) (fun c d _ H' => E c d H') [] (defBody s_many_text_rows) m_many_text_rows := by
  have po : PassesOwn (model P w) (cxOf (L2.CX P w) P w K mg base ["length", "columns", "many", "ways", "column", "longer", "shifted", "used", "number"] "many_text_rows" (defScope s_many_text_rows) f cdv A outer s H E).A (cxOf (L2.CX P w) P w K mg base ["length", "columns", "many", "ways", "column", "longer", "shifted", "used", "number"] "many_text_rows" (defScope s_many_text_rows) f cdv A outer s H E).env (cxOf (L2.CX P w) P w K mg base ["length", "columns", "many", "ways", "column", "longer", "shifted", "used", "number"] "many_text_rows" (defScope s_many_text_rows) f cdv A outer s H E).xe := passes_of rfl
  exact dss_cons (ds_set (i := 3) S_many_text_rows.nd rfl (by first | exact .inl rfl | exact .inr rfl) (de_lst (da_cons (de_int) da_nil)) (by decide)) <|
    dss_cons (ds_for po C.calm (di_range1 rfl B.range_ (de_var 1)) (dg_name (i := 4) S_many_text_rows.nd rfl (by first | exact .inl rfl | exact .inr rfl) (by decide)) (dss_cons (ds_set (i := 5) S_many_text_rows.nd rfl (by first | exact .inl rfl | exact .inr rfl) (de_op op_addD prim_add (de_var 3) (de_lst (da_cons (de_int) da_nil))) (by decide)) <|
    dss_cons (ds_set (i := 6) S_many_text_rows.nd rfl (by first | exact .inl rfl | exact .inr rfl) (de_op op_addD prim_add (de_lst (da_cons (de_int) da_nil)) (de_var 3)) (by decide)) <|
    dss_one (ds_setComp (i := 3) (own := [("used", 7), ("number", 8)]) C.calm S_many_text_rows.nd rfl rfl (by decide) (sw_true rfl rfl rfl rfl) (di_enumL rfl B.enumerate_ (de_var 5)) (blkOk_by (own := [("used", 7), ("number", 8)]) (N := ["length", "columns", "many", "ways", "column", "longer", "shifted", "used", "number"]) (sc := defScope s_many_text_rows) (by decide +kernel)) (fun s H D cl fp => dg_tup (C.blk).calm (dgs_cons (dg_name (i := 7) S_many_text_rows.nd rfl (by first | exact .inl rfl | exact .inr rfl) (show ¬ 7 ∈ others 9 [7, 8] by decide)) (dgs_cons (dg_name (i := 8) S_many_text_rows.nd rfl (by first | exact .inl rfl | exact .inr rfl) (show ¬ 8 ∈ others 9 [7, 8] by decide)) dgs_nil))) (fun s H D cl fp => dts_nil) (fun s H D cl fp => de_op op_addD prim_add (de_op op_mulW2 prim_mul (de_op op_addD prim_add (de_var 0) (de_var 7)) (de_var 8)) (de_ix (de_var 6) (de_var 7)))))) <|
    dss_one (ds_ret (de_ix (de_var 3) (de_var 2)))
/-! with_text -/
abbrev s_with_text : Stmt := top 9
theorem S_with_text : FnScope ["rows", "texts", "samples", "left", "longer", "row", "used", "missing", "text"] ["rows", "texts", "samples", "left"] (defScope s_with_text) := ⟨rfl, rfl, rfl, by decide +kernel, rfl, by decide +kernel, by decide +kernel⟩
def m_with_text : Sv :=
    sSeq (sSet 4 (eArgs gLst (aNil))) <|
    sSeq (sFor (iSeq (eVar 0)) (gTupD [gNm 5, gNm 6]) (sSeq (sSet 7 (eBin gSub (eArgs gLen (aCons (eVar 2) aNil)) (eVar 6))) <|
    sSeq (sIf (tTru (eBin gLe (eVar 7) (eVar 3))) (sFor (iSeq (eBin gAdd (eVar 1) (eSlice (eVar 2) (pNo) (pSo (eVar 6))))) (gNm 8) (sExpr (eAppend 4 (eArgs gTup (aCons (eBin gAdd (eVar 5) (eArgs gTup (aCons (eVar 8) aNil))) (aCons (eVar 6) aNil)))))) (sNx)) <|
    sIf (tTru (eChain gLt gLe (eC (.int 0)) (eVar 7) (eBin gAdd (eVar 3) (eC (.int 1))))) (sExpr (eAppend 4 (eArgs gTup (aCons (eBin gAdd (eVar 5) (eArgs gTup (aCons (eBin gIdx (eVar 2) (eVar 6)) aNil))) (aCons (eBin gAdd (eVar 6) (eC (.int 1))) aNil))))) (sNx))) <|
    sRet (eMove 4)
def g_with_text : Ev := gDef [] 4 9 m_with_text
theorem b_with_text {P : Program} {w : World} {K : PySem.W.Frag} {mg : Str → Option Value} {base : Heap} {f : Addr} (B : Bl mg)  (cdv : Value) (A : Around) (outer : List Env) (s : Shared) (H : Hp) (E : XK)
    (C : Ctx (cxOf (L2.CX P w) P w K mg base ["rows", "texts", "samples", "left", "longer", "row", "used", "missing", "text"] "with_text" (defScope s_with_text) f cdv A outer s H E) (fun c d _ H' => E c d H') 0) : DSs (cxOf (L2.CX P w) P w K mg base ["rows", "texts", "samples", "left", "longer", "row", "used", "missing", "text"] "with_text" (defScope s_with_text) f cdv A outer s H E) (fun c d _ H' => E c d H') [] (defBody s_with_text) m_with_text := by
  have po : PassesOwn (model P w) (cxOf (L2.CX P w) P w K mg base ["rows", "texts", "samples", "left", "longer", "row", "used", "missing", "text"] "with_text" (defScope s_with_text) f cdv A outer s H E).A (cxOf (L2.CX P w) P w K mg base ["rows", "texts", "samples", "left", "longer", "row", "used", "missing", "text"] "with_text" (defScope s_with_text) f cdv A outer s H E).env (cxOf (L2.CX P w) P w K mg base ["rows", "texts", "samples", "left", "longer", "row", "used", "missing", "text"] "with_text" (defScope s_with_text) f cdv A outer s H E).xe := passes_of rfl
  exact dss_cons (ds_set (i := 4) S_with_text.nd rfl (by first | exact .inl rfl | exact .inr rfl) (de_lst (da_nil)) (by decide)) <|
    dss_cons (ds_for po C.calm (di_seq (de_var 0)) (dg_tup C.calm (dgs_cons (dg_name (i := 5) S_with_text.nd rfl (by first | exact .inl rfl | exact .inr rfl) (by decide)) (dgs_cons (dg_name (i := 6) S_with_text.nd rfl (by first | exact .inl rfl | exact .inr rfl) (by decide)) dgs_nil))) (dss_cons (ds_set (i := 7) S_with_text.nd rfl (by first | exact .inl rfl | exact .inr rfl) (de_op op_sub prim_sub (de_callB call_lenA prim_len rfl B.len_ (by decide +kernel) (da_cons (de_var 2) da_nil)) (de_var 6)) (by decide)) <|
    dss_cons (ds_if (dt_cmp op_le prim_le isB_le (de_var 7) (de_var 3) (nomark _)) (dss_one (ds_for po C.calm (di_seq (de_op op_addD prim_add (de_var 1) (de_slice (de_var 2) (do_none) (do_some (de_var 6))))) (dg_name (i := 8) S_with_text.nd rfl (by first | exact .inl rfl | exact .inr rfl) (by decide)) (dss_one (ds_expr (de_append 4 (de_tup (da_cons (de_op op_addD prim_add (de_var 5) (de_tup (da_cons (de_var 8) da_nil))) (da_cons (de_var 6) da_nil)))))))) (dss_nil)) <|
    dss_one (ds_if (dt_chain op_lt op_le prim_lt prim_le isB_lt isB_le (de_int) (de_var 7) (de_op op_addD prim_add (de_var 3) (de_int))) (dss_one (ds_expr (de_append 4 (de_tup (da_cons (de_op op_addD prim_add (de_var 5) (de_tup (da_cons (de_ix (de_var 2) (de_var 6)) da_nil))) (da_cons (de_op op_addD prim_add (de_var 6) (de_int)) da_nil)))))) (dss_nil)))) <|
    dss_one (ds_ret (de_move 4))
/-! text_rows -/
abbrev s_text_rows : Stmt := top 10
theorem S_text_rows : FnScope ["texts", "columns", "many", "count", "samples", "rows", "left", "row", "used"] ["texts", "columns", "many"] (defScope s_text_rows) := ⟨rfl, rfl, rfl, by decide +kernel, rfl, by decide +kernel, by decide +kernel⟩
def m_text_rows : Sv :=
    sSeq (sSet 3 (eCall 3 g_many_text_rows (aCons (eArgs gLen (aCons (eVar 0) aNil)) (aCons (eVar 1) (aCons (eVar 2) aNil))))) <|
    sSeq (sIf (tTru (eBin gGt (eVar 3) (eC (.int 300)))) (sRaise "TooManyCases" 1 (fs1 "count") (aCons (eVar 3) aNil)) (sNx)) <|
    sSeq (sSet 4 (eCallK 2 1 g_sample_texts (aCons (eVar 2) aNil) (aCons (eVar 0) (aNil)))) <|
    sSeq (sSet 5 (eArgs gLst (aCons (eArgs gTup (aCons (eArgs gTup (aNil)) (aCons (eC (.int 0)) aNil))) aNil))) <|
    sSeq (sFor (iRevRange (eVar 1)) (gNm 6) (sSet 5 (eCall 4 g_with_text (aCons (eVar 5) (aCons (eVar 0) (aCons (eVar 4) (aCons (eVar 6) aNil))))))) <|
    sRet (eArgs gTuple (aCons (eComp 0 (iSeq (eVar 5)) (gTupD [gNm 7, gNm 8]) (tYesD) (eVar 7) [7, 8]) aNil))
def g_text_rows : Ev := gDef [] 3 9 m_text_rows
theorem b_text_rows {P : Program} {w : World} {K : PySem.W.Frag} {mg : Str → Option Value} {base : Heap} {f : Addr} (B : Bl mg) (d_many_text_rows : DefOk P w K mg base "many_text_rows" 1 3 g_many_text_rows) (d_sample_texts : DefOkK P w K mg base "sample_texts" 2 2 ["but"] g_sample_texts) (d_with_text : DefOk P w K mg base "with_text" 1 4 g_with_text) (r_TooManyCases : RaiseOk P w K mg base "TooManyCases" 1 1 (fs1 "count")) {t_MOST_CASES : Tok} (G_MOST_CASES : mg "MOST_CASES" = some (.int 300 t_MOST_CASES)) (cdv : Value) (A : Around) (outer : List Env) (s : Shared) (H : Hp) (E : XK)
    (C : Ctx (cxOf (L2.CX P w) P w K mg base ["texts", "columns", "many", "count", "samples", "rows", "left", "row", "used"] "text_rows" (defScope s_text_rows) f cdv A outer s H E) (fun c d _ H' => E c d H') 2) : DSs (cxOf (L2.CX P w) P w K mg base ["texts", "columns", "many", "count", "samples", "rows", "left", "row", "used"] "text_rows" (defScope s_text_rows) f cdv A outer s H E) (fun c d _ H' => E c d H') [] (defBody s_text_rows) m_text_rows := by
  have po : PassesOwn (model P w) (cxOf (L2.CX P w) P w K mg base ["texts", "columns", "many", "count", "samples", "rows", "left", "row", "used"] "text_rows" (defScope s_text_rows) f cdv A outer s H E).A (cxOf (L2.CX P w) P w K mg base ["texts", "columns", "many", "count", "samples", "rows", "left", "row", "used"] "text_rows" (defScope s_text_rows) f cdv A outer s H E).env (cxOf (L2.CX P w) P w K mg base ["texts", "columns", "many", "count", "samples", "rows", "left", "row", "used"] "text_rows" (defScope s_text_rows) f cdv A outer s H E).xe := passes_of rfl
  exact dss_cons (ds_set (i := 3) S_text_rows.nd rfl (by first | exact .inl rfl | exact .inr rfl) (de_call C d_many_text_rows (da_cons (de_callB call_lenA prim_len rfl B.len_ (by decide +kernel) (da_cons (de_var 0) da_nil)) (da_cons (de_var 1) (da_cons (de_var 2) da_nil)))) (by decide)) <|
    dss_cons (ds_if (dt_cmp op_gt prim_gt isB_gt (de_var 3) (de_glob (v := .int 300) rfl G_MOST_CASES ⟨_, rfl⟩ (fun _ => .int 300)) (nomark _)) (dss_one (ds_raise C r_TooManyCases (da_cons (de_var 3) da_nil))) (dss_nil)) <|
    dss_cons (ds_set (i := 4) S_text_rows.nd rfl (by first | exact .inl rfl | exact .inr rfl) (de_callK C d_sample_texts (da_cons (de_var 2) da_nil) (dk_cons (de_var 0) (dk_nil))) (by decide)) <|
    dss_cons (ds_set (i := 5) S_text_rows.nd rfl (by first | exact .inl rfl | exact .inr rfl) (de_lst (da_cons (de_tup (da_cons (de_tup (da_nil)) (da_cons (de_int) da_nil))) da_nil)) (by decide)) <|
    dss_cons (ds_for po C.calm (di_revRange rfl B.reversed_ rfl B.range_ (de_var 1)) (dg_name (i := 6) S_text_rows.nd rfl (by first | exact .inl rfl | exact .inr rfl) (by decide)) (dss_one (ds_set (i := 5) S_text_rows.nd rfl (by first | exact .inl rfl | exact .inr rfl) (de_call C d_with_text (da_cons (de_var 5) (da_cons (de_var 0) (da_cons (de_var 4) (da_cons (de_var 6) da_nil))))) (by decide)))) <|
    dss_one (ds_ret (de_callTy call_tuple_of prim_tuple rfl B.tuple_ (by decide +kernel) (da_cons (de_comp (own := [("row", 7), ("used", 8)]) C.calm S_text_rows.nd (di_seq (de_var 5)) (blkOk_by (own := [("row", 7), ("used", 8)]) (N := ["texts", "columns", "many", "count", "samples", "rows", "left", "row", "used"]) (sc := defScope s_text_rows) (by decide +kernel)) (fun s H D cl fp => dg_tup (C.blk).calm (dgs_cons (dg_name (i := 7) S_text_rows.nd rfl (by first | exact .inl rfl | exact .inr rfl) (show ¬ 7 ∈ others 9 [7, 8] by decide)) (dgs_cons (dg_name (i := 8) S_text_rows.nd rfl (by first | exact .inl rfl | exact .inr rfl) (show ¬ 8 ∈ others 9 [7, 8] by decide)) dgs_nil))) (fun s H D cl fp => dts_nil) (fun s H D cl fp => de_var 7)) da_nil)))
/-! l_tape -/
abbrev s_l_tape : Stmt := top 12
theorem S_l_tape : FnScope ["_law_script", "_law_total", "_law_cell"] ["_law_script"] (defScope s_l_tape) := ⟨rfl, rfl, rfl, by decide +kernel, rfl, by decide +kernel, by decide +kernel⟩
def m_l_tape : Sv :=
    sSeq (sSet 1 (eC (.int 7))) <|
    sSeq (sFor (iSeq (eVar 0)) (gNm 2) (sSet 1 (eBin gMod (eArgs gInt (aCons (eBin gAdd (eBin gMul (eVar 1) (eC (.int 31))) (eArgs gAbs (aCons (eArgs gInt (aCons (eVar 2) aNil)) aNil))) aNil)) (eC (.int 2147483647))))) <|
    sRet (eArgs gLst (aCons (eArgs gList (aCons (eVar 0) aNil)) (aCons (eC (.int 0)) (aCons (eC (.int 0)) (aCons (eVar 1) aNil)))))
def g_l_tape : Ev := gDef [] 1 3 m_l_tape
theorem b_l_tape {P : Program} {w : World} {K : PySem.W.Frag} {mg : Str → Option Value} {base : Heap} {f : Addr} (B : Bl mg)  (cdv : Value) (A : Around) (outer : List Env) (s : Shared) (H : Hp) (E : XK)
    (C : Ctx (cxOf (L2.CX P w) P w K mg base ["_law_script", "_law_total", "_law_cell"] "_law_tape" (defScope s_l_tape) f cdv A outer s H E) (fun c d _ H' => E c d H') 0) : DSs (cxOf (L2.CX P w) P w K mg base ["_law_script", "_law_total", "_law_cell"] "_law_tape" (defScope s_l_tape) f cdv A outer s H E) (fun c d _ H' => E c d H') [] (defBody s_l_tape) m_l_tape := by
  have po : PassesOwn (model P w) (cxOf (L2.CX P w) P w K mg base ["_law_script", "_law_total", "_law_cell"] "_law_tape" (defScope s_l_tape) f cdv A outer s H E).A (cxOf (L2.CX P w) P w K mg base ["_law_script", "_law_total", "_law_cell"] "_law_tape" (defScope s_l_tape) f cdv A outer s H E).env (cxOf (L2.CX P w) P w K mg base ["_law_script", "_law_total", "_law_cell"] "_law_tape" (defScope s_l_tape) f cdv A outer s H E).xe := passes_of rfl
  exact dss_cons (ds_set (i := 1) S_l_tape.nd rfl (by first | exact .inl rfl | exact .inr rfl) (de_int) (by decide)) <|
    dss_cons (ds_for po C.calm (di_seq (de_var 0)) (dg_name (i := 2) S_l_tape.nd rfl (by first | exact .inl rfl | exact .inr rfl) (by decide)) (dss_one (ds_set (i := 1) S_l_tape.nd rfl (by first | exact .inl rfl | exact .inr rfl) (de_op op_mod prim_mod (de_callTy call_int1 prim_int rfl B.int_ (by decide +kernel) (da_cons (de_op op_addD prim_add (de_op op_mulW2 prim_mul (de_var 1) (de_int)) (de_callB call_abs prim_abs rfl B.abs_ (by decide +kernel) (da_cons (de_callTy call_int1 prim_int rfl B.int_ (by decide +kernel) (da_cons (de_var 2) da_nil)) da_nil))) da_nil)) (de_int)) (by decide)))) <|
    dss_one (ds_ret (de_lst (da_cons (de_callTy call_list_of prim_list rfl B.list_ (by decide +kernel) (da_cons (de_var 0) da_nil)) (da_cons (de_int) (da_cons (de_int) (da_cons (de_var 1) da_nil))))))
/-! l_draw -/
abbrev s_l_draw : Stmt := top 13
theorem S_l_draw : FnScope ["_law_tape_here", "_law_many", "_law_place", "_law_number"] ["_law_tape_here", "_law_many"] (defScope s_l_draw) := ⟨rfl, rfl, rfl, by decide +kernel, rfl, by decide +kernel, by decide +kernel⟩
def m_l_draw : Sv :=
    sSeq (sIf (tPk (pkBin gEq (pkBin gIdx (pkVar 0) (pkC (.int 2))) (pkC (.int 0)))) (sSeq (sSet 2 (ePk (pkBin gIdx (pkVar 0) (pkC (.int 1))))) <|
    sSeq (sSet 3 (eC (.int 0))) <|
    sSeq (sIf (tPk (pkBin gLt (pkVar 2) (pkCall1 gLen (pkBin gIdx (pkVar 0) (pkC (.int 0)))))) (sSet 3 (ePk (pkCall1 gAbs (pkCall1 gInt (pkBin gIdx (pkBin gIdx (pkVar 0) (pkC (.int 0))) (pkVar 2)))))) (sSeq (sSetIx 0 (pkC (.int 3)) (ePk (pkBin gMod (pkCall1 gInt (pkBin gAdd (pkBin gAdd (pkBin gMul (pkBin gIdx (pkVar 0) (pkC (.int 3))) (pkC (.int 48271))) (pkVar 2)) (pkC (.int 1)))) (pkC (.int 2147483647))))) <|
    sSet 3 (ePk (pkBin gIdx (pkVar 0) (pkC (.int 3)))))) <|
    sSeq (sSetIx 0 (pkC (.int 1)) (eBin gAdd (eVar 2) (eC (.int 1)))) <|
    sSeq (sIf (tTru (eBin gLt (eVar 3) (eBin gPow (eC (.int 10)) (eC (.int 18))))) (sSeq (sSet 3 (eBin gMod (eArgs gInt (aCons (eBin gAdd (eBin gAdd (eBin gMul (eVar 3) (eC (.int 48271))) (eBin gMul (eVar 2) (eC (.int 69621)))) (eC (.int 5))) aNil)) (eC (.int 2147483647)))) <|
    sSeq (sSet 3 (eBin gMod (eArgs gInt (aCons (eBin gMul (eVar 3) (eC (.int 69621))) aNil)) (eC (.int 2147483629)))) <|
    sRet (eBin gMod (eArgs gInt (aCons (eVar 3) aNil)) (eArgs gMax2 (aCons (eVar 1) (aCons (eC (.int 1)) aNil))))) (sNx)) <|
    sSetIx 0 (pkC (.int 2)) (eVar 3)) (sNx)) <|
    sSeq (sSet 3 (ePk (pkBin gIdx (pkVar 0) (pkC (.int 2))))) <|
    sSeq (sSetIx 0 (pkC (.int 2)) (eBin gFdiv (eVar 3) (eArgs gMax2 (aCons (eVar 1) (aCons (eC (.int 2)) aNil))))) <|
    sRet (eBin gMod (eArgs gInt (aCons (eVar 3) aNil)) (eArgs gMax2 (aCons (eVar 1) (aCons (eC (.int 1)) aNil))))
def g_l_draw : Ev := gDef [0] 2 4 m_l_draw
theorem b_l_draw {P : Program} {w : World} {K : PySem.W.Frag} {mg : Str → Option Value} {base : Heap} {f : Addr} (B : Bl mg)  (cdv : Value) (A : Around) (outer : List Env) (s : Shared) (H : Hp) (E : XK)
    (C : Ctx (cxOf (L2.CX P w) P w K mg base ["_law_tape_here", "_law_many", "_law_place", "_law_number"] "_law_draw" (defScope s_l_draw) f cdv A outer s H E) (fun c d _ H' => E c d H') 0) : DSs (cxOf (L2.CX P w) P w K mg base ["_law_tape_here", "_law_many", "_law_place", "_law_number"] "_law_draw" (defScope s_l_draw) f cdv A outer s H E) (fun c d _ H' => E c d H') [0] (defBody s_l_draw) m_l_draw := by
  have po : PassesOwn (model P w) (cxOf (L2.CX P w) P w K mg base ["_law_tape_here", "_law_many", "_law_place", "_law_number"] "_law_draw" (defScope s_l_draw) f cdv A outer s H E).A (cxOf (L2.CX P w) P w K mg base ["_law_tape_here", "_law_many", "_law_place", "_law_number"] "_law_draw" (defScope s_l_draw) f cdv A outer s H E).env (cxOf (L2.CX P w) P w K mg base ["_law_tape_here", "_law_many", "_law_place", "_law_number"] "_law_draw" (defScope s_l_draw) f cdv A outer s H E).xe := passes_of rfl
  exact dss_cons (ds_if (dt_pkcmp (op_eqD C.u64) prim_eq isB_eq (dp_ix (dp_var 0) (dp_int)) (dp_int) (nomark _)) (dss_cons (ds_set (i := 2) S_l_draw.nd rfl (by first | exact .inl rfl | exact .inr rfl) (de_pk (dp_ix (dp_var 0) (dp_int))) (by decide)) <|
    dss_cons (ds_set (i := 3) S_l_draw.nd rfl (by first | exact .inl rfl | exact .inr rfl) (de_int) (by decide)) <|
    dss_cons (ds_if (dt_pkcmp op_lt prim_lt isB_lt (dp_var 2) (dp_callB1 call_lenA prim_len rfl B.len_ (by decide +kernel) (dp_ix (dp_var 0) (dp_int))) (nomark _)) (dss_one (ds_set (i := 3) S_l_draw.nd rfl (by first | exact .inl rfl | exact .inr rfl) (de_pk (dp_callB1 call_abs prim_abs rfl B.abs_ (by decide +kernel) (dp_callTy1 call_int1 prim_int rfl B.int_ (by decide +kernel) (dp_ix (dp_ix (dp_var 0) (dp_int)) (dp_var 2))))) (by decide))) (dss_cons (ds_setIx 0 (de_pk (dp_op op_mod prim_mod (dp_callTy1 call_int1 prim_int rfl B.int_ (by decide +kernel) (dp_op op_addD prim_add (dp_op op_addD prim_add (dp_op op_mulW2 prim_mul (dp_ix (dp_var 0) (dp_int)) (dp_int)) (dp_var 2)) (dp_int))) (dp_int))) (dp_int)) <|
    dss_one (ds_set (i := 3) S_l_draw.nd rfl (by first | exact .inl rfl | exact .inr rfl) (de_pk (dp_ix (dp_var 0) (dp_int))) (by decide)))) <|
    dss_cons (ds_setIx 0 (de_op op_addD prim_add (de_var 2) (de_int)) (dp_int)) <|
    dss_cons (ds_if (dt_cmp op_lt prim_lt isB_lt (de_var 3) (de_op op_pow prim_pow (de_int) (de_int)) (nomark _)) (dss_cons (ds_set (i := 3) S_l_draw.nd rfl (by first | exact .inl rfl | exact .inr rfl) (de_op op_mod prim_mod (de_callTy call_int1 prim_int rfl B.int_ (by decide +kernel) (da_cons (de_op op_addD prim_add (de_op op_addD prim_add (de_op op_mulW2 prim_mul (de_var 3) (de_int)) (de_op op_mulW2 prim_mul (de_var 2) (de_int))) (de_int)) da_nil)) (de_int)) (by decide)) <|
    dss_cons (ds_set (i := 3) S_l_draw.nd rfl (by first | exact .inl rfl | exact .inr rfl) (de_op op_mod prim_mod (de_callTy call_int1 prim_int rfl B.int_ (by decide +kernel) (da_cons (de_op op_mulW2 prim_mul (de_var 3) (de_int)) da_nil)) (de_int)) (by decide)) <|
    dss_one (ds_ret (de_op op_mod prim_mod (de_callTy call_int1 prim_int rfl B.int_ (by decide +kernel) (da_cons (de_var 3) da_nil)) (de_callB (call_max2 C.calm) prim_max2 rfl B.max_ (by decide +kernel) (da_cons (de_var 1) (da_cons (de_int) da_nil)))))) (dss_nil)) <|
    dss_one (ds_setIx 0 (de_var 3) (dp_int))) (dss_nil)) <|
    dss_cons (ds_set (i := 3) S_l_draw.nd rfl (by first | exact .inl rfl | exact .inr rfl) (de_pk (dp_ix (dp_var 0) (dp_int))) (by decide)) <|
    dss_cons (ds_setIx 0 (de_op op_fdiv prim_fdiv (de_var 3) (de_callB (call_max2 C.calm) prim_max2 rfl B.max_ (by decide +kernel) (da_cons (de_var 1) (da_cons (de_int) da_nil)))) (dp_int)) <|
    dss_one (ds_ret (de_op op_mod prim_mod (de_callTy call_int1 prim_int rfl B.int_ (by decide +kernel) (da_cons (de_var 3) da_nil)) (de_callB (call_max2 C.calm) prim_max2 rfl B.max_ (by decide +kernel) (da_cons (de_var 1) (da_cons (de_int) da_nil)))))
/-! l_texts -/
abbrev s_l_texts : Stmt := top 14
theorem S_l_texts : FnScope ["_law_tape_here", "_law_many", "_law_menu", "_law_found", "_law_k", "_law_number", "_law_text"] ["_law_tape_here", "_law_many"] (defScope s_l_texts) := ⟨rfl, rfl, rfl, by decide +kernel, rfl, by decide +kernel, by decide +kernel⟩
def m_l_texts : Sv :=
    sSeq (sSet 2 (eArgs gLst (aCons (eC (.str "")) (aCons (eC (.str "v1")) (aCons (eC (.str "v2")) (aCons (eC (.str "c1")) (aCons (eC (.str "b")) (aCons (eC (.str "v3")) (aCons (eC (.str "x y")) (aCons (eC (.str "null")) (aCons (eC (.str "c2")) (aCons (eC (.str "V1")) (aCons (eC (.str "v10")) (aCons (eC (.str "p1")) aNil)))))))))))))) <|
    sSeq (sSet 3 (eArgs gLst (aNil))) <|
    sSeq (sFor (iRange1 (eVar 1)) (gNm 4) (sSeq (sSet 5 (eLend 2 g_l_draw 0 (aCons (eC (.int 480)) aNil))) <|
    sSeq (sSet 6 (eBin gIdx (eVar 2) (eBin gMod (eArgs gInt (aCons (eVar 5) aNil)) (eC (.int 12))))) <|
    sSeq (sIf (tTru (eBin gEq (eBin gMod (eArgs gInt (aCons (eBin gFdiv (eVar 5) (eC (.int 12))) aNil)) (eC (.int 3))) (eC (.int 0)))) (sSet 6 (eBin gAdd (eSlice (eVar 6) (pNo) (pSo (eC (.int 3)))) (eBin gMul (eBin gIdx (eC (.str "~A0z")) (eBin gMod (eArgs gInt (aCons (eBin gFdiv (eVar 5) (eC (.int 36))) aNil)) (eC (.int 4)))) (eBin gAdd (eC (.int 1)) (eArgs gInt (aCons (eBin gFdiv (eVar 5) (eC (.int 144))) aNil)))))) (sNx)) <|
    sSeq (sIf (tPk (pkBin gIn (pkVar 6) (pkVar 3))) (sSet 6 (eBin gAdd (eC (.str "w")) (eArgs gStr (aCons (eVar 4) aNil)))) (sNx)) <|
    sExpr (eAppend 3 (eVar 6)))) <|
    sRet (eMove 3)
def g_l_texts : Ev := gDef [0] 2 7 m_l_texts
theorem b_l_texts {P : Program} {w : World} {K : PySem.W.Frag} {mg : Str → Option Value} {base : Heap} {f : Addr} (B : Bl mg) (d_l_draw : DefOk P w K mg base "_law_draw" 1 2 g_l_draw) (cdv : Value) (A : Around) (outer : List Env) (s : Shared) (H : Hp) (E : XK)
    (C : Ctx (cxOf (L2.CX P w) P w K mg base ["_law_tape_here", "_law_many", "_law_menu", "_law_found", "_law_k", "_law_number", "_law_text"] "_law_texts" (defScope s_l_texts) f cdv A outer s H E) (fun c d _ H' => E c d H') 1) : DSs (cxOf (L2.CX P w) P w K mg base ["_law_tape_here", "_law_many", "_law_menu", "_law_found", "_law_k", "_law_number", "_law_text"] "_law_texts" (defScope s_l_texts) f cdv A outer s H E) (fun c d _ H' => E c d H') [0] (defBody s_l_texts) m_l_texts := by
  have po : PassesOwn (model P w) (cxOf (L2.CX P w) P w K mg base ["_law_tape_here", "_law_many", "_law_menu", "_law_found", "_law_k", "_law_number", "_law_text"] "_law_texts" (defScope s_l_texts) f cdv A outer s H E).A (cxOf (L2.CX P w) P w K mg base ["_law_tape_here", "_law_many", "_law_menu", "_law_found", "_law_k", "_law_number", "_law_text"] "_law_texts" (defScope s_l_texts) f cdv A outer s H E).env (cxOf (L2.CX P w) P w K mg base ["_law_tape_here", "_law_many", "_law_menu", "_law_found", "_law_k", "_law_number", "_law_text"] "_law_texts" (defScope s_l_texts) f cdv A outer s H E).xe := passes_of rfl
  exact dss_cons (ds_set (i := 2) S_l_texts.nd rfl (by first | exact .inl rfl | exact .inr rfl) (de_lst (da_cons (de_str) (da_cons (de_str) (da_cons (de_str) (da_cons (de_str) (da_cons (de_str) (da_cons (de_str) (da_cons (de_str) (da_cons (de_str) (da_cons (de_str) (da_cons (de_str) (da_cons (de_str) (da_cons (de_str) da_nil))))))))))))) (by decide)) <|
    dss_cons (ds_set (i := 3) S_l_texts.nd rfl (by first | exact .inl rfl | exact .inr rfl) (de_lst (da_nil)) (by decide)) <|
    dss_cons (ds_for po C.calm (di_range1 rfl B.range_ (de_var 1)) (dg_name (i := 4) S_l_texts.nd rfl (by first | exact .inl rfl | exact .inr rfl) (by decide)) (dss_cons (ds_set (i := 5) S_l_texts.nd rfl (by first | exact .inl rfl | exact .inr rfl) (de_lend 0 C d_l_draw (da_cons (de_int) da_nil)) (by decide)) <|
    dss_cons (ds_set (i := 6) S_l_texts.nd rfl (by first | exact .inl rfl | exact .inr rfl) (de_ix (de_var 2) (de_op op_mod prim_mod (de_callTy call_int1 prim_int rfl B.int_ (by decide +kernel) (da_cons (de_var 5) da_nil)) (de_int))) (by decide)) <|
    dss_cons (ds_if (dt_cmp (op_eqD C.u64) prim_eq isB_eq (de_op op_mod prim_mod (de_callTy call_int1 prim_int rfl B.int_ (by decide +kernel) (da_cons (de_op op_fdiv prim_fdiv (de_var 5) (de_int)) da_nil)) (de_int)) (de_int) (nomark _)) (dss_one (ds_set (i := 6) S_l_texts.nd rfl (by first | exact .inl rfl | exact .inr rfl) (de_op op_addD prim_add (de_slice (de_var 6) (do_none) (do_some (de_int))) (de_op op_mulW2 prim_mul (de_ix (de_str) (de_op op_mod prim_mod (de_callTy call_int1 prim_int rfl B.int_ (by decide +kernel) (da_cons (de_op op_fdiv prim_fdiv (de_var 5) (de_int)) da_nil)) (de_int))) (de_op op_addD prim_add (de_int) (de_callTy call_int1 prim_int rfl B.int_ (by decide +kernel) (da_cons (de_op op_fdiv prim_fdiv (de_var 5) (de_int)) da_nil))))) (by decide))) (dss_nil)) <|
    dss_cons (ds_if (dt_pkcmp (op_inA C.u65) prim_in isB_in (dp_var 6) (dp_var 3) rfl) (dss_one (ds_set (i := 6) S_l_texts.nd rfl (by first | exact .inl rfl | exact .inr rfl) (de_op op_addD prim_add (de_str) (de_callTy call_str_int prim_str rfl B.str_ (by decide +kernel) (da_cons (de_var 4) da_nil))) (by decide))) (dss_nil)) <|
    dss_one (ds_expr (de_append 3 (de_var 6))))) <|
    dss_one (ds_ret (de_move 3))
/-! l_fresh -/
abbrev s_l_fresh : Stmt := top 15
theorem S_l_fresh : FnScope ["_law_sign", "_law_constants", "_law_many", "_law_texts_here", "_law_k", "_law_text"] ["_law_sign", "_law_constants", "_law_many"] (defScope s_l_fresh) := ⟨rfl, rfl, rfl, by decide +kernel, rfl, by decide +kernel, by decide +kernel⟩
def m_l_fresh : Sv :=
    sSeq (sSet 3 (eComp 0 (iRange1 (eBin gAdd (eVar 2) (eArgs gLen (aCons (eVar 1) aNil)))) (gNm 4) (tYesD) (eBin gAdd (eVar 0) (eArgs gStr (aCons (eBin gAdd (eVar 4) (eC (.int 1))) aNil))) [4])) <|
    sRet (eSlice (eComp 0 (iSeq (eVar 3)) (gNm 5) (tTru (eBin gNotIn (eVar 5) (eVar 1))) (eVar 5) [5]) (pNo) (pSo (eVar 2)))
def g_l_fresh : Ev := gDef [] 3 6 m_l_fresh
theorem b_l_fresh {P : Program} {w : World} {K : PySem.W.Frag} {mg : Str → Option Value} {base : Heap} {f : Addr} (B : Bl mg)  (cdv : Value) (A : Around) (outer : List Env) (s : Shared) (H : Hp) (E : XK)
    (C : Ctx (cxOf (L2.CX P w) P w K mg base ["_law_sign", "_law_constants", "_law_many", "_law_texts_here", "_law_k", "_law_text"] "_law_fresh" (defScope s_l_fresh) f cdv A outer s H E) (fun c d _ H' => E c d H') 0) : DSs (cxOf (L2.CX P w) P w K mg base ["_law_sign", "_law_constants", "_law_many", "_law_texts_here", "_law_k", "_law_text"] "_law_fresh" (defScope s_l_fresh) f cdv A outer s H E) (fun c d _ H' => E c d H') [] (defBody s_l_fresh) m_l_fresh := by
  have po : PassesOwn (model P w) (cxOf (L2.CX P w) P w K mg base ["_law_sign", "_law_constants", "_law_many", "_law_texts_here", "_law_k", "_law_text"] "_law_fresh" (defScope s_l_fresh) f cdv A outer s H E).A (cxOf (L2.CX P w) P w K mg base ["_law_sign", "_law_constants", "_law_many", "_law_texts_here", "_law_k", "_law_text"] "_law_fresh" (defScope s_l_fresh) f cdv A outer s H E).env (cxOf (L2.CX P w) P w K mg base ["_law_sign", "_law_constants", "_law_many", "_law_texts_here", "_law_k", "_law_text"] "_law_fresh" (defScope s_l_fresh) f cdv A outer s H E).xe := passes_of rfl
  exact dss_cons (ds_setComp (i := 3) (own := [("_law_k", 4)]) C.calm S_l_fresh.nd rfl rfl (by decide) (sw_true rfl rfl rfl rfl) (di_range1 rfl B.range_ (de_op op_addD prim_add (de_var 2) (de_callB call_lenA prim_len rfl B.len_ (by decide +kernel) (da_cons (de_var 1) da_nil)))) (blkOk_by (own := [("_law_k", 4)]) (N := ["_law_sign", "_law_constants", "_law_many", "_law_texts_here", "_law_k", "_law_text"]) (sc := defScope s_l_fresh) (by decide +kernel)) (fun s H D cl fp => dg_name (i := 4) S_l_fresh.nd rfl (by first | exact .inl rfl | exact .inr rfl) (show ¬ 4 ∈ others 6 [4] by decide)) (fun s H D cl fp => dts_nil) (fun s H D cl fp => de_op op_addD prim_add (de_var 0) (de_callTy call_str_int prim_str rfl B.str_ (by decide +kernel) (da_cons (de_op op_addD prim_add (de_var 4) (de_int)) da_nil)))) <|
    dss_one (ds_ret (de_slice (de_comp (own := [("_law_text", 5)]) C.calm S_l_fresh.nd (di_seq (de_var 3)) (blkOk_by (own := [("_law_text", 5)]) (N := ["_law_sign", "_law_constants", "_law_many", "_law_texts_here", "_law_k", "_law_text"]) (sc := defScope s_l_fresh) (by decide +kernel)) (fun s H D cl fp => dg_name (i := 5) S_l_fresh.nd rfl (by first | exact .inl rfl | exact .inr rfl) (show ¬ 5 ∈ others 6 [5] by decide)) (fun s H D cl fp => dts_one (dt_cmp (op_notInA (C.blk).u65) prim_notin isB_notin (de_var 5) (de_var 1) rfl)) (fun s H D cl fp => de_var 5)) (do_none) (do_some (de_var 2))))
/-! l_same -/
abbrev s_l_same : Stmt := top 16
theorem S_l_same : FnScope ["_law_told_here", "_law_due"] ["_law_told_here", "_law_due"] (defScope s_l_same) := ⟨rfl, rfl, rfl, by decide +kernel, rfl, by decide +kernel, by decide +kernel⟩
def m_l_same : Sv :=
    sSeq (sIf (tOrD (tTru (eBin gNe (eIsi "tuple" (eVar 0)) (eIsi "tuple" (eVar 1)))) (tTru (eBin gNe (eIsi "bool" (eVar 0)) (eIsi "bool" (eVar 1))))) (sRet (eC (.bool false))) (sNx)) <|
    sRet (eAnd (eBin gEq (eVar 0) (eVar 1)) (eBin gEq (eArgs gRepr (aCons (eVar 0) aNil)) (eArgs gRepr (aCons (eVar 1) aNil))))
def g_l_same : Ev := gDef [] 2 2 m_l_same
theorem b_l_same {P : Program} {w : World} {K : PySem.W.Frag} {mg : Str → Option Value} {base : Heap} {f : Addr} (B : Bl mg)  (cdv : Value) (A : Around) (outer : List Env) (s : Shared) (H : Hp) (E : XK)
    (C : Ctx (cxOf (L2.CX P w) P w K mg base ["_law_told_here", "_law_due"] "_law_same" (defScope s_l_same) f cdv A outer s H E) (fun c d _ H' => E c d H') 0) : DSs (cxOf (L2.CX P w) P w K mg base ["_law_told_here", "_law_due"] "_law_same" (defScope s_l_same) f cdv A outer s H E) (fun c d _ H' => E c d H') [] (defBody s_l_same) m_l_same := by
  have po : PassesOwn (model P w) (cxOf (L2.CX P w) P w K mg base ["_law_told_here", "_law_due"] "_law_same" (defScope s_l_same) f cdv A outer s H E).A (cxOf (L2.CX P w) P w K mg base ["_law_told_here", "_law_due"] "_law_same" (defScope s_l_same) f cdv A outer s H E).env (cxOf (L2.CX P w) P w K mg base ["_law_told_here", "_law_due"] "_law_same" (defScope s_l_same) f cdv A outer s H E).xe := passes_of rfl
  exact dss_cons (ds_if (dt_w (dw_or (dt_cmp (op_neD C.u64) prim_ne isB_ne (de_isi rfl B.isinstance_ rfl B.tuple_ (by decide +kernel) (de_var 0)) (de_isi rfl B.isinstance_ rfl B.tuple_ (by decide +kernel) (de_var 1)) (nomark _)) (dw_or1 (dt_cmp (op_neD C.u64) prim_ne isB_ne (de_isi rfl B.isinstance_ rfl B.bool_ (by decide +kernel) (de_var 0)) (de_isi rfl B.isinstance_ rfl B.bool_ (by decide +kernel) (de_var 1)) (nomark _))))) (dss_one (ds_ret (de_bl))) (dss_nil)) <|
    dss_one (ds_ret (de_and (de_cmp (op_eqD C.u64) prim_eq (de_var 0) (de_var 1) (nomark _)) (de_one (de_cmp (op_eqD C.u64) prim_eq (de_callB (call_reprD C) prim_repr rfl B.repr_ (by decide +kernel) (da_cons (de_var 0) da_nil)) (de_callB (call_reprD C) prim_repr rfl B.repr_ (by decide +kernel) (da_cons (de_var 1) da_nil)) (nomark _)))))
/-! l_ways -/
abbrev s_l_ways : Stmt := top 17
theorem S_l_ways : FnScope ["_law_many", "_law_columns", "_law_ways_here", "_law_column", "_law_longer", "_law_j"] ["_law_many", "_law_columns"] (defScope s_l_ways) := ⟨rfl, rfl, rfl, by decide +kernel, rfl, by decide +kernel, by decide +kernel⟩
def m_l_ways : Sv :=
    sSeq (sSet 2 (eArgs gLst (aCons (eC (.int 1)) aNil))) <|
    sSeq (sFor (iRange1 (eVar 1)) (gNm 3) (sSeq (sSet 4 (eBin gAdd (eArgs gLst (aCons (eC (.int 0)) aNil)) (eVar 2))) <|
    sSeq (sFor (iRange1 (eArgs gLen (aCons (eVar 2) aNil))) (gNm 5) (sSetIx 4 (pkVar 5) (ePk (pkBin gAdd (pkBin gIdx (pkVar 4) (pkVar 5)) (pkBin gMul (pkBin gAdd (pkVar 0) (pkVar 5)) (pkBin gIdx (pkVar 2) (pkVar 5))))))) <|
    sSet 2 (eVar 4))) <|
    sRet (eVar 2)
def g_l_ways : Ev := gDef [] 2 6 m_l_ways
theorem b_l_ways {P : Program} {w : World} {K : PySem.W.Frag} {mg : Str → Option Value} {base : Heap} {f : Addr} (B : Bl mg)  (cdv : Value) (A : Around) (outer : List Env) (s : Shared) (H : Hp) (E : XK)
    (C : Ctx (cxOf (L2.CX P w) P w K mg base ["_law_many", "_law_columns", "_law_ways_here", "_law_column", "_law_longer", "_law_j"] "_law_ways" (defScope s_l_ways) f cdv A outer s H E) (fun c d _ H' => E c d H') 0) : DSs (cxOf (L2.CX P w) P w K mg base ["_law_many", "_law_columns", "_law_ways_here", "_law_column", "_law_longer", "_law_j"] "_law_ways" (defScope s_l_ways) f cdv A outer s H E) (fun c d _ H' => E c d H') [] (defBody s_l_ways) m_l_ways := by
  have po : PassesOwn (model P w) (cxOf (L2.CX P w) P w K mg base ["_law_many", "_law_columns", "_law_ways_here", "_law_column", "_law_longer", "_law_j"] "_law_ways" (defScope s_l_ways) f cdv A outer s H E).A (cxOf (L2.CX P w) P w K mg base ["_law_many", "_law_columns", "_law_ways_here", "_law_column", "_law_longer", "_law_j"] "_law_ways" (defScope s_l_ways) f cdv A outer s H E).env (cxOf (L2.CX P w) P w K mg base ["_law_many", "_law_columns", "_law_ways_here", "_law_column", "_law_longer", "_law_j"] "_law_ways" (defScope s_l_ways) f cdv A outer s H E).xe := passes_of rfl
  exact dss_cons (ds_set (i := 2) S_l_ways.nd rfl (by first | exact .inl rfl | exact .inr rfl) (de_lst (da_cons (de_int) da_nil)) (by decide)) <|
    dss_cons (ds_for po C.calm (di_range1 rfl B.range_ (de_var 1)) (dg_name (i := 3) S_l_ways.nd rfl (by first | exact .inl rfl | exact .inr rfl) (by decide)) (dss_cons (ds_set (i := 4) S_l_ways.nd rfl (by first | exact .inl rfl | exact .inr rfl) (de_op op_addD prim_add (de_lst (da_cons (de_int) da_nil)) (de_var 2)) (by decide)) <|
    dss_cons (ds_for po C.calm (di_range1 rfl B.range_ (de_callB call_lenA prim_len rfl B.len_ (by decide +kernel) (da_cons (de_var 2) da_nil))) (dg_name (i := 5) S_l_ways.nd rfl (by first | exact .inl rfl | exact .inr rfl) (by decide)) (dss_one (ds_setIx 4 (de_pk (dp_op op_addD prim_add (dp_ix (dp_var 4) (dp_var 5)) (dp_op op_mulW2 prim_mul (dp_op op_addD prim_add (dp_var 0) (dp_var 5)) (dp_ix (dp_var 2) (dp_var 5))))) (dp_var 5)))) <|
    dss_one (ds_set (i := 2) S_l_ways.nd rfl (by first | exact .inl rfl | exact .inr rfl) (de_var 4) (by decide)))) <|
    dss_one (ds_ret (de_var 2))
/-! l_text_rows -/
abbrev s_l_text_rows : Stmt := top 18
theorem S_l_text_rows : FnScope ["_law_texts_here", "_law_columns", "_law_many", "_law_fresh_here", "_law_rows", "_law_place", "_law_longer", "_law_pair", "_law_cells", "_law_k", "_law_used"] ["_law_texts_here", "_law_columns", "_law_many"] (defScope s_l_text_rows) := ⟨rfl, rfl, rfl, by decide +kernel, rfl, by decide +kernel, by decide +kernel⟩
def m_l_text_rows : Sv :=
    sSeq (sSet 3 (eCall 3 g_l_fresh (aCons (eC (.str "v")) (aCons (eVar 0) (aCons (eBin gAdd (eVar 2) (eC (.int 1))) aNil))))) <|
    sSeq (sSet 4 (eArgs gLst (aCons (eArgs gTup (aCons (eArgs gTup (aNil)) (aCons (eC (.int 0)) aNil))) aNil))) <|
    sSeq (sFor (iRange1 (eVar 1)) (gNm 5) (sSeq (sSet 6 (eArgs gLst (aNil))) <|
    sSeq (sFor (iSeq (eArgs gList (aCons (eVar 4) aNil))) (gNm 7) (sSeq (sSet 8 (eBin gAdd (eArgs gList (aCons (eVar 0) aNil)) (eSlice (eVar 3) (pNo) (pSo (eBin gAdd (eBin gIdx (eVar 7) (eC (.int 1))) (eC (.int 1))))))) <|
    sFor (iRange1 (eArgs gLen (aCons (eVar 8) aNil))) (gNm 9) (sSeq (sSet 10 (eBin gAdd (eBin gIdx (eVar 7) (eC (.int 1))) (eArgs gInt (aCons (eBin gEq (eVar 9) (eBin gSub (eArgs gLen (aCons (eVar 8) aNil)) (eC (.int 1)))) aNil)))) <|
    sIf (tAndD (tTru (eBin gLe (eVar 10) (eVar 2))) (tTru (eBin gGe (eBin gSub (eBin gSub (eBin gAdd (eVar 10) (eVar 1)) (eVar 5)) (eC (.int 1))) (eVar 2)))) (sExpr (eAppend 6 (eArgs gTup (aCons (eBin gAdd (eBin gIdx (eVar 7) (eC (.int 0))) (eArgs gTup (aCons (eBin gIdx (eVar 8) (eVar 9)) aNil))) (aCons (eVar 10) aNil))))) (sNx)))) <|
    sSet 4 (eVar 6))) <|
    sRet (eComp 0 (iSeq (eVar 4)) (gNm 7) (tYesD) (eBin gIdx (eVar 7) (eC (.int 0))) [7])
def g_l_text_rows : Ev := gDef [] 3 11 m_l_text_rows
theorem b_l_text_rows {P : Program} {w : World} {K : PySem.W.Frag} {mg : Str → Option Value} {base : Heap} {f : Addr} (B : Bl mg) (d_l_fresh : DefOk P w K mg base "_law_fresh" 1 3 g_l_fresh) (cdv : Value) (A : Around) (outer : List Env) (s : Shared) (H : Hp) (E : XK)
    (C : Ctx (cxOf (L2.CX P w) P w K mg base ["_law_texts_here", "_law_columns", "_law_many", "_law_fresh_here", "_law_rows", "_law_place", "_law_longer", "_law_pair", "_law_cells", "_law_k", "_law_used"] "_law_text_rows" (defScope s_l_text_rows) f cdv A outer s H E) (fun c d _ H' => E c d H') 1) : DSs (cxOf (L2.CX P w) P w K mg base ["_law_texts_here", "_law_columns", "_law_many", "_law_fresh_here", "_law_rows", "_law_place", "_law_longer", "_law_pair", "_law_cells", "_law_k", "_law_used"] "_law_text_rows" (defScope s_l_text_rows) f cdv A outer s H E) (fun c d _ H' => E c d H') [] (defBody s_l_text_rows) m_l_text_rows := by
  have po : PassesOwn (model P w) (cxOf (L2.CX P w) P w K mg base ["_law_texts_here", "_law_columns", "_law_many", "_law_fresh_here", "_law_rows", "_law_place", "_law_longer", "_law_pair", "_law_cells", "_law_k", "_law_used"] "_law_text_rows" (defScope s_l_text_rows) f cdv A outer s H E).A (cxOf (L2.CX P w) P w K mg base ["_law_texts_here", "_law_columns", "_law_many", "_law_fresh_here", "_law_rows", "_law_place", "_law_longer", "_law_pair", "_law_cells", "_law_k", "_law_used"] "_law_text_rows" (defScope s_l_text_rows) f cdv A outer s H E).env (cxOf (L2.CX P w) P w K mg base ["_law_texts_here", "_law_columns", "_law_many", "_law_fresh_here", "_law_rows", "_law_place", "_law_longer", "_law_pair", "_law_cells", "_law_k", "_law_used"] "_law_text_rows" (defScope s_l_text_rows) f cdv A outer s H E).xe := passes_of rfl
  exact dss_cons (ds_set (i := 3) S_l_text_rows.nd rfl (by first | exact .inl rfl | exact .inr rfl) (de_call C d_l_fresh (da_cons (de_str) (da_cons (de_var 0) (da_cons (de_op op_addD prim_add (de_var 2) (de_int)) da_nil)))) (by decide)) <|
    dss_cons (ds_set (i := 4) S_l_text_rows.nd rfl (by first | exact .inl rfl | exact .inr rfl) (de_lst (da_cons (de_tup (da_cons (de_tup (da_nil)) (da_cons (de_int) da_nil))) da_nil)) (by decide)) <|
    dss_cons (ds_for po C.calm (di_range1 rfl B.range_ (de_var 1)) (dg_name (i := 5) S_l_text_rows.nd rfl (by first | exact .inl rfl | exact .inr rfl) (by decide)) (dss_cons (ds_set (i := 6) S_l_text_rows.nd rfl (by first | exact .inl rfl | exact .inr rfl) (de_lst (da_nil)) (by decide)) <|
    dss_cons (ds_for po C.calm (di_seq (de_callTy call_list_of prim_list rfl B.list_ (by decide +kernel) (da_cons (de_var 4) da_nil))) (dg_name (i := 7) S_l_text_rows.nd rfl (by first | exact .inl rfl | exact .inr rfl) (by decide)) (dss_cons (ds_set (i := 8) S_l_text_rows.nd rfl (by first | exact .inl rfl | exact .inr rfl) (de_op op_addD prim_add (de_callTy call_list_of prim_list rfl B.list_ (by decide +kernel) (da_cons (de_var 0) da_nil)) (de_slice (de_var 3) (do_none) (do_some (de_op op_addD prim_add (de_ix (de_var 7) (de_int)) (de_int))))) (by decide)) <|
    dss_one (ds_for po C.calm (di_range1 rfl B.range_ (de_callB call_lenA prim_len rfl B.len_ (by decide +kernel) (da_cons (de_var 8) da_nil))) (dg_name (i := 9) S_l_text_rows.nd rfl (by first | exact .inl rfl | exact .inr rfl) (by decide)) (dss_cons (ds_set (i := 10) S_l_text_rows.nd rfl (by first | exact .inl rfl | exact .inr rfl) (de_op op_addD prim_add (de_ix (de_var 7) (de_int)) (de_callTy call_int1 prim_int rfl B.int_ (by decide +kernel) (da_cons (de_cmp (op_eqD C.u64) prim_eq (de_var 9) (de_op op_sub prim_sub (de_callB call_lenA prim_len rfl B.len_ (by decide +kernel) (da_cons (de_var 8) da_nil)) (de_int)) (nomark _)) da_nil))) (by decide)) <|
    dss_one (ds_if (dt_w (dw_and (dt_cmp op_le prim_le isB_le (de_var 10) (de_var 2) (nomark _)) (dw_and1 (dt_cmp op_ge prim_ge isB_ge (de_op op_sub prim_sub (de_op op_sub prim_sub (de_op op_addD prim_add (de_var 10) (de_var 1)) (de_var 5)) (de_int)) (de_var 2) (nomark _))))) (dss_one (ds_expr (de_append 6 (de_tup (da_cons (de_op op_addD prim_add (de_ix (de_var 7) (de_int)) (de_tup (da_cons (de_ix (de_var 8) (de_var 9)) da_nil))) (da_cons (de_var 10) da_nil)))))) (dss_nil)))))) <|
    dss_one (ds_set (i := 4) S_l_text_rows.nd rfl (by first | exact .inl rfl | exact .inr rfl) (de_var 6) (by decide)))) <|
    dss_one (ds_ret (de_comp (own := [("_law_pair", 7)]) C.calm S_l_text_rows.nd (di_seq (de_var 4)) (blkOk_by (own := [("_law_pair", 7)]) (N := ["_law_texts_here", "_law_columns", "_law_many", "_law_fresh_here", "_law_rows", "_law_place", "_law_longer", "_law_pair", "_law_cells", "_law_k", "_law_used"]) (sc := defScope s_l_text_rows) (by decide +kernel)) (fun s H D cl fp => dg_name (i := 7) S_l_text_rows.nd rfl (by first | exact .inl rfl | exact .inr rfl) (show ¬ 7 ∈ others 11 [7] by decide)) (fun s H D cl fp => dts_nil) (fun s H D cl fp => de_ix (de_var 7) (de_int))))
/-! l_told -/
abbrev s_l_told : Stmt := top 19
theorem S_l_told : FnScope ["_law_texts_here", "_law_columns", "_law_many", "e"] ["_law_texts_here", "_law_columns", "_law_many"] (defScope s_l_told) := ⟨rfl, rfl, rfl, by decide +kernel, rfl, by decide +kernel, by decide +kernel⟩
def m_l_told : Sv :=
    sTryAs "TooManyCases" [] 3 (sRet (eCall 3 g_text_rows (aCons (eVar 0) (aCons (eVar 1) (aCons (eVar 2) aNil))))) (xTup (xCons (xC (.str "many")) (xCons (xF "count") (xCons (andX (xIs true) (xIs true)) (xNil)))))
def g_l_told : Ev := gDef [] 3 4 m_l_told
theorem b_l_told {P : Program} {w : World} {K : PySem.W.Frag} {mg : Str → Option Value} {base : Heap} {f : Addr} (B : Bl mg) (d_text_rows : DefOk P w K mg base "text_rows" 3 3 g_text_rows) (X_TooManyCases : ExcF K "TooManyCases" ["count"]) (M_TooManyCases : mg "TooManyCases" = some (.ref (He.ga K "TooManyCases"))) (M_MigrationError : mg "MigrationError" = some (.ref (He.ga K "MigrationError"))) (K_TooManyCases_MigrationError : PySem.W.kitOne K (.ref (He.ga K "TooManyCases")) (.ref (He.ga K "MigrationError")) = some true) (K_TooManyCases_ValueError : PySem.W.kitOne K (.ref (He.ga K "TooManyCases")) (.type "ValueError") = some true) (cdv : Value) (A : Around) (outer : List Env) (s : Shared) (H : Hp) (E : XK)
    (C : Ctx (cxOf (L2.CX P w) P w K mg base ["_law_texts_here", "_law_columns", "_law_many", "e"] "_law_told" (defScope s_l_told) f cdv A outer s H E) (fun c d _ H' => E c d H') 3) : DSs (cxOf (L2.CX P w) P w K mg base ["_law_texts_here", "_law_columns", "_law_many", "e"] "_law_told" (defScope s_l_told) f cdv A outer s H E) (fun c d _ H' => E c d H') [] (defBody s_l_told) m_l_told := by
  have po : PassesOwn (model P w) (cxOf (L2.CX P w) P w K mg base ["_law_texts_here", "_law_columns", "_law_many", "e"] "_law_told" (defScope s_l_told) f cdv A outer s H E).A (cxOf (L2.CX P w) P w K mg base ["_law_texts_here", "_law_columns", "_law_many", "e"] "_law_told" (defScope s_l_told) f cdv A outer s H E).env (cxOf (L2.CX P w) P w K mg base ["_law_texts_here", "_law_columns", "_law_many", "e"] "_law_told" (defScope s_l_told) f cdv A outer s H E).xe := passes_of rfl
  exact dss_one (ds_tryAs 3 C rfl rfl S_l_told.nd rfl rfl (by decide) ⟨rfl, by decide, .inl M_TooManyCases⟩ X_TooManyCases.exm (fun c hc => absurd hc (by simp)) (fun W pn xe C2 po => dss_one (ds_ret (de_call C2 d_text_rows (da_cons (de_var 0) (da_cons (de_var 1) (da_cons (de_var 2) da_nil)))))) (fun a oe cls d pn hz hv hcls => dx_tup (dxl_cons (dx_str) (dxl_cons (dx_fld X_TooManyCases.xf (X_TooManyCases.no _ (by decide)) hz hv rfl (.inl rfl) (by decide) (by decide)) (dxl_cons (dx_and (dx_isi (vc := .ref (He.ga K "MigrationError")) X_TooManyCases.ec hz hv rfl (.inl rfl) (by decide) (by decide) K_TooManyCases_MigrationError hcls (pe_glob rfl M_MigrationError rfl (by decide)) (fun _ h => h) rfl B.isinstance_) (dx_one (dx_isi (vc := .ty "ValueError") X_TooManyCases.ec hz hv rfl (.inl rfl) (by decide) (by decide) K_TooManyCases_ValueError hcls (pe_bltn (v := .ty "ValueError") rfl B.ValueError_ (by decide +kernel) rfl (by decide) (by decide)) (fun _ h => h) rfl B.isinstance_))) (dxl_nil))))))
/-! law -/
abbrev s_law : Stmt := top 20
theorem S_law : FnScope ["_law_script", "_law_tape_here", "_law_texts_here", "_law_columns", "_law_k", "_law_turn", "_law_many", "_law_number", "_law_told_here"] ["_law_script"] (defScope s_law) := ⟨rfl, rfl, rfl, by decide +kernel, rfl, by decide +kernel, by decide +kernel⟩
def m_law : Sv :=
    sSeq (sSet 1 (eCall 1 g_l_tape (aCons (eVar 0) aNil))) <|
    sSeq (sSet 2 (eLend 2 g_l_texts 1 (aCons (eLend 2 g_l_draw 1 (aCons (eC (.int 5)) aNil)) aNil))) <|
    sSeq (sSet 3 (eBin gIdx (eArgs gLst (aCons (eC (.int 0)) (aCons (eC (.int 1)) (aCons (eC (.int 1)) (aCons (eC (.int 2)) (aCons (eC (.int 2)) (aCons (eC (.int 3)) (aCons (eC (.int 4)) (aCons (eBin gAdd (eC (.int 5)) (eLend 2 g_l_draw 1 (aCons (eC (.int 4)) aNil))) aNil))))))))) (eLend 2 g_l_draw 1 (aCons (eC (.int 8)) aNil)))) <|
    sSeq (sIf (tTru (eBin gEq (eLend 2 g_l_draw 1 (aCons (eC (.int 4)) aNil)) (eC (.int 0)))) (sSet 2 (eBin gAdd (eVar 2) (eComp 0 (iRange1 (eLend 2 g_l_draw 1 (aCons (eBin gSub (eC (.int 301)) (eArgs gLen (aCons (eVar 2) aNil))) aNil))) (gNm 4) (tYesD) (eBin gAdd (eC (.str "s")) (eArgs gStr (aCons (eVar 4) aNil))) [4]))) (sNx)) <|
    sSeq (sFor (iRange1 (eC (.int 8))) (gNm 5) (sIf (tTru (eBin gGt (eArgs gSum (aCons (eCall 2 g_l_ways (aCons (eArgs gLen (aCons (eVar 2) aNil)) (aCons (eVar 3) aNil))) aNil)) (eC (.int 100000)))) (sSet 3 (eBin gSub (eVar 3) (eC (.int 1)))) (sNx))) <|
    sSeq (sSet 6 (eLend 2 g_l_draw 1 (aCons (eBin gAdd (eVar 3) (eC (.int 1))) aNil))) <|
    sSeq (sSet 7 (eBin gIdx (eCall 2 g_l_ways (aCons (eArgs gLen (aCons (eVar 2) aNil)) (aCons (eVar 3) aNil))) (eVar 6))) <|
    sSeq (sSet 8 (eCall 3 g_many_text_rows (aCons (eArgs gLen (aCons (eVar 2) aNil)) (aCons (eVar 3) (aCons (eVar 6) aNil))))) <|
    sSeq (sIf (tOrD (tNotD (tTru (eIsi "int" (eVar 8)))) (tOrD (tTru (eIsi "bool" (eVar 8))) (tTru (eBin gNe (eVar 8) (eVar 7))))) (sRet (eC (.bool false))) (sNx)) <|
    sSeq (sIf (tTru (eBin gGt (eVar 7) (eC (.int 300)))) (sRet (eCall 2 g_l_same (aCons (eCall 3 g_l_told (aCons (eArgs gTuple (aCons (eVar 2) aNil)) (aCons (eVar 3) (aCons (eVar 6) aNil)))) (aCons (eArgs gTup (aCons (eC (.str "many")) (aCons (eVar 7) (aCons (eC (.bool true)) aNil)))) aNil)))) (sNx)) <|
    sRet (eCall 2 g_l_same (aCons (eCall 3 g_l_told (aCons (eArgs gTuple (aCons (eVar 2) aNil)) (aCons (eVar 3) (aCons (eVar 6) aNil)))) (aCons (eArgs gTuple (aCons (eCall 3 g_l_text_rows (aCons (eVar 2) (aCons (eVar 3) (aCons (eVar 6) aNil)))) aNil)) aNil)))
def g_law : Ev := gDef [] 1 9 m_law
theorem b_law {P : Program} {w : World} {K : PySem.W.Frag} {mg : Str → Option Value} {base : Heap} {f : Addr} (B : Bl mg) (d_l_draw : DefOk P w K mg base "_law_draw" 1 2 g_l_draw) (d_l_same : DefOk P w K mg base "_law_same" 1 2 g_l_same) (d_l_tape : DefOk P w K mg base "_law_tape" 1 1 g_l_tape) (d_l_text_rows : DefOk P w K mg base "_law_text_rows" 2 3 g_l_text_rows) (d_l_texts : DefOk P w K mg base "_law_texts" 2 2 g_l_texts) (d_l_told : DefOk P w K mg base "_law_told" 4 3 g_l_told) (d_l_ways : DefOk P w K mg base "_law_ways" 1 2 g_l_ways) (d_many_text_rows : DefOk P w K mg base "many_text_rows" 1 3 g_many_text_rows) (cdv : Value) (A : Around) (outer : List Env) (s : Shared) (H : Hp) (E : XK)
    (C : Ctx (cxOf (L2.CX P w) P w K mg base ["_law_script", "_law_tape_here", "_law_texts_here", "_law_columns", "_law_k", "_law_turn", "_law_many", "_law_number", "_law_told_here"] "law" (defScope s_law) f cdv A outer s H E) (fun c d _ H' => E c d H') 4) : DSs (cxOf (L2.CX P w) P w K mg base ["_law_script", "_law_tape_here", "_law_texts_here", "_law_columns", "_law_k", "_law_turn", "_law_many", "_law_number", "_law_told_here"] "law" (defScope s_law) f cdv A outer s H E) (fun c d _ H' => E c d H') [] (defBody s_law) m_law := by
  have po : PassesOwn (model P w) (cxOf (L2.CX P w) P w K mg base ["_law_script", "_law_tape_here", "_law_texts_here", "_law_columns", "_law_k", "_law_turn", "_law_many", "_law_number", "_law_told_here"] "law" (defScope s_law) f cdv A outer s H E).A (cxOf (L2.CX P w) P w K mg base ["_law_script", "_law_tape_here", "_law_texts_here", "_law_columns", "_law_k", "_law_turn", "_law_many", "_law_number", "_law_told_here"] "law" (defScope s_law) f cdv A outer s H E).env (cxOf (L2.CX P w) P w K mg base ["_law_script", "_law_tape_here", "_law_texts_here", "_law_columns", "_law_k", "_law_turn", "_law_many", "_law_number", "_law_told_here"] "law" (defScope s_law) f cdv A outer s H E).xe := passes_of rfl
  exact dss_cons (ds_set (i := 1) S_law.nd rfl (by first | exact .inl rfl | exact .inr rfl) (de_call C d_l_tape (da_cons (de_var 0) da_nil)) (by decide)) <|
    dss_cons (ds_set (i := 2) S_law.nd rfl (by first | exact .inl rfl | exact .inr rfl) (de_lend 1 C d_l_texts (da_cons (de_lend 1 C d_l_draw (da_cons (de_int) da_nil)) da_nil)) (by decide)) <|
    dss_cons (ds_set (i := 3) S_law.nd rfl (by first | exact .inl rfl | exact .inr rfl) (de_ix (de_lst (da_cons (de_int) (da_cons (de_int) (da_cons (de_int) (da_cons (de_int) (da_cons (de_int) (da_cons (de_int) (da_cons (de_int) (da_cons (de_op op_addD prim_add (de_int) (de_lend 1 C d_l_draw (da_cons (de_int) da_nil))) da_nil))))))))) (de_lend 1 C d_l_draw (da_cons (de_int) da_nil))) (by decide)) <|
    dss_cons (ds_if (dt_cmp (op_eqD C.u64) prim_eq isB_eq (de_lend 1 C d_l_draw (da_cons (de_int) da_nil)) (de_int) (nomark _)) (dss_one (ds_set (i := 2) S_law.nd rfl (by first | exact .inl rfl | exact .inr rfl) (de_op op_addD prim_add (de_var 2) (de_comp (own := [("_law_k", 4)]) C.calm S_law.nd (di_range1 rfl B.range_ (de_lend 1 C d_l_draw (da_cons (de_op op_sub prim_sub (de_int) (de_callB call_lenA prim_len rfl B.len_ (by decide +kernel) (da_cons (de_var 2) da_nil))) da_nil))) (blkOk_by (own := [("_law_k", 4)]) (N := ["_law_script", "_law_tape_here", "_law_texts_here", "_law_columns", "_law_k", "_law_turn", "_law_many", "_law_number", "_law_told_here"]) (sc := defScope s_law) (by decide +kernel)) (fun s H D cl fp => dg_name (i := 4) S_law.nd rfl (by first | exact .inl rfl | exact .inr rfl) (show ¬ 4 ∈ others 9 [4] by decide)) (fun s H D cl fp => dts_nil) (fun s H D cl fp => de_op op_addD prim_add (de_str) (de_callTy call_str_int prim_str rfl B.str_ (by decide +kernel) (da_cons (de_var 4) da_nil))))) (by decide))) (dss_nil)) <|
    dss_cons (ds_for po C.calm (di_range1 rfl B.range_ (de_int)) (dg_name (i := 5) S_law.nd rfl (by first | exact .inl rfl | exact .inr rfl) (by decide)) (dss_one (ds_if (dt_cmp op_gt prim_gt isB_gt (de_callB (cr_sum C.calm) prim_sum rfl B.sum_ (by decide +kernel) (da_cons (de_call C d_l_ways (da_cons (de_callB call_lenA prim_len rfl B.len_ (by decide +kernel) (da_cons (de_var 2) da_nil)) (da_cons (de_var 3) da_nil))) da_nil)) (de_int) (nomark _)) (dss_one (ds_set (i := 3) S_law.nd rfl (by first | exact .inl rfl | exact .inr rfl) (de_op op_sub prim_sub (de_var 3) (de_int)) (by decide))) (dss_nil)))) <|
    dss_cons (ds_set (i := 6) S_law.nd rfl (by first | exact .inl rfl | exact .inr rfl) (de_lend 1 C d_l_draw (da_cons (de_op op_addD prim_add (de_var 3) (de_int)) da_nil)) (by decide)) <|
    dss_cons (ds_set (i := 7) S_law.nd rfl (by first | exact .inl rfl | exact .inr rfl) (de_ix (de_call C d_l_ways (da_cons (de_callB call_lenA prim_len rfl B.len_ (by decide +kernel) (da_cons (de_var 2) da_nil)) (da_cons (de_var 3) da_nil))) (de_var 6)) (by decide)) <|
    dss_cons (ds_set (i := 8) S_law.nd rfl (by first | exact .inl rfl | exact .inr rfl) (de_call C d_many_text_rows (da_cons (de_callB call_lenA prim_len rfl B.len_ (by decide +kernel) (da_cons (de_var 2) da_nil)) (da_cons (de_var 3) (da_cons (de_var 6) da_nil)))) (by decide)) <|
    dss_cons (ds_if (dt_w (dw_or (dt_not (dt_tru (de_isi rfl B.isinstance_ rfl B.int_ (by decide +kernel) (de_var 8)))) (dw_or (dt_tru (de_isi rfl B.isinstance_ rfl B.bool_ (by decide +kernel) (de_var 8))) (dw_or1 (dt_cmp (op_neD C.u64) prim_ne isB_ne (de_var 8) (de_var 7) (nomark _)))))) (dss_one (ds_ret (de_bl))) (dss_nil)) <|
    dss_cons (ds_if (dt_cmp op_gt prim_gt isB_gt (de_var 7) (de_int) (nomark _)) (dss_one (ds_ret (de_call C d_l_same (da_cons (de_call C d_l_told (da_cons (de_callTy call_tuple_of prim_tuple rfl B.tuple_ (by decide +kernel) (da_cons (de_var 2) da_nil)) (da_cons (de_var 3) (da_cons (de_var 6) da_nil)))) (da_cons (de_tup (da_cons (de_str) (da_cons (de_var 7) (da_cons (de_bl) da_nil)))) da_nil))))) (dss_nil)) <|
    dss_one (ds_ret (de_call C d_l_same (da_cons (de_call C d_l_told (da_cons (de_callTy call_tuple_of prim_tuple rfl B.tuple_ (by decide +kernel) (da_cons (de_var 2) da_nil)) (da_cons (de_var 3) (da_cons (de_var 6) da_nil)))) (da_cons (de_callTy call_tuple_of prim_tuple rfl B.tuple_ (by decide +kernel) (da_cons (de_call C d_l_text_rows (da_cons (de_var 2) (da_cons (de_var 3) (da_cons (de_var 6) da_nil)))) da_nil)) da_nil))))
end K79


set_option Elab.async false
set_option linter.all false
set_option maxRecDepth 100000
set_option maxHeartbeats 0
namespace K79
open PySem PySem.Spec PyProof.Rows L2 VS
theorem hfree_of {names : List (Str × NameKind)} (h : (names.all fun q => (q.2 != .cell && q.2 != .free) || q.1 == ("__class__" : Str)) = true) : ∀ x, names.lookup x = some .cell ∨ names.lookup x = some .free → x = "__class__" := by
  intro x hx
  have key : ∀ k, names.lookup x = some k → (x, k) ∈ names := fun k e => PySem.mem_of_lookup e
  have use : ∀ k, (k = NameKind.cell ∨ k = .free) → names.lookup x = some k → x = "__class__" := fun k hk e => by
    have h2 := List.all_eq_true.mp h _ (key k e)
    rcases hk with rfl | rfl <;> simpa using h2
  rcases hx with e | e
  · exact use _ (.inl rfl) e
  · exact use _ (.inr rfl) e
/-! the head -/
def dOf (x : Str) (i : Nat) : He.DefD := ⟨(x, none), x, x, defArgs (top i), defBody (top i), defScope (top i), [], []⟩
def xOf (x : Str) (i : Nat) (fs : List Str) : ExD := ⟨x, PySem.Challenge.pw_migraproof_k79_text_rows_in_order.main.file, defArgs (inClass (top i) 0), defBody (inClass (top i) 0), defScope (inClass (top i) 0), fs⟩
def fn : List He.DefD := ([dOf "numbered_texts" 1, dOf "sample_texts" 2, dOf "many_text_rows" 8, dOf "with_text" 9, dOf "text_rows" 10, dOf "_law_tape" 12, dOf "_law_draw" 13, dOf "_law_texts" 14, dOf "_law_fresh" 15, dOf "_law_same" 16, dOf "_law_ways" 17, dOf "_law_text_rows" 18, dOf "_law_told" 19, dOf "law" 20] : List He.DefD)
def exs : List ExD := ([xOf "TooManyCases" 5 ["count"]] : List ExD)
def fa : List He.Fa := ([.glo "numbered_texts", .glo "sample_texts", .glo "many_text_rows", .glo "with_text", .glo "text_rows", .glo "_law_tape", .glo "_law_draw", .glo "_law_texts", .glo "_law_fresh", .glo "_law_same", .glo "_law_ways", .glo "_law_text_rows", .glo "_law_told", .glo "law", .glo "MigrationError", .glo "TooManyCases", .int "MOST_CASES" 300, .free "super", .free "ValueError", .free "abs", .free "bool", .free "enumerate", .free "int", .free "isinstance", .free "len"] : List He.Fa) ++ ([.free "list", .free "max", .free "range", .free "repr", .free "reversed", .free "str", .free "sum", .free "tuple", .exm "TooManyCases" "TooManyCases" true] : List He.Fa)
def ecs : List Str := (["TooManyCases"] : List Str)
def k2s : List (Str × Str × Bool) := ([("TooManyCases", "MigrationError", true)] : List (Str × Str × Bool))
def k3s : List (Str × String × Bool) := ([("TooManyCases", "ValueError", true)] : List (Str × String × Bool))
abbrev R : PySem.W.OpenRow := PySem.W.OpenLaw.row PySem.Challenge.rw_migraproof_k79_text_rows_in_order
abbrev hk : PySem.W.Hook := hookV 5 (faV fa ecs k2s k3s) fn exs
def ob (s : PySem.W.SharedT) : AlV := obsVG 5 (faV fa ecs k2s k3s) fn exs (HandSHeadRun.getT s)
theorem ob_eq (s : PySem.W.SharedT) : ob s = hk.obs s.abs := obsVG_eq (HandSHeadRun.getT_eq s)
def names : List PySem.Str := (["numbered_texts", "sample_texts", "MigrationError", "TooManyCases", "MOST_CASES", "many_text_rows", "with_text", "text_rows", "_law_tape", "_law_draw", "_law_texts", "_law_fresh", "_law_same", "_law_ways", "_law_text_rows", "_law_told"] : List PySem.Str)
theorem run (w : World) : HandSHeadRun.RunEq R (PySem.W.view R.prog [20]) hk ob 4000 names w := by
  intro os
  kernel_rfl
theorem facts {w : World} {K : PySem.W.Frag} {h : Heap} {mg : Str → Option Value} {f : Addr} (X : K.In h) (G : h.Ns mainGlobals mg) (hfa : mg ("law" : Str) = some (.ref f)) (c : SaysV (faV fa ecs k2s k3s) fn exs K) :
    ∃ fd : FuncData, (∀ (s : Shared) (v : Value), BindsTo s fd ⟨[v], []⟩ [("_law_script", v)]) ∧ ∀ base : Heap, K.In base → base.Ns mainGlobals mg → FnG PySem.Challenge.rw_migraproof_k79_text_rows_in_order.prog w K mg base 5 f fd ["_law_script"] g_law := by
  have q := c.facts
  have B : Bl mg := ⟨He.free_ok X G (faV_fa q 18 (f := .free "ValueError")), He.free_ok X G (faV_fa q 19 (f := .free "abs")), He.free_ok X G (faV_fa q 20 (f := .free "bool")), He.free_ok X G (faV_fa q 21 (f := .free "enumerate")), He.free_ok X G (faV_fa q 22 (f := .free "int")), He.free_ok X G (faV_fa q 23 (f := .free "isinstance")), He.free_ok X G (faV_fa q 24 (f := .free "len")), He.free_ok X G (faV_fa q 25 (f := .free "list")), He.free_ok X G (faV_fa q 26 (f := .free "max")), He.free_ok X G (faV_fa q 27 (f := .free "range")), He.free_ok X G (faV_fa q 28 (f := .free "repr")), He.free_ok X G (faV_fa q 29 (f := .free "reversed")), He.free_ok X G (faV_fa q 30 (f := .free "str")), He.free_ok X G (faV_fa q 31 (f := .free "sum")), He.free_ok X G (faV_fa q 32 (f := .free "tuple"))⟩
  obtain ⟨fd_numbered_texts, F_numbered_texts⟩ := c.def_ 0 (d := dOf "numbered_texts" 1)
  obtain ⟨fd_sample_texts, F_sample_texts⟩ := c.def_ 1 (d := dOf "sample_texts" 2)
  obtain ⟨fd_many_text_rows, F_many_text_rows⟩ := c.def_ 2 (d := dOf "many_text_rows" 8)
  obtain ⟨fd_with_text, F_with_text⟩ := c.def_ 3 (d := dOf "with_text" 9)
  obtain ⟨fd_text_rows, F_text_rows⟩ := c.def_ 4 (d := dOf "text_rows" 10)
  obtain ⟨fd_l_tape, F_l_tape⟩ := c.def_ 5 (d := dOf "_law_tape" 12)
  obtain ⟨fd_l_draw, F_l_draw⟩ := c.def_ 6 (d := dOf "_law_draw" 13)
  obtain ⟨fd_l_texts, F_l_texts⟩ := c.def_ 7 (d := dOf "_law_texts" 14)
  obtain ⟨fd_l_fresh, F_l_fresh⟩ := c.def_ 8 (d := dOf "_law_fresh" 15)
  obtain ⟨fd_l_same, F_l_same⟩ := c.def_ 9 (d := dOf "_law_same" 16)
  obtain ⟨fd_l_ways, F_l_ways⟩ := c.def_ 10 (d := dOf "_law_ways" 17)
  obtain ⟨fd_l_text_rows, F_l_text_rows⟩ := c.def_ 11 (d := dOf "_law_text_rows" 18)
  obtain ⟨fd_l_told, F_l_told⟩ := c.def_ 12 (d := dOf "_law_told" 19)
  obtain ⟨fd_law, F_law⟩ := c.def_ 13 (d := dOf "law" 20)
  obtain ⟨⟨xd_TooManyCases, X0_TooManyCases⟩, _, no_TooManyCases, xf_TooManyCases⟩ := c.ex_ 0 (d := xOf "TooManyCases" 5 ["count"])
  have M_numbered_texts := He.glo_ok X G (faV_fa q 0 (f := .glo "numbered_texts"))
  have M_sample_texts := He.glo_ok X G (faV_fa q 1 (f := .glo "sample_texts"))
  have M_many_text_rows := He.glo_ok X G (faV_fa q 2 (f := .glo "many_text_rows"))
  have M_with_text := He.glo_ok X G (faV_fa q 3 (f := .glo "with_text"))
  have M_text_rows := He.glo_ok X G (faV_fa q 4 (f := .glo "text_rows"))
  have M_l_tape := He.glo_ok X G (faV_fa q 5 (f := .glo "_law_tape"))
  have M_l_draw := He.glo_ok X G (faV_fa q 6 (f := .glo "_law_draw"))
  have M_l_texts := He.glo_ok X G (faV_fa q 7 (f := .glo "_law_texts"))
  have M_l_fresh := He.glo_ok X G (faV_fa q 8 (f := .glo "_law_fresh"))
  have M_l_same := He.glo_ok X G (faV_fa q 9 (f := .glo "_law_same"))
  have M_l_ways := He.glo_ok X G (faV_fa q 10 (f := .glo "_law_ways"))
  have M_l_text_rows := He.glo_ok X G (faV_fa q 11 (f := .glo "_law_text_rows"))
  have M_l_told := He.glo_ok X G (faV_fa q 12 (f := .glo "_law_told"))
  have M_MigrationError := He.glo_ok X G (faV_fa q 14 (f := .glo "MigrationError"))
  have M_TooManyCases := He.glo_ok X G (faV_fa q 15 (f := .glo "TooManyCases"))
  obtain ⟨t_MOST_CASES, G_MOST_CASES⟩ := He.int_ok X G (faV_fa q 16 (f := .int "MOST_CASES" 300))
  have K_TooManyCases_MigrationError := faV_k2 q 0 (x := "TooManyCases") (y := "MigrationError") (b := true)
  have K_TooManyCases_ValueError := faV_k3 q 0 (x := "TooManyCases") (y := "ValueError") (b := true)
  have X_TooManyCases : ExcF K "TooManyCases" ["count"] := ⟨xf_TooManyCases, no_TooManyCases, He.exm_ok (faV_fa q 33 (f := .exm "TooManyCases" "TooManyCases" true)), faV_ec q 0 (x := "TooManyCases")⟩
  have e := hfa.symm.trans (He.glo_ok X G (faV_fa q 13 (f := .glo "law")))
  cases e
  refine ⟨fd_law, fun s v => FunD.bindsA (ps := ["_law_script"]) F_law (fun _ _ _ _ _ _ us hl => match us, hl with | [_], _ => rfl) s [v] rfl, fun base _ _ => ?_⟩
  have r_TooManyCases : RaiseOk PySem.Challenge.rw_migraproof_k79_text_rows_in_order.prog w K mg base "TooManyCases" 1 1 (fs1 "count") := raise_of (ps := ["self", "count"]) X0_TooManyCases M_TooManyCases (fun _ _ _ _ _ _ _ us hl => match us, hl with | [_, _], _ => rfl)
    (fn_init (t := (tOst K "count" (tVar 0) (tVar 1))) X0_TooManyCases (by decide +kernel) (by decide +kernel) (He.free_ok X G (faV_fa q 17 (f := .free "super"))) rfl rfl rfl (by decide +kernel) (by decide +kernel) (by decide +kernel) (hfree_of (by decide +kernel)) (by decide +kernel) (by decide +kernel) rfl rfl (fun _ _ _ _ => rfl) (fun _ _ _ _ => ⟨_, rfl⟩) (spI_len rfl) (init1 X0_TooManyCases.oex (no_TooManyCases _ (by decide))) (fun _ _ _ _ _ _ _ => pss_one (ps_ost (pv 0) (pv 1))))
  have d_numbered_texts : DefOk PySem.Challenge.rw_migraproof_k79_text_rows_in_order.prog w K mg base "numbered_texts" 1 3 g_numbered_texts := defOk_of rfl M_numbered_texts F_numbered_texts.kp (F_numbered_texts.bindsN (ps := ["letter", "many", "but"]) fun _ _ _ _ _ _ us hl => match us, hl with | [_, _, _], _ => rfl) (fn_ofG F_numbered_texts S_numbered_texts (by decide) fun cdv A outer s H E C => b_numbered_texts B  cdv A outer s H E C)
  have d_sample_texts : DefOkK PySem.Challenge.rw_migraproof_k79_text_rows_in_order.prog w K mg base "sample_texts" 2 2 ["but"] g_sample_texts := ⟨_, fd_sample_texts, ["many", "but"], rfl, M_sample_texts, F_sample_texts.kp, bindK F_sample_texts (fun _ _ _ _ _ _ us ws h1 h2 => match us, ws, h1, h2 with | [_], [_], _, _ => rfl), (fn_ofG F_sample_texts S_sample_texts (by decide) fun cdv A outer s H E C => b_sample_texts B d_numbered_texts cdv A outer s H E C)⟩
  have d_many_text_rows : DefOk PySem.Challenge.rw_migraproof_k79_text_rows_in_order.prog w K mg base "many_text_rows" 1 3 g_many_text_rows := defOk_of rfl M_many_text_rows F_many_text_rows.kp (F_many_text_rows.bindsN (ps := ["length", "columns", "many"]) fun _ _ _ _ _ _ us hl => match us, hl with | [_, _, _], _ => rfl) (fn_ofG F_many_text_rows S_many_text_rows (by decide) fun cdv A outer s H E C => b_many_text_rows B  cdv A outer s H E C)
  have d_with_text : DefOk PySem.Challenge.rw_migraproof_k79_text_rows_in_order.prog w K mg base "with_text" 1 4 g_with_text := defOk_of rfl M_with_text F_with_text.kp (F_with_text.bindsN (ps := ["rows", "texts", "samples", "left"]) fun _ _ _ _ _ _ us hl => match us, hl with | [_, _, _, _], _ => rfl) (fn_ofG F_with_text S_with_text (by decide) fun cdv A outer s H E C => b_with_text B  cdv A outer s H E C)
  have d_text_rows : DefOk PySem.Challenge.rw_migraproof_k79_text_rows_in_order.prog w K mg base "text_rows" 3 3 g_text_rows := defOk_of rfl M_text_rows F_text_rows.kp (F_text_rows.bindsN (ps := ["texts", "columns", "many"]) fun _ _ _ _ _ _ us hl => match us, hl with | [_, _, _], _ => rfl) (fn_ofG F_text_rows S_text_rows (by decide) fun cdv A outer s H E C => b_text_rows B d_many_text_rows d_sample_texts d_with_text r_TooManyCases G_MOST_CASES cdv A outer s H E C)
  have d_l_tape : DefOk PySem.Challenge.rw_migraproof_k79_text_rows_in_order.prog w K mg base "_law_tape" 1 1 g_l_tape := defOk_of rfl M_l_tape F_l_tape.kp (F_l_tape.bindsN (ps := ["_law_script"]) fun _ _ _ _ _ _ us hl => match us, hl with | [_], _ => rfl) (fn_ofG F_l_tape S_l_tape (by decide) fun cdv A outer s H E C => b_l_tape B  cdv A outer s H E C)
  have d_l_draw : DefOk PySem.Challenge.rw_migraproof_k79_text_rows_in_order.prog w K mg base "_law_draw" 1 2 g_l_draw := defOk_of rfl M_l_draw F_l_draw.kp (F_l_draw.bindsN (ps := ["_law_tape_here", "_law_many"]) fun _ _ _ _ _ _ us hl => match us, hl with | [_, _], _ => rfl) (fn_ofG F_l_draw S_l_draw (by decide) fun cdv A outer s H E C => b_l_draw B  cdv A outer s H E C)
  have d_l_texts : DefOk PySem.Challenge.rw_migraproof_k79_text_rows_in_order.prog w K mg base "_law_texts" 2 2 g_l_texts := defOk_of rfl M_l_texts F_l_texts.kp (F_l_texts.bindsN (ps := ["_law_tape_here", "_law_many"]) fun _ _ _ _ _ _ us hl => match us, hl with | [_, _], _ => rfl) (fn_ofG F_l_texts S_l_texts (by decide) fun cdv A outer s H E C => b_l_texts B d_l_draw cdv A outer s H E C)
  have d_l_fresh : DefOk PySem.Challenge.rw_migraproof_k79_text_rows_in_order.prog w K mg base "_law_fresh" 1 3 g_l_fresh := defOk_of rfl M_l_fresh F_l_fresh.kp (F_l_fresh.bindsN (ps := ["_law_sign", "_law_constants", "_law_many"]) fun _ _ _ _ _ _ us hl => match us, hl with | [_, _, _], _ => rfl) (fn_ofG F_l_fresh S_l_fresh (by decide) fun cdv A outer s H E C => b_l_fresh B  cdv A outer s H E C)
  have d_l_same : DefOk PySem.Challenge.rw_migraproof_k79_text_rows_in_order.prog w K mg base "_law_same" 1 2 g_l_same := defOk_of rfl M_l_same F_l_same.kp (F_l_same.bindsN (ps := ["_law_told_here", "_law_due"]) fun _ _ _ _ _ _ us hl => match us, hl with | [_, _], _ => rfl) (fn_ofG F_l_same S_l_same (by decide) fun cdv A outer s H E C => b_l_same B  cdv A outer s H E C)
  have d_l_ways : DefOk PySem.Challenge.rw_migraproof_k79_text_rows_in_order.prog w K mg base "_law_ways" 1 2 g_l_ways := defOk_of rfl M_l_ways F_l_ways.kp (F_l_ways.bindsN (ps := ["_law_many", "_law_columns"]) fun _ _ _ _ _ _ us hl => match us, hl with | [_, _], _ => rfl) (fn_ofG F_l_ways S_l_ways (by decide) fun cdv A outer s H E C => b_l_ways B  cdv A outer s H E C)
  have d_l_text_rows : DefOk PySem.Challenge.rw_migraproof_k79_text_rows_in_order.prog w K mg base "_law_text_rows" 2 3 g_l_text_rows := defOk_of rfl M_l_text_rows F_l_text_rows.kp (F_l_text_rows.bindsN (ps := ["_law_texts_here", "_law_columns", "_law_many"]) fun _ _ _ _ _ _ us hl => match us, hl with | [_, _, _], _ => rfl) (fn_ofG F_l_text_rows S_l_text_rows (by decide) fun cdv A outer s H E C => b_l_text_rows B d_l_fresh cdv A outer s H E C)
  have d_l_told : DefOk PySem.Challenge.rw_migraproof_k79_text_rows_in_order.prog w K mg base "_law_told" 4 3 g_l_told := defOk_of rfl M_l_told F_l_told.kp (F_l_told.bindsN (ps := ["_law_texts_here", "_law_columns", "_law_many"]) fun _ _ _ _ _ _ us hl => match us, hl with | [_, _, _], _ => rfl) (fn_ofG F_l_told S_l_told (by decide) fun cdv A outer s H E C => b_l_told B d_text_rows X_TooManyCases M_TooManyCases M_MigrationError K_TooManyCases_MigrationError K_TooManyCases_ValueError cdv A outer s H E C)
  exact (fn_ofG F_law S_law (by decide) fun cdv A outer s H E C => b_law B d_l_draw d_l_same d_l_tape d_l_text_rows d_l_texts d_l_told d_l_ways d_many_text_rows cdv A outer s H E C)
end K79


set_option Elab.async false
set_option linter.all false
set_option maxRecDepth 100000
set_option maxHeartbeats 1000000
namespace K79
open PySem PySem.Spec PyProof.Rows L2 VS
abbrev iList (ns : List Int) : D := .list (ns.map .int)
/-- a tape: the cells, the place, what is held, the total -/
def tape (ns : List Int) (p : Nat) (h t : Int) : D := .list [iList ns, .int p, .int h, .int t]
section
variable (ns : List Int) (p : Nat) (h t m : Int)
theorem k0 (a b c d : D) : gIdx (.list [a, b, c, d]) (.int 0) = some (.fz a) := rfl
theorem k1 (a b c d : D) : gIdx (.list [a, b, c, d]) (.int 1) = some (.fz b) := rfl
theorem k2 (a b c d : D) : gIdx (.list [a, b, c, d]) (.int 2) = some (.fz c) := rfl
theorem k3 (a b c d : D) : gIdx (.list [a, b, c, d]) (.int 3) = some (.fz d) := rfl
theorem x1 : ixN 4 1 = some 1 := rfl
theorem x2 : ixN 4 2 = some 2 := rfl
theorem x3 : ixN 4 3 = some 3 := rfl
def f48 (i : Int) : Int := i * 48271
def f69 (i : Int) : Int := i * 69621
def f31 (i : Int) : Int := i * 31
def fm1 (i : Int) : Int := i % 2147483647
def fm2 (i : Int) : Int := i % 2147483629
theorem mul1 (i : Int) : gMul (.int i) (.int 48271) = some (.fz (.int (f48 i))) := gMul_r rfl
theorem mul2 (i : Int) : gMul (.int i) (.int 69621) = some (.fz (.int (f69 i))) := gMul_r rfl
theorem mul3 (i : Int) : gMul (.int i) (.int 31) = some (.fz (.int (f31 i))) := gMul_r rfl
theorem mod1 (i : Int) : gMod (.int i) (.int 2147483647) = some (.fz (.int (fm1 i))) := gMod_ii (by decide)
theorem mod2 (i : Int) : gMod (.int i) (.int 2147483629) = some (.fz (.int (fm2 i))) := gMod_ii (by decide)
theorem pow18 : gPow (.int 10) (.int 18) = some (.fz (.int (10 ^ 18))) := rfl
theorem max1 : gMax2 [.int m, .int 1] = some (.fz (.int (max m 1))) := by
  rw [gMax_ii]
  congr 3
  split <;> omega
theorem max2 : gMax2 [.int m, .int 2] = some (.fz (.int (max m 2))) := by
  rw [gMax_ii]
  congr 3
  split <;> omega
theorem modm (i : Int) : gMod (.int i) (.int (max m 1)) = some (.fz (.int (i % max m 1))) := gMod_ii (by omega)
theorem divm (i : Int) (hm : m ≤ 1000) : gFdiv (.int i) (.int (max m 2)) = some (.fz (.int (i / max m 2))) := gFdiv_ii (by
  unfold CDivB
  simp only [Bool.and_eq_true, decide_eq_true_eq]
  omega)
abbrev fEnd : Sv := sSeq (sSet 3 (ePk (pkBin gIdx (pkVar 0) (pkC (.int 2))))) <|
  sSeq (sSetIx 0 (pkC (.int 2)) (eBin gFdiv (eVar 3) (eArgs gMax2 (aCons (eVar 1) (aCons (eC (.int 2)) aNil))))) <|
  sRet (eBin gMod (eArgs gInt (aCons (eVar 3) aNil)) (eArgs gMax2 (aCons (eVar 1) (aCons (eC (.int 1)) aNil))))
theorem draw_fin (hm : m ≤ 1000) (s2 s3 : Sl) : fEnd [.ow 1 (tape ns p h t), .fz (.int m), s2, s3] = .rt (.fz (.int (h % max m 1))) [.ow 1 (tape ns p (h / max m 2) t), .fz (.int m), s2, .fz (.int h)] := by
  simp [fEnd, Rs.bind, Rs.of, Rs.out, eC, eBin, eUn, eArgs, aNil, aCons, sSeq, sSet, sIf, sRet, sExpr, sNx, sSetIx, ePk, tPk, tTru, pkVar, pkC, pkBin, pkUn, pkCall1, pkCall2, Sl.d?, Vl.d, Vl.sl, flatD, truthD, elt?, eMove, eVar, gNm, sAug, gInt_i, tape, k2, x2, max1, max2, divm m h hm, modm]
abbrev fNum : Sv := sIf (tPk (pkBin gLt (pkVar 2) (pkCall1 gLen (pkBin gIdx (pkVar 0) (pkC (.int 0)))))) (sSet 3 (ePk (pkCall1 gAbs (pkCall1 gInt (pkBin gIdx (pkBin gIdx (pkVar 0) (pkC (.int 0))) (pkVar 2)))))) (sSeq (sSetIx 0 (pkC (.int 3)) (ePk (pkBin gMod (pkCall1 gInt (pkBin gAdd (pkBin gAdd (pkBin gMul (pkBin gIdx (pkVar 0) (pkC (.int 3))) (pkC (.int 48271))) (pkVar 2)) (pkC (.int 1)))) (pkC (.int 2147483647))))) <|
    sSet 3 (ePk (pkBin gIdx (pkVar 0) (pkC (.int 3)))))
theorem draw_num : ∃ (n t' : Int), fNum [.ow 1 (tape ns p h t), .fz (.int m), .fz (.int p), .fz (.int 0)] = .nx [.ow 1 (tape ns p h t'), .fz (.int m), .fz (.int p), .fz (.int n)] := by
  by_cases hp : p < ns.length
  · have hc : gIdx (iList ns) (.int p) = some (.fz (.int ns[p])) := gIdx_l (VS.atI_nat (by simp [hp]))
    refine ⟨if ns[p] < 0 then -ns[p] else ns[p], t, ?_⟩
    simp [fNum, Rs.bind, Rs.of, Rs.out, eC, eBin, eUn, eArgs, aNil, aCons, sSeq, sSet, sIf, sRet, sExpr, sNx, sSetIx, ePk, tPk, tTru, pkVar, pkC, pkBin, pkUn, pkCall1, pkCall2, Sl.d?, Vl.d, Vl.sl, flatD, truthD, elt?, eMove, eVar, gNm, sAug, gAdd_ii, gAddI_ii, gSub_ii, gLt_ii, gLe_ii, gGt_ii, gGe_ii, gEq_ii, gNe_ii, gEq_bb, gNe_bb, gLen_l, gLen_t, gAbs_i, gInt_i, gInt_b, gMax_ii, gTuple_l, gTuple_t, gList_l, gList_t, tape, k0, hp, hc]
  · refine ⟨fm1 (f48 t + p + 1), fm1 (f48 t + p + 1), ?_⟩
    simp [fNum, Rs.bind, Rs.of, Rs.out, eC, eBin, eUn, eArgs, aNil, aCons, sSeq, sSet, sIf, sRet, sExpr, sNx, sSetIx, ePk, tPk, tTru, pkVar, pkC, pkBin, pkUn, pkCall1, pkCall2, Sl.d?, Vl.d, Vl.sl, flatD, truthD, elt?, eMove, eVar, gNm, sAug, gAdd_ii, gAddI_ii, gSub_ii, gLt_ii, gLe_ii, gGt_ii, gGe_ii, gEq_ii, gNe_ii, gEq_bb, gNe_bb, gLen_l, gLen_t, gAbs_i, gInt_i, gInt_b, gMax_ii, gTuple_l, gTuple_t, gList_l, gList_t, tape, k0, k3, x3, hp, mul1, mod1]
abbrev fRest : Sv := sSeq (sSet 3 (eBin gMod (eArgs gInt (aCons (eBin gAdd (eBin gAdd (eBin gMul (eVar 3) (eC (.int 48271))) (eBin gMul (eVar 2) (eC (.int 69621)))) (eC (.int 5))) aNil)) (eC (.int 2147483647)))) <|
    sSeq (sSet 3 (eBin gMod (eArgs gInt (aCons (eBin gMul (eVar 3) (eC (.int 69621))) aNil)) (eC (.int 2147483629)))) <|
    sRet (eBin gMod (eArgs gInt (aCons (eVar 3) aNil)) (eArgs gMax2 (aCons (eVar 1) (aCons (eC (.int 1)) aNil))))
abbrev fGo : Sv := sSeq (sSet 2 (ePk (pkBin gIdx (pkVar 0) (pkC (.int 1))))) <|
    sSeq (sSet 3 (eC (.int 0))) <|
    sSeq fNum <|
    sSeq (sSetIx 0 (pkC (.int 1)) (eBin gAdd (eVar 2) (eC (.int 1)))) <|
    sSeq (sIf (tTru (eBin gLt (eVar 3) (eBin gPow (eC (.int 10)) (eC (.int 18))))) fRest sNx) <|
    sSetIx 0 (pkC (.int 2)) (eVar 3)
theorem t2 (d : D) (p m n : Int) : sSet 3 (eBin gMod (eArgs gInt (aCons (eBin gMul (eVar 3) (eC (.int 69621))) aNil)) (eC (.int 2147483629))) [.ow 1 d, .fz (.int m), .fz (.int p), .fz (.int n)] = .nx [.ow 1 d, .fz (.int m), .fz (.int p), .fz (.int (fm2 (f69 n)))] := by
  simp [Rs.bind, Rs.of, Rs.out, eC, eBin, eUn, eArgs, aNil, aCons, sSeq, sSet, sIf, sRet, sExpr, sNx, sSetIx, ePk, tPk, tTru, pkVar, pkC, pkBin, pkUn, pkCall1, pkCall2, Sl.d?, Vl.d, Vl.sl, flatD, truthD, elt?, eMove, eVar, gNm, sAug, gAdd_ii, gInt_i, mul1, mul2, mod1, mod2]
theorem t3 (d : D) (p m n : Int) : sRet (eBin gMod (eArgs gInt (aCons (eVar 3) aNil)) (eArgs gMax2 (aCons (eVar 1) (aCons (eC (.int 1)) aNil)))) [.ow 1 d, .fz (.int m), .fz (.int p), .fz (.int n)] = .rt (.fz (.int (n % max m 1))) [.ow 1 d, .fz (.int m), .fz (.int p), .fz (.int n)] := by
  simp [Rs.bind, Rs.of, Rs.out, eC, eBin, eUn, eArgs, aNil, aCons, sSeq, sSet, sIf, sRet, sExpr, sNx, sSetIx, ePk, tPk, tTru, pkVar, pkC, pkBin, pkUn, pkCall1, pkCall2, Sl.d?, Vl.d, Vl.sl, flatD, truthD, elt?, eMove, eVar, gNm, sAug, gAdd_ii, gInt_i, max1, modm]
theorem t1 (d : D) (p m n : Int) : sSet 3 (eBin gMod (eArgs gInt (aCons (eBin gAdd (eBin gAdd (eBin gMul (eVar 3) (eC (.int 48271))) (eBin gMul (eVar 2) (eC (.int 69621)))) (eC (.int 5))) aNil)) (eC (.int 2147483647))) [.ow 1 d, .fz (.int m), .fz (.int p), .fz (.int n)] = .nx [.ow 1 d, .fz (.int m), .fz (.int p), .fz (.int (fm1 (f48 n + f69 p + 5)))] := by
  simp [Rs.bind, Rs.of, Rs.out, eC, eBin, eUn, eArgs, aNil, aCons, sSeq, sSet, sIf, sRet, sExpr, sNx, sSetIx, ePk, tPk, tTru, pkVar, pkC, pkBin, pkUn, pkCall1, pkCall2, Sl.d?, Vl.d, Vl.sl, flatD, truthD, elt?, eMove, eVar, gNm, sAug, gAdd_ii, gInt_i, mul1, mul2, mod1, mod2]
theorem draw_rest (d : D) (n : Int) : ∃ n', fRest [.ow 1 d, .fz (.int m), .fz (.int p), .fz (.int n)] = .rt (.fz (.int (n' % max m 1))) [.ow 1 d, .fz (.int m), .fz (.int p), .fz (.int n')] :=
  ⟨fm2 (f69 (fm1 (f48 n + f69 p + 5))), (sSeq_nx (t1 d p m n)).trans ((sSeq_nx (t2 d p m _)).trans (t3 d p m _))⟩
theorem draw_go : (∃ n' t' s3, fGo [.ow 1 (tape ns p h t), .fz (.int m), .un, .un] = .rt (.fz (.int (n' % max m 1))) [.ow 1 (tape ns (p + 1) h t'), .fz (.int m), .fz (.int p), s3]) ∨
    ∃ h' t' s3, fGo [.ow 1 (tape ns p h t), .fz (.int m), .un, .un] = .nx [.ow 1 (tape ns (p + 1) h' t'), .fz (.int m), .fz (.int p), s3] := by
  obtain ⟨n, t', hnum⟩ := draw_num ns p h t m
  have a1 : sSet 2 (ePk (pkBin gIdx (pkVar 0) (pkC (.int 1)))) [.ow 1 (tape ns p h t), .fz (.int m), .un, .un] = .nx [.ow 1 (tape ns p h t), .fz (.int m), .fz (.int p), .un] := by
    simp [Rs.bind, Rs.of, Rs.out, eC, eBin, eUn, eArgs, aNil, aCons, sSeq, sSet, sIf, sRet, sExpr, sNx, sSetIx, ePk, tPk, tTru, pkVar, pkC, pkBin, pkUn, pkCall1, pkCall2, Sl.d?, Vl.d, Vl.sl, flatD, truthD, elt?, eMove, eVar, gNm, sAug, tape, k1]
  have a2 : sSet 3 (eC (.int 0)) [.ow 1 (tape ns p h t), .fz (.int m), .fz (.int p), .un] = .nx [.ow 1 (tape ns p h t), .fz (.int m), .fz (.int p), .fz (.int 0)] := by
    simp [Rs.bind, Rs.of, Rs.out, eC, eBin, eUn, eArgs, aNil, aCons, sSeq, sSet, sIf, sRet, sExpr, sNx, sSetIx, ePk, tPk, tTru, pkVar, pkC, pkBin, pkUn, pkCall1, pkCall2, Sl.d?, Vl.d, Vl.sl, flatD, truthD, elt?, eMove, eVar, gNm, sAug]
  have a3 : sSetIx 0 (pkC (.int 1)) (eBin gAdd (eVar 2) (eC (.int 1))) [.ow 1 (tape ns p h t'), .fz (.int m), .fz (.int p), .fz (.int n)] = .nx [.ow 1 (tape ns (p + 1) h t'), .fz (.int m), .fz (.int p), .fz (.int n)] := by
    simp [Rs.bind, Rs.of, Rs.out, eC, eBin, eUn, eArgs, aNil, aCons, sSeq, sSet, sIf, sRet, sExpr, sNx, sSetIx, ePk, tPk, tTru, pkVar, pkC, pkBin, pkUn, pkCall1, pkCall2, Sl.d?, Vl.d, Vl.sl, flatD, truthD, elt?, eMove, eVar, gNm, sAug, tape, gAdd_ii, x1]
  have a4 : fGo [.ow 1 (tape ns p h t), .fz (.int m), .un, .un] = sSeq (sIf (tTru (eBin gLt (eVar 3) (eBin gPow (eC (.int 10)) (eC (.int 18))))) fRest sNx) (sSetIx 0 (pkC (.int 2)) (eVar 3)) [.ow 1 (tape ns (p + 1) h t'), .fz (.int m), .fz (.int p), .fz (.int n)] := by
    unfold fGo
    rw [sSeq_nx a1, sSeq_nx a2, sSeq_nx hnum, sSeq_nx a3]
  have a5 : tTru (eBin gLt (eVar 3) (eBin gPow (eC (.int 10)) (eC (.int 18)))) [.ow 1 (tape ns (p + 1) h t'), .fz (.int m), .fz (.int p), .fz (.int n)] = .ok (decide (n < 10 ^ 18), [.ow 1 (tape ns (p + 1) h t'), .fz (.int m), .fz (.int p), .fz (.int n)]) := by
    unfold tTru eBin eC eVar
    simp only [Rs.bind, List.getElem?_cons_succ, List.getElem?_cons_zero, pow18, Rs.of, Vl.d, gLt_ii, truthD]
  rw [a4]
  by_cases hn : n < 10 ^ 18
  · obtain ⟨n', hr⟩ := draw_rest p m (tape ns (p + 1) h t') n
    rw [decide_eq_true hn] at a5
    exact .inl ⟨n', t', _, sSeq_rt ((sIf_t a5).trans hr)⟩
  · rw [decide_eq_false hn] at a5
    refine .inr ⟨n, t', .fz (.int n), ?_⟩
    have a6 : sIf (tTru (eBin gLt (eVar 3) (eBin gPow (eC (.int 10)) (eC (.int 18))))) fRest sNx [.ow 1 (tape ns (p + 1) h t'), .fz (.int m), .fz (.int p), .fz (.int n)] = .nx [.ow 1 (tape ns (p + 1) h t'), .fz (.int m), .fz (.int p), .fz (.int n)] := sIf_f a5
    rw [sSeq_nx a6]
    simp [Rs.bind, Rs.of, Rs.out, eC, eBin, eUn, eArgs, aNil, aCons, sSeq, sSet, sIf, sRet, sExpr, sNx, sSetIx, ePk, tPk, tTru, pkVar, pkC, pkBin, pkUn, pkCall1, pkCall2, Sl.d?, Vl.d, Vl.sl, flatD, truthD, elt?, eMove, eVar, gNm, sAug, tape, x2]
theorem draw_test : tPk (pkBin gEq (pkBin gIdx (pkVar 0) (pkC (.int 2))) (pkC (.int 0))) [.ow 1 (tape ns p h t), .fz (.int m), .un, .un] = .ok (h == 0, [.ow 1 (tape ns p h t), .fz (.int m), .un, .un]) := by
  simp [Rs.bind, Rs.of, Rs.out, eC, eBin, eUn, eArgs, aNil, aCons, sSeq, sSet, sIf, sRet, sExpr, sNx, sSetIx, ePk, tPk, tTru, pkVar, pkC, pkBin, pkUn, pkCall1, pkCall2, Sl.d?, Vl.d, Vl.sl, flatD, truthD, elt?, eMove, eVar, gNm, sAug, tape, k2, gEq_ii]
theorem draw_all (hm : m ≤ 1000) : ∃ r p' h' t', 0 ≤ r ∧ r < max m 1 ∧ g_l_draw [.ow 1 (tape ns p h t), .fz (.int m)] = .ok (.fz (.int r), [.ow 1 (tape ns p' h' t'), .un]) := by
  have mm : ∀ n : Int, 0 ≤ n % max m 1 ∧ n % max m 1 < max m 1 := fun n => ⟨Int.emod_nonneg _ (by omega), Int.emod_lt_of_pos n (by omega)⟩
  have e : m_l_draw = sSeq (sIf (tPk (pkBin gEq (pkBin gIdx (pkVar 0) (pkC (.int 2))) (pkC (.int 0)))) fGo sNx) fEnd := rfl
  have mk : ∀ (a b c d : Sl), mask [0] 2 [a, b, c, d] = [a, .un] := fun _ _ _ _ => rfl
  have tst := draw_test ns p h t m
  unfold g_l_draw
  rw [e]
  cases hh : (h == 0) with
  | false =>
    rw [hh] at tst
    refine ⟨_, p, h / max m 2, t, (mm h).1, (mm h).2, ?_⟩
    rw [gDef_rt (e' := [.ow 1 (tape ns p (h / max m 2) t), .fz (.int m), .un, .fz (.int h)]) (v := .fz (.int (h % max m 1))), mk]
    exact (sSeq_nx (sIf_f tst)).trans (draw_fin ns p h t m hm _ _)
  | true =>
    rw [hh] at tst
    rcases draw_go ns p h t m with ⟨n', t', s3, hg⟩ | ⟨h', t', s3, hg⟩
    · refine ⟨_, p + 1, h, t', (mm n').1, (mm n').2, ?_⟩
      rw [gDef_rt (e' := [.ow 1 (tape ns (p + 1) h t'), .fz (.int m), .fz (.int p), s3]) (v := .fz (.int (n' % max m 1))), mk]
      exact sSeq_rt ((sIf_t tst).trans hg)
    · refine ⟨_, p + 1, h' / max m 2, t', (mm h').1, (mm h').2, ?_⟩
      rw [gDef_rt (e' := [.ow 1 (tape ns (p + 1) (h' / max m 2) t'), .fz (.int m), .fz (.int p), .fz (.int h')]) (v := .fz (.int (h' % max m 1))), mk]
      exact (sSeq_nx ((sIf_t tst).trans hg)).trans (draw_fin ns (p + 1) h' t' m hm _ _)
end
end K79


set_option Elab.async false
set_option linter.all false
set_option maxRecDepth 100000
set_option maxHeartbeats 1000000
namespace K79
open PySem PySem.Spec PyProof.Rows L2 VS
/-! the tape -/
abbrev fTape : Sv := sSet 1 (eBin gMod (eArgs gInt (aCons (eBin gAdd (eBin gMul (eVar 1) (eC (.int 31))) (eArgs gAbs (aCons (eArgs gInt (aCons (eVar 2) aNil)) aNil))) aNil)) (eC (.int 2147483647)))
theorem tape_loop (d : D) : ∀ (ns : List Int) (t : Int) (s : Sl), ∃ t' s', forL (gNm 2) fTape (ns.map .int) [.fz d, .fz (.int t), s] = .nx [.fz d, .fz (.int t'), s']
  | [], t, s => ⟨t, s, rfl⟩
  | n :: ns, t, s => by
    obtain ⟨t', s', h⟩ := tape_loop d ns (fm1 (f31 t + (if n < 0 then -n else n))) (.fz (.int n))
    refine ⟨t', s', ?_⟩
    rw [List.map_cons, forL_nx (e1 := [.fz d, .fz (.int t), .fz (.int n)]) (e2 := [.fz d, .fz (.int (fm1 (f31 t + (if n < 0 then -n else n)))), .fz (.int n)]) rfl, h]
    simp [Rs.bind, Rs.of, Rs.out, eC, eBin, eUn, eArgs, aNil, aCons, sSeq, sSet, sIf, sRet, sExpr, sNx, sSetIx, ePk, tPk, tTru, pkVar, pkC, pkBin, pkUn, pkCall1, pkCall2, Sl.d?, Vl.d, Vl.sl, flatD, truthD, elt?, eMove, eVar, gNm, sAug, gAdd_ii, gInt_i, gAbs_i, mul3, mod1]
theorem tape_all (ns : List Int) : ∃ t, g_l_tape [.fz (iList ns)] = .ok (.ow 1 (tape ns 0 0 t), [.un]) := by
  obtain ⟨t', s', h⟩ := tape_loop (iList ns) ns 7 .un
  refine ⟨t', ?_⟩
  have mk : ∀ (a b c : Sl), mask [] 1 [a, b, c] = [.un] := fun _ _ _ => rfl
  have a1 : sSet 1 (eC (.int 7)) [.fz (iList ns), .un, .un] = .nx [.fz (iList ns), .fz (.int 7), .un] := rfl
  have a2 : iSeq (eVar 0) [.fz (iList ns), .fz (.int 7), .un] = .ok (ns.map .int, [.fz (iList ns), .fz (.int 7), .un]) := rfl
  have a3 : (eArgs gLst (aCons (eArgs gList (aCons (eVar 0) aNil)) (aCons (eC (.int 0)) (aCons (eC (.int 0)) (aCons (eVar 1) aNil))))) [.fz (iList ns), .fz (.int t'), s'] = .ok (.ow 1 (tape ns 0 0 t'), [.fz (iList ns), .fz (.int t'), s']) := by
    have e : gLst [iList ns, .int 0, .int 0, .int t'] = some (.ow 1 (.list [iList ns, .int 0, .int 0, .int t'])) := gLst_ok (by show 4 ≤ sizeLine; rw [sizeLine_eq]; decide)
    simp [Rs.bind, Rs.of, Rs.out, eC, eBin, eUn, eArgs, aNil, aCons, sSeq, sSet, sIf, sRet, sExpr, sNx, sSetIx, ePk, tPk, tTru, pkVar, pkC, pkBin, pkUn, pkCall1, pkCall2, Sl.d?, Vl.d, Vl.sl, flatD, truthD, elt?, eMove, eVar, gNm, sAug, gList_l, e, tape]
  unfold g_l_tape
  rw [gDef_rt (e' := [.fz (iList ns), .fz (.int t'), s']) (v := .ow 1 (tape ns 0 0 t')), mk]
  unfold m_l_tape
  exact (sSeq_nx a1).trans ((sSeq_nx ((sFor_ok a2).trans h)).trans (sRet_ok a3))
/-! the ways -/
theorem getD_lt {l : List Int} {i : Nat} (h : i < l.length) : l.getD i 0 = l[i] := by
  rw [List.getD_eq_getElem?_getD, List.getElem?_eq_getElem h]; rfl
def wstep (n : Int) (w : List Int) : List Int := (List.range (w.length + 1)).map fun j => (n + j) * (w.getD j 0) + (if j = 0 then 0 else w.getD (j - 1) 0)
def ways (n : Int) : Nat → List Int
  | 0 => [1]
  | c + 1 => wstep n (ways n c)
theorem wstep_len (n : Int) (w : List Int) : (wstep n w).length = w.length + 1 := by simp [wstep]
theorem ways_len (n : Int) : ∀ c, (ways n c).length = c + 1
  | 0 => rfl
  | c + 1 => by rw [ways, wstep_len, ways_len n c]
theorem cons_getD (w : List Int) (j : Nat) : (0 :: w).getD j 0 = if j = 0 then 0 else w.getD (j - 1) 0 := by cases j <;> simp
theorem wstep_getD (n : Int) (w : List Int) {j : Nat} (h : j < w.length + 1) : (wstep n w).getD j 0 = (n + j) * w.getD j 0 + (if j = 0 then 0 else w.getD (j - 1) 0) := by
  unfold wstep
  rw [List.getD_eq_getElem?_getD, List.getElem?_map, List.getElem?_range h]
  rfl
/-- the law's inner loop: j places done -/
theorem lways_loop (n c : Int) (w : List Int) (s0 : D) (hn : isSmall n = true ∧ (0 ≤ n ∧ n ≤ 1000)) (hw : w.length ≤ 1000) : ∀ (k j : Nat) (acc : List Int) (s : Sl), j + k = w.length → acc.length = w.length + 1 → (∀ i, i < j → acc.getD i 0 = (wstep n w).getD i 0) → (∀ i, j ≤ i → acc.getD i 0 = (0 :: w).getD i 0) →
    ∃ acc' s', forL (gNm 5) (sSetIx 4 (pkVar 5) (ePk (pkBin gAdd (pkBin gIdx (pkVar 4) (pkVar 5)) (pkBin gMul (pkBin gAdd (pkVar 0) (pkVar 5)) (pkBin gIdx (pkVar 2) (pkVar 5)))))) ((List.range' j k).map fun i => .int ((i : Nat) : Int)) [.fz (.int n), .fz (.int c), .fz (iList w), .fz s0, .ow 1 (iList acc), s] = .nx [.fz (.int n), .fz (.int c), .fz (iList w), .fz s0, .ow 1 (iList acc'), s'] ∧ acc'.length = w.length + 1 ∧ (∀ i, i < w.length → acc'.getD i 0 = (wstep n w).getD i 0) ∧ acc'.getD w.length 0 = (0 :: w).getD w.length 0
  | 0, j, acc, s, hj, hl, h1, h2 => ⟨acc, s, rfl, hl, fun i hi => h1 i (by omega), h2 _ (by omega)⟩
  | k + 1, j, acc, s, hj, hl, h1, h2 => by
    have ja : j < acc.length := by omega
    have jw : j < w.length := by omega
    have ga : gIdx (iList acc) (.int j) = some (.fz (.int acc[j])) := gIdx_l (VS.atI_nat (by simp [ja]))
    have gw : gIdx (iList w) (.int j) = some (.fz (.int w[j])) := gIdx_l (VS.atI_nat (by simp [jw]))
    have gm : gMul (.int (n + j)) (.int w[j]) = some (.fz (.int ((n + j) * w[j]))) := gMul_l (by unfold isSmall; simp only [Bool.and_eq_true, decide_eq_true_eq]; omega)
    have vj : acc[j] + (n + j) * w[j] = (wstep n w).getD j 0 := by
      have := h2 j (Nat.le_refl _)
      rw [getD_lt ja] at this
      rw [this]
      rw [cons_getD, wstep_getD n w (by omega), getD_lt jw, Int.add_comm]
    obtain ⟨acc', s', h3, h4⟩ := lways_loop n c w s0 hn hw k (j + 1) (acc.set j ((wstep n w).getD j 0)) (.fz (.int j)) (by omega) (by simpa using hl) (fun i hi => by
      by_cases e : i = j
      · subst e; simp [List.getD_eq_getElem?_getD, ja]
      · rw [List.getD_eq_getElem?_getD, List.getElem?_set_ne (Ne.symm e), ← List.getD_eq_getElem?_getD]
        exact h1 i (by omega)) (fun i hi => by
      rw [List.getD_eq_getElem?_getD, List.getElem?_set_ne (by omega), ← List.getD_eq_getElem?_getD]
      exact h2 i (by omega))
    refine ⟨acc', s', ?_, h4⟩
    rw [List.range'_succ, List.map_cons, forL_nx (e1 := [.fz (.int n), .fz (.int c), .fz (iList w), .fz s0, .ow 1 (iList acc), .fz (.int j)]) (e2 := [.fz (.int n), .fz (.int c), .fz (iList w), .fz s0, .ow 1 (iList (acc.set j ((wstep n w).getD j 0))), .fz (.int j)]) rfl, h3]
    have ix : ixN acc.length (j : Int) = some j := ixN_nat ja
    simp [Rs.bind, Rs.of, Rs.out, eC, eBin, eUn, eArgs, aNil, aCons, sSeq, sSet, sIf, sRet, sExpr, sNx, sSetIx, ePk, tPk, tTru, pkVar, pkC, pkBin, pkUn, pkCall1, pkCall2, Sl.d?, Vl.d, Vl.sl, flatD, truthD, elt?, eMove, eVar, gNm, sAug, gAdd_ii, ga, gw, gm, vj, ix, iList]
theorem wstep_of {n : Int} {w acc : List Int} (hl : acc.length = w.length + 1) (h1 : ∀ i, i < w.length → acc.getD i 0 = (wstep n w).getD i 0) (h2 : acc.getD w.length 0 = (0 :: w).getD w.length 0) : acc = wstep n w := by
  refine List.ext_getElem (by rw [hl, wstep_len]) fun i hi hj => ?_
  rw [← getD_lt hi, ← getD_lt hj]
  by_cases e : i < w.length
  · exact h1 i e
  · have ei : i = w.length := by omega
    subst ei
    rw [h2, cons_getD, wstep_getD n w (by omega)]
    have z : w.getD w.length 0 = 0 := by rw [List.getD_eq_getElem?_getD, List.getElem?_eq_none (Nat.le_refl _)]; rfl
    rw [z]
    simp
abbrev fWays : Sv := sSeq (sSet 4 (eBin gAdd (eArgs gLst (aCons (eC (.int 0)) aNil)) (eVar 2))) <|
    sSeq (sFor (iRange1 (eArgs gLen (aCons (eVar 2) aNil))) (gNm 5) (sSetIx 4 (pkVar 5) (ePk (pkBin gAdd (pkBin gIdx (pkVar 4) (pkVar 5)) (pkBin gMul (pkBin gAdd (pkVar 0) (pkVar 5)) (pkBin gIdx (pkVar 2) (pkVar 5))))))) <|
    sSet 2 (eVar 4)
theorem gLst1 (d : D) : gLst [d] = some (.ow 1 (.list [d])) := gLst_ok (by show 1 ≤ sizeLine; rw [sizeLine_eq]; decide)
theorem small_line {k : Nat} (h : k ≤ 100000) : k ≤ sizeLine := by rw [sizeLine_eq]; omega
theorem lways_turn (n c : Int) (w : List Int) (k : Nat) (s0 : Sl) (s4 s5 : Sl) (hn : isSmall n = true ∧ (0 ≤ n ∧ n ≤ 1000)) (hw : w.length ≤ 1000) (x : D) (hx : s0 = .fz (iList w) ∨ ∃ m, s0 = .ow m (iList w)) :
    ∃ s4' s5', fWays [.fz (.int n), .fz (.int c), s0, .fz x, s4, s5] = .nx [.fz (.int n), .fz (.int c), .fz (iList (wstep n w)), .fz x, s4', s5'] := by
  have hz : ([PyData.int 0] : List D).length + (w.map PyData.int).length ≤ sizeLine := small_line (by simp; omega)
  have ga : gAdd (.list [.int 0]) (iList w) = some (.ow 1 (iList (0 :: w))) := gAdd_ll hz
  have a1 : sSet 4 (eBin gAdd (eArgs gLst (aCons (eC (.int 0)) aNil)) (eVar 2)) [.fz (.int n), .fz (.int c), s0, .fz x, s4, s5] = .nx [.fz (.int n), .fz (.int c), .fz (iList w), .fz x, .ow 1 (iList (0 :: w)), s5] := by
    rcases hx with rfl | ⟨m, rfl⟩ <;> simp [Rs.bind, Rs.of, Rs.out, eC, eBin, eUn, eArgs, aNil, aCons, sSeq, sSet, sIf, sRet, sExpr, sNx, sSetIx, ePk, tPk, tTru, pkVar, pkC, pkBin, pkUn, pkCall1, pkCall2, Sl.d?, Vl.d, Vl.sl, flatD, truthD, elt?, eMove, eVar, gNm, sAug, gLst1, ga]
  have a2 : iRange1 (eArgs gLen (aCons (eVar 2) aNil)) [.fz (.int n), .fz (.int c), .fz (iList w), .fz x, .ow 1 (iList (0 :: w)), s5] = .ok ((List.range' 0 w.length).map fun i => .int ((i : Nat) : Int), [.fz (.int n), .fz (.int c), .fz (iList w), .fz x, .ow 1 (iList (0 :: w)), s5]) := by
    refine iRange1_nat (v := .fz (.int w.length)) ?_ rfl (by omega)
    simp [Rs.bind, Rs.of, Rs.out, eC, eBin, eUn, eArgs, aNil, aCons, sSeq, sSet, sIf, sRet, sExpr, sNx, sSetIx, ePk, tPk, tTru, pkVar, pkC, pkBin, pkUn, pkCall1, pkCall2, Sl.d?, Vl.d, Vl.sl, flatD, truthD, elt?, eMove, eVar, gNm, sAug, gLen_l]
  obtain ⟨acc, s', h3, hl, h1, h2⟩ := lways_loop n c w x hn hw w.length 0 (0 :: w) s5 (by omega) rfl (fun i hi => by omega) (fun i _ => rfl)
  have e := wstep_of hl h1 h2
  subst e
  refine ⟨.fz (iList (wstep n w)), s', (sSeq_nx a1).trans ((sSeq_nx ((sFor_ok a2).trans h3)).trans ?_)⟩
  simp [Rs.bind, Rs.of, Rs.out, eC, eBin, eUn, eArgs, aNil, aCons, sSeq, sSet, sIf, sRet, sExpr, sNx, sSetIx, ePk, tPk, tTru, pkVar, pkC, pkBin, pkUn, pkCall1, pkCall2, Sl.d?, Vl.d, Vl.sl, flatD, truthD, elt?, eMove, eVar, gNm, sAug]
theorem lways_all (n : Int) (c : Nat) (hn : 0 ≤ n ∧ n ≤ 1000) (hc : c ≤ 20) : g_l_ways [.fz (.int n), .fz (.int c)] = .ok (.fz (iList (ways n c)), [.un, .un]) := by
  have sm : isSmall n = true := by unfold isSmall; simp only [Bool.and_eq_true, decide_eq_true_eq]; omega
  have loop : ∀ (k j : Nat) (s0 s3 s4 s5 : Sl), j + k ≤ 20 → (s0 = .fz (iList (ways n j)) ∨ ∃ m, s0 = .ow m (iList (ways n j))) → ∃ s3' s4' s5', (k = 0 ∨ True) ∧ forL (gNm 3) fWays ((List.range' j k).map fun i => .int ((i : Nat) : Int)) [.fz (.int n), .fz (.int c), s0, s3, s4, s5] = .nx [.fz (.int n), .fz (.int c), (if k = 0 then s0 else .fz (iList (ways n (j + k)))), s3', s4', s5'] := by
    intro k
    induction k with
    | zero => intro j s0 s3 s4 s5 _ _; exact ⟨s3, s4, s5, .inl rfl, rfl⟩
    | succ k ih =>
      intro j s0 s3 s4 s5 hj hs
      obtain ⟨s4a, s5a, ht⟩ := lways_turn n c (ways n j) j s0 s4 s5 ⟨sm, hn⟩ (by rw [ways_len]; omega) (.int j) hs
      obtain ⟨s3', s4', s5', _, h2⟩ := ih (j + 1) (.fz (iList (ways n (j + 1)))) (.fz (.int j)) s4a s5a (by omega) (.inl rfl)
      refine ⟨s3', s4', s5', .inr trivial, ?_⟩
      rw [List.range'_succ, List.map_cons, forL_nx (e1 := [.fz (.int n), .fz (.int c), s0, .fz (.int j), s4, s5]) rfl ht]
      refine h2.trans ?_
      have e : j + (k + 1) = j + 1 + k := by omega
      rw [e]
      by_cases h0 : k = 0
      · subst h0; rfl
      · rw [if_neg h0, if_neg (by omega)]
  have a1 : sSet 2 (eArgs gLst (aCons (eC (.int 1)) aNil)) [.fz (.int n), .fz (.int c), .un, .un, .un, .un] = .nx [.fz (.int n), .fz (.int c), .ow 1 (iList (ways n 0)), .un, .un, .un] := by
    simp [Rs.bind, Rs.of, Rs.out, eC, eBin, eUn, eArgs, aNil, aCons, sSeq, sSet, sIf, sRet, sExpr, sNx, sSetIx, ePk, tPk, tTru, pkVar, pkC, pkBin, pkUn, pkCall1, pkCall2, Sl.d?, Vl.d, Vl.sl, flatD, truthD, elt?, eMove, eVar, gNm, sAug, gLst1, ways]
  have a2 : iRange1 (eVar 1) [.fz (.int n), .fz (.int c), .ow 1 (iList (ways n 0)), .un, .un, .un] = .ok ((List.range' 0 c).map fun i => .int ((i : Nat) : Int), [.fz (.int n), .fz (.int c), .ow 1 (iList (ways n 0)), .un, .un, .un]) := by
    exact iRange1_nat (v := .fz (.int c)) rfl rfl (by omega)
  obtain ⟨s3', s4', s5', _, h⟩ := loop c 0 (.ow 1 (iList (ways n 0))) .un .un .un (by omega) (.inr ⟨1, rfl⟩)
  unfold g_l_ways
  have e : m_l_ways = sSeq (sSet 2 (eArgs gLst (aCons (eC (.int 1)) aNil))) (sSeq (sFor (iRange1 (eVar 1)) (gNm 3) fWays) (sRet (eVar 2))) := rfl
  have mk : ∀ (l : List Sl), mask [] 2 l = [.un, .un] := fun _ => rfl
  have a3 : ∃ e', sRet (eVar 2) [.fz (.int n), .fz (.int c), (if c = 0 then .ow 1 (iList (ways n 0)) else .fz (iList (ways n (0 + c)))), s3', s4', s5'] = .rt (.fz (iList (ways n c))) e' := by
    by_cases h0 : c = 0
    · subst h0; exact ⟨_, rfl⟩
    · rw [if_neg h0, Nat.zero_add]; exact ⟨_, rfl⟩
  obtain ⟨e', a3⟩ := a3
  rw [e, gDef_rt (e' := e') (v := .fz (iList (ways n c))), mk]
  exact (sSeq_nx a1).trans ((sSeq_nx ((sFor_ok a2).trans h)).trans a3)
end K79


set_option Elab.async false
set_option linter.all false
set_option maxRecDepth 100000
set_option maxHeartbeats 1000000
namespace K79
open PySem PySem.Spec PyProof.Rows L2 VS
/-! many_text_rows -/
def pairAt (xs : List D) (j : Nat) : D := .tuple [.int (j : Int), xs.getD j .none]
theorem enumD_eq (xs : List D) : enumD xs = (List.range xs.length).map (pairAt xs) := by
  unfold enumD
  refine List.ext_getElem (by simp [rangeD]) fun i hi hj => ?_
  simp only [List.length_map, List.length_range] at hj
  simp [rangeD, pairAt, hj]
abbrev fMany : Sv := sSeq (sSet 5 (eBin gAdd (eVar 3) (eArgs gLst (aCons (eC (.int 0)) aNil)))) <|
    sSeq (sSet 6 (eBin gAdd (eArgs gLst (aCons (eC (.int 0)) aNil)) (eVar 3))) <|
    sSet 3 (eComp 0 (iEnumL (eVar 5)) (gTupD [gNm 7, gNm 8]) (tYesD) (eBin gAdd (eBin gMul (eBin gAdd (eVar 0) (eVar 7)) (eVar 8)) (eBin gIdx (eVar 6) (eVar 7))) [7, 8])
theorem many_turn (n c m : Int) (w : List Int) (s3 s5 s6 : Sl) (x : D) (hn : 0 ≤ n ∧ n ≤ 1000) (hw : w.length ≤ 1000) (hx : s3 = .fz (iList w) ∨ ∃ k, s3 = .ow k (iList w)) :
    ∃ s5' s6', fMany [.fz (.int n), .fz (.int c), .fz (.int m), s3, .fz x, s5, s6, .un, .un] = .nx [.fz (.int n), .fz (.int c), .fz (.int m), .ow 1 (iList (wstep n w)), .fz x, s5', s6', .un, .un] := by
  have hz : (w.map PyData.int).length + ([PyData.int 0] : List D).length ≤ sizeLine := small_line (by simp; omega)
  have hz2 : ([PyData.int 0] : List D).length + (w.map PyData.int).length ≤ sizeLine := small_line (by simp; omega)
  have ga : gAdd (iList w) (.list [.int 0]) = some (.ow 1 (iList (w ++ [0]))) := by
    rw [show iList (w ++ [0]) = .list (w.map PyData.int ++ [.int 0]) by simp [iList]]
    exact gAdd_ll hz
  have gb : gAdd (.list [.int 0]) (iList w) = some (.ow 1 (iList (0 :: w))) := gAdd_ll hz2
  have a1 : sSet 5 (eBin gAdd (eVar 3) (eArgs gLst (aCons (eC (.int 0)) aNil))) [.fz (.int n), .fz (.int c), .fz (.int m), s3, .fz x, s5, s6, .un, .un] = .nx [.fz (.int n), .fz (.int c), .fz (.int m), .fz (iList w), .fz x, .ow 1 (iList (w ++ [0])), s6, .un, .un] := by
    rcases hx with rfl | ⟨k, rfl⟩ <;> simp [Rs.bind, Rs.of, Rs.out, eC, eBin, eUn, eArgs, aNil, aCons, sSeq, sSet, sIf, sRet, sExpr, sNx, sSetIx, ePk, tPk, tTru, pkVar, pkC, pkBin, pkUn, pkCall1, pkCall2, Sl.d?, Vl.d, Vl.sl, flatD, truthD, elt?, eMove, eVar, gNm, sAug, gLst1, ga]
  have a2 : sSet 6 (eBin gAdd (eArgs gLst (aCons (eC (.int 0)) aNil)) (eVar 3)) [.fz (.int n), .fz (.int c), .fz (.int m), .fz (iList w), .fz x, .ow 1 (iList (w ++ [0])), s6, .un, .un] = .nx [.fz (.int n), .fz (.int c), .fz (.int m), .fz (iList w), .fz x, .ow 1 (iList (w ++ [0])), .ow 1 (iList (0 :: w)), .un, .un] := by
    simp [Rs.bind, Rs.of, Rs.out, eC, eBin, eUn, eArgs, aNil, aCons, sSeq, sSet, sIf, sRet, sExpr, sNx, sSetIx, ePk, tPk, tTru, pkVar, pkC, pkBin, pkUn, pkCall1, pkCall2, Sl.d?, Vl.d, Vl.sl, flatD, truthD, elt?, eMove, eVar, gNm, sAug, gLst1, gb]
  have a3 : iEnumL (eVar 5) [.fz (.int n), .fz (.int c), .fz (.int m), .fz (iList w), .fz x, .ow 1 (iList (w ++ [0])), .ow 1 (iList (0 :: w)), .un, .un] = .ok ((List.range (w.length + 1)).map (pairAt ((w ++ [0]).map .int)), [.fz (.int n), .fz (.int c), .fz (.int m), .fz (iList w), .fz x, .fz (iList (w ++ [0])), .ow 1 (iList (0 :: w)), .un, .un]) := by
    have e : iEnumL (eVar 5) [.fz (.int n), .fz (.int c), .fz (.int m), .fz (iList w), .fz x, .ow 1 (iList (w ++ [0])), .ow 1 (iList (0 :: w)), .un, .un] = .ok (enumD ((w ++ [0]).map .int), [.fz (.int n), .fz (.int c), .fz (.int m), .fz (iList w), .fz x, .fz (iList (w ++ [0])), .ow 1 (iList (0 :: w)), .un, .un]) := rfl
    rw [e, enumD_eq]
    simp
  obtain ⟨e', h1, s6', h2, h3⟩ := eComp_all (n := 0) (f := eBin gAdd (eBin gMul (eBin gAdd (eVar 0) (eVar 7)) (eVar 8)) (eBin gIdx (eVar 6) (eVar 7))) (vs := [7, 8]) (g := gTupD [gNm 7, gNm 8])
    (y := fun d => match d with | .tuple [.int j, _] => .int ((wstep n w).getD j.toNat 0) | _ => .none) (fun E => ∃ s6, (s6 = .fz (iList (0 :: w)) ∨ ∃ k, s6 = .ow k (iList (0 :: w))) ∧ E = [.fz (.int n), .fz (.int c), .fz (.int m), .fz (iList w), .fz x, .fz (iList (w ++ [0])), s6, .un, .un]) a3 ⟨_, .inr ⟨1, rfl⟩, rfl⟩ (fun d hd E0 p0 => by
      obtain ⟨j, hj, rfl⟩ := List.mem_map.mp hd
      have hj : j < w.length + 1 := by simpa using hj
      obtain ⟨s6, hs6, rfl⟩ := p0
      have hnum : ((w ++ [0]).map PyData.int).getD j .none = .int (w.getD j 0) := by
        by_cases e : j < w.length
        · rw [List.getD_eq_getElem?_getD, List.getElem?_map, List.getElem?_append_left e, List.getElem?_eq_getElem e, getD_lt e]; rfl
        · have e2 : j = w.length := by omega
          subst e2
          rw [List.getD_eq_getElem?_getD, List.getElem?_map, List.getElem?_append_right (Nat.le_refl _), List.getD_eq_getElem?_getD, List.getElem?_eq_none (Nat.le_refl _)]
          simp
      have gs : gIdx (iList (0 :: w)) (.int j) = some (.fz (.int ((0 :: w).getD j 0))) := gIdx_l (VS.atI_nat (by
        rw [List.getElem?_map, List.getElem?_eq_getElem (by simpa using hj), getD_lt (by simpa using hj)]; rfl))
      have gm : gMul (.int (n + j)) (.int (w.getD j 0)) = some (.fz (.int ((n + j) * w.getD j 0))) := gMul_l (by unfold isSmall; simp only [Bool.and_eq_true, decide_eq_true_eq]; omega)
      have g1 : gTupD [gNm 7, gNm 8] (pairAt ((w ++ [0]).map PyData.int) j) [.fz (.int n), .fz (.int c), .fz (.int m), .fz (iList w), .fz x, .fz (iList (w ++ [0])), s6, .un, .un] = some [.fz (.int n), .fz (.int c), .fz (.int m), .fz (iList w), .fz x, .fz (iList (w ++ [0])), s6, .fz (.int j), .fz (.int (w.getD j 0))] := by
        unfold pairAt
        rw [hnum]
        rfl
      refine ⟨_, .fz (.int ((wstep n w).getD j 0)), [.fz (.int n), .fz (.int c), .fz (.int m), .fz (iList w), .fz x, .fz (iList (w ++ [0])), .fz (iList (0 :: w)), .fz (.int j), .fz (.int (w.getD j 0))], g1, ?_, rfl, ⟨_, .inl rfl, rfl⟩⟩
      rw [wstep_getD n w hj, ← cons_getD]
      clear g1 hnum
      generalize (0 :: w).getD j 0 = A at gs ⊢
      generalize w.getD j 0 = B at gm ⊢
      rcases hs6 with rfl | ⟨k, rfl⟩ <;> simp [Rs.bind, Rs.of, Rs.out, eC, eBin, eUn, eArgs, aNil, aCons, sSeq, sSet, sIf, sRet, sExpr, sNx, sSetIx, ePk, tPk, tTru, pkVar, pkC, pkBin, pkUn, pkCall1, pkCall2, Sl.d?, Vl.d, Vl.sl, flatD, truthD, elt?, eMove, eVar, gNm, sAug, gAdd_ii, gm, gs])
    (small_line (by simp; omega))
  have hl : (List.map (fun d => match d with | .tuple [.int j, _] => .int ((wstep n w).getD j.toNat 0) | _ => .none) ((List.range (w.length + 1)).map (pairAt ((w ++ [0]).map .int))) : List D) = (wstep n w).map .int := by
    refine List.ext_getElem (by simp [wstep_len]) fun i hi hj => ?_
    simp only [List.length_map, List.length_range] at hi
    simp only [List.getElem_map, List.getElem_range, pairAt, Int.toNat_natCast]
    rw [getD_lt (by rw [wstep_len]; exact hi)]
  rw [hl] at h1
  subst h3
  refine ⟨_, s6', (sSeq_nx a1).trans ((sSeq_nx a2).trans (sSet_ok h1 (by show 3 < 9; decide)))⟩
theorem many_all (n : Int) (c m : Nat) (hn : 0 ≤ n ∧ n ≤ 1000) (hc : c ≤ 20) (hm : m ≤ c) : g_many_text_rows [.fz (.int n), .fz (.int c), .fz (.int m)] = .ok (.fz (.int ((ways n c).getD m 0)), [.un, .un, .un]) := by
  have loop : ∀ (k j : Nat) (s3 s4 s5 s6 : Sl), j + k ≤ 20 → (s3 = .fz (iList (ways n j)) ∨ ∃ q, s3 = .ow q (iList (ways n j))) → ∃ s3' s4' s5' s6', forL (gNm 4) fMany ((List.range' j k).map fun i => .int ((i : Nat) : Int)) [.fz (.int n), .fz (.int c), .fz (.int m), s3, s4, s5, s6, .un, .un] = .nx [.fz (.int n), .fz (.int c), .fz (.int m), s3', s4', s5', s6', .un, .un] ∧ (s3' = .fz (iList (ways n (j + k))) ∨ ∃ q, s3' = .ow q (iList (ways n (j + k)))) := by
    intro k
    induction k with
    | zero => intro j s3 s4 s5 s6 _ hs; exact ⟨s3, s4, s5, s6, rfl, hs⟩
    | succ k ih =>
      intro j s3 s4 s5 s6 hj hs
      obtain ⟨s5a, s6a, ht⟩ := many_turn n c m (ways n j) s3 s5 s6 (.int j) hn (by rw [ways_len]; omega) hs
      obtain ⟨s3', s4', s5', s6', h2, h3⟩ := ih (j + 1) (.ow 1 (iList (ways n (j + 1)))) (.fz (.int j)) s5a s6a (by omega) (.inr ⟨1, rfl⟩)
      have e : j + (k + 1) = j + 1 + k := by omega
      rw [e]
      refine ⟨s3', s4', s5', s6', ?_, h3⟩
      rw [List.range'_succ, List.map_cons, forL_nx (e1 := [.fz (.int n), .fz (.int c), .fz (.int m), s3, .fz (.int j), s5, s6, .un, .un]) rfl ht]
      exact h2
  have a1 : sSet 3 (eArgs gLst (aCons (eC (.int 1)) aNil)) [.fz (.int n), .fz (.int c), .fz (.int m), .un, .un, .un, .un, .un, .un] = .nx [.fz (.int n), .fz (.int c), .fz (.int m), .ow 1 (iList (ways n 0)), .un, .un, .un, .un, .un] := by
    simp [Rs.bind, Rs.of, Rs.out, eC, eBin, eUn, eArgs, aNil, aCons, sSeq, sSet, sIf, sRet, sExpr, sNx, sSetIx, ePk, tPk, tTru, pkVar, pkC, pkBin, pkUn, pkCall1, pkCall2, Sl.d?, Vl.d, Vl.sl, flatD, truthD, elt?, eMove, eVar, gNm, sAug, gLst1, ways]
  have a2 : iRange1 (eVar 1) [.fz (.int n), .fz (.int c), .fz (.int m), .ow 1 (iList (ways n 0)), .un, .un, .un, .un, .un] = .ok ((List.range' 0 c).map fun i => .int ((i : Nat) : Int), [.fz (.int n), .fz (.int c), .fz (.int m), .ow 1 (iList (ways n 0)), .un, .un, .un, .un, .un]) := iRange1_nat (v := .fz (.int c)) rfl rfl (by omega)
  obtain ⟨s3', s4', s5', s6', h, hs⟩ := loop c 0 (.ow 1 (iList (ways n 0))) .un .un .un (by omega) (.inr ⟨1, rfl⟩)
  rw [Nat.zero_add] at hs
  have gi : gIdx (iList (ways n c)) (.int m) = some (.fz (.int ((ways n c).getD m 0))) := gIdx_l (VS.atI_nat (by
    have hl : m < (ways n c).length := by rw [ways_len]; omega
    rw [List.getElem?_map, List.getElem?_eq_getElem hl, getD_lt hl]; rfl))
  have a3 : sRet (eBin gIdx (eVar 3) (eVar 2)) [.fz (.int n), .fz (.int c), .fz (.int m), s3', s4', s5', s6', .un, .un] = .rt (.fz (.int ((ways n c).getD m 0))) [.fz (.int n), .fz (.int c), .fz (.int m), .fz (iList (ways n c)), s4', s5', s6', .un, .un] := by
    rcases hs with rfl | ⟨q, rfl⟩ <;> simp [Rs.bind, Rs.of, Rs.out, eC, eBin, eUn, eArgs, aNil, aCons, sSeq, sSet, sIf, sRet, sExpr, sNx, sSetIx, ePk, tPk, tTru, pkVar, pkC, pkBin, pkUn, pkCall1, pkCall2, Sl.d?, Vl.d, Vl.sl, flatD, truthD, elt?, eMove, eVar, gNm, sAug, gi]
  have e : m_many_text_rows = sSeq (sSet 3 (eArgs gLst (aCons (eC (.int 1)) aNil))) (sSeq (sFor (iRange1 (eVar 1)) (gNm 4) fMany) (sRet (eBin gIdx (eVar 3) (eVar 2)))) := rfl
  have mk : ∀ (l : List Sl), mask [] 3 l = [.un, .un, .un] := fun _ => rfl
  unfold g_many_text_rows
  rw [e, gDef_rt (e' := [.fz (.int n), .fz (.int c), .fz (.int m), .fz (iList (ways n c)), s4', s5', s6', .un, .un]) (v := .fz (.int ((ways n c).getD m 0))), mk]
  exact (sSeq_nx a1).trans ((sSeq_nx ((sFor_ok a2).trans h)).trans a3)
end K79


set_option Elab.async false
set_option linter.all false
set_option maxRecDepth 100000
set_option maxHeartbeats 1000000
namespace K79
open PySem PySem.Spec PyProof.Rows L2 VS
/-! texts -/
def sv (i : Nat) : Str := ("v" : Str) ++ (toString ((i : Nat) : Int) : Str)
def dec (x : Str) : Nat := x.cps.toList.foldl (fun a c => if c = 118 then a else 10 * a + (c - 48)) 0
theorem sv_all : ((List.range 330).all fun i => dec (sv i) == i && ((PyData.str (sv i)).canLay0 && decide ((sv i).length ≤ 4))) = true := by decide +kernel
theorem sv_ok {i : Nat} (h : i < 330) : dec (sv i) = i ∧ (PyData.str (sv i)).canLay0 = true ∧ (sv i).length ≤ 4 := by
  have q := List.all_eq_true.mp sv_all i (List.mem_range.mpr h)
  simpa using q
theorem log_small {i : Nat} (h : i ≤ 1000) : (i : Int).natAbs.log2 < 1920 := by
  have := Nat.log2_le_self i
  simp only [Int.natAbs_natCast]
  omega
def inT (ts : List Str) (x : Str) : Bool := ts.any fun z => z == x
def pool (ts : List Str) (n : Nat) : List Str := ((List.range n).map fun i => sv (i + 1)).filter fun x => !inT ts x
theorem pool_succ (ts : List Str) (n : Nat) : pool ts (n + 1) = pool ts n ++ (if inT ts (sv (n + 1)) = true then [] else [sv (n + 1)]) := by
  unfold pool
  rw [List.range_succ, List.map_append, List.filter_append]
  congr 1
  rw [List.map_cons, List.map_nil]
  cases h : inT ts (sv (n + 1)) with
  | true => rw [List.filter_cons_of_neg (by simp [h])]; rfl
  | false => rw [List.filter_cons_of_pos (by simp [h])]; rfl
theorem filter_ne {L : List Str} (nd : L.Nodup) (t : Str) : L.length ≤ (L.filter fun x => !(t == x)).length + 1 := by
  induction L with
  | nil => simp
  | cons a L ih =>
    have nd' := List.nodup_cons.mp nd
    by_cases e : t = a
    · subst e
      have h1 : L.filter (fun x => !(t == x)) = L := List.filter_eq_self.mpr fun x hx => by
        have : t ≠ x := fun z => nd'.1 (z ▸ hx)
        simp [this]
      rw [List.filter_cons_of_neg (by simp), h1]
      exact Nat.le_refl _
    · have h1 := ih nd'.2
      rw [List.filter_cons_of_pos (by simp [e])]
      simp only [List.length_cons]
      omega
theorem filter_len (L : List Str) (nd : L.Nodup) : ∀ ts : List Str, L.length ≤ (L.filter fun x => !inT ts x).length + ts.length
  | [] => by
    have h1 : L.filter (fun x => !inT [] x) = L := List.filter_eq_self.mpr fun _ _ => rfl
    rw [h1]; exact Nat.le_refl _
  | t :: ts => by
    have h := filter_len L nd ts
    have nd2 : (L.filter fun x => !inT ts x).Nodup := nd.sublist List.filter_sublist
    have h2 := filter_ne nd2 t
    have e : L.filter (fun x => !inT (t :: ts) x) = (L.filter fun x => !inT ts x).filter fun x => !(t == x) := by
      rw [List.filter_filter]
      congr 1
      funext x
      unfold inT
      rw [List.any_cons, Bool.not_or]
    rw [e, List.length_cons]
    omega
theorem cand_nodup {n : Nat} (h : n < 330) : ((List.range n).map fun i => sv (i + 1)).Nodup := by
  refine List.pairwise_map.mpr (List.Pairwise.imp_of_mem (fun {a b} ha hb hne z => hne ?_) (List.nodup_range (n := n)))
  have h1 := sv_ok (i := a + 1) (by have := List.mem_range.mp ha; omega)
  have h2 := sv_ok (i := b + 1) (by have := List.mem_range.mp hb; omega)
  have : a + 1 = b + 1 := by rw [← h1.1, ← h2.1, z]
  omega
theorem pool_len (ts : List Str) {n : Nat} (h : n < 330) : n ≤ (pool ts n).length + ts.length := by
  have := filter_len _ (cand_nodup h) ts
  rw [List.length_map, List.length_range] at this
  exact this
theorem pool_add (ts : List Str) (n k : Nat) : ∃ r, pool ts (n + k) = pool ts n ++ r := by
  induction k with
  | zero => exact ⟨[], by simp⟩
  | succ k ih =>
    obtain ⟨r, h⟩ := ih
    rw [← Nat.add_assoc, pool_succ, h, List.append_assoc]
    exact ⟨_, rfl⟩
theorem pool_take (ts : List Str) {n m k : Nat} (h : k ≤ (pool ts n).length) (hm : n ≤ m) : (pool ts m).take k = (pool ts n).take k := by
  obtain ⟨r, e⟩ := pool_add ts n (m - n)
  rw [show n + (m - n) = m by omega] at e
  rw [e, List.take_append_of_le_length h]
/-- the first k sample texts that are none of ts -/
def samp (ts : List Str) (k : Nat) : List Str := (pool ts (k + ts.length)).take k
theorem samp_len (ts : List Str) {k : Nat} (h : k + ts.length < 330) : (samp ts k).length = k := by
  have := pool_len ts h
  unfold samp
  rw [List.length_take]
  omega
theorem samp_of (ts : List Str) {k n : Nat} (h : k + ts.length < 330) (hn : n ≤ k + ts.length) (hl : (pool ts n).length = k) : pool ts n = samp ts k := by
  unfold samp
  rw [pool_take ts (n := n) (by omega) hn, List.take_of_length_le (by omega)]
theorem samp_take (ts : List Str) {k j : Nat} (h : k + ts.length < 330) (hj : j ≤ k) : (samp ts k).take j = samp ts j := by
  have h1 := pool_len ts (n := j + ts.length) (by omega)
  unfold samp
  rw [List.take_take, Nat.min_eq_left hj, pool_take ts (n := j + ts.length) (by omega) (by omega)]
/-! texts that are well -/
def tOk (ts : List Str) : Prop := ∀ t ∈ ts, (PyData.str t).canLay0 = true ∧ t.length ≤ 40
theorem lay_strs {ts : List Str} (h : tOk ts) : PyData.canLayAll0 (ts.map .str) = true := by
  induction ts with
  | nil => rfl
  | cons t ts ih =>
    rw [List.map_cons, PyData.canLayAll0, (h t List.mem_cons_self).1, ih fun x hx => h x (List.mem_cons_of_mem _ hx)]; rfl
theorem depth_strs (ts : List Str) : (PyData.tuple (ts.map .str)).depth ≤ 2 ∧ (PyData.list (ts.map .str)).depth ≤ 2 := by
  have h : PyData.depthAll (ts.map .str) ≤ 1 := by
    induction ts with
    | nil => simp [PyData.depthAll]
    | cons t ts ih => simp only [List.map_cons, PyData.depthAll, PyData.depth]; omega
  constructor <;> simp only [PyData.depth] <;> omega
theorem shaped_tup {ts : List Str} (h : tOk ts) : SeqAt.shaped (.tuple (ts.map .str)) = true := by
  unfold SeqAt.shaped
  rw [PyData.canLay0, lay_strs h, Bool.true_and]
  exact decide_eq_true (by have := (depth_strs ts).1; omega)
theorem shaped_lst {ts : List Str} (h : tOk ts) : SeqAt.shaped (.list (ts.map .str)) = true := by
  unfold SeqAt.shaped
  rw [PyData.canLay0, lay_strs h, Bool.true_and]
  exact decide_eq_true (by have := (depth_strs ts).2; omega)
theorem shaped_str {t : Str} (h : (PyData.str t).canLay0 = true) : SeqAt.shaped (.str t) = true := by
  unfold SeqAt.shaped
  rw [h, Bool.true_and]
  rfl
theorem any_strs (ts : List Str) (x : Str) : (ts.map PyData.str).any (fun z => PyData.eqv z (.str x)) = inT ts x := by
  unfold inT
  rw [List.any_map]
  rfl
theorem notin_tup {ts : List Str} (h : tOk ts) {x : Str} (hx : (PyData.str x).canLay0 = true) : gNotIn (.str x) (.tuple (ts.map .str)) = some (.fz (.bool (!inT ts x))) := by
  have e : isIn (.str x) (.tuple (ts.map .str)) = (if (SeqAt.shaped (.str x) && SeqAt.shaped (.tuple (ts.map .str))) = true then some ((ts.map PyData.str).any fun z => PyData.eqv z (.str x)) else none) := rfl
  unfold gNotIn
  rw [e, if_pos (by rw [shaped_str hx, shaped_tup h]; rfl), any_strs]
  rfl
theorem notin_lst {ts : List Str} (h : tOk ts) {x : Str} (hx : (PyData.str x).canLay0 = true) : gNotIn (.str x) (.list (ts.map .str)) = some (.fz (.bool (!inT ts x))) := by
  have e : isIn (.str x) (.list (ts.map .str)) = (if (SeqAt.shaped (.str x) && SeqAt.shaped (.list (ts.map .str))) = true then some ((ts.map PyData.str).any fun z => PyData.eqv z (.str x)) else none) := rfl
  unfold gNotIn
  rw [e, if_pos (by rw [shaped_str hx, shaped_lst h]; rfl), any_strs]
  rfl
theorem in_lst {ts : List Str} (h : tOk ts) {x : Str} (hx : (PyData.str x).canLay0 = true) : gIn (.str x) (.list (ts.map .str)) = some (.fz (.bool (inT ts x))) := by
  have e : isIn (.str x) (.list (ts.map .str)) = (if (SeqAt.shaped (.str x) && SeqAt.shaped (.list (ts.map .str))) = true then some ((ts.map PyData.str).any fun z => PyData.eqv z (.str x)) else none) := rfl
  unfold gIn
  rw [e, if_pos (by rw [shaped_str hx, shaped_lst h]; rfl), any_strs]
  rfl
theorem gStr_nat {i : Nat} (h : i ≤ 1000) : gStr [.int i] = some (.fz (.str (toString (i : Int)))) := gStr_i (log_small h)
theorem gAdd_sv {i : Nat} (h : i < 330) : gAdd (.str "v") (.str (toString ((i : Nat) : Int))) = some (.fz (.str (sv i))) := gAdd_ss (by
  have := (sv_ok h).2.2
  unfold sv at this
  rw [Str.length_append] at this
  exact small_line (by omega))
end K79


set_option Elab.async false
set_option linter.all false
set_option maxRecDepth 100000
set_option maxHeartbeats 1000000
namespace K79
open PySem PySem.Spec PyProof.Rows L2 VS
abbrev tL (ts : List Str) : List D := ts.map .str
abbrev wTest : Tv := tPk (pkBin gLt (pkCall1 gLen (pkVar 3)) (pkVar 1))
abbrev wBody : Sv := sSeq (sAug 4 gAddI (eC (.int 1))) <|
    sSeq (sSet 5 (eBin gAdd (eVar 0) (eArgs gStr (aCons (eVar 4) aNil)))) <|
    sIf (tTru (eBin gNotIn (eVar 5) (eVar 2))) (sExpr (eAppend 3 (eVar 5))) (sNx)
theorem whileN_f {t : Tv} {b : Sv} {n : Nat} {e e' : En} (h : t e = .ok (false, e')) : whileN t b (n + 1) e = .nx e' := by
  show (t e).out _ = _
  rw [h]; rfl
theorem whileN_t {t : Tv} {b : Sv} {n : Nat} {e e' e2 : En} (h : t e = .ok (true, e')) (h2 : b e' = .nx e2) : whileN t b (n + 1) e = whileN t b n e2 := by
  show (t e).out _ = _
  rw [h]
  change (match b e' with
      | .nx e2 => whileN t b n e2
      | .ct e2 => whileN t b n e2
      | .bk e2 => .nx e2
      | .rt x e2 => .rt x e2
      | .exc c fs e2 => .exc c fs e2
      | .stuck => .stuck) = _
  rw [h2]
theorem w_test (ts fs : List Str) (m i : Nat) (s5 : Sl) : wTest [.fz (.str "v"), .fz (.int m), .fz (.tuple (tL ts)), .ow 1 (.list (tL fs)), .fz (.int i), s5] = .ok (decide (fs.length < m), [.fz (.str "v"), .fz (.int m), .fz (.tuple (tL ts)), .ow 1 (.list (tL fs)), .fz (.int i), s5]) := by
  simp [wTest, Rs.bind, Rs.of, Rs.out, eC, eBin, eUn, eArgs, aNil, aCons, sSeq, sSet, sIf, sRet, sExpr, sNx, sSetIx, ePk, tPk, tTru, pkVar, pkC, pkBin, pkUn, pkCall1, pkCall2, Sl.d?, Vl.d, Vl.sl, flatD, truthD, elt?, eMove, eVar, gNm, sAug, gLen_l, gLt_ii, tL]
theorem w_body (ts : List Str) (h : tOk ts) (m i : Nat) (hi : i + 1 < 330) (s5 : Sl) : ∃ s5', wBody [.fz (.str "v"), .fz (.int m), .fz (.tuple (tL ts)), .ow 1 (.list (tL (pool ts i))), .fz (.int i), s5] = .nx [.fz (.str "v"), .fz (.int m), .fz (.tuple (tL ts)), .ow 1 (.list (tL (pool ts (i + 1)))), .fz (.int ((i + 1 : Nat) : Int)), s5'] := by
  have ok := sv_ok hi
  have a1 : sAug 4 gAddI (eC (.int 1)) [.fz (.str "v"), .fz (.int m), .fz (.tuple (tL ts)), .ow 1 (.list (tL (pool ts i))), .fz (.int i), s5] = .nx [.fz (.str "v"), .fz (.int m), .fz (.tuple (tL ts)), .ow 1 (.list (tL (pool ts i))), .fz (.int ((i + 1 : Nat) : Int)), s5] := rfl
  have a2 : sSet 5 (eBin gAdd (eVar 0) (eArgs gStr (aCons (eVar 4) aNil))) [.fz (.str "v"), .fz (.int m), .fz (.tuple (tL ts)), .ow 1 (.list (tL (pool ts i))), .fz (.int ((i + 1 : Nat) : Int)), s5] = .nx [.fz (.str "v"), .fz (.int m), .fz (.tuple (tL ts)), .ow 1 (.list (tL (pool ts i))), .fz (.int ((i + 1 : Nat) : Int)), .fz (.str (sv (i + 1)))] := by
    have g1 := gStr_nat (i := i + 1) (by omega)
    have g2 := gAdd_sv hi
    generalize ((i + 1 : Nat) : Int) = I at g1 g2 ⊢
    generalize Str.ofString (toString I) = S at g1 g2
    simp [Rs.bind, Rs.of, Rs.out, eC, eBin, eUn, eArgs, aNil, aCons, sSeq, sSet, sIf, sRet, sExpr, sNx, sSetIx, ePk, tPk, tTru, pkVar, pkC, pkBin, pkUn, pkCall1, pkCall2, Sl.d?, Vl.d, Vl.sl, flatD, truthD, elt?, eMove, eVar, gNm, sAug, g1, g2]
  have a3 : tTru (eBin gNotIn (eVar 5) (eVar 2)) [.fz (.str "v"), .fz (.int m), .fz (.tuple (tL ts)), .ow 1 (.list (tL (pool ts i))), .fz (.int ((i + 1 : Nat) : Int)), .fz (.str (sv (i + 1)))] = .ok (!inT ts (sv (i + 1)), [.fz (.str "v"), .fz (.int m), .fz (.tuple (tL ts)), .ow 1 (.list (tL (pool ts i))), .fz (.int ((i + 1 : Nat) : Int)), .fz (.str (sv (i + 1)))]) := by
    simp [Rs.bind, Rs.of, Rs.out, eC, eBin, eUn, eArgs, aNil, aCons, sSeq, sSet, sIf, sRet, sExpr, sNx, sSetIx, ePk, tPk, tTru, pkVar, pkC, pkBin, pkUn, pkCall1, pkCall2, Sl.d?, Vl.d, Vl.sl, flatD, truthD, elt?, eMove, eVar, gNm, sAug, notin_tup h ok.2.1]
  refine ⟨.fz (.str (sv (i + 1))), (sSeq_nx a1).trans ((sSeq_nx a2).trans ?_)⟩
  cases hb : inT ts (sv (i + 1)) with
  | true =>
    rw [hb] at a3
    rw [sIf_f a3, pool_succ, hb]
    simp [sNx]
  | false =>
    rw [hb] at a3
    rw [sIf_t a3, pool_succ, hb]
    have hl : (tL (pool ts i)).length < sizeLine := by
      have h1 : (pool ts i).length ≤ i := by
        unfold pool
        exact Nat.le_trans (List.length_filter_le _ _) (by simp)
      have h2 : (tL (pool ts i)).length = (pool ts i).length := by simp [tL]
      rw [h2, sizeLine_eq]
      omega
    simp [sExpr, eAppend, eVar, Rs.bind, Rs.of, Rs.out, elt?, Vl.d, tL] at hl ⊢
    simp [hl]
theorem w_loop (ts : List Str) (h : tOk ts) (m : Nat) (hm : m + ts.length < 329) : ∀ (d i f : Nat) (s5 : Sl), i + d = m + ts.length → d < f → (pool ts i).length ≤ m → ∃ n' s5', whileN wTest wBody f [.fz (.str "v"), .fz (.int m), .fz (.tuple (tL ts)), .ow 1 (.list (tL (pool ts i))), .fz (.int i), s5] = .nx [.fz (.str "v"), .fz (.int m), .fz (.tuple (tL ts)), .ow 1 (.list (tL (samp ts m))), n', s5'] := by
  intro d
  induction d with
  | zero =>
    intro i f s5 hi hf hl
    obtain ⟨f, rfl⟩ : ∃ g, f = g + 1 := ⟨f - 1, by omega⟩
    have h1 := pool_len ts (n := i) (by omega)
    have h2 : (pool ts i).length = m := by omega
    have t := w_test ts (pool ts i) m i s5
    rw [decide_eq_false (by omega)] at t
    rw [whileN_f t, samp_of ts (n := i) (k := m) (by omega) (by omega) h2]
    exact ⟨_, _, rfl⟩
  | succ d ih =>
    intro i f s5 hi hf hl
    obtain ⟨f, rfl⟩ : ∃ g, f = g + 1 := ⟨f - 1, by omega⟩
    have t := w_test ts (pool ts i) m i s5
    by_cases h2 : (pool ts i).length < m
    · rw [decide_eq_true h2] at t
      obtain ⟨s5a, hb⟩ := w_body ts h m i (by omega) s5
      obtain ⟨n', s5', h3⟩ := ih (i + 1) f s5a (by omega) (by omega) (by
        rw [pool_succ, List.length_append]
        split <;> simp <;> omega)
      exact ⟨n', s5', (whileN_t t hb).trans h3⟩
    · rw [decide_eq_false h2] at t
      rw [whileN_f t, samp_of ts (n := i) (k := m) (by omega) (by omega) (by omega)]
      exact ⟨_, _, rfl⟩
theorem numbered_all (ts : List Str) (h : tOk ts) (m : Nat) (hm : m + ts.length < 329) : g_numbered_texts [.fz (.str "v"), .fz (.int m), .fz (.tuple (tL ts))] = .ok (.fz (.tuple (tL (samp ts m))), [.un, .un, .un]) := by
  obtain ⟨n', s5', hw⟩ := w_loop ts h m hm (m + ts.length) 0 fuel .un (by omega) (by unfold fuel; omega) (by simp [pool])
  have a1 : sSet 3 (eArgs gLst aNil) [.fz (.str "v"), .fz (.int m), .fz (.tuple (tL ts)), .un, .un, .un] = .nx [.fz (.str "v"), .fz (.int m), .fz (.tuple (tL ts)), .ow 1 (.list []), .un, .un] := by
    have e : VS.gLst [] = some (Vl.ow 1 (PyData.list [])) := gLst_ok (Nat.zero_le _)
    simp [Rs.bind, Rs.of, Rs.out, eC, eBin, eUn, eArgs, aNil, aCons, sSeq, sSet, sIf, sRet, sExpr, sNx, sSetIx, ePk, tPk, tTru, pkVar, pkC, pkBin, pkUn, pkCall1, pkCall2, Sl.d?, Vl.d, Vl.sl, flatD, truthD, elt?, eMove, eVar, gNm, sAug, e]
  have a2 : sSet 4 (eC (.int 0)) [.fz (.str "v"), .fz (.int m), .fz (.tuple (tL ts)), .ow 1 (.list []), .un, .un] = .nx [.fz (.str "v"), .fz (.int m), .fz (.tuple (tL ts)), .ow 1 (.list []), .fz (.int 0), .un] := rfl
  have a4 : sRet (eArgs gTuple (aCons (eVar 3) aNil)) [.fz (.str "v"), .fz (.int m), .fz (.tuple (tL ts)), .ow 1 (.list (tL (samp ts m))), n', s5'] = .rt (.fz (.tuple (tL (samp ts m)))) [.fz (.str "v"), .fz (.int m), .fz (.tuple (tL ts)), .fz (.list (tL (samp ts m))), n', s5'] := rfl
  have e : m_numbered_texts = sSeq (sSet 3 (eArgs gLst aNil)) (sSeq (sSet 4 (eC (.int 0))) (sSeq (sWhile fuel wTest wBody) (sRet (eArgs gTuple (aCons (eVar 3) aNil))))) := rfl
  have mk : ∀ (l : List Sl), mask [] 3 l = [.un, .un, .un] := fun _ => rfl
  unfold g_numbered_texts
  rw [e, gDef_rt (e' := [.fz (.str "v"), .fz (.int m), .fz (.tuple (tL ts)), .fz (.list (tL (samp ts m))), n', s5']) (v := .fz (.tuple (tL (samp ts m)))), mk]
  exact (sSeq_nx a1).trans ((sSeq_nx a2).trans ((sSeq_nx hw).trans a4))
theorem sample_all (ts : List Str) (h : tOk ts) (m : Nat) (hm : m + ts.length < 329) : g_sample_texts [.fz (.int m), .fz (.tuple (tL ts))] = .ok (.fz (.tuple (tL (samp ts m))), [.un, .un]) := by
  have a : eCall 3 g_numbered_texts (aCons (eC (.str "v")) (aCons (eVar 0) (aCons (eVar 1) aNil))) [.fz (.int m), .fz (.tuple (tL ts))] = .ok (.fz (.tuple (tL (samp ts m))), [.fz (.int m), .fz (.tuple (tL ts))]) :=
    eCall_ok (ds := [.str "v", .int m, .tuple (tL ts)]) rfl rfl (numbered_all ts h m hm)
  have mk : ∀ (l : List Sl), mask [] 2 l = [.un, .un] := fun _ => rfl
  unfold g_sample_texts m_sample_texts
  rw [gDef_rt (e' := [.fz (.int m), .fz (.tuple (tL ts))]) (v := .fz (.tuple (tL (samp ts m)))), mk]
  exact sRet_ok a
end K79


set_option Elab.async false
set_option linter.all false
set_option maxRecDepth 100000
set_option maxHeartbeats 1000000
namespace K79
open PySem PySem.Spec PyProof.Rows L2 VS
theorem fresh_all (ts : List Str) (h : tOk ts) (k : Nat) (hk : k + ts.length < 329) : g_l_fresh [.fz (.str "v"), .fz (.list (tL ts)), .fz (.int k)] = .ok (.ow 1 (.list (tL (samp ts k))), [.un, .un, .un]) := by
  let N := k + ts.length
  have hN : N = k + ts.length := rfl
  have r1 : iRange1 (eBin gAdd (eVar 2) (eArgs gLen (aCons (eVar 1) aNil))) [.fz (.str "v"), .fz (.list (tL ts)), .fz (.int k), .un, .un, .un] = .ok ((List.range' 0 N).map fun i => .int ((i : Nat) : Int), [.fz (.str "v"), .fz (.list (tL ts)), .fz (.int k), .un, .un, .un]) := by
    refine iRange1_nat (v := .fz (.int ((k : Int) + (ts.length : Int)))) ?_ (by show PyData.int _ = PyData.int _; rw [hN]; simp) (by omega)
    simp [Rs.bind, Rs.of, Rs.out, eC, eBin, eUn, eArgs, aNil, aCons, sSeq, sSet, sIf, sRet, sExpr, sNx, sSetIx, ePk, tPk, tTru, pkVar, pkC, pkBin, pkUn, pkCall1, pkCall2, Sl.d?, Vl.d, Vl.sl, flatD, truthD, elt?, eMove, eVar, gNm, sAug, gLen_l, gAdd_ii, tL]
  obtain ⟨e1, c1, q1⟩ := eComp_all (n := 0) (f := eBin gAdd (eVar 0) (eArgs gStr (aCons (eBin gAdd (eVar 4) (eC (.int 1))) aNil))) (vs := [4]) (g := gNm 4)
    (y := fun d => match d with | .int i => .str (sv (i.toNat + 1)) | _ => .none) (fun E => E = [.fz (.str "v"), .fz (.list (tL ts)), .fz (.int k), .un, .un, .un]) r1 rfl (fun d hd E0 p0 => by
      obtain ⟨j, hj, rfl⟩ := List.mem_map.mp hd
      have hj : j < N := by simpa using hj
      subst p0
      have g1 := gStr_nat (i := j + 1) (by omega)
      have g2 := gAdd_sv (i := j + 1) (by omega)
      have g3 : gAdd (.int (j : Int)) (.int 1) = some (.fz (.int ((j + 1 : Nat) : Int))) := rfl
      refine ⟨[.fz (.str "v"), .fz (.list (tL ts)), .fz (.int k), .un, .fz (.int j), .un], .fz (.str (sv (j + 1))), [.fz (.str "v"), .fz (.list (tL ts)), .fz (.int k), .un, .fz (.int j), .un], rfl, ?_, rfl, rfl⟩
      generalize ((j + 1 : Nat) : Int) = I at g1 g2 g3
      generalize Str.ofString (toString I) = S at g1 g2
      simp [Rs.bind, Rs.of, Rs.out, eC, eBin, eUn, eArgs, aNil, aCons, sSeq, sSet, sIf, sRet, sExpr, sNx, sSetIx, ePk, tPk, tTru, pkVar, pkC, pkBin, pkUn, pkCall1, pkCall2, Sl.d?, Vl.d, Vl.sl, flatD, truthD, elt?, eMove, eVar, gNm, sAug, g1, g2, g3]) (small_line (by simp; omega))
  have l1 : (List.map (fun (d : D) => (match d with | .int i => PyData.str (sv (i.toNat + 1)) | _ => PyData.none : D)) ((List.range' 0 N).map fun i => PyData.int ((i : Nat) : Int)) : List D) = tL ((List.range N).map fun i => sv (i + 1)) := by
    rw [tL, List.range_eq_range', List.map_map, List.map_map]
    rfl
  rw [l1] at c1
  subst q1
  have s1 := sSet_ok (k := 3) c1 (by show 3 < 6; decide)
  have r2 : iSeq (eVar 3) [.fz (.str "v"), .fz (.list (tL ts)), .fz (.int k), .ow 1 (.list (tL ((List.range N).map fun i => sv (i + 1)))), .un, .un] = .ok (tL ((List.range N).map fun i => sv (i + 1)), [.fz (.str "v"), .fz (.list (tL ts)), .fz (.int k), .fz (.list (tL ((List.range N).map fun i => sv (i + 1)))), .un, .un]) := rfl
  obtain ⟨e2, c2, q2⟩ := eComp_ok (n := 0) (t := tTru (eBin gNotIn (eVar 5) (eVar 1))) (f := eVar 5) (vs := [5]) (g := gNm 5) (b := fun d => match d with | .str x => !inT ts x | _ => false)
    (y := fun d => d) (fun E => E = [.fz (.str "v"), .fz (.list (tL ts)), .fz (.int k), .fz (.list (tL ((List.range N).map fun i => sv (i + 1)))), .un, .un]) r2 rfl (fun d hd E0 p0 => by
      obtain ⟨x, hx, rfl⟩ := List.mem_map.mp hd
      obtain ⟨j, hj, rfl⟩ := List.mem_map.mp hx
      have hj : j < N := by simpa using hj
      subst p0
      have ok := sv_ok (i := j + 1) (by omega)
      refine ⟨[.fz (.str "v"), .fz (.list (tL ts)), .fz (.int k), .fz (.list (tL ((List.range N).map fun i => sv (i + 1)))), .un, .fz (.str (sv (j + 1)))], [.fz (.str "v"), .fz (.list (tL ts)), .fz (.int k), .fz (.list (tL ((List.range N).map fun i => sv (i + 1)))), .un, .fz (.str (sv (j + 1)))], rfl, ?_, fun _ => ⟨_, _, rfl, rfl, rfl⟩, fun _ => rfl⟩
      have gn := notin_lst h ok.2.1
      generalize sv (j + 1) = S at gn ⊢
      simp [Rs.bind, Rs.of, Rs.out, eC, eBin, eUn, eArgs, aNil, aCons, sSeq, sSet, sIf, sRet, sExpr, sNx, sSetIx, ePk, tPk, tTru, pkVar, pkC, pkBin, pkUn, pkCall1, pkCall2, Sl.d?, Vl.d, Vl.sl, flatD, truthD, elt?, eMove, eVar, gNm, sAug, gn]) (small_line (by simp; omega))
  have l2 : ((tL ((List.range N).map fun i => sv (i + 1))).filter fun (d : D) => (match d with | .str x => !inT ts x | _ => false : Bool)).map (fun d => d) = tL (pool ts N) := by
    rw [List.map_id', tL, List.filter_map]
    rfl
  rw [l2] at c2
  subst q2
  have e : m_l_fresh = sSeq (sSet 3 (eComp 0 (iRange1 (eBin gAdd (eVar 2) (eArgs gLen (aCons (eVar 1) aNil)))) (gNm 4) (tYesD) (eBin gAdd (eVar 0) (eArgs gStr (aCons (eBin gAdd (eVar 4) (eC (.int 1))) aNil))) [4])) (sRet (eSlice (eComp 0 (iSeq (eVar 3)) (gNm 5) (tTru (eBin gNotIn (eVar 5) (eVar 1))) (eVar 5) [5]) (pNo) (pSo (eVar 2)))) := rfl
  have a2 : eSlice (eComp 0 (iSeq (eVar 3)) (gNm 5) (tTru (eBin gNotIn (eVar 5) (eVar 1))) (eVar 5) [5]) (pNo) (pSo (eVar 2)) [.fz (.str "v"), .fz (.list (tL ts)), .fz (.int k), .ow 1 (.list (tL ((List.range N).map fun i => sv (i + 1)))), .un, .un] = .ok (.ow 1 (.list (tL (samp ts k))), [.fz (.str "v"), .fz (.list (tL ts)), .fz (.int k), .fz (.list (tL ((List.range N).map fun i => sv (i + 1)))), .un, .un]) := by
    unfold eSlice
    rw [c2]
    have sl : gSlice (.list (tL (pool ts N))) none (some (k : Int)) = some (.ow 1 (.list (tL (samp ts k)))) := by
      rw [slice_to]
      unfold samp
      rw [tL, tL, List.map_take]
    simp [Rs.bind, pNo, pSo, eVar, Vl.d, Rs.of, sl]
  have mk : ∀ (l : List Sl), mask [] 3 l = [.un, .un, .un] := fun _ => rfl
  unfold g_l_fresh
  rw [e, gDef_rt (e' := [.fz (.str "v"), .fz (.list (tL ts)), .fz (.int k), .fz (.list (tL ((List.range N).map fun i => sv (i + 1)))), .un, .un]) (v := .ow 1 (.list (tL (samp ts k)))), mk]
  exact (sSeq_nx s1).trans (sRet_ok a2)
end K79


set_option Elab.async false
set_option linter.all false
set_option maxRecDepth 100000
set_option maxHeartbeats 1000000
namespace K79
open PySem PySem.Spec PyProof.Rows L2 VS
abbrev Row := List Str × Nat
def rowD (q : Row) : D := .tuple [.tuple (tL q.1), .int (q.2 : Int)]
/-- a row, one text longer: k samples in all, left columns behind -/
def ext (ts sm : List Str) (k left : Nat) (q : Row) : List Row :=
  (if k ≤ q.2 + left then (ts ++ sm.take q.2).map fun t => (q.1 ++ [t], q.2) else []) ++ (if q.2 < k ∧ k ≤ q.2 + left + 1 then [(q.1 ++ [sm.getD q.2 Str.empty], q.2 + 1)] else [])
abbrev fApp : Sv := sExpr (eAppend 4 (eArgs gTup (aCons (eBin gAdd (eVar 5) (eArgs gTup (aCons (eVar 8) aNil))) (aCons (eVar 6) aNil))))
theorem gTup1 (d : D) : gTup [d] = some (.fz (.tuple [d])) := gTup_ok (by show 1 ≤ sizeLine; rw [sizeLine_eq]; decide)
theorem gTup2 (d d' : D) : gTup [d, d'] = some (.fz (.tuple [d, d'])) := gTup_ok (by show 2 ≤ sizeLine; rw [sizeLine_eq]; decide)
theorem gAdd_row {r : List Str} (h : r.length ≤ 1000) (t : Str) : gAdd (.tuple (tL r)) (.tuple [.str t]) = some (.fz (.tuple (tL (r ++ [t])))) := by
  rw [show tL (r ++ [t]) = tL r ++ [.str t] by simp [tL]]
  exact gAdd_tt (small_line (by simp; omega))
theorem app_turn (a b c d : D) (acc : List D) (r : List Str) (u : Nat) (x : Sl) (t : Str) (hr : r.length ≤ 1000) (hl : acc.length < 16000000) : fApp [.fz a, .fz b, .fz c, .fz d, .ow 1 (.list acc), .fz (.tuple (tL r)), .fz (.int u), x, .fz (.str t)] = .nx [.fz a, .fz b, .fz c, .fz d, .ow 1 (.list (acc ++ [rowD (r ++ [t], u)])), .fz (.tuple (tL r)), .fz (.int u), x, .fz (.str t)] := by
  have g := gAdd_row hr t
  have hl2 : acc.length < sizeLine := by rw [sizeLine_eq]; omega
  unfold rowD
  generalize tL r = R at g ⊢
  generalize tL (r ++ [t]) = R2 at g ⊢
  simp [fApp, Rs.bind, Rs.of, Rs.out, eC, eBin, eUn, eArgs, aNil, aCons, sSeq, sSet, sIf, sRet, sExpr, sNx, sSetIx, ePk, tPk, tTru, pkVar, pkC, pkBin, pkUn, pkCall1, pkCall2, Sl.d?, Vl.d, Vl.sl, flatD, truthD, elt?, eMove, eVar, gNm, sAug, eAppend, gTup1, gTup2, g, hl2]
theorem app_loop (a b c d : D) (r : List Str) (u : Nat) (x : Sl) (hr : r.length ≤ 1000) : ∀ (xs : List Str) (acc : List D) (s : Sl), acc.length + xs.length < 16000000 → ∃ s', forL (gNm 8) fApp (tL xs) [.fz a, .fz b, .fz c, .fz d, .ow 1 (.list acc), .fz (.tuple (tL r)), .fz (.int u), x, s] = .nx [.fz a, .fz b, .fz c, .fz d, .ow 1 (.list (acc ++ xs.map fun t => rowD (r ++ [t], u))), .fz (.tuple (tL r)), .fz (.int u), x, s']
  | [], acc, s, _ => ⟨s, by simp [forL, tL]⟩
  | t :: xs, acc, s, h => by
    simp only [List.length_cons] at h
    obtain ⟨s', h2⟩ := app_loop a b c d r u x hr xs (acc ++ [rowD (r ++ [t], u)]) (.fz (.str t)) (by simp; omega)
    refine ⟨s', ?_⟩
    show forL (gNm 8) fApp (.str t :: tL xs) _ = _
    rw [forL_nx (e1 := [.fz a, .fz b, .fz c, .fz d, .ow 1 (.list acc), .fz (.tuple (tL r)), .fz (.int u), x, .fz (.str t)]) rfl (app_turn a b c d acc r u x t hr (by omega)), h2, List.map_cons, List.append_assoc]
    rfl
abbrev fRow : Sv := sSeq (sSet 7 (eBin gSub (eArgs gLen (aCons (eVar 2) aNil)) (eVar 6))) <|
    sSeq (sIf (tTru (eBin gLe (eVar 7) (eVar 3))) (sFor (iSeq (eBin gAdd (eVar 1) (eSlice (eVar 2) (pNo) (pSo (eVar 6))))) (gNm 8) fApp) (sNx)) <|
    sIf (tTru (eChain gLt gLe (eC (.int 0)) (eVar 7) (eBin gAdd (eVar 3) (eC (.int 1))))) (sExpr (eAppend 4 (eArgs gTup (aCons (eBin gAdd (eVar 5) (eArgs gTup (aCons (eBin gIdx (eVar 2) (eVar 6)) aNil))) (aCons (eBin gAdd (eVar 6) (eC (.int 1))) aNil))))) (sNx)
theorem slice_tup {ds : List D} {n : Nat} : gSlice (.tuple ds) none (some (n : Int)) = some (.fz (.tuple (ds.take n))) := by
  show some (Vl.fz (.tuple (cutL ds none (some (n : Int))))) = _
  unfold cutL
  rw [HT.sIx_none, HT.sIx_nat]
  simp
theorem row_turn (rs : D) (ts sm : List Str) (k left : Nat) (q : Row) (acc : List D) (s7 s8 : Sl) (hk : sm.length = k) (hu : q.2 ≤ k) (hkk : k ≤ 1000) (hts : ts.length ≤ 1000) (hr : q.1.length ≤ 900) (hl : acc.length + (ext ts sm k left q).length < 15000000) :
    ∃ s7' s8', fRow [.fz rs, .fz (.tuple (tL ts)), .fz (.tuple (tL sm)), .fz (.int left), .ow 1 (.list acc), .fz (.tuple (tL q.1)), .fz (.int q.2), s7, s8] = .nx [.fz rs, .fz (.tuple (tL ts)), .fz (.tuple (tL sm)), .fz (.int left), .ow 1 (.list (acc ++ (ext ts sm k left q).map rowD)), .fz (.tuple (tL q.1)), .fz (.int q.2), s7', s8'] := by
  obtain ⟨r, u⟩ := q
  dsimp only at hu hr ⊢
  let env : List D → Sl → Sl → En := fun ac x y => [.fz rs, .fz (.tuple (tL ts)), .fz (.tuple (tL sm)), .fz (.int left), .ow 1 (.list ac), .fz (.tuple (tL r)), .fz (.int u), x, y]
  let miss : Int := (k : Int) - u
  have a1 : sSet 7 (eBin gSub (eArgs gLen (aCons (eVar 2) aNil)) (eVar 6)) (env acc s7 s8) = .nx (env acc (.fz (.int miss)) s8) := by
    simp [env, miss, Rs.bind, Rs.of, Rs.out, eC, eBin, eUn, eArgs, aNil, aCons, sSeq, sSet, sIf, sRet, sExpr, sNx, sSetIx, ePk, tPk, tTru, pkVar, pkC, pkBin, pkUn, pkCall1, pkCall2, Sl.d?, Vl.d, Vl.sl, flatD, truthD, elt?, eMove, eVar, gNm, sAug, gLen_t, gSub_ii, hk]
  have a2 : ∀ ac x, tTru (eBin gLe (eVar 7) (eVar 3)) (env ac (.fz (.int miss)) x) = .ok (decide (miss ≤ left), env ac (.fz (.int miss)) x) := by
    intro ac x
    simp [env, Rs.bind, Rs.of, Rs.out, eC, eBin, eUn, eArgs, aNil, aCons, sSeq, sSet, sIf, sRet, sExpr, sNx, sSetIx, ePk, tPk, tTru, pkVar, pkC, pkBin, pkUn, pkCall1, pkCall2, Sl.d?, Vl.d, Vl.sl, flatD, truthD, elt?, eMove, eVar, gNm, sAug, gLe_ii]
  have a3 : ∀ ac x, tTru (eChain gLt gLe (eC (.int 0)) (eVar 7) (eBin gAdd (eVar 3) (eC (.int 1)))) (env ac (.fz (.int miss)) x) = .ok (decide (u < k ∧ k ≤ u + left + 1), env ac (.fz (.int miss)) x) := by
    intro ac x
    by_cases h0 : 0 < miss
    · by_cases h1 : miss ≤ (left : Int) + 1
      · rw [decide_eq_true (by omega)]
        simp [env, Rs.bind, Rs.of, Rs.out, eC, eBin, eUn, eArgs, aNil, aCons, sSeq, sSet, sIf, sRet, sExpr, sNx, sSetIx, ePk, tPk, tTru, pkVar, pkC, pkBin, pkUn, pkCall1, pkCall2, Sl.d?, Vl.d, Vl.sl, flatD, truthD, elt?, eMove, eVar, gNm, sAug, eChain, gLt_ii, gLe_ii, gAdd_ii, h0, h1]
      · rw [decide_eq_false (by omega)]
        simp [env, Rs.bind, Rs.of, Rs.out, eC, eBin, eUn, eArgs, aNil, aCons, sSeq, sSet, sIf, sRet, sExpr, sNx, sSetIx, ePk, tPk, tTru, pkVar, pkC, pkBin, pkUn, pkCall1, pkCall2, Sl.d?, Vl.d, Vl.sl, flatD, truthD, elt?, eMove, eVar, gNm, sAug, eChain, gLt_ii, gLe_ii, gAdd_ii, h0, h1]
    · rw [decide_eq_false (by omega)]
      simp [env, Rs.bind, Rs.of, Rs.out, eC, eBin, eUn, eArgs, aNil, aCons, sSeq, sSet, sIf, sRet, sExpr, sNx, sSetIx, ePk, tPk, tTru, pkVar, pkC, pkBin, pkUn, pkCall1, pkCall2, Sl.d?, Vl.d, Vl.sl, flatD, truthD, elt?, eMove, eVar, gNm, sAug, eChain, gLt_ii, gLe_ii, gAdd_ii, h0]
  -- the texts and the samples so far
  have b1 : ∃ s8', (sIf (tTru (eBin gLe (eVar 7) (eVar 3))) (sFor (iSeq (eBin gAdd (eVar 1) (eSlice (eVar 2) (pNo) (pSo (eVar 6))))) (gNm 8) fApp) (sNx)) (env acc (.fz (.int miss)) s8) = .nx (env (acc ++ (if k ≤ u + left then (ts ++ sm.take u).map fun t => (r ++ [t], u) else []).map rowD) (.fz (.int miss)) s8') := by
    by_cases h0 : k ≤ u + left
    · have e : (tL ts ++ (tL sm).take u) = tL (ts ++ sm.take u) := by simp [tL]
      have it : iSeq (eBin gAdd (eVar 1) (eSlice (eVar 2) (pNo) (pSo (eVar 6)))) (env acc (.fz (.int miss)) s8) = .ok (tL (ts ++ sm.take u), env acc (.fz (.int miss)) s8) := by
        have hz : (tL ts).length + ((tL sm).take u).length ≤ sizeLine := small_line (by simp [tL]; omega)
        have g := gAdd_tt hz
        rw [e] at g
        generalize tL (ts ++ sm.take u) = R at g ⊢
        simp [env, iSeq, Rs.bind, Rs.of, Rs.out, eC, eBin, eUn, eArgs, aNil, aCons, sSeq, sSet, sIf, sRet, sExpr, sNx, sSetIx, ePk, tPk, tTru, pkVar, pkC, pkBin, pkUn, pkCall1, pkCall2, Sl.d?, Vl.d, Vl.sl, flatD, truthD, elt?, eMove, eVar, gNm, sAug, eSlice, pNo, pSo, slice_tup, g, seqOf]
      have a4 := a2 acc s8
      rw [decide_eq_true (by omega)] at a4
      have hx : (ext ts sm k left (r, u)).length ≥ (ts ++ sm.take u).length := by
        unfold ext
        rw [if_pos h0, List.length_append, List.length_map]
        exact Nat.le_add_right _ _
      obtain ⟨s', h3⟩ := app_loop rs (.tuple (tL ts)) (.tuple (tL sm)) (.int left) r u (.fz (.int miss)) (by omega) (ts ++ sm.take u) acc s8 (by omega)
      refine ⟨s', (sIf_t a4).trans ((sFor_ok it).trans ?_)⟩
      rw [if_pos h0, List.map_map]
      exact h3
    · have a4 := a2 acc s8
      rw [decide_eq_false (by omega)] at a4
      refine ⟨s8, (sIf_f a4).trans ?_⟩
      rw [if_neg h0]
      simp [sNx]
  obtain ⟨s8', b1⟩ := b1
  have b2 : ∀ ac : List D, ac.length < 15900000 → (sIf (tTru (eChain gLt gLe (eC (.int 0)) (eVar 7) (eBin gAdd (eVar 3) (eC (.int 1))))) (sExpr (eAppend 4 (eArgs gTup (aCons (eBin gAdd (eVar 5) (eArgs gTup (aCons (eBin gIdx (eVar 2) (eVar 6)) aNil))) (aCons (eBin gAdd (eVar 6) (eC (.int 1))) aNil))))) (sNx)) (env ac (.fz (.int miss)) s8') = .nx (env (ac ++ (if u < k ∧ k ≤ u + left + 1 then [(r ++ [sm.getD u Str.empty], u + 1)] else []).map rowD) (.fz (.int miss)) s8') := by
    intro ac hac
    have a5 := a3 ac s8'
    by_cases h0 : u < k ∧ k ≤ u + left + 1
    · rw [decide_eq_true h0] at a5
      rw [sIf_t a5, if_pos h0]
      have hus : u < sm.length := by omega
      have gi : gIdx (.tuple (tL sm)) (.int u) = some (.fz (.str (sm.getD u Str.empty))) := gIdx_t (VS.atI_nat (by
        rw [tL, List.getElem?_map, List.getElem?_eq_getElem hus, List.getD_eq_getElem?_getD, List.getElem?_eq_getElem hus]; rfl))
      have g := gAdd_row (r := r) (by omega) (sm.getD u Str.empty)
      have g1 : gAdd (.int (u : Int)) (.int 1) = some (.fz (.int ((u + 1 : Nat) : Int))) := rfl
      have hl2 : ac.length < sizeLine := by rw [sizeLine_eq]; omega
      simp only [List.map_cons, List.map_nil, rowD, env]
      generalize tL (r ++ [sm.getD u Str.empty]) = R2 at g ⊢
      generalize sm.getD u Str.empty = X at g gi
      generalize tL r = R at g ⊢
      generalize ((u + 1 : Nat) : Int) = U1 at g1 ⊢
      simp [Rs.bind, Rs.of, Rs.out, eC, eBin, eUn, eArgs, aNil, aCons, sSeq, sSet, sIf, sRet, sExpr, sNx, sSetIx, ePk, tPk, tTru, pkVar, pkC, pkBin, pkUn, pkCall1, pkCall2, Sl.d?, Vl.d, Vl.sl, flatD, truthD, elt?, eMove, eVar, gNm, sAug, eAppend, gTup1, gTup2, g, g1, gi, hl2]
    · rw [decide_eq_false h0] at a5
      rw [sIf_f a5, if_neg h0]
      simp [sNx]
  have hx : ((if k ≤ u + left then (ts ++ sm.take u).map fun t => (r ++ [t], u) else []) : List Row).length ≤ (ext ts sm k left (r, u)).length := by
    unfold ext
    rw [List.length_append]
    exact Nat.le_add_right _ _
  have b3 := b2 (acc ++ (if k ≤ u + left then (ts ++ sm.take u).map fun t => (r ++ [t], u) else []).map rowD) (by rw [List.length_append, List.length_map]; omega)
  refine ⟨.fz (.int miss), s8', (sSeq_nx a1).trans ((sSeq_nx b1).trans (b3.trans ?_))⟩
  have ex : (ext ts sm k left (r, u)).map rowD = (if k ≤ u + left then (ts ++ sm.take u).map fun t => (r ++ [t], u) else []).map rowD ++ (if u < k ∧ k ≤ u + left + 1 then [(r ++ [sm.getD u Str.empty], u + 1)] else []).map rowD := List.map_append
  rw [ex, ← List.append_assoc]
/-- with_text -/
theorem with_all (ts sm : List Str) (k left : Nat) (rows : List Row) (hk : sm.length = k) (hkk : k ≤ 1000) (hts : ts.length ≤ 1000) (hr : ∀ q ∈ rows, q.2 ≤ k ∧ q.1.length ≤ 900) (hl : (rows.flatMap (ext ts sm k left)).length < 15000000) :
    g_with_text [.fz (.list (rows.map rowD)), .fz (.tuple (tL ts)), .fz (.tuple (tL sm)), .fz (.int left)] = .ok (.ow 1 (.list ((rows.flatMap (ext ts sm k left)).map rowD)), [.un, .un, .un, .un]) := by
  have loop : ∀ (rw_ : D) (qs : List Row) (acc : List D) (s5 s6 s7 s8 : Sl), (∀ q ∈ qs, q.2 ≤ k ∧ q.1.length ≤ 900) → acc.length + (qs.flatMap (ext ts sm k left)).length < 15000000 → ∃ s5' s6' s7' s8', forL (gTupD [gNm 5, gNm 6]) fRow (qs.map rowD) [.fz rw_, .fz (.tuple (tL ts)), .fz (.tuple (tL sm)), .fz (.int left), .ow 1 (.list acc), s5, s6, s7, s8] = .nx [.fz rw_, .fz (.tuple (tL ts)), .fz (.tuple (tL sm)), .fz (.int left), .ow 1 (.list (acc ++ (qs.flatMap (ext ts sm k left)).map rowD)), s5', s6', s7', s8'] := by
    intro rw_ qs
    induction qs with
    | nil => intro acc s5 s6 s7 s8 _ _; exact ⟨s5, s6, s7, s8, by simp [forL]⟩
    | cons q qs ih =>
      intro acc s5 s6 s7 s8 hq hl
      rw [List.flatMap_cons, List.length_append] at hl
      obtain ⟨s7a, s8a, h1⟩ := row_turn rw_ ts sm k left q acc s7 s8 hk (hq q List.mem_cons_self).1 hkk hts (hq q List.mem_cons_self).2 (by omega)
      obtain ⟨s5', s6', s7', s8', h2⟩ := ih (acc ++ (ext ts sm k left q).map rowD) (.fz (.tuple (tL q.1))) (.fz (.int q.2)) s7a s8a (fun q' h => hq q' (List.mem_cons_of_mem _ h)) (by rw [List.length_append, List.length_map]; omega)
      refine ⟨s5', s6', s7', s8', ?_⟩
      rw [List.map_cons, forL_nx (e1 := [.fz rw_, .fz (.tuple (tL ts)), .fz (.tuple (tL sm)), .fz (.int left), .ow 1 (.list acc), .fz (.tuple (tL q.1)), .fz (.int q.2), s7, s8]) rfl h1, h2, List.flatMap_cons, List.map_append, List.append_assoc]
  obtain ⟨s5', s6', s7', s8', h⟩ := loop (.list (rows.map rowD)) rows [] .un .un .un .un hr (by simpa using hl)
  rw [List.nil_append] at h
  have a1 : sSet 4 (eArgs gLst aNil) [.fz (.list (rows.map rowD)), .fz (.tuple (tL ts)), .fz (.tuple (tL sm)), .fz (.int left), .un, .un, .un, .un, .un] = .nx [.fz (.list (rows.map rowD)), .fz (.tuple (tL ts)), .fz (.tuple (tL sm)), .fz (.int left), .ow 1 (.list []), .un, .un, .un, .un] := by
    have e : VS.gLst [] = some (Vl.ow 1 (PyData.list [])) := gLst_ok (Nat.zero_le _)
    simp [Rs.bind, Rs.of, Rs.out, eC, eBin, eUn, eArgs, aNil, aCons, sSeq, sSet, sIf, sRet, sExpr, sNx, sSetIx, ePk, tPk, tTru, pkVar, pkC, pkBin, pkUn, pkCall1, pkCall2, Sl.d?, Vl.d, Vl.sl, flatD, truthD, elt?, eMove, eVar, gNm, sAug, e]
  have a2 : iSeq (eVar 0) [.fz (.list (rows.map rowD)), .fz (.tuple (tL ts)), .fz (.tuple (tL sm)), .fz (.int left), .ow 1 (.list []), .un, .un, .un, .un] = .ok (rows.map rowD, [.fz (.list (rows.map rowD)), .fz (.tuple (tL ts)), .fz (.tuple (tL sm)), .fz (.int left), .ow 1 (.list []), .un, .un, .un, .un]) := rfl
  have e : m_with_text = sSeq (sSet 4 (eArgs gLst aNil)) (sSeq (sFor (iSeq (eVar 0)) (gTupD [gNm 5, gNm 6]) fRow) (sRet (eMove 4))) := rfl
  have mk : ∀ (l : List Sl), mask [] 4 l = [.un, .un, .un, .un] := fun _ => rfl
  unfold g_with_text
  rw [e, gDef_rt (e' := [.fz (.list (rows.map rowD)), .fz (.tuple (tL ts)), .fz (.tuple (tL sm)), .fz (.int left), .un, s5', s6', s7', s8']) (v := .ow 1 (.list ((rows.flatMap (ext ts sm k left)).map rowD))), mk]
  exact (sSeq_nx a1).trans ((sSeq_nx ((sFor_ok a2).trans h)).trans rfl)
end K79


set_option Elab.async false
set_option linter.all false
set_option maxRecDepth 100000
set_option maxHeartbeats 1000000
namespace K79
open PySem PySem.Spec PyProof.Rows L2 VS
def rowsN (ts sm : List Str) (k c : Nat) : Nat → List Row
  | 0 => [([], 0)]
  | p + 1 => (rowsN ts sm k c p).flatMap (ext ts sm k (c - 1 - p))
theorem ext_inv {ts sm : List Str} {k left : Nat} {q q' : Row} (h : q' ∈ ext ts sm k left q) (hq : q.2 ≤ k) : q'.1.length = q.1.length + 1 ∧ q'.2 ≤ k := by
  unfold ext at h
  rcases List.mem_append.mp h with h | h
  · split at h
    · obtain ⟨t, _, rfl⟩ := List.mem_map.mp h
      exact ⟨by simp, hq⟩
    · cases h
  · split at h
    · rename_i hc
      have e := List.mem_singleton.mp h
      subst e
      exact ⟨by simp, by show q.2 + 1 ≤ k; omega⟩
    · cases h
theorem rows_inv {ts sm : List Str} {k c : Nat} : ∀ {p : Nat} {q : Row}, q ∈ rowsN ts sm k c p → q.1.length = p ∧ q.2 ≤ k
  | 0, q, h => by
    have e := List.mem_singleton.mp h
    subst e
    exact ⟨rfl, Nat.zero_le _⟩
  | p + 1, q, h => by
    obtain ⟨q0, h0, h1⟩ := List.mem_flatMap.mp h
    obtain ⟨a, b⟩ := rows_inv h0
    obtain ⟨a2, b2⟩ := ext_inv h1 b
    exact ⟨by omega, b2⟩
def outD (rs : List Row) : D := .tuple (rs.map fun q => .tuple (tL q.1))
theorem text_rows_many (ts : List Str) (c k : Nat) (hn : ts.length ≤ 1000) (hc : c ≤ 20) (hk : k ≤ c) (h : 300 < (ways ts.length c).getD k 0) : ∃ e', g_text_rows [.fz (.tuple (tL ts)), .fz (.int c), .fz (.int k)] = .exc "TooManyCases" [("count", .int ((ways ts.length c).getD k 0))] e' := by
  have a1 : sSet 3 (eCall 3 g_many_text_rows (aCons (eArgs gLen (aCons (eVar 0) aNil)) (aCons (eVar 1) (aCons (eVar 2) aNil)))) [.fz (.tuple (tL ts)), .fz (.int c), .fz (.int k), .un, .un, .un, .un, .un, .un] = .nx [.fz (.tuple (tL ts)), .fz (.int c), .fz (.int k), .fz (.int ((ways ts.length c).getD k 0)), .un, .un, .un, .un, .un] := by
    have e : (aCons (eArgs gLen (aCons (eVar 0) aNil)) (aCons (eVar 1) (aCons (eVar 2) aNil))) [.fz (.tuple (tL ts)), .fz (.int c), .fz (.int k), .un, .un, .un, .un, .un, .un] = .ok ([.int ts.length, .int c, .int k], [.fz (.tuple (tL ts)), .fz (.int c), .fz (.int k), .un, .un, .un, .un, .un, .un]) := by
      simp [Rs.bind, Rs.of, Rs.out, eC, eBin, eUn, eArgs, aNil, aCons, sSeq, sSet, sIf, sRet, sExpr, sNx, sSetIx, ePk, tPk, tTru, pkVar, pkC, pkBin, pkUn, pkCall1, pkCall2, Sl.d?, Vl.d, Vl.sl, flatD, truthD, elt?, eMove, eVar, gNm, sAug, gLen_t, tL]
    exact sSet_ok (k := 3) (eCall_ok e rfl (many_all ts.length c k (by omega) hc hk)) (by show 3 < 9; decide)
  have a2 : tTru (eBin gGt (eVar 3) (eC (.int 300))) [.fz (.tuple (tL ts)), .fz (.int c), .fz (.int k), .fz (.int ((ways ts.length c).getD k 0)), .un, .un, .un, .un, .un] = .ok (true, [.fz (.tuple (tL ts)), .fz (.int c), .fz (.int k), .fz (.int ((ways ts.length c).getD k 0)), .un, .un, .un, .un, .un]) := by
    generalize (ways ts.length c).getD k 0 = W at h ⊢
    simp [Rs.bind, Rs.of, Rs.out, eC, eBin, eUn, eArgs, aNil, aCons, sSeq, sSet, sIf, sRet, sExpr, sNx, sSetIx, ePk, tPk, tTru, pkVar, pkC, pkBin, pkUn, pkCall1, pkCall2, Sl.d?, Vl.d, Vl.sl, flatD, truthD, elt?, eMove, eVar, gNm, sAug, gGt_ii, h]
  have a3 : sRaise "TooManyCases" 1 (fs1 "count") (aCons (eVar 3) aNil) [.fz (.tuple (tL ts)), .fz (.int c), .fz (.int k), .fz (.int ((ways ts.length c).getD k 0)), .un, .un, .un, .un, .un] = .exc "TooManyCases" [("count", .int ((ways ts.length c).getD k 0))] [.fz (.tuple (tL ts)), .fz (.int c), .fz (.int k), .fz (.int ((ways ts.length c).getD k 0)), .un, .un, .un, .un, .un] := rfl
  refine ⟨mask [] 3 [.fz (.tuple (tL ts)), .fz (.int c), .fz (.int k), .fz (.int ((ways ts.length c).getD k 0)), .un, .un, .un, .un, .un], ?_⟩
  unfold g_text_rows
  refine gDef_exc ?_
  unfold m_text_rows
  exact (sSeq_nx a1).trans (sSeq_exc ((sIf_t a2).trans a3))
theorem text_rows_all (ts : List Str) (c k : Nat) (ht : tOk ts) (hn : k + ts.length < 329) (hc : c ≤ 20) (hk : k ≤ c) (h : ¬ 300 < (ways ts.length c).getD k 0) (hB : ∀ p, p ≤ c → (rowsN ts (samp ts k) k c p).length < 15000000) :
    g_text_rows [.fz (.tuple (tL ts)), .fz (.int c), .fz (.int k)] = .ok (.fz (outD (rowsN ts (samp ts k) k c c)), [.un, .un, .un]) := by
  have hsl := samp_len ts (k := k) (by omega)
  generalize hW : (ways ts.length c).getD k 0 = W at h
  have a1 : sSet 3 (eCall 3 g_many_text_rows (aCons (eArgs gLen (aCons (eVar 0) aNil)) (aCons (eVar 1) (aCons (eVar 2) aNil)))) [.fz (.tuple (tL ts)), .fz (.int c), .fz (.int k), .un, .un, .un, .un, .un, .un] = .nx [.fz (.tuple (tL ts)), .fz (.int c), .fz (.int k), .fz (.int W), .un, .un, .un, .un, .un] := by
    have e : (aCons (eArgs gLen (aCons (eVar 0) aNil)) (aCons (eVar 1) (aCons (eVar 2) aNil))) [.fz (.tuple (tL ts)), .fz (.int c), .fz (.int k), .un, .un, .un, .un, .un, .un] = .ok ([.int ts.length, .int c, .int k], [.fz (.tuple (tL ts)), .fz (.int c), .fz (.int k), .un, .un, .un, .un, .un, .un]) := by
      simp [Rs.bind, Rs.of, Rs.out, eC, eBin, eUn, eArgs, aNil, aCons, sSeq, sSet, sIf, sRet, sExpr, sNx, sSetIx, ePk, tPk, tTru, pkVar, pkC, pkBin, pkUn, pkCall1, pkCall2, Sl.d?, Vl.d, Vl.sl, flatD, truthD, elt?, eMove, eVar, gNm, sAug, gLen_t, tL]
    have m := many_all ts.length c k (by omega) hc hk
    rw [hW] at m
    exact sSet_ok (k := 3) (eCall_ok e rfl m) (by show 3 < 9; decide)
  have a2 : tTru (eBin gGt (eVar 3) (eC (.int 300))) [.fz (.tuple (tL ts)), .fz (.int c), .fz (.int k), .fz (.int W), .un, .un, .un, .un, .un] = .ok (false, [.fz (.tuple (tL ts)), .fz (.int c), .fz (.int k), .fz (.int W), .un, .un, .un, .un, .un]) := by
    simp [Rs.bind, Rs.of, Rs.out, eC, eBin, eUn, eArgs, aNil, aCons, sSeq, sSet, sIf, sRet, sExpr, sNx, sSetIx, ePk, tPk, tTru, pkVar, pkC, pkBin, pkUn, pkCall1, pkCall2, Sl.d?, Vl.d, Vl.sl, flatD, truthD, elt?, eMove, eVar, gNm, sAug, gGt_ii, h]
  have a3 : sSet 4 (eCallK 2 1 g_sample_texts (aCons (eVar 2) aNil) (aCons (eVar 0) (aNil))) [.fz (.tuple (tL ts)), .fz (.int c), .fz (.int k), .fz (.int W), .un, .un, .un, .un, .un] = .nx [.fz (.tuple (tL ts)), .fz (.int c), .fz (.int k), .fz (.int W), .fz (.tuple (tL (samp ts k))), .un, .un, .un, .un] :=
by
    have e3 : eCallK 2 1 g_sample_texts (aCons (eVar 2) aNil) (aCons (eVar 0) (aNil)) [.fz (.tuple (tL ts)), .fz (.int c), .fz (.int k), .fz (.int W), .un, .un, .un, .un, .un] = .ok (.fz (.tuple (tL (samp ts k))), [.fz (.tuple (tL ts)), .fz (.int c), .fz (.int k), .fz (.int W), .un, .un, .un, .un, .un]) :=
      eCallK_ok (ds := [.int k]) (ds' := [.tuple (tL ts)]) (e' := [.fz (.tuple (tL ts)), .fz (.int c), .fz (.int k), .fz (.int W), .un, .un, .un, .un, .un]) rfl rfl ⟨rfl, rfl⟩ (sample_all ts ht k (by omega))
    exact sSet_ok (k := 4) e3 (by show 4 < 9; decide)
  have a4 : sSet 5 (eArgs gLst (aCons (eArgs gTup (aCons (eArgs gTup (aNil)) (aCons (eC (.int 0)) aNil))) aNil)) [.fz (.tuple (tL ts)), .fz (.int c), .fz (.int k), .fz (.int W), .fz (.tuple (tL (samp ts k))), .un, .un, .un, .un] = .nx [.fz (.tuple (tL ts)), .fz (.int c), .fz (.int k), .fz (.int W), .fz (.tuple (tL (samp ts k))), .ow 1 (.list ((rowsN ts (samp ts k) k c 0).map rowD)), .un, .un, .un] := by
    have e0 : VS.gTup [] = some (Vl.fz (PyData.tuple [])) := gTup_ok (Nat.zero_le _)
    simp [Rs.bind, Rs.of, Rs.out, eC, eBin, eUn, eArgs, aNil, aCons, sSeq, sSet, sIf, sRet, sExpr, sNx, sSetIx, ePk, tPk, tTru, pkVar, pkC, pkBin, pkUn, pkCall1, pkCall2, Sl.d?, Vl.d, Vl.sl, flatD, truthD, elt?, eMove, eVar, gNm, sAug, e0, gTup2, gLst1, rowsN, rowD, tL]
  have a5 : iRevRange (eVar 1) [.fz (.tuple (tL ts)), .fz (.int c), .fz (.int k), .fz (.int W), .fz (.tuple (tL (samp ts k))), .ow 1 (.list ((rowsN ts (samp ts k) k c 0).map rowD)), .un, .un, .un] = .ok ((List.range c).map fun i => .int ((c : Int) - 1 - (i : Nat)), [.fz (.tuple (tL ts)), .fz (.int c), .fz (.int k), .fz (.int W), .fz (.tuple (tL (samp ts k))), .ow 1 (.list ((rowsN ts (samp ts k) k c 0).map rowD)), .un, .un, .un]) := iRevRange_nat (v := .fz (.int c)) rfl rfl (by omega)
  have loop : ∀ (d j : Nat) (s5 s6 : Sl), j + d = c → (s5 = .fz (.list ((rowsN ts (samp ts k) k c j).map rowD)) ∨ ∃ q, s5 = .ow q (.list ((rowsN ts (samp ts k) k c j).map rowD))) → ∃ s5' s6', forL (gNm 6) (sSet 5 (eCall 4 g_with_text (aCons (eVar 5) (aCons (eVar 0) (aCons (eVar 4) (aCons (eVar 6) aNil)))))) ((List.range' j d).map fun i => .int ((c : Int) - 1 - (i : Nat))) [.fz (.tuple (tL ts)), .fz (.int c), .fz (.int k), .fz (.int W), .fz (.tuple (tL (samp ts k))), s5, s6, .un, .un] = .nx [.fz (.tuple (tL ts)), .fz (.int c), .fz (.int k), .fz (.int W), .fz (.tuple (tL (samp ts k))), s5', s6', .un, .un] ∧ (s5' = .fz (.list ((rowsN ts (samp ts k) k c c).map rowD)) ∨ ∃ q, s5' = .ow q (.list ((rowsN ts (samp ts k) k c c).map rowD))) := by
    intro d
    induction d with
    | zero =>
      intro j s5 s6 hj hs
      have e : j = c := by omega
      subst e
      exact ⟨s5, s6, rfl, hs⟩
    | succ d ih =>
      intro j s5 s6 hj hs
      have hb := hB (j + 1) (by omega)
      have w := with_all ts (samp ts k) k (c - 1 - j) (rowsN ts (samp ts k) k c j) hsl (by omega) (by omega) (fun q hq => by
        have := rows_inv hq
        exact ⟨this.2, by omega⟩) hb
      have ec : (c : Int) - 1 - (j : Nat) = ((c - 1 - j : Nat) : Int) := by omega
      obtain ⟨s5', s6', h2, h3⟩ := ih (j + 1) (.ow 1 (.list ((rowsN ts (samp ts k) k c (j + 1)).map rowD))) (.fz (.int ((c : Int) - 1 - (j : Nat)))) (by omega) (.inr ⟨1, rfl⟩)
      refine ⟨s5', s6', ?_, h3⟩
      have st : sSet 5 (eCall 4 g_with_text (aCons (eVar 5) (aCons (eVar 0) (aCons (eVar 4) (aCons (eVar 6) aNil))))) [.fz (.tuple (tL ts)), .fz (.int c), .fz (.int k), .fz (.int W), .fz (.tuple (tL (samp ts k))), s5, .fz (.int ((c : Int) - 1 - (j : Nat))), .un, .un] = .nx [.fz (.tuple (tL ts)), .fz (.int c), .fz (.int k), .fz (.int W), .fz (.tuple (tL (samp ts k))), .ow 1 (.list ((rowsN ts (samp ts k) k c (j + 1)).map rowD)), .fz (.int ((c : Int) - 1 - (j : Nat))), .un, .un] := by
        rw [ec]
        have ea : (aCons (eVar 5) (aCons (eVar 0) (aCons (eVar 4) (aCons (eVar 6) aNil)))) [.fz (.tuple (tL ts)), .fz (.int c), .fz (.int k), .fz (.int W), .fz (.tuple (tL (samp ts k))), s5, .fz (.int ((c - 1 - j : Nat) : Int)), .un, .un] = .ok ([.list ((rowsN ts (samp ts k) k c j).map rowD), .tuple (tL ts), .tuple (tL (samp ts k)), .int ((c - 1 - j : Nat) : Int)], [.fz (.tuple (tL ts)), .fz (.int c), .fz (.int k), .fz (.int W), .fz (.tuple (tL (samp ts k))), .fz (.list ((rowsN ts (samp ts k) k c j).map rowD)), .fz (.int ((c - 1 - j : Nat) : Int)), .un, .un]) := by
          rcases hs with rfl | ⟨q, rfl⟩ <;> rfl
        have eb := eCall_ok (np := 4) ea rfl w
        exact sSet_ok (k := 5) eb (by show 5 < 9; decide)
      rw [List.range'_succ, List.map_cons, forL_nx (e1 := [.fz (.tuple (tL ts)), .fz (.int c), .fz (.int k), .fz (.int W), .fz (.tuple (tL (samp ts k))), s5, .fz (.int ((c : Int) - 1 - (j : Nat))), .un, .un]) rfl st]
      exact h2
  obtain ⟨s5', s6', h6, hs⟩ := loop c 0 (.ow 1 (.list ((rowsN ts (samp ts k) k c 0).map rowD))) .un (by omega) (.inr ⟨1, rfl⟩)
  have a7 : iSeq (eVar 5) [.fz (.tuple (tL ts)), .fz (.int c), .fz (.int k), .fz (.int W), .fz (.tuple (tL (samp ts k))), s5', s6', .un, .un] = .ok ((rowsN ts (samp ts k) k c c).map rowD, [.fz (.tuple (tL ts)), .fz (.int c), .fz (.int k), .fz (.int W), .fz (.tuple (tL (samp ts k))), .fz (.list ((rowsN ts (samp ts k) k c c).map rowD)), s6', .un, .un]) := by
    rcases hs with rfl | ⟨q, rfl⟩ <;> rfl
  have hzz := hB c (Nat.le_refl _)
  obtain ⟨e8, c8, q8⟩ := eComp_all (n := 0) (f := eVar 7) (vs := [7, 8]) (g := gTupD [gNm 7, gNm 8]) (y := fun d => match d with | .tuple [x, _] => x | _ => .none)
    (fun E => E = [.fz (.tuple (tL ts)), .fz (.int c), .fz (.int k), .fz (.int W), .fz (.tuple (tL (samp ts k))), .fz (.list ((rowsN ts (samp ts k) k c c).map rowD)), s6', .un, .un]) a7 rfl (fun d hd E0 p0 => by
      obtain ⟨q, hq, rfl⟩ := List.mem_map.mp hd
      subst p0
      exact ⟨_, _, _, rfl, rfl, rfl, rfl⟩) (by rw [List.length_map, sizeLine_eq]; omega)
  have l8 : (((rowsN ts (samp ts k) k c c).map rowD).map fun (d : D) => (match d with | .tuple [x, _] => x | _ => .none : D)) = (rowsN ts (samp ts k) k c c).map fun q => .tuple (tL q.1) := by
    rw [List.map_map]; rfl
  rw [l8] at c8
  subst q8
  have a9 : eArgs gTuple (aCons (eComp 0 (iSeq (eVar 5)) (gTupD [gNm 7, gNm 8]) (tYesD) (eVar 7) [7, 8]) aNil) [.fz (.tuple (tL ts)), .fz (.int c), .fz (.int k), .fz (.int W), .fz (.tuple (tL (samp ts k))), s5', s6', .un, .un] = .ok (.fz (outD (rowsN ts (samp ts k) k c c)), [.fz (.tuple (tL ts)), .fz (.int c), .fz (.int k), .fz (.int W), .fz (.tuple (tL (samp ts k))), .fz (.list ((rowsN ts (samp ts k) k c c).map rowD)), s6', .un, .un]) := by
    unfold eArgs aCons
    rw [c8]
    rfl
  have mk : ∀ (l : List Sl), mask [] 3 l = [.un, .un, .un] := fun _ => rfl
  unfold g_text_rows
  rw [gDef_rt (e' := [.fz (.tuple (tL ts)), .fz (.int c), .fz (.int k), .fz (.int W), .fz (.tuple (tL (samp ts k))), .fz (.list ((rowsN ts (samp ts k) k c c).map rowD)), s6', .un, .un]) (v := .fz (outD (rowsN ts (samp ts k) k c c))), mk]
  unfold m_text_rows
  have hr : List.range c = List.range' 0 c := List.range_eq_range'
  rw [hr] at a5
  exact (sSeq_nx a1).trans ((sSeq_nx (sIf_f a2)).trans ((sSeq_nx a3).trans ((sSeq_nx a4).trans ((sSeq_nx ((sFor_ok a5).trans h6)).trans (sRet_ok a9)))))
end K79


set_option Elab.async false
set_option linter.all false
set_option maxRecDepth 100000
set_option maxHeartbeats 1000000
namespace K79
open PySem PySem.Spec PyProof.Rows L2 VS
abbrev fCell : Sv := sSeq (sSet 10 (eBin gAdd (eBin gIdx (eVar 7) (eC (.int 1))) (eArgs gInt (aCons (eBin gEq (eVar 9) (eBin gSub (eArgs gLen (aCons (eVar 8) aNil)) (eC (.int 1)))) aNil)))) <|
    sIf (tAndD (tTru (eBin gLe (eVar 10) (eVar 2))) (tTru (eBin gGe (eBin gSub (eBin gSub (eBin gAdd (eVar 10) (eVar 1)) (eVar 5)) (eC (.int 1))) (eVar 2)))) (sExpr (eAppend 6 (eArgs gTup (aCons (eBin gAdd (eBin gIdx (eVar 7) (eC (.int 0))) (eArgs gTup (aCons (eBin gIdx (eVar 8) (eVar 9)) aNil))) (aCons (eVar 10) aNil))))) (sNx)
theorem gPair0 (q : Row) : gIdx (rowD q) (.int 0) = some (.fz (.tuple (tL q.1))) := rfl
theorem gPair1 (q : Row) : gIdx (rowD q) (.int 1) = some (.fz (.int (q.2 : Int))) := rfl
theorem cell_turn (a s3 s4 : Sl) (c k p j : Nat) (acc : List D) (q : Row) (cs : List Str) (x : Str) (s10 : Sl) (hx : cs[j]? = some x) (hr : q.1.length ≤ 900) (hl : acc.length < 15900000) (hp : p < c) (v : Nat) (hv : (v : Int) = q.2 + (if (j : Int) == (cs.length : Int) - 1 then 1 else 0)) :
    fCell [a, .fz (.int c), .fz (.int k), s3, s4, .fz (.int p), .ow 1 (.list acc), .fz (rowD q), .fz (.list (tL cs)), .fz (.int j), s10] = .nx [a, .fz (.int c), .fz (.int k), s3, s4, .fz (.int p), .ow 1 (.list (acc ++ (if v ≤ k ∧ k ≤ v + (c - 1 - p) then [rowD (q.1 ++ [x], v)] else []))), .fz (rowD q), .fz (.list (tL cs)), .fz (.int j), .fz (.int v)] := by
  have a1 : sSet 10 (eBin gAdd (eBin gIdx (eVar 7) (eC (.int 1))) (eArgs gInt (aCons (eBin gEq (eVar 9) (eBin gSub (eArgs gLen (aCons (eVar 8) aNil)) (eC (.int 1)))) aNil))) [a, .fz (.int c), .fz (.int k), s3, s4, .fz (.int p), .ow 1 (.list acc), .fz (rowD q), .fz (.list (tL cs)), .fz (.int j), s10] = .nx [a, .fz (.int c), .fz (.int k), s3, s4, .fz (.int p), .ow 1 (.list acc), .fz (rowD q), .fz (.list (tL cs)), .fz (.int j), .fz (.int v)] := by
    have gl : gLen [.list (tL cs)] = some (.fz (.int (cs.length : Int))) := by rw [gLen_l]; simp [tL]
    rw [hv]
    have g1 := gPair1 q
    generalize rowD q = RD at g1 ⊢
    generalize (PyData.list (tL cs)) = CS at gl ⊢
    generalize (cs.length : Int) = L at gl ⊢
    simp [Rs.bind, Rs.of, Rs.out, eC, eBin, eUn, eArgs, aNil, aCons, sSeq, sSet, sIf, sRet, sExpr, sNx, sSetIx, ePk, tPk, tTru, pkVar, pkC, pkBin, pkUn, pkCall1, pkCall2, Sl.d?, Vl.d, Vl.sl, flatD, truthD, elt?, eMove, eVar, gNm, sAug, g1, gl, gSub_ii, gEq_ii, gInt_b, gAdd_ii]
  have a2 : tAndD (tTru (eBin gLe (eVar 10) (eVar 2))) (tTru (eBin gGe (eBin gSub (eBin gSub (eBin gAdd (eVar 10) (eVar 1)) (eVar 5)) (eC (.int 1))) (eVar 2))) [a, .fz (.int c), .fz (.int k), s3, s4, .fz (.int p), .ow 1 (.list acc), .fz (rowD q), .fz (.list (tL cs)), .fz (.int j), .fz (.int v)] = .ok (decide (v ≤ k ∧ k ≤ v + (c - 1 - p)), [a, .fz (.int c), .fz (.int k), s3, s4, .fz (.int p), .ow 1 (.list acc), .fz (rowD q), .fz (.list (tL cs)), .fz (.int j), .fz (.int v)]) := by
    by_cases h1 : (v : Int) ≤ k
    · by_cases h2 : (k : Int) ≤ (v : Int) + c - p - 1
      · rw [decide_eq_true (show v ≤ k ∧ k ≤ v + (c - 1 - p) by omega)]
        have h1' : v ≤ k := by omega
        simp [tAndD, Rs.bind, Rs.of, Rs.out, eC, eBin, eUn, eArgs, aNil, aCons, sSeq, sSet, sIf, sRet, sExpr, sNx, sSetIx, ePk, tPk, tTru, pkVar, pkC, pkBin, pkUn, pkCall1, pkCall2, Sl.d?, Vl.d, Vl.sl, flatD, truthD, elt?, eMove, eVar, gNm, sAug, gLe_ii, gGe_ii, gSub_ii, gAdd_ii, h1', h2]
      · rw [decide_eq_false (show ¬ (v ≤ k ∧ k ≤ v + (c - 1 - p)) by omega)]
        have h1' : v ≤ k := by omega
        simp [tAndD, Rs.bind, Rs.of, Rs.out, eC, eBin, eUn, eArgs, aNil, aCons, sSeq, sSet, sIf, sRet, sExpr, sNx, sSetIx, ePk, tPk, tTru, pkVar, pkC, pkBin, pkUn, pkCall1, pkCall2, Sl.d?, Vl.d, Vl.sl, flatD, truthD, elt?, eMove, eVar, gNm, sAug, gLe_ii, gGe_ii, gSub_ii, gAdd_ii, h1', h2]
    · rw [decide_eq_false (show ¬ (v ≤ k ∧ k ≤ v + (c - 1 - p)) by omega)]
      have h1' : ¬ v ≤ k := by omega
      simp [tAndD, Rs.bind, Rs.of, Rs.out, eC, eBin, eUn, eArgs, aNil, aCons, sSeq, sSet, sIf, sRet, sExpr, sNx, sSetIx, ePk, tPk, tTru, pkVar, pkC, pkBin, pkUn, pkCall1, pkCall2, Sl.d?, Vl.d, Vl.sl, flatD, truthD, elt?, eMove, eVar, gNm, sAug, gLe_ii, gGe_ii, gSub_ii, gAdd_ii, h1']
  refine (sSeq_nx a1).trans ?_
  by_cases h : v ≤ k ∧ k ≤ v + (c - 1 - p)
  · rw [decide_eq_true h] at a2
    rw [sIf_t a2, if_pos h]
    have gi : gIdx (.list (tL cs)) (.int j) = some (.fz (.str x)) := gIdx_l (VS.atI_nat (by rw [tL, List.getElem?_map, hx]; rfl))
    have g := gAdd_row (r := q.1) (by omega) x
    have g0 := gPair0 q
    have hl2 : acc.length < sizeLine := by rw [sizeLine_eq]; omega
    have er : rowD (q.1 ++ [x], v) = .tuple [.tuple (tL (q.1 ++ [x])), .int (v : Int)] := rfl
    rw [er]
    generalize rowD q = RD at g0 ⊢
    generalize (PyData.list (tL cs)) = CS at gi ⊢
    generalize tL (q.1 ++ [x]) = R2 at g ⊢
    generalize tL q.1 = R1 at g g0
    simp [Rs.bind, Rs.of, Rs.out, eC, eBin, eUn, eArgs, aNil, aCons, sSeq, sSet, sIf, sRet, sExpr, sNx, sSetIx, ePk, tPk, tTru, pkVar, pkC, pkBin, pkUn, pkCall1, pkCall2, Sl.d?, Vl.d, Vl.sl, flatD, truthD, elt?, eMove, eVar, gNm, sAug, eAppend, gTup1, gTup2, g, g0, gi, hl2]
  · rw [decide_eq_false h] at a2
    rw [sIf_f a2, if_neg h]
    simp [sNx]
theorem cell_loop (a s3 s4 : Sl) (c k p : Nat) (q : Row) (xs : List Str) (z : Str) (hr : q.1.length ≤ 900) (hp : p < c) (hu : q.2 ≤ k) : ∀ (d j : Nat) (acc : List D) (s9 s10 : Sl), j + d = xs.length → acc.length + d + 1 < 15900000 →
    ∃ s9' s10', forL (gNm 9) fCell ((List.range' j (d + 1)).map fun i => .int ((i : Nat) : Int)) [a, .fz (.int c), .fz (.int k), s3, s4, .fz (.int p), .ow 1 (.list acc), .fz (rowD q), .fz (.list (tL (xs ++ [z]))), s9, s10] = .nx [a, .fz (.int c), .fz (.int k), s3, s4, .fz (.int p), .ow 1 (.list (acc ++ ((if k ≤ q.2 + (c - 1 - p) then (xs.drop j).map fun t => (q.1 ++ [t], q.2) else []) ++ (if q.2 < k ∧ k ≤ q.2 + (c - 1 - p) + 1 then [(q.1 ++ [z], q.2 + 1)] else []) : List Row).map rowD)), .fz (rowD q), .fz (.list (tL (xs ++ [z]))), s9', s10'] := by
  intro d
  induction d with
  | zero =>
    intro j acc s9 s10 hj hl
    have ej : j = xs.length := by omega
    subst ej
    have t := cell_turn a s3 s4 c k p xs.length acc q (xs ++ [z]) z s10 (by simp) hr (by omega) hp (q.2 + 1) (by simp)
    refine ⟨.fz (.int (xs.length : Int)), .fz (.int ((q.2 + 1 : Nat) : Int)), ?_⟩
    show forL (gNm 9) fCell [.int (xs.length : Int)] _ = _
    rw [forL_nx (e1 := [a, .fz (.int c), .fz (.int k), s3, s4, .fz (.int p), .ow 1 (.list acc), .fz (rowD q), .fz (.list (tL (xs ++ [z]))), .fz (.int (xs.length : Int)), s10]) rfl t, forL_nil, List.drop_length, List.map_nil, ite_self, List.nil_append]
    have e : (q.2 + 1 ≤ k ∧ k ≤ q.2 + 1 + (c - 1 - p)) ↔ (q.2 < k ∧ k ≤ q.2 + (c - 1 - p) + 1) := by omega
    by_cases h : q.2 < k ∧ k ≤ q.2 + (c - 1 - p) + 1
    · rw [if_pos h, if_pos (e.mpr h)]; rfl
    · rw [if_neg h, if_neg fun z => h (e.mp z)]; rfl
  | succ d ih =>
    intro j acc s9 s10 hj hl
    have hjx : j < xs.length := by omega
    have t := cell_turn a s3 s4 c k p j acc q (xs ++ [z]) xs[j] s10 (by rw [List.getElem?_append_left hjx, List.getElem?_eq_getElem hjx]) hr (by omega) hp q.2 (by
      have : ((j : Int) == ((xs ++ [z]).length : Int) - 1) = false := by
        simp only [beq_eq_false_iff_ne, List.length_append, List.length_singleton]
        omega
      rw [this]; simp)
    obtain ⟨s9', s10', h2⟩ := ih (j + 1) (acc ++ (if q.2 ≤ k ∧ k ≤ q.2 + (c - 1 - p) then [rowD (q.1 ++ [xs[j]], q.2)] else [])) (.fz (.int j)) (.fz (.int (q.2 : Int))) (by omega) (by
      rw [List.length_append]; split <;> simp <;> omega)
    refine ⟨s9', s10', ?_⟩
    rw [List.range'_succ, List.map_cons, forL_nx (e1 := [a, .fz (.int c), .fz (.int k), s3, s4, .fz (.int p), .ow 1 (.list acc), .fz (rowD q), .fz (.list (tL (xs ++ [z]))), .fz (.int j), s10]) rfl t, h2]
    have hd : xs.drop j = xs[j] :: xs.drop (j + 1) := List.drop_eq_getElem_cons hjx
    rw [hd]
    by_cases h : k ≤ q.2 + (c - 1 - p)
    · rw [if_pos h, if_pos ⟨hu, h⟩, if_pos h, List.map_cons, List.cons_append, List.map_cons, List.append_assoc]
      rfl
    · rw [if_neg h, if_neg fun z => h z.2, if_neg h, List.append_nil]
abbrev fPair : Sv := sSeq (sSet 8 (eBin gAdd (eArgs gList (aCons (eVar 0) aNil)) (eSlice (eVar 3) (pNo) (pSo (eBin gAdd (eBin gIdx (eVar 7) (eC (.int 1))) (eC (.int 1))))))) <|
    sFor (iRange1 (eArgs gLen (aCons (eVar 8) aNil))) (gNm 9) fCell
theorem pair_turn (ts : List Str) (s3 s4 : Sl) (c k p : Nat) (acc : List D) (q : Row) (s8 s9 s10 : Sl) (hkn : k + 1 + ts.length < 329) (h3 : s3 = .fz (.list (tL (samp ts (k + 1)))) ∨ ∃ m, s3 = .ow m (.list (tL (samp ts (k + 1))))) (hr : q.1.length ≤ 900) (hp : p < c) (hu : q.2 ≤ k) (hl : acc.length + ts.length + k + 2 < 15900000) :
    ∃ s8' s9' s10', fPair [.fz (.list (tL ts)), .fz (.int c), .fz (.int k), s3, s4, .fz (.int p), .ow 1 (.list acc), .fz (rowD q), s8, s9, s10] = .nx [.fz (.list (tL ts)), .fz (.int c), .fz (.int k), .fz (.list (tL (samp ts (k + 1)))), s4, .fz (.int p), .ow 1 (.list (acc ++ (ext ts (samp ts k) k (c - 1 - p) q).map rowD)), .fz (rowD q), s8', s9', s10'] := by
  have sl := samp_len ts (k := k + 1) (by omega)
  have hul : q.2 < (samp ts (k + 1)).length := by omega
  let xs := ts ++ (samp ts (k + 1)).take q.2
  let z := (samp ts (k + 1))[q.2]
  have ecs : ts ++ (samp ts (k + 1)).take (q.2 + 1) = xs ++ [z] := by
    show _ = (ts ++ (samp ts (k + 1)).take q.2) ++ [(samp ts (k + 1))[q.2]]
    rw [List.append_assoc, List.take_add_one, List.getElem?_eq_getElem hul]
    rfl
  have a1 : sSet 8 (eBin gAdd (eArgs gList (aCons (eVar 0) aNil)) (eSlice (eVar 3) (pNo) (pSo (eBin gAdd (eBin gIdx (eVar 7) (eC (.int 1))) (eC (.int 1)))))) [.fz (.list (tL ts)), .fz (.int c), .fz (.int k), s3, s4, .fz (.int p), .ow 1 (.list acc), .fz (rowD q), s8, s9, s10] = .nx [.fz (.list (tL ts)), .fz (.int c), .fz (.int k), .fz (.list (tL (samp ts (k + 1)))), s4, .fz (.int p), .ow 1 (.list acc), .fz (rowD q), .ow 1 (.list (tL (xs ++ [z]))), s9, s10] := by
    have g1 := gPair1 q
    have g2 : gAdd (.int (q.2 : Int)) (.int 1) = some (.fz (.int ((q.2 + 1 : Nat) : Int))) := rfl
    have g3 : gSlice (.list (tL (samp ts (k + 1)))) none (some ((q.2 + 1 : Nat) : Int)) = some (.ow 1 (.list ((tL (samp ts (k + 1))).take (q.2 + 1)))) := slice_to
    have g4 : gAdd (.list (tL ts)) (.list ((tL (samp ts (k + 1))).take (q.2 + 1))) = some (.ow 1 (.list (tL (xs ++ [z])))) := by
      have e : tL (xs ++ [z]) = tL ts ++ (tL (samp ts (k + 1))).take (q.2 + 1) := by rw [← ecs]; simp [tL]
      rw [e]
      exact gAdd_ll (small_line (by simp [tL]; omega))
    generalize rowD q = RD at g1 ⊢
    generalize (tL (samp ts (k + 1))).take (q.2 + 1) = T1 at g3 g4
    generalize tL (xs ++ [z]) = R at g4 ⊢
    generalize ((q.2 + 1 : Nat) : Int) = I at g2 g3
    rcases h3 with rfl | ⟨m, rfl⟩ <;> simp [Rs.bind, Rs.of, Rs.out, eC, eBin, eUn, eArgs, aNil, aCons, sSeq, sSet, sIf, sRet, sExpr, sNx, sSetIx, ePk, tPk, tTru, pkVar, pkC, pkBin, pkUn, pkCall1, pkCall2, Sl.d?, Vl.d, Vl.sl, flatD, truthD, elt?, eMove, eVar, gNm, sAug, gList_l, eSlice, pNo, pSo, g1, g2, g3, g4]
  have a2 : iRange1 (eArgs gLen (aCons (eVar 8) aNil)) [.fz (.list (tL ts)), .fz (.int c), .fz (.int k), .fz (.list (tL (samp ts (k + 1)))), s4, .fz (.int p), .ow 1 (.list acc), .fz (rowD q), .ow 1 (.list (tL (xs ++ [z]))), s9, s10] = .ok ((List.range' 0 (xs.length + 1)).map fun i => .int ((i : Nat) : Int), [.fz (.list (tL ts)), .fz (.int c), .fz (.int k), .fz (.list (tL (samp ts (k + 1)))), s4, .fz (.int p), .ow 1 (.list acc), .fz (rowD q), .fz (.list (tL (xs ++ [z]))), s9, s10]) := by
    have hxl : xs.length ≤ 400 := by
      show (ts ++ (samp ts (k + 1)).take q.2).length ≤ 400
      rw [List.length_append, List.length_take]; omega
    refine iRange1_nat (v := .fz (.int ((xs.length + 1 : Nat) : Int))) ?_ rfl (by omega)
    have gl : gLen [.list (tL (xs ++ [z]))] = some (.fz (.int ((xs.length + 1 : Nat) : Int))) := by rw [gLen_l]; simp [tL]
    generalize rowD q = RD
    generalize ((xs.length + 1 : Nat) : Int) = I at gl ⊢
    generalize tL (xs ++ [z]) = R at gl ⊢
    simp [Rs.bind, Rs.of, Rs.out, eC, eBin, eUn, eArgs, aNil, aCons, sSeq, sSet, sIf, sRet, sExpr, sNx, sSetIx, ePk, tPk, tTru, pkVar, pkC, pkBin, pkUn, pkCall1, pkCall2, Sl.d?, Vl.d, Vl.sl, flatD, truthD, elt?, eMove, eVar, gNm, sAug, gl]
  obtain ⟨s9', s10', h⟩ := cell_loop (.fz (.list (tL ts))) (.fz (.list (tL (samp ts (k + 1))))) s4 c k p q xs z hr hp hu xs.length 0 acc s9 s10 (by omega) (by
    show acc.length + (ts ++ (samp ts (k + 1)).take q.2).length + 1 < 15900000
    rw [List.length_append, List.length_take]; omega)
  refine ⟨.fz (.list (tL (xs ++ [z]))), s9', s10', (sSeq_nx a1).trans ((sFor_ok a2).trans (h.trans ?_))⟩
  have e1 : xs = ts ++ (samp ts k).take q.2 := by
    show ts ++ (samp ts (k + 1)).take q.2 = _
    rw [samp_take ts (by omega) (show q.2 ≤ k + 1 by omega), samp_take ts (by omega) hu]
  have e2 : (if q.2 < k ∧ k ≤ q.2 + (c - 1 - p) + 1 then [(q.1 ++ [z], q.2 + 1)] else [] : List Row) = (if q.2 < k ∧ k ≤ q.2 + (c - 1 - p) + 1 then [(q.1 ++ [(samp ts k).getD q.2 Str.empty], q.2 + 1)] else []) := by
    by_cases hc : q.2 < k ∧ k ≤ q.2 + (c - 1 - p) + 1
    · rw [if_pos hc, if_pos hc]
      have ez : z = (samp ts k).getD q.2 Str.empty := by
        have q1 : (samp ts k)[q.2]? = (samp ts (k + 1))[q.2]? := by
          rw [← samp_take ts (k := k + 1) (j := k) (by omega) (by omega), List.getElem?_take_of_lt hc.1]
        rw [List.getD_eq_getElem?_getD, q1, List.getElem?_eq_getElem hul]
        rfl
      rw [ez]
    · rw [if_neg hc, if_neg hc]
  rw [List.drop_zero, e2]
  unfold ext
  rw [← e1]
abbrev fPlace : Sv := sSeq (sSet 6 (eArgs gLst (aNil))) <|
    sSeq (sFor (iSeq (eArgs gList (aCons (eVar 4) aNil))) (gNm 7) fPair) <|
    sSet 4 (eVar 6)
theorem place_turn (ts : List Str) (s3 s4 : Sl) (c k p : Nat) (rs : List Row) (s6 s7 s8 s9 s10 : Sl) (hkn : k + 1 + ts.length < 329) (h3 : s3 = .fz (.list (tL (samp ts (k + 1)))) ∨ ∃ m, s3 = .ow m (.list (tL (samp ts (k + 1))))) (h4 : s4 = .fz (.list (rs.map rowD)) ∨ ∃ m, s4 = .ow m (.list (rs.map rowD))) (hp : p < c) (hr : ∀ q ∈ rs, q.1.length ≤ 900 ∧ q.2 ≤ k) (hl : (rs.flatMap (ext ts (samp ts k) k (c - 1 - p))).length < 15000000) :
    ∃ s3' s6' s7' s8' s9' s10', fPlace [.fz (.list (tL ts)), .fz (.int c), .fz (.int k), s3, s4, .fz (.int p), s6, s7, s8, s9, s10] = .nx [.fz (.list (tL ts)), .fz (.int c), .fz (.int k), s3', .fz (.list ((rs.flatMap (ext ts (samp ts k) k (c - 1 - p))).map rowD)), .fz (.int p), s6', s7', s8', s9', s10'] ∧ (s3' = .fz (.list (tL (samp ts (k + 1)))) ∨ ∃ m, s3' = .ow m (.list (tL (samp ts (k + 1))))) := by
  have loop : ∀ (s4 : Sl) (qs : List Row) (acc : List D) (s3 s7 s8 s9 s10 : Sl), (s3 = .fz (.list (tL (samp ts (k + 1)))) ∨ ∃ m, s3 = .ow m (.list (tL (samp ts (k + 1))))) → (∀ q ∈ qs, q.1.length ≤ 900 ∧ q.2 ≤ k) → acc.length + (qs.flatMap (ext ts (samp ts k) k (c - 1 - p))).length < 15000000 →
      ∃ s3' s7' s8' s9' s10', forL (gNm 7) fPair (qs.map rowD) [.fz (.list (tL ts)), .fz (.int c), .fz (.int k), s3, s4, .fz (.int p), .ow 1 (.list acc), s7, s8, s9, s10] = .nx [.fz (.list (tL ts)), .fz (.int c), .fz (.int k), s3', s4, .fz (.int p), .ow 1 (.list (acc ++ (qs.flatMap (ext ts (samp ts k) k (c - 1 - p))).map rowD)), s7', s8', s9', s10'] ∧ (s3' = .fz (.list (tL (samp ts (k + 1)))) ∨ ∃ m, s3' = .ow m (.list (tL (samp ts (k + 1))))) := by
    intro s4 qs
    induction qs with
    | nil => intro acc s3 s7 s8 s9 s10 h3 _ _; exact ⟨s3, s7, s8, s9, s10, by simp [forL], h3⟩
    | cons q qs ih =>
      intro acc s3 s7 s8 s9 s10 h3 hq hl
      rw [List.flatMap_cons, List.length_append] at hl
      obtain ⟨s8a, s9a, s10a, h1⟩ := pair_turn ts s3 s4 c k p acc q s8 s9 s10 hkn h3 (hq q List.mem_cons_self).1 hp (hq q List.mem_cons_self).2 (by omega)
      obtain ⟨s3', s7', s8', s9', s10', h2, h2'⟩ := ih (acc ++ (ext ts (samp ts k) k (c - 1 - p) q).map rowD) (.fz (.list (tL (samp ts (k + 1))))) (.fz (rowD q)) s8a s9a s10a (.inl rfl) (fun q' h => hq q' (List.mem_cons_of_mem _ h)) (by rw [List.length_append, List.length_map]; omega)
      refine ⟨s3', s7', s8', s9', s10', ?_, h2'⟩
      rw [List.map_cons, forL_nx (e1 := [.fz (.list (tL ts)), .fz (.int c), .fz (.int k), s3, s4, .fz (.int p), .ow 1 (.list acc), .fz (rowD q), s8, s9, s10]) rfl h1, h2, List.flatMap_cons, List.map_append, List.append_assoc]
  have a1 : sSet 6 (eArgs gLst aNil) [.fz (.list (tL ts)), .fz (.int c), .fz (.int k), s3, s4, .fz (.int p), s6, s7, s8, s9, s10] = .nx [.fz (.list (tL ts)), .fz (.int c), .fz (.int k), s3, s4, .fz (.int p), .ow 1 (.list []), s7, s8, s9, s10] := by
    have e : VS.gLst [] = some (Vl.ow 1 (PyData.list [])) := gLst_ok (Nat.zero_le _)
    simp [Rs.bind, Rs.of, Rs.out, eC, eBin, eUn, eArgs, aNil, aCons, sSeq, sSet, sIf, sRet, sExpr, sNx, sSetIx, ePk, tPk, tTru, pkVar, pkC, pkBin, pkUn, pkCall1, pkCall2, Sl.d?, Vl.d, Vl.sl, flatD, truthD, elt?, eMove, eVar, gNm, sAug, e]
  have a2 : iSeq (eArgs gList (aCons (eVar 4) aNil)) [.fz (.list (tL ts)), .fz (.int c), .fz (.int k), s3, s4, .fz (.int p), .ow 1 (.list []), s7, s8, s9, s10] = .ok (rs.map rowD, [.fz (.list (tL ts)), .fz (.int c), .fz (.int k), s3, .fz (.list (rs.map rowD)), .fz (.int p), .ow 1 (.list []), s7, s8, s9, s10]) := by
    rcases h4 with rfl | ⟨m, rfl⟩ <;> rfl
  obtain ⟨s3', s7', s8', s9', s10', h, h'⟩ := loop (.fz (.list (rs.map rowD))) rs [] s3 s7 s8 s9 s10 h3 hr (by simpa using hl)
  rw [List.nil_append] at h
  exact ⟨s3', _, s7', s8', s9', s10', (sSeq_nx a1).trans ((sSeq_nx ((sFor_ok a2).trans h)).trans rfl), h'⟩
theorem law_rows_all (ts : List Str) (c k : Nat) (ht : tOk ts) (hn : k + 1 + ts.length < 329) (hc : c ≤ 20) (hk : k ≤ c) (hB : ∀ p, p ≤ c → (rowsN ts (samp ts k) k c p).length < 15000000) :
    g_l_text_rows [.fz (.list (tL ts)), .fz (.int c), .fz (.int k)] = .ok (.ow 1 (.list ((rowsN ts (samp ts k) k c c).map fun q => .tuple (tL q.1))), [.un, .un, .un]) := by
  have a1 : sSet 3 (eCall 3 g_l_fresh (aCons (eC (.str "v")) (aCons (eVar 0) (aCons (eBin gAdd (eVar 2) (eC (.int 1))) aNil)))) [.fz (.list (tL ts)), .fz (.int c), .fz (.int k), .un, .un, .un, .un, .un, .un, .un, .un] = .nx [.fz (.list (tL ts)), .fz (.int c), .fz (.int k), .ow 1 (.list (tL (samp ts (k + 1)))), .un, .un, .un, .un, .un, .un, .un] := by
    have ea : (aCons (eC (.str "v")) (aCons (eVar 0) (aCons (eBin gAdd (eVar 2) (eC (.int 1))) aNil))) [.fz (.list (tL ts)), .fz (.int c), .fz (.int k), .un, .un, .un, .un, .un, .un, .un, .un] = .ok ([.str "v", .list (tL ts), .int ((k + 1 : Nat) : Int)], [.fz (.list (tL ts)), .fz (.int c), .fz (.int k), .un, .un, .un, .un, .un, .un, .un, .un]) := rfl
    exact sSet_ok (k := 3) (eCall_ok ea rfl (fresh_all ts ht (k + 1) (by omega))) (by show 3 < 11; decide)
  have a2 : sSet 4 (eArgs gLst (aCons (eArgs gTup (aCons (eArgs gTup (aNil)) (aCons (eC (.int 0)) aNil))) aNil)) [.fz (.list (tL ts)), .fz (.int c), .fz (.int k), .ow 1 (.list (tL (samp ts (k + 1)))), .un, .un, .un, .un, .un, .un, .un] = .nx [.fz (.list (tL ts)), .fz (.int c), .fz (.int k), .ow 1 (.list (tL (samp ts (k + 1)))), .ow 1 (.list ((rowsN ts (samp ts k) k c 0).map rowD)), .un, .un, .un, .un, .un, .un] := by
    have e0 : VS.gTup [] = some (Vl.fz (PyData.tuple [])) := gTup_ok (Nat.zero_le _)
    simp [Rs.bind, Rs.of, Rs.out, eC, eBin, eUn, eArgs, aNil, aCons, sSeq, sSet, sIf, sRet, sExpr, sNx, sSetIx, ePk, tPk, tTru, pkVar, pkC, pkBin, pkUn, pkCall1, pkCall2, Sl.d?, Vl.d, Vl.sl, flatD, truthD, elt?, eMove, eVar, gNm, sAug, e0, gTup2, gLst1, rowsN, rowD, tL]
  have a3 : iRange1 (eVar 1) [.fz (.list (tL ts)), .fz (.int c), .fz (.int k), .ow 1 (.list (tL (samp ts (k + 1)))), .ow 1 (.list ((rowsN ts (samp ts k) k c 0).map rowD)), .un, .un, .un, .un, .un, .un] = .ok ((List.range' 0 c).map fun i => .int ((i : Nat) : Int), [.fz (.list (tL ts)), .fz (.int c), .fz (.int k), .ow 1 (.list (tL (samp ts (k + 1)))), .ow 1 (.list ((rowsN ts (samp ts k) k c 0).map rowD)), .un, .un, .un, .un, .un, .un]) := iRange1_nat (v := .fz (.int c)) rfl rfl (by omega)
  have loop : ∀ (d j : Nat) (s3 s4 s5 s6 s7 s8 s9 s10 : Sl), j + d = c → (s3 = .fz (.list (tL (samp ts (k + 1)))) ∨ ∃ m, s3 = .ow m (.list (tL (samp ts (k + 1))))) → (s4 = .fz (.list ((rowsN ts (samp ts k) k c j).map rowD)) ∨ ∃ m, s4 = .ow m (.list ((rowsN ts (samp ts k) k c j).map rowD))) →
      ∃ s3' s4' s5' s6' s7' s8' s9' s10', forL (gNm 5) fPlace ((List.range' j d).map fun i => .int ((i : Nat) : Int)) [.fz (.list (tL ts)), .fz (.int c), .fz (.int k), s3, s4, s5, s6, s7, s8, s9, s10] = .nx [.fz (.list (tL ts)), .fz (.int c), .fz (.int k), s3', s4', s5', s6', s7', s8', s9', s10'] ∧ (s4' = .fz (.list ((rowsN ts (samp ts k) k c c).map rowD)) ∨ ∃ m, s4' = .ow m (.list ((rowsN ts (samp ts k) k c c).map rowD))) := by
    intro d
    induction d with
    | zero =>
      intro j s3 s4 s5 s6 s7 s8 s9 s10 hj _ h4
      have e : j = c := by omega
      subst e
      exact ⟨s3, s4, s5, s6, s7, s8, s9, s10, rfl, h4⟩
    | succ d ih =>
      intro j s3 s4 s5 s6 s7 s8 s9 s10 hj h3 h4
      obtain ⟨s3a, s6a, s7a, s8a, s9a, s10a, h1, h3a⟩ := place_turn ts s3 s4 c k j (rowsN ts (samp ts k) k c j) s6 s7 s8 s9 s10 (by omega) h3 h4 (by omega) (fun q hq => by
        have := rows_inv hq
        exact ⟨by omega, this.2⟩) (hB (j + 1) (by omega))
      obtain ⟨s3', s4', s5', s6', s7', s8', s9', s10', h2, h5⟩ := ih (j + 1) s3a (.fz (.list ((rowsN ts (samp ts k) k c (j + 1)).map rowD))) (.fz (.int j)) s6a s7a s8a s9a s10a (by omega) h3a (.inl rfl)
      refine ⟨s3', s4', s5', s6', s7', s8', s9', s10', ?_, h5⟩
      rw [List.range'_succ, List.map_cons, forL_nx (e1 := [.fz (.list (tL ts)), .fz (.int c), .fz (.int k), s3, s4, .fz (.int j), s6, s7, s8, s9, s10]) rfl h1]
      exact h2
  obtain ⟨s3', s4', s5', s6', s7', s8', s9', s10', h6, hs⟩ := loop c 0 (.ow 1 (.list (tL (samp ts (k + 1))))) (.ow 1 (.list ((rowsN ts (samp ts k) k c 0).map rowD))) .un .un .un .un .un .un (by omega) (.inr ⟨1, rfl⟩) (.inr ⟨1, rfl⟩)
  have a7 : iSeq (eVar 4) [.fz (.list (tL ts)), .fz (.int c), .fz (.int k), s3', s4', s5', s6', s7', s8', s9', s10'] = .ok ((rowsN ts (samp ts k) k c c).map rowD, [.fz (.list (tL ts)), .fz (.int c), .fz (.int k), s3', .fz (.list ((rowsN ts (samp ts k) k c c).map rowD)), s5', s6', s7', s8', s9', s10']) := by
    rcases hs with rfl | ⟨q, rfl⟩ <;> rfl
  have hzz := hB c (Nat.le_refl _)
  obtain ⟨e8, c8, q8⟩ := eComp_all (n := 0) (f := eBin gIdx (eVar 7) (eC (.int 0))) (vs := [7]) (g := gNm 7) (y := fun d => match d with | .tuple [x, _] => x | _ => .none)
    (fun E => E = [.fz (.list (tL ts)), .fz (.int c), .fz (.int k), s3', .fz (.list ((rowsN ts (samp ts k) k c c).map rowD)), s5', s6', .un, s8', s9', s10']) a7 rfl (fun d hd E0 p0 => by
      obtain ⟨q, hq, rfl⟩ := List.mem_map.mp hd
      subst p0
      refine ⟨[.fz (.list (tL ts)), .fz (.int c), .fz (.int k), s3', .fz (.list ((rowsN ts (samp ts k) k c c).map rowD)), s5', s6', .fz (rowD q), s8', s9', s10'], .fz (.tuple (tL q.1)), [.fz (.list (tL ts)), .fz (.int c), .fz (.int k), s3', .fz (.list ((rowsN ts (samp ts k) k c c).map rowD)), s5', s6', .fz (rowD q), s8', s9', s10'], rfl, ?_, rfl, rfl⟩
      have g0 := gPair0 q
      generalize rowD q = RD at g0 ⊢
      simp [Rs.bind, Rs.of, Rs.out, eC, eBin, eUn, eArgs, aNil, aCons, sSeq, sSet, sIf, sRet, sExpr, sNx, sSetIx, ePk, tPk, tTru, pkVar, pkC, pkBin, pkUn, pkCall1, pkCall2, Sl.d?, Vl.d, Vl.sl, flatD, truthD, elt?, eMove, eVar, gNm, sAug, g0]) (by rw [List.length_map, sizeLine_eq]; omega)
  have l8 : (((rowsN ts (samp ts k) k c c).map rowD).map fun (d : D) => (match d with | .tuple [x, _] => x | _ => .none : D)) = (rowsN ts (samp ts k) k c c).map fun q => .tuple (tL q.1) := by
    rw [List.map_map]; rfl
  rw [l8] at c8
  subst q8
  have mk : ∀ (l : List Sl), mask [] 3 l = [.un, .un, .un] := fun _ => rfl
  have e : m_l_text_rows = sSeq (sSet 3 (eCall 3 g_l_fresh (aCons (eC (.str "v")) (aCons (eVar 0) (aCons (eBin gAdd (eVar 2) (eC (.int 1))) aNil))))) (sSeq (sSet 4 (eArgs gLst (aCons (eArgs gTup (aCons (eArgs gTup (aNil)) (aCons (eC (.int 0)) aNil))) aNil))) (sSeq (sFor (iRange1 (eVar 1)) (gNm 5) fPlace) (sRet (eComp 0 (iSeq (eVar 4)) (gNm 7) (tYesD) (eBin gIdx (eVar 7) (eC (.int 0))) [7])))) := rfl
  unfold g_l_text_rows
  rw [e, gDef_rt (e' := [.fz (.list (tL ts)), .fz (.int c), .fz (.int k), s3', .fz (.list ((rowsN ts (samp ts k) k c c).map rowD)), s5', s6', .un, s8', s9', s10']) (v := .ow 1 (.list ((rowsN ts (samp ts k) k c c).map fun q => .tuple (tL q.1)))), mk]
  exact (sSeq_nx a1).trans ((sSeq_nx a2).trans ((sSeq_nx ((sFor_ok a3).trans h6)).trans (sRet_ok c8)))
end K79


set_option Elab.async false
set_option linter.all false
set_option maxRecDepth 100000
set_option maxHeartbeats 1000000
namespace K79
open PySem PySem.Spec PyProof.Rows L2 VS
def fsum (f : Nat → Int) : Nat → Int
  | 0 => 0
  | k + 1 => fsum f k + f k
theorem fsum_le {f g : Nat → Int} : ∀ {k : Nat}, (∀ j, j < k → f j ≤ g j) → fsum f k ≤ fsum g k
  | 0, _ => Int.le_refl _
  | k + 1, h => Int.add_le_add (fsum_le fun j hj => h j (by omega)) (h k (by omega))
theorem fsum_eq {f g : Nat → Int} : ∀ {k : Nat}, (∀ j, j < k → f j = g j) → fsum f k = fsum g k
  | 0, _ => rfl
  | k + 1, h => by
    show fsum f k + f k = fsum g k + g k
    rw [fsum_eq fun j hj => h j (by omega), h k (by omega)]
theorem fsum_add {f g : Nat → Int} : ∀ {k : Nat}, fsum (fun j => f j + g j) k = fsum f k + fsum g k
  | 0 => rfl
  | k + 1 => by
    show fsum (fun j => f j + g j) k + (f k + g k) = fsum f k + f k + (fsum g k + g k)
    rw [fsum_add]; omega
theorem fsum_zero : ∀ {k : Nat}, fsum (fun _ => 0) k = 0
  | 0 => rfl
  | k + 1 => by
    show fsum (fun _ => 0) k + 0 = 0
    rw [fsum_zero]; rfl
theorem fsum_shift {f : Nat → Int} : ∀ {k : Nat}, fsum (fun j => if j = 0 then 0 else f (j - 1)) (k + 1) = fsum f k
  | 0 => rfl
  | k + 1 => by
    show fsum (fun j => if j = 0 then 0 else f (j - 1)) (k + 1) + (if k + 1 = 0 then 0 else f (k + 1 - 1)) = fsum f k + f k
    rw [fsum_shift]; rfl
theorem fsum_one {a : Nat} : ∀ {k : Nat}, fsum (fun j => if a = j then 1 else 0) k = if a < k then 1 else 0
  | 0 => rfl
  | k + 1 => by
    show fsum (fun j => if a = j then 1 else 0) k + (if a = k then 1 else 0) = _
    rw [fsum_one]
    repeat' split
    all_goals omega
theorem ways_nn (n : Nat) : ∀ (c : Nat), ∀ j : Nat, 0 ≤ (ways n c).getD j 0
  | 0, j => by
    cases j <;> simp [ways]
  | c + 1, j => by
    by_cases h : j < (ways n c).length + 1
    · show 0 ≤ (wstep n (ways n c)).getD j 0
      rw [wstep_getD _ _ h]
      have a := ways_nn n c j
      have b := ways_nn n c (j - 1)
      have : 0 ≤ ((n : Int) + j) * (ways n c).getD j 0 := Int.mul_nonneg (by omega) a
      split <;> omega
    · show 0 ≤ (wstep n (ways n c)).getD j 0
      rw [List.getD_eq_getElem?_getD, List.getElem?_eq_none (by rw [wstep_len]; omega)]
      exact Int.le_refl _
def tot (n : Nat) (p : Nat) : Int := fsum (fun j => (ways n p).getD j 0) (p + 1)
theorem tot_up (n p : Nat) : tot n p ≤ tot n (p + 1) := by
  unfold tot
  rw [← fsum_shift (f := fun j => (ways n p).getD j 0)]
  refine fsum_le fun j hj => ?_
  show _ ≤ (wstep n (ways n p)).getD j 0
  rw [wstep_getD _ _ (by rw [ways_len]; omega)]
  have : 0 ≤ ((n : Int) + j) * (ways n p).getD j 0 := Int.mul_nonneg (by omega) (ways_nn n p j)
  omega
theorem tot_mono (n p : Nat) : ∀ d, tot n p ≤ tot n (p + d)
  | 0 => Int.le_refl _
  | d + 1 => Int.le_trans (tot_mono n p d) (tot_up n (p + d))
theorem fsum_front {f : Nat → Int} : ∀ {k : Nat}, fsum f (k + 1) = f 0 + fsum (fun j => f (j + 1)) k
  | 0 => by show 0 + f 0 = f 0 + 0; omega
  | k + 1 => by
    show fsum f (k + 1) + f (k + 1) = f 0 + (fsum (fun j => f (j + 1)) k + f (k + 1))
    rw [fsum_front]; omega
theorem sum_getD : ∀ (w : List Int), w.sum = fsum (fun j => w.getD j 0) w.length
  | [] => rfl
  | a :: w => by
    rw [List.length_cons, fsum_front, List.sum_cons, sum_getD w]
    rfl
def cnt (rs : List Row) (j : Nat) : Int := rs.countP fun q => q.2 == j
theorem cnt_cons (q : Row) (rs : List Row) (j : Nat) : cnt (q :: rs) j = cnt rs j + (if q.2 = j then 1 else 0) := by
  unfold cnt
  rw [List.countP_cons]
  by_cases h : q.2 = j <;> simp [h]
theorem cnt_app (a b : List Row) (j : Nat) : cnt (a ++ b) j = cnt a j + cnt b j := by
  unfold cnt
  rw [List.countP_append]; omega
theorem cnt_len : ∀ (rs : List Row) (K : Nat), (∀ q ∈ rs, q.2 < K) → (rs.length : Int) = fsum (cnt rs) K
  | [], K, _ => by
    have : cnt [] = fun _ => 0 := rfl
    rw [this, fsum_zero]; rfl
  | q :: rs, K, h => by
    have e : cnt (q :: rs) = fun j => cnt rs j + (if q.2 = j then 1 else 0) := funext fun j => cnt_cons q rs j
    rw [e, fsum_add, ← cnt_len rs K fun x hx => h x (List.mem_cons_of_mem _ hx), fsum_one, if_pos (h q (List.mem_cons_self ..))]
    simp
theorem ext_cnt (ts sm : List Str) (k left : Nat) (q : Row) (j : Nat) : cnt (ext ts sm k left q) j ≤ (if q.2 = j then (ts.length : Int) + j else 0) + (if q.2 + 1 = j then 1 else 0) := by
  unfold ext
  rw [cnt_app]
  refine Int.add_le_add ?_ ?_
  · split
    · by_cases h : q.2 = j
      · rw [if_pos h]
        unfold cnt
        refine Int.le_trans (Int.ofNat_le.mpr List.countP_le_length) ?_
        rw [List.length_map, List.length_append, List.length_take]
        omega
      · rw [if_neg h]
        unfold cnt
        rw [List.countP_eq_zero.mpr]
        · exact Int.le_refl _
        · intro a ha
          obtain ⟨t, _, rfl⟩ := List.mem_map.mp ha
          simpa using h
    · show (0 : Int) ≤ _
      split <;> omega
  · split
    · rw [cnt_cons]
      show (0 : Int) + (if q.2 + 1 = j then 1 else 0) ≤ _
      rw [Int.zero_add]; exact Int.le_refl _
    · show (0 : Int) ≤ _
      split <;> omega
theorem flat_cnt (ts sm : List Str) (k left : Nat) (j : Nat) : ∀ (rs : List Row), cnt (rs.flatMap (ext ts sm k left)) j ≤ ((ts.length : Int) + j) * cnt rs j + (if j = 0 then 0 else cnt rs (j - 1))
  | [] => by
    show (0 : Int) ≤ _ * 0 + (if j = 0 then 0 else 0)
    split <;> omega
  | q :: rs => by
    have ih := flat_cnt ts sm k left j rs
    have e1 := ext_cnt ts sm k left q j
    rw [List.flatMap_cons, cnt_app, cnt_cons, cnt_cons]
    generalize cnt (rs.flatMap (ext ts sm k left)) j = A at ih ⊢
    generalize cnt (ext ts sm k left q) j = B at e1 ⊢
    generalize cnt rs j = C at ih ⊢
    generalize cnt rs (j - 1) = D at ih ⊢
    have m : ((ts.length : Int) + j) * (C + (if q.2 = j then 1 else 0)) = ((ts.length : Int) + j) * C + (if q.2 = j then (ts.length : Int) + j else 0) := by
      rw [Int.mul_add]
      split <;> simp
    rw [m]
    generalize ((ts.length : Int) + j) * C = M at ih ⊢
    by_cases h0 : j = 0
    · rw [if_pos h0] at ih ⊢
      rw [if_neg (show ¬ q.2 + 1 = j by omega)] at e1
      omega
    · rw [if_neg h0] at ih ⊢
      have e2 : (if q.2 + 1 = j then (1 : Int) else 0) = if q.2 = j - 1 then 1 else 0 := by
        by_cases h : q.2 + 1 = j
        · rw [if_pos h, if_pos (by omega)]
        · rw [if_neg h, if_neg (by omega)]
      rw [e2] at e1
      omega
theorem rows_cnt (ts sm : List Str) (k c : Nat) : ∀ (p j : Nat), cnt (rowsN ts sm k c p) j ≤ (ways ts.length p).getD j 0
  | 0, j => by
    cases j with
    | zero => simp [rowsN, cnt, ways]
    | succ j => simp [rowsN, cnt, ways]
  | p + 1, j => by
    have h := flat_cnt ts sm k (c - 1 - p) j (rowsN ts sm k c p)
    by_cases hj : j < (ways ts.length p).length + 1
    · show _ ≤ (wstep ts.length (ways ts.length p)).getD j 0
      rw [wstep_getD _ _ hj]
      refine Int.le_trans h (Int.add_le_add (Int.mul_le_mul_of_nonneg_left (rows_cnt ts sm k c p j) (by omega)) ?_)
      split
      · exact Int.le_refl _
      · exact rows_cnt ts sm k c p (j - 1)
    · have z : ∀ i, (ways ts.length p).length ≤ i → cnt (rowsN ts sm k c p) i ≤ 0 := fun i hi => by
        have := rows_cnt ts sm k c p i
        rw [List.getD_eq_getElem?_getD, List.getElem?_eq_none hi] at this
        exact this
      refine Int.le_trans h ?_
      have z0 : cnt (rowsN ts sm k c p) j = 0 := Int.le_antisymm (z j (by omega)) (Int.natCast_nonneg _)
      have z1 := z (j - 1) (by omega)
      have nn := ways_nn ts.length (p + 1) j
      rw [z0]
      split <;> omega
theorem rows_used (ts sm : List Str) (k c : Nat) : ∀ (p : Nat) (q : Row), q ∈ rowsN ts sm k c p → q.2 < p + 1
  | 0, q, h => by
    have e := List.mem_singleton.mp h
    subst e
    exact Nat.zero_lt_one
  | p + 1, q, h => by
    obtain ⟨q0, h0, h1⟩ := List.mem_flatMap.mp h
    have a := rows_used ts sm k c p q0 h0
    unfold ext at h1
    rcases List.mem_append.mp h1 with h | h
    · split at h
      · obtain ⟨t, _, rfl⟩ := List.mem_map.mp h
        show q0.2 < _
        omega
      · cases h
    · split at h
      · have e := List.mem_singleton.mp h
        subst e
        show q0.2 + 1 < _
        omega
      · cases h
theorem rows_len (ts sm : List Str) (k c p : Nat) (hp : p ≤ c) : ((rowsN ts sm k c p).length : Int) ≤ (ways ts.length c).sum := by
  rw [cnt_len _ (p + 1) (rows_used ts sm k c p), sum_getD, ways_len]
  refine Int.le_trans (fsum_le fun j _ => rows_cnt ts sm k c p j) ?_
  have := tot_mono ts.length p (c - p)
  rw [show p + (c - p) = c by omega] at this
  exact this
/-- the last rows use all samples -/
theorem rows_all_used (ts sm : List Str) (k c : Nat) : ∀ (p : Nat), p ≤ c → ∀ q ∈ rowsN ts sm k c p, k ≤ c → k ≤ q.2 + (c - p)
  | 0, hp, q, h, hk => by omega
  | p + 1, hp, q, h, hk => by
    obtain ⟨q0, h0, h1⟩ := List.mem_flatMap.mp h
    have a := rows_all_used ts sm k c p (by omega) q0 h0 hk
    unfold ext at h1
    rcases List.mem_append.mp h1 with h | h
    · split at h
      · obtain ⟨t, _, rfl⟩ := List.mem_map.mp h
        show k ≤ q0.2 + _
        omega
      · cases h
    · split at h
      · have e := List.mem_singleton.mp h
        subst e
        show k ≤ q0.2 + 1 + _
        omega
      · cases h
theorem rows_last (ts sm : List Str) (k c : Nat) (hk : k ≤ c) (h : ¬ 300 < (ways ts.length c).getD k 0) : (rowsN ts sm k c c).length ≤ 300 := by
  have e : ((rowsN ts sm k c c).length : Int) = cnt (rowsN ts sm k c c) k := by
    unfold cnt
    rw [List.countP_eq_length.mpr]
    intro q hq
    have a := rows_all_used ts sm k c c (Nat.le_refl _) q hq hk
    have b := rows_inv hq
    simp only [beq_iff_eq]
    omega
  have := rows_cnt ts sm k c c k
  omega
end K79


set_option Elab.async false
set_option linter.all false
set_option maxRecDepth 100000
set_option maxHeartbeats 1000000
namespace K79
open PySem PySem.Spec PyProof.Rows L2 VS
theorem same_all (ds : List D) (hl : (PyData.tuple ds).layable0 = true) (hi : (PyData.tuple ds).intsShort 13 = true) (hs : (PyData.tuple ds).showable = true) (hd : (PyData.tuple ds).depth ≤ 60) : g_l_same [.fz (.tuple ds), .fz (.tuple ds)] = .ok (.fz (.bool true), [.un, .un]) := by
  obtain ⟨h1, h2, h3⟩ := same_data hl hi hs hd
  have kt : kitB "tuple" "tuple" = some true := by decide +kernel
  have kb : kitB "tuple" "bool" = some false := by decide +kernel
  have t0 : eIsi "tuple" (eVar 0) [.fz (.tuple ds), .fz (.tuple ds)] = .ok (.fz (.bool true), [.fz (.tuple ds), .fz (.tuple ds)]) := isi_of rfl kt rfl rfl
  have t1 : eIsi "tuple" (eVar 1) [.fz (.tuple ds), .fz (.tuple ds)] = .ok (.fz (.bool true), [.fz (.tuple ds), .fz (.tuple ds)]) := isi_of rfl kt rfl rfl
  have b0 : eIsi "bool" (eVar 0) [.fz (.tuple ds), .fz (.tuple ds)] = .ok (.fz (.bool false), [.fz (.tuple ds), .fz (.tuple ds)]) := isi_of rfl kb rfl rfl
  have b1 : eIsi "bool" (eVar 1) [.fz (.tuple ds), .fz (.tuple ds)] = .ok (.fz (.bool false), [.fz (.tuple ds), .fz (.tuple ds)]) := isi_of rfl kb rfl rfl
  have a1 : tOrD (tTru (eBin gNe (eIsi "tuple" (eVar 0)) (eIsi "tuple" (eVar 1)))) (tTru (eBin gNe (eIsi "bool" (eVar 0)) (eIsi "bool" (eVar 1)))) [.fz (.tuple ds), .fz (.tuple ds)] = .ok (false, [.fz (.tuple ds), .fz (.tuple ds)]) := by
    simp [Rs.bind, Rs.of, Rs.out, eC, eBin, eUn, eArgs, aNil, aCons, sSeq, sSet, sIf, sRet, sExpr, sNx, sSetIx, ePk, tPk, tTru, pkVar, pkC, pkBin, pkUn, pkCall1, pkCall2, Sl.d?, Vl.d, Vl.sl, flatD, truthD, elt?, eMove, eVar, gNm, sAug, tOrD, t0, t1, b0, b1, gNe_bb]
  have a2 : sRet (eAnd (eBin gEq (eVar 0) (eVar 1)) (eBin gEq (eArgs gRepr (aCons (eVar 0) aNil)) (eArgs gRepr (aCons (eVar 1) aNil)))) [.fz (.tuple ds), .fz (.tuple ds)] = .rt (.fz (.bool true)) [.fz (.tuple ds), .fz (.tuple ds)] := by
    generalize PyData.tuple ds = d at h1 h2 h3 ⊢
    generalize d.shown = z at h2 h3
    simp [Rs.bind, Rs.of, Rs.out, eC, eBin, eUn, eArgs, aNil, aCons, sSeq, sSet, sIf, sRet, sExpr, sNx, sSetIx, ePk, tPk, tTru, pkVar, pkC, pkBin, pkUn, pkCall1, pkCall2, Sl.d?, Vl.d, Vl.sl, flatD, truthD, elt?, eMove, eVar, gNm, sAug, eAnd, h1, h2, h3]
  have mk : ∀ (l : List Sl), mask [] 2 l = [.un, .un] := fun _ => rfl
  unfold g_l_same
  rw [gDef_rt (e' := [.fz (.tuple ds), .fz (.tuple ds)]) (v := .fz (.bool true)), mk]
  unfold m_l_same
  exact (sSeq_nx (sIf_f a1)).trans a2
theorem told_rows (ts : List Str) (c k : Nat) (d : D) {e' : En} (h : g_text_rows [.fz (.tuple (tL ts)), .fz (.int c), .fz (.int k)] = .ok (.fz d, e')) : g_l_told [.fz (.tuple (tL ts)), .fz (.int c), .fz (.int k)] = .ok (.fz d, [.un, .un, .un]) := by
  have a0 : (aCons (eVar 0) (aCons (eVar 1) (aCons (eVar 2) aNil))) [.fz (.tuple (tL ts)), .fz (.int c), .fz (.int k), .un] = .ok ([.tuple (tL ts), .int c, .int k], [.fz (.tuple (tL ts)), .fz (.int c), .fz (.int k), .un]) := rfl
  have a1 : eCall 3 g_text_rows (aCons (eVar 0) (aCons (eVar 1) (aCons (eVar 2) aNil))) [.fz (.tuple (tL ts)), .fz (.int c), .fz (.int k), .un] = .ok (.fz d, [.fz (.tuple (tL ts)), .fz (.int c), .fz (.int k), .un]) := eCall_ok a0 rfl h
  have mk : ∀ (l : List Sl), mask [] 3 l = [.un, .un, .un] := fun _ => rfl
  unfold g_l_told
  rw [gDef_rt (e' := [.fz (.tuple (tL ts)), .fz (.int c), .fz (.int k), .un]) (v := .fz d), mk]
  unfold m_l_told
  exact sTryAs_rt (sRet_ok a1)
theorem told_x (W : Int) : xTup (xCons (xC (.str "many")) (xCons (xF "count") (xCons (andX (xIs true) (xIs true)) (xNil)))) [("count", .int W)] = some (.tuple [.str "many", .int W, .bool true]) := by
  have s3 : ([.str "many", .int W, .bool true] : List D).length ≤ sizeLine := small_line (by show 3 ≤ 100000; decide)
  have l1 : xF "count" [("count", .int W)] = some (.int W) := rfl
  have l2 : andX (xIs true) (xIs true) [("count", .int W)] = some (.bool true) := rfl
  have l3 : (xCons (xC (.str "many")) (xCons (xF "count") (xCons (andX (xIs true) (xIs true)) (xNil)))) [("count", .int W)] = some [.str "many", .int W, .bool true] := by
    generalize ([("count", .int W)] : List (Str × D)) = fs at l1 l2 ⊢
    show ((some _).bind fun y => Option.map _ ((xF "count" fs).bind fun y => Option.map _ ((andX (xIs true) (xIs true) fs).bind fun y => Option.map _ (some [])))) = _
    rw [l1, l2]; rfl
  show ((xCons (xC (.str "many")) (xCons (xF "count") (xCons (andX (xIs true) (xIs true)) (xNil)))) [("count", .int W)]).bind _ = _
  rw [l3]
  exact (if_pos s3 : (if ([.str "many", .int W, .bool true] : List D).length ≤ sizeLine then some (PyData.tuple [.str "many", .int W, .bool true]) else none) = _)
theorem told_many (ts : List Str) (c k : Nat) (W : Int) {e' : En} (h : g_text_rows [.fz (.tuple (tL ts)), .fz (.int c), .fz (.int k)] = .exc "TooManyCases" [("count", .int W)] e') : g_l_told [.fz (.tuple (tL ts)), .fz (.int c), .fz (.int k)] = .ok (.fz (.tuple [.str "many", .int W, .bool true]), [.un, .un, .un]) := by
  have a0 : (aCons (eVar 0) (aCons (eVar 1) (aCons (eVar 2) aNil))) [.fz (.tuple (tL ts)), .fz (.int c), .fz (.int k), .un] = .ok ([.tuple (tL ts), .int c, .int k], [.fz (.tuple (tL ts)), .fz (.int c), .fz (.int k), .un]) := rfl
  have a1 : eCall 3 g_text_rows (aCons (eVar 0) (aCons (eVar 1) (aCons (eVar 2) aNil))) [.fz (.tuple (tL ts)), .fz (.int c), .fz (.int k), .un] = .exc "TooManyCases" [("count", .int W)] [.fz (.tuple (tL ts)), .fz (.int c), .fz (.int k), .un] := eCall_exc a0 rfl h
  have mk : ∀ (l : List Sl), mask [] 3 l = [.un, .un, .un] := fun _ => rfl
  unfold g_l_told
  rw [gDef_rt (e' := [.fz (.tuple (tL ts)), .fz (.int c), .fz (.int k), .un]) (v := .fz (.tuple [.str "many", .int W, .bool true])), mk]
  unfold m_l_told
  exact sTryAs_exc (sRet_exc a1) (told_x W)
end K79


set_option Elab.async false
set_option linter.all false
set_option maxRecDepth 100000
set_option maxHeartbeats 1000000
namespace K79
open PySem PySem.Spec PyProof.Rows L2 VS
def menuS : List Str := ["", "v1", "v2", "c1", "b", "v3", "x y", "null", "c2", "V1", "v10", "p1"]
def menuAt (R : Nat) : Str := menuS.getD (R % 12) Str.empty
def signS : Str := "~A0z"
def cut3 (R : Nat) : Str := cutS (menuAt R) none (some 3)
def sgn (R : Nat) : Str := ⟨#[signS.cps.toList.getD (R / 36 % 4) 0]⟩
def mulR (R : Nat) : Str := Txt.mul (sgn R) ((1 + R / 144 : Nat) : Int)
def longR (R : Nat) : Str := cut3 R ++ mulR R
theorem texts_chk : ((List.range 480).all fun R => (PyData.str (menuAt R)).canLay0 && (decide ((menuAt R).length ≤ 4) && ((PyData.str (longR R)).canLay0 && (decide ((longR R).length ≤ 40) && okMul (sgn R) ((1 + R / 144 : Nat) : Int))))) = true := by decide +kernel
theorem texts_ok {R : Nat} (h : R < 480) : (PyData.str (menuAt R)).canLay0 = true ∧ (menuAt R).length ≤ 4 ∧ (PyData.str (longR R)).canLay0 = true ∧ (longR R).length ≤ 40 ∧ okMul (sgn R) ((1 + R / 144 : Nat) : Int) = true := by
  have := List.all_eq_true.mp texts_chk R (List.mem_range.mpr h)
  simpa only [Bool.and_eq_true, decide_eq_true_eq] using this
def wS (k : Nat) : Str := ("w" : Str) ++ (toString ((k : Nat) : Int) : Str)
def sS (k : Nat) : Str := ("s" : Str) ++ (toString ((k : Nat) : Int) : Str)
theorem wS_chk : ((List.range 330).all fun R => (PyData.str (wS R)).canLay0 && (decide ((wS R).length ≤ 4) && ((PyData.str (sS R)).canLay0 && decide ((sS R).length ≤ 4)))) = true := by decide +kernel
theorem wS_ok {R : Nat} (h : R < 330) : (PyData.str (wS R)).canLay0 = true ∧ (wS R).length ≤ 4 ∧ (PyData.str (sS R)).canLay0 = true ∧ (sS R).length ≤ 4 := by
  have := List.all_eq_true.mp wS_chk R (List.mem_range.mpr h)
  simpa only [Bool.and_eq_true, decide_eq_true_eq] using this
theorem mod_nat {R k : Nat} (h : 0 < k) : gMod (.int R) (.int k) = some (.fz (.int ((R % k : Nat) : Int))) := by
  rw [gMod_ii (by omega)]; rfl
theorem div_nat {R k : Nat} (h : CDivB (k : Int) = true) : gFdiv (.int R) (.int k) = some (.fz (.int ((R / k : Nat) : Int))) := by
  rw [gFdiv_ii h]; rfl
theorem menu_ix (R : Nat) : gIdx (.list (tL menuS)) (.int ((R % 12 : Nat) : Int)) = some (.fz (.str (menuAt R))) := by
  refine gIdx_l (VS.atI_nat ?_)
  have h : R % 12 < menuS.length := Nat.mod_lt _ (by decide)
  unfold menuAt
  rw [tL, List.getElem?_map, List.getElem?_eq_getElem h, List.getD_eq_getElem?_getD, List.getElem?_eq_getElem h]
  rfl
theorem sign_ix (R : Nat) : gIdx (.str "~A0z") (.int ((R / 36 % 4 : Nat) : Int)) = some (.fz (.str (sgn R))) := by
  have h : R / 36 % 4 < signS.cps.toList.length := Nat.mod_lt _ (by decide)
  have hz : signS.length ≤ sizeLine := small_line (by decide)
  show (if signS.length ≤ sizeLine then (atI signS.cps.toList ((R / 36 % 4 : Nat) : Int)).map fun c => Vl.fz (.str ⟨#[c]⟩) else none) = _
  rw [if_pos hz, VS.atI_nat (List.getElem?_eq_getElem h)]
  unfold sgn
  rw [List.getD_eq_getElem?_getD, List.getElem?_eq_getElem h]
  rfl
abbrev T1 : Sv := sSet 5 (eLend 2 g_l_draw 0 (aCons (eC (.int 480)) aNil))
abbrev T2 : Sv := sSet 6 (eBin gIdx (eVar 2) (eBin gMod (eArgs gInt (aCons (eVar 5) aNil)) (eC (.int 12))))
abbrev T3t : Tv := tTru (eBin gEq (eBin gMod (eArgs gInt (aCons (eBin gFdiv (eVar 5) (eC (.int 12))) aNil)) (eC (.int 3))) (eC (.int 0)))
abbrev T3 : Sv := sSet 6 (eBin gAdd (eSlice (eVar 6) (pNo) (pSo (eC (.int 3)))) (eBin gMul (eBin gIdx (eC (.str "~A0z")) (eBin gMod (eArgs gInt (aCons (eBin gFdiv (eVar 5) (eC (.int 36))) aNil)) (eC (.int 4)))) (eBin gAdd (eC (.int 1)) (eArgs gInt (aCons (eBin gFdiv (eVar 5) (eC (.int 144))) aNil)))))
abbrev T4 : Sv := sIf (tPk (pkBin gIn (pkVar 6) (pkVar 3))) (sSet 6 (eBin gAdd (eC (.str "w")) (eArgs gStr (aCons (eVar 4) aNil)))) (sNx)
abbrev T5 : Sv := sExpr (eAppend 3 (eVar 6))
abbrev TB : Sv := sSeq T1 <| sSeq T2 <| sSeq (sIf T3t T3 sNx) <| sSeq T4 T5
theorem t2_ok (T m s4 s6 : Sl) (fs : D) (s2 : Sl) (R : Nat) (h2 : s2 = .fz (.list (tL menuS)) ∨ ∃ q, s2 = .ow q (.list (tL menuS))) :
    T2 [T, m, s2, .ow 1 fs, s4, .fz (.int R), s6] = .nx [T, m, .fz (.list (tL menuS)), .ow 1 fs, s4, .fz (.int R), .fz (.str (menuAt R))] := by
  have g1 : gMod (.int R) (.int 12) = some (.fz (.int ((R % 12 : Nat) : Int))) := mod_nat (k := 12) (by decide)
  have g2 := menu_ix R
  generalize tL menuS = M at h2 g2 ⊢
  generalize ((R % 12 : Nat) : Int) = I at g1 g2
  rcases h2 with rfl | ⟨q, rfl⟩ <;> simp [Rs.bind, Rs.of, Rs.out, eC, eBin, eUn, eArgs, aNil, aCons, sSeq, sSet, sIf, sRet, sExpr, sNx, sSetIx, ePk, tPk, tTru, pkVar, pkC, pkBin, pkUn, pkCall1, pkCall2, Sl.d?, Vl.d, Vl.sl, flatD, truthD, elt?, eMove, eVar, gNm, sAug, gInt_i, g1, g2]
theorem t3t_ok (T m s2 s4 s6 : Sl) (fs : D) (R : Nat) : T3t [T, m, s2, .ow 1 fs, s4, .fz (.int R), s6] = .ok (((R / 12 % 3 : Nat) : Int) == 0, [T, m, s2, .ow 1 fs, s4, .fz (.int R), s6]) := by
  have g1 : gFdiv (.int R) (.int 12) = some (.fz (.int ((R / 12 : Nat) : Int))) := div_nat (k := 12) (by decide)
  have g2 : gMod (.int ((R / 12 : Nat) : Int)) (.int 3) = some (.fz (.int ((R / 12 % 3 : Nat) : Int))) := mod_nat (k := 3) (by decide)
  generalize ((R / 12 : Nat) : Int) = A at g1 g2
  generalize ((R / 12 % 3 : Nat) : Int) = B at g2 ⊢
  simp [Rs.bind, Rs.of, Rs.out, eC, eBin, eUn, eArgs, aNil, aCons, sSeq, sSet, sIf, sRet, sExpr, sNx, sSetIx, ePk, tPk, tTru, pkVar, pkC, pkBin, pkUn, pkCall1, pkCall2, Sl.d?, Vl.d, Vl.sl, flatD, truthD, elt?, eMove, eVar, gNm, sAug, gInt_i, g1, g2, gEq_ii]
theorem t3_ok (T m s2 s4 : Sl) (fs : D) (R : Nat) (hR : R < 480) : T3 [T, m, s2, .ow 1 fs, s4, .fz (.int R), .fz (.str (menuAt R))] = .nx [T, m, s2, .ow 1 fs, s4, .fz (.int R), .fz (.str (longR R))] := by
  obtain ⟨k1, k2, k3, k4, k5⟩ := texts_ok hR
  have g1 : gFdiv (.int R) (.int 36) = some (.fz (.int ((R / 36 : Nat) : Int))) := div_nat (k := 36) (by decide)
  have g2 : gMod (.int ((R / 36 : Nat) : Int)) (.int 4) = some (.fz (.int ((R / 36 % 4 : Nat) : Int))) := mod_nat (k := 4) (by decide)
  have g3 := sign_ix R
  have g4 : gFdiv (.int R) (.int 144) = some (.fz (.int ((R / 144 : Nat) : Int))) := div_nat (k := 144) (by decide)
  have g5 : gAdd (.int 1) (.int ((R / 144 : Nat) : Int)) = some (.fz (.int ((1 + R / 144 : Nat) : Int))) := by
    rw [gAdd_ii, Int.natCast_add]; rfl
  have g6 : gMul (.str (sgn R)) (.int ((1 + R / 144 : Nat) : Int)) = some (.fz (.str (mulR R))) := gMul_si k5
  have g7 : gSlice (.str (menuAt R)) none (some 3) = some (.fz (.str (cut3 R))) := if_pos (small_line (by omega))
  have g8 : gAdd (.str (cut3 R)) (.str (mulR R)) = some (.fz (.str (longR R))) := gAdd_ss (by
    unfold longR at k4
    rw [Str.length_append] at k4
    exact small_line (by omega))
  generalize ((R / 36 : Nat) : Int) = A at g1 g2
  generalize ((R / 36 % 4 : Nat) : Int) = B at g2 g3
  generalize ((R / 144 : Nat) : Int) = C at g4 g5
  generalize ((1 + R / 144 : Nat) : Int) = E at g5 g6
  generalize sgn R = S at g3 g6
  generalize mulR R = M at g6 g8
  generalize cut3 R = U at g7 g8
  generalize menuAt R = N at g7 ⊢
  generalize longR R = L at g8 ⊢
  simp [Rs.bind, Rs.of, Rs.out, eC, eBin, eUn, eArgs, aNil, aCons, sSeq, sSet, sIf, sRet, sExpr, sNx, sSetIx, ePk, tPk, tTru, pkVar, pkC, pkBin, pkUn, pkCall1, pkCall2, Sl.d?, Vl.d, Vl.sl, flatD, truthD, elt?, eMove, eVar, gNm, sAug, eSlice, pNo, pSo, gInt_i, g1, g2, g3, g4, g5, g6, g7, g8]
theorem t4_ok (T m s2 s5 : Sl) (fs : List Str) (hf : tOk fs) (k : Nat) (hk : k < 330) (x : Str) (hx : (PyData.str x).canLay0 = true) : T4 [T, m, s2, .ow 1 (.list (tL fs)), .fz (.int k), s5, .fz (.str x)] = .nx [T, m, s2, .ow 1 (.list (tL fs)), .fz (.int k), s5, .fz (.str (if inT fs x = true then wS k else x))] := by
  have g1 := in_lst hf hx
  have a1 : tPk (pkBin gIn (pkVar 6) (pkVar 3)) [T, m, s2, .ow 1 (.list (tL fs)), .fz (.int k), s5, .fz (.str x)] = .ok (inT fs x, [T, m, s2, .ow 1 (.list (tL fs)), .fz (.int k), s5, .fz (.str x)]) := by
    generalize PyData.list (tL fs) = M at g1 ⊢
    generalize inT fs x = b at g1 ⊢
    simp [Rs.bind, Rs.of, Rs.out, eC, eBin, eUn, eArgs, aNil, aCons, sSeq, sSet, sIf, sRet, sExpr, sNx, sSetIx, ePk, tPk, tTru, pkVar, pkC, pkBin, pkUn, pkCall1, pkCall2, Sl.d?, Vl.d, Vl.sl, flatD, truthD, elt?, eMove, eVar, gNm, sAug, g1]
  cases h : inT fs x with
  | false =>
    rw [h] at a1
    rw [if_neg (by simp)]
    exact sIf_f a1
  | true =>
    rw [h] at a1
    rw [if_pos rfl]
    refine (sIf_t a1).trans ?_
    have w := wS_ok hk
    have g2 := gStr_nat (i := k) (by omega)
    have g3 : gAdd (.str "w") (.str (toString ((k : Nat) : Int))) = some (.fz (.str (wS k))) := gAdd_ss (by
      have := w.2.1
      unfold wS at this
      rw [Str.length_append] at this
      exact small_line (by omega))
    generalize Str.ofString (toString (k : Int)) = S at g2 g3
    generalize wS k = Wk at g3 ⊢
    simp [Rs.bind, Rs.of, Rs.out, eC, eBin, eUn, eArgs, aNil, aCons, sSeq, sSet, sIf, sRet, sExpr, sNx, sSetIx, ePk, tPk, tTru, pkVar, pkC, pkBin, pkUn, pkCall1, pkCall2, Sl.d?, Vl.d, Vl.sl, flatD, truthD, elt?, eMove, eVar, gNm, sAug, g2, g3]
theorem t5_ok (T m s2 s4 s5 : Sl) (fs : List Str) (hf : fs.length ≤ 1000) (x : Str) : T5 [T, m, s2, .ow 1 (.list (tL fs)), s4, s5, .fz (.str x)] = .nx [T, m, s2, .ow 1 (.list (tL (fs ++ [x]))), s4, s5, .fz (.str x)] := by
  have hl : (tL fs).length < sizeLine := by
    rw [tL, List.length_map, sizeLine_eq]; omega
  have e : tL (fs ++ [x]) = tL fs ++ [.str x] := by simp [tL]
  rw [e]
  generalize tL fs = M at hl ⊢
  simp [Rs.bind, Rs.of, Rs.out, eC, eBin, eUn, eArgs, aNil, aCons, sSeq, sSet, sIf, sRet, sExpr, sNx, sSetIx, ePk, tPk, tTru, pkVar, pkC, pkBin, pkUn, pkCall1, pkCall2, Sl.d?, Vl.d, Vl.sl, flatD, truthD, elt?, eMove, eVar, gNm, sAug, eAppend, hl]
theorem tb_ok (ns : List Int) (p : Nat) (h t : Int) (m s5 s6 s2 : Sl) (fs : List Str) (hf : tOk fs) (hl : fs.length ≤ 1000) (k : Nat) (hk : k < 330) (h2 : s2 = .fz (.list (tL menuS)) ∨ ∃ q, s2 = .ow q (.list (tL menuS))) :
    ∃ p' h' t' r x, tOk (fs ++ [x]) ∧ TB [.ow 1 (tape ns p h t), m, s2, .ow 1 (.list (tL fs)), .fz (.int k), s5, s6] = .nx [.ow 1 (tape ns p' h' t'), m, .fz (.list (tL menuS)), .ow 1 (.list (tL (fs ++ [x]))), .fz (.int k), r, .fz (.str x)] := by
  obtain ⟨r, p', h', t', r0, r1, hd⟩ := draw_all ns p h t 480 (by decide)
  obtain ⟨R, rfl⟩ := Int.eq_ofNat_of_zero_le r0
  have hR : R < 480 := by
    have : max (480 : Int) 1 = 480 := by decide
    omega
  obtain ⟨k1, k2, k3, k4, _⟩ := texts_ok hR
  have a1 : T1 [.ow 1 (tape ns p h t), m, s2, .ow 1 (.list (tL fs)), .fz (.int k), s5, s6] = .nx [.ow 1 (tape ns p' h' t'), m, s2, .ow 1 (.list (tL fs)), .fz (.int k), .fz (.int R), s6] := by
    have a0 : (aCons (eC (.int 480)) aNil) [.ow 1 (tape ns p h t), m, s2, .ow 1 (.list (tL fs)), .fz (.int k), s5, s6] = .ok ([.int 480], [.ow 1 (tape ns p h t), m, s2, .ow 1 (.list (tL fs)), .fz (.int k), s5, s6]) := rfl
    exact sSet_ok (k := 5) (eLend_ok (n0 := 1) (n := 1) rfl a0 rfl rfl hd) (by show 5 < 7; decide)
  obtain ⟨y, hy1, hy2, a3⟩ : ∃ y : Str, (PyData.str y).canLay0 = true ∧ y.length ≤ 40 ∧ sIf T3t T3 sNx [.ow 1 (tape ns p' h' t'), m, .fz (.list (tL menuS)), .ow 1 (.list (tL fs)), .fz (.int k), .fz (.int R), .fz (.str (menuAt R))] = .nx [.ow 1 (tape ns p' h' t'), m, .fz (.list (tL menuS)), .ow 1 (.list (tL fs)), .fz (.int k), .fz (.int R), .fz (.str y)] := by
    have b := t3t_ok (.ow 1 (tape ns p' h' t')) m (.fz (.list (tL menuS))) (.fz (.int k)) (.fz (.str (menuAt R))) (.list (tL fs)) R
    cases hb : (((R / 12 % 3 : Nat) : Int) == 0) with
    | true =>
      rw [hb] at b
      exact ⟨longR R, k3, k4, (sIf_t b).trans (t3_ok _ _ _ _ _ R hR)⟩
    | false =>
      rw [hb] at b
      exact ⟨menuAt R, k1, by omega, sIf_f b⟩
  have w := wS_ok hk
  have hx : (PyData.str (if inT fs y = true then wS k else y)).canLay0 = true ∧ (if inT fs y = true then wS k else y).length ≤ 40 := by
    split
    · exact ⟨w.1, by omega⟩
    · exact ⟨hy1, hy2⟩
  refine ⟨p', h', t', .fz (.int R), (if inT fs y = true then wS k else y), ?_, ?_⟩
  · intro z hz
    rcases List.mem_append.mp hz with h | h
    · exact hf z h
    · rw [List.mem_singleton.mp h]; exact hx
  · exact (sSeq_nx a1).trans ((sSeq_nx (t2_ok _ _ _ _ _ _ R h2)).trans ((sSeq_nx a3).trans ((sSeq_nx (t4_ok _ _ _ _ fs hf k hk y hy1)).trans (t5_ok _ _ _ _ _ fs hl _))))
theorem texts_all (ns : List Int) (p : Nat) (h t : Int) (n : Nat) (hn : n ≤ 300) : ∃ p' h' t' xs, xs.length = n ∧ tOk xs ∧ g_l_texts [.ow 1 (tape ns p h t), .fz (.int n)] = .ok (.ow 1 (.list (tL xs)), [.ow 1 (tape ns p' h' t'), .un]) := by
  have loop : ∀ (d j : Nat) (p : Nat) (h t : Int) (s2 s4 s5 s6 : Sl) (fs : List Str), j + d ≤ 300 → fs.length = j → tOk fs → (s2 = .fz (.list (tL menuS)) ∨ ∃ q, s2 = .ow q (.list (tL menuS))) → ∃ p' h' t' s2' s4' s5' s6' xs, xs.length = j + d ∧ tOk xs ∧ forL (gNm 4) TB ((List.range' j d).map fun i => .int ((i : Nat) : Int)) [.ow 1 (tape ns p h t), .fz (.int n), s2, .ow 1 (.list (tL fs)), s4, s5, s6] = .nx [.ow 1 (tape ns p' h' t'), .fz (.int n), s2', .ow 1 (.list (tL xs)), s4', s5', s6'] := by
    intro d
    induction d with
    | zero => intro j p h t s2 s4 s5 s6 fs hj hl hf _; exact ⟨p, h, t, s2, s4, s5, s6, fs, hl, hf, rfl⟩
    | succ d ih =>
      intro j p h t s2 s4 s5 s6 fs hj hl hf h2
      obtain ⟨p', h', t', r, x, hx, hb⟩ := tb_ok ns p h t (.fz (.int n)) s5 s6 s2 fs hf (by omega) j (by omega) h2
      obtain ⟨p2, h2', t2, s2', s4', s5', s6', xs, q1, q2, q3⟩ := ih (j + 1) p' h' t' (.fz (.list (tL menuS))) (.fz (.int j)) r (.fz (.str x)) (fs ++ [x]) (by omega) (by rw [List.length_append, hl]; rfl) hx (.inl rfl)
      refine ⟨p2, h2', t2, s2', s4', s5', s6', xs, by omega, q2, ?_⟩
      rw [List.range'_succ, List.map_cons, forL_nx (e1 := [.ow 1 (tape ns p h t), .fz (.int n), s2, .ow 1 (.list (tL fs)), .fz (.int j), s5, s6]) rfl hb]
      exact q3
  have b1 : sSet 2 (eArgs gLst (aCons (eC (.str "")) (aCons (eC (.str "v1")) (aCons (eC (.str "v2")) (aCons (eC (.str "c1")) (aCons (eC (.str "b")) (aCons (eC (.str "v3")) (aCons (eC (.str "x y")) (aCons (eC (.str "null")) (aCons (eC (.str "c2")) (aCons (eC (.str "V1")) (aCons (eC (.str "v10")) (aCons (eC (.str "p1")) aNil))))))))))))) [.ow 1 (tape ns p h t), .fz (.int n), .un, .un, .un, .un, .un] = .nx [.ow 1 (tape ns p h t), .fz (.int n), .ow 1 (.list (tL menuS)), .un, .un, .un, .un] := by
    have g : gLst (tL menuS) = some (.ow 1 (.list (tL menuS))) := gLst_ok (small_line (by decide))
    have e : (aCons (eC (.str "")) (aCons (eC (.str "v1")) (aCons (eC (.str "v2")) (aCons (eC (.str "c1")) (aCons (eC (.str "b")) (aCons (eC (.str "v3")) (aCons (eC (.str "x y")) (aCons (eC (.str "null")) (aCons (eC (.str "c2")) (aCons (eC (.str "V1")) (aCons (eC (.str "v10")) (aCons (eC (.str "p1")) aNil)))))))))))) [.ow 1 (tape ns p h t), .fz (.int n), .un, .un, .un, .un, .un] = .ok (tL menuS, [.ow 1 (tape ns p h t), .fz (.int n), .un, .un, .un, .un, .un]) := rfl
    refine sSet_ok (k := 2) (v := .ow 1 (.list (tL menuS))) (e' := [.ow 1 (tape ns p h t), .fz (.int n), .un, .un, .un, .un, .un]) ?_ (by show 2 < 7; decide)
    unfold eArgs
    rw [e]
    generalize tL menuS = M at g ⊢
    simp only [Rs.bind, Rs.of, g]
  have b2 : sSet 3 (eArgs gLst (aNil)) [.ow 1 (tape ns p h t), .fz (.int n), .ow 1 (.list (tL menuS)), .un, .un, .un, .un] = .nx [.ow 1 (tape ns p h t), .fz (.int n), .ow 1 (.list (tL menuS)), .ow 1 (.list (tL [])), .un, .un, .un] := by
    have g : VS.gLst [] = some (.ow 1 (.list [])) := gLst_ok (Nat.zero_le _)
    simp [Rs.bind, Rs.of, Rs.out, eC, eBin, eUn, eArgs, aNil, aCons, sSeq, sSet, sIf, sRet, sExpr, sNx, sSetIx, ePk, tPk, tTru, pkVar, pkC, pkBin, pkUn, pkCall1, pkCall2, Sl.d?, Vl.d, Vl.sl, flatD, truthD, elt?, eMove, eVar, gNm, sAug, g, tL]
  have b3 : iRange1 (eVar 1) [.ow 1 (tape ns p h t), .fz (.int n), .ow 1 (.list (tL menuS)), .ow 1 (.list (tL [])), .un, .un, .un] = .ok ((List.range' 0 n).map fun i => .int ((i : Nat) : Int), [.ow 1 (tape ns p h t), .fz (.int n), .ow 1 (.list (tL menuS)), .ow 1 (.list (tL [])), .un, .un, .un]) := iRange1_nat (v := .fz (.int n)) rfl rfl (by omega)
  obtain ⟨p', h', t', s2', s4', s5', s6', xs, q1, q2, q3⟩ := loop n 0 p h t (.ow 1 (.list (tL menuS))) .un .un .un [] (by omega) rfl (fun _ hz => by cases hz) (.inr ⟨1, rfl⟩)
  refine ⟨p', h', t', xs, by omega, q2, ?_⟩
  have b4 : sRet (eMove 3) [.ow 1 (tape ns p' h' t'), .fz (.int n), s2', .ow 1 (.list (tL xs)), s4', s5', s6'] = .rt (.ow 1 (.list (tL xs))) [.ow 1 (tape ns p' h' t'), .fz (.int n), s2', .un, s4', s5', s6'] := rfl
  have mk : ∀ (a b c d e f g : Sl), mask [0] 2 [a, b, c, d, e, f, g] = [a, .un] := fun _ _ _ _ _ _ _ => rfl
  unfold g_l_texts
  rw [gDef_rt (e' := [.ow 1 (tape ns p' h' t'), .fz (.int n), s2', .un, s4', s5', s6']) (v := .ow 1 (.list (tL xs))), mk]
  unfold m_l_texts
  exact (sSeq_nx b1).trans ((sSeq_nx b2).trans ((sSeq_nx ((sFor_ok b3).trans q3)).trans b4))
end K79


set_option Elab.async false
set_option linter.all false
set_option maxRecDepth 100000
set_option maxHeartbeats 1000000
namespace K79
open PySem PySem.Spec PyProof.Rows L2 VS
theorem draw_lend (ns : List Int) (p : Nat) (h t : Int) (s0 s2 s3 s4 s5 s6 s7 s8 : Sl) {f : Ev} {m : Int} (hm : m ≤ 1000) (s2' : Sl) {v : Vl} (hv : v.d = .int m) (hf : f [s0, .ow 1 (tape ns p h t), s2, s3, s4, s5, s6, s7, s8] = .ok (v, [s0, .ow 1 (tape ns p h t), s2', s3, s4, s5, s6, s7, s8])) :
    ∃ r p' h' t', 0 ≤ r ∧ r < max m 1 ∧ eLend 2 g_l_draw 1 (aCons f aNil) [s0, .ow 1 (tape ns p h t), s2, s3, s4, s5, s6, s7, s8] = .ok (.fz (.int r), [s0, .ow 1 (tape ns p' h' t'), s2', s3, s4, s5, s6, s7, s8]) := by
  obtain ⟨r, p', h', t', r0, r1, hd⟩ := draw_all ns p h t m hm
  have a0 : (aCons f aNil) [s0, .ow 1 (tape ns p h t), s2, s3, s4, s5, s6, s7, s8] = .ok ([.int m], [s0, .ow 1 (tape ns p h t), s2', s3, s4, s5, s6, s7, s8]) := by
    unfold aCons aNil
    rw [hf]
    simp only [Rs.bind, hv]
  exact ⟨r, p', h', t', r0, r1, eLend_ok (n0 := 1) (n := 1) rfl a0 rfl rfl hd⟩
/-- one turn of the reducing loop -/
abbrev cTurn : Sv := sIf (tTru (eBin gGt (eArgs gSum (aCons (eCall 2 g_l_ways (aCons (eArgs gLen (aCons (eVar 2) aNil)) (aCons (eVar 3) aNil))) aNil)) (eC (.int 100000)))) (sSet 3 (eBin gSub (eVar 3) (eC (.int 1)))) (sNx)
theorem ints_of (ns : List Int) : intsOf (ns.map .int) = some ns := by
  induction ns with
  | nil => rfl
  | cons n ns ih =>
    show (intsOf (ns.map .int)).map (n :: ·) = _
    rw [ih]; rfl
theorem sum_ii (ns : List Int) : gSum [iList ns] = some (.fz (.int ns.sum)) := by
  show (intsOf (ns.map .int)).map _ = _
  rw [ints_of]; rfl
theorem len_any {s2 : Sl} {ts : List Str} (h : s2 = .fz (.list (tL ts)) ∨ ∃ q, s2 = .ow q (.list (tL ts))) (s0 s1 s3 s4 s5 s6 s7 s8 : Sl) : eArgs gLen (aCons (eVar 2) aNil) [s0, s1, s2, s3, s4, s5, s6, s7, s8] = .ok (.fz (.int ts.length), [s0, s1, .fz (.list (tL ts)), s3, s4, s5, s6, s7, s8]) := by
  rcases h with rfl | ⟨q, rfl⟩ <;> simp [Rs.bind, Rs.of, Rs.out, eC, eBin, eUn, eArgs, aNil, aCons, sSeq, sSet, sIf, sRet, sExpr, sNx, sSetIx, ePk, tPk, tTru, pkVar, pkC, pkBin, pkUn, pkCall1, pkCall2, Sl.d?, Vl.d, Vl.sl, flatD, truthD, elt?, eMove, eVar, gNm, sAug, gLen_l, tL]
theorem ways_call {s2 : Sl} {ts : List Str} (h : s2 = .fz (.list (tL ts)) ∨ ∃ q, s2 = .ow q (.list (tL ts))) (hl : ts.length ≤ 1000) (c : Nat) (hc : c ≤ 20) (s0 s1 s4 s5 s6 s7 s8 : Sl) : eCall 2 g_l_ways (aCons (eArgs gLen (aCons (eVar 2) aNil)) (aCons (eVar 3) aNil)) [s0, s1, s2, .fz (.int c), s4, s5, s6, s7, s8] = .ok (.fz (iList (ways ts.length c)), [s0, s1, .fz (.list (tL ts)), .fz (.int c), s4, s5, s6, s7, s8]) := by
  have a0 : (aCons (eArgs gLen (aCons (eVar 2) aNil)) (aCons (eVar 3) aNil)) [s0, s1, s2, .fz (.int c), s4, s5, s6, s7, s8] = .ok ([.int ts.length, .int c], [s0, s1, .fz (.list (tL ts)), .fz (.int c), s4, s5, s6, s7, s8]) := by
    show ((eArgs gLen (aCons (eVar 2) aNil)) [s0, s1, s2, .fz (.int c), s4, s5, s6, s7, s8]).bind _ = _
    rw [len_any h]; rfl
  exact eCall_ok a0 rfl (lways_all ts.length c (by omega) hc)
theorem turn_ok {s2 : Sl} {ts : List Str} (h : s2 = .fz (.list (tL ts)) ∨ ∃ q, s2 = .ow q (.list (tL ts))) (hl : ts.length ≤ 1000) (c : Nat) (hc : c ≤ 20) (s0 s1 s4 s5 s6 s7 s8 : Sl) : ∃ c' : Nat, c' ≤ c ∧ ((ways ts.length c').sum ≤ 100000 ∨ c' + 1 = c) ∧ cTurn [s0, s1, s2, .fz (.int c), s4, s5, s6, s7, s8] = .nx [s0, s1, .fz (.list (tL ts)), .fz (.int c'), s4, s5, s6, s7, s8] := by
  have a0 := ways_call h hl c hc s0 s1 s4 s5 s6 s7 s8
  have a1 : tTru (eBin gGt (eArgs gSum (aCons (eCall 2 g_l_ways (aCons (eArgs gLen (aCons (eVar 2) aNil)) (aCons (eVar 3) aNil))) aNil)) (eC (.int 100000))) [s0, s1, s2, .fz (.int c), s4, s5, s6, s7, s8] = .ok (decide (100000 < (ways ts.length c).sum), [s0, s1, .fz (.list (tL ts)), .fz (.int c), s4, s5, s6, s7, s8]) := by
    have g := sum_ii (ways ts.length c)
    generalize iList (ways ts.length c) = IL at g a0
    generalize (ways ts.length c).sum = SM at g ⊢
    simp [Rs.bind, Rs.of, Rs.out, eC, eBin, eUn, eArgs, aNil, aCons, sSeq, sSet, sIf, sRet, sExpr, sNx, sSetIx, ePk, tPk, tTru, pkVar, pkC, pkBin, pkUn, pkCall1, pkCall2, Sl.d?, Vl.d, Vl.sl, flatD, truthD, elt?, eMove, eVar, gNm, sAug, a0, g, gGt_ii]
  by_cases hs : 100000 < (ways ts.length c).sum
  · rw [decide_eq_true hs] at a1
    have h0 : c ≠ 0 := by
      intro h0
      subst h0
      have : (ways ts.length 0).sum = 1 := rfl
      omega
    refine ⟨c - 1, by omega, .inr (by omega), (sIf_t a1).trans ?_⟩
    have e : ((c - 1 : Nat) : Int) = (c : Int) - 1 := by omega
    rw [e]
    simp [Rs.bind, Rs.of, Rs.out, eC, eBin, eUn, eArgs, aNil, aCons, sSeq, sSet, sIf, sRet, sExpr, sNx, sSetIx, ePk, tPk, tTru, pkVar, pkC, pkBin, pkUn, pkCall1, pkCall2, Sl.d?, Vl.d, Vl.sl, flatD, truthD, elt?, eMove, eVar, gNm, sAug, gSub_ii]
  · rw [decide_eq_false hs] at a1
    exact ⟨c, Nat.le_refl _, .inl (by omega), sIf_f a1⟩
theorem turns_ok {ts : List Str} (hl : ts.length ≤ 1000) : ∀ (d j : Nat) (s2 : Sl) (c : Nat) (s0 s1 s4 s5 s6 s7 s8 : Sl), (s2 = .fz (.list (tL ts)) ∨ ∃ q, s2 = .ow q (.list (tL ts))) → c ≤ 20 → ((ways ts.length c).sum ≤ 100000 ∨ c ≤ d) →
    ∃ (s2' : Sl) (c' : Nat) (s5' : Sl), c' ≤ c ∧ (ways ts.length c').sum ≤ 100000 ∧ (s2' = .fz (.list (tL ts)) ∨ ∃ q, s2' = .ow q (.list (tL ts))) ∧ forL (gNm 5) cTurn ((List.range' j d).map fun i => .int ((i : Nat) : Int)) [s0, s1, s2, .fz (.int c), s4, s5, s6, s7, s8] = .nx [s0, s1, s2', .fz (.int c'), s4, s5', s6, s7, s8]
  | 0, j, s2, c, s0, s1, s4, s5, s6, s7, s8, h2, hc, hs => by
    refine ⟨s2, c, s5, Nat.le_refl _, ?_, h2, rfl⟩
    rcases hs with hs | hs
    · exact hs
    · have : c = 0 := by omega
      subst this
      exact (by decide : (1 : Int) ≤ 100000)
  | d + 1, j, s2, c, s0, s1, s4, s5, s6, s7, s8, h2, hc, hs => by
    obtain ⟨c', l1, l2, hb⟩ := turn_ok h2 hl c hc s0 s1 s4 (.fz (.int j)) s6 s7 s8
    obtain ⟨s2', c2, s5', m1, m2, m3, m4⟩ := turns_ok hl d (j + 1) (.fz (.list (tL ts))) c' s0 s1 s4 (.fz (.int j)) s6 s7 s8 (.inl rfl) (by omega) (by
      rcases l2 with l2 | l2
      · exact .inl l2
      · rcases hs with hs | hs
        · by_cases hz : (ways ts.length c').sum ≤ 100000
          · exact .inl hz
          · refine .inl ?_
            have a := tot_mono ts.length c' 1
            have e1 : tot ts.length c' = (ways ts.length c').sum := by rw [sum_getD, ways_len]; rfl
            have e2 : tot ts.length (c' + 1) = (ways ts.length (c' + 1)).sum := by rw [sum_getD, ways_len]; rfl
            rw [l2] at a e2
            omega
        · exact .inr (by omega))
    refine ⟨s2', c2, s5', by omega, m2, m3, ?_⟩
    rw [List.range'_succ, List.map_cons, forL_nx (e1 := [s0, s1, s2, .fz (.int c), s4, .fz (.int j), s6, s7, s8]) rfl hb]
    exact m4
end K79


set_option Elab.async false
set_option linter.all false
set_option maxRecDepth 100000
set_option maxHeartbeats 1000000
namespace K79
open PySem PySem.Spec PyProof.Rows L2 VS
theorem bin_ok {g : D → D → Option Vl} {fx fy : Ev} {e e1 e2 : En} {x y v : Vl} (h1 : fx e = .ok (x, e1)) (h2 : fy e1 = .ok (y, e2)) (h3 : g x.d y.d = some v) : eBin g fx fy e = .ok (v, e2) := by
  unfold eBin
  rw [h1]
  change (fy e1).bind _ = _
  rw [h2]
  change (Rs.of (g x.d y.d)).bind _ = _
  rw [h3]; rfl
abbrev L2s : Sv := sSet 2 (eLend 2 g_l_texts 1 (aCons (eLend 2 g_l_draw 1 (aCons (eC (.int 5)) aNil)) aNil))
abbrev L3s : Sv := sSet 3 (eBin gIdx (eArgs gLst (aCons (eC (.int 0)) (aCons (eC (.int 1)) (aCons (eC (.int 1)) (aCons (eC (.int 2)) (aCons (eC (.int 2)) (aCons (eC (.int 3)) (aCons (eC (.int 4)) (aCons (eBin gAdd (eC (.int 5)) (eLend 2 g_l_draw 1 (aCons (eC (.int 4)) aNil))) aNil))))))))) (eLend 2 g_l_draw 1 (aCons (eC (.int 8)) aNil)))
theorem l2_ok (ns : List Int) (p : Nat) (h t : Int) (s0 s2 s3 s4 s5 s6 s7 s8 : Sl) : ∃ p' h' t' xs, xs.length ≤ 4 ∧ tOk xs ∧ L2s [s0, .ow 1 (tape ns p h t), s2, s3, s4, s5, s6, s7, s8] = .nx [s0, .ow 1 (tape ns p' h' t'), .ow 1 (.list (tL xs)), s3, s4, s5, s6, s7, s8] := by
  obtain ⟨r, p1, h1, t1, r0, r1, hd⟩ := draw_lend ns p h t s0 s2 s3 s4 s5 s6 s7 s8 (f := eC (.int 5)) (m := 5) (by decide) s2 (v := .fz (.int 5)) rfl rfl
  obtain ⟨R, rfl⟩ := Int.eq_ofNat_of_zero_le r0
  have hR : R ≤ 4 := by
    have : max (5 : Int) 1 = 5 := by decide
    omega
  obtain ⟨p2, h2, t2, xs, hl, hx, ht⟩ := texts_all ns p1 h1 t1 R (by omega)
  refine ⟨p2, h2, t2, xs, by omega, hx, ?_⟩
  have a0 : (aCons (eLend 2 g_l_draw 1 (aCons (eC (.int 5)) aNil)) aNil) [s0, .ow 1 (tape ns p h t), s2, s3, s4, s5, s6, s7, s8] = .ok ([.int R], [s0, .ow 1 (tape ns p1 h1 t1), s2, s3, s4, s5, s6, s7, s8]) := by
    show ((eLend 2 g_l_draw 1 (aCons (eC (.int 5)) aNil)) [s0, .ow 1 (tape ns p h t), s2, s3, s4, s5, s6, s7, s8]).bind _ = _
    rw [hd]; rfl
  exact sSet_ok (k := 2) (eLend_ok (n0 := 1) (n := 1) rfl a0 rfl rfl ht) (by show 2 < 9; decide)
def colN (A B : Nat) : Nat := [0, 1, 1, 2, 2, 3, 4, 5 + A].getD B 0
theorem colN_le {A B : Nat} (hA : A ≤ 3) : colN A B ≤ 8 := by
  unfold colN
  match B with
  | 0 | 1 | 2 | 3 | 4 | 5 | 6 => exact Nat.le_of_ble_eq_true rfl
  | 7 => show 5 + A ≤ 8; omega
  | n + 8 => exact Nat.zero_le 8
theorem l3_ok (ns : List Int) (p : Nat) (h t : Int) (s0 s2 s3 s4 s5 s6 s7 s8 : Sl) : ∃ (p' : Nat) (h' t' : Int) (c : Nat), c ≤ 8 ∧ L3s [s0, .ow 1 (tape ns p h t), s2, s3, s4, s5, s6, s7, s8] = .nx [s0, .ow 1 (tape ns p' h' t'), s2, .fz (.int c), s4, s5, s6, s7, s8] := by
  obtain ⟨r, p1, h1, t1, r0, r1, hd⟩ := draw_lend ns p h t s0 s2 s3 s4 s5 s6 s7 s8 (f := eC (.int 4)) (m := 4) (by decide) s2 (v := .fz (.int 4)) rfl rfl
  obtain ⟨A, rfl⟩ := Int.eq_ofNat_of_zero_le r0
  have hA : A ≤ 3 := by
    have : max (4 : Int) 1 = 4 := by decide
    omega
  obtain ⟨r', p2, h2, t2, q0, q1, hd2⟩ := draw_lend ns p1 h1 t1 s0 s2 s3 s4 s5 s6 s7 s8 (f := eC (.int 8)) (m := 8) (by decide) s2 (v := .fz (.int 8)) rfl rfl
  obtain ⟨B, rfl⟩ := Int.eq_ofNat_of_zero_le q0
  have hB : B < 8 := by
    have : max (8 : Int) 1 = 8 := by decide
    omega
  refine ⟨p2, h2, t2, colN A B, colN_le hA, ?_⟩
  have g1 : gAdd (.int 5) (.int A) = some (.fz (.int ((5 + A : Nat) : Int))) := by
    rw [gAdd_ii, Int.natCast_add]; rfl
  have g2 : gLst [.int 0, .int 1, .int 1, .int 2, .int 2, .int 3, .int 4, .int ((5 + A : Nat) : Int)] = some (.ow 1 (.list [.int 0, .int 1, .int 1, .int 2, .int 2, .int 3, .int 4, .int ((5 + A : Nat) : Int)])) := gLst_ok (small_line (by show 8 ≤ 100000; decide))
  have g3 : gIdx (.list [.int 0, .int 1, .int 1, .int 2, .int 2, .int 3, .int 4, .int ((5 + A : Nat) : Int)]) (.int B) = some (.fz (.int (colN A B))) := by
    refine gIdx_l (VS.atI_nat ?_)
    match B, hB with
    | 0, _ | 1, _ | 2, _ | 3, _ | 4, _ | 5, _ | 6, _ | 7, _ => rfl
  generalize ((5 + A : Nat) : Int) = I at g1 g2 g3
  generalize colN A B = C at g3 ⊢
  have e0 : eLend 2 g_l_draw 1 (aCons (eC (.int 4)) aNil) [s0, .ow 1 (tape ns p h t), s2, s3, s4, s5, s6, s7, s8] = .ok (.fz (.int A), [s0, .ow 1 (tape ns p1 h1 t1), s2, s3, s4, s5, s6, s7, s8]) := hd
  unfold L3s
  generalize eLend 2 g_l_draw 1 (aCons (eC (.int 4)) aNil) = F4 at e0 ⊢
  generalize eLend 2 g_l_draw 1 (aCons (eC (.int 8)) aNil) = F8 at hd2 ⊢
  simp [Rs.bind, Rs.of, Rs.out, eC, eBin, eUn, eArgs, aNil, aCons, sSeq, sSet, sIf, sRet, sExpr, sNx, sSetIx, ePk, tPk, tTru, pkVar, pkC, pkBin, pkUn, pkCall1, pkCall2, Sl.d?, Vl.d, Vl.sl, flatD, truthD, elt?, eMove, eVar, gNm, sAug, e0, hd2, g1, g2, g3]
abbrev L4e : Ev := eBin gAdd (eVar 2) (eComp 0 (iRange1 (eLend 2 g_l_draw 1 (aCons (eBin gSub (eC (.int 301)) (eArgs gLen (aCons (eVar 2) aNil))) aNil))) (gNm 4) (tYesD) (eBin gAdd (eC (.str "s")) (eArgs gStr (aCons (eVar 4) aNil))) [4])
abbrev L4s : Sv := sIf (tTru (eBin gEq (eLend 2 g_l_draw 1 (aCons (eC (.int 4)) aNil)) (eC (.int 0)))) (sSet 2 L4e) (sNx)
theorem l4_ok (ns : List Int) (p : Nat) (h t : Int) (s0 s3 s5 s6 s7 s8 : Sl) (xs : List Str) (hl : xs.length ≤ 4) (hx : tOk xs) : ∃ p' h' t' ys s2, ys.length ≤ 300 ∧ tOk ys ∧ (s2 = .fz (.list (tL ys)) ∨ ∃ q, s2 = .ow q (.list (tL ys))) ∧ L4s [s0, .ow 1 (tape ns p h t), .ow 1 (.list (tL xs)), s3, .un, s5, s6, s7, s8] = .nx [s0, .ow 1 (tape ns p' h' t'), s2, s3, .un, s5, s6, s7, s8] := by
  obtain ⟨r, p1, h1, t1, r0, r1, hd⟩ := draw_lend ns p h t s0 (.ow 1 (.list (tL xs))) s3 .un s5 s6 s7 s8 (f := eC (.int 4)) (m := 4) (by decide) (.ow 1 (.list (tL xs))) (v := .fz (.int 4)) rfl rfl
  have b : tTru (eBin gEq (eLend 2 g_l_draw 1 (aCons (eC (.int 4)) aNil)) (eC (.int 0))) [s0, .ow 1 (tape ns p h t), .ow 1 (.list (tL xs)), s3, .un, s5, s6, s7, s8] = .ok (r == 0, [s0, .ow 1 (tape ns p1 h1 t1), .ow 1 (.list (tL xs)), s3, .un, s5, s6, s7, s8]) := by
    generalize eLend 2 g_l_draw 1 (aCons (eC (.int 4)) aNil) = F4 at hd ⊢
    simp [Rs.bind, Rs.of, Rs.out, eC, eBin, eUn, eArgs, aNil, aCons, sSeq, sSet, sIf, sRet, sExpr, sNx, sSetIx, ePk, tPk, tTru, pkVar, pkC, pkBin, pkUn, pkCall1, pkCall2, Sl.d?, Vl.d, Vl.sl, flatD, truthD, elt?, eMove, eVar, gNm, sAug, hd, gEq_ii]
  cases hb : (r == 0) with
  | false =>
    rw [hb] at b
    exact ⟨p1, h1, t1, xs, _, by omega, hx, .inr ⟨1, rfl⟩, sIf_f b⟩
  | true =>
    rw [hb] at b
    have f0 : eBin gSub (eC (.int 301)) (eArgs gLen (aCons (eVar 2) aNil)) [s0, .ow 1 (tape ns p1 h1 t1), .fz (.list (tL xs)), s3, .un, s5, s6, s7, s8] = .ok (.fz (.int (301 - xs.length)), [s0, .ow 1 (tape ns p1 h1 t1), .fz (.list (tL xs)), s3, .un, s5, s6, s7, s8]) := by
      simp [Rs.bind, Rs.of, Rs.out, eC, eBin, eUn, eArgs, aNil, aCons, sSeq, sSet, sIf, sRet, sExpr, sNx, sSetIx, ePk, tPk, tTru, pkVar, pkC, pkBin, pkUn, pkCall1, pkCall2, Sl.d?, Vl.d, Vl.sl, flatD, truthD, elt?, eMove, eVar, gNm, sAug, gLen_l, gSub_ii, tL]
    obtain ⟨r', p2, h2, t2, q0, q1, hd2⟩ := draw_lend ns p1 h1 t1 s0 (.fz (.list (tL xs))) s3 .un s5 s6 s7 s8 (m := 301 - xs.length) (by omega) (.fz (.list (tL xs))) rfl f0
    obtain ⟨M, rfl⟩ := Int.eq_ofNat_of_zero_le q0
    have hM : M + xs.length ≤ 300 := by omega
    have r1 := iRange1_nat (k := M) hd2 rfl (by omega)
    obtain ⟨e1, c1, z1⟩ := eComp_all (n := 0) (f := eBin gAdd (eC (.str "s")) (eArgs gStr (aCons (eVar 4) aNil))) (vs := [4]) (g := gNm 4)
      (y := fun d => match d with | .int i => .str (sS i.toNat) | _ => .none) (fun E => E = [s0, .ow 1 (tape ns p2 h2 t2), .fz (.list (tL xs)), s3, .un, s5, s6, s7, s8]) r1 rfl (fun d hd E0 p0 => by
        obtain ⟨j, hj, rfl⟩ := List.mem_map.mp hd
        have hj : j < M := by simpa using hj
        subst p0
        have w := wS_ok (R := j) (by omega)
        have g2 := gStr_nat (i := j) (by omega)
        have g3 : gAdd (.str "s") (.str (toString ((j : Nat) : Int))) = some (.fz (.str (sS j))) := gAdd_ss (by
          have := w.2.2.2
          unfold sS at this
          rw [Str.length_append] at this
          exact small_line (by omega))
        refine ⟨[s0, .ow 1 (tape ns p2 h2 t2), .fz (.list (tL xs)), s3, .fz (.int j), s5, s6, s7, s8], .fz (.str (sS j)), [s0, .ow 1 (tape ns p2 h2 t2), .fz (.list (tL xs)), s3, .fz (.int j), s5, s6, s7, s8], rfl, ?_, rfl, rfl⟩
        generalize Str.ofString (toString (j : Int)) = S at g2 g3
        generalize sS j = Wk at g3 ⊢
        simp [Rs.bind, Rs.of, Rs.out, eC, eBin, eUn, eArgs, aNil, aCons, sSeq, sSet, sIf, sRet, sExpr, sNx, sSetIx, ePk, tPk, tTru, pkVar, pkC, pkBin, pkUn, pkCall1, pkCall2, Sl.d?, Vl.d, Vl.sl, flatD, truthD, elt?, eMove, eVar, gNm, sAug, g2, g3]) (small_line (by simp; omega))
    subst z1
    have l1 : (List.map (fun (d : D) => (match d with | .int i => PyData.str (sS i.toNat) | _ => PyData.none : D)) ((List.range' 0 M).map fun i => PyData.int ((i : Nat) : Int)) : List D) = tL ((List.range' 0 M).map sS) := by
      rw [tL, List.map_map, List.map_map]
      rfl
    rw [l1] at c1
    refine ⟨p2, h2, t2, xs ++ (List.range' 0 M).map sS, .ow 1 (.list (tL (xs ++ (List.range' 0 M).map sS))), by simp; omega, ?_, .inr ⟨1, rfl⟩, (sIf_t b).trans ?_⟩
    · intro z hz
      rcases List.mem_append.mp hz with h | h
      · exact hx z h
      · obtain ⟨j, hj, rfl⟩ := List.mem_map.mp h
        have hj : j < M := by simpa using hj
        have w := wS_ok (R := j) (by omega)
        exact ⟨w.2.2.1, by omega⟩
    · have g : gAdd (.list (tL xs)) (.list (tL ((List.range' 0 M).map sS))) = some (.ow 1 (.list (tL xs ++ tL ((List.range' 0 M).map sS)))) := gAdd_ll (small_line (by simp [tL]; omega))
      have e : tL (xs ++ (List.range' 0 M).map sS) = tL xs ++ tL ((List.range' 0 M).map sS) := by simp [tL]
      rw [e]
      have v0 : eVar 2 [s0, .ow 1 (tape ns p1 h1 t1), .ow 1 (.list (tL xs)), s3, .un, s5, s6, s7, s8] = .ok (.fz (.list (tL xs)), [s0, .ow 1 (tape ns p1 h1 t1), .fz (.list (tL xs)), s3, .un, s5, s6, s7, s8]) := rfl
      have v1 : L4e [s0, .ow 1 (tape ns p1 h1 t1), .ow 1 (.list (tL xs)), s3, .un, s5, s6, s7, s8] = .ok (.ow 1 (.list (tL xs ++ tL ((List.range' 0 M).map sS))), [s0, .ow 1 (tape ns p2 h2 t2), .fz (.list (tL xs)), s3, .un, s5, s6, s7, s8]) := bin_ok v0 c1 g
      exact sSet_ok (k := 2) v1 (by show 2 < 9; decide)
end K79


set_option Elab.async false
set_option linter.all false
set_option maxRecDepth 100000
set_option maxHeartbeats 1000000
namespace K79
open PySem PySem.Spec PyProof.Rows L2 VS
theorem ext_mem {ts sm : List Str} {k left : Nat} {q q' : Row} (hsm : sm.length = k) (h : q' ∈ ext ts sm k left q) (hq : ∀ t ∈ q.1, t ∈ ts ∨ t ∈ sm) : ∀ t ∈ q'.1, t ∈ ts ∨ t ∈ sm := by
  have app : ∀ x : Str, (x ∈ ts ∨ x ∈ sm) → ∀ t ∈ q.1 ++ [x], t ∈ ts ∨ t ∈ sm := fun x hx t ht => by
    rcases List.mem_append.mp ht with h | h
    · exact hq t h
    · rw [List.mem_singleton.mp h]; exact hx
  unfold ext at h
  rcases List.mem_append.mp h with h | h
  · split at h
    · obtain ⟨t, ht, rfl⟩ := List.mem_map.mp h
      refine app t ?_
      rcases List.mem_append.mp ht with h1 | h1
      · exact .inl h1
      · exact .inr (List.mem_of_mem_take h1)
    · cases h
  · split at h
    · rename_i hc
      have e := List.mem_singleton.mp h
      subst e
      have hlt : q.2 < sm.length := by omega
      refine app _ (.inr ?_)
      rw [List.getD_eq_getElem?_getD, List.getElem?_eq_getElem hlt]
      exact List.getElem_mem hlt
    · cases h
theorem rows_mem {ts sm : List Str} {k c : Nat} (hsm : sm.length = k) : ∀ (p : Nat) (q : Row), q ∈ rowsN ts sm k c p → ∀ t ∈ q.1, t ∈ ts ∨ t ∈ sm
  | 0, q, h => by
    have e := List.mem_singleton.mp h
    subst e
    intro t ht; cases ht
  | p + 1, q, h => by
    obtain ⟨q0, h0, h1⟩ := List.mem_flatMap.mp h
    exact ext_mem hsm h1 (rows_mem hsm p q0 h0)
theorem samp_tOk (ts : List Str) {k : Nat} (h : k + ts.length < 329) : tOk (samp ts k) := by
  intro t ht
  have h1 := List.mem_of_mem_take ht
  unfold pool at h1
  obtain ⟨j, hj, rfl⟩ := List.mem_map.mp (List.mem_filter.mp h1).1
  have hj : j < k + ts.length := by simpa using hj
  have w := sv_ok (i := j + 1) (by omega)
  exact ⟨w.2.1, by omega⟩
theorem rows_fine (ts : List Str) (ht : tOk ts) {k c : Nat} (h : k + ts.length < 329) (hc : c ≤ 8) (hl : (rowsN ts (samp ts k) k c c).length ≤ 300) : Fine (outD (rowsN ts (samp ts k) k c c)) 2 (300 * (8 * 41 + 1)) := by
  refine fine_tup (fun d hd => ?_) (by rw [List.length_map]; exact hl)
  obtain ⟨q, hq, rfl⟩ := List.mem_map.mp hd
  have hm := rows_mem (samp_len ts (by omega)) c q hq
  have hi := rows_inv hq
  refine fine_tup (k := 0) (w := 40) (fun d hd => ?_) (by rw [List.length_map]; omega)
  obtain ⟨t, h1, rfl⟩ := List.mem_map.mp hd
  have h2 : (PyData.str t).canLay0 = true ∧ t.length ≤ 40 := by
    rcases hm t h1 with h3 | h3
    · exact ht t h3
    · exact samp_tOk ts h t h3
  exact fine_str h2.1 h2.2
theorem many_fine (W : Int) (h0 : 0 ≤ W) (h1 : W ≤ 100000) : Fine (.tuple [.str "many", .int W, .bool true]) 1 (3 * (41 + 1)) := by
  refine fine_tup (k := 0) (w := 41) (fun d hd => ?_) (Nat.le_refl _)
  rcases List.mem_cons.mp hd with rfl | hd
  · exact fine_str (by decide +kernel) (by show 4 ≤ 41; decide)
  · rcases List.mem_cons.mp hd with rfl | hd
    · exact fine_int (by omega)
    · rw [List.mem_singleton.mp hd]
      exact (fine_bool true).mono (Nat.le_refl _) (Nat.zero_le _)
theorem same_fine {ds : List D} {k w : Nat} (h : Fine (.tuple ds) k w) (hk : k ≤ 60) (hw : w ≤ 1048576) : g_l_same [.fz (.tuple ds), .fz (.tuple ds)] = .ok (.fz (.bool true), [.un, .un]) :=
  same_all ds (h.layable hk hw) h.st h.sh (Nat.le_trans h.dp hk)
theorem one_le_sum (w : List Int) (h : ∀ j, 0 ≤ w.getD j 0) (k : Nat) : w.getD k 0 ≤ w.sum := by
  rw [sum_getD]
  by_cases hk : k < w.length
  · have a : fsum (fun j => if k = j then w.getD j 0 else 0) w.length ≤ fsum (fun j => w.getD j 0) w.length := fsum_le fun j _ => by
      by_cases e : k = j
      · rw [if_pos e]; exact Int.le_refl _
      · rw [if_neg e]; exact h j
    have b : ∀ n, k < n → fsum (fun j => if k = j then w.getD j 0 else 0) n = w.getD k 0 := by
      intro n
      induction n with
      | zero => intro h; omega
      | succ n ih =>
        intro h
        show fsum _ n + (if k = n then w.getD n 0 else 0) = _
        by_cases e : k = n
        · subst e
          rw [if_pos rfl]
          have z : fsum (fun j => if k = j then w.getD j 0 else 0) k = 0 := by
            rw [fsum_eq (g := fun _ => 0) fun j hj => if_neg (by omega), fsum_zero]
          rw [z]; omega
        · rw [if_neg e, ih (by omega)]; omega
    rw [b _ hk] at a
    exact a
  · rw [List.getD_eq_getElem?_getD, List.getElem?_eq_none (by omega)]
    have : fsum (fun _ => 0) w.length ≤ fsum (fun j => w.getD j 0) w.length := fsum_le fun j _ => h j
    rw [fsum_zero] at this
    exact this
end K79


set_option Elab.async false
set_option linter.all false
set_option maxRecDepth 100000
set_option maxHeartbeats 1000000
namespace K79
open PySem PySem.Spec PyProof.Rows L2 VS
def mTail : Sv :=
    sSeq (sIf (tTru (eBin gGt (eVar 7) (eC (.int 300)))) (sRet (eCall 2 g_l_same (aCons (eCall 3 g_l_told (aCons (eArgs gTuple (aCons (eVar 2) aNil)) (aCons (eVar 3) (aCons (eVar 6) aNil)))) (aCons (eArgs gTup (aCons (eC (.str "many")) (aCons (eVar 7) (aCons (eC (.bool true)) aNil)))) aNil)))) (sNx)) <|
    sRet (eCall 2 g_l_same (aCons (eCall 3 g_l_told (aCons (eArgs gTuple (aCons (eVar 2) aNil)) (aCons (eVar 3) (aCons (eVar 6) aNil)))) (aCons (eArgs gTuple (aCons (eCall 3 g_l_text_rows (aCons (eVar 2) (aCons (eVar 3) (aCons (eVar 6) aNil)))) aNil)) aNil)))
theorem m_law_eq : m_law = (sSeq (sSet 1 (eCall 1 g_l_tape (aCons (eVar 0) aNil))) <| sSeq L2s <| sSeq L3s <| sSeq L4s <| sSeq (sFor (iRange1 (eC (.int 8))) (gNm 5) cTurn) <| sSeq (sSet 6 (eLend 2 g_l_draw 1 (aCons (eBin gAdd (eVar 3) (eC (.int 1))) aNil))) <| sSeq (sSet 7 (eBin gIdx (eCall 2 g_l_ways (aCons (eArgs gLen (aCons (eVar 2) aNil)) (aCons (eVar 3) aNil))) (eVar 6))) <| sSeq (sSet 8 (eCall 3 g_many_text_rows (aCons (eArgs gLen (aCons (eVar 2) aNil)) (aCons (eVar 3) (aCons (eVar 6) aNil))))) <| sSeq (sIf (tOrD (tNotD (tTru (eIsi "int" (eVar 8)))) (tOrD (tTru (eIsi "bool" (eVar 8))) (tTru (eBin gNe (eVar 8) (eVar 7))))) (sRet (eC (.bool false))) (sNx)) <| mTail) := rfl
abbrev toldE : Ev := eCall 3 g_l_told (aCons (eArgs gTuple (aCons (eVar 2) aNil)) (aCons (eVar 3) (aCons (eVar 6) aNil)))
abbrev rowsE : Ev := eCall 3 g_l_text_rows (aCons (eVar 2) (aCons (eVar 3) (aCons (eVar 6) aNil)))
theorem tail_many {E : En} {W : Int} {out : En} (a10 : tTru (eBin gGt (eVar 7) (eC (.int 300))) E = .ok (true, E)) (b1 : toldE E = .ok (.fz (.tuple [.str "many", .int W, .bool true]), E)) (v7 : eVar 7 E = .ok (.fz (.int W), E))
    (sm : g_l_same [.fz (.tuple [.str "many", .int W, .bool true]), .fz (.tuple [.str "many", .int W, .bool true])] = .ok (.fz (.bool true), out)) : mTail E = .rt (.fz (.bool true)) E := by
  have g3 : gTup [.str "many", .int W, .bool true] = some (.fz (.tuple [.str "many", .int W, .bool true])) := gTup_ok (small_line (by show 3 ≤ 100000; decide))
  have a : (aCons toldE (aCons (eArgs gTup (aCons (eC (.str "many")) (aCons (eVar 7) (aCons (eC (.bool true)) aNil)))) aNil)) E = .ok ([.tuple [.str "many", .int W, .bool true], .tuple [.str "many", .int W, .bool true]], E) := by
    generalize toldE = FT at b1 ⊢
    generalize eVar 7 = F7 at v7 ⊢
    generalize PyData.tuple [.str "many", .int W, .bool true] = TT at b1 g3 ⊢
    simp [aCons, aNil, eArgs, eC, Rs.bind, Rs.of, Vl.d, b1, g3, v7]
  have c := eCall_ok (np := 2) a rfl sm
  unfold mTail
  exact sSeq_rt ((sIf_t a10).trans (sRet_ok c))
theorem tail_rows {E : En} {RR : List D} {out : En} (a10 : tTru (eBin gGt (eVar 7) (eC (.int 300))) E = .ok (false, E)) (b1 : toldE E = .ok (.fz (.tuple RR), E)) (b2 : rowsE E = .ok (.fz (.list RR), E) ∨ ∃ n, rowsE E = .ok (.ow n (.list RR), E))
    (sm : g_l_same [.fz (.tuple RR), .fz (.tuple RR)] = .ok (.fz (.bool true), out)) : mTail E = .rt (.fz (.bool true)) E := by
  have a : (aCons toldE (aCons (eArgs gTuple (aCons rowsE aNil)) aNil)) E = .ok ([.tuple RR, .tuple RR], E) := by
    generalize toldE = FT at b1 ⊢
    generalize rowsE = FR at b2 ⊢
    rcases b2 with b2 | ⟨n, b2⟩ <;> simp [aCons, aNil, eArgs, Rs.bind, Rs.of, Vl.d, b1, b2, gTuple_l]
  have c := eCall_ok (np := 2) a rfl sm
  unfold mTail
  exact (sSeq_nx (sIf_f a10)).trans (sRet_ok c)
theorem law_true (ns : List Int) (hns : ns.length ≤ 63) : ∃ out, g_law [.fz (.list (ns.map .int))] = .ok (.fz (.bool true), out) := by
  obtain ⟨t0, ht⟩ := tape_all ns
  have a1 : sSet 1 (eCall 1 g_l_tape (aCons (eVar 0) aNil)) [.fz (iList ns), .un, .un, .un, .un, .un, .un, .un, .un] = .nx [.fz (iList ns), .ow 1 (tape ns 0 0 t0), .un, .un, .un, .un, .un, .un, .un] := by
    have e : (aCons (eVar 0) aNil) [.fz (iList ns), .un, .un, .un, .un, .un, .un, .un, .un] = .ok ([iList ns], [.fz (iList ns), .un, .un, .un, .un, .un, .un, .un, .un]) := rfl
    exact sSet_ok (k := 1) (eCall_ok e rfl ht) (by show 1 < 9; decide)
  obtain ⟨p1, h1, t1, xs, hxl, hx, a2⟩ := l2_ok ns 0 0 t0 (.fz (iList ns)) .un .un .un .un .un .un .un
  obtain ⟨p2, h2, t2, c0, hc0, a3⟩ := l3_ok ns p1 h1 t1 (.fz (iList ns)) (.ow 1 (.list (tL xs))) .un .un .un .un .un .un
  obtain ⟨p3, h3, t3, ts, s2, hl, hts, hs2, a4⟩ := l4_ok ns p2 h2 t2 (.fz (iList ns)) (.fz (.int c0)) .un .un .un .un xs hxl hx
  obtain ⟨s2b, c, s5, hc, hsum, hs2b, a5⟩ := turns_ok (ts := ts) (by omega) 8 0 s2 c0 (.fz (iList ns)) (.ow 1 (tape ns p3 h3 t3)) .un .un .un .un .un hs2 (by omega) (.inr hc0)
  have a5' : iRange1 (eC (.int 8)) [.fz (iList ns), .ow 1 (tape ns p3 h3 t3), s2, .fz (.int c0), .un, .un, .un, .un, .un] = .ok ((List.range' 0 8).map fun i => .int ((i : Nat) : Int), [.fz (iList ns), .ow 1 (tape ns p3 h3 t3), s2, .fz (.int c0), .un, .un, .un, .un, .un]) := iRange1_nat (k := 8) (v := .fz (.int 8)) rfl rfl (by decide)
  have f6 : eBin gAdd (eVar 3) (eC (.int 1)) [.fz (iList ns), .ow 1 (tape ns p3 h3 t3), s2b, .fz (.int c), .un, s5, .un, .un, .un] = .ok (.fz (.int ((c : Int) + 1)), [.fz (iList ns), .ow 1 (tape ns p3 h3 t3), s2b, .fz (.int c), .un, s5, .un, .un, .un]) := by
    simp [Rs.bind, Rs.of, Rs.out, eC, eBin, eUn, eArgs, aNil, aCons, sSeq, sSet, sIf, sRet, sExpr, sNx, sSetIx, ePk, tPk, tTru, pkVar, pkC, pkBin, pkUn, pkCall1, pkCall2, Sl.d?, Vl.d, Vl.sl, flatD, truthD, elt?, eMove, eVar, gNm, sAug, gAdd_ii]
  obtain ⟨r, p4, h4, t4, r0, r1, hd⟩ := draw_lend ns p3 h3 t3 (.fz (iList ns)) s2b (.fz (.int c)) .un s5 .un .un .un (m := (c : Int) + 1) (by omega) s2b rfl f6
  obtain ⟨k, rfl⟩ := Int.eq_ofNat_of_zero_le r0
  have hk : k ≤ c := by omega
  have a6 := sSet_ok (k := 6) hd (by show 6 < 9; decide)
  have w7 := ways_call hs2b (by omega) c (by omega) (.fz (iList ns)) (.ow 1 (tape ns p4 h4 t4)) .un s5 (.fz (.int k)) .un .un
  have hwl : k < (ways ts.length c).length := by rw [ways_len]; omega
  have g7 : gIdx (iList (ways ts.length c)) (.int k) = some (.fz (.int ((ways ts.length c).getD k 0))) := by
    refine gIdx_l (VS.atI_nat ?_)
    rw [List.getElem?_map, List.getElem?_eq_getElem hwl, getD_lt hwl]; rfl
  have W0 := ways_nn ts.length c k
  have W1 : (ways ts.length c).getD k 0 ≤ 100000 := Int.le_trans (one_le_sum _ (ways_nn ts.length c) k) hsum
  have hB : ∀ p, p ≤ c → (rowsN ts (samp ts k) k c p).length < 15000000 := fun p hp => by
    have := rows_len ts (samp ts k) k c p hp
    omega
  have hlast := rows_last ts (samp ts k) k c hk
  have hmany := many_all ts.length c k (by omega) (by omega) hk
  have tmany := text_rows_many ts c k (by omega) (by omega) hk
  have trows := text_rows_all ts c k hts (by omega) (by omega) hk
  generalize hW : (ways ts.length c).getD k 0 = W at g7 W0 W1 hlast hmany tmany trows
  have a7 : sSet 7 (eBin gIdx (eCall 2 g_l_ways (aCons (eArgs gLen (aCons (eVar 2) aNil)) (aCons (eVar 3) aNil))) (eVar 6)) [.fz (iList ns), .ow 1 (tape ns p4 h4 t4), s2b, .fz (.int c), .un, s5, .fz (.int k), .un, .un] = .nx [.fz (iList ns), .ow 1 (tape ns p4 h4 t4), .fz (.list (tL ts)), .fz (.int c), .un, s5, .fz (.int k), .fz (.int W), .un] := by
    have b7 : eBin gIdx (eCall 2 g_l_ways (aCons (eArgs gLen (aCons (eVar 2) aNil)) (aCons (eVar 3) aNil))) (eVar 6) [.fz (iList ns), .ow 1 (tape ns p4 h4 t4), s2b, .fz (.int c), .un, s5, .fz (.int k), .un, .un] = .ok (.fz (.int W), [.fz (iList ns), .ow 1 (tape ns p4 h4 t4), .fz (.list (tL ts)), .fz (.int c), .un, s5, .fz (.int k), .un, .un]) := bin_ok (y := .fz (.int k)) w7 rfl g7
    exact sSet_ok (k := 7) b7 (by show 7 < 9; decide)
  have a8 : sSet 8 (eCall 3 g_many_text_rows (aCons (eArgs gLen (aCons (eVar 2) aNil)) (aCons (eVar 3) (aCons (eVar 6) aNil)))) [.fz (iList ns), .ow 1 (tape ns p4 h4 t4), .fz (.list (tL ts)), .fz (.int c), .un, s5, .fz (.int k), .fz (.int W), .un] = .nx [.fz (iList ns), .ow 1 (tape ns p4 h4 t4), .fz (.list (tL ts)), .fz (.int c), .un, s5, .fz (.int k), .fz (.int W), .fz (.int W)] := by
    have e : (aCons (eArgs gLen (aCons (eVar 2) aNil)) (aCons (eVar 3) (aCons (eVar 6) aNil))) [.fz (iList ns), .ow 1 (tape ns p4 h4 t4), .fz (.list (tL ts)), .fz (.int c), .un, s5, .fz (.int k), .fz (.int W), .un] = .ok ([.int ts.length, .int c, .int k], [.fz (iList ns), .ow 1 (tape ns p4 h4 t4), .fz (.list (tL ts)), .fz (.int c), .un, s5, .fz (.int k), .fz (.int W), .un]) := by
      show ((eArgs gLen (aCons (eVar 2) aNil)) [.fz (iList ns), .ow 1 (tape ns p4 h4 t4), .fz (.list (tL ts)), .fz (.int c), .un, s5, .fz (.int k), .fz (.int W), .un]).bind _ = _
      rw [len_any (.inl rfl)]; rfl
    exact sSet_ok (k := 8) (eCall_ok e rfl hmany) (by show 8 < 9; decide)
  have ki : kitB "int" "int" = some true := by decide +kernel
  have kb : kitB "int" "bool" = some false := by decide +kernel
  have i0 : eIsi "int" (eVar 8) [.fz (iList ns), .ow 1 (tape ns p4 h4 t4), .fz (.list (tL ts)), .fz (.int c), .un, s5, .fz (.int k), .fz (.int W), .fz (.int W)] = .ok (.fz (.bool true), [.fz (iList ns), .ow 1 (tape ns p4 h4 t4), .fz (.list (tL ts)), .fz (.int c), .un, s5, .fz (.int k), .fz (.int W), .fz (.int W)]) := isi_of rfl ki rfl rfl
  have i1 : eIsi "bool" (eVar 8) [.fz (iList ns), .ow 1 (tape ns p4 h4 t4), .fz (.list (tL ts)), .fz (.int c), .un, s5, .fz (.int k), .fz (.int W), .fz (.int W)] = .ok (.fz (.bool false), [.fz (iList ns), .ow 1 (tape ns p4 h4 t4), .fz (.list (tL ts)), .fz (.int c), .un, s5, .fz (.int k), .fz (.int W), .fz (.int W)]) := isi_of rfl kb rfl rfl
  have a9 : tOrD (tNotD (tTru (eIsi "int" (eVar 8)))) (tOrD (tTru (eIsi "bool" (eVar 8))) (tTru (eBin gNe (eVar 8) (eVar 7)))) [.fz (iList ns), .ow 1 (tape ns p4 h4 t4), .fz (.list (tL ts)), .fz (.int c), .un, s5, .fz (.int k), .fz (.int W), .fz (.int W)] = .ok (false, [.fz (iList ns), .ow 1 (tape ns p4 h4 t4), .fz (.list (tL ts)), .fz (.int c), .un, s5, .fz (.int k), .fz (.int W), .fz (.int W)]) := by
    generalize eIsi "int" (eVar 8) = FI at i0 ⊢
    generalize eIsi "bool" (eVar 8) = FB at i1 ⊢
    simp [Rs.bind, Rs.of, Rs.out, eC, eBin, eUn, eArgs, aNil, aCons, sSeq, sSet, sIf, sRet, sExpr, sNx, sSetIx, ePk, tPk, tTru, pkVar, pkC, pkBin, pkUn, pkCall1, pkCall2, Sl.d?, Vl.d, Vl.sl, flatD, truthD, elt?, eMove, eVar, gNm, sAug, tOrD, tNotD, i0, i1, gNe_ii]
  have a10 : tTru (eBin gGt (eVar 7) (eC (.int 300))) [.fz (iList ns), .ow 1 (tape ns p4 h4 t4), .fz (.list (tL ts)), .fz (.int c), .un, s5, .fz (.int k), .fz (.int W), .fz (.int W)] = .ok (decide (300 < W), [.fz (iList ns), .ow 1 (tape ns p4 h4 t4), .fz (.list (tL ts)), .fz (.int c), .un, s5, .fz (.int k), .fz (.int W), .fz (.int W)]) := by
    simp [Rs.bind, Rs.of, Rs.out, eC, eBin, eUn, eArgs, aNil, aCons, sSeq, sSet, sIf, sRet, sExpr, sNx, sSetIx, ePk, tPk, tTru, pkVar, pkC, pkBin, pkUn, pkCall1, pkCall2, Sl.d?, Vl.d, Vl.sl, flatD, truthD, elt?, eMove, eVar, gNm, sAug, gGt_ii]
  have e0 : (aCons (eArgs gTuple (aCons (eVar 2) aNil)) (aCons (eVar 3) (aCons (eVar 6) aNil))) [.fz (iList ns), .ow 1 (tape ns p4 h4 t4), .fz (.list (tL ts)), .fz (.int c), .un, s5, .fz (.int k), .fz (.int W), .fz (.int W)] = .ok ([.tuple (tL ts), .int c, .int k], [.fz (iList ns), .ow 1 (tape ns p4 h4 t4), .fz (.list (tL ts)), .fz (.int c), .un, s5, .fz (.int k), .fz (.int W), .fz (.int W)]) := rfl
  have pre : ∀ {v : Vl} {e' : En}, mTail [.fz (iList ns), .ow 1 (tape ns p4 h4 t4), .fz (.list (tL ts)), .fz (.int c), .un, s5, .fz (.int k), .fz (.int W), .fz (.int W)] = .rt v e' → m_law [.fz (iList ns), .un, .un, .un, .un, .un, .un, .un, .un] = .rt v e' := fun {v e'} hf => by
    rw [m_law_eq]
    exact (sSeq_nx a1).trans ((sSeq_nx a2).trans ((sSeq_nx a3).trans ((sSeq_nx a4).trans ((sSeq_nx ((sFor_ok a5').trans a5)).trans ((sSeq_nx a6).trans ((sSeq_nx a7).trans ((sSeq_nx a8).trans ((sSeq_nx (sIf_f a9)).trans hf))))))))
  have hE : ([.fz (.list (ns.map .int))] : En) ++ List.replicate (9 - 1) .un = [.fz (iList ns), .un, .un, .un, .un, .un, .un, .un, .un] := rfl
  have hM : g_law [.fz (.list (ns.map .int))] = gDef [] 1 9 m_law [.fz (.list (ns.map .int))] := rfl
  have fin : ∀ {e' : En}, m_law [.fz (iList ns), .un, .un, .un, .un, .un, .un, .un, .un] = .rt (.fz (.bool true)) e' → ∃ out, g_law [.fz (.list (ns.map .int))] = .ok (.fz (.bool true), out) := fun {e'} hf => by
    refine ⟨mask [] 1 e', ?_⟩
    rw [hM]
    refine gDef_rt ?_
    rw [hE]
    exact hf
  clear hE hM
  by_cases hw : 300 < W
  · obtain ⟨e', hm⟩ := tmany hw
    have tm := told_many ts c k W hm
    have sm := same_fine (many_fine W W0 W1) (by decide) (by decide)
    have b1 := eCall_ok (np := 3) e0 rfl tm
    rw [decide_eq_true hw] at a10
    exact fin (pre (tail_many a10 b1 rfl sm))
  · have tr := told_rows ts c k _ (trows hw hB)
    have lr := law_rows_all ts c k hts (by omega) (by omega) hk hB
    have hfine := rows_fine ts hts (by omega) (by omega) (hlast hw)
    have b1 := eCall_ok (np := 3) e0 rfl tr
    have e1 : (aCons (eVar 2) (aCons (eVar 3) (aCons (eVar 6) aNil))) [.fz (iList ns), .ow 1 (tape ns p4 h4 t4), .fz (.list (tL ts)), .fz (.int c), .un, s5, .fz (.int k), .fz (.int W), .fz (.int W)] = .ok ([.list (tL ts), .int c, .int k], [.fz (iList ns), .ow 1 (tape ns p4 h4 t4), .fz (.list (tL ts)), .fz (.int c), .un, s5, .fz (.int k), .fz (.int W), .fz (.int W)]) := rfl
    have b2 := eCall_ok (np := 3) e1 rfl lr
    unfold outD at b1 hfine
    generalize ((rowsN ts (samp ts k) k c c).map fun q => PyData.tuple (tL q.1)) = RR at b1 b2 hfine
    have sm := same_fine hfine (by decide) (by decide)
    rw [decide_eq_false hw] at a10
    exact fin (pre (tail_rows a10 b1 (by first | exact .inl b2 | exact .inr ⟨_, b2⟩) sm))
end K79


set_option Elab.async false
set_option linter.all false
set_option maxRecDepth 100000
set_option maxHeartbeats 0
open PySem PySem.W PySem.Calls PyProof.Rows
theorem PySem.Challenge.cw_migraproof_k79_text_rows_in_order_holds : PySem.Challenge.rw_migraproof_k79_text_rows_in_order.Holds := by
  w_on; o_law
  refine HandSHeadRun.head_any (r := OpenLaw.row PySem.Challenge.rw_migraproof_k79_text_rows_in_order) (q := view (OpenLaw.row PySem.Challenge.rw_migraproof_k79_text_rows_in_order).prog [20]) (H := K79.hk) (ob := K79.ob) (M := 4000) (loose := K79.names) (d := HandSHeadRun.topDef (OpenLaw.row PySem.Challenge.rw_migraproof_k79_text_rows_in_order).prog 20) (kwd := []) K79.ob_eq
    (by kernel_rfl) (fun s => by kernel_rfl) K79.run (by kernel_rfl) (by kernel_rfl) (by kernel_rfl) (by rfl) (by first | assumption | decide +kernel) (by decide +kernel) ⟨rfl, rfl, rfl, rfl, rfl, by decide +kernel⟩ ?hw ?hc
  case hw => w_witness2
  case hc =>
    refine VS.walk_G (l := PySem.Challenge.rw_migraproof_k79_text_rows_in_order) (n := 63) (k := 5) (x := "_law_script") (G := K79.g_law) rfl (by decide) (by kernel_rfl) ⟨rfl, by decide, by decide⟩ ?F K79.law_true
    intro w mg fa h Y G hmg0
    obtain ⟨K, KX, c⟩ := Y
    have hmg : mg ("law" : PySem.Str) = some (.ref fa) := by
      have e : (HandSHeadRun.topDef (OpenLaw.row PySem.Challenge.rw_migraproof_k79_text_rows_in_order).prog 20).name = ("law" : PySem.Str) := by kernel_rfl
      rw [← e]
      exact hmg0
    obtain ⟨fd, hb, hF⟩ := K79.facts (w := w) KX G hmg c
    exact ⟨K, fd, KX, hb, hF⟩

