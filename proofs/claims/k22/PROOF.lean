import PyProof.Rows.All
import Wide.All
import OpenK.AllK
import Wide.FinOn
import HandS.ForMost
import HandS.ForExc
import HandS.Walk
import HandS.CallSlots
import HandS.IsInst
import HandS.Zip
import HandS.StrMore
import HandS.TupLe
import HandS.TupAny
import HandS.Style
import HandS.Flow
import HandS.Lambda
import KE.KDictKeyed
import HandS.TupMul
import HandS.Conv
import HandS.Defaults
import HandS.HeadEnd
import HandS.Deep
import KE.SortData
import HandS.Replace
import HandS.Codes
import KE.GoesEnum
import HandS.Head0
import HandS.Head1
import HandS.Head2
import HandS.HeadHook1
import HandS.HeadHook2
import HandS.HeadHook3
import HandS.HeadHook4
import PyProof.ReprRoads
import PyProof.ListStr
import PyProof.TupleOfStr
import PyProof.StrBlock2
import HandS.Star
import PyProof.Rows.Range3
import HandS.ExcInit
import KE.KExcSuper
import HandS.ExcValue
import KE.KExcIs
import HandS.ExcIs
import HandS.ReCall
import HandS.SetKeys
import KE.KDictCopyH
import HandS.SetFor
import PyProof.ReprLen
import KE.DataMinMax
import HandS.Property
import HandS.OwnEq
import HandS.MakeKwOnly
import PyProof.InstNe
import PySem.Challenge.RW_ownclosers_k22_whole_choices_without_eff
set_option Elab.async false
set_option linter.all false
set_option maxRecDepth 100000
set_option maxHeartbeats 8000000
section
namespace MP
open PySem PySem.Spec PyProof.Rows L2

abbrev CP := List Nat
def S (l : CP) : Str := ⟨l.toArray⟩
inductive Ty where
  | int | str | bool | tuple | list | dict | none | valErr | ovfErr
  deriving DecidableEq
def Ty.nm : Ty → String
  | .int => "int" | .str => "str" | .bool => "bool" | .tuple => "tuple" | .list => "list" | .dict => "dict" | .none => "NoneType" | .valErr => "ValueError" | .ovfErr => "OverflowError"
inductive MV where
  | non | bl (b : Bool) | int (i : Int) | str (l : CP) | tup (xs : List MV) | ref (n : Nat) | ty (n : Ty) | glo (x : CP) | ro (xs : List MV) | lv (xs : List MV) | exc (c : CP) (ns : List CP) (vs : List MV) | clo (a c : Addr) (q : Str) (ws : List V) (vs : List MV)
abbrev MK := Sum Int CP
def mk : MK → Key
  | .inl i => .inl i
  | .inr l => .inr (S l)
inductive MO where
  | lst (xs : List MV) | dK (kvs : List (MK × MV)) | dZ (kvs : List (MK × MV)) | dT (kvs : List (MV × MV)) | dU (kvs : List (MV × MV)) | ins (c : CP) (fs : List (CP × MV))
abbrev MH := List MO
structure MX where
  c : CP
  fs : List (CP × MV)
inductive R (α : Type) where
  | ok (a : α) (h : MH) | err (x : MX) (h : MH) | stuck
abbrev Sl := List (Option MV)
inductive SR where
  | nx (s : Sl) (h : MH) | rt (v : MV) (h : MH) | bk (s : Sl) (h : MH) | ct (s : Sl) (h : MH) | err (x : MX) (s : Sl) (h : MH) | stuck
abbrev ME := Sl → MH → R MV
abbrev MT := Sl → MH → R Bool
abbrev MA := Sl → MH → R (List MV)
def RoL (K : PySem.W.Frag) (H : Hp) (a : Addr) (xs : List V) : Prop := (∃ o, H a = some (.frz o (.lst xs))) ∨
  ∃ (o : Obj) (its : Array Value) (n : Nat), K.lookup a = some o ∧ o.cls = .type "list" ∧ o.dict = none ∧ o.data = .seq its n ∧ its.size ≤ sizeLine ∧ Vals xs its.toList
def FzL (H : Hp) (a : Addr) (xs : List V) : Prop := ∃ o, H a = some (.frz o (.lst xs))
def exV (a C d : Addr) : HO := .ext fun h => ∃ (oe : Obj) (vs : Array Value), h.get? a = some oe ∧ oe.cls = .ref C ∧ oe.dict = some d ∧ oe.data = .fields vs
def nkO : MV → Option NestedKey
  | .non => some .none
  | .bl b => some (.num (if b then 1 else 0))
  | .int i => some (.num i)
  | .str l => some (.text (S l))
  | .tup xs => (nkL xs).map .tup
  | _ => none
where nkL : List MV → Option (List NestedKey)
  | [] => some []
  | x :: xs => match nkO x, nkL xs with
    | some a, some b => some (a :: b)
    | _, _ => none
def rawD (ww : World) (a : Addr) (xs : List (NestedKey × Addr × Value)) : Heap → Prop := fun h => (a == sysModules) = false ∧ xs.length ≤ sizeLine ∧ (xs.map (·.1)).Nodup ∧ (∀ x ∈ xs, x.1.depth ≤ 8) ∧
  ∃ o es ep, h.get? a = some o ∧ o.ExactDict ∧ o.data = .dict es ep ∧ es.toList = xs.map fun x => (⟨x.1.hash ww, .ref x.2.1, x.2.2⟩ : DictEntry)
def Dictish (φ : Heap → Prop) : Prop := ∃ a, ∀ h : Heap, φ h → ∃ o es ep, h.get? a = some o ∧ o.data = .dict es ep
theorem rawD_ish {ww : World} {a : Addr} {xs : List (NestedKey × Addr × Value)} : Dictish (rawD ww a xs) := ⟨a, fun h ⟨_, _, _, _, o, es, ep, e, _, d, _⟩ => ⟨o, es, ep, e, d⟩⟩
def oneH (n : Nat) (o : Obj) : Heap := { objs := Array.replicate n o }
theorem oneH_at {n a : Nat} {o : Obj} (h : a < n) (hf : ∀ z : Data, o.data = z → z ≠ .freed) : (oneH n o).get? a = some o := by
  unfold Heap.get? oneH
  rw [Array.getElem?_replicate, if_pos h]
  obtain ⟨c, d, z, s⟩ := o
  cases z <;> first | rfl | exact absurd rfl (hf _ rfl)
theorem not_ish {φ : Heap → Prop} {o : Obj} {vs : Array Value} (hd : o.data = .fields vs) {a : Addr} (h : ∀ n, a < n → φ (oneH n o)) : ¬ Dictish φ := fun ⟨b, hb⟩ => by
  have hf : ∀ z, o.data = z → z ≠ .freed := fun z e => by rw [hd] at e; subst e; exact fun q => nomatch q
  obtain ⟨o', es, ep, e, d⟩ := hb _ (h (a + b + 1) (Nat.lt_succ_of_le (Nat.le_add_right a b)))
  rw [oneH_at (show b < a + b + 1 from Nat.lt_succ_of_le (Nat.le_add_left b a)) hf] at e
  cases e
  rw [hd] at d
  cases d
theorem exV_ish {a C d : Addr} : ¬ Dictish fun h => ∃ (oe : Obj) (vs : Array Value), h.get? a = some oe ∧ oe.cls = .ref C ∧ oe.dict = some d ∧ oe.data = .fields vs :=
  not_ish (o := { cls := .ref C, dict := some d, data := .fields #[] }) rfl (a := a) fun n hn => ⟨_, #[], oneH_at hn (fun z e q => by subst e; cases q), rfl, rfl, rfl⟩
theorem code_ish {c : Addr} {q : Str} : ¬ Dictish fun h => ∃ (oc : Obj) (vs : Array Value) (t : Tok), h.get? c = some oc ∧ oc.data = .fields vs ∧ vs[1]? = some (.str q t) :=
  not_ish (o := { cls := .none, data := .fields #[.none, .str q default] }) rfl (a := c) fun n hn => ⟨_, _, _, oneH_at hn (fun z e q => by subst e; cases q), rfl, rfl⟩
structure Kp (K : PySem.W.Frag) (H H' : Hp) : Prop where
  t : ∀ a xs, SqT K H a xs → SqT K H' a xs
  l : ∀ a xs, RoL K H a xs → RoL K H' a xs
  z : ∀ a xs, FzL H a xs → FzL H' a xs
  x : ∀ a φ, ¬ Dictish φ → H a = some (.ext φ) → H' a = some (.ext φ)
  d : ∀ a fs, H a = some (.xd fs) → H' a = some (.xd fs)
theorem Kp.refl {K : PySem.W.Frag} {H : Hp} : Kp K H H := ⟨fun _ _ z => z, fun _ _ z => z, fun _ _ z => z, fun _ _ _ z => z, fun _ _ z => z⟩
def plainO : HO → Prop
  | .tup _ => False
  | .frz _ (.lst _) => False
  | .frz _ (.tup _) => False
  | .ext φ => Dictish φ
  | .xd _ => False
  | .tbl _ => False
  | _ => True
theorem Kp.upd {K : PySem.W.Frag} {H : Hp} {p : Addr} {u : HO} (h : ∀ o, H p = some o → plainO o) : Kp K H (L2.upd H p u) := by
  have key : ∀ {b : Addr} {o : HO}, H b = some o → ¬ plainO o → L2.upd H p u b = some o := fun {b o} e n => by
    rw [upd_ne (fun z => n (h o (by rw [← z]; exact e)))]
    exact e
  refine ⟨fun a xs q => ?_, fun a xs q => ?_, fun a xs ⟨o, q⟩ => ⟨o, key q fun z => z⟩, fun a φ n q => key q n, fun a fs q => key q fun z => z⟩
  · rcases q with (q | ⟨o, q⟩) | q
    · exact .inl (.inl (key q fun z => z))
    · exact .inl (.inr ⟨o, key q fun z => z⟩)
    · exact .inr q
  · rcases q with ⟨o, q⟩ | q
    · exact .inl ⟨o, key q fun z => z⟩
    · exact .inr q
mutual
inductive Rep (K : PySem.W.Frag) (mg : Str → Option Value) (r : List Addr) (H : Hp) : MV → V → Prop
  | non : Rep K mg r H .non .non
  | bl (b : Bool) : Rep K mg r H (.bl b) (.bl b)
  | int (i : Int) : Rep K mg r H (.int i) (.int i)
  | str (l : CP) : Rep K mg r H (.str l) (.str (S l))
  | tup {a : Addr} {xs : List MV} {ys : List V} : SqT K H a ys → RepL K mg r H xs ys → Rep K mg r H (.tup xs) (.ref a)
  | ref {n : Nat} {a : Addr} : r[n]? = some a → Rep K mg r H (.ref n) (.ref a)
  | ty (n : Ty) : Rep K mg r H (.ty n) (.ty n.nm)
  | glo {x : CP} {a : Addr} : mg (S x) = some (.ref a) → Rep K mg r H (.glo x) (.ref a)
  | ro {a : Addr} {xs : List MV} {ys : List V} : RoL K H a ys → RepL K mg r H xs ys → Rep K mg r H (.ro xs) (.ref a)
  | lv {a : Addr} {xs : List MV} {ys : List V} : FzL H a ys → RepL K mg r H xs ys → Rep K mg r H (.lv xs) (.ref a)
  | exc {a C d : Addr} {c : CP} {ns : List CP} {vs : List MV} {ys : List V} : mg (S c) = some (.ref C) → H a = some (exV a C d) → H d = some (.xd ((ns.map S).zip ys)) → ns.length = ys.length → RepL K mg r H vs ys → Rep K mg r H (.exc c ns vs) (.ref a)
  | clo {a c : Addr} {q : Str} {ws : List V} {vs : List MV} : H c = some (LamX.CodeO c q) → RepL K mg r H vs ws → Rep K mg r H (.clo a c q ws vs) (.ref a)
inductive RepL (K : PySem.W.Frag) (mg : Str → Option Value) (r : List Addr) (H : Hp) : List MV → List V → Prop
  | nil : RepL K mg r H [] []
  | cons {v : MV} {x : V} {vs : List MV} {xs : List V} : Rep K mg r H v x → RepL K mg r H vs xs → RepL K mg r H (v :: vs) (x :: xs)
end
section
variable {ww : World} {K : PySem.W.Frag} {mg : Str → Option Value} {r r' : List Addr} {H H' : Hp}
theorem RepL.length : ∀ {vs : List MV} {xs : List V}, RepL K mg r H vs xs → vs.length = xs.length
  | _, _, .nil => rfl
  | _, _, .cons _ t => by rw [List.length_cons, List.length_cons, RepL.length t]
theorem RepL.append : ∀ {vs ws : List MV} {xs ys : List V}, RepL K mg r H vs xs → RepL K mg r H ws ys → RepL K mg r H (vs ++ ws) (xs ++ ys)
  | _, _, _, _, .nil, s => s
  | _, _, _, _, .cons a t, s => .cons a (RepL.append t s)
theorem RepL.take : ∀ {vs : List MV} {xs : List V} (n : Nat), RepL K mg r H vs xs → RepL K mg r H (vs.take n) (xs.take n)
  | _, _, 0, _ => .nil
  | _, _, _ + 1, .nil => .nil
  | _, _, n + 1, .cons a t => .cons a (RepL.take n t)
theorem RepL.drop : ∀ {vs : List MV} {xs : List V} (n : Nat), RepL K mg r H vs xs → RepL K mg r H (vs.drop n) (xs.drop n)
  | _, _, 0, a => a
  | _, _, _ + 1, .nil => .nil
  | _, _, n + 1, .cons _ t => RepL.drop n t
theorem RepL.set {v : MV} {x : V} (a : Rep K mg r H v x) : ∀ {vs : List MV} {xs : List V} (i : Nat), RepL K mg r H vs xs → RepL K mg r H (vs.set i v) (xs.set i x)
  | _, _, _, .nil => .nil
  | _, _, 0, .cons _ t => .cons a t
  | _, _, i + 1, .cons q t => .cons q (RepL.set a i t)
theorem RepL.reverse {vs : List MV} {xs : List V} (h : RepL K mg r H vs xs) : RepL K mg r H vs.reverse xs.reverse := by
  have : ∀ {vs : List MV} {xs : List V} {a : List MV} {b : List V}, RepL K mg r H vs xs → RepL K mg r H a b → RepL K mg r H (vs.reverseAux a) (xs.reverseAux b) := by
    intro vs
    induction vs with
    | nil => intro xs a b h1 h2; cases h1; exact h2
    | cons v vs ih => intro xs a b h1 h2; cases h1 with | cons p q => have z := ih q (.cons p h2); exact z
  exact this h .nil
mutual
theorem Rep.mono (ht : Kp K H H') (hr : ∀ (n : Nat) (a : Addr), r[n]? = some a → r'[n]? = some a) : ∀ (v : MV) (x : V), Rep K mg r H v x → Rep K mg r' H' v x
  | .non, _, h => by cases h; exact .non
  | .bl _, _, h => by cases h; exact .bl _
  | .int _, _, h => by cases h; exact .int _
  | .str _, _, h => by cases h; exact .str _
  | .tup xs, _, h => by
    cases h with
    | tup s q => exact .tup (ht.t _ _ s) (RepL.mono ht hr xs _ q)
  | .ref _, _, h => by cases h with | ref e => exact .ref (hr _ _ e)
  | .ty _, _, h => by cases h; exact .ty _
  | .glo _, _, h => by cases h with | glo e => exact .glo e
  | .ro xs, _, h => by
    cases h with
    | ro s q => exact .ro (ht.l _ _ s) (RepL.mono ht hr xs _ q)
  | .lv xs, _, h => by
    cases h with
    | lv s q => exact .lv (ht.z _ _ s) (RepL.mono ht hr xs _ q)
  | .exc _ _ vs, _, h => by
    cases h with
    | exc m e1 e2 l q => exact .exc m (ht.x _ _ exV_ish e1) (ht.d _ _ e2) l (RepL.mono ht hr vs _ q)
  | .clo _ _ _ ws vs, _, h => by
    cases h with
    | clo e q => exact .clo (ht.x _ _ code_ish e) (RepL.mono ht hr vs ws q)
theorem RepL.mono (ht : Kp K H H') (hr : ∀ (n : Nat) (a : Addr), r[n]? = some a → r'[n]? = some a) : ∀ (vs : List MV) (xs : List V), RepL K mg r H vs xs → RepL K mg r' H' vs xs
  | [], _, h => by cases h; exact .nil
  | v :: vs, _, h => by cases h with | cons p q => exact .cons (Rep.mono ht hr v _ p) (RepL.mono ht hr vs _ q)
end
end

abbrev RepF (K : PySem.W.Frag) (mg : Str → Option Value) (r : List Addr) (H : Hp) : List (CP × MV) → List (Str × V) → Prop := Paired fun p q => q.1 = S p.1 ∧ Rep K mg r H p.2 q.2
abbrev RepK (K : PySem.W.Frag) (mg : Str → Option Value) (r : List Addr) (H : Hp) : List (MK × MV) → List (Key × V) → Prop := Paired fun p q => q.1 = mk p.1 ∧ Rep K mg r H p.2 q.2
abbrev RepT (K : PySem.W.Frag) (mg : Str → Option Value) (r : List Addr) (H : Hp) : List (MV × MV) → List (NestedKey × Addr × Value) → Prop := Paired fun p x => nkO p.1 = some x.1 ∧ Rep K mg r H p.1 (.ref x.2.1) ∧ ∃ y, RelV y x.2.2 ∧ Rep K mg r H p.2 y
def RepO (ww : World) (K : PySem.W.Frag) (mg : Str → Option Value) (r : List Addr) (H : Hp) (o : MO) (u : Option HO) : Prop := match o with
  | .lst xs => ∃ ys, u = some (.lst ys) ∧ RepL K mg r H xs ys
  | .dK kvs => ∃ ys, u = some (.dK ys) ∧ RepK K mg r H kvs ys
  | .dZ kvs => ∃ o ys, u = some (.frz o (.dK ys)) ∧ RepK K mg r H kvs ys
  | .dT kvs => ∃ a xs, u = some (.ext (rawD ww a xs)) ∧ RepT K mg r H kvs xs
  | .dU kvs => ∃ o a xs, u = some (.frz o (.ext (rawD ww a xs))) ∧ RepT K mg r H kvs xs
  | .ins c fs => ∃ C dx ys, mg (S c) = some (.ref C) ∧ u = some (.ins C dx ys) ∧ RepF K mg r H fs ys
def codeTab : Obj → Option (Addr × Str)
  | ⟨.type "code", _, .fields vs, _⟩ => match (vs[11]? : Option Value), (vs[1]? : Option Value) with
    | some (.ref P), some (.str n _) => some (P, n ++ ".<locals>." ++ "<lambda>")
    | _, _ => none
  | _ => none
def tabs3 (K : PySem.W.Frag) : List (Addr × Addr × Str) := K.filterMap fun p => match codeTab p.2 with
  | some q => if (K.lookup q.1).isNone && PySem.W.codeHdIn K p.1 q.1 then some (p.1, q) else none
  | none => none
def tabsK (K : PySem.W.Frag) : List (Addr × Str) := (tabs3 K).map (·.2)
abbrev tabA (K : PySem.W.Frag) : List Addr := (tabs3 K).map (·.2.1)
def noTbl (o : HO) : Prop := ∀ ps, o ≠ .tbl ps
def OkT (K : PySem.W.Frag) (b : Addr) (o : HO) : Prop := noTbl o ∨ b ∈ tabA K
structure HS (ww : World) (K : PySem.W.Frag) (mg : Str → Option Value) (r : List Addr) (h : MH) (H : Hp) : Prop where
  len : r.length = h.length
  nd : r.Nodup
  at_ : ∀ (n : Nat) (o : MO) (a : Addr), h[n]? = some o → r[n]? = some a → RepO ww K mg r H o (H a)
  tb : LamX.Tabs (tabsK K) H
def HK (o : HO) (u : Option HO) : Prop := ∃ o', u = some o' ∧ (noTbl o → o' = o)
theorem HK.of {o : HO} {u : Option HO} (e : u = some o) : HK o u := ⟨o, e, fun _ => rfl⟩
structure Post (ww : World) (K : PySem.W.Frag) (mg : Str → Option Value) (r : List Addr) (H : Hp) (r' : List Addr) (h' : MH) (H' : Hp) : Prop where
  pre : ∃ t, r' = r ++ t
  hs : HS ww K mg r' h' H'
  fr : ∀ b o, b ∉ r → H b = some o → OkT K b o → b ∉ r' ∧ HK o (H' b)
  fz : ∀ b o u, H b = some (.frz o u) → H' b = some (.frz o u)
section
variable {ww : World} {K : PySem.W.Frag} {mg : Str → Option Value} {r r' r2 : List Addr} {h h' h2 : MH} {H H' H2 : Hp}
theorem HS.plain (x : HS ww K mg r h H) {a : Addr} (hm : a ∈ r) : ∃ o, H a = some o ∧ plainO o := by
  obtain ⟨n, hn, e1⟩ := List.getElem_of_mem hm
  have hl : n < h.length := by rw [← x.len]; exact hn
  have q := x.at_ n h[n] a (by simp [hl]) (by simp [hn, e1])
  cases ho : h[n] with
  | lst xs => rw [ho] at q; obtain ⟨ys, e, _⟩ := q; exact ⟨_, e, trivial⟩
  | dK xs => rw [ho] at q; obtain ⟨ys, e, _⟩ := q; exact ⟨_, e, trivial⟩
  | dZ xs => rw [ho] at q; obtain ⟨o, ys, e, _⟩ := q; exact ⟨_, e, trivial⟩
  | dT xs => rw [ho] at q; obtain ⟨_, ys, e, _⟩ := q; exact ⟨_, e, rawD_ish⟩
  | dU xs => rw [ho] at q; obtain ⟨_, _, ys, e, _⟩ := q; exact ⟨_, e, trivial⟩
  | ins c fs => rw [ho] at q; obtain ⟨C, dx, ys, _, e, _⟩ := q; exact ⟨_, e, trivial⟩
theorem HS.notPlain (x : HS ww K mg r h H) {a : Addr} {o : HO} (e : H a = some o) (n : ¬ plainO o) : a ∉ r := fun hm => by
  obtain ⟨o', e', p⟩ := x.plain hm
  rw [e] at e'
  cases e'
  exact n p
theorem HS.notNone (x : HS ww K mg r h H) {a : Addr} (e : H a = none) : a ∉ r := fun hm => by
  obtain ⟨o', e', p⟩ := x.plain hm
  rw [e] at e'
  cases e'
theorem Post.keep (p : Post ww K mg r H r' h' H') {b : Addr} {o : HO} (n : b ∉ r) (e : H b = some o) (t : noTbl o) : H' b = some o := by
  obtain ⟨o', e', q⟩ := (p.fr b o n e (.inl t)).2
  rw [e', q t]
theorem Post.kp (p : Post ww K mg r H r' h' H') (x : HS ww K mg r h H) : Kp K H H' := by
  refine ⟨fun a xs q => ?_, fun a xs q => ?_, fun a xs ⟨o, q⟩ => ⟨o, p.fz a o _ q⟩, fun a φ n q => (p.keep (x.notPlain q n) q (fun _ z => by cases z)), fun a fs q => (p.keep (x.notPlain q fun z => z) q (fun _ z => by cases z))⟩
  · rcases q with (q | ⟨o, q⟩) | q
    · exact .inl (.inl (p.keep (x.notPlain q fun z => z) q (fun _ z => by cases z)))
    · exact .inl (.inr ⟨o, (p.keep (x.notPlain q fun z => z) q (fun _ z => by cases z))⟩)
    · exact .inr q
  · rcases q with ⟨o, q⟩ | q
    · exact .inl ⟨o, (p.keep (x.notPlain q fun z => z) q (fun _ z => by cases z))⟩
    · exact .inr q
theorem Post.ix (p : Post ww K mg r H r' h' H') : ∀ (n : Nat) (a : Addr), r[n]? = some a → r'[n]? = some a := fun n a e => by
  obtain ⟨t, rfl⟩ := p.pre
  rw [List.getElem?_append_left (List.getElem?_eq_some_iff.mp e).1]
  exact e
theorem Post.rep (p : Post ww K mg r H r' h' H') (x : HS ww K mg r h H) {v : MV} {y : V} (q : Rep K mg r H v y) : Rep K mg r' H' v y := Rep.mono (p.kp x) p.ix _ _ q
theorem Post.repL (p : Post ww K mg r H r' h' H') (x : HS ww K mg r h H) {v : List MV} {y : List V} (q : RepL K mg r H v y) : RepL K mg r' H' v y := RepL.mono (p.kp x) p.ix _ _ q
theorem Post.refl (x : HS ww K mg r h H) : Post ww K mg r H r h H := ⟨⟨[], by simp⟩, x, fun _ _ n e _ => ⟨n, HK.of e⟩, fun _ _ _ e => e⟩
theorem Post.trans (a : Post ww K mg r H r' h' H') (b : Post ww K mg r' H' r2 h2 H2) : Post ww K mg r H r2 h2 H2 := by
  refine ⟨?_, b.hs, fun c o n e t => ?_, fun c o u e => b.fz c o u (a.fz c o u e)⟩
  · obtain ⟨t, rfl⟩ := a.pre
    obtain ⟨u, rfl⟩ := b.pre
    exact ⟨t ++ u, by simp⟩
  · obtain ⟨n1, o1, e1, q1⟩ := a.fr c o n e t
    obtain ⟨n2, o2, e2, q2⟩ := b.fr c o1 n1 e1 (t.imp (fun t => by rw [q1 t]; exact t) fun z => z)
    exact ⟨n2, o2, e2, fun t => by
      have z := q1 t
      rw [z] at q2
      exact q2 t⟩
theorem paired_mono {α β : Type} {F G : α → β → Prop} (fg : ∀ a b, F a b → G a b) : ∀ {l : List α} {l' : List β}, Paired F l l' → Paired G l l'
  | _, _, .nil => .nil
  | _, _, .cons q t => .cons (fg _ _ q) (paired_mono fg t)
theorem RepO.mono (ht : Kp K H H') (hr : ∀ (n : Nat) (a : Addr), r[n]? = some a → r'[n]? = some a) {o : MO} {u : Option HO} (q : RepO ww K mg r H o u) : RepO ww K mg r' H' o u := by
  cases o with
  | lst xs => obtain ⟨ys, e, p⟩ := q; exact ⟨ys, e, RepL.mono ht hr _ _ p⟩
  | dK kvs => obtain ⟨ys, e, p⟩ := q; exact ⟨ys, e, paired_mono (fun _ _ z => ⟨z.1, Rep.mono ht hr _ _ z.2⟩) p⟩
  | dZ kvs => obtain ⟨o, ys, e, p⟩ := q; exact ⟨o, ys, e, paired_mono (fun _ _ z => ⟨z.1, Rep.mono ht hr _ _ z.2⟩) p⟩
  | dT kvs => obtain ⟨a, ys, e, p⟩ := q; exact ⟨a, ys, e, paired_mono (fun _ _ ⟨z1, z2, y, z3, z4⟩ => ⟨z1, Rep.mono ht hr _ _ z2, y, z3, Rep.mono ht hr _ _ z4⟩) p⟩
  | dU kvs => obtain ⟨o, a, ys, e, p⟩ := q; exact ⟨o, a, ys, e, paired_mono (fun _ _ ⟨z1, z2, y, z3, z4⟩ => ⟨z1, Rep.mono ht hr _ _ z2, y, z3, Rep.mono ht hr _ _ z4⟩) p⟩
  | ins c fs => obtain ⟨C, dx, ys, m, e, p⟩ := q; exact ⟨C, dx, ys, m, e, paired_mono (fun _ _ z => ⟨z.1, Rep.mono ht hr _ _ z.2⟩) p⟩
theorem tabs_upd {H : Hp} {p : Addr} {u : HO} (h : ∀ o, H p = some o → plainO o) {T : List (Addr × Str)} (t : LamX.Tabs T H) : LamX.Tabs T (upd H p u) := fun q hq => by
  obtain ⟨ps, h1, h2, h3⟩ := t q hq
  have key : ∀ {b : Addr} {o : HO}, H b = some o → ¬ plainO o → upd H p u b = some o := fun {b o} e n => by
    rw [upd_ne (fun z => n (h o (by rw [← z]; exact e)))]
    exact e
  refine ⟨ps, key h1 fun z => z, h2, fun pos cv hc => ?_⟩
  obtain ⟨c, e1, e2⟩ := h3 pos cv hc
  exact ⟨c, e1, key e2 code_ish⟩
theorem plain_none {H : Hp} {p : Addr} (hp : H p = none) : ∀ o, H p = some o → plainO o := fun o e => by rw [hp] at e; cases e
theorem HS.extra (x : HS ww K mg r h H) {p : Addr} {u : HO} (hp : H p = none) : Post ww K mg r H r h (upd H p u) := by
  have hnot : ∀ (n : Nat) (a : Addr), r[n]? = some a → a ≠ p := fun n a e z => x.notNone hp (z ▸ List.mem_of_getElem? e)
  have ht : Kp K H (upd H p u) := Kp.upd fun o e => by rw [hp] at e; cases e
  refine ⟨⟨[], by simp⟩, ⟨x.len, x.nd, fun n o a e1 e2 => ?_, tabs_upd (plain_none hp) x.tb⟩, fun b o n e _ => ⟨n, HK.of (by rw [upd_ne (ne_of_none e hp)]; exact e)⟩, fun b o u e => by rw [upd_ne (ne_of_none e hp)]; exact e⟩
  rw [upd_ne (hnot n a e2)]
  exact (x.at_ n o a e1 e2).mono ht fun _ _ z => z
theorem HS.new (x : HS ww K mg r h H) {p : Addr} {u : HO} {o : MO} (hp : H p = none) (hu : RepO ww K mg (r ++ [p]) (upd H p u) o (some u)) : Post ww K mg r H (r ++ [p]) (h ++ [o]) (upd H p u) := by
  have hnot : ∀ (n : Nat) (a : Addr), r[n]? = some a → a ≠ p := fun n a e z => x.notNone hp (z ▸ List.mem_of_getElem? e)
  have hpr : p ∉ r := fun hm => by
    obtain ⟨n, hn, e1⟩ := List.getElem_of_mem hm
    exact hnot n p (by simp [hn, e1]) rfl
  have ht : Kp K H (upd H p u) := Kp.upd fun o e => by rw [hp] at e; cases e
  have hr : ∀ (n : Nat) (a : Addr), r[n]? = some a → (r ++ [p])[n]? = some a := fun n a e => by
    rw [List.getElem?_append_left (List.getElem?_eq_some_iff.mp e).1]
    exact e
  refine ⟨⟨[p], rfl⟩, ⟨by simp [x.len], ?_, fun n o' a e1 e2 => ?_, tabs_upd (plain_none hp) x.tb⟩, fun b o' n e _ => ⟨?_, HK.of (by rw [upd_ne (ne_of_none e hp)]; exact e)⟩, fun b o u e => by rw [upd_ne (ne_of_none e hp)]; exact e⟩
  · rw [List.nodup_append]
    refine ⟨x.nd, by simp, fun a ha b hb z => ?_⟩
    have : b = p := by simpa using hb
    subst this
    subst z
    exact hpr ha
  · by_cases hn : n < r.length
    · have hl : n < h.length := by rw [← x.len]; exact hn
      rw [List.getElem?_append_left hn] at e2
      rw [List.getElem?_append_left hl] at e1
      rw [upd_ne (hnot n a e2)]
      exact (x.at_ n o' a e1 e2).mono ht hr
    · have hn' : r.length ≤ n := by omega
      have hl' : h.length ≤ n := by rw [← x.len]; exact hn'
      rw [List.getElem?_append_right hn'] at e2
      rw [List.getElem?_append_right hl'] at e1
      have z : n - r.length = 0 := by
        have := (List.getElem?_eq_some_iff.mp e2).1
        simp at this
        omega
      rw [z] at e2
      rw [← x.len, z] at e1
      simp at e1 e2
      subst e1 e2
      rw [upd_same]
      exact hu
  · intro hm
    rcases List.mem_append.mp hm with z | z
    · exact n z
    · have : b = p := by simpa using z
      subst this
      rw [hp] at e; cases e
theorem HS.put (x : HS ww K mg r h H) {n : Nat} {p : Addr} {u : HO} {o : MO} (hp : r[n]? = some p) (hu : RepO ww K mg r (upd H p u) o (some u)) (hz : ∀ o' u', H p ≠ some (.frz o' u')) : Post ww K mg r H r (h.set n o) (upd H p u) := by
  have hpr : p ∈ r := List.mem_of_getElem? hp
  have hpl : ∀ o, H p = some o → plainO o := fun o e => by
    obtain ⟨o', e', q⟩ := x.plain hpr
    rw [e] at e'
    cases e'
    exact q
  have ht : Kp K H (upd H p u) := Kp.upd hpl
  refine ⟨⟨[], by simp⟩, ⟨by simp [x.len], x.nd, fun m o' a e1 e2 => ?_, tabs_upd hpl x.tb⟩, fun b o' n e _ => ⟨n, HK.of (by rw [upd_ne (fun (z : b = p) => n (by rw [z]; exact hpr))]; exact e)⟩, fun b o u e => by rw [upd_ne (fun (z : b = p) => hz o u (by rw [← z]; exact e))]; exact e⟩
  have hnl : n < r.length := (List.getElem?_eq_some_iff.mp hp).1
  by_cases hm : m = n
  · subst hm
    rw [hp] at e2
    cases e2
    rw [List.getElem?_set_self (by rw [← x.len]; exact hnl)] at e1
    cases e1
    rw [upd_same]
    exact hu
  · rw [List.getElem?_set_ne (Ne.symm hm)] at e1
    have hne : a ≠ p := fun z => by
      subst z
      obtain ⟨h1, q1⟩ := List.getElem?_eq_some_iff.mp e2
      obtain ⟨h2, q2⟩ := List.getElem?_eq_some_iff.mp hp
      exact hm ((List.getElem_inj x.nd).mp (q1.trans q2.symm))
    rw [upd_ne hne]
    exact (x.at_ m o' a e1 e2).mono ht fun _ _ z => z
theorem HS.lookup (x : HS ww K mg r h H) {n : Nat} {p : Addr} (hp : r[n]? = some p) {o : MO} (ho : h[n]? = some o) : RepO ww K mg r H o (H p) := x.at_ n o p ho hp
end

structure SS (K : PySem.W.Frag) (mg : Str → Option Value) (r : List Addr) (H : Hp) (m : Sl) (s : L2.St) : Prop where
  len : m.length = s.length
  at_ : ∀ (i : Nat) (v : MV), m[i]? = some (some v) → ∃ x, s[i]? = some (some x) ∧ Rep K mg r H v x
section
variable {ww : World} {K : PySem.W.Frag} {mg : Str → Option Value} {r r' : List Addr} {h h' : MH} {H H' : Hp} {m : Sl} {s : L2.St}
theorem SS.set (y : SS K mg r H m s) {v : MV} {x : V} (q : Rep K mg r H v x) (i : Nat) : SS K mg r H (m.set i (some v)) (s.set i (some x)) := by
  refine ⟨by simp [y.len], fun j w e => ?_⟩
  by_cases hj : i = j
  · subst hj
    have hl : i < m.length := by
      have := (List.getElem?_eq_some_iff.mp e).1
      simpa using this
    rw [List.getElem?_set_self hl] at e
    cases e
    rw [List.getElem?_set_self (by rw [← y.len]; exact hl)]
    exact ⟨x, rfl, q⟩
  · rw [List.getElem?_set_ne hj] at e
    rw [List.getElem?_set_ne hj]
    exact y.at_ j w e
end

def RepX (K : PySem.W.Frag) (mg : Str → Option Value) (r : List Addr) (H : Hp) (x : MX) (cls : Value) (d : Option Addr) : Prop :=
  ∃ C dd ys, mg (S x.c) = some (.ref C) ∧ cls = .ref C ∧ d = some dd ∧ dd ∉ r ∧ H dd = some (.xd ys) ∧ RepF K mg r H x.fs ys
section
variable (ww : World) (K : PySem.W.Frag) (mg : Str → Option Value) (W : WX)
def Wt {α β : Type} (rel : List Addr → Hp → α → β → Prop) (r : List Addr) (H : Hp) (E : XK) (Q : β → Hp → Prop) (x : R α) : Prop := match x with
  | .ok v h' => ∀ r' H' y, Post ww K mg r H r' h' H' → rel r' H' v y → Q y H'
  | .err e h' => ∀ r' H' cls d, Post ww K mg r H r' h' H' → RepX K mg r' H' e cls d → E cls d H'
  | .stuck => False
def WtS (r : List Addr) (H : Hp) (D : Ends) (x : SR) : Prop := match x with
  | .nx sm h' => ∀ r' s' H', Post ww K mg r H r' h' H' → SS K mg r' H' sm s' → D.nx s' H'
  | .rt v h' => ∀ r' H' y, Post ww K mg r H r' h' H' → Rep K mg r' H' v y → D.rt y H'
  | .bk sm h' => ∀ r' s' H', Post ww K mg r H r' h' H' → SS K mg r' H' sm s' → D.bk s' H'
  | .ct sm h' => ∀ r' s' H', Post ww K mg r H r' h' H' → SS K mg r' H' sm s' → D.ct s' H'
  | .err e sm h' => ∀ r' s' H' cls d, Post ww K mg r H r' h' H' → SS K mg r' H' sm s' → RepX K mg r' H' e cls d → W cls d s' H'
  | .stuck => False
end
section
variable {ww : World} {K : PySem.W.Frag} {mg : Str → Option Value} {W : WX}
theorem Wt.imp {α β : Type} {rel : List Addr → Hp → α → β → Prop} {r : List Addr} {H : Hp} {E E' : XK} {Q Q' : β → Hp → Prop} {x : R α} (h : Wt ww K mg rel r H E Q x) (hE : ∀ c d H', E c d H' → E' c d H') (hQ : ∀ y H', Q y H' → Q' y H') : Wt ww K mg rel r H E' Q' x := by
  cases x with
  | stuck => exact h
  | err e h' => exact fun r' H' cls d p q => hE _ _ _ (h r' H' cls d p q)
  | ok v h' => exact fun r' H' y p q => hQ _ _ (h r' H' y p q)
end
end MP

end
section
namespace MP
open PySem PySem.Spec PyProof.Rows L2

theorem S_inj {a b : CP} (h : S a = S b) : a = b := by
  have := congrArg (fun z => z.cps.toList) h
  simpa [S] using this
theorem Wt.plain {ww : World} {K : PySem.W.Frag} {mg : Str → Option Value} {r : List Addr} {h : MH} {H : Hp} {E : XK} {Q : VK} {v : MV} {x : V} (hs : HS ww K mg r h H) (w : Wt ww K mg (Rep K mg) r H E Q (.ok v h)) (q : Rep K mg r H v x) : Q x H := w r H x (Post.refl hs) q

section
variable {X : Cx}
def lstAt (h : MH) (n : Nat) : Option (List MV) := match h[n]? with
  | some (.lst xs) => some xs
  | _ => none
theorem HS.list {ww : World} {K : PySem.W.Frag} {mg : Str → Option Value} {r : List Addr} {h : MH} {H : Hp} (hs : HS ww K mg r h H) {n : Nat} {p : Addr} {xs : List MV} (e : r[n]? = some p) (l : lstAt h n = some xs) : ∃ ys, SqL K H p ys ∧ RepL K mg r H xs ys := by
  unfold lstAt at l
  split at l
  · rename_i zs hz
    cases l
    obtain ⟨ys, e1, q⟩ := hs.lookup e hz
    exact ⟨ys, SqL.of e1, q⟩
  · cases l

theorem RepL.rep {K : PySem.W.Frag} {mg : Str → Option Value} {r : List Addr} {H : Hp} {xs : List MV} {ys : List V} (q : RepL K mg r H xs ys) : ∀ n : Nat, RepL K mg r H (List.replicate n xs).flatten (List.replicate n ys).flatten
  | 0 => .nil
  | n + 1 => by
    rw [List.replicate_succ, List.replicate_succ, List.flatten_cons, List.flatten_cons]
    exact q.append (RepL.rep q n)
end
end MP

end
section
namespace MP
open PySem PySem.Spec PyProof.Rows L2
mutual
def kEq : MV → MV → Bool
  | .non, .non => true
  | .bl a, .bl b => a == b
  | .bl a, .int b => (if a then 1 else 0) == b
  | .int a, .bl b => a == (if b then 1 else 0)
  | .int a, .int b => a == b
  | .str a, .str b => a == b
  | .tup a, .tup b => kEqs a b
  | _, _ => false
def kEqs : List MV → List MV → Bool
  | [], [] => true
  | a :: as, b :: bs => kEq a b && kEqs as bs
  | _, _ => false
end
section
variable {K : PySem.W.Frag} {mg : Str → Option Value} {r r' : List Addr} {H : Hp}
mutual
theorem Rep.data : ∀ (v : MV) (x : V) (k : NestedKey), nkO v = some k → Rep K mg r H v x → Rep K mg r' H v x
  | .non, _, _, _, h => by cases h; exact .non
  | .bl _, _, _, _, h => by cases h; exact .bl _
  | .int _, _, _, _, h => by cases h; exact .int _
  | .str _, _, _, _, h => by cases h; exact .str _
  | .tup xs, _, k, e, h => by
    simp only [nkO, Option.map_eq_some_iff] at e
    obtain ⟨ks, e1, _⟩ := e
    cases h with
    | tup s q => exact .tup s (RepL.data xs _ ks e1 q)
  | .ref _, _, _, e, _ => by simp [nkO] at e
  | .ty _, _, _, e, _ => by simp [nkO] at e
  | .glo _, _, _, e, _ => by simp [nkO] at e
  | .ro _, _, _, e, _ => by simp [nkO] at e
  | .lv _, _, _, e, _ => by simp [nkO] at e
  | .exc _ _ _, _, _, e, _ => by simp [nkO] at e
  | .clo _ _ _ _ _, _, _, e, _ => by simp [nkO] at e
theorem RepL.data : ∀ (vs : List MV) (xs : List V) (k : List NestedKey), nkO.nkL vs = some k → RepL K mg r H vs xs → RepL K mg r' H vs xs
  | [], _, _, _, h => by cases h; exact .nil
  | v :: vs, _, k, e, h => by
    simp only [nkO.nkL] at e
    split at e
    · rename_i a b h1 h2
      cases h with
      | cons p q => exact .cons (Rep.data v _ a h1 p) (RepL.data vs _ b h2 q)
    · cases e
end
end
end MP

end
section
namespace MP
end MP

end
section
namespace MP
open PySem PySem.Spec PyProof.Rows L2

section
variable {ww : World} {K : PySem.W.Frag} {mg : Str → Option Value} {W : WX} {r : List Addr} {h : MH} {H : Hp}
theorem WtS.nx {D : Ends} {sm : Sl} {s : L2.St} (hs : HS ww K mg r h H) (ss : SS K mg r H sm s) (w : WtS ww K mg W r H D (.nx sm h)) : D.nx s H := w r s H (Post.refl hs) ss
theorem WtS.rt {D : Ends} {v : MV} {x : V} (hs : HS ww K mg r h H) (q : Rep K mg r H v x) (w : WtS ww K mg W r H D (.rt v h)) : D.rt x H := w r H x (Post.refl hs) q
end
end MP

end
section
namespace MP
open PySem PySem.Spec PyProof.Rows L2

inductive MIt where
  | items (xs : List MV)
  | lst (n : Nat)
  | enumL (n : Nat)
  | zipL (n m : Nat)
  | keyZ (n : Nat)
  | itemZ (n : Nat)
  | itemU (n : Nat)
def keyV : MK → MV
  | .inl i => .int i
  | .inr l => .str l
def MIt.at (it : MIt) (h : MH) (i : Nat) : Option (Option MV) := match it with
  | .items xs => some xs[i]?
  | .lst n => (lstAt h n).map fun xs => xs[i]?
  | .enumL n => (lstAt h n).map fun xs => xs[i]?.map fun x => .tup [.int i, x]
  | .zipL n m => match lstAt h n, lstAt h m with
    | some xs, some ys => some (match xs[i]?, ys[i]? with
      | some x, some y => some (.tup [x, y])
      | _, _ => none)
    | _, _ => none
  | .keyZ n => match h[n]? with
    | some (.dZ kvs) => some (kvs[i]?.map fun p => keyV p.1)
    | _ => none
  | .itemZ n => match h[n]? with
    | some (.dZ kvs) => some (kvs[i]?.map fun p => .tup [keyV p.1, p.2])
    | _ => none
  | .itemU n => match h[n]? with
    | some (.dU kvs) => some (kvs[i]?.map fun p => .tup [p.1, p.2])
    | _ => none
abbrev MI := Sl → MH → R MIt
end MP

end
section
namespace MP
open PySem PySem.Spec PyProof.Rows L2
structure RoomG (k : Nat) (A : Around) : Prop extends Room k A where
  gd : A.guards = some []
theorem RoomG.mono {j k : Nat} {A : Around} (r : RoomG k A) (h : j ≤ k) : RoomG j A := ⟨r.toRoom.mono h, r.gd⟩
structure FnG (P : Program) (w : World) (K : PySem.W.Frag) (mg : Str → Option Value) (base : Heap) (C : CXT) (k : Nat) (f : Addr) (fd : FuncData) (ps : List Str) (sp : Sp) : Prop where
  len : ∀ vs H Q E, sp vs H Q E → vs.length = ps.length
  run : ∀ (A : Around) (outer : List Env) (s : Shared) (H : Hp) (args : Args) (us : List Value) (vs : List V) (Q : VK) (E : XK), RoomG k A → Env0 P w K mg base A outer s H → BindsTo s fd args (ps.zip us) → Vals vs us → sp vs H Q E → codeAny (model P w) A (.call (.ref f) args) (CR C outer P w H s Q E) s
section
variable {P : Program} {w : World} {K : PySem.W.Frag} {mg : Str → Option Value} {base : Heap} {C : CXT} {j k : Nat} {f : Addr} {fd : FuncData} {ps : List Str} {sp sp' : Sp}
theorem FnG.imp (F : FnG P w K mg base C k f fd ps sp) (h : ∀ vs H Q E, sp' vs H Q E → sp vs H Q E) : FnG P w K mg base C k f fd ps sp' :=
  ⟨fun vs H Q E q => F.len vs H Q E (h vs H Q E q), fun A outer s H args us vs Q E r e b v q => F.run A outer s H args us vs Q E r e b v (h vs H Q E q)⟩
end
abbrev tabO : Obj := { cls := .none, data := .fields #[] }
abbrev TabsB (K : PySem.W.Frag) (mg : Str → Option Value) (base : Heap) : Prop := ∀ p ∈ tabs3 K, LamX.TabB base mg p.1 p.2.1
end MP

end
section
namespace MP
open PySem PySem.Spec PyProof.Rows L2

abbrev MF := List MV → MH → R MV
def spM (ww : World) (K : PySem.W.Frag) (mg : Str → Option Value) (np : Nat) (m : MF) : Sp := fun vs H Q E => vs.length = np ∧ ∃ r h as, HS ww K mg r h H ∧ RepL K mg r H as vs ∧ Wt ww K mg (Rep K mg) r H E Q (m as h)
abbrev FnM (P : Program) (w : World) (K : PySem.W.Frag) (mg : Str → Option Value) (base : Heap) (k : Nat) (f : Addr) (fd : FuncData) (ps : List Str) (m : MF) : Prop := FnG P w K mg base (L2.CX P w) k f fd ps (spM w K mg ps.length m)
structure Fn (P : Program) (w : World) (K : PySem.W.Frag) (mg : Str → Option Value) (base : Heap) (x : Str) (k np : Nat) (m : MF) : Prop where
  ex : ∃ f fd ps, ps.length = np ∧ FnM P w K mg base k f fd ps m ∧ mg x = some (.ref f) ∧ PySem.W.keepIn K (.ref f) = true ∧ Binds K fd ps []
structure Mt (P : Program) (w : World) (K : PySem.W.Frag) (mg : Str → Option Value) (base : Heap) (c x : Str) (k np : Nat) (m : MF) : Prop where
  ex : ∃ C f fd ps, ps.length = np ∧ FnM P w K mg base k f fd ps m ∧ mg c = some (.ref C) ∧ Cls K C ∧ Meth K C x f ∧ Binds K fd ps []
structure Mkr (P : Program) (w : World) (K : PySem.W.Frag) (mg : Str → Option Value) (base : Heap) (c : Str) (k np : Nat) (m : MF) : Prop where
  ex : ∃ C f fd ps, ps.length = np ∧ FnM P w K mg base k f fd ps m ∧ mg c = some (.ref C) ∧ Mk K C f ∧ Binds K fd ps []
section
variable {X : Cx} {W : WX} {e o : Expr} {es : List Expr} {mo : ME} {ms : MA} {k j np : Nat} {m : MF} {x c : Str} {p pos apos : Pos}
def setF (f : CP) (v : MV) : List (CP × MV) → List (CP × MV)
  | [] => [(f, v)]
  | p :: r => if p.1 == f then (f, v) :: r else p :: setF f v r
theorem RepF.set {K : PySem.W.Frag} {mg : Str → Option Value} {r : List Addr} {H : Hp} {f : CP} {v : MV} {x : V} (q : Rep K mg r H v x) : ∀ {fs : List (CP × MV)} {ys : List (Str × V)}, RepF K mg r H fs ys → RepF K mg r H (setF f v fs) (putF (S f) x ys)
  | _, _, .nil => .cons ⟨rfl, q⟩ .nil
  | _, _, .cons (a := p) (b := y) e t => by
    obtain ⟨y, z⟩ := y
    have e1 : y = S p.1 := e.1
    simp only [setF, putF]
    by_cases hf : p.1 = f
    · rw [if_pos (by rw [hf]; exact beq_self_eq_true _), if_pos (by rw [e1, hf])]
      exact .cons ⟨by first | rfl | (show y = S f; rw [e1, hf]), q⟩ t
    · rw [if_neg (by rw [beq_iff_eq]; exact hf), if_neg (by rw [e1]; exact fun z => hf (S_inj z))]
      exact .cons e (RepF.set q t)
end
end MP

end
section
namespace MP
open PySem PySem.Spec PyProof.Rows L2
mutual
def sSh : MV → MV → Bool
  | .non, .non => true
  | .bl _, .bl _ => true
  | .int _, .int _ => true
  | .str _, .str _ => true
  | .tup a, .tup b => sShs a b
  | _, _ => false
def sShs : List MV → List MV → Bool
  | [], [] => true
  | x :: a, y :: b => sSh x y && sShs a b
  | _, _ => false
end
def cLt : CP → CP → Bool
  | [], [] => false
  | [], _ :: _ => true
  | _ :: _, [] => false
  | a :: x, b :: y => Nat.blt a b || (Nat.beq a b && cLt x y)
mutual
def sLt : MV → MV → Bool
  | .bl a, .bl b => !a && b
  | .int a, .int b => decide (a < b)
  | .str a, .str b => cLt a b
  | .tup a, .tup b => sLts a b
  | _, _ => false
def sLts : List MV → List MV → Bool
  | x :: a, y :: b => if kEq x y then sLts a b else sLt x y
  | _, _ => false
end
end MP

end
section
end
section
namespace MP
open PySem PySem.Spec PyProof.Rows L2

abbrev FA := List MV → MH → Option (MV × MH)
section
variable {X : Cx} {W : WX} {e o : Expr} {es : List Expr} {ms : MA} {mo : ME} {x : Str} {p pos apos : Pos} {f : FA}
theorem HS.putL {ww : World} {K : PySem.W.Frag} {mg : Str → Option Value} {r : List Addr} {h : MH} {H : Hp} (hs : HS ww K mg r h H) {n : Nat} {p : Addr} (en : r[n]? = some p) {xs : List MV} {ys : List V} (q : RepL K mg r H xs ys) {zs : List V} (e0 : H p = some (.lst zs)) :
    Post ww K mg r H r (h.set n (.lst xs)) (upd H p (.lst ys)) := by
  have hpr : p ∈ r := List.mem_of_getElem? en
  have ht : Kp K H (upd H p (.lst ys)) := Kp.upd fun o e => by
    obtain ⟨o', e', q⟩ := hs.plain hpr
    rw [e] at e'
    cases e'
    exact q
  exact hs.put en ⟨_, rfl, RepL.mono ht (fun _ _ z => z) _ _ q⟩ (fun _ _ z => by rw [e0] at z; cases z)
end
end MP

end
section
end
section
namespace MP
open PySem PySem.Spec PyProof.Rows L2

inductive Tg where
  | one (i : Nat)
  | row (is : List Nat)
def setAll (s : Sl) : List Nat → List MV → Option Sl
  | [], [] => some s
  | i :: is, v :: vs => setAll (s.set i (some v)) is vs
  | _, _ => none
def Tg.run (t : Tg) (v : MV) (s : Sl) : Option Sl := match t with
  | .one i => some (s.set i (some v))
  | .row is => match v with
    | .tup xs => setAll s is xs
    | _ => none
def tgs : List Nat → TGs
  | [] => gNil
  | i :: is => gCons (gName i) (tgs is)
def Tg.tg (K : PySem.W.Frag) (t : Tg) : TG := match t with
  | .one i => gName i
  | .row is => gTup K is.length (tgs is)
def Tg.own (t : Tg) : List Nat := match t with
  | .one i => [i]
  | .row is => is
section
variable {X : Cx} {W : WX} {elt tg iter c : Expr} {ifs : List Expr} {scope : Scope} {own : List (Str × Nat)} {pos : Pos} {mi : MI} {t : Tg} {tt : MT} {te : ME}
theorem Post.at_ {ww : World} {K : PySem.W.Frag} {mg : Str → Option Value} {r r' : List Addr} {h' : MH} {H H' : Hp} (p : Post ww K mg r H r' h' H') {D : Addr} {o : HO} (hD : H D = some o) (hn : D ∉ r) (nt : noTbl o := by intro _ z; cases z) : H' D = some o ∧ D ∉ r' := ⟨p.keep hn hD nt, (p.fr D o hn hD (.inl nt)).1⟩
end
end MP

end
section
namespace MP
open PySem PySem.Spec PyProof.Rows L2
structure Still (P : Program) (w : World) (K : PySem.W.Frag) (H0 : Hp) (n : Nat) (ys : Nat → Option V) (e it : Addr) (At : Nat → Heap → Prop) : Prop where
  ne : e ≠ it
  cell : ∀ j h, At j h → ∃ o, h.get? it = some o ∧ ∀ v, o.data ≠ .cell v
  move : ∀ j h h', At j h → (∀ o, h.get? it = some o → h'.get? it = some o) → At j h'
  draw : ∀ (X : Cx) (pins : List (Addr × Obj)) (σ : L2.St) (H : Hp) (s : Shared) (j : Nat), X.prog = P → X.w = w → X.K = K → X.calm = true → L2.Inv X pins σ H s → (∀ a xs, SqT K H0 a xs → SqT K H a xs) → At j s.heap →
    ∃ (fp : List Addr) (Pv : Nat → Value → Prop) (S : Nat → Heap → Prop), Draws P w X.A.in1 it fp n Pv S ∧ it ∈ fp ∧ e ∉ fp ∧ S j s.heap ∧ (∀ k h, S k h → At k h) ∧ ∀ k v, Pv k v → ∃ x, ys k = some x ∧ RelV x v
def enumL (i : Nat) : List MV → List MV
  | [] => []
  | x :: xs => .tup [.int (i : Nat), x] :: enumL (i + 1) xs
end MP

end
section
end
section
namespace MP
open PySem PySem.Spec PyProof.Rows L2
def repB (K : PySem.W.Frag) : Nat → MV → Value → Bool
  | 0, _, _ => false
  | n + 1, v, u => match v, u with
    | .non, .none => true
    | .bl b, .bool c => b == c
    | .int i, .int j _ => decide (i = j)
    | .str l, .str x _ => decide (x = S l)
    | .tup xs, .ref a => match K.lookup a with
      | some ⟨.type "tuple", _, .seq its _, _⟩ => decide (its.size ≤ sizeLine) && (its.toList.length == xs.length) && (xs.zip its.toList).all fun p => repB K n p.1 p.2
      | _ => false
    | _, _ => false
def gloB (K : PySem.W.Frag) (x : Str) (v : MV) : Bool := match PySem.W.nsIn K mainGlobals x with
  | some (some u) => repB K 8 v u
  | _ => false
end MP

end
section
end
section
end
section
end
section
end
section
namespace MP
open PySem PySem.Spec PyProof.Rows L2
section
variable {X : Cx} {pins : List (Addr × Obj)} {σ : L2.St} {H : Hp} {s : Shared}
theorem inv_freeze {p : Addr} {xs : List V} (I : L2.Inv X pins σ H s) (hp : H p = some (.lst xs)) : ∃ o, L2.Inv X pins σ (upd H p (.frz o (.lst xs))) s := by
  obtain ⟨z, its, n, r, e⟩ := I.hok p _ hp
  refine ⟨{ cls := .type "list", data := .seq its.toArray n }, ?_⟩
  have hne : ∀ {b : Addr} {o : HO}, H b = some o → (∀ ys, o ≠ .lst ys) → b ≠ p := fun {b o} q n z => by
    subst z; rw [hp] at q; cases q; exact n _ rfl
  refine I.un (h' := s.heap) (t' := s.toks) ⟨fun b o q _ _ _ => q, fun b o q _ _ _ => ⟨o.slots, q⟩, fun b o q n _ => ?_, fun b o q _ => ⟨o, q⟩, fun b xs q => ?_, fun b o u q => ?_, fun b ps q => ?_⟩ fun b o q => ?_
  · rw [upd_ne (fun z => by subst z; rw [hp] at n; cases n)]; exact n
  · rw [upd_ne (hne q fun _ z => by cases z)]; exact q
  · rw [upd_ne (hne q fun _ z => by cases z)]; exact q
  · rw [upd_ne (hne q fun _ z => by cases z)]; exact ⟨#[], by rw [q]; simp⟩
  · by_cases hb : b = p
    · subst hb
      rw [upd_same] at q
      cases q
      exact ⟨e, z, its, n, r, e⟩
    · rw [upd_ne hb] at q
      refine (I.hok b o q).stay (fun c v _ q => q) (fun c q => ?_) fun c xs q => ?_
      · rw [upd_ne (hne q fun _ z => by cases z)]; exact q
      · rw [upd_ne (hne q fun _ z => by cases z)]; exact q
def FzQ (Q : VK) : VK := fun v H1 => Q v H1 ∨ ∃ p xs, v = .ref p ∧ H1 p = some (.lst xs) ∧ ∀ o, Q v (upd H1 p (.frz o (.lst xs)))
theorem ep_frz {Q : VK} {u : Value} {s' : Shared} (h : EP X pins σ (FzQ Q) u s') : EP X pins σ Q u s' := by
  obtain ⟨v, H', I, r, q | ⟨p, xs, e, hp, q⟩⟩ := h
  · exact ⟨v, H', I, r, q⟩
  · obtain ⟨o, I2⟩ := inv_freeze I hp
    exact ⟨v, _, I2, r, q o⟩
theorem _root_.L2.PE.frz {e : Expr} {t : TE} (h : PE X e t) : PE X e (fun σ H Q => t σ H (FzQ Q)) := ⟨fun pins s σ H Q I q => thn (h.run pins s σ H _ I q) fun _ _ z => ep_frz z⟩
def FzN (Q : L2.St → Hp → Prop) : L2.St → Hp → Prop := fun σ H1 => Q σ H1 ∨ ∃ p xs, H1 p = some (.lst xs) ∧ ∀ o, Q σ (upd H1 p (.frz o (.lst xs)))
theorem _root_.L2.PS.frz {e : Stmt} {t : TS} (h : PS X e t) : PS X e (fun D σ H => t { D with nx := FzN D.nx } σ H) := ⟨fun pins s σ H D I q => thn (h.run pins s σ H _ I q) fun f s' z => by
  cases f with
  | next =>
    obtain ⟨σ', H', I', q | ⟨p, xs, hp, q⟩⟩ := z
    · exact ⟨σ', H', I', q⟩
    · obtain ⟨o, I2⟩ := inv_freeze I' hp
      exact ⟨σ', _, I2, q o⟩
  | brk => exact z
  | cont => exact z
  | ret u => exact z⟩
theorem Wt.lv {ww : World} {K : PySem.W.Frag} {mg : Str → Option Value} {r : List Addr} {h : MH} {E : XK} {Q : VK} {p : Addr} {xs : List MV} {ys : List V} (hs : HS ww K mg r h H) (hp : H p = none) (q : RepL K mg r H xs ys) (w : Wt ww K mg (Rep K mg) r H E Q (.ok (.lv xs) h)) :
    FzQ Q (.ref p) (upd H p (.lst ys)) := .inr ⟨p, ys, rfl, upd_same, fun o => by
  rw [upd_upd]
  have po := hs.extra (u := .frz o (.lst ys)) hp
  exact w r _ _ po (.lv ⟨o, upd_same⟩ (po.repL hs q))⟩
end
end MP

end
section
namespace MP
open PySem PySem.Spec PyProof.Rows L2
section
variable {P : Program} {w : World} {K : PySem.W.Frag} {mg : Str → Option Value} {base : Heap} {C : CXT} {k : Nat} {f : Addr} {fd : FuncData} {ps : List Str} {sp : Sp} {m : MF}
theorem ce_frz {outer : List Env} {H : Hp} {s : Shared} {Q : VK} {u : Value} {s' : Shared} (h : CE outer P w H s (FzQ Q) u s') : CE outer P w H s Q u s' := by
  obtain ⟨v, H', os, bare, un, hok, ru, q | ⟨p, xs, e, hp, q⟩⟩ := h
  · exact ⟨v, H', os, bare, un, hok, ru, q⟩
  · obtain ⟨z, its, n, r, eo⟩ := hok p _ hp
    have hne : ∀ {b : Addr} {o : HO}, H' b = some o → (∀ ys, o ≠ .lst ys) → b ≠ p := fun {b o} q' n' z => by
      subst z; rw [hp] at q'; cases q'; exact n' _ rfl
    refine ⟨v, _, os, bare, ⟨un.keep, un.slot, fun b o a c d => ?_, un.there, fun b ys a => ?_, fun b o u a => ?_, fun b ys a => ?_⟩, fun b o a => ?_, ru, q { cls := .type "list", data := .seq its.toArray n }⟩
    · have := un.free b o a c d
      rw [upd_ne (fun z => by subst z; rw [hp] at this; cases this)]
      exact this
    · have := un.tups b ys a
      rw [upd_ne (hne this fun _ z => by cases z)]
      exact this
    · have := un.frzs b o u a
      rw [upd_ne (hne this fun _ z => by cases z)]
      exact this
    · obtain ⟨more, e2⟩ := un.tbls b ys a
      exact ⟨more, by rw [upd_ne (hne e2 fun _ z => by cases z)]; exact e2⟩
    · by_cases hb : b = p
      · subst hb
        rw [upd_same] at a
        cases a
        exact ⟨eo, z, its, n, r, eo⟩
      · rw [upd_ne hb] at a
        refine (hok b o a).stay (fun c v _ q => q) (fun c q => ?_) fun c xs q => ?_
        · rw [upd_ne (hne q fun _ z => by cases z)]; exact q
        · rw [upd_ne (hne q fun _ z => by cases z)]; exact q
theorem FnG.frz (F : FnG P w K mg base C k f fd ps sp) : FnG P w K mg base C k f fd ps (fun vs H Q E => sp vs H (FzQ Q) E) :=
  ⟨fun vs H Q E q => F.len vs H _ E q, fun A outer s H args us vs Q E r e b v q => codeAny_mono (F.run A outer s H args us vs _ E r e b v q) fun x s' z => by
    cases x with
    | error e => exact z
    | ok fl => cases fl with
      | ret u => exact ce_frz z
      | _ => exact z⟩
theorem Wt.frz {ww : World} {r : List Addr} {H : Hp} {E : XK} {Q : VK} {x : R MV} (w : Wt ww K mg (Rep K mg) r H E Q x) : Wt ww K mg (Rep K mg) r H E (FzQ Q) x := w.imp (fun _ _ _ z => z) fun _ _ z => .inl z
end
end MP

end
section
end
section
end
section
namespace MP
open PySem PySem.Spec PyProof.Rows L2
def initBody (f msg : Str) (j : Nat) (p0 p1 p2 p3 p4 p5 q0 q1 q2 q3 : Pos) : List Stmt :=
  [.Expr (.Call (.Attribute (.Call (.Name "super" p0) [] [] p1) "__init__" p2) [.Constant (.str msg) j p3] [] p4) p5,
   .Assign [.Attribute (.Name "self" q0) f q1] (.Name f q2) q3]
structure BaseX (B nid iid : String) (tl : List Value) : Prop where
  ks : PySem.W.KxsFacts B iid
  eb : ExcBaseFacts B nid iid tl
  st : StoreFacts B tl "object.__setattr__" "object"
abbrev tlV : List Value := [.type "ValueError", .type "Exception", .type "BaseException", .type "object"]
abbrev tlO : List Value := [.type "OverflowError", .type "ArithmeticError", .type "Exception", .type "BaseException", .type "object"]
structure XcC (P : Program) (K : PySem.W.Frag) (C : Addr) (f : Str) : Prop where
  sa : PySem.W.findIn K (.ref C) "__setattr__" = some (some (.builtin "object.__setattr__"))
  exC : PySem.W.subIn K (.ref C) (.type "BaseException") = some true
  tyC : PySem.W.typeIn K (.ref C) = some (.type "type")
  kC : PySem.W.keepIn K (.ref C) = true
  hd : PySem.W.hasDictIn K C = true
  fld : PySem.W.findIn K (.ref C) f = some none
  sup : PySem.W.nsIn K mainGlobals "super" = some none
  opq : PySem.W.nsIn K PySem.cStatics "thirdparty.any" = some none
  base : ∃ (B nid iid : String) (tl : List Value), BaseX B nid iid tl ∧ PySem.W.excInitIn K C tl nid = true ∧ PySem.W.excOver K C tl = true ∧ PySem.W.ks_superIn K C C "__init__" = some (some (.builtin iid)) ∧ PySem.W.subIn K (.ref C) (.type B) = some true
  ini : ∃ (fI cc cda : Addr) (oc ccl cl : Value) (od cdd cld : Option Addr) (osl ccs csl : Array (Option Value)) (name qual msg : Str) (params : Arguments) (scope : Scope) (dV kV doc pm ct : Value) (an : Option Addr) (j : Nat) (p0 p1 p2 p3 p4 p5 q0 q1 q2 q3 : Pos) (vs : Array Value) (tf : Tok) (ar : Arg) (cdC : ClassData),
    PySem.W.findIn K (.ref C) "__init__" = some (some (.ref fI)) ∧ PySem.W.typeIn K (.ref fI) = some (.type "function") ∧
    K.lookup fI = some ⟨oc, od, .func (PySem.W.ksFn name qual params (initBody f msg j p0 p1 p2 p3 p4 p5 q0 q1 q2 q3) scope dV kV doc pm an (.ref cda) ct cc), osl⟩ ∧
    K.lookup cda = some ⟨ccl, cdd, .fields vs, ccs⟩ ∧ PySem.W.codeIn K (.ref cda) qual = true ∧ vs[2]? = some (.str P.main.file tf) ∧
    K.lookup cc = some ⟨cl, cld, .cell (some (.ref C)), csl⟩ ∧ PySem.W.clsIn K C = some cdC ∧ PySem.W.mroIn K C (.ref C) = some true ∧
    (params.posonlyargs ++ params.args).head? = some ar ∧ ar.arg = "self" ∧
    L2.Binds K (PySem.W.ksFn name qual params (initBody f msg j p0 p1 p2 p3 p4 p5 q0 q1 q2 q3) scope dV kV doc pm an (.ref cda) ct cc) ["self", f] [] ∧
    (∀ (s : Shared) (a b : Value), BindsTo s (PySem.W.ksFn name qual params (initBody f msg j p0 p1 p2 p3 p4 p5 q0 q1 q2 q3) scope dV kV doc pm an (.ref cda) ct cc) ⟨[a], [(f, b)]⟩ [("self", a), (f, b)]) ∧
    (∀ x ∈ scope.names, x.2 ≠ .cell) ∧ scope.names.lookup ("self" : Str) = some .local ∧ scope.names.lookup f = some .local ∧ scope.names.lookup ("super" : Str) = some .globalImplicit ∧ scope.names.lookup ("__class__" : Str) = some .free ∧
    scope.kind = .function ∧ scope.isCoroutine = false ∧ scope.isGenerator = false ∧ (P.main.scope.names.lookup ("super" : Str)).isSome = false ∧ f ≠ "self" ∧ (p2.endLine == p4.line) = true ∧ (f == ("__debug__" : Str)) = false
theorem super_call (env : Env) (msg : Str) (j : Nat) (p0 p1 p2 p3 p4 : Pos) (hp : (p2.endLine == p4.line) = true) : ∃ pl, eval (.Call (.Attribute (.Call (.Name "super" p0) [] [] p1) "__init__" p2) [.Constant (.str msg) j p3] [] p4) env = (do
      let ov ← attributeBase (.Call (.Name "super" p0) [] [] p1) "__init__" env (eval (.Call (.Name "super" p0) [] [] p1) env)
      standAt p2.atName
      let (f, first) ← holding [ov] (getMethod ov "__init__" pl)
      callWith p4 f first (backTo p4 (starEach [.Constant (.str msg) j p3] env)) []) := by
  refine ⟨(do return (← importBound (.Call (.Name "super" p0) [] [] p1) env).getD true), ?_⟩
  show (do
      let ov ← attributeBase (.Call (.Name "super" p0) [] [] p1) "__init__" env (eval (.Call (.Name "super" p0) [] [] p1) env)
      standAt p2.atName
      methodCall (.Call (.Name "super" p0) [] [] p1) "__init__" p2 p4 env ov 1 (backTo p4 (starEach [.Constant (.str msg) j p3] env)) (backToKw p4 (keywordEach [] env))) = _
  have hm : ∀ ov, methodCall (.Call (.Name "super" p0) [] [] p1) "__init__" p2 p4 env ov 1 (backTo p4 (starEach [.Constant (.str msg) j p3] env)) (backToKw p4 (keywordEach [] env)) = (do
      let (f, first) ← holding [ov] (getMethod ov "__init__" (do return (← importBound (.Call (.Name "super" p0) [] [] p1) env).getD true))
      callWith p4 f first (backTo p4 (starEach [.Constant (.str msg) j p3] env)) []) := fun ov => by
    unfold methodCall
    have hf : methodCallForm 1 (backTo p4 (starEach [.Constant (.str msg) j p3] env)) (backToKw p4 (keywordEach [] env)) = true := rfl
    rw [hf]
    unfold methodCallPos calleeOf
    simp only [hp, Bool.or_true, if_true, pure_bind]
    rfl
  simp only [hm]
section
variable {P : Program} {w : World} {K : PySem.W.Frag} {mg : Str → Option Value} {C : Addr} {f : Str}
theorem XcC.run (X : XcC P K C f) : ∃ fI, PySem.W.findIn K (.ref C) "__init__" = some (some (.ref fI)) ∧ PySem.W.typeIn K (.ref fI) = some (.type "function") ∧
    ∀ (A : Around) (s : Shared) (mb : Str → Option Value) (e t0 : Addr) (u : Value) (args : Args) (R : Result → Shared → Prop), (args = ⟨[.ref e, u], []⟩ ∨ args = ⟨[.ref e], [(f, u)]⟩) → A.depth < recursionLimit → K.In s.heap → s.heap.NoLimit → s.heap.Ns mainGlobals mg → s.heap.Ns builtinsNs mb → mb "super" = some (.type "super") →
      s.heap.get? e = some (PySem.HandSPX.excO C t0) → K.lookup e = none →
      (∀ h' tk dx t1, (∀ b o, b ≠ e → s.heap.get? b = some o → h'.get? b = some o) → s.heap.objs.size ≤ dx → dx ≠ e → h'.get? e = some { cls := .ref C, dict := some dx, data := .fields #[.ref t1, .none, .none, .none, .bool false, .none] } →
        h'.Ns1 dx (fun y => if y = f then some u else none) → R (.ok (.ret .none)) { s with heap := h', toks := tk }) →
      codeAny (model P w) A (.call (.ref fI) args) R s := by
  obtain ⟨fI, cc, cda, oc, ccl, cl, od, cdd, cld, osl, ccs, csl, name, qual, msg, params, scope, dV, kV, doc, pm, ct, an, j, p0, p1, p2, p3, p4, p5, q0, q1, q2, q3, vs, tf, ar, cdC, i1, i2, i3, i4, i5, i6, i7, i8, i9, i10, i11, i14, iK, i15, i16, i17, i18, i19, i20, i21, i22, i23, i24, i25, i26⟩ := X.ini
  refine ⟨fI, i1, i2, fun A s mb e t0 u args R ha hroom kin lim glob blt boot he ke hR => ?_⟩
  obtain ⟨B, nid, iid, tl, bx, xin, xov, i12, i13⟩ := X.base
  obtain ⟨oC, hC, hCd⟩ : ∃ oC, K.lookup C = some oC ∧ oC.data = .cls cdC := by
    have z := i8
    unfold PySem.W.clsIn at z
    split at z
    · rename_i cd _ hk
      cases z
      exact ⟨_, hk, rfl⟩
    · cases z
  have bd : BindsTo s (PySem.W.ksFn name qual params (initBody f msg j p0 p1 p2 p3 p4 p5 q0 q1 q2 q3) scope dV kV doc pm an (.ref cda) ct cc) args [("self", .ref e), (f, u)] := by
    cases ha with
    | inl z => rw [z]; exact i14 s [.ref e, u] kin rfl
    | inr z => rw [z]; exact iK s _ _
  refine PySem.ks_codeAny_call_defAt (fd := PySem.W.ksFn name qual params (initBody f msg j p0 p1 p2 p3 p4 p5 q0 q1 q2 q3) scope dV kV doc pm an (.ref cda) ct cc) (binds := [("self", .ref e), (f, u)]) hroom (kin _ _ i3) rfl lim (PySem.W.codeRec_of kin i5) rfl bd i15 (fun x hx => ?_) (fun h1 ns1 k1 => ?_) i21 i22 i20
  · simp only [List.mem_cons, List.not_mem_nil, or_false] at hx
    rcases hx with rfl | rfl
    · exact i16
    · exact i17
  have kin1 : K.In h1 := kin.keeps k1
  have he1 : h1.get? e = some (PySem.HandSPX.excO C t0) := k1 _ _ he
  have hnc : ∀ c, (PySem.HandSPX.excO C t0).data ≠ .cls c := fun c z => by cases z
  have hD1 : h1.get? C = some oC := kin1 _ _ hC
  have hD2 := hCd
  have msup : mg "super" = none := PySem.W.mg_none_of kin glob X.sup
  obtain ⟨pl, hev⟩ := super_call (callEnv (PySem.W.ksFn name qual params (initBody f msg j p0 p1 p2 p3 p4 p5 q0 q1 q2 q3) scope dV kV doc pm an (.ref cda) ct cc) s.heap.objs.size fI) msg j p0 p1 p2 p3 p4 i25
  refine ks_wpAt_execs_cons (ks_wpAt_Expr_any (ks_wpAt_MethodCall (pl := pl) ?_ hev) (by unfold interactive; show (scope.kind == .module && _) = false; rw [i20]; rfl))
  refine ks_wpAt_super_base (ar := ar) i18 i19 (by decide) rfl (kin1 _ _ i3) rfl i10 rfl (kin1 _ _ i4) rfl i6 (by simp) i23 ?_
  refine PySem.W.ks_loadName_global i20 i18 (Calls.loadGlobal_builtin (glob.keeps k1) msup (blt.keeps k1) boot ⟨rfl, ?_⟩)
  refine wpAny_loadName_free i20 i19 rfl ⟨_, kin1 _ _ i7, rfl⟩ ?_
  rw [i11]
  have hself : ([((f : Str), u), ("self", Value.ref e)] : List (Str × Value)).lookup ("self" : Str) = some (Value.ref e) := by
    have : (("self" : Str) == f) = false := by rw [beq_eq_false_iff_ne]; exact fun z => i24 z.symm
    simp [List.lookup, this]
  refine wpAny_loadName_local i20 i16 ns1 hself ?_
  refine ks_wpAny_isType_cls hD1 hD2 ⟨rfl, ?_⟩
  refine ks_wpAny_call_super hD1 hD2 he1 rfl hnc (PySem.W.looks_mroIn kin1 i9) (fun h2 so2 k2 => ?_)
  have kin2 : K.In h2 := kin1.keeps k2
  have he2 : h2.get? e = some (PySem.HandSPX.excO C t0) := k2 _ _ he1
  have I2 : PySem.W.InstAt h2 e (PySem.HandSPX.excO C t0) C none := ⟨he2, rfl, rfl, trivial⟩
  refine PySem.W.kxs_getMethod bx.ks so2 (PySem.W.looks_opaque kin2 X.opq) (l₀ := cdC.mro) (fun A Q E s k q => wpAny_bind ((PySem.W.looks_clsIn kin2 i8) A _ E s k (wpAny_pure q))) rfl kin2 ?_ (I2.type.andThen (PySem.W.looks_subIn kin2 i13)) ?_ (by decide) ?_
  · have z := i12
    unfold PySem.W.ks_superIn at z
    rw [i8] at z
    exact z
  · intro z
    have q := k2 _ _ hD1
    rw [← z, he2] at q
    have q2 := Option.some.inj q
    rw [← q2] at hD2
    cases hD2
  refine PySem.W.kxs_callWith (i := iid) (x := e) rfl (Calls.evalArgs_plain (Calls.spliced_cons (Calls.Constant_str (k := j) (pos := p3) (Calls.spliced_nil ⟨Heap.get?_push_size _ rfl, ?_⟩))))
  have k3' : ∀ b o, h2.get? b = some o → (h2.push (PySem.W.kxs_mw iid e)).get? b = some o := fun b o z => Heap.get?_push_of_some _ z
  have hmw : (h2.push (PySem.W.kxs_mw iid e)).get? h2.objs.size = some (PySem.W.kxs_mw iid e) := Heap.get?_push_size _ rfl
  have kin3 : K.In (h2.push (PySem.W.kxs_mw iid e)) := kin2.keeps k3'
  have he3 : (h2.push (PySem.W.kxs_mw iid e)).get? e = some (PySem.HandSPX.excO C t0) := k3' _ _ he2
  generalize h2.push (PySem.W.kxs_mw iid e) = h3 at k3' hmw kin3 he3 ⊢
  have up (b : Addr) (o : Obj) (z : s.heap.get? b = some o) : h3.get? b = some o := k3' _ _ (k2 _ _ (k1 _ _ z))
  have eL : e ≠ s.heap.objs.size := Nat.ne_of_lt (Heap.lt_size he)
  have ns3 : h3.Ns s.heap.objs.size (fun x => ([("self", Value.ref e), (f, u)] : List (Str × Value)).reverse.lookup x) := (ns1.keeps k2).keeps k3'
  have sz2 : s.heap.objs.size < h2.objs.size := (ns1.keeps k2).lt
  have Fr3 : Fr (PySem.W.hideAll s.heap [e]) s.heap.objs.size h3 _ := ⟨ns3, fun b o z => up b o (PySem.W.of_hideAll [e] z), Nat.le_of_eq (PySem.W.hideAll_size _ _)⟩
  have kin0 : K.In (PySem.W.hideAll s.heap [e]) := fun b o z => PySem.W.hideAll_get [e] (kin b o z) fun m => by rw [List.mem_singleton.mp m, ke] at z; cases z
  have N3 : News (PySem.W.hideAll s.heap [e]) s.heap.objs.size h3 [(h2.objs.size, PySem.W.kxs_mw iid e), (e, PySem.W.excObj C t0 none .none)] := fun q hq => by
    cases hq with
    | head => exact ⟨hmw, Nat.ne_of_gt sz2, Heap.get?_none_of_le (by rw [PySem.W.hideAll_size]; exact Nat.le_of_lt sz2)⟩
    | tail _ hq => cases List.mem_singleton.mp hq; exact ⟨he3, eL, PySem.W.hideAll_none [e] (List.mem_singleton.mpr rfl)⟩
  refine PySem.W.kxs_call Fr3 kin0 N3 bx.eb xin (List.mem_cons_self ..) (.tail (Nat.ne_of_gt (Nat.lt_of_lt_of_le (Heap.lt_size he) (Nat.le_of_lt sz2))) (.head fun _ q => nomatch q)) (by show 1 ≤ sizeLine; decide) fun t1 h4 Fr4 N4 l4 => ?_
  have ns4 := Fr4.ns
  have kin4 : K.In h4 := kin0.keeps Fr4.keep
  have hfl : ([((f : Str), u), ("self", Value.ref e)] : List (Str × Value)).lookup f = some u := by simp [List.lookup]
  refine wpAt_of_wpAny (wpAny_execs_cons ?_)
  refine plainObj_wpAny_Assign_Attribute (wpAny_Name (wpAny_loadName_local i20 i17 ns4 (v := u) hfl (wpAny_Name (wpAny_loadName_local i20 i16 ns4 (v := .ref e) hself ?_) (by decide))) i26)
  have e4 := N4 (e, PySem.W.excObj C t1 none .none) (by simp)
  refine PySem.W.set_exc0 (t := t1) (c2 := .none) bx.st Fr4 kin0 N4 (by simp) X.sa xov (by unfold PySem.W.takerIn; rw [X.fld]; rfl) X.hd rfl (.tail (Nat.ne_of_gt (l4 (e, PySem.HandSPX.excO C t0) (by simp))) (.tail (Nat.ne_of_gt (Nat.lt_of_lt_of_le (Heap.lt_size he) (Nat.le_of_lt sz2))) (.head fun _ q => nomatch q))) (by show 1 ≤ 1000; decide) fun dx h5 Fr5 N5 lt5 => ?_
  refine wpAny_execs_nil ?_
  have d5 := (N5 (dx, _) (List.mem_cons_self ..)).1
  have m5 := lt5 (h2.objs.size, PySem.W.kxs_mw iid e) (by simp)
  refine hR h5 _ dx t1 (fun b o hb z => Fr5.keep b o (PySem.W.hideAll_get [e] z fun m => hb (List.mem_singleton.mp m))) (Nat.le_of_lt (Nat.lt_trans sz2 m5)) (Nat.ne_of_gt (lt5 (e, PySem.W.excObj C t1 none .none) (by simp))) (N5 (e, PySem.W.excObj C t1 (some dx) .none) (by simp)).1 ?_
  refine ⟨_, _, _, d5, rfl, fun x hx => ?_, ?_, fun y => ?_⟩
  · simp [PySem.W.putL] at hx
    exact ⟨f, _, by rw [hx]⟩
  · simp [UniqKeys, PySem.W.putL]
  · by_cases hy : y = f
    · subst hy
      simp [nsFind, findBy, PySem.W.putL, Value.isStr]
    · simp [nsFind, findBy, PySem.W.putL, Value.isStr, hy]
      exact fun z => hy z.symm
end
end MP

end
section
namespace MP
open PySem PySem.Spec PyProof.Rows L2
section
variable {X : Cx} {C : Addr} {f : Str} {k : Nat} {pins : List (Addr × Obj)} {σ : L2.St} {H : Hp} {s : Shared}
theorem exV_ok {P : Program} {w : World} {H : Hp} {h : Heap} {e C dx : Addr} {oe : Obj} {vs : Array Value} (he : h.get? e = some oe) (h1 : oe.cls = .ref C) (h2 : oe.dict = some dx) (h3 : oe.data = .fields vs) : ObjOk P w H h e (exV e C dx) :=
  ⟨⟨oe, vs, he, h1, h2, h3⟩, ⟨_, he⟩, fun g1 g2 ⟨o, v, q1, q2⟩ st => ⟨o, v, st _ q1, q2⟩⟩
end
section
variable {X : Cx} {W : WX} {C : Addr} {f : Str} {k : Nat} {x : Str} {e : Expr} {ta : TA} {ms : MA} {p pos : Pos}
structure Xcs (P : Program) (K : PySem.W.Frag) (mg : Str → Option Value) (c f : CP) : Prop where
  ex : ∃ C, mg (S c) = some (.ref C) ∧ XcC P K C (S f)
end
end MP

end
section
namespace MP
open PySem PySem.Spec PyProof.Rows L2
section
variable {X : Cx} {W : WX} {pins : List (Addr × Obj)} {σ : L2.St} {H : Hp} {s : Shared}
structure IsX (K : PySem.W.Frag) (mg : Str → Option Value) (tb : List (CP × CP × Bool)) (tt : List (CP × Ty × Bool)) : Prop where
  own : ∀ p ∈ tb, ∃ D E, mg (S p.1) = some (.ref D) ∧ mg (S p.2.1) = some (.ref E) ∧ ExcC K D ∧ PySem.W.kitOne K (.ref D) (.ref E) = some p.2.2
  blt : ∀ p ∈ tt, ∃ D, mg (S p.1) = some (.ref D) ∧ ExcC K D ∧ PySem.W.kitOne K (.ref D) (.type p.2.1.nm) = some p.2.2
end
end MP

end
section
namespace MP
open PySem PySem.Spec PyProof.Rows L2
def isBody (f : Str) : List Stmt → Bool
  | [.Expr (.Call (.Attribute (.Call (.Name su _) [] [] _) ini p2) [.Constant (.str _) _ _] [] p4) _, .Assign [.Attribute (.Name se _) g _] (.Name g' _) _] => su == "super" && (ini == "__init__" && (se == "self" && (g == f && (g' == f && p2.endLine == p4.line))))
  | _ => false
def isPars (f : Str) : Arguments → Bool
  | ⟨[], [a, b], none, [], [], none, []⟩ => a.arg == "self" && b.arg == f
  | _ => false
def isNames (f : Str) (sc : Scope) : Bool := sc.names.all (fun x => decide (x.2 ≠ .cell)) && (decide (sc.names.lookup ("self" : Str) = some .local) && (decide (sc.names.lookup f = some .local) && (decide (sc.names.lookup ("super" : Str) = some .globalImplicit) && (decide (sc.names.lookup ("__class__" : Str) = some .free) &&
  (decide (sc.kind = .function) && (!sc.isCoroutine && !sc.isGenerator))))))
def isFun (file : Str) (K : PySem.W.Frag) (C : Addr) (f : Str) (fd : FuncData) : Bool := match fd.body, fd.closure, fd.code, fd.defaults, fd.kwdefaults with
  | .stmts b, [(n, cc)], .ref cda, .none, .none => isBody f b && (isPars f fd.params && (isNames f fd.scope && (n == "__class__" && (fd.globals == mainGlobals && (fd.builtins == builtinsNs && (PySem.W.codeIn K (.ref cda) fd.qualname && ((match K.lookup cda with
      | some ⟨_, _, .fields vs, _⟩ => (match (vs[2]? : Option Value) with
        | some (.str x _) => x == file
        | _ => false)
      | _ => false) && (match K.lookup cc with
      | some ⟨_, _, .cell (some (.ref D)), _⟩ => D == C
      | _ => false))))))))
  | _, _, _, _, _ => false
def baB (K : PySem.W.Frag) (C : Addr) (B nid iid : String) (tl : List Value) : Bool := PySem.W.excInitIn K C tl nid && (PySem.W.excOver K C tl && (decide (PySem.W.ks_superIn K C C "__init__" = some (some (.builtin iid))) && decide (PySem.W.subIn K (.ref C) (.type B) = some true)))
def iniB (file : Str) (K : PySem.W.Frag) (C : Addr) (f : Str) : Bool := match PySem.W.findIn K (.ref C) "__init__" with
  | some (some (.ref fI)) => decide (PySem.W.typeIn K (.ref fI) = some (.type "function")) && (match K.lookup fI with
    | some ⟨_, _, .func fd, _⟩ => isFun file K C f fd
    | _ => false)
  | _ => false
def saB (K : PySem.W.Frag) (C : Addr) (f : Str) : Bool := decide (PySem.W.findIn K (.ref C) "__setattr__" = some (some (.builtin "object.__setattr__"))) && (decide (PySem.W.subIn K (.ref C) (.type "BaseException") = some true) && (decide (PySem.W.typeIn K (.ref C) = some (.type "type")) && (PySem.W.keepIn K (.ref C) && (PySem.W.hasDictIn K C &&
  (decide (PySem.W.findIn K (.ref C) f = some none) && (decide (PySem.W.nsIn K mainGlobals "super" = some none) && (decide (PySem.W.nsIn K PySem.cStatics "thirdparty.any" = some none) &&
  ((baB K C "ValueError" "ValueError.__new__" "ValueError.__init__" tlV || baB K C "OverflowError" "OverflowError.__new__" "OverflowError.__init__" tlO) && ((PySem.W.clsIn K C).isSome && decide (PySem.W.mroIn K C (.ref C) = some true))))))))))
def gaB (K : PySem.W.Frag) (C : Addr) : Bool := decide (PySem.W.findIn K (.ref C) "__getattribute__" = some (some (.builtin "BaseException.__getattribute__"))) && (decide (PySem.W.findIn K (.ref C) "__getattr__" = some none) && (decide (PySem.W.subIn K (.ref C) (.type "BaseException") = some true) && (PySem.W.hasDictIn K C &&
  (decide (PySem.W.findIn K (.ref C) "__class__" = some (some (.builtin "object.__class__"))) && (decide (PySem.W.specialIn K (.builtin "object.__class__") "__get__" = some (some (.builtin "getset_descriptor.__get__"))) && (decide (PySem.W.takesIn K (.builtin "object.__class__") = some true) && decide (PySem.W.mroIn K C (.type "object") = some true)))))))
def isFld (f : Str) : Bool := f == "place" || (f == "value" || (f == "word" || f == "most"))
def xcB (file : Str) (K : PySem.W.Frag) (c f : CP) : Bool := match PySem.W.nsIn K mainGlobals (S c) with
  | some (some (.ref C)) => isFld (S f) && (iniB file K C (S f) && (saB K C (S f) && gaB K C))
  | _ => false
def clsAt (K : PySem.W.Frag) (c : CP) : Option Addr := match PySem.W.nsIn K mainGlobals (S c) with
  | some (some (.ref C)) => some C
  | _ => none
def isOB (K : PySem.W.Frag) (p : CP × CP × Bool) : Bool := match clsAt K p.1, clsAt K p.2.1 with
  | some D, some E => gaB K D && decide (PySem.W.kitOne K (.ref D) (.ref E) = some p.2.2)
  | _, _ => false
def isTB (K : PySem.W.Frag) (p : CP × Ty × Bool) : Bool := match clsAt K p.1 with
  | some D => gaB K D && decide (PySem.W.kitOne K (.ref D) (.type p.2.1.nm) = some p.2.2)
  | _ => false
def exX (file : Str) (xs : List (CP × CP)) (tb : List (CP × CP × Bool)) (tt : List (CP × Ty × Bool)) (K : PySem.W.Frag) : Bool := xs.all (fun p => xcB file K p.1 p.2) && (tb.all (isOB K) && tt.all (isTB K))
end MP

end
section
end
section
end
section
namespace MP
open PySem PySem.Spec PyProof.Rows L2
structure SaysC (fa : List He.Fa) (fn : List He.DefD) (ex : PySem.W.Frag → Bool) (w : World) (K : PySem.W.Frag) : Prop where
  t : He.SaysT fa fn [] w K
  more : ex K = true
abbrev AlC : Type := He.AlT × Bool
end MP

end
section
namespace MP
open PySem PySem.Spec PyProof.Rows L2
structure Down (X : Cx) (pins : List (Addr × Obj)) (a : Addr) (cls : Value) (d : Option Addr) (σ : L2.St) (H : Hp) (B : Heap) (sI s' : Shared) : Prop where
  inv : L2.Inv X pins σ H sI
  ground : ∀ b o, sI.heap.get? b = some o → b ∉ frs X.stack → B.get? b = some o
  fly : HandSPX.FlyingZ B X.stack a (Zc cls d) s'.heap
  same : sI.heap.UpToSlots s'.heap
  na : H a = none
  os : s'.os = sI.os
  bare : AllBare s'.gens
section
variable {X : Cx} {pins : List (Addr × Obj)} {a : Addr} {cls : Value} {d : Option Addr} {σ : L2.St} {H : Hp} {B : Heap} {sI s' : Shared}
theorem Down.here (D : Down X pins a cls d σ H B sI s') : L2.Inv X pins σ H s' := D.inv.landed D.ground D.fly.1 D.same D.os D.bare
theorem Down.frame (D : Down X pins a cls d σ H B sI s') : a ∉ frs X.stack := fun m => by
  obtain ⟨oe, vs, he, _, hd⟩ := D.fly.there
  obtain ⟨_, o, ho, no⟩ := D.fly.2.2.1.mem m
  cases he.symm.trans ho
  exact no _ hd
theorem Down.new (D : Down X pins a cls d σ H B sI s') : sI.heap.get? a = none := by
  cases z : sI.heap.get? a with
  | none => rfl
  | some o => exact absurd (D.ground a o z D.frame) (by rw [D.fly.2.1]; exact fun q => nomatch q)
theorem Down.take {C dd : Addr} (D : Down X pins a (.ref C) (some dd) σ H B sI s') : L2.Inv X pins σ (upd H a (exV a C dd)) s' := by
  obtain ⟨oe, vs, he, hz, hd⟩ := D.fly.there
  have other {b : Addr} (hb : b ≠ a) : b ∉ [a] := fun m => hb (List.mem_singleton.mp m)
  have J : L2.Inv X pins σ H { s' with heap := PySem.W.hideAll s'.heap [a] } := by
    refine D.inv.landed D.ground ?_ ?_ D.os D.bare
    · exact fun b o z => PySem.W.hideAll_get [a] (D.fly.1 b o z) (other fun y => by rw [y, D.fly.2.1] at z; cases z)
    · intro b o z nf
      obtain ⟨sl, q⟩ := D.same b o z nf
      exact ⟨sl, PySem.W.hideAll_get [a] q (other fun y => by rw [y, D.new] at z; cases z)⟩
  exact J.laidN (t' := s'.toks) (fun b o z => PySem.W.of_hideAll [a] z) (PySem.W.hideAll_none [a] (List.mem_singleton.mpr rfl)) D.na (exV_ok he hz.1 hz.2 hd)
theorem held (I : L2.Inv X pins σ H s') (a : Addr) : L2.Inv (X.suite a (X.pn ++ pins)) [] σ H s' :=
  ⟨I.ok.suite _ _, I.os, I.bare, I.base, I.loc, I.cell, I.free, I.freeC, fun p hp => I.pin p (by simpa using hp), I.hok, I.len⟩
end
structure Fits (X : Cx) (he : Expr) (fit : Value → Option Bool) : Prop where
  run : ∀ {pins : List (Addr × Obj)} {a : Addr} {cls : Value} {d : Option Addr} {σ : L2.St} {H : Hp} {B : Heap} {sI s : Shared} {b : Bool} {Q : Value → Shared → Prop} {E : Value → Shared → Prop}, Down X pins a cls d σ H B sI s → fit cls = some b →
    (∀ c s', Down X pins a cls d σ H B sI s' → PySem.W.Looks (model X.prog X.w) s'.heap (excMatches (.ref a) c) b → Q c s') → wpAny (model X.prog X.w) (X.A.mark (some (.ref a))) (eval he X.env) Q E s
section
variable {X : Cx} {pins : List (Addr × Obj)} {a : Addr} {cls : Value} {d : Option Addr} {σ : L2.St} {H : Hp} {B : Heap} {sI s : Shared}
theorem Down.name (Dn : Down X pins a cls d σ H B sI s) {x : Str} {c : Value} {np : Pos} (hc : Names X x c) {Q : Value → Shared → Prop} {E : Value → Shared → Prop} (q : Q c s) : wpAny (model X.prog X.w) (X.A.mark (some (.ref a))) (eval (.Name x np) X.env) Q E s := by
  have I1 := held Dn.here a
  obtain ⟨hg, hdb, hm⟩ := hc
  cases hm with
  | inl hm => exact ld_glob (X := X.suite a (X.pn ++ pins)) I1 hg hm q hdb
  | inr hm => exact ld_blt (X := X.suite a (X.pn ++ pins)) I1 hg hm.1 hm.2.1 q hm.2.2 hdb
end
end MP

end
section
namespace MP
open PySem PySem.Spec PyProof.Rows L2
structure Catch (mg : Str → Option Value) (fit : Value → Option Bool) (ins outs : List CP) : Prop where
  yes : ∀ k ∈ ins, ∃ C, mg (S k) = some (.ref C) ∧ fit (.ref C) = some true
  no : ∀ k ∈ outs, ∃ C, mg (S k) = some (.ref C) ∧ fit (.ref C) = some false
end MP

end
section
namespace MP
open PySem PySem.Spec PyProof.Rows L2
structure LamP (P : Program) (w : World) (K : PySem.W.Frag) (mg : Str → Option Value) (base : Heap) (st : List Env) (s : Shared) (H : Hp) (k : Nat) (fl c : Addr) (q : Str) (ws : List V) (g : List MV → MH → R MV) : Prop where
  at_ : ∀ (H1 : Hp) (s1 : Shared), Un (frs st) [] H H1 s.heap s1.heap → PySem.W.FnAt fl s1.heap
  run : ∀ (A : Around) (outer : List Env) (s1 : Shared) (H1 : Hp) (Q : VK) (E : XK) (r : List Addr) (h : MH) (vs : List MV), RoomG k A → Env0 P w K mg base A outer s1 H1 → Un (frs st) [] H H1 s.heap s1.heap →
    H1 c = some (LamX.CodeO c q) → HS w K mg r h H1 → RepL K mg r H1 vs ws → Wt w K mg (Rep K mg) r H1 E Q (g vs h) → codeAny (model P w) A (.call (.ref fl) ⟨[], []⟩) (CR (L2.CX P w) outer P w H1 s1 Q E) s1
structure FnL (P : Program) (w : World) (K : PySem.W.Frag) (mg : Str → Option Value) (base : Heap) (x : Str) (k kl : Nat) (mh : (MH → R MV) → MH → R MV) : Prop where
  ex : ∃ (f : Addr) (fd : FuncData) (a : Str), mg x = some (.ref f) ∧ PySem.W.keepIn K (.ref f) = true ∧ Binds K fd [a] [] ∧
    ∀ (A : Around) (outer : List Env) (s : Shared) (H : Hp) (Q : VK) (E : XK) (fl c : Addr) (q : Str) (ws : List V) (g : List MV → MH → R MV) (vs : List MV) (r : List Addr) (h : MH), RoomG k A → Env0 P w K mg base A outer s H → LamP P w K mg base outer s H kl fl c q ws g →
      H c = some (LamX.CodeO c q) → HS w K mg r h H → RepL K mg r H vs ws → Wt w K mg (Rep K mg) r H E Q (mh (g vs) h) → BindsTo s fd ⟨[.ref fl], []⟩ [(a, .ref fl)] → codeAny (model P w) A (.call (.ref f) ⟨[.ref fl], []⟩) (CR (L2.CX P w) outer P w H s Q E) s
end MP

end
section
namespace MP
open PySem PySem.Spec PyProof.Rows L2
structure CatX (K : PySem.W.Frag) (mg : Str → Option Value) (e : CP) (ins outs : List CP) : Prop where
  ex : ∃ D, mg (S e) = some (.ref D) ∧ Catch mg (fun cls => PySem.W.exmOne K cls (.ref D)) ins outs
structure CatX2 (K : PySem.W.Frag) (mg : Str → Option Value) (e e2 : CP) (ins outs : List CP) : Prop where
  ex : ∃ D D2, mg (S e) = some (.ref D) ∧ mg (S e2) = some (.ref D2) ∧ Catch mg (fun cls => PySem.W.exmAny K cls [.ref D, .ref D2]) ins outs
def mkB (K : PySem.W.Frag) (p : He.Defn × Str) : Bool := ((tabs3 K).any fun z => z.1 == He.codeOf K p.1 && (z.2.1 == (He.cT K p.1).2 && decide (z.2.2 = p.2))) && (tabsK K).all fun z => z.1 != (He.cT K p.1).2 || decide (z.2 = p.2)
structure MkK (K : PySem.W.Frag) (p : He.Defn) (q : Str) : Prop where
  mem : (He.codeOf K p, (He.cT K p).2, q) ∈ tabs3 K
  uni : ∀ z ∈ tabsK K, z.1 = (He.cT K p).2 → z.2 = q
def tabsD (g : Addr → Option Obj) (K : PySem.W.Frag) : Bool := (tabA K).all fun a => match g a with
  | some o => He.emptyTab o
  | none => false
theorem tabsD_ok {h : Heap} {K : PySem.W.Frag} (b : tabsD h.get? K = true) : ∀ a ∈ tabA K, h.get? a = some tabO := fun a ha => by
  have z := List.all_eq_true.mp b a ha
  split at z
  · rename_i o e
    rw [e, He.emptyTab_eq z]
  · cases z
structure SaysE (fa : List He.Fa) (fn : List He.DefD) (ex : PySem.W.Frag → Bool) (w : World) (h : Heap) (K : PySem.W.Frag) : Prop where
  t : He.SaysT fa fn [] w K
  more : ex K = true
  tabs : ∀ a ∈ tabA K, h.get? a = some tabO
end MP

end
section
namespace MP
open PySem PySem.Spec PyProof.Rows L2
structure LamD (sc scope : Scope) (N : List Str) (n : Str) : Prop where
  kind : scope.kind = .function
  co : scope.isCoroutine = false
  gen : scope.isGenerator = false
  cell : ∀ y ∈ scope.names, y.2 ≠ .cell
  own : ∀ y ∈ scope.names, y.2 = .local → y.1 ∉ N
  par : scope.names.lookup n = some .local
  free : ∀ y ∈ scope.names, y.2 = .free → sc.names.lookup y.1 = some .cell ∨ sc.names.lookup y.1 = some .free
end MP

end
section
end
section
namespace MP
open PySem PySem.Spec PyProof.Rows L2
structure SaysF (fa : List He.Fa) (fn : List He.DefD) (ts : List He.Tab) (ex : PySem.W.Frag → Bool) (w : World) (h : Heap) (K : PySem.W.Frag) : Prop where
  t : He.SaysT fa fn ts w K
  more : ex K = true
  tabs : ∀ a ∈ tabA K, h.get? a = some tabO
end MP

end
section
namespace MP
open PySem PySem.Spec PyProof.Rows L2
def KwB (fd : FuncData) (ps : List Str) (n : Nat) (ks : List Str) (pm : List Nat) : Prop :=
  ∀ (s : Shared) (us ws : List Value), us.length = n → ws.length = ks.length → BindsTo s fd ⟨us, ks.zip ws⟩ (ps.zip (pm.map fun i => (us ++ ws).getD i .none))
structure FnKw (P : Program) (w : World) (K : PySem.W.Frag) (mg : Str → Option Value) (base : Heap) (x : Str) (k n : Nat) (ks : List Str) (pm : List Nat) (m : MF) : Prop where
  ex : ∃ f fd ps, FnM P w K mg base k f fd ps m ∧ mg x = some (.ref f) ∧ PySem.W.keepIn K (.ref f) = true ∧ ps.length = pm.length ∧ KwB fd ps n ks pm
end MP

end
section
namespace MP
open PySem PySem.Spec PyProof.Rows L2
structure Grow (ww : World) (K : PySem.W.Frag) (mg : Str → Option Value) (r0 : List Addr) (H0 : Hp) (D : Addr) (r : List Addr) (h : MH) (H : Hp) (acc : List MV) (ys : List V) : Prop where
  po : Post ww K mg r0 H0 r h H
  out : D ∉ r
  at_ : H D = some (.lst ys)
  rep : RepL K mg r H acc ys
section
variable {ww : World} {K : PySem.W.Frag} {mg : Str → Option Value} {r0 r r2 : List Addr} {H0 H H2 : Hp} {h h2 : MH} {D : Addr} {acc : List MV} {ys : List V}
theorem Grow.kp (g : Grow ww K mg r0 H0 D r h H acc ys) (x : HS ww K mg r0 h2 H0) : Kp K H0 H := g.po.kp x
end
end MP

end
section
namespace MP
open PySem PySem.Spec PyProof.Rows L2
def obsL (as : List Addr) (fa : List He.Fa) (fn : List He.DefD) (ts : List He.Tab) (ex : PySem.W.Frag → Bool) (g : Addr → Option Obj) : AlC := (He.obsT fa fn ts (He.frT g as), ex (He.frT g as) && tabsD g (He.frT g as))
def hookL (as : List Addr) (fa : List He.Fa) (fn : List He.DefD) (ts : List He.Tab) (ex : PySem.W.Frag → Bool) : PySem.W.Hook where
  α := AlC
  obs s := obsL as fa fn ts ex s.heap.get?
  val w := (He.valT fn ts w, true)
  says w h := ∃ K : PySem.W.Frag, K.In h ∧ SaysF fa fn ts ex w h K
  of _ _ e := by
    have b := (Bool.and_eq_true _ _).mp (congrArg Prod.snd e)
    exact ⟨_, He.frT_in, congrArg Prod.fst e, b.1, tabsD_ok b.2⟩
  keeps _ _ _ z k := z.elim fun K c => ⟨K, c.1.keeps k, c.2.t, c.2.more, fun a ha => k _ _ (c.2.tabs a ha)⟩
noncomputable abbrev EnQ (r : PySem.W.OpenRow) (M : Nat) (w : World) (os : OsState) : Option PySem.W.SharedT := HandSHeadRun.endF (HandSHeadRun.stepQ (HandSHeadRun.denQ HandSHeadRun.tabQ) r.prog w) M r.prog w os
abbrev KQ (as : List Addr) (s : PySem.W.SharedT) : PySem.W.Frag := He.frT (HandSHeadRun.getT s) as
theorem map_is {α β : Type} {x : Option α} {f : α → β} {b : β} (h : x.map f = some b) : ∃ s, x = some s ∧ f s = b := Option.map_eq_some_iff.mp h
theorem run_parts {r : PySem.W.OpenRow} {q : Program} {as : List Addr} {fa : List He.Fa} {fn : List He.DefD} {ts : List He.Tab} {ex : PySem.W.Frag → Bool} {M : Nat} {loose : List Str} {w : World}
    (h1 : ∀ os, (EnQ r M w os).map (fun s => HandSHeadRun.looksF r.prog (PySem.W.boot_heap w.params) s.abs) = some true)
    (h2 : ∀ os, (EnQ r M w os).map (fun s => HandSHeadRun.seenQ q loose (importedModules r.prog.main.body) (fun s => PySem.W.xlAt q [] s && PySem.W.recOk r.toRowW.records s) s.abs) = some (PySem.W.openGood q loose))
    (h3 : ∀ os, (EnQ r M w os).map (fun s => fa.all fun f => f.ok (KQ as s)) = some true)
    (h4 : ∀ os, (EnQ r M w os).map (fun s => fn.all fun d => d.ok (KQ as s)) = some true)
    (h5 : ∀ os, (EnQ r M w os).map (fun s => fn.map fun d => He.fnW (KQ as s) d.at_) = some (fn.map He.DefD.val))
    (h6 : ∀ os, (EnQ r M w os).map (fun s => ts.map fun t => He.dicW (KQ as s) (t.1 (KQ as s))) = some (ts.map fun t => some (He.keysIn w.params t.2)))
    (h7 : ∀ os, (EnQ r M w os).map (fun s => ex (KQ as s)) = some true)
    (h8 : ∀ os, (EnQ r M w os).map (fun s => tabsD (HandSHeadRun.getT s) (KQ as s)) = some true) :
    HandSHeadRun.RunEq r q (hookL as fa fn ts ex) (fun s => obsL as fa fn ts ex (HandSHeadRun.getT s)) M loose w := by
  intro os
  obtain ⟨s, e, a1⟩ := map_is (h1 os)
  have a2 := h2 os; have a3 := h3 os; have a4 := h4 os; have a5 := h5 os; have a6 := h6 os; have a7 := h7 os; have a8 := h8 os
  rw [e] at a2 a3 a4 a5 a6 a7 a8
  simp only [Option.map_some, Option.some.injEq] at a2 a3 a4 a5 a6 a7 a8
  show (EnQ r M w os).map _ = _
  rw [e]
  show some (HandSHeadRun.looksF r.prog (PySem.W.boot_heap w.params) s.abs, HandSHeadRun.seenQ q loose (importedModules r.prog.main.body) (fun s => PySem.W.xlAt q [] s && PySem.W.recOk r.toRowW.records s) s.abs, ((((fa.all fun f => f.ok (KQ as s)) && fn.all fun d => d.ok (KQ as s), fn.map fun d => He.fnW (KQ as s) d.at_), ts.map fun t => He.dicW (KQ as s) (t.1 (KQ as s))), ex (KQ as s) && tabsD (HandSHeadRun.getT s) (KQ as s))) = some (true, PySem.W.openGood q loose, ((true, fn.map He.DefD.val), ts.map fun t => some (He.keysIn w.params t.2)), true)
  rw [a1, a2, a3, a4, a5, a6, a7, a8]
  rfl
end MP

end
section
end
section
end
section
namespace MP
open PySem PySem.Spec PyProof.Rows L2
structure Ordd (l : List MV) : Prop where
  sh : ∀ a ∈ l, ∀ b ∈ l, sSh a b = true
  tr : ∀ a ∈ l, ∀ b ∈ l, ∀ c ∈ l, sLt b a = false → sLt c b = false → sLt c a = false
  as : ∀ a ∈ l, ∀ b ∈ l, sLt a b = true → sLt b a = false
end MP

end
section
end
section
end
section
namespace GXk22
open MP
def v_ALWAYS : MV := (.str [97, 108, 119, 97, 121, 115])
def v_FREE : MV := (.str [102, 114, 101, 101])
def v_APART : MV := (.str [97, 112, 97, 114, 116])
def v_SAME : MV := (.str [115, 97, 109, 101])
def v_OWN : MV := (.str [111, 119, 110])
def v_ANY : MV := (.str [97, 110, 121])
def v_AT_LINES : MV := (.str [108, 105, 110, 101])
def v_CHOICES : MV := (.tup [(.tup [(.str [97, 108, 119, 97, 121, 115]), (.str [102, 114, 101, 101]), (.str [110, 101, 118, 101, 114])]), (.tup [(.str [97, 108, 119, 97, 121, 115]), (.str [97, 112, 97, 114, 116]), (.str [110, 101, 118, 101, 114])]), (.tup [(.str [115, 97, 109, 101]), (.str [110, 111, 110, 101])]), (.tup [(.str [111, 119, 110]), (.str [97, 110, 121]), (.str [110, 101, 118, 101, 114])]), (.tup [(.str [111, 119, 110]), (.str [97, 110, 121]), (.str [111, 110, 101])]), (.tup [(.str [110, 101, 118, 101, 114]), (.str [108, 105, 110, 101])])])
def v_OPENERS : MV := (.str [40, 91])
def v_CLOSERS : MV := (.str [41, 93])
def v_QUOTE : MV := (.str [39])
def v_BLANK : MV := (.str [32])
def v_LINE : MV := (.str [47])
def v_LETTERS : MV := (.str [97, 98, 99, 100, 101, 102, 103, 104, 105, 106, 107, 108, 109, 110, 111, 112, 113, 114, 115, 116, 117, 118, 119, 120, 121, 122])
def v_BACK : MV := (.str [98, 97, 99, 107])
def v_RIGHT : MV := (.str [114, 105, 103, 104, 116])
def v_END : MV := (.str [101, 110, 100])
def v_STRUCK : MV := (.str [40, 91, 41, 93, 39, 32, 47, 97])
def v_RESTS : MV := (.tup [(.str []), (.str [32]), (.str [41]), (.str [93]), (.str [39]), (.str [97])])
def v_OVER : MV := (.str [111, 118, 101, 114])
def v_PUT : MV := (.str [112, 117, 116])
def v_PLAIN : MV := (.str [112, 108, 97, 105, 110])
abbrev n_BadBook : CP := [66, 97, 100, 66, 111, 111, 107]
abbrev n_BadFlags : CP := [66, 97, 100, 70, 108, 97, 103, 115]
abbrev f_place : CP := [112, 108, 97, 99, 101]
abbrev f_value : CP := [118, 97, 108, 117, 101]
def xsX : List (CP × CP) := [(n_BadBook, f_place), (n_BadFlags, f_value)]
def tbX : List (CP × CP × Bool) := []
def ttX : List (CP × Ty × Bool) := [(n_BadBook, .valErr, true), (n_BadBook, .ovfErr, false), (n_BadFlags, .valErr, true), (n_BadFlags, .ovfErr, false)]
end GXk22

end
section
namespace GXk22
open PySem PySem.Spec PyProof.Rows L2 MP
def top (i : Nat) : Stmt := PySem.Challenge.pw_ownclosers_k22_whole_choices_without_eff.main.body.getD i (.Pass ⟨0, 0, 0, 0⟩)
abbrev s_law_folded : Stmt := top 54
abbrev s_law_begun : Stmt := top 56
abbrev s_law_mixed : Stmt := top 53
abbrev s_law_draw : Stmt := top 55
abbrev s_law_book : Stmt := top 58
abbrev s_law_like : Stmt := top 57
abbrev s_need_book : Stmt := top 17
abbrev s_need_flags : Stmt := top 41
abbrev s_rests_of : Stmt := top 50
abbrev s_Stand_key : Stmt := inClass (top 44) 1
abbrev s_Heads_come : Stmt := inClass (top 46) 1
abbrev s_Stand_strikes : Stmt := inClass (top 44) 5
abbrev s_left_with : Stmt := top 42
abbrev s_Page___init__ : Stmt := inClass (top 34) 0
abbrev s_Stand_page_by : Stmt := inClass (top 44) 2
abbrev s_closer_of : Stmt := top 25
abbrev s_Page_next_sign : Stmt := inClass (top 34) 1
abbrev s_Page_is_next_own : Stmt := inClass (top 34) 2
abbrev s_Page_go_back : Stmt := inClass (top 34) 6
abbrev s_Page_go_over : Stmt := inClass (top 34) 3
abbrev s_is_closing : Stmt := top 27
abbrev s_is_within : Stmt := top 29
abbrev s_is_free : Stmt := top 28
abbrev s_is_letter : Stmt := top 26
abbrev s_Page_does_put : Stmt := inClass (top 34) 4
abbrev s_Page_type_sign : Stmt := inClass (top 34) 5
abbrev s_Page_press : Stmt := inClass (top 34) 7
abbrev s_Stand_deed : Stmt := inClass (top 44) 3
abbrev s_deed_of_both : Stmt := top 45
abbrev s_Heads_deed_in : Stmt := inClass (top 46) 3
abbrev s_kind_before : Stmt := top 43
abbrev s_Stand_ahead : Stmt := inClass (top 44) 4
abbrev s_Stand_ahead_behind : Stmt := inClass (top 44) 6
abbrev s_Stand___init__ : Stmt := inClass (top 44) 0
abbrev s_Heads_bare : Stmt := inClass (top 46) 6
abbrev s_Heads_begin : Stmt := inClass (top 46) 4
abbrev s_Heads_uncover : Stmt := inClass (top 46) 5
abbrev s_Heads_press : Stmt := inClass (top 46) 2
abbrev s_Heads___init__ : Stmt := inClass (top 46) 0
abbrev s_are_alike : Stmt := top 47
abbrev s_stand_at : Stmt := top 49
abbrev s_Way___init__ : Stmt := inClass (top 48) 0
abbrev s_Way_after : Stmt := inClass (top 48) 2
abbrev s_Way_key : Stmt := inClass (top 48) 1
abbrev s_parting : Stmt := top 51
abbrev s_law : Stmt := top 59
def e_law_folded : He.DefD := ⟨("_law_folded", none), "_law_folded", "_law_folded", defArgs s_law_folded, defBody s_law_folded, defScope s_law_folded, [], []⟩
def e_law_begun : He.DefD := ⟨("_law_begun", none), "_law_begun", "_law_begun", defArgs s_law_begun, defBody s_law_begun, defScope s_law_begun, [], []⟩
def e_law_mixed : He.DefD := ⟨("_law_mixed", none), "_law_mixed", "_law_mixed", defArgs s_law_mixed, defBody s_law_mixed, defScope s_law_mixed, [], []⟩
def e_law_draw : He.DefD := ⟨("_law_draw", none), "_law_draw", "_law_draw", defArgs s_law_draw, defBody s_law_draw, defScope s_law_draw, [], []⟩
def e_law_book : He.DefD := ⟨("_law_book", none), "_law_book", "_law_book", defArgs s_law_book, defBody s_law_book, defScope s_law_book, [], []⟩
def e_law_like : He.DefD := ⟨("_law_like", none), "_law_like", "_law_like", defArgs s_law_like, defBody s_law_like, defScope s_law_like, [], []⟩
def e_need_book : He.DefD := ⟨("need_book", none), "need_book", "need_book", defArgs s_need_book, defBody s_need_book, defScope s_need_book, [], []⟩
def e_need_flags : He.DefD := ⟨("need_flags", none), "need_flags", "need_flags", defArgs s_need_flags, defBody s_need_flags, defScope s_need_flags, [], []⟩
def e_rests_of : He.DefD := ⟨("rests_of", none), "rests_of", "rests_of", defArgs s_rests_of, defBody s_rests_of, defScope s_rests_of, [], []⟩
def e_Stand_key : He.DefD := ⟨("Stand", some "key"), "key", "Stand.key", defArgs s_Stand_key, defBody s_Stand_key, defScope s_Stand_key, [], []⟩
def e_Heads_come : He.DefD := ⟨("Heads", some "come"), "come", "Heads.come", defArgs s_Heads_come, defBody s_Heads_come, defScope s_Heads_come, [], []⟩
def e_Stand_strikes : He.DefD := ⟨("Stand", some "strikes"), "strikes", "Stand.strikes", defArgs s_Stand_strikes, defBody s_Stand_strikes, defScope s_Stand_strikes, [], []⟩
def e_left_with : He.DefD := ⟨("left_with", none), "left_with", "left_with", defArgs s_left_with, defBody s_left_with, defScope s_left_with, [], []⟩
def e_Page___init__ : He.DefD := ⟨("Page", some "__init__"), "__init__", "Page.__init__", defArgs s_Page___init__, defBody s_Page___init__, defScope s_Page___init__, [], []⟩
def e_Stand_page_by : He.DefD := ⟨("Stand", some "page_by"), "page_by", "Stand.page_by", defArgs s_Stand_page_by, defBody s_Stand_page_by, defScope s_Stand_page_by, [], []⟩
def e_closer_of : He.DefD := ⟨("closer_of", none), "closer_of", "closer_of", defArgs s_closer_of, defBody s_closer_of, defScope s_closer_of, [], []⟩
def e_Page_next_sign : He.DefD := ⟨("Page", some "next_sign"), "next_sign", "Page.next_sign", defArgs s_Page_next_sign, defBody s_Page_next_sign, defScope s_Page_next_sign, [], []⟩
def e_Page_is_next_own : He.DefD := ⟨("Page", some "is_next_own"), "is_next_own", "Page.is_next_own", defArgs s_Page_is_next_own, defBody s_Page_is_next_own, defScope s_Page_is_next_own, [], []⟩
def e_Page_go_back : He.DefD := ⟨("Page", some "go_back"), "go_back", "Page.go_back", defArgs s_Page_go_back, defBody s_Page_go_back, defScope s_Page_go_back, [], []⟩
def e_Page_go_over : He.DefD := ⟨("Page", some "go_over"), "go_over", "Page.go_over", defArgs s_Page_go_over, defBody s_Page_go_over, defScope s_Page_go_over, [], []⟩
def e_is_closing : He.DefD := ⟨("is_closing", none), "is_closing", "is_closing", defArgs s_is_closing, defBody s_is_closing, defScope s_is_closing, [], []⟩
def e_is_within : He.DefD := ⟨("is_within", none), "is_within", "is_within", defArgs s_is_within, defBody s_is_within, defScope s_is_within, [], []⟩
def e_is_free : He.DefD := ⟨("is_free", none), "is_free", "is_free", defArgs s_is_free, defBody s_is_free, defScope s_is_free, [], []⟩
def e_is_letter : He.DefD := ⟨("is_letter", none), "is_letter", "is_letter", defArgs s_is_letter, defBody s_is_letter, defScope s_is_letter, [], []⟩
def e_Page_does_put : He.DefD := ⟨("Page", some "does_put"), "does_put", "Page.does_put", defArgs s_Page_does_put, defBody s_Page_does_put, defScope s_Page_does_put, [], []⟩
def e_Page_type_sign : He.DefD := ⟨("Page", some "type_sign"), "type_sign", "Page.type_sign", defArgs s_Page_type_sign, defBody s_Page_type_sign, defScope s_Page_type_sign, [], []⟩
def e_Page_press : He.DefD := ⟨("Page", some "press"), "press", "Page.press", defArgs s_Page_press, defBody s_Page_press, defScope s_Page_press, [], []⟩
def e_Stand_deed : He.DefD := ⟨("Stand", some "deed"), "deed", "Stand.deed", defArgs s_Stand_deed, defBody s_Stand_deed, defScope s_Stand_deed, [], []⟩
def e_deed_of_both : He.DefD := ⟨("deed_of_both", none), "deed_of_both", "deed_of_both", defArgs s_deed_of_both, defBody s_deed_of_both, defScope s_deed_of_both, [], []⟩
def e_Heads_deed_in : He.DefD := ⟨("Heads", some "deed_in"), "deed_in", "Heads.deed_in", defArgs s_Heads_deed_in, defBody s_Heads_deed_in, defScope s_Heads_deed_in, [], []⟩
def e_kind_before : He.DefD := ⟨("kind_before", none), "kind_before", "kind_before", defArgs s_kind_before, defBody s_kind_before, defScope s_kind_before, [], []⟩
def e_Stand_ahead : He.DefD := ⟨("Stand", some "ahead"), "ahead", "Stand.ahead", defArgs s_Stand_ahead, defBody s_Stand_ahead, defScope s_Stand_ahead, [], []⟩
def e_Stand_ahead_behind : He.DefD := ⟨("Stand", some "ahead_behind"), "ahead_behind", "Stand.ahead_behind", defArgs s_Stand_ahead_behind, defBody s_Stand_ahead_behind, defScope s_Stand_ahead_behind, [], []⟩
def e_Stand___init__ : He.DefD := ⟨("Stand", some "__init__"), "__init__", "Stand.__init__", defArgs s_Stand___init__, defBody s_Stand___init__, defScope s_Stand___init__, [], []⟩
def e_Heads_bare : He.DefD := ⟨("Heads", some "bare"), "bare", "Heads.bare", defArgs s_Heads_bare, defBody s_Heads_bare, defScope s_Heads_bare, [], []⟩
def e_Heads_begin : He.DefD := ⟨("Heads", some "begin"), "begin", "Heads.begin", defArgs s_Heads_begin, defBody s_Heads_begin, defScope s_Heads_begin, [], []⟩
def e_Heads_uncover : He.DefD := ⟨("Heads", some "uncover"), "uncover", "Heads.uncover", defArgs s_Heads_uncover, defBody s_Heads_uncover, defScope s_Heads_uncover, [], []⟩
def e_Heads_press : He.DefD := ⟨("Heads", some "press"), "press", "Heads.press", defArgs s_Heads_press, defBody s_Heads_press, defScope s_Heads_press, [], []⟩
def e_Heads___init__ : He.DefD := ⟨("Heads", some "__init__"), "__init__", "Heads.__init__", defArgs s_Heads___init__, defBody s_Heads___init__, defScope s_Heads___init__, [], []⟩
def e_are_alike : He.DefD := ⟨("are_alike", none), "are_alike", "are_alike", defArgs s_are_alike, defBody s_are_alike, defScope s_are_alike, [], []⟩
def e_stand_at : He.DefD := ⟨("stand_at", none), "stand_at", "stand_at", defArgs s_stand_at, defBody s_stand_at, defScope s_stand_at, [], []⟩
def e_Way___init__ : He.DefD := ⟨("Way", some "__init__"), "__init__", "Way.__init__", defArgs s_Way___init__, defBody s_Way___init__, defScope s_Way___init__, [], []⟩
def e_Way_after : He.DefD := ⟨("Way", some "after"), "after", "Way.after", defArgs s_Way_after, defBody s_Way_after, defScope s_Way_after, [], []⟩
def e_Way_key : He.DefD := ⟨("Way", some "key"), "key", "Way.key", defArgs s_Way_key, defBody s_Way_key, defScope s_Way_key, [], []⟩
def e_parting : He.DefD := ⟨("parting", none), "parting", "parting", defArgs s_parting, defBody s_parting, defScope s_parting, [], []⟩
def e_law : He.DefD := ⟨("law", none), "law", "law", defArgs s_law, defBody s_law, defScope s_law, [], []⟩
def fa : List He.Fa := [.glo "_law_folded", .glo "_law_begun", .glo "_law_mixed", .glo "_law_draw", .glo "_law_book", .glo "_law_like", .glo "need_book", .glo "need_flags", .glo "rests_of", .glo "left_with", .glo "closer_of", .glo "is_closing", .glo "is_within", .glo "is_free", .glo "is_letter", .glo "deed_of_both", .glo "kind_before", .glo "are_alike", .glo "stand_at", .glo "parting", .glo "law", .glo "Page", .cls "Page", .mkr "Page", .meth "Page" "__init__", .meth "Page" "next_sign", .meth "Page" "is_next_own", .meth "Page" "go_back", .meth "Page" "go_over", .meth "Page" "does_put", .meth "Page" "type_sign", .meth "Page" "press", .glo "Stand", .cls "Stand", .mkr "Stand", .meth "Stand" "key", .meth "Stand" "strikes", .meth "Stand" "page_by", .meth "Stand" "deed", .meth "Stand" "ahead", .meth "Stand" "ahead_behind", .meth "Stand" "__init__", .glo "Heads", .cls "Heads", .mkr "Heads", .meth "Heads" "come", .meth "Heads" "deed_in", .meth "Heads" "bare", .meth "Heads" "begin", .meth "Heads" "uncover", .meth "Heads" "press", .meth "Heads" "__init__", .glo "Way", .cls "Way", .mkr "Way", .meth "Way" "__init__", .meth "Way" "after", .meth "Way" "key", .free "all", .free "bool", .free "enumerate", .free "int", .free "isinstance", .free "len", .free "list", .free "range", .free "repr", .free "str", .free "tuple", .noat "Stand" "before", .noat "Heads" "books", .noat "Way" "cells", .noat "Heads" "covering", .noat "Heads" "deeds", .noat "Heads" "flags", .noat "Stand" "following", .noat "Stand" "held", .noat "Stand" "is_aged", .noat "Stand" "is_odd", .noat "Stand" "is_put", .noat "Heads" "is_unlike", .noat "Way" "keys_so", .noat "Heads" "known", .noat "Page" "left", .noat "Way" "met", .noat "Way" "rest", .noat "Page" "right", .noat "Way" "stand", .noat "Heads" "uncovered", .noat "Heads" "waiting"]
def fn : List He.DefD := [e_law_folded, e_law_begun, e_law_mixed, e_law_draw, e_law_book, e_law_like, e_need_book, e_need_flags, e_rests_of, e_Stand_key, e_Heads_come, e_Stand_strikes, e_left_with, e_Page___init__, e_Stand_page_by, e_closer_of, e_Page_next_sign, e_Page_is_next_own, e_Page_go_back, e_Page_go_over, e_is_closing, e_is_within, e_is_free, e_is_letter, e_Page_does_put, e_Page_type_sign, e_Page_press, e_Stand_deed, e_deed_of_both, e_Heads_deed_in, e_kind_before, e_Stand_ahead, e_Stand_ahead_behind, e_Stand___init__, e_Heads_bare, e_Heads_begin, e_Heads_uncover, e_Heads_press, e_Heads___init__, e_are_alike, e_stand_at, e_Way___init__, e_Way_after, e_Way_key, e_parting, e_law]
def exs : List (Str × MV) := [(("ALWAYS" : Str), v_ALWAYS), (("FREE" : Str), v_FREE), (("APART" : Str), v_APART), (("SAME" : Str), v_SAME), (("OWN" : Str), v_OWN), (("ANY" : Str), v_ANY), (("AT_LINES" : Str), v_AT_LINES), (("CHOICES" : Str), v_CHOICES), (("OPENERS" : Str), v_OPENERS), (("CLOSERS" : Str), v_CLOSERS), (("QUOTE" : Str), v_QUOTE), (("BLANK" : Str), v_BLANK), (("LINE" : Str), v_LINE), (("LETTERS" : Str), v_LETTERS), (("BACK" : Str), v_BACK), (("RIGHT" : Str), v_RIGHT), (("END" : Str), v_END), (("STRUCK" : Str), v_STRUCK), (("RESTS" : Str), v_RESTS), (("OVER" : Str), v_OVER), (("PUT" : Str), v_PUT), (("PLAIN" : Str), v_PLAIN)]
def cats (K : PySem.W.Frag) : Bool := true
def mkl : List (He.Defn × Str) := []
def ts : List He.Tab := []
def ex (K : PySem.W.Frag) : Bool := (exs.all fun p => gloB K p.1 p.2) && (exX PySem.Challenge.pw_ownclosers_k22_whole_choices_without_eff.main.file xsX tbX ttX K && (cats K && mkl.all (mkB K)))
structure Txt0 (P : Program) (w : World) (K : PySem.W.Frag) (mg : Str → Option Value) (h : Heap) : Prop where
  kin : K.In h
  glob : h.Ns mainGlobals mg
  says : SaysF fa fn ts ex w h K
  file : P.main.file = PySem.Challenge.pw_ownclosers_k22_whole_choices_without_eff.main.file
  nosup : (P.main.scope.names.lookup ("super" : Str)).isSome = false
structure Txt (P : Program) (w : World) (K : PySem.W.Frag) (mg : Str → Option Value) (base h : Heap) : Prop extends Txt0 P w K mg h where
  tb : TabsB K mg base
abbrev Rr : PySem.W.OpenRow := PySem.W.OpenLaw.row PySem.Challenge.rw_ownclosers_k22_whole_choices_without_eff
def loose : List Str := (["_wall", "CloserError", "BadBook", "BadFlags", "ALWAYS", "FREE", "NEVER", "APART", "SAME", "NONE", "OWN", "ANY", "ONE", "AT_LINES", "CHOICES"] : List Str) ++ (["need_book", "OPENERS", "CLOSERS", "QUOTE", "BLANK", "LINE", "LETTERS", "closer_of", "is_letter", "is_closing", "is_free", "is_within", "BACK", "RIGHT", "END"] : List Str) ++ (["Page", "STRUCK", "RESTS", "OVER", "PUT", "PLAIN", "need_flags", "left_with", "kind_before", "Stand", "deed_of_both", "Heads", "are_alike", "Way", "stand_at"] : List Str) ++ (["rests_of", "parting", "_law_mixed", "_law_folded", "_law_draw", "_law_begun", "_law_like", "_law_book"] : List Str)
def asL : List Addr := ([0, 3, 4, 6, 15, 16, 17, 18, 19, 20, 21, 29, 30, 31, 32, 38, 44, 45, 46, 47, 48, 49, 50, 51, 52, 53, 59, 65, 66, 67, 68, 69, 70, 71, 72, 73, 74, 77, 78, 79] : List Addr) ++ ([80, 81, 82, 83, 84, 85, 86, 87, 88, 89, 90, 91, 92, 93, 94, 95, 96, 97, 98, 99, 100, 101, 102, 103, 104, 105, 106, 107, 108, 109, 110, 111, 112, 113, 114, 115, 116, 117, 118, 119] : List Addr) ++ ([120, 121, 122, 123, 124, 125, 133, 134, 135, 136, 137, 138, 139, 140, 141, 142, 143, 144, 145, 146, 147, 148, 149, 150, 151, 152, 153, 154, 155, 156, 157, 158, 159, 160, 161, 162, 163, 164, 165, 166] : List Addr) ++ ([167, 168, 169, 170, 171, 172, 173, 174, 175, 176, 177, 178, 179, 180, 181, 182, 183, 184, 185, 186, 187, 188, 189, 190, 191, 192, 193, 194, 195, 196, 197, 198, 199, 200, 201, 202, 203, 206, 207, 208] : List Addr) ++ ([209, 210, 211, 212, 213, 214, 215, 216, 217, 218, 219, 220, 221, 222, 223, 224, 225, 233, 234, 235, 236, 237, 238, 239, 240, 241, 242, 243, 244, 245, 246, 247, 248, 249, 250, 251, 252, 253, 254, 255] : List Addr) ++ ([256, 257, 258, 259, 260, 261, 262, 263, 264, 265, 266, 267, 268, 269, 270, 271, 272, 273, 274, 275, 276, 277, 278, 279, 280, 281, 282, 283, 284, 287, 288, 289, 290, 291, 292, 293, 301, 302, 303, 304] : List Addr) ++ ([305, 306, 307, 308, 309, 310, 311, 312, 313, 314, 315, 316, 317, 318, 319, 320, 321, 322, 323, 324, 325, 326, 327, 328, 329, 330, 331, 332, 333, 334, 335, 336, 337, 338, 339, 340, 341, 342, 343, 344] : List Addr) ++ ([345, 346, 347, 348, 349, 350, 351, 352, 353, 354, 357, 358, 359, 360, 361, 362, 363, 371, 372, 373, 374, 375, 376, 377, 378, 379, 380, 381, 382, 383, 384, 385, 386, 387, 388, 389, 390, 391, 392, 393] : List Addr) ++ ([394, 397, 398, 399, 400, 401, 402, 403, 404, 405, 406, 407, 408, 409, 410, 411, 412, 413, 414, 415, 416, 417, 418, 419, 420, 421, 422, 423, 424, 425, 426, 427, 428, 429, 430, 431, 432, 433, 434, 435] : List Addr) ++ ([436, 437, 438, 439, 440, 441, 442, 443, 444, 445, 446, 447, 448, 449, 450, 451, 452, 453, 454, 455, 456, 457, 458, 2] : List Addr)
abbrev hk : PySem.W.Hook := hookL asL fa fn ts ex
def ob (s : PySem.W.SharedT) : AlC := obsL asL fa fn ts ex (HandSHeadRun.getT s)
theorem run_and {f g : PySem.W.SharedT → Bool} {w : World} (h1 : ∀ os, (EnQ Rr 20000 w os).map f = some true) (h2 : ∀ os, (EnQ Rr 20000 w os).map g = some true) : ∀ os, (EnQ Rr 20000 w os).map (fun s => f s && g s) = some true := by
  intro os
  obtain ⟨s, e, a⟩ := map_is (h1 os)
  have b := h2 os
  rw [e] at b ⊢
  simp only [Option.map_some, Option.some.injEq] at b ⊢
  rw [a, b]
  rfl
theorem run_all {α : Type} {w : World} {n : Nat} {l : List α} {p : PySem.W.SharedT → α → Bool} (h1 : ∀ os, (EnQ Rr 20000 w os).map (fun s => (l.take n).all (p s)) = some true) (h2 : ∀ os, (EnQ Rr 20000 w os).map (fun s => (l.drop n).all (p s)) = some true) : ∀ os, (EnQ Rr 20000 w os).map (fun s => l.all (p s)) = some true := by
  intro os
  have q := run_and h1 h2 os
  simp only [← List.all_append, List.take_append_drop] at q
  exact q
theorem run_pair {α β : Type} {w : World} {f : PySem.W.SharedT → α} {g : PySem.W.SharedT → β} {a : α} {b : β} (h : ∀ os, (EnQ Rr 20000 w os).map (fun s => (f s, g s)) = some (a, b)) : (∀ os, (EnQ Rr 20000 w os).map (fun s => f s) = some a) ∧ (∀ os, (EnQ Rr 20000 w os).map (fun s => g s) = some b) := by
  refine ⟨fun os => ?_, fun os => ?_⟩ <;> have q := h os <;> cases e : EnQ Rr 20000 w os with
  | none => rw [e] at q; cases q
  | some s =>
    rw [e] at q
    simp only [Option.map_some, Option.some.injEq, Prod.mk.injEq] at q ⊢
    first | exact q.1 | exact q.2
theorem runJ (w : World) : ∀ os, (EnQ Rr 20000 w os).map (fun s => (HandSHeadRun.seenQ (PySem.W.view Rr.prog [59]) loose (importedModules Rr.prog.main.body) (fun s => PySem.W.xlAt (PySem.W.view Rr.prog [59]) [] s && PySem.W.recOk Rr.toRowW.records s) s.abs, ts.map fun t => He.dicW (KQ asL s) (t.1 (KQ asL s)))) = some ((PySem.W.openGood (PySem.W.view Rr.prog [59]) loose), (ts.map fun t => some (He.keysIn w.params t.2))) := by
  intro os
  kernel_rfl
theorem run2 (w : World) : ∀ os, (EnQ Rr 20000 w os).map (fun s => HandSHeadRun.seenQ (PySem.W.view Rr.prog [59]) loose (importedModules Rr.prog.main.body) (fun s => PySem.W.xlAt (PySem.W.view Rr.prog [59]) [] s && PySem.W.recOk Rr.toRowW.records s) s.abs) = some (PySem.W.openGood (PySem.W.view Rr.prog [59]) loose) := (run_pair (runJ w)).1
theorem run6 (w : World) : ∀ os, (EnQ Rr 20000 w os).map (fun s => ts.map fun t => He.dicW (KQ asL s) (t.1 (KQ asL s))) = some (ts.map fun t => some (He.keysIn w.params t.2)) := (run_pair (runJ w)).2
theorem run1 (w : World) : ∀ os, (EnQ Rr 20000 w os).map (fun s => HandSHeadRun.looksF Rr.prog (PySem.W.boot_heap w.params) s.abs) = some true := by
  intro os
  kernel_rfl
theorem run3 (w : World) : ∀ os, (EnQ Rr 20000 w os).map (fun s => fa.all fun f => f.ok (KQ asL s)) = some true := by
  intro os
  kernel_rfl
theorem run4a (w : World) : ∀ os, (EnQ Rr 20000 w os).map (fun s => (fn.take 60).all fun d => d.ok (KQ asL s)) = some true := by
  intro os
  kernel_rfl
theorem run4b (w : World) : ∀ os, (EnQ Rr 20000 w os).map (fun s => (fn.drop 60).all fun d => d.ok (KQ asL s)) = some true := by
  intro os
  kernel_rfl
theorem run4 (w : World) : ∀ os, (EnQ Rr 20000 w os).map (fun s => fn.all fun d => d.ok (KQ asL s)) = some true := run_all (run4a w) (run4b w)
theorem run5 (w : World) : ∀ os, (EnQ Rr 20000 w os).map (fun s => fn.map fun d => He.fnW (KQ asL s) d.at_) = some (fn.map He.DefD.val) := by
  intro os
  kernel_rfl
theorem run7 (w : World) : ∀ os, (EnQ Rr 20000 w os).map (fun s => ex (KQ asL s)) = some true := by
  intro os
  kernel_rfl
theorem run8 (w : World) : ∀ os, (EnQ Rr 20000 w os).map (fun s => tabsD (HandSHeadRun.getT s) (KQ asL s)) = some true := by
  intro os
  kernel_rfl
theorem run (w : World) : HandSHeadRun.RunEq Rr (PySem.W.view Rr.prog [59]) hk ob 20000 loose w := run_parts (run1 w) (run2 w) (run3 w) (run4 w) (run5 w) (run6 w) (run7 w) (run8 w)
end GXk22
end
section
namespace MP.Pr
end MP.Pr

end
section
namespace MP.Px
end MP.Px

end
section
end
section
namespace MP.Sp
end MP.Sp

end
section
namespace MP.Jn
end MP.Jn

end
section
namespace MP.Cm
end MP.Cm

end
section
end
section
namespace MP.Pg
end MP.Pg

end
section
end
section
end
section
end
section
end
section
end
section
end
section
namespace MP.Ld
end MP.Ld

end
section
namespace MP.Le
end MP.Le

end
section
namespace MP.Q3
end MP.Q3

end
section
end
section
end
section
end
section
end
section
end
section
end
section
end
section
end
section
end
section
namespace MP.Q9
end MP.Q9

end
section
end
section
end
section
namespace MP.N1
end MP.N1

end
section
namespace MP.N2
end MP.N2

end
section
namespace MP.T2
end MP.T2

end
section
namespace MP.N5
end MP.N5

end
section
end
section
namespace MP.Jt
end MP.Jt

end
section
end
section
namespace MP.U1
end MP.U1

end
section
namespace MP.N3
end MP.N3

end
section
namespace GXk22
end GXk22

end
section
end
section
end
section
end
section
end
section
end
section
end
section
end
section
end
section
end
section
end
section
end
section
end
section
end
section
end
section
end
section
end
section
end
section
namespace MP.Lz0
end MP.Lz0

end
section
namespace MP.Lm
end MP.Lm

end
section
end
section
end
section
end
section
end
section
end
section
namespace MP.N4
end MP.N4

end
section
namespace MP.Sd
end MP.Sd

end
section
namespace MP.N6
end MP.N6

end
section
end
section
end
section
end
section
end
section
end
section
end
section
end
section
end
section
namespace MP.Pz
end MP.Pz

end
section
namespace MP.Ed
end MP.Ed

end
section
namespace MP.Ek
end MP.Ek

end
section
end
section
end
section
namespace MP
open PySem PySem.Spec PyProof.Rows L2

abbrev MS := Sl → MH → SR
def R.bind {α β : Type} (x : R α) (f : α → MH → R β) : R β := match x with
  | .ok a h => f a h
  | .err e h => .err e h
  | .stuck => .stuck
def R.bindS {α : Type} (x : R α) (s : Sl) (f : α → MH → SR) : SR := match x with
  | .ok a h => f a h
  | .err e h => .err e s h
  | .stuck => .stuck

theorem RoL.sq {K : PySem.W.Frag} {H : Hp} {a : Addr} {xs : List V} (h : RoL K H a xs) : SqL K H a xs := by
  rcases h with ⟨o, h⟩ | h
  · exact .inl (.inr ⟨o, h⟩)
  · exact .inr h
theorem FzL.sq {K : PySem.W.Frag} {H : Hp} {a : Addr} {xs : List V} (h : FzL H a xs) : SqL K H a xs := .inl (.inr h)
theorem FzL.rd {H : Hp} {a : Addr} {xs : List V} (h : FzL H a xs) : Rd H a (.lst xs) := .inr h
section
variable {ww : World} {K : PySem.W.Frag} {mg : Str → Option Value} {r r' : List Addr} {H H' : Hp}
theorem RepL.get : ∀ {vs : List MV} {xs : List V} {i : Nat} {v : MV}, RepL K mg r H vs xs → vs[i]? = some v → ∃ x, xs[i]? = some x ∧ Rep K mg r H v x
  | _, _, _, _, .nil, e => by simp at e
  | _, _, 0, _, .cons a _, e => by simp at e; subst e; exact ⟨_, rfl, a⟩
  | _, _, i + 1, v, .cons _ t, e => by
    obtain ⟨u, h1, h2⟩ := RepL.get (i := i) (v := v) t (by simpa using e)
    exact ⟨u, by simpa using h1, h2⟩
end

section
variable {ww : World} {K : PySem.W.Frag} {mg : Str → Option Value} {r r' r2 : List Addr} {h h' h2 : MH} {H H' H2 : Hp}
theorem Post.sqT (p : Post ww K mg r H r' h' H') (x : HS ww K mg r h H) : ∀ a xs, SqT K H a xs → SqT K H' a xs := (p.kp x).t
end

section
variable {ww : World} {K : PySem.W.Frag} {mg : Str → Option Value} {r r' : List Addr} {h h' : MH} {H H' : Hp} {m : Sl} {s : L2.St}
theorem SS.post (y : SS K mg r H m s) (x : HS ww K mg r h H) (p : Post ww K mg r H r' h' H') : SS K mg r' H' m s :=
  ⟨y.len, fun i v e => let ⟨z, e1, q⟩ := y.at_ i v e; ⟨z, e1, p.rep x q⟩⟩
end

section
variable (ww : World) (K : PySem.W.Frag) (mg : Str → Option Value) (W : WX)
def tM (m : ME) : TE := fun s H Q => ∃ r sm h, HS ww K mg r h H ∧ SS K mg r H sm s ∧ Wt ww K mg (Rep K mg) r H (fun c d H' => W c d s H') Q (m sm h)
def tMT (m : MT) : TT := fun s H Q => ∃ r sm h, HS ww K mg r h H ∧ SS K mg r H sm s ∧ Wt ww K mg (fun _ _ a b => a = b) r H (fun c d H' => W c d s H') Q (m sm h)
def tMA (m : MA) : TA := fun s H Q => ∃ r sm h, HS ww K mg r h H ∧ SS K mg r H sm s ∧ Wt ww K mg (RepL K mg) r H (fun c d H' => W c d s H') Q (m sm h)
def tMS (m : MS) : TS := fun D s H => ∃ r sm h, HS ww K mg r h H ∧ SS K mg r H sm s ∧ WtS ww K mg W r H D (m sm h)
end
section
variable {ww : World} {K : PySem.W.Frag} {mg : Str → Option Value} {W : WX}
theorem Wt.bind {α α' β β' : Type} {rel : List Addr → Hp → α → β → Prop} {rel' : List Addr → Hp → α' → β' → Prop} {r : List Addr} {H : Hp} {E : XK} {Q : β' → Hp → Prop} {x : R α} {f : α → MH → R α'}
    (h : Wt ww K mg rel' r H E Q (x.bind f)) : Wt ww K mg rel r H E (fun y H1 => ∃ r1 h1 v, Post ww K mg r H r1 h1 H1 ∧ rel r1 H1 v y ∧ Wt ww K mg rel' r1 H1 E Q (f v h1)) x := by
  cases x with
  | stuck => exact h
  | err e h' => exact h
  | ok v h' =>
    intro r1 H1 y p q
    refine ⟨r1, h', v, p, q, ?_⟩
    have h : Wt ww K mg rel' r H E Q (f v h') := h
    cases e : f v h' with
    | stuck => rw [e] at h; exact h
    | err z h2 => rw [e] at h; exact fun r' H' cls d p2 q2 => h r' H' cls d (p.trans p2) q2
    | ok z h2 => rw [e] at h; exact fun r' H' y p2 q2 => h r' H' y (p.trans p2) q2
theorem WtS.bind {α β : Type} {rel : List Addr → Hp → α → β → Prop} {r : List Addr} {H : Hp} {s : L2.St} {D : Ends} {x : R α} {sm : Sl} {h0 : MH} {f : α → MH → SR} (hs : HS ww K mg r h0 H) (ss : SS K mg r H sm s)
    (h : WtS ww K mg W r H D (x.bindS sm f)) : Wt ww K mg rel r H (fun c d H' => W c d s H') (fun y H1 => ∃ r1 h1 v, Post ww K mg r H r1 h1 H1 ∧ rel r1 H1 v y ∧ WtS ww K mg W r1 H1 D (f v h1)) x := by
  cases x with
  | stuck => exact h
  | err e h' => exact fun r' H' cls d p q => h r' s H' cls d p (ss.post hs p) q
  | ok v h' =>
    intro r1 H1 y p q
    refine ⟨r1, h', v, p, q, ?_⟩
    have h : WtS ww K mg W r H D (f v h') := h
    cases e : f v h' with
    | stuck => rw [e] at h; exact h
    | nx z h2 => rw [e] at h; exact fun r' s' H' p2 q2 => h r' s' H' (p.trans p2) q2
    | bk z h2 => rw [e] at h; exact fun r' s' H' p2 q2 => h r' s' H' (p.trans p2) q2
    | ct z h2 => rw [e] at h; exact fun r' s' H' p2 q2 => h r' s' H' (p.trans p2) q2
    | rt z h2 => rw [e] at h; exact fun r' H' y p2 q2 => h r' H' y (p.trans p2) q2
    | err z sm' h2 => rw [e] at h; exact fun r' s' H' cls d p2 q2 => h r' s' H' cls d (p.trans p2) q2
end
end MP

end
section
namespace MP
open PySem PySem.Spec PyProof.Rows L2

theorem S_length (l : CP) : (S l).length = l.length := by simp [S, Str.length]
theorem S_toList (l : CP) : (S l).cps.toList = l := by simp [S]
theorem S_append (a b : CP) : S a ++ S b = S (a ++ b) := by
  show Str.append (S a) (S b) = S (a ++ b)
  simp [Str.append, S]
theorem S_dec (a b : CP) : decide (V.str (S a) = V.str (S b)) = (a == b) := by
  by_cases e : a = b
  · subst e; simp
  · have h : ¬ V.str (S a) = V.str (S b) := fun q => e (S_inj (V.str.inj q))
    rw [decide_eq_false h]
    exact (beq_eq_false_iff_ne.mpr e).symm
def inS (y : CP) : CP → Bool
  | [] => y.isEmpty
  | c :: t => y.isPrefixOf (c :: t) || inS y t
theorem inS_iff (y : CP) : ∀ x : CP, inS y x = true ↔ ∃ i, i + y.length ≤ x.length ∧ (x.drop i).take y.length = y
  | [] => by
    constructor
    · intro h
      have : y = [] := by simpa [inS] using h
      subst this
      exact ⟨0, by simp, by simp⟩
    · rintro ⟨i, h1, _⟩
      have : y = [] := List.length_eq_zero_iff.mp (by simp only [List.length_nil] at h1; omega)
      simp [inS, this]
  | c :: t => by
    simp only [inS, Bool.or_eq_true]
    constructor
    · rintro (h | h)
      · obtain ⟨u, hu⟩ := List.isPrefixOf_iff_prefix.mp h
        refine ⟨0, ?_, ?_⟩
        · have := congrArg List.length hu
          simp at this ⊢
          omega
        · rw [List.drop_zero, ← hu]
          simp
      · obtain ⟨i, h1, h2⟩ := (inS_iff y t).mp h
        exact ⟨i + 1, by simp; omega, by simpa using h2⟩
    · rintro ⟨i, h1, h2⟩
      cases i with
      | zero =>
        left
        rw [List.isPrefixOf_iff_prefix]
        refine ⟨(c :: t).drop y.length, ?_⟩
        have e : (c :: t).take y.length = y := by simpa using h2
        rw [← e]
        simp only [List.length_take]
        rw [e]
        have : min y.length (c :: t).length = y.length := by simp at h1 ⊢; omega
        rw [this]
        conv => lhs; lhs; rw [← e]
        exact List.take_append_drop _ _
      | succ i =>
        right
        exact (inS_iff y t).mpr ⟨i, by simp at h1; omega, by simpa using h2⟩
theorem inS_occ (y x : CP) : (!(Builtin.Str.occurrences (S x) (S y) 0 (S x).length 1).isEmpty) = inS y x := by
  rw [Bool.eq_iff_iff, StrLaws.found_iff, inS_iff]
  have key : ∀ i, i + y.length ≤ x.length → (Builtin.Str.subAt (S x) (S y) i = true ↔ (x.drop i).take y.length = y) := fun i hi => by
    unfold Builtin.Str.subAt
    rw [beq_iff_eq, S_length]
    constructor
    · intro h
      have := congrArg Array.toList h
      simpa [S, List.extract_eq_take_drop] using this
    · intro h
      apply Array.ext'
      simpa [S, List.extract_eq_take_drop] using h
  simp only [S_length]
  constructor
  · rintro ⟨i, h1, h2⟩
    exact ⟨i, h1, (key i h1).mp h2⟩
  · rintro ⟨i, h1, h2⟩
    exact ⟨i, h1, (key i h1).mpr h2⟩

def ofO (o : Option (MV × MH)) : R MV := match o with
  | some (v, h) => .ok v h
  | none => .stuck
abbrev F2 := MV → MV → MH → Option (MV × MH)
def rM (ww : World) (K : PySem.W.Frag) (mg : Str → Option Value) (f : F2) : R2 := fun x y H Q => ∃ r h a b, HS ww K mg r h H ∧ Rep K mg r H a x ∧ Rep K mg r H b y ∧ Wt ww K mg (Rep K mg) r H (fun _ _ _ => False) Q (ofO (f a b h))
theorem Wt.anyE {ww : World} {K : PySem.W.Frag} {mg : Str → Option Value} {β : Type} {rel : List Addr → Hp → MV → β → Prop} {r : List Addr} {H : Hp} {E E' : XK} {Q : β → Hp → Prop} {o : Option (MV × MH)} (h : Wt ww K mg rel r H E Q (ofO o)) : Wt ww K mg rel r H E' Q (ofO o) := by
  cases o with
  | none => exact h
  | some p => exact h
theorem _root_.L2.PE.mimp {X : Cx} {e : Expr} {t t' : TE} (h : PE X e t) (i : ∀ s H Q, t' s H Q → t s H Q) : PE X e t' := ⟨fun pins s σ H Q I q => h.run pins s σ H Q I (i _ _ _ q)⟩
theorem _root_.L2.PT.mimp {X : Cx} {e : Expr} {t t' : TT} (h : PT X e t) (i : ∀ s H Q, t' s H Q → t s H Q) : PT X e t' := ⟨fun pins s σ H Q I q => h.run pins s σ H Q I (i _ _ _ q)⟩
theorem _root_.L2.PA.mimp {X : Cx} {e : List Expr} {t t' : TA} (h : PA X e t) (i : ∀ s H Q, t' s H Q → t s H Q) : PA X e t' := ⟨fun pos pins s σ H Q I q => h.run pos pins s σ H Q I (i _ _ _ q)⟩
theorem _root_.L2.PS.mimp {X : Cx} {e : Stmt} {t t' : TS} (h : PS X e t) (i : ∀ D s H, t' D s H → t D s H) : PS X e t' := ⟨fun pins s σ H D I q => h.run pins s σ H D I (i _ _ _ q)⟩
theorem _root_.L2.PSs.mimp {X : Cx} {e : List Stmt} {t t' : TS} (h : PSs X e t) (i : ∀ D s H, t' D s H → t D s H) : PSs X e t' := ⟨fun pins s σ H D I q => h.run pins s σ H D I (i _ _ _ q)⟩
def mAdd : F2
  | .int i, .int j, h => some (.int (i + j), h)
  | .str a, .str b, h => if a.length + b.length ≤ sizeLine then some (.str (a ++ b), h) else none
  | .tup a, .tup b, h => if a.length + b.length ≤ sizeLine then some (.tup (a ++ b), h) else none
  | .ref m, .ref n, h => match h[m]?, h[n]? with
    | some (.lst a), some (.lst b) => if a.length + b.length ≤ sizeLine then some (.ref h.length, h ++ [.lst (a ++ b)]) else none
    | _, _ => none
  | _, _, _ => none
section
variable {X : Cx}
theorem om_add : OpR X (binaryOp .Add) (rM X.w X.K X.mg mAdd) := by
  intro pins s σ H x y v u Q I rx ry hh
  obtain ⟨r, h, a, b, hs, ra, rb, w⟩ := hh
  cases a <;> cases b <;> first | exact w.elim | skip
  case int.int i j =>
    cases ra; cases rb
    exact op_add pins s σ H _ _ v u Q I rx ry ⟨i, j, rfl, rfl, w.plain hs (.int _)⟩
  case str.str i j =>
    cases ra; cases rb
    simp only [mAdd] at w
    split at w
    · rename_i hl
      refine op_add_str pins s σ H _ _ v u Q I rx ry ⟨S i, S j, rfl, rfl, by simpa [S_length] using hl, ?_⟩
      rw [S_append]
      exact w.plain hs (.str _)
    · exact w.elim
  case tup.tup i j =>
    cases ra with | tup sa qa => cases rb with | tup sb qb =>
    rename_i pa xs pb ys
    simp only [mAdd] at w
    split at w
    · rename_i hl
      have hla := qa.length
      have hlb := qb.length
      refine op_catA pins s σ H _ _ v u Q I rx ry ⟨pa, pb, xs, ys, rfl, rfl, sa, sb, by omega, fun ex => ?_, fun ex ey => ?_, fun ex ey p hp => ?_⟩
      · subst ex
        cases qa
        exact w.plain hs (.tup sb qb)
      · subst ey
        cases qb
        exact w.plain hs (by rw [List.append_nil]; exact .tup sa qa)
      · have po := hs.extra (u := .tup (xs ++ ys)) hp
        exact w r _ _ po (.tup (SqT.of upd_same) ((po.repL hs qa).append (po.repL hs qb)))
    · exact w.elim
  case ref.ref i j =>
    cases ra with | ref ea => cases rb with | ref eb =>
    simp only [mAdd] at w
    split at w
    · rename_i xa xb h1 h2
      split at w
      · rename_i hl
        obtain ⟨ya, e1, q1⟩ := hs.lookup ea h1
        obtain ⟨yb, e2, q2⟩ := hs.lookup eb h2
        have hla := q1.length
        have hlb := q2.length
        refine op_cat pins s σ H _ _ v u Q I rx ry ⟨_, _, ya, yb, rfl, rfl, e1, e2, by omega, fun p hp => ?_⟩
        have po := hs.extra (u := .lst (ya ++ yb)) hp
        have hm : ∀ (n : Nat) (z : Addr), r[n]? = some z → (r ++ [p])[n]? = some z := fun n z e => by
          rw [List.getElem?_append_left (List.getElem?_eq_some_iff.mp e).1]; exact e
        refine w (r ++ [p]) _ _ (hs.new hp ⟨_, rfl, ?_⟩) (.ref (by rw [← hs.len]; simp))
        exact RepL.mono Kp.refl hm _ _ ((po.repL hs q1).append (po.repL hs q2))
      · exact w.elim
    · exact w.elim

theorem HS.newL {ww : World} {K : PySem.W.Frag} {mg : Str → Option Value} {r : List Addr} {h : MH} {H : Hp} (hs : HS ww K mg r h H) {p : Addr} (hp : H p = none) {xs : List MV} {ys : List V} (q : RepL K mg r H xs ys) :
    Post ww K mg r H (r ++ [p]) (h ++ [.lst xs]) (upd H p (.lst ys)) ∧ Rep K mg (r ++ [p]) (upd H p (.lst ys)) (.ref h.length) (.ref p) := by
  have po := hs.extra (u := .lst ys) hp
  have hm : ∀ (n : Nat) (z : Addr), r[n]? = some z → (r ++ [p])[n]? = some z := fun n z e => by
    rw [List.getElem?_append_left (List.getElem?_eq_some_iff.mp e).1]; exact e
  exact ⟨hs.new hp ⟨_, rfl, RepL.mono Kp.refl hm _ _ (po.repL hs q)⟩, .ref (by rw [← hs.len]; simp)⟩
theorem HS.newT {ww : World} {K : PySem.W.Frag} {mg : Str → Option Value} {r : List Addr} {h : MH} {H : Hp} (hs : HS ww K mg r h H) {p : Addr} (hp : H p = none) {xs : List MV} {ys : List V} (q : RepL K mg r H xs ys) :
    Post ww K mg r H r h (upd H p (.tup ys)) ∧ Rep K mg r (upd H p (.tup ys)) (.tup xs) (.ref p) := by
  have po := hs.extra (u := .tup ys) hp
  exact ⟨po, .tup (SqT.of upd_same) (po.repL hs q)⟩
def lstV (h : MH) : MV → Option (List MV)
  | .ref n => lstAt h n
  | .lv xs => some xs
  | .ro xs => some xs
  | _ => none
theorem HS.listV {ww : World} {K : PySem.W.Frag} {mg : Str → Option Value} {r : List Addr} {h : MH} {H : Hp} (hs : HS ww K mg r h H) {v : MV} {x : V} {xs : List MV} (q : Rep K mg r H v x) (l : lstV h v = some xs) : ∃ p ys, x = .ref p ∧ SqL K H p ys ∧ RepL K mg r H xs ys := by
  cases v with
  | ref n =>
    cases q with
    | ref en =>
      obtain ⟨ys, sq, ql⟩ := hs.list en l
      exact ⟨_, ys, rfl, sq, ql⟩
  | lv ys =>
    cases q with
    | lv s ql => cases l; exact ⟨_, _, rfl, s.sq, ql⟩
  | ro ys =>
    cases q with
    | ro s ql => cases l; exact ⟨_, _, rfl, s.sq, ql⟩
  | _ => cases l
def lstR (h : MH) : MV → Option (List MV)
  | .ref n => lstAt h n
  | .lv xs => some xs
  | _ => none
theorem HS.listR {ww : World} {K : PySem.W.Frag} {mg : Str → Option Value} {r : List Addr} {h : MH} {H : Hp} (hs : HS ww K mg r h H) {v : MV} {x : V} {xs : List MV} (q : Rep K mg r H v x) (l : lstR h v = some xs) : ∃ p ys, x = .ref p ∧ Rd H p (.lst ys) ∧ RepL K mg r H xs ys := by
  cases v with
  | ref n =>
    cases q with
    | ref en =>
      simp only [lstR, lstAt] at l
      split at l
      · rename_i zs hz
        cases l
        obtain ⟨ys, e1, q⟩ := hs.lookup en hz
        exact ⟨_, ys, rfl, .inl e1, q⟩
      · cases l
  | lv ys =>
    cases q with
    | lv s ql => cases l; exact ⟨_, _, rfl, s.rd, ql⟩
  | _ => cases l

def mSub : F2
  | .int i, .int j, h => some (.int (i - j), h)
  | _, _, _ => none
theorem om_sub : OpR X (binaryOp .Sub) (rM X.w X.K X.mg mSub) := by
  intro pins s σ H x y v u Q I rx ry hh
  obtain ⟨r, h, a, b, hs, ra, rb, w⟩ := hh
  cases a <;> cases b <;> first | exact w.elim | skip
  cases ra; cases rb
  exact op_sub pins s σ H _ _ v u Q I rx ry ⟨_, _, rfl, rfl, w.plain hs (.int _)⟩
def mMul : F2
  | .int i, .int j, h => if (-(2 ^ 64) < i ∧ i < 2 ^ 64) ∨ (-(2 ^ 64) < j ∧ j < 2 ^ 64) then some (.int (i * j), h) else none
  | .ref n, .int k, h => match h[n]? with
    | some (.lst xs) => if -(2 ^ 63) ≤ k ∧ k < 2 ^ 63 ∧ xs.length * k.toNat ≤ sizeLine then some (.ref h.length, h ++ [.lst (List.replicate k.toNat xs).flatten]) else none
    | _ => none
  | .tup xs, .int k, h => if xs ≠ [] ∧ 2 ≤ k ∧ k ≤ 1000 ∧ xs.length ≤ 1000 then some (.tup (List.replicate k.toNat xs).flatten, h) else none
  | _, _, _ => none
theorem om_mul : OpR X (binaryOp .Mult) (rM X.w X.K X.mg mMul) := by
  intro pins s σ H x y v u Q I rx ry hh
  obtain ⟨r, h, a, b, hs, ra, rb, w⟩ := hh
  cases a <;> cases b <;> first | exact w.elim | skip
  case int.int i j =>
    cases ra; cases rb
    simp only [mMul] at w
    split at w
    · rename_i hc
      exact op_mul pins s σ H _ _ v u Q I rx ry ⟨_, _, rfl, rfl, hc, w.plain hs (.int _)⟩
    · exact w.elim
  case ref.int n k =>
    cases rb
    cases ra with | ref ea =>
    simp only [mMul] at w
    split at w
    · rename_i xs h1
      split at w
      · rename_i hc
        obtain ⟨ys, e1, q1⟩ := hs.lookup ea h1
        refine op_rep pins s σ H _ _ v u Q I rx ry ⟨_, _, ys, rfl, rfl, e1, hc.1, hc.2.1, by rw [← q1.length]; exact hc.2.2, fun p hp => ?_⟩
        obtain ⟨po, re⟩ := hs.newL hp (q1.rep k.toNat)
        exact w _ _ _ po re
      · exact w.elim
    · exact w.elim
  case tup.int xs k =>
    cases rb
    cases ra with | tup sa qa =>
    rename_i pa ys
    simp only [mMul] at w
    split at w
    · rename_i hc
      refine op_repT pins s σ H _ _ v u Q I rx ry ⟨pa, k, ys, rfl, rfl, sa, ?_, hc.2.1, hc.2.2.1, by rw [← qa.length]; exact hc.2.2.2, fun p hp => ?_⟩
      · intro e
        subst e
        cases qa
        exact hc.1 rfl
      · obtain ⟨po, re⟩ := hs.newT hp (qa.rep k.toNat)
        exact w _ _ _ po re
    · exact w.elim
def mFdiv : F2
  | .int i, .int j, h => if 0 < j ∧ j < 1073741824 then some (.int (i / j), h) else none
  | _, _, _ => none
theorem om_fdiv : OpR X (binaryOp .FloorDiv) (rM X.w X.K X.mg mFdiv) := by
  intro pins s σ H x y v u Q I rx ry hh
  obtain ⟨r, h, a, b, hs, ra, rb, w⟩ := hh
  cases a <;> cases b <;> first | exact w.elim | skip
  cases ra; cases rb
  simp only [mFdiv] at w
  split at w
  · rename_i hc
    exact op_fdiv pins s σ H _ _ v u Q I rx ry ⟨_, _, rfl, rfl, hc, w.plain hs (.int _)⟩
  · exact w.elim
def mMod : F2
  | .int i, .int j, h => if 0 < j then some (.int (i % j), h) else none
  | _, _, _ => none
theorem om_mod : OpR X (binaryOp .Mod) (rM X.w X.K X.mg mMod) := by
  intro pins s σ H x y v u Q I rx ry hh
  obtain ⟨r, h, a, b, hs, ra, rb, w⟩ := hh
  cases a <;> cases b <;> first | exact w.elim | skip
  cases ra; cases rb
  simp only [mMod] at w
  split at w
  · rename_i hc
    exact op_mod pins s σ H _ _ v u Q I rx ry ⟨_, _, rfl, rfl, hc, w.plain hs (.int _)⟩
  · exact w.elim
def mPow : F2
  | .int i, .int j, h => if 0 ≤ j ∧ j ≤ 1000000 ∧ i.natAbs < 2 ^ 64 then some (.int (i ^ j.toNat), h) else none
  | _, _, _ => none
theorem om_pow : OpR X (binaryOp .Pow) (rM X.w X.K X.mg mPow) := by
  intro pins s σ H x y v u Q I rx ry hh
  obtain ⟨r, h, a, b, hs, ra, rb, w⟩ := hh
  cases a <;> cases b <;> first | exact w.elim | skip
  cases ra; cases rb
  simp only [mPow] at w
  split at w
  · rename_i hc
    exact op_pow pins s σ H _ _ v u Q I rx ry ⟨_, _, rfl, rfl, hc, w.plain hs (.int _)⟩
  · exact w.elim

def mapO {α β : Type} (f : α → Option β) : List α → Option (List β)
  | [] => some []
  | x :: xs => match f x, mapO f xs with
    | some y, some ys => some (y :: ys)
    | _, _ => none
def toD : Nat → MH → MV → Option PyData
  | 0, _, _ => none
  | n + 1, h, v => match v with
    | .non => some .none
    | .bl b => some (.bool b)
    | .int i => some (.int i)
    | .str l => some (.str (S l))
    | .tup xs => (mapO (toD n h) xs).map .tuple
    | .ref k => match lstAt h k with
      | some xs => (mapO (toD n h) xs).map .list
      | none => none
    | .lv xs => (mapO (toD n h) xs).map .list
    | _ => none
theorem toD_all {K : PySem.W.Frag} {mg : Str → Option Value} {r : List Addr} {H : Hp} {f : MV → Option PyData} (hf : ∀ v x d, f v = some d → Rep K mg r H v x → Dp K H x d) : ∀ (vs : List MV) (xs : List V) (ds : List PyData), mapO f vs = some ds → RepL K mg r H vs xs → DpAll K H xs ds
  | [], _, ds, e, q => by cases q; simp only [mapO, Option.some.injEq] at e; subst e; exact .nil
  | v :: vs, _, ds, e, q => by
    cases q with
    | cons q1 q2 =>
      simp only [mapO] at e
      split at e
      · rename_i y ys h1 h2
        cases e
        exact .cons (hf _ _ _ h1 q1) (toD_all hf vs _ ys h2 q2)
      · cases e
theorem toD_ok {ww : World} {K : PySem.W.Frag} {mg : Str → Option Value} {r : List Addr} {h : MH} {H : Hp} (hs : HS ww K mg r h H) : ∀ (n : Nat) (v : MV) (x : V) (d : PyData), toD n h v = some d → Rep K mg r H v x → Dp K H x d
  | 0, _, _, _, e, _ => by cases e
  | n + 1, v, x, d, e, q => by
    cases v with
    | non => cases q; cases e; exact .non
    | bl b => cases q; cases e; exact .bl b
    | int i => cases q; cases e; exact .int i
    | str l => cases q; cases e; exact .str _
    | tup xs =>
      cases q with
      | tup s q =>
        simp only [toD, Option.map_eq_some_iff] at e
        obtain ⟨ds, e1, rfl⟩ := e
        exact .tup s (toD_all (toD_ok hs n) _ _ _ e1 q)
    | ref k =>
      cases q with
      | ref ek =>
        simp only [toD] at e
        split at e
        · rename_i xs hl
          simp only [Option.map_eq_some_iff] at e
          obtain ⟨ds, e1, rfl⟩ := e
          obtain ⟨ys, sq, q⟩ := hs.list ek hl
          exact .lst sq (toD_all (toD_ok hs n) _ _ _ e1 q)
        · cases e
    | ty _ => cases e
    | glo _ => cases e
    | exc _ _ _ => cases e
    | clo _ _ _ _ _ => cases e
    | ro _ => cases e
    | lv xs =>
      cases q with
      | lv s q =>
        simp only [toD, Option.map_eq_some_iff] at e
        obtain ⟨ds, e1, rfl⟩ := e
        exact .lst s.sq (toD_all (toD_ok hs n) _ _ _ e1 q)
def mEqv0 (a b : MV) (h : MH) : Option Bool := match a, b with
  | .int i, .int j => some (i == j)
  | .str x, .str y => some (x == y)
  | .bl x, .bl y => some (x == y)
  | .non, .non => some true
  | .non, .int _ => some false
  | .int _, .non => some false
  | .non, .str _ => some false
  | .str _, .non => some false
  | .non, .bl _ => some false
  | .bl _, .non => some false
  | .int _, .str _ => some false
  | .str _, .int _ => some false
  | .bl _, .str _ => some false
  | .str _, .bl _ => some false
  | a, b => match toD 64 h a, toD 64 h b with
    | some d, some e => if SeqAt.shaped d && SeqAt.shaped e then some (PyData.eqv d e) else none
    | _, _ => none
def eqE (a b : MV) (h : MH) : Option Bool := match b with
  | .lv [] => (lstV h a).map (·.isEmpty)
  | .tup [] => (match a with
    | .tup xs => some xs.isEmpty
    | _ => none)
  | _ => none
def mEqv (a b : MV) (h : MH) : Option Bool := match eqE a b h with
  | some k => some k
  | none => mEqv0 a b h
def mEq : F2 := fun a b h => (mEqv a b h).map fun k => (.bl k, h)
def mNe : F2 := fun a b h => (mEqv a b h).map fun k => (.bl (!k), h)
theorem Wt.boolO {ww : World} {K : PySem.W.Frag} {mg : Str → Option Value} {r : List Addr} {h : MH} {H : Hp} {E : XK} {Q : VK} {o : Option Bool} {g : Bool → Bool} (hs : HS ww K mg r h H) (w : Wt ww K mg (Rep K mg) r H E Q (ofO (o.map fun k => (.bl (g k), h)))) : ∃ k, o = some k ∧ Q (.bl (g k)) H := by
  cases o with
  | none => exact w.elim
  | some k => exact ⟨k, rfl, w.plain hs (.bl _)⟩
theorem eqv_scal {ww : World} {K : PySem.W.Frag} {mg : Str → Option Value} {r : List Addr} {h : MH} {H : Hp} (hs : HS ww K mg r h H) {a b : MV} {x y : V} {k : Bool} (ra : Rep K mg r H a x) (rb : Rep K mg r H b y) (e : mEqv0 a b h = some k) :
    (scal x y = true ∧ decide (x = y) = k) ∨ ∃ d e, Dp K H x d ∧ Dp K H y e ∧ SeqAt.shaped d = true ∧ SeqAt.shaped e = true ∧ PyData.eqv d e = k := by
  have deep : ∀ {a b : MV} {x y : V}, Rep K mg r H a x → Rep K mg r H b y → (match toD 64 h a, toD 64 h b with
      | some d, some e => if SeqAt.shaped d && SeqAt.shaped e then some (PyData.eqv d e) else none
      | _, _ => none) = some k → ∃ d e, Dp K H x d ∧ Dp K H y e ∧ SeqAt.shaped d = true ∧ SeqAt.shaped e = true ∧ PyData.eqv d e = k := by
    intro a b x y ra rb e
    split at e
    · rename_i d1 d2 h1 h2
      split at e
      · rename_i hc
        rw [Bool.and_eq_true] at hc
        cases e
        exact ⟨d1, d2, toD_ok hs _ _ _ _ h1 ra, toD_ok hs _ _ _ _ h2 rb, hc.1, hc.2, rfl⟩
      · cases e
    · cases e
  cases a <;> cases b <;> first
    | exact .inr (deep ra rb e)
    | (cases ra; cases rb; cases e; exact .inl ⟨rfl, by first | rfl | exact dec_int | exact dec_bl | exact S_dec _ _ | decide | simp⟩)
theorem sqL_is {pins : List (Addr × Obj)} {σ : L2.St} {s : Shared} {H : Hp} {a : Addr} {xs : List V} (I : L2.Inv X pins σ H s) (q : SqL X.K H a xs) : ∃ its : List Value, Vals xs its ∧ s.heap.IsList a its.toArray := by
  rcases q with q | ⟨o, its, n, h1, h2, h3, h4, h5, h6⟩
  · obtain ⟨z, its, n, r, e⟩ := Rd.ok q I.hok
    exact ⟨its, r, _, e, rfl, n, rfl⟩
  · exact ⟨its.toList, h6, o, I.kIn a o h1, h2, n, by simpa using h4⟩
theorem sqT_is {pins : List (Addr × Obj)} {σ : L2.St} {s : Shared} {H : Hp} {a : Addr} {xs : List V} (I : L2.Inv X pins σ H s) (q : SqT X.K H a xs) : ∃ its : List Value, Vals xs its ∧ s.heap.IsTuple a its.toArray := by
  rcases q with q | ⟨o, its, n, h1, h2, h3, h4, h5⟩
  · obtain ⟨z, its, r, e⟩ := Rd.ok q I.hok
    exact ⟨its, r, e⟩
  · exact ⟨its.toList, h5, o, I.kIn a o h1, h2, n, by simpa using h3⟩
theorem eqE_ok {pins : List (Addr × Obj)} {σ : L2.St} {s : Shared} {r : List Addr} {h : MH} {H : Hp} {a b : MV} {x y : V} {u v : Value} {k : Bool} (I : L2.Inv X pins σ H s) (hs : HS X.w X.K X.mg r h H) (ra : Rep X.K X.mg r H a x) (rb : Rep X.K X.mg r H b y) (rx : RelV x u) (ry : RelV y v) (e : eqE a b h = some k) :
    ∃ p q items, u = .ref p ∧ v = .ref q ∧ k = items.isEmpty ∧ ((s.heap.IsList p items ∧ s.heap.IsList q #[]) ∨ (s.heap.IsTuple p items ∧ s.heap.IsTuple q #[])) := by
  unfold eqE at e
  split at e
  · simp only [Option.map_eq_some_iff] at e
    obtain ⟨xs, e1, e2⟩ := e
    obtain ⟨p, zs, rfl, sq, ql⟩ := hs.listV ra e1
    cases rb with
    | lv s2 q2 =>
      cases q2
      obtain rfl := (show u = Value.ref _ from rx)
      obtain rfl := (show v = Value.ref _ from ry)
      obtain ⟨its, rv, hl⟩ := sqL_is I sq
      obtain ⟨its2, rv2, hl2⟩ := sqL_is I (s2.sq (K := X.K))
      cases rv2
      refine ⟨_, _, its.toArray, rfl, rfl, ?_, .inl ⟨hl, hl2⟩⟩
      rw [← e2]
      cases ql <;> cases rv <;> simp
  · split at e
    · cases ra with
      | tup sa qa =>
        cases rb with
        | tup sb qb =>
          cases qb
          obtain rfl := (show u = Value.ref _ from rx)
          obtain rfl := (show v = Value.ref _ from ry)
          obtain ⟨its, rv, hl⟩ := sqT_is I sa
          obtain ⟨its2, rv2, hl2⟩ := sqT_is I sb
          cases rv2
          refine ⟨_, _, its.toArray, rfl, rfl, ?_, .inr ⟨hl, hl2⟩⟩
          cases e
          cases qa <;> cases rv <;> simp
    · cases e
  · cases e
theorem om_eq (hu : X.A.units + 64 < cLine) : OpR X (compareOp .Eq) (rM X.w X.K X.mg mEq) := by
  intro pins s σ H x y v u Q I rx ry hh
  obtain ⟨r, h, a, b, hs, ra, rb, w⟩ := hh
  obtain ⟨k, e, q⟩ := Wt.boolO (g := fun k => k) hs w
  unfold mEqv at e
  split at e
  · rename_i k' e'
    cases e
    obtain ⟨p, q', items, rfl, rfl, rfl, ⟨h1, h2⟩ | ⟨h1, h2⟩⟩ := eqE_ok I hs ra rb rx ry e'
    · by_cases hz : items.size = 0
      · refine SeqAt.eq_listAt (e := fun _ => true) h1 h2 (by simpa using hz) (by omega) (fun j a b => by simp at b) ⟨.bl true, H, I, by rw [hz]; rfl, ?_⟩
        have : items.isEmpty = true := decide_eq_true hz
        rw [this] at q; exact q
      · refine SeqAt.eq_list_lengthsAt h1 h2 (by simpa using hz) (by omega) ⟨.bl false, H, I, rfl, ?_⟩
        have : items.isEmpty = false := by simpa using hz
        rw [this] at q; exact q
    · refine SeqAt.eq_tupleAt (e := fun _ => true) h1 h2 (by omega) (fun j a b => by simp at b) ⟨.bl items.isEmpty, H, I, ?_, q⟩
      show Value.bool _ = Value.bool _
      congr 1
      obtain ⟨l⟩ := items
      cases l <;> simp
  · rcases eqv_scal hs ra rb e with ⟨h1, h2⟩ | ⟨d, e, h1, h2, h3, h4, h5⟩
    · exact op_eq pins s σ H _ _ v u Q I rx ry ⟨h1, by rw [h2]; exact q⟩
    · exact op_eqD hu pins s σ H _ _ v u Q I rx ry ⟨d, e, h1, h2, h3, h4, by rw [h5]; exact q⟩
theorem om_ne (hu : X.A.units + 64 < cLine) : OpR X (compareOp .NotEq) (rM X.w X.K X.mg mNe) := by
  intro pins s σ H x y v u Q I rx ry hh
  obtain ⟨r, h, a, b, hs, ra, rb, w⟩ := hh
  obtain ⟨k, e, q⟩ := Wt.boolO (g := fun k => !k) hs w
  unfold mEqv at e
  split at e
  · rename_i k' e'
    cases e
    obtain ⟨p, q', items, rfl, rfl, rfl, ⟨h1, h2⟩ | ⟨h1, h2⟩⟩ := eqE_ok I hs ra rb rx ry e'
    · by_cases hz : items.size = 0
      · refine SeqAt.RcNeAt.lists (e := fun _ => true) h1 h2 (by simpa using hz) (by omega) (fun j a b => by simp at b) _ _ _ _ ⟨.bl false, H, I, by rw [hz]; rfl, ?_⟩
        have : items.isEmpty = true := decide_eq_true hz
        rw [this] at q; exact q
      · refine SeqAt.RcNeAt.lists_lengths h1 h2 (by simpa using hz) (by omega) _ _ _ _ ⟨.bl true, H, I, rfl, ?_⟩
        have : items.isEmpty = false := by simpa using hz
        rw [this] at q; exact q
    · refine SeqAt.RcNeAt.tuples (e := fun _ => true) h1 h2 (by omega) (fun j a b => by simp at b) _ _ _ _ ⟨.bl (!items.isEmpty), H, I, ?_, q⟩
      show Value.bool _ = Value.bool _
      congr 1
      obtain ⟨l⟩ := items
      cases l <;> simp
  · rcases eqv_scal hs ra rb e with ⟨h1, h2⟩ | ⟨d, e, h1, h2, h3, h4, h5⟩
    · exact op_ne pins s σ H _ _ v u Q I rx ry ⟨h1, by rw [h2]; exact q⟩
    · exact op_neD hu pins s σ H _ _ v u Q I rx ry ⟨d, e, h1, h2, h3, h4, by rw [h5]; exact q⟩
def mLt : F2
  | .int i, .int j, h => some (.bl (decide (i < j)), h)
  | .str a, .str b, h => some (.bl (decide (a < b)), h)
  | _, _, _ => none
def mGt : F2
  | .int i, .int j, h => some (.bl (decide (j < i)), h)
  | _, _, _ => none
def mLe : F2
  | .int i, .int j, h => some (.bl (decide (i ≤ j)), h)
  | .str a, .str b, h => some (.bl (!decide (b < a)), h)
  | _, _, _ => none
def mGe : F2
  | .int i, .int j, h => some (.bl (decide (j ≤ i)), h)
  | _, _, _ => none
theorem om_gt : OpR X (compareOp .Gt) (rM X.w X.K X.mg mGt) := by
  intro pins s σ H x y v u Q I rx ry hh
  obtain ⟨r, h, a, b, hs, ra, rb, w⟩ := hh
  cases a <;> cases b <;> first | exact w.elim | skip
  cases ra; cases rb
  exact op_gt pins s σ H _ _ v u Q I rx ry ⟨_, _, rfl, rfl, w.plain hs (.bl _)⟩
theorem om_ge : OpR X (compareOp .GtE) (rM X.w X.K X.mg mGe) := by
  intro pins s σ H x y v u Q I rx ry hh
  obtain ⟨r, h, a, b, hs, ra, rb, w⟩ := hh
  cases a <;> cases b <;> first | exact w.elim | skip
  cases ra; cases rb
  exact op_ge pins s σ H _ _ v u Q I rx ry ⟨_, _, rfl, rfl, w.plain hs (.bl _)⟩
end
end MP

end
section
namespace MP
open PySem PySem.Spec PyProof.Rows L2
mutual
def kD : MV → Option Nat
  | .non => some 0
  | .bl _ => some 0
  | .int _ => some 0
  | .str _ => some 0
  | .tup xs => (kDs xs).map (· + 1)
  | _ => none
def kDs : List MV → Option Nat
  | [] => some 0
  | x :: xs => match kD x, kDs xs with
    | some a, some b => some (max a b)
    | _, _ => none
end
def cEqQ : CP → CP → Bool
  | [], b => b.isEmpty
  | x :: a, b => match b with
    | [] => false
    | y :: r => match Nat.beq x y with
      | true => cEqQ a r
      | false => false
def all2Q (f : MV → MV → Bool) : List MV → List MV → Bool
  | [], b => b.isEmpty
  | x :: a, b => match b with
    | [] => false
    | y :: r => match f x y with
      | true => all2Q f a r
      | false => false
def kEqF : Nat → MV → MV → Bool
  | 0, a, b => kEq a b
  | n + 1, a, b => match a with
    | .str x => (match b with
      | .str y => cEqQ x y
      | _ => false)
    | .tup x => (match b with
      | .tup y => all2Q (kEqF n) x y
      | _ => false)
    | a => kEq a b
def kEqQ (a b : MV) : Bool := kEqF 9 a b
theorem cEqQ_eq : ∀ a b : CP, cEqQ a b = (a == b)
  | [], [] => rfl
  | [], _ :: _ => rfl
  | _ :: _, [] => rfl
  | x :: a, y :: b => by
    show (match Nat.beq x y with
      | true => cEqQ a b
      | false => false) = _
    rw [cEqQ_eq a b]
    cases h : Nat.beq x y with
    | true =>
      have := Nat.eq_of_beq_eq_true h
      subst this
      simp
    | false =>
      have := Nat.ne_of_beq_eq_false h
      simp [this]
theorem all2Q_eq {f : MV → MV → Bool} (hf : ∀ a b, f a b = kEq a b) : ∀ a b : List MV, all2Q f a b = kEqs a b
  | [], [] => rfl
  | [], _ :: _ => rfl
  | _ :: _, [] => rfl
  | x :: a, y :: b => by
    show (match f x y with
      | true => all2Q f a b
      | false => false) = (kEq x y && kEqs a b)
    rw [all2Q_eq hf a b, hf]
    cases kEq x y <;> rfl
theorem kEqF_eq : ∀ (n : Nat) (a b : MV), kEqF n a b = kEq a b
  | 0, _, _ => rfl
  | n + 1, a, b => by
    cases a with
    | str x =>
      cases b with
      | str y => exact cEqQ_eq x y
      | _ => rfl
    | tup x =>
      cases b with
      | tup y => exact all2Q_eq (kEqF_eq n) x y
      | _ => rfl
    | _ => rfl
theorem kEqQ_eq (a b : MV) : kEqQ a b = kEq a b := kEqF_eq 9 a b
def isKy (v : MV) : Bool := match v with
  | .tup _ => (match kD v with
    | some d => d ≤ 8
    | none => false)
  | _ => false
def kGet (k : MV) : List (MV × MV) → Option MV
  | [] => none
  | p :: r => if kEqQ p.1 k then some p.2 else kGet k r
def kPut (k v : MV) (kvs : List (MV × MV)) : List (MV × MV) := if (kGet k kvs).isSome then kvs.map fun p => if kEqQ p.1 k then (p.1, v) else p else kvs ++ [(k, v)]
mutual
theorem kD_ok : ∀ (v : MV) (d : Nat), kD v = some d → ∃ k, nkO v = some k ∧ k.depth = d
  | .non, d, e => by cases e; exact ⟨_, rfl, rfl⟩
  | .bl _, d, e => by cases e; exact ⟨_, rfl, rfl⟩
  | .int _, d, e => by cases e; exact ⟨_, rfl, rfl⟩
  | .str _, d, e => by cases e; exact ⟨_, rfl, rfl⟩
  | .tup xs, d, e => by
    simp only [kD, Option.map_eq_some_iff] at e
    obtain ⟨d', e1, rfl⟩ := e
    obtain ⟨ks, e2, e3⟩ := kDs_ok xs d' e1
    exact ⟨.tup ks, by simp [nkO, e2], by simp [NestedKey.depth, e3]⟩
  | .ref _, d, e => by simp [kD] at e
  | .ty _, d, e => by simp [kD] at e
  | .glo _, d, e => by simp [kD] at e
  | .ro _, d, e => by simp [kD] at e
  | .lv _, d, e => by simp [kD] at e
  | .exc _ _ _, d, e => by simp [kD] at e
  | .clo _ _ _ _ _, d, e => by simp [kD] at e
theorem kDs_ok : ∀ (vs : List MV) (d : Nat), kDs vs = some d → ∃ k, nkO.nkL vs = some k ∧ NestedKey.depthAll k = d
  | [], d, e => by cases e; exact ⟨_, rfl, rfl⟩
  | x :: xs, d, e => by
    simp only [kDs] at e
    split at e
    · rename_i a b h1 h2
      cases e
      obtain ⟨k, q1, q2⟩ := kD_ok x a h1
      obtain ⟨ks, q3, q4⟩ := kDs_ok xs b h2
      exact ⟨k :: ks, by simp [nkO.nkL, q1, q3], by simp [NestedKey.depthAll, q2, q4]⟩
    · cases e
end
theorem isKy_ok {v : MV} (h : isKy v = true) : ∃ xs k, v = .tup xs ∧ nkO v = some k ∧ k.depth ≤ 8 := by
  unfold isKy at h
  split at h
  · rename_i xs
    split at h
    · rename_i d e
      obtain ⟨k, e1, e2⟩ := kD_ok _ d e
      exact ⟨xs, k, rfl, e1, by rw [e2]; simpa using h⟩
    · cases h
  · cases h
theorem S_dec' (a b : CP) : decide (S a = S b) = (a == b) := by
  by_cases e : a = b
  · subst e; simp
  · have h : ¬ S a = S b := fun q => e (S_inj q)
    rw [decide_eq_false h]
    exact (beq_eq_false_iff_ne.mpr e).symm
mutual
theorem kEq_ok : ∀ (a b : MV) (k l : NestedKey), nkO a = some k → nkO b = some l → kEq a b = NestedKey.beq k l
  | .non, b, k, l, e, e' => by cases b <;> simp [nkO] at e e' <;> first | (subst e; subst e'; rfl) | (obtain ⟨_, _, rfl⟩ := e'; subst e; rfl)
  | .bl a, b, k, l, e, e' => by
    cases b <;> simp [nkO] at e e' <;> first
      | (subst e; subst e'; rename_i c; cases a <;> cases c <;> rfl)
      | (subst e; subst e'; cases a <;> simp [kEq, NestedKey.beq, Int.instDecidableEq, BEq.beq])
      | (subst e; subst e'; rfl)
      | (obtain ⟨_, _, rfl⟩ := e'; subst e; rfl)
  | .int a, b, k, l, e, e' => by
    cases b <;> simp [nkO] at e e' <;> first
      | (subst e; subst e'; simp [kEq, NestedKey.beq, BEq.beq])
      | (subst e; subst e'; rfl)
      | (obtain ⟨_, _, rfl⟩ := e'; subst e; rfl)
  | .str a, b, k, l, e, e' => by
    cases b <;> simp [nkO] at e e' <;> first
      | (subst e; subst e'; show _ = decide (S _ = S _); rw [S_dec']; rfl)
      | (subst e; subst e'; rfl)
      | (obtain ⟨_, _, rfl⟩ := e'; subst e; rfl)
  | .tup xs, b, k, l, e, e' => by
    simp only [nkO, Option.map_eq_some_iff] at e
    obtain ⟨ks, e1, rfl⟩ := e
    cases b <;> simp [nkO] at e' <;> first
      | (subst e'; rfl)
      | (obtain ⟨ls, e2, rfl⟩ := e'; exact kEqs_ok xs _ ks ls e1 e2)
  | .ref _, _, _, _, e, _ => by simp [nkO] at e
  | .ty _, _, _, _, e, _ => by simp [nkO] at e
  | .glo _, _, _, _, e, _ => by simp [nkO] at e
  | .ro _, _, _, _, e, _ => by simp [nkO] at e
  | .lv _, _, _, _, e, _ => by simp [nkO] at e
  | .exc _ _ _, _, _, _, e, _ => by simp [nkO] at e
  | .clo _ _ _ _ _, _, _, _, e, _ => by simp [nkO] at e
theorem kEqs_ok : ∀ (a b : List MV) (k l : List NestedKey), nkO.nkL a = some k → nkO.nkL b = some l → kEqs a b = NestedKey.beqAll k l
  | [], [], k, l, e, e' => by cases e; cases e'; rfl
  | [], y :: b, k, l, e, e' => by
    cases e
    simp only [nkO.nkL] at e'
    split at e'
    · cases e'; rfl
    · cases e'
  | x :: a, [], k, l, e, e' => by
    cases e'
    simp only [nkO.nkL] at e
    split at e
    · cases e; rfl
    · cases e
  | x :: a, y :: b, k, l, e, e' => by
    simp only [nkO.nkL] at e e'
    split at e
    · rename_i k1 ks h1 h2
      cases e
      split at e'
      · rename_i l1 ls h3 h4
        cases e'
        show (kEq x y && kEqs a b) = (NestedKey.beq k1 l1 && NestedKey.beqAll ks ls)
        rw [kEq_ok x y k1 l1 h1 h3, kEqs_ok a b ks ls h2 h4]
      · cases e'
    · cases e
end
theorem kEq_iff {a b : MV} {k l : NestedKey} (e : nkO a = some k) (e' : nkO b = some l) : kEqQ a b = decide (k = l) := by rw [kEqQ_eq, kEq_ok a b k l e e', NestedKey.decide_eq]
section
variable {K : PySem.W.Frag} {mg : Str → Option Value} {r r' : List Addr} {H : Hp}
end
section
variable {X : Cx} {pins : List (Addr × Obj)} {σ : L2.St} {H : Hp} {s : Shared} {r : List Addr}
mutual
theorem nested_of (I : L2.Inv X pins σ H s) : ∀ (v : MV) (x : V) (u : Value) (k : NestedKey), nkO v = some k → Rep X.K X.mg r H v x → RelV x u → NestedIs s.heap k u
  | .non, _, u, k, e, q, z => by
    cases e; cases q
    obtain rfl : u = Value.none := z
    exact .none
  | .bl b, _, u, k, e, q, z => by
    cases e; cases q
    obtain rfl : u = Value.bool b := z
    exact .bool rfl
  | .int i, _, u, k, e, q, z => by
    cases e; cases q
    obtain ⟨t, rfl⟩ := (show ∃ t, u = Value.int i t from z)
    exact .int _ _
  | .str l, _, u, k, e, q, z => by
    cases e; cases q
    obtain ⟨t, rfl⟩ := (show ∃ t, u = Value.str (S l) t from z)
    exact .text _ _
  | .tup xs, _, u, k, e, q, z => by
    simp only [nkO, Option.map_eq_some_iff] at e
    obtain ⟨ks, e1, rfl⟩ := e
    cases q with
    | tup sq ql =>
      obtain rfl : u = Value.ref _ := z
      obtain ⟨its, rv, ⟨o, h1, h2, n, h3⟩, _⟩ := I.tuple sq
      exact .tup h1 h2 h3 (by simpa using nesteds_of I xs _ its ks e1 ql rv)
  | .ref _, _, _, _, e, _, _ => by simp [nkO] at e
  | .ty _, _, _, _, e, _, _ => by simp [nkO] at e
  | .glo _, _, _, _, e, _, _ => by simp [nkO] at e
  | .ro _, _, _, _, e, _, _ => by simp [nkO] at e
  | .lv _, _, _, _, e, _, _ => by simp [nkO] at e
  | .exc _ _ _, _, _, _, e, _, _ => by simp [nkO] at e
  | .clo _ _ _ _ _, _, _, _, e, _, _ => by simp [nkO] at e
theorem nesteds_of (I : L2.Inv X pins σ H s) : ∀ (vs : List MV) (xs : List V) (us : List Value) (k : List NestedKey), nkO.nkL vs = some k → RepL X.K X.mg r H vs xs → Vals xs us → NestedAll s.heap k us
  | [], _, us, k, e, q, z => by cases e; cases q; cases z; exact .nil
  | v :: vs, _, us, k, e, q, z => by
    simp only [nkO.nkL] at e
    split at e
    · rename_i a b h1 h2
      cases e
      cases q with
      | cons q1 q2 =>
        cases z with
        | cons z1 z2 => exact .cons (nested_of I v _ _ a h1 q1 z1) (nesteds_of I vs _ _ b h2 q2 z2)
    · cases e
end
theorem rawD_at {P : Program} {w ww : World} {H : Hp} {h : Heap} {a p : Addr} {xs : List (NestedKey × Addr × Value)} (x : ObjOk P w H h p (.ext (rawD ww a xs))) : a = p ∧ rawD ww a xs h := by
  obtain ⟨x1, ⟨o, ho⟩, st⟩ := x
  refine ⟨?_, x1⟩
  by_cases e : a = p
  · exact e
  · exfalso
    have z := st h { objs := h.objs.setIfInBounds a { cls := .none, data := .fields #[] } } x1 fun o' q => by
      unfold Heap.get? at q ⊢
      rw [Array.getElem?_setIfInBounds_ne e]
      exact q
    obtain ⟨_, _, _, _, o1, es, ep, g, _, d, _⟩ := z
    unfold Heap.get? at g
    by_cases hl : a < h.objs.size
    · rw [Array.getElem?_setIfInBounds_self_of_lt hl] at g
      cases g
      cases d
    · obtain ⟨_, _, _, _, o2, _, _, g2, _⟩ := x1
      exact hl (Heap.lt_size g2)
theorem rawD_ok {P : Program} {w ww : World} {H : Hp} {h : Heap} {p : Addr} {xs : List (NestedKey × Addr × Value)} (x : rawD ww p xs h) : ObjOk P w H h p (.ext (rawD ww p xs)) := by
  obtain ⟨h1, h2, h3, h4, o, es, ep, g, hx, d, he⟩ := x
  exact ⟨⟨h1, h2, h3, h4, o, es, ep, g, hx, d, he⟩, ⟨o, g⟩, fun g1 g2 ⟨h1, h2, h3, h4, o, es, ep, g, hx, d, he⟩ k => ⟨h1, h2, h3, h4, o, es, ep, k _ g, hx, d, he⟩⟩
theorem dT_of (I : L2.Inv X pins σ H s) {h : MH} {n : Nat} {p : Addr} {kvs : List (MV × MV)} (hs : HS X.w X.K X.mg r h H) (en : r[n]? = some p) (ho : h[n]? = some (.dT kvs)) :
    ∃ xs, H p = some (.ext (rawD X.w p xs)) ∧ RepT X.K X.mg r H kvs xs ∧ s.heap.DictOfH (nestedKind X.prog X.w) p xs ∧ (p == sysModules) = false ∧ xs.length ≤ sizeLine := by
  obtain ⟨a, xs, e1, q⟩ := hs.lookup en ho
  have z := I.hok p _ e1
  obtain ⟨rfl, ⟨h1, h2, h3, h4, o, es, ep, g, hx, d, he⟩⟩ := rawD_at z
  refine ⟨xs, e1, q, ⟨o, es, ep, g, hx, d, he, ?_, h3⟩, h1, h2⟩
  have all : ∀ {l : List (MV × MV)} {m : List (NestedKey × Addr × Value)}, RepT X.K X.mg r H l m → (∀ x ∈ m, x.1.depth ≤ 8) → ∀ x ∈ m, (nestedKind X.prog X.w).is s.heap x.1 x.2.1 := by
    intro l m t
    induction t with
    | nil => intro _ x hx; exact nomatch hx
    | @cons pp y ps ys hq t ih =>
      intro hd x hx
      rcases List.mem_cons.mp hx with e | hx
      · subst e
        exact ⟨nested_of I _ _ _ _ hq.1 hq.2.1 rfl, hd _ List.mem_cons_self⟩
      · exact ih (fun x m => hd x (List.mem_cons_of_mem _ m)) x hx
  exact all q h4
theorem ky_of (I : L2.Inv X pins σ H s) {v : MV} {x : V} {u : Value} (hk : isKy v = true) (q : Rep X.K X.mg r H v x) (z : RelV x u) : ∃ a k, x = .ref a ∧ u = .ref a ∧ nkO v = some k ∧ (nestedKind X.prog X.w).is s.heap k a := by
  obtain ⟨xs, k, rfl, e, hd⟩ := isKy_ok hk
  have n := nested_of I _ _ _ _ e q z
  cases q with
  | tup sq ql =>
    obtain rfl : u = Value.ref _ := z
    exact ⟨_, k, rfl, rfl, e, n, hd⟩
end
section
variable {K : PySem.W.Frag} {mg : Str → Option Value} {r : List Addr} {H : Hp}
theorem kGet_ok {k : MV} {nk : NestedKey} (e : nkO k = some nk) : ∀ {kvs : List (MV × MV)} {xs : List (NestedKey × Addr × Value)}, RepT K mg r H kvs xs →
    (∀ v, kGet k kvs = some v → ∃ q y, atKey xs nk = some q ∧ RelV y q.2 ∧ Rep K mg r H v y) ∧ (kGet k kvs = none → atKey xs nk = none)
  | _, _, .nil => ⟨fun v z => (by cases z), fun _ => rfl⟩
  | _, _, .cons (a := p) (b := x) z t => by
    obtain ⟨i1, i2⟩ := kGet_ok e t
    obtain ⟨z1, z2, y, z3, z4⟩ := z
    have hk := kEq_iff z1 e
    by_cases h : x.1 = nk
    · have ht : kEqQ p.1 k = true := by rw [hk]; exact decide_eq_true h
      refine ⟨fun v q => ?_, fun q => ?_⟩
      · simp only [kGet, if_pos ht, Option.some.injEq] at q
        subst q
        exact ⟨x.2, y, by simp [atKey, h], z3, z4⟩
      · simp only [kGet, if_pos ht] at q
        cases q
    · have ht : ¬ kEqQ p.1 k = true := by rw [hk]; simp [h]
      refine ⟨fun v q => ?_, fun q => ?_⟩
      · simp only [kGet, if_neg ht] at q
        obtain ⟨q', y', e1, e2⟩ := i1 v q
        exact ⟨q', y', by simpa [atKey, h] using e1, e2⟩
      · simp only [kGet, if_neg ht] at q
        simpa [atKey, h] using i2 q
theorem kGet_some {k : MV} {nk : NestedKey} (e : nkO k = some nk) {kvs : List (MV × MV)} {xs : List (NestedKey × Addr × Value)} (t : RepT K mg r H kvs xs) : (kGet k kvs).isSome = (atKey xs nk).isSome := by
  obtain ⟨i1, i2⟩ := kGet_ok e t
  cases h : kGet k kvs with
  | none => rw [i2 h]; rfl
  | some v => obtain ⟨q, y, e1, _⟩ := i1 v h; rw [e1]; rfl
end
section
variable {K : PySem.W.Frag} {mg : Str → Option Value} {r : List Addr} {H H' : Hp}
theorem kPut_ok {k v : MV} {nk : NestedKey} {a : Addr} {y : V} {u : Value} (e : nkO k = some nk) (qk : Rep K mg r H k (.ref a)) (ru : RelV y u) (qv : Rep K mg r H v y) {kvs : List (MV × MV)} {xs : List (NestedKey × Addr × Value)} (t : RepT K mg r H kvs xs) :
    RepT K mg r H (kPut k v kvs) (storedH xs nk a u) := by
  have hi := kGet_some e t
  have mp : ∀ {l : List (MV × MV)} {m : List (NestedKey × Addr × Value)}, RepT K mg r H l m → RepT K mg r H (l.map fun p => if kEqQ p.1 k then (p.1, v) else p) (m.map (putAt nk u)) := by
    intro l m t
    induction t with
    | nil => exact .nil
    | @cons p x ps ys z t ih =>
      refine .cons ?_ ih
      obtain ⟨z1, z2, y', z3, z4⟩ := z
      have hk := kEq_iff z1 e
      by_cases h : x.1 = nk
      · have h1 : kEqQ p.1 k = true := by rw [hk]; exact decide_eq_true h
        simp only [if_pos h1, putAt, if_pos h]
        exact ⟨z1, z2, y, ru, qv⟩
      · have h1 : ¬ kEqQ p.1 k = true := by rw [hk]; simp [h]
        simp only [if_neg h1, putAt, if_neg h]
        exact ⟨z1, z2, y', z3, z4⟩
  unfold kPut storedH
  rw [hi]
  split
  · exact mp t
  · have app : ∀ {l : List (MV × MV)} {m : List (NestedKey × Addr × Value)}, RepT K mg r H l m → RepT K mg r H (l ++ [(k, v)]) (m ++ [(nk, a, u)]) := by
      intro l m t
      induction t with
      | nil => exact .cons ⟨e, qk, y, ru, qv⟩ .nil
      | cons z t ih => exact .cons z ih
    exact app t
theorem repT_len {kvs : List (MV × MV)} {xs : List (NestedKey × Addr × Value)} (t : RepT K mg r H kvs xs) : kvs.length = xs.length := Paired.length t
end
section
variable {X : Cx} {pins : List (Addr × Obj)} {σ : L2.St} {H : Hp} {s : Shared} {r : List Addr} {h : MH} {n : Nat} {p : Addr} {kvs : List (MV × MV)} {k v : MV} {x y : V} {u u' : Value} {A : Around} {E : Value → Shared → Prop}
theorem rawD_of {P : Program} {w : World} {hp : Heap} {p : Addr} {xs : List (NestedKey × Addr × Value)} (hm : hp.DictOfH (nestedKind P w) p xs) (hd : (p == sysModules) = false) (hl : xs.length ≤ sizeLine) : rawD w p xs hp := by
  obtain ⟨o, es, ep, g, hx, d, he, hi, hn⟩ := hm
  exact ⟨hd, hl, hn, fun x m => (hi x m).2, o, es, ep, g, hx, d, he⟩
theorem nroom (hu : A.units + 64 < cLine) : (nestedKind X.prog X.w).room A.in1 := by
  show A.in1.units + 8 < cLine
  rw [Around.in1_units]
  omega
theorem dT_in {Q : Value → Shared → Prop} (hu : A.units + 64 < cLine) (I : L2.Inv X pins σ H s) (hs : HS X.w X.K X.mg r h H) (en : r[n]? = some p) (ho : h[n]? = some (.dT kvs)) (hk : isKy k = true) (q : Rep X.K X.mg r H k x) (z : RelV x u)
    (hq : ∀ s', L2.Inv X pins σ H s' → Q (.bool (kGet k kvs).isSome) s') : wpAny (model X.prog X.w) A (compareOp .In u (.ref p)) Q E s := by
  obtain ⟨xs, e1, t, hm, hd, hl⟩ := dT_of I hs en ho
  obtain ⟨a, nk, rfl, rfl, e2, hi⟩ := ky_of I hk q z
  refine wpAny_in_heap (nroom hu) hi hd hm ?_
  rw [← kGet_some e2 t]
  exact hq _ (I.tok _)
theorem dT_notIn {Q : Value → Shared → Prop} (hu : A.units + 64 < cLine) (I : L2.Inv X pins σ H s) (hs : HS X.w X.K X.mg r h H) (en : r[n]? = some p) (ho : h[n]? = some (.dT kvs)) (hk : isKy k = true) (q : Rep X.K X.mg r H k x) (z : RelV x u)
    (hq : ∀ s', L2.Inv X pins σ H s' → Q (.bool (!(kGet k kvs).isSome)) s') : wpAny (model X.prog X.w) A (compareOp .NotIn u (.ref p)) Q E s := by
  obtain ⟨xs, e1, t, hm, hd, hl⟩ := dT_of I hs en ho
  obtain ⟨a, nk, rfl, rfl, e2, hi⟩ := ky_of I hk q z
  refine wpAny_notIn_heap (nroom hu) hi hd hm ?_
  rw [← kGet_some e2 t]
  exact hq _ (I.tok _)
theorem dT_get {Q : Value → Shared → Prop} (hu : A.units + 64 < cLine) (I : L2.Inv X pins σ H s) (hs : HS X.w X.K X.mg r h H) (en : r[n]? = some p) (ho : h[n]? = some (.dT kvs)) (hk : isKy k = true) (q : Rep X.K X.mg r H k x) (z : RelV x u) (hg : kGet k kvs = some v)
    (hq : ∀ y u' s', L2.Inv X pins σ H s' → RelV y u' → Rep X.K X.mg r H v y → Q u' s') : wpAny (model X.prog X.w) A (getItem (.ref p) u) Q E s := by
  obtain ⟨xs, e1, t, hm, hd, hl⟩ := dT_of I hs en ho
  obtain ⟨a, nk, rfl, rfl, e2, hi⟩ := ky_of I hk q z
  obtain ⟨q', y, e3, ry, qy⟩ := (kGet_ok e2 t).1 v hg
  exact wpAny_getItem_heap (nroom hu) hi hm e3 (hq y _ _ (I.tok _) ry qy)
theorem dT_write {h' : Heap} {t' : Nat} {xs xs' : List (NestedKey × Addr × Value)} {kvs' : List (MV × MV)} (I : L2.Inv X pins σ H s) (hs : HS X.w X.K X.mg r h H) (en : r[n]? = some p) (e1 : H p = some (.ext (rawD X.w p xs))) (hd : (p == sysModules) = false)
    (hm : h'.DictOfH (nestedKind X.prog X.w) p xs') (hsb : Heap.SameBut p s.heap h') (hl : xs'.length ≤ sizeLine) (t : RepT X.K X.mg r H kvs' xs') :
    L2.Inv X pins σ (upd H p (.ext (rawD X.w p xs'))) { s with heap := h', toks := t' } ∧ Post X.w X.K X.mg r H r (h.set n (.dT kvs')) (upd H p (.ext (rawD X.w p xs'))) := by
  have he : ∃ q, h'.get? p = some q := let ⟨q, _, _, hq, _⟩ := hm; ⟨q, hq⟩
  have ht : Kp X.K H (upd H p (.ext (rawD X.w p xs'))) := Kp.upd fun o e => by rw [e1] at e; cases e; exact rawD_ish
  refine ⟨d_write I (by rw [e1]; exact True.intro) hsb he (rawD_ok (rawD_of hm hd hl)), hs.put en ⟨p, xs', rfl, paired_mono (fun _ _ ⟨z1, z2, y, z3, z4⟩ => ⟨z1, Rep.mono ht (fun _ _ z => z) _ _ z2, y, z3, Rep.mono ht (fun _ _ z => z) _ _ z4⟩) t⟩ fun o' u' e => by rw [e1] at e; cases e⟩
theorem dT_set {Q : Unit → Shared → Prop} (hu : A.units + 64 < cLine) (I : L2.Inv X pins σ H s) (hs : HS X.w X.K X.mg r h H) (en : r[n]? = some p) (ho : h[n]? = some (.dT kvs)) (hl0 : kvs.length < sizeLine) (hk : isKy k = true) (q : Rep X.K X.mg r H k x) (z : RelV x u)
    (qv : Rep X.K X.mg r H v y) (zv : RelV y u') (hq : ∀ H' s', L2.Inv X pins σ H' s' → Post X.w X.K X.mg r H r (h.set n (.dT (kPut k v kvs))) H' → Q () s') : wpAny (model X.prog X.w) A (setItem (.ref p) u u') Q E s := by
  obtain ⟨xs, e1, t, hm, hd, hl⟩ := dT_of I hs en ho
  obtain ⟨a, nk, rfl, rfl, e2, hi⟩ := ky_of I hk q z
  have ln := repT_len t
  refine wpAny_setItem_heap (hsz := hl) (nroom hu) hi hm fun h' hm' hsb => ?_
  have t' := kPut_ok e2 q zv qv t
  have l2 : (storedH xs nk a u').length ≤ sizeLine := by
    unfold storedH
    split
    · rw [List.length_map]; exact hl
    · rw [List.length_append, List.length_singleton]; omega
  obtain ⟨J, P⟩ := dT_write (t' := s.toks + (nestedKind X.prog X.w).draws nk) I hs en e1 hd hm' hsb l2 t'
  exact hq _ _ J P
theorem dT_get1 {Q : Value → Shared → Prop} (hu : A.units + 64 < cLine) (I : L2.Inv X pins σ H s) (hs : HS X.w X.K X.mg r h H) (en : r[n]? = some p) (ho : h[n]? = some (.dT kvs)) (hk : isKy k = true) (q : Rep X.K X.mg r H k x) (z : RelV x u)
    (hq : ∀ y u' s', L2.Inv X pins σ H s' → RelV y u' → Rep X.K X.mg r H ((kGet k kvs).getD .non) y → Q u' s') : wpAny (model X.prog X.w) A (call (.builtin "dict.get") [.ref p, u]) Q E s := by
  obtain ⟨xs, e1, t, hm, hd, hl⟩ := dT_of I hs en ho
  obtain ⟨a, nk, rfl, rfl, e2, hi⟩ := ky_of I hk q z
  obtain ⟨i1, i2⟩ := kGet_ok e2 t
  refine get_keyed (kvs := pairsH xs) (nroom hu) hi hd ⟨xs, hm, rfl⟩ ?_
  rw [valueAt_pairsH]
  cases e : kGet k kvs with
  | none =>
    rw [e] at hq
    rw [i2 e]
    exact hq .non _ _ (I.tok _) rfl .non
  | some v' =>
    rw [e] at hq
    obtain ⟨q', y, e3, ry, qy⟩ := i1 v' e
    rw [e3]
    exact hq y _ _ (I.tok _) ry qy
theorem dT_get2 {d : MV} {y0 : V} {u0 : Value} {Q : Value → Shared → Prop} (hu : A.units + 64 < cLine) (I : L2.Inv X pins σ H s) (hs : HS X.w X.K X.mg r h H) (en : r[n]? = some p) (ho : h[n]? = some (.dT kvs)) (hk : isKy k = true) (q : Rep X.K X.mg r H k x) (z : RelV x u)
    (qd : Rep X.K X.mg r H d y0) (zd : RelV y0 u0) (hq : ∀ y u' s', L2.Inv X pins σ H s' → RelV y u' → Rep X.K X.mg r H ((kGet k kvs).getD d) y → Q u' s') : wpAny (model X.prog X.w) A (call (.builtin "dict.get") [.ref p, u, u0]) Q E s := by
  obtain ⟨xs, e1, t, hm, hd, hl⟩ := dT_of I hs en ho
  obtain ⟨a, nk, rfl, rfl, e2, hi⟩ := ky_of I hk q z
  obtain ⟨i1, i2⟩ := kGet_ok e2 t
  refine getOr_keyed (kvs := pairsH xs) (nroom hu) hi hd ⟨xs, hm, rfl⟩ ?_
  rw [valueAt_pairsH]
  cases e : kGet k kvs with
  | none =>
    rw [e] at hq
    rw [i2 e]
    exact hq y0 _ _ (I.tok _) zd qd
  | some v' =>
    rw [e] at hq
    obtain ⟨q', y, e3, ry, qy⟩ := i1 v' e
    rw [e3]
    exact hq y _ _ (I.tok _) ry qy
theorem dT_setd {d : MV} {y0 : V} {u0 : Value} {Q : Value → Shared → Prop} (hu : A.units + 64 < cLine) (I : L2.Inv X pins σ H s) (hs : HS X.w X.K X.mg r h H) (en : r[n]? = some p) (ho : h[n]? = some (.dT kvs)) (hl0 : kvs.length < sizeLine) (hk : isKy k = true) (q : Rep X.K X.mg r H k x) (z : RelV x u)
    (qd : Rep X.K X.mg r H d y0) (zd : RelV y0 u0) (h1 : ∀ v, kGet k kvs = some v → ∀ y u' s', L2.Inv X pins σ H s' → RelV y u' → Rep X.K X.mg r H v y → Q u' s')
    (h2 : kGet k kvs = none → ∀ H' s', L2.Inv X pins σ H' s' → Post X.w X.K X.mg r H r (h.set n (.dT (kPut k d kvs))) H' → Q u0 s') : wpAny (model X.prog X.w) A (call (.builtin "dict.setdefault") [.ref p, u, u0]) Q E s := by
  obtain ⟨xs, e1, t, hm, hd, hl⟩ := dT_of I hs en ho
  obtain ⟨a, nk, rfl, rfl, e2, hi⟩ := ky_of I hk q z
  obtain ⟨i1, i2⟩ := kGet_ok e2 t
  have ln := repT_len t
  refine call_setdefault_heap (hsz := hl) (nroom hu) hi hd hm (fun p' hp => ?_) fun hn h' hm' hsb => ?_
  · cases e : kGet k kvs with
    | none => rw [i2 e] at hp; cases hp
    | some v' =>
      obtain ⟨q', y, e3, ry, qy⟩ := i1 v' e
      rw [e3] at hp
      cases hp
      exact h1 v' e y _ _ (I.tok _) ry qy
  · have e : kGet k kvs = none := by
      cases e : kGet k kvs with
      | none => rfl
      | some v' => obtain ⟨q', y, e3, _⟩ := i1 v' e; rw [e3] at hn; cases hn
    have l2 : (storedH xs nk a u0).length ≤ sizeLine := by
      unfold storedH
      split
      · rw [List.length_map]; exact hl
      · rw [List.length_append, List.length_singleton]; omega
    obtain ⟨J, P⟩ := dT_write (t' := s.toks + (nestedKind X.prog X.w).draws nk) I hs en e1 hd hm' hsb l2 (kPut_ok e2 q zd qd t)
    exact h2 e _ _ J P
end
end MP

end
section
namespace MP
open PySem PySem.Spec PyProof.Rows L2

abbrev PEm (X : Cx) (W : WX) (e : Expr) (m : ME) : Prop := PE X e (tM X.w X.K X.mg W m)
abbrev PTm (X : Cx) (W : WX) (e : Expr) (m : MT) : Prop := PT X e (tMT X.w X.K X.mg W m)
abbrev PWm (X : Cx) (W : WX) (e : Expr) (m : MT) : Prop := PW X e (tMT X.w X.K X.mg W m)
abbrev PAm (X : Cx) (W : WX) (e : List Expr) (m : MA) : Prop := PA X e (tMA X.w X.K X.mg W m)
theorem _root_.L2.PW.mimp {X : Cx} {e : Expr} {t t' : TT} (h : PW X e t) (i : ∀ s H Q, t' s H Q → t s H Q) : PW X e t' := ⟨fun wh pins s σ H Q I q => h.run wh pins s σ H Q I (i _ _ _ q)⟩

section
variable {ww : World} {K : PySem.W.Frag} {mg : Str → Option Value} {W : WX} {r : List Addr} {sm : Sl} {h : MH} {s : L2.St} {H : Hp}
theorem tM_bind {α β : Type} {rel : List Addr → Hp → α → β → Prop} {m : ME} {f : MV → MH → R α} {Q : β → Hp → Prop} {Q' : VK} (hs : HS ww K mg r h H) (ss : SS K mg r H sm s)
    (w : Wt ww K mg rel r H (fun c d H' => W c d s H') Q ((m sm h).bind f))
    (k : ∀ r1 h1 v x H1, HS ww K mg r1 h1 H1 → SS K mg r1 H1 sm s → Post ww K mg r H r1 h1 H1 → Rep K mg r1 H1 v x → Wt ww K mg rel r1 H1 (fun c d H' => W c d s H') Q (f v h1) → Q' x H1) : tM ww K mg W m s H Q' :=
  ⟨r, sm, h, hs, ss, (Wt.bind (rel := Rep K mg) w).imp (fun _ _ _ z => z) fun x H1 ⟨r1, h1, v, p, q, w1⟩ => k r1 h1 v x H1 p.hs (ss.post hs p) p q w1⟩
theorem tMT_bind {α β : Type} {rel : List Addr → Hp → α → β → Prop} {m : MT} {f : Bool → MH → R α} {Q : β → Hp → Prop} {Q' : Bool → Hp → Prop} (hs : HS ww K mg r h H) (ss : SS K mg r H sm s)
    (w : Wt ww K mg rel r H (fun c d H' => W c d s H') Q ((m sm h).bind f))
    (k : ∀ r1 h1 v H1, HS ww K mg r1 h1 H1 → SS K mg r1 H1 sm s → Post ww K mg r H r1 h1 H1 → Wt ww K mg rel r1 H1 (fun c d H' => W c d s H') Q (f v h1) → Q' v H1) : tMT ww K mg W m s H Q' :=
  ⟨r, sm, h, hs, ss, (Wt.bind (rel := fun _ _ a b => a = b) w).imp (fun _ _ _ z => z) fun x H1 ⟨r1, h1, v, p, q, w1⟩ => by subst q; exact k r1 h1 v H1 p.hs (ss.post hs p) p w1⟩
theorem tMA_bind {α β : Type} {rel : List Addr → Hp → α → β → Prop} {m : MA} {f : List MV → MH → R α} {Q : β → Hp → Prop} {Q' : List V → Hp → Prop} (hs : HS ww K mg r h H) (ss : SS K mg r H sm s)
    (w : Wt ww K mg rel r H (fun c d H' => W c d s H') Q ((m sm h).bind f))
    (k : ∀ r1 h1 v x H1, HS ww K mg r1 h1 H1 → SS K mg r1 H1 sm s → Post ww K mg r H r1 h1 H1 → RepL K mg r1 H1 v x → Wt ww K mg rel r1 H1 (fun c d H' => W c d s H') Q (f v h1) → Q' x H1) : tMA ww K mg W m s H Q' :=
  ⟨r, sm, h, hs, ss, (Wt.bind (rel := RepL K mg) w).imp (fun _ _ _ z => z) fun x H1 ⟨r1, h1, v, p, q, w1⟩ => k r1 h1 v x H1 p.hs (ss.post hs p) p q w1⟩
theorem tM_bindS {m : ME} {f : MV → MH → SR} {D : Ends} {Q' : VK} (hs : HS ww K mg r h H) (ss : SS K mg r H sm s) (w : WtS ww K mg W r H D ((m sm h).bindS sm f))
    (k : ∀ r1 h1 v x H1, HS ww K mg r1 h1 H1 → SS K mg r1 H1 sm s → Post ww K mg r H r1 h1 H1 → Rep K mg r1 H1 v x → WtS ww K mg W r1 H1 D (f v h1) → Q' x H1) : tM ww K mg W m s H Q' :=
  ⟨r, sm, h, hs, ss, (WtS.bind (rel := Rep K mg) hs ss w).imp (fun _ _ _ z => z) fun x H1 ⟨r1, h1, v, p, q, w1⟩ => k r1 h1 v x H1 p.hs (ss.post hs p) p q w1⟩
theorem tMT_bindS {m : MT} {f : Bool → MH → SR} {D : Ends} {Q' : Bool → Hp → Prop} (hs : HS ww K mg r h H) (ss : SS K mg r H sm s) (w : WtS ww K mg W r H D ((m sm h).bindS sm f))
    (k : ∀ r1 h1 v H1, HS ww K mg r1 h1 H1 → SS K mg r1 H1 sm s → Post ww K mg r H r1 h1 H1 → WtS ww K mg W r1 H1 D (f v h1) → Q' v H1) : tMT ww K mg W m s H Q' :=
  ⟨r, sm, h, hs, ss, (WtS.bind (rel := fun _ _ a b => a = b) hs ss w).imp (fun _ _ _ z => z) fun x H1 ⟨r1, h1, v, p, q, w1⟩ => by subst q; exact k r1 h1 v H1 p.hs (ss.post hs p) p w1⟩
theorem tMA_bindS {m : MA} {f : List MV → MH → SR} {D : Ends} {Q' : List V → Hp → Prop} (hs : HS ww K mg r h H) (ss : SS K mg r H sm s) (w : WtS ww K mg W r H D ((m sm h).bindS sm f))
    (k : ∀ r1 h1 v x H1, HS ww K mg r1 h1 H1 → SS K mg r1 H1 sm s → Post ww K mg r H r1 h1 H1 → RepL K mg r1 H1 v x → WtS ww K mg W r1 H1 D (f v h1) → Q' x H1) : tMA ww K mg W m s H Q' :=
  ⟨r, sm, h, hs, ss, (WtS.bind (rel := RepL K mg) hs ss w).imp (fun _ _ _ z => z) fun x H1 ⟨r1, h1, v, p, q, w1⟩ => k r1 h1 v x H1 p.hs (ss.post hs p) p q w1⟩
theorem tM_end {m : ME} {Q : VK} (hs : HS ww K mg r h H) (ss : SS K mg r H sm s) (w : Wt ww K mg (Rep K mg) r H (fun c d H' => W c d s H') Q (m sm h)) : tM ww K mg W m s H Q := ⟨r, sm, h, hs, ss, w⟩
theorem tMT_end {m : MT} {Q : Bool → Hp → Prop} (hs : HS ww K mg r h H) (ss : SS K mg r H sm s) (w : Wt ww K mg (fun _ _ a b => a = b) r H (fun c d H' => W c d s H') Q (m sm h)) : tMT ww K mg W m s H Q := ⟨r, sm, h, hs, ss, w⟩
theorem tMS_end {m : MS} {D : Ends} (hs : HS ww K mg r h H) (ss : SS K mg r H sm s) (w : WtS ww K mg W r H D (m sm h)) : tMS ww K mg W m D s H := ⟨r, sm, h, hs, ss, w⟩
theorem Wt.plainB {E : XK} {Q : Bool → Hp → Prop} {b : Bool} (hs : HS ww K mg r h H) (w : Wt ww K mg (fun _ _ a b => a = b) r H E Q (.ok b h)) : Q b H := w r H b (Post.refl hs) rfl
end

def eVar (i : Nat) : ME := fun s h => match s[i]? with
  | some (some v) => .ok v h
  | _ => .stuck
def eC (v : MV) : ME := fun _ h => .ok v h
def eOp (f : F2) (a b : ME) : ME := fun s h => (a s h).bind fun x h1 => (b s h1).bind fun y h2 => ofO (f x y h2)
def eChain (f g : F2) (a b c : ME) : ME := fun s h => (a s h).bind fun x h1 => (b s h1).bind fun y h2 => (ofO (f x y h2)).bind fun z h3 => match z with
  | .bl true => (c s h3).bind fun w h4 => ofO (g y w h4)
  | .bl false => .ok (.bl false) h3
  | _ => .stuck
def eAnd (a b : ME) : ME := fun s h => (a s h).bind fun x h1 => match x with
  | .bl true => b s h1
  | .bl false => .ok (.bl false) h1
  | _ => .stuck
def eOr (a b : ME) : ME := fun s h => (a s h).bind fun x h1 => match x with
  | .bl false => b s h1
  | .bl true => .ok (.bl true) h1
  | _ => .stuck
def eIf (t : MT) (a b : ME) : ME := fun s h => (t s h).bind fun c h1 => if c then a s h1 else b s h1
def mTruth (x : MV) (h : MH) : Option Bool := match x with
  | .non => some false
  | .bl b => some b
  | .int i => some (i != 0)
  | .str l => if l.length ≤ sizeLine then some (!l.isEmpty) else none
  | .tup xs => some (!xs.isEmpty)
  | .ref n => match h[n]? with
    | some (.lst xs) => some (!xs.isEmpty)
    | some (.dK kvs) => some (!kvs.isEmpty)
    | _ => none
  | .lv xs => some (!xs.isEmpty)
  | _ => none
def ofB (o : Option Bool) (h : MH) : R Bool := match o with
  | some b => .ok b h
  | none => .stuck
def tVal (a : ME) : MT := fun s h => (a s h).bind fun x h1 => ofB (mTruth x h1) h1
def tCmp (f : F2) (a b : ME) : MT := fun s h => (a s h).bind fun x h1 => (b s h1).bind fun y h2 => match f x y h2 with
  | some (.bl k, h3) => .ok k h3
  | _ => .stuck
def tNotM (t : MT) : MT := fun s h => (t s h).bind fun c h1 => .ok (!c) h1
def tAndM (t u : MT) : MT := fun s h => (t s h).bind fun c h1 => if c then u s h1 else .ok false h1
def tOrM (t u : MT) : MT := fun s h => (t s h).bind fun c h1 => if c then .ok true h1 else u s h1
def eNot (a : ME) : ME := fun s h => (a s h).bind fun x h1 => (ofB (mTruth x h1) h1).bind fun c h2 => .ok (.bl (!c)) h2
def aNil : MA := fun _ h => .ok [] h
def aCons (a : ME) (b : MA) : MA := fun s h => (a s h).bind fun x h1 => (b s h1).bind fun xs h2 => .ok (x :: xs) h2
def eTup (a : MA) : ME := fun s h => (a s h).bind fun xs h1 => if xs.length ≤ sizeLine then .ok (.tup xs) h1 else .stuck
def eLst (a : MA) : ME := fun s h => (a s h).bind fun xs h1 => if xs.length ≤ sizeLine then .ok (.ref h1.length) (h1 ++ [.lst xs]) else .stuck
section
variable {X : Cx} {W : WX} {a b c e : Expr} {es : List Expr} {ma mb mc : ME} {mt mu : MT} {ms : MA} {pos : Pos}
theorem me_var (i : Nat) {x : Str} (hN : X.N[i]? = some x := by rfl) (hv : Vis X.env.scope x := by first | exact Or.inl rfl | exact Or.inr (Or.inl rfl) | exact Or.inr (Or.inr rfl)) (hd : (x == ("__debug__" : Str)) = false := by decide)
    (hcd : (x == ("__classdict__" : Str)) = false := by decide) : PEm X W (.Name x pos) (eVar i) := (pe_var hN hv hd hcd).mimp fun s H Q ⟨r, sm, h, hs, ss, w⟩ => by
  unfold eVar at w
  split at w
  · rename_i v e
    obtain ⟨y, e1, q⟩ := ss.at_ i v e
    exact ⟨y, e1, w.plain hs q⟩
  · exact w.elim
theorem me_int {i j} : PEm X W (.Constant (.int i) j pos) (eC (.int i)) := pe_int.mimp fun s H Q ⟨r, sm, h, hs, ss, w⟩ => Wt.plain hs w (.int i)
theorem me_bl {b j} : PEm X W (.Constant (.bool b) j pos) (eC (.bl b)) := pe_bl.mimp fun s H Q ⟨r, sm, h, hs, ss, w⟩ => Wt.plain hs w (.bl b)
theorem me_non {j} : PEm X W (.Constant .none j pos) (eC .non) := pe_non.mimp fun s H Q ⟨r, sm, h, hs, ss, w⟩ => Wt.plain hs w .non
theorem me_str (l : CP) {x : Str} {j} (hx : x = S l := by decide +kernel) : PEm X W (.Constant (.str x) j pos) (eC (.str l)) := pe_str.mimp fun s H Q ⟨r, sm, h, hs, ss, w⟩ => by subst hx; exact Wt.plain hs w (.str l)
def GloV (X : Cx) (x : Str) (v : MV) : Prop := ∃ u y, X.mg x = some u ∧ RelV y u ∧ ∀ r H, Rep X.K X.mg r H v y
theorem me_glob {x : Str} {v : MV} (hg : Gl X x) (hm : GloV X x v) (hd : (x == ("__debug__" : Str)) = false := by decide) : PEm X W (.Name x pos) (eC v) := by
  obtain ⟨u, y, e, ry, q⟩ := hm
  exact (pe_glob hg e ry hd).mimp fun s H Q ⟨r, sm, h, hs, ss, w⟩ => Wt.plain hs w (q r H)
theorem me_op {op : Operator} {f : F2} (ho : OpR X (binaryOp op) (rM X.w X.K X.mg f)) (ha : PEm X W a ma) (hb : PEm X W b mb) : PEm X W (.BinOp a op b pos) (eOp f ma mb) := (pe_op ho ha hb).mimp fun s H Q ⟨r, sm, h, hs, ss, w⟩ =>
  tM_bind hs ss w fun r1 h1 v x H1 hs1 ss1 p1 q1 w1 => tM_bind hs1 ss1 w1 fun r2 h2 u y H2 hs2 ss2 p2 q2 w2 => ⟨r2, h2, v, u, hs2, p2.rep hs1 q1, q2, w2.anyE⟩
theorem me_cmp {op : CmpOp} {f : F2} (ho : OpR X (compareOp op) (rM X.w X.K X.mg f)) (ha : PEm X W a ma) (hb : PEm X W b mb) (hm : behindInMarks op b = false := by first | exact nomark _ | rfl | with_unfolding_all rfl) : PEm X W (.Compare a [op] [b] pos) (eOp f ma mb) := (pe_cmpR ho ha hb hm).mimp fun s H Q ⟨r, sm, h, hs, ss, w⟩ =>
  tM_bind hs ss w fun r1 h1 v x H1 hs1 ss1 p1 q1 w1 => tM_bind hs1 ss1 w1 fun r2 h2 u y H2 hs2 ss2 p2 q2 w2 => ⟨r2, h2, v, u, hs2, p2.rep hs1 q1, q2, w2.anyE⟩
theorem me_one {op} (h : PEm X W a ma) : PEm X W (.BoolOp op [a] pos) ma := pe_one h
theorem me_and {rest : List Expr} (ha : PEm X W a ma) (hb : PEm X W (.BoolOp .And (b :: rest) pos) mb) : PEm X W (.BoolOp .And (a :: b :: rest) pos) (eAnd ma mb) := (pe_and ha hb).mimp fun s H Q ⟨r, sm, h, hs, ss, w⟩ =>
  tM_bind hs ss w fun r1 h1 v x H1 hs1 ss1 p1 q1 w1 => by
    cases v with
    | bl k =>
      cases q1
      refine ⟨k, rfl, ?_⟩
      cases k with
      | true => exact iteT (tM_end hs1 ss1 w1)
      | false => exact iteF (Wt.plain hs1 w1 (.bl false))
    | _ => exact w1.elim
theorem me_or {rest : List Expr} (ha : PEm X W a ma) (hb : PEm X W (.BoolOp .Or (b :: rest) pos) mb) : PEm X W (.BoolOp .Or (a :: b :: rest) pos) (eOr ma mb) := (pe_or ha hb).mimp fun s H Q ⟨r, sm, h, hs, ss, w⟩ =>
  tM_bind hs ss w fun r1 h1 v x H1 hs1 ss1 p1 q1 w1 => by
    cases v with
    | bl k =>
      cases q1
      refine ⟨k, rfl, ?_⟩
      cases k with
      | false => exact iteF (tM_end hs1 ss1 w1)
      | true => exact iteT (Wt.plain hs1 w1 (.bl true))
    | _ => exact w1.elim
theorem me_if (ht : PTm X W c mt) (ha : PEm X W a ma) (hb : PEm X W b mb) : PEm X W (.IfExp c a b pos) (eIf mt ma mb) := (pe_ifExp ht ha hb).mimp fun s H Q ⟨r, sm, h, hs, ss, w⟩ =>
  tMT_bind hs ss w fun r1 h1 v H1 hs1 ss1 p1 w1 => by
    cases v with
    | true => exact iteT (tM_end hs1 ss1 w1)
    | false => exact iteF (tM_end hs1 ss1 w1)
theorem truth_ok {r : List Addr} {h : MH} {H : Hp} {v : MV} {x : V} {k : Bool} (hs : HS X.w X.K X.mg r h H) (q : Rep X.K X.mg r H v x) (e : mTruth v h = some k) : TruV X.K x H k := by
  cases v with
  | non => cases q; cases e; rfl
  | bl b => cases q; cases e; rfl
  | int i => cases q; cases e; rfl
  | str l =>
    cases q
    simp only [mTruth] at e
    split at e
    · rename_i hl
      cases e
      refine ⟨by rw [S_length]; exact hl, ?_⟩
      rw [S_length]
      cases l with
      | nil => rfl
      | cons c t => simp; omega
    · cases e
  | tup xs =>
    cases q with
    | tup sq ql =>
      cases e
      refine .inr (.inl ⟨_, sq, ?_⟩)
      cases ql <;> rfl
  | ref n =>
    cases q with
    | ref en =>
      simp only [mTruth] at e
      split at e
      · rename_i xs h1
        cases e
        obtain ⟨ys, e1, ql⟩ := hs.lookup en h1
        refine .inl ⟨_, SqL.of e1, ?_⟩
        cases ql <;> rfl
      · rename_i xs h1
        cases e
        obtain ⟨ys, e1, ql⟩ := hs.lookup en h1
        refine .inr (.inr ⟨_, e1, ?_⟩)
        cases ql <;> rfl
      · cases e
  | ty _ => cases e
  | glo _ => cases e
  | exc _ _ _ => cases e
  | clo _ _ _ _ _ => cases e
  | ro _ => cases e
  | lv xs =>
    cases q with
    | lv s ql =>
      cases e
      refine .inl ⟨_, s.sq, ?_⟩
      cases ql <;> rfl
theorem mt_val (ha : PEm X W a ma) (he : ∀ whole, isTrue a X.env whole = (do let v ← whole; standAt a.pos; holding [v] (truthy v)) := by intro _; rfl) : PTm X W a (tVal ma) := (pt_truth ha he).mimp fun s H Q ⟨r, sm, h, hs, ss, w⟩ =>
  tM_bind hs ss w fun r1 h1 v x H1 hs1 ss1 p1 q1 w1 => by
    cases e : mTruth v h1 with
    | none => rw [e] at w1; exact w1.elim
    | some k =>
      rw [e] at w1
      exact ⟨k, truth_ok hs1 q1 e, Wt.plainB hs1 w1⟩
theorem mt_cmp {op : CmpOp} {f : F2} (ho : OpR X (compareOp op) (rM X.w X.K X.mg f)) (ha : PEm X W a ma) (hb : PEm X W b mb) (hm : behindInMarks op b = false := by first | exact nomark _ | rfl | with_unfolding_all rfl) : PTm X W (.Compare a [op] [b] pos) (tCmp f ma mb) := (pt_cmpR ho ha hb hm).mimp fun s H Q ⟨r, sm, h, hs, ss, w⟩ =>
  tM_bind hs ss w fun r1 h1 v x H1 hs1 ss1 p1 q1 w1 => tM_bind hs1 ss1 w1 fun r2 h2 u y H2 hs2 ss2 p2 q2 w2 => by
    refine ⟨r2, h2, v, u, hs2, p2.rep hs1 q1, q2, ?_⟩
    revert w2
    cases f v u h2 with
    | none => intro w2; exact w2.elim
    | some p =>
      obtain ⟨z, h3⟩ := p
      cases z with
      | bl k =>
        intro w2 r3 H3 z p3 q3
        cases q3
        exact ⟨k, rfl, w2 r3 H3 k p3 rfl⟩
      | _ => intro w2; exact w2.elim
theorem mt_not (ha : PTm X W a mt) : PTm X W (.UnaryOp .Not a pos) (tNotM mt) := (pt_not ha).mimp fun s H Q ⟨r, sm, h, hs, ss, w⟩ =>
  tMT_bind hs ss w fun r1 h1 v H1 hs1 ss1 p1 w1 => Wt.plainB hs1 w1
theorem mw_and1 (ha : PTm X W a mt) : PWm X W (.BoolOp .And [a] pos) mt := pw_and1 ha
theorem mw_or1 (ha : PTm X W a mt) : PWm X W (.BoolOp .Or [a] pos) mt := pw_or1 ha
theorem mw_and {rest : List Expr} (ha : PTm X W a mt) (hb : PWm X W (.BoolOp .And (b :: rest) pos) mu) : PWm X W (.BoolOp .And (a :: b :: rest) pos) (tAndM mt mu) := (pw_and ha hb).mimp fun s H Q ⟨r, sm, h, hs, ss, w⟩ =>
  tMT_bind hs ss w fun r1 h1 v H1 hs1 ss1 p1 w1 => by
    cases v with
    | true => exact iteT (tMT_end hs1 ss1 w1)
    | false => exact iteF (Wt.plainB hs1 w1)
theorem mw_or {rest : List Expr} (ha : PTm X W a mt) (hb : PWm X W (.BoolOp .Or (b :: rest) pos) mu) : PWm X W (.BoolOp .Or (a :: b :: rest) pos) (tOrM mt mu) := (pw_or ha hb).mimp fun s H Q ⟨r, sm, h, hs, ss, w⟩ =>
  tMT_bind hs ss w fun r1 h1 v H1 hs1 ss1 p1 w1 => by
    cases v with
    | true => exact iteT (Wt.plainB hs1 w1)
    | false => exact iteF (tMT_end hs1 ss1 w1)
theorem mt_w (h : PWm X W a mt) : PTm X W a mt := h.pt
theorem me_not (ha : PEm X W a ma) : PEm X W (.UnaryOp .Not a pos) (eNot ma) := (pe_notT ha).mimp fun s H Q ⟨r, sm, h, hs, ss, w⟩ =>
  tM_bind hs ss w fun r1 h1 v x H1 hs1 ss1 p1 q1 w1 => by
    cases e : mTruth v h1 with
    | none => rw [e] at w1; exact w1.elim
    | some k =>
      rw [e] at w1
      exact ⟨k, truth_ok hs1 q1 e, Wt.plain hs1 w1 (.bl _)⟩
theorem ma_nil : PAm X W [] aNil := pa_nil.mimp fun s H Q ⟨r, sm, h, hs, ss, w⟩ => w r H [] (Post.refl hs) .nil
theorem ma_cons (ha : PEm X W e ma) (hr : PAm X W es ms) (hst : starEach (e :: es) X.env = (false, eval e X.env) :: starEach es X.env := by rfl) : PAm X W (e :: es) (aCons ma ms) := (pa_cons ha hr hst).mimp fun s H Q ⟨r, sm, h, hs, ss, w⟩ =>
  tM_bind hs ss w fun r1 h1 v x H1 hs1 ss1 p1 q1 w1 => tMA_bind hs1 ss1 w1 fun r2 h2 vs xs H2 hs2 ss2 p2 q2 w2 => w2 r2 H2 _ (Post.refl hs2) (.cons (p2.rep hs1 q1) q2)
theorem me_tup {k} (h : PAm X W es ms) : PEm X W (.Tuple es k pos) (eTup ms) := (pe_tup h).mimp fun s H Q ⟨r, sm, h, hs, ss, w⟩ =>
  tMA_bind hs ss w fun r1 h1 vs xs H1 hs1 ss1 p1 q1 w1 => by
    split at w1
    · rename_i hl
      refine ⟨by rw [← q1.length]; exact hl, fun p hp => ?_⟩
      obtain ⟨po, re⟩ := hs1.newT hp q1
      exact w1 _ _ _ po re
    · exact w1.elim
theorem me_lst (h : PAm X W es ms) : PEm X W (.List es pos) (eLst ms) := (pe_lst h).mimp fun s H Q ⟨r, sm, h, hs, ss, w⟩ =>
  tMA_bind hs ss w fun r1 h1 vs xs H1 hs1 ss1 p1 q1 w1 => by
    split at w1
    · rename_i hl
      refine ⟨by rw [← q1.length]; exact hl, fun p hp => ?_⟩
      obtain ⟨po, re⟩ := hs1.newL hp q1
      exact w1 _ _ _ po re
    · exact w1.elim
end
end MP

end
section
namespace MP
open PySem PySem.Spec PyProof.Rows L2

abbrev PSm (X : Cx) (W : WX) (e : Stmt) (m : MS) : Prop := PS X e (tMS X.w X.K X.mg W m)
abbrev PSsm (X : Cx) (W : WX) (e : List Stmt) (m : MS) : Prop := PSs X e (tMS X.w X.K X.mg W m)
abbrev MG := MV → Sl → MH → R Sl
abbrev MGs := List MV → Sl → MH → R Sl
def tMG (ww : World) (K : PySem.W.Frag) (mg : Str → Option Value) (g : MG) : TG := fun v s H Q => ∃ r sm h a, HS ww K mg r h H ∧ SS K mg r H sm s ∧ Rep K mg r H a v ∧ Wt ww K mg (fun r' H' => SS K mg r' H') r H (fun _ _ _ => False) Q (g a sm h)
def tMGs (ww : World) (K : PySem.W.Frag) (mg : Str → Option Value) (g : MGs) : TGs := fun v s H Q => ∃ r sm h a, HS ww K mg r h H ∧ SS K mg r H sm s ∧ RepL K mg r H a v ∧ Wt ww K mg (fun r' H' => SS K mg r' H') r H (fun _ _ _ => False) Q (g a sm h)
abbrev PGm (X : Cx) (e : Expr) (m : MG) : Prop := PG X e (tMG X.w X.K X.mg m)
abbrev PGsm (X : Cx) (e : List Expr) (m : MGs) : Prop := PGs X e (tMGs X.w X.K X.mg m)
theorem _root_.L2.PG.mimp {X : Cx} {e : Expr} {t t' : TG} (h : PG X e t) (i : ∀ v s H Q, t' v s H Q → t v s H Q) : PG X e t' := ⟨fun pins s σ H v u Q I r q => h.run pins s σ H v u Q I r (i _ _ _ _ q)⟩
theorem _root_.L2.PGs.mimp {X : Cx} {e : List Expr} {t t' : TGs} (h : PGs X e t) (i : ∀ v s H Q, t' v s H Q → t v s H Q) : PGs X e t' := ⟨fun pins s σ H v u Q I r q => h.run pins s σ H v u Q I r (i _ _ _ _ q)⟩

def sNil : MS := fun s h => .nx s h
def sSeq (a b : MS) : MS := fun s h => match a s h with
  | .nx s1 h1 => b s1 h1
  | o => o
def sExpr (e : ME) : MS := fun s h => (e s h).bindS s fun _ h1 => .nx s h1
def sRet (e : ME) : MS := fun s h => (e s h).bindS s fun v h1 => .rt v h1
def sRetN : MS := fun _ h => .rt .non h
def sBrk : MS := fun s h => .bk s h
def sCnt : MS := fun s h => .ct s h
def sNever : MS := fun _ _ => .stuck
def sIf (t : MT) (a b : MS) : MS := fun s h => (t s h).bindS s fun c h1 => if c then a s h1 else b s h1
def R.go (x : R Sl) (f : Sl → MH → SR) : SR := match x with
  | .ok s h => f s h
  | _ => .stuck
def sAsg (e : ME) (g : MG) : MS := fun s h => (e s h).bindS s fun v h1 => (g v s h1).go fun s' h2 => .nx s' h2
def gNm (i : Nat) : MG := fun v s h => .ok (s.set i (some v)) h
def gN : MGs := fun vs s h => match vs with
  | [] => .ok s h
  | _ => .stuck
def gC (g : MG) (gs : MGs) : MGs := fun vs s h => match vs with
  | v :: r => (g v s h).bind fun s1 h1 => gs r s1 h1
  | [] => .stuck
def gTp (n : Nat) (gs : MGs) : MG := fun v s h => match v with
  | .tup xs => if xs.length = n then gs xs s h else .stuck
  | _ => .stuck
def sPar (i j : Nat) (a : MA) : MS := fun s h => (a s h).bindS s fun vs h1 => match vs with
  | [v, w] => .nx ((s.set i (some v)).set j (some w)) h1
  | _ => .stuck
section
variable {ww : World} {K : PySem.W.Frag} {mg : Str → Option Value} {W : WX} {r : List Addr} {h : MH} {H : Hp}
theorem WtS.post {D : Ends} {x : SR} {r1 : List Addr} {h1 : MH} {H1 : Hp} (p : Post ww K mg r H r1 h1 H1) (w : WtS ww K mg W r H D x) : WtS ww K mg W r1 H1 D x := by
  cases x with
  | stuck => exact w
  | nx z h2 => exact fun r' s' H' p2 q2 => w r' s' H' (p.trans p2) q2
  | bk z h2 => exact fun r' s' H' p2 q2 => w r' s' H' (p.trans p2) q2
  | ct z h2 => exact fun r' s' H' p2 q2 => w r' s' H' (p.trans p2) q2
  | rt z h2 => exact fun r' H' y p2 q2 => w r' H' y (p.trans p2) q2
  | err z sm' h2 => exact fun r' s' H' cls d p2 q2 => w r' s' H' cls d (p.trans p2) q2
theorem Wt.post {α β : Type} {rel : List Addr → Hp → α → β → Prop} {E : XK} {Q : β → Hp → Prop} {x : R α} {r1 : List Addr} {h1 : MH} {H1 : Hp} (p : Post ww K mg r H r1 h1 H1) (w : Wt ww K mg rel r H E Q x) : Wt ww K mg rel r1 H1 E Q x := by
  cases x with
  | stuck => exact w
  | ok z h2 => exact fun r' H' y p2 q2 => w r' H' y (p.trans p2) q2
  | err z h2 => exact fun r' H' cls d p2 q2 => w r' H' cls d (p.trans p2) q2
end
section
variable {X : Cx} {W : WX} {a b c e tg : Expr} {es : List Expr} {st : Stmt} {sts sa sb : List Stmt} {ma mb mc : ME} {mt : MT} {m1 m2 : MS} {ms : MA} {g : MG} {gs : MGs} {pos : Pos}
theorem ms_nil : PSsm X W [] sNil := pss_nil.mimp fun D s H ⟨r, sm, h, hs, ss, w⟩ => WtS.nx hs ss w
theorem ms_cons (h1 : PSm X W st m1) (h2 : PSsm X W sts m2) : PSsm X W (st :: sts) (sSeq m1 m2) := (pss_cons h1 h2).mimp fun D s H ⟨r, sm, h, hs, ss, w⟩ => by
  refine ⟨r, sm, h, hs, ss, ?_⟩
  unfold sSeq at w
  cases e : m1 sm h with
  | nx s1 h1 => rw [e] at w; exact fun r' s' H' p q => ⟨r', s1, h1, p.hs, q, w.post p⟩
  | rt v h1 => rw [e] at w; exact w
  | bk v h1 => rw [e] at w; exact w
  | ct v h1 => rw [e] at w; exact w
  | err x v h1 => rw [e] at w; exact w
  | stuck => rw [e] at w; exact w
theorem ms_one (h1 : PSm X W st m1) : PSsm X W [st] m1 := pss_one h1
theorem ms_expr (he : PEm X W e ma) (hsw : swapsWith e none pos.line X.env = pure false := by rfl) : PSm X W (.Expr e pos) (sExpr ma) := (ps_expr he hsw).mimp fun D s H ⟨r, sm, h, hs, ss, w⟩ =>
  tM_bindS hs ss w fun r1 h1 v x H1 hs1 ss1 p1 q1 w1 => WtS.nx hs1 ss1 w1
theorem ms_ret (he : PEm X W e ma) : PSm X W (.Return (some e) pos) (sRet ma) := (ps_ret he).mimp fun D s H ⟨r, sm, h, hs, ss, w⟩ =>
  tM_bindS hs ss w fun r1 h1 v x H1 hs1 ss1 p1 q1 w1 => WtS.rt hs1 q1 w1
theorem ms_retN : PSm X W (.Return none pos) sRetN := ps_retN.mimp fun D s H ⟨r, sm, h, hs, ss, w⟩ => WtS.rt hs .non w
theorem ms_if (hc : PTm X W c mt) (ha : PSsm X W sa m1) (hb : PSsm X W sb m2) : PSm X W (.If c sa sb pos) (sIf mt m1 m2) := (ps_if hc ha hb).mimp fun D s H ⟨r, sm, h, hs, ss, w⟩ =>
  tMT_bindS hs ss w fun r1 h1 v H1 hs1 ss1 p1 w1 => by
    cases v with
    | true => exact iteT (tMS_end hs1 ss1 w1)
    | false => exact iteF (tMS_end hs1 ss1 w1)
theorem mg_name {i : Nat} {x : Str} (hN : X.N.Nodup) (hi : X.N[i]? = some x) (hx : Loc X.env.scope x) (hf : X.fn x = true ∨ X.env.scope.names.lookup x = some .local := by first | exact .inl rfl | exact .inr rfl | assumption) : PGm X (.Name x pos) (gNm i) :=
  (pg_name hN hi hx hf).mimp fun v s H Q ⟨r, sm, h, a, hs, ss, q, w⟩ => w r H _ (Post.refl hs) (ss.set q i)
theorem mgs_nil : PGsm X [] gN := pgs_nil.mimp fun v s H Q ⟨r, sm, h, a, hs, ss, q, w⟩ => by
  cases a with
  | nil => cases q; exact ⟨rfl, w r H s (Post.refl hs) ss⟩
  | cons _ _ => exact w.elim
theorem mgs_cons (h1 : PGm X e g) (h2 : PGsm X es gs) (hst : (assignEach (e :: es) X.env).map (·.2) = assign e X.env :: (assignEach es X.env).map (·.2) := by rfl) : PGsm X (e :: es) (gC g gs) := (pgs_cons h1 h2 hst).mimp fun v s H Q ⟨r, sm, h, a, hs, ss, q, w⟩ => by
  cases a with
  | nil => exact w.elim
  | cons a as =>
    cases q with
    | cons q1 q2 =>
      refine ⟨_, _, rfl, r, sm, h, a, hs, ss, q1, (Wt.bind (rel := fun r' H' => SS X.K X.mg r' H') w).imp (fun _ _ _ z => z) fun s1 H1 ⟨r1, h1, sm1, p1, ss1, w2⟩ => ?_⟩
      exact ⟨r1, sm1, h1, as, p1.hs, ss1, p1.repL hs q2, w2⟩
theorem mg_tup {k n : Nat} (hc : X.calm = true) (hg : PGsm X es gs) (hn : es.length = n := by rfl) (ht : X.calm = true → PGs X es (tMGs X.w X.K X.mg gs) → PG X (.Tuple es k pos) (gTup X.K n (tMGs X.w X.K X.mg gs)) := by exact fun a b => pg_tup a b) : PGm X (.Tuple es k pos) (gTp n gs) := (ht hc hg).mimp fun v s H Q ⟨r, sm, h, a, hs, ss, q, w⟩ => by
  cases a with
  | tup xs =>
    cases q with
    | tup sq ql =>
      simp only [gTp] at w
      split at w
      · rename_i hl
        exact ⟨_, _, rfl, sq, by rw [← ql.length]; exact hl, r, sm, h, xs, hs, ss, ql, w⟩
      · exact w.elim
  | _ => exact w.elim
theorem WtS.goes {D : Ends} {x : R Sl} {f : Sl → MH → SR} {r : List Addr} {H : Hp} {ww : World} {K : PySem.W.Frag} {mg : Str → Option Value} (w : WtS ww K mg W r H D (x.go f)) :
    Wt ww K mg (fun r' H' => SS K mg r' H') r H (fun _ _ _ => False) (fun s' H' => ∃ r1 h1 sm1, Post ww K mg r H r1 h1 H' ∧ SS K mg r1 H' sm1 s' ∧ WtS ww K mg W r1 H' D (f sm1 h1)) x := by
  cases x with
  | ok sm h' => exact fun r' H' y p q => ⟨r', h', sm, p, q, WtS.post p w⟩
  | err _ _ => exact w.elim
  | stuck => exact w.elim
theorem ms_asg (he : PEm X W e ma) (hg : PGm X tg g) (hsw : swapsWithSole [tg] e pos.line X.env = pure false := by rfl) (hw : swappedStores [tg] e X.env = pure none := by rfl)
    (hps : PE X e (tM X.w X.K X.mg W ma) → PG X tg (tMG X.w X.K X.mg g) → PS X (.Assign [tg] e pos) (tAsg (tM X.w X.K X.mg W ma) (tMG X.w X.K X.mg g)) := by exact fun a b => ps_asg a b) : PSm X W (.Assign [tg] e pos) (sAsg ma g) := (hps he hg).mimp fun D s H ⟨r, sm, h, hs, ss, w⟩ =>
  tM_bindS hs ss w fun r1 h1 v x H1 hs1 ss1 p1 q1 w1 => ⟨r1, sm, h1, v, hs1, ss1, q1, (WtS.goes w1).imp (fun _ _ _ z => z) fun s' H' ⟨r2, h2, sm2, p2, ss2, w2⟩ => WtS.nx p2.hs ss2 w2⟩
theorem ms_set {i : Nat} {x : Str} {pos' : Pos} (hN : X.N.Nodup) (hi : X.N[i]? = some x) (hx : Loc X.env.scope x) (he : PEm X W e ma) (hsw : swapsWith e (some (.Name x pos')) pos.line X.env = pure false := by rfl) (hf : X.fn x = true ∨ X.env.scope.names.lookup x = some .local := by first | exact .inl rfl | exact .inr rfl | assumption) :
    PSm X W (.Assign [.Name x pos'] e pos) (sAsg ma (gNm i)) := (ps_set hN hi hx he hsw hf).mimp fun D s H ⟨r, sm, h, hs, ss, w⟩ =>
  tM_bindS hs ss w fun r1 h1 v x H1 hs1 ss1 p1 q1 w1 => WtS.nx hs1 (ss1.set q1 i) w1
end
end MP

end
section
namespace MP
open PySem PySem.Spec PyProof.Rows L2

def pairs : List MV → List MV → List MV
  | x :: xs, y :: ys => .tup [x, y] :: pairs xs ys
  | _, _ => []
def MIt.fuel (it : MIt) (h : MH) : Nat := match it with
  | .items xs => xs.length
  | .lst n => ((lstAt h n).getD []).length
  | .enumL n => ((lstAt h n).getD []).length
  | .zipL n _ => ((lstAt h n).getD []).length
  | .keyZ n => match h[n]? with
    | some (.dZ kvs) => kvs.length
    | _ => 0
  | .itemZ n => match h[n]? with
    | some (.dZ kvs) => kvs.length
    | _ => 0
  | .itemU n => match h[n]? with
    | some (.dU kvs) => kvs.length
    | _ => 0
def IR (ww : World) (K : PySem.W.Frag) (mg : Str → Option Value) (r0 : List Addr) (H0 : Hp) (it : MIt) (J : It) : Prop := ∀ r h H (i : Nat), Post ww K mg r0 H0 r h H →
  (it.at h i = some none → J.stop i H) ∧ ∀ v, it.at h i = some (some v) → J.go i H ∧ ∀ x H', J.yld i H x H' → Post ww K mg r H r h H' ∧ Rep K mg r H' v x
def tMI (ww : World) (K : PySem.W.Frag) (mg : Str → Option Value) (W : WX) (m : MI) : TI := fun s H R => ∃ r sm h, HS ww K mg r h H ∧ SS K mg r H sm s ∧ Wt ww K mg (IR ww K mg) r H (fun c d H' => W c d s H') R (m sm h)
abbrev PIm (X : Cx) (W : WX) (tg iter : Expr) (m : MI) : Prop := PI X tg iter (tMI X.w X.K X.mg W m)
theorem _root_.L2.PI.mimp {X : Cx} {tg e : Expr} {t t' : TI} (h : PI X tg e t) (i : ∀ s H R, t' s H R → t s H R) : PI X tg e t' := ⟨fun pins s σ H R I q => h.run pins s σ H R I (i _ _ _ q)⟩

def forM (it : MIt) (g : MG) (b : MS) (n : Nat) : Nat → Sl → MH → SR :=
  Nat.rec (fun i s h => match it.at h i with
    | some none => .nx s h
    | _ => .stuck)
  (fun _ go i s h => match it.at h i with
    | some none => .nx s h
    | some (some v) => (g v s h).go fun s1 h1 => match b s1 h1 with
      | .nx s2 h2 => go (i + 1) s2 h2
      | .ct s2 h2 => go (i + 1) s2 h2
      | .bk s2 h2 => .nx s2 h2
      | o => o
    | none => .stuck) n
theorem forM_zero (it : MIt) (g : MG) (b : MS) (i : Nat) (s : Sl) (h : MH) : forM it g b 0 i s h = match it.at h i with
    | some none => .nx s h
    | _ => .stuck := rfl
theorem forM_succ (it : MIt) (g : MG) (b : MS) (n i : Nat) (s : Sl) (h : MH) : forM it g b (n + 1) i s h = match it.at h i with
    | some none => .nx s h
    | some (some v) => (g v s h).go fun s1 h1 => match b s1 h1 with
      | .nx s2 h2 => forM it g b n (i + 1) s2 h2
      | .ct s2 h2 => forM it g b n (i + 1) s2 h2
      | .bk s2 h2 => .nx s2 h2
      | o => o
    | none => .stuck := rfl
def sFor (mi : MI) (g : MG) (b : MS) : MS := fun s h => (mi s h).bindS s fun it h1 => forM it g b (it.fuel h1) 0 s h1
def whileM (t : MT) (b : MS) (n : Nat) : Sl → MH → SR :=
  Nat.rec (fun _ _ => .stuck) (fun _ go s h => (t s h).bindS s fun c h1 => if c then (match b s h1 with
      | .nx s2 h2 => go s2 h2
      | .ct s2 h2 => go s2 h2
      | .bk s2 h2 => .nx s2 h2
      | o => o) else .nx s h1) n
theorem whileM_succ (t : MT) (b : MS) (n : Nat) (s : Sl) (h : MH) : whileM t b (n + 1) s h = (t s h).bindS s fun c h1 => if c then (match b s h1 with
      | .nx s2 h2 => whileM t b n s2 h2
      | .ct s2 h2 => whileM t b n s2 h2
      | .bk s2 h2 => .nx s2 h2
      | o => o) else .nx s h1 := rfl
def bigF : Nat := 1000000000
def sWhile (t : MT) (b : MS) : MS := fun s h => whileM t b bigF s h
section
variable {X : Cx} {W : WX} {a b c e tg iter : Expr} {es : List Expr} {body : List Stmt} {mt : MT} {mb : MS} {mi : MI} {g : MG} {pos : Pos}
theorem ms_for (hp : PassesOwn (model X.prog X.w) X.A X.env X.xe) (hc : X.calm = true) (hi : PIm X W tg iter mi) (hg : PGm X tg g) (hb : PSsm X W body mb) (hfs : ∀ x, foldedSetIterable iter X.env x = pure x := by intro _; rfl) :
    PSm X W (.For tg iter body [] pos) (sFor mi g mb) := (ps_for hp hc hi hg hb hfs).mimp fun D s H ⟨r, sm, h, hs, ss, w⟩ => by
  refine ⟨r, sm, h, hs, ss, (WtS.bind (rel := IR X.w X.K X.mg) hs ss w).imp (fun _ _ _ z => z) fun J H1 ⟨r1, h1, it, p1, ir, w1⟩ => ?_⟩
  refine ⟨fun i m σ H' => ∃ r' sm' h', Post X.w X.K X.mg r1 H1 r' h' H' ∧ SS X.K X.mg r' H' sm' σ ∧ WtS X.w X.K X.mg W r' H' D (forM it g mb m i sm' h'), ⟨it.fuel h1, r1, sm, h1, Post.refl p1.hs, ss.post hs p1, w1⟩, ?_⟩
  rintro i m σ H' ⟨r', sm', h', p', ss', w'⟩
  obtain ⟨st, gs⟩ := ir r' h' H' i p'
  cases m with
  | zero =>
    rw [forM_zero] at w'
    split at w'
    · rename_i e
      exact .inl ⟨st e, WtS.nx p'.hs ss' w'⟩
    · exact w'.elim
  | succ m =>
    rw [forM_succ] at w'
    split at w'
    · rename_i e
      exact .inl ⟨st e, WtS.nx p'.hs ss' w'⟩
    · rename_i v e
      obtain ⟨go, yl⟩ := gs v e
      refine .inr ⟨go, fun σ2 H2 => ∃ r' sm' h', Post X.w X.K X.mg r1 H1 r' h' H2 ∧ SS X.K X.mg r' H2 sm' σ2 ∧ WtS X.w X.K X.mg W r' H2 D (forM it g mb m (i + 1) sm' h'), fun σ2 H2 z => ⟨m, Nat.lt_succ_self m, z⟩, fun x H2 y => ?_⟩
      obtain ⟨p2, q2⟩ := yl x H2 y
      refine ⟨r', sm', h', v, p2.hs, ss'.post p'.hs p2, q2, (WtS.goes (w'.post p2)).imp (fun _ _ _ z => z) fun s3 H3 ⟨r3, h3, sm3, p3, ss3, w3⟩ => ?_⟩
      refine ⟨r3, sm3, h3, p3.hs, ss3, ?_⟩
      have pp : Post X.w X.K X.mg r1 H1 r3 h3 H3 := (p'.trans p2).trans p3
      cases e4 : mb sm3 h3 with
      | nx s4 h4 => rw [e4] at w3; exact fun r4 s5 H4 p4 q4 => ⟨r4, s4, h4, pp.trans p4, q4, w3.post p4⟩
      | ct s4 h4 => rw [e4] at w3; exact fun r4 s5 H4 p4 q4 => ⟨r4, s4, h4, pp.trans p4, q4, w3.post p4⟩
      | bk s4 h4 => rw [e4] at w3; exact w3
      | rt v4 h4 => rw [e4] at w3; exact w3
      | err x4 s4 h4 => rw [e4] at w3; exact w3
      | stuck => rw [e4] at w3; exact w3
    · exact w'.elim
theorem ms_while (hp : PassesOwn (model X.prog X.w) X.A X.env X.xe) (hc : PTm X W c mt) (hb : PSsm X W body mb) : PSm X W (.While c body [] pos) (sWhile mt mb) := (ps_while hp hc hb).mimp fun D s H ⟨r, sm, h, hs, ss, w⟩ => by
  refine ⟨fun m σ H' => ∃ r' sm' h', HS X.w X.K X.mg r' h' H' ∧ SS X.K X.mg r' H' sm' σ ∧ WtS X.w X.K X.mg W r' H' D (whileM mt mb m sm' h'), ⟨bigF, r, sm, h, hs, ss, w⟩, ?_⟩
  rintro m σ H' ⟨r', sm', h', hs', ss', w'⟩
  cases m with
  | zero => exact w'.elim
  | succ m =>
    rw [whileM_succ] at w'
    refine tMT_bindS hs' ss' w' fun r1 h1 v H1 hs1 ss1 p1 w1 => ?_
    cases v with
    | false => exact iteF (WtS.nx hs1 ss1 w1)
    | true =>
      refine iteT ⟨fun σ2 H2 => ∃ r' sm' h', HS X.w X.K X.mg r' h' H2 ∧ SS X.K X.mg r' H2 sm' σ2 ∧ WtS X.w X.K X.mg W r' H2 D (whileM mt mb m sm' h'), fun σ2 H2 z => ⟨m, Nat.lt_succ_self m, z⟩, r1, sm', h1, hs1, ss1, ?_⟩
      cases e4 : mb sm' h1 with
      | nx s4 h4 => simp only [e4] at w1; exact fun r4 s5 H4 p4 q4 => ⟨r4, s4, h4, p4.hs, q4, WtS.post p4 w1⟩
      | ct s4 h4 => simp only [e4] at w1; exact fun r4 s5 H4 p4 q4 => ⟨r4, s4, h4, p4.hs, q4, WtS.post p4 w1⟩
      | bk s4 h4 => simp only [e4] at w1; exact w1
      | rt v4 h4 => simp only [e4] at w1; exact w1
      | err x4 s4 h4 => simp only [e4] at w1; exact w1
      | stuck => simp only [e4] at w1; exact w1
theorem ir_items {ww : World} {K : PySem.W.Frag} {mg : Str → Option Value} {r0 : List Addr} {h0 : MH} {H0 : Hp} {vs : List MV} {J : It} {n : Nat} {ys : Nat → Option V} (hs : HS ww K mg r0 h0 H0) (hn : vs.length = n)
    (hgo : ∀ (i : Nat) H, i < n → Kp K H0 H → J.go i H) (hst : ∀ (i : Nat) H, n ≤ i → Kp K H0 H → J.stop i H)
    (hy : ∀ (i : Nat) H x H' v, Kp K H0 H → J.yld i H x H' → vs[i]? = some v → H' = H ∧ Rep K mg r0 H0 v x) : IR ww K mg r0 H0 (.items vs) J := fun r h H i p => by
  refine ⟨fun e => hst i H ?_ (p.kp hs), fun v e => ?_⟩
  · have : vs[i]? = none := by simpa [MIt.at] using e
    rw [← hn]
    exact List.getElem?_eq_none_iff.mp this
  · have e' : vs[i]? = some v := by simpa [MIt.at] using e
    refine ⟨hgo i H (by rw [← hn]; exact (List.getElem?_eq_some_iff.mp e').1) (p.kp hs), fun x H' y => ?_⟩
    obtain ⟨rfl, q⟩ := hy i H x H' v (p.kp hs) y e'
    exact ⟨Post.refl p.hs, p.rep hs q⟩
def jSeq (a : ME) : MI := fun s h => (a s h).bind fun x h1 => match x with
  | .ref n => match lstAt h1 n with
    | some _ => .ok (.lst n) h1
    | none => .stuck
  | .tup xs => .ok (.items xs) h1
  | .str l => .ok (.items (l.map fun c => .str [c])) h1
  | .ro xs => .ok (.items xs) h1
  | .lv xs => .ok (.items xs) h1
  | _ => .stuck
theorem post_list {ww : World} {K : PySem.W.Frag} {mg : Str → Option Value} {r0 r : List Addr} {h : MH} {H0 H : Hp} {n : Nat} {p : Addr} {xs : List MV} (po : Post ww K mg r0 H0 r h H) (e : r0[n]? = some p) (l : lstAt h n = some xs) : ∃ ys, SqL K H p ys ∧ RepL K mg r H xs ys :=
  po.hs.list (po.ix _ _ e) l
theorem ir_lst {ww : World} {K : PySem.W.Frag} {mg : Str → Option Value} {r0 : List Addr} {H0 : Hp} {n : Nat} {p : Addr} (e : r0[n]? = some p) : IR ww K mg r0 H0 (.lst n) (Itl K p) := fun r h H i po => by
  refine ⟨fun q => ?_, fun v q => ?_⟩
  · simp only [MIt.at, Option.map_eq_some_iff] at q
    obtain ⟨xs, l, q⟩ := q
    obtain ⟨ys, sq, ql⟩ := post_list po e l
    exact ⟨ys, sq, by rw [← ql.length]; exact List.getElem?_eq_none_iff.mp q⟩
  · simp only [MIt.at, Option.map_eq_some_iff] at q
    obtain ⟨xs, l, q⟩ := q
    obtain ⟨ys, sq, ql⟩ := post_list po e l
    obtain ⟨y, e1, q1⟩ := ql.get q
    refine ⟨⟨ys, y, sq, e1⟩, fun x H' yl => ?_⟩
    obtain ⟨rfl, yl⟩ := yl
    have := yl ys sq
    rw [e1] at this
    cases this
    exact ⟨Post.refl po.hs, q1⟩
theorem mi_seq {ma : ME} (ha : PEm X W e ma) : PIm X W tg e (jSeq ma) := by
  refine ⟨fun pins s0 σ H Rr I hh => ?_⟩
  obtain ⟨r, sm, h, hs, ss, w⟩ := hh
  cases ea : ma sm h with
  | stuck => simp only [jSeq, ea, R.bind] at w; exact w.elim
  | err x h1 =>
    refine (pi_list ha).run pins s0 σ H Rr I ⟨r, sm, h, hs, ss, ?_⟩
    simp only [jSeq, ea, R.bind] at w
    rw [ea]
    exact w
  | ok v h1 =>
    simp only [jSeq, ea, R.bind] at w
    cases v with
    | ref n =>
      refine (pi_list ha).run pins s0 σ H Rr I ⟨r, sm, h, hs, ss, ?_⟩
      rw [ea]
      intro r1 H1 x p1 q1
      dsimp only at w
      split at w
      · rename_i xs l
        cases q1 with
        | ref en =>
          obtain ⟨ys, sq, ql⟩ := p1.hs.list en l
          exact ⟨_, rfl, ⟨ys, sq⟩, w r1 H1 _ p1 (ir_lst en)⟩
      · exact w.elim
    | tup xs =>
      refine (pi_tup ha).run pins s0 σ H Rr I ⟨r, sm, h, hs, ss, ?_⟩
      rw [ea]
      intro r1 H1 x p1 q1
      cases q1 with
      | tup sq ql =>
        rename_i a ys
        refine ⟨_, rfl, ⟨ys, sq⟩, w r1 H1 _ p1 (ir_items (n := ys.length) (ys := fun i => ys[i]?) p1.hs ql.length (fun i H' hi st => ⟨ys, ys[i], st.t _ _ sq, by simp [hi]⟩) (fun i H' hi st => ⟨ys, st.t _ _ sq, hi⟩) fun i H' x H2 v st yl e => ?_)⟩
        obtain ⟨rfl, yl⟩ := yl
        obtain ⟨y, e1, q2⟩ := ql.get e
        have := yl ys (st.t _ _ sq)
        rw [e1] at this
        cases this
        exact ⟨rfl, q2⟩
    | str l =>
      refine (pi_str ha).run pins s0 σ H Rr I ⟨r, sm, h, hs, ss, ?_⟩
      rw [ea]
      intro r1 H1 x p1 q1
      cases q1
      refine ⟨_, rfl, w r1 H1 _ p1 (ir_items (n := l.length) (ys := fun _ => none) p1.hs (by simp) (fun i H' hi st => (by simpa [S] using hi : i < (S l).cps.size)) (fun i H' hi st => (by simpa [S] using hi : (S l).cps.size ≤ i)) fun i H' x H2 v st yl e => ?_)⟩
      obtain ⟨rfl, c, e1, rfl⟩ := yl
      refine ⟨rfl, ?_⟩
      rw [List.getElem?_map] at e
      have e2 : l[i]? = some c := by simpa [S] using e1
      rw [e2] at e
      cases e
      exact .str [c]
    | ro xs =>
      refine (pi_list ha).run pins s0 σ H Rr I ⟨r, sm, h, hs, ss, ?_⟩
      rw [ea]
      intro r1 H1 x p1 q1
      cases q1 with
      | ro sq ql =>
        rename_i a ys
        refine ⟨_, rfl, ⟨ys, sq.sq⟩, w r1 H1 _ p1 (ir_items (n := ys.length) (ys := fun i => ys[i]?) p1.hs ql.length (fun i H' hi st => ⟨ys, ys[i], (st.l _ _ sq).sq, by simp [hi]⟩) (fun i H' hi st => ⟨ys, (st.l _ _ sq).sq, hi⟩) fun i H' x H2 v st yl e => ?_)⟩
        obtain ⟨rfl, yl⟩ := yl
        obtain ⟨y, e1, q2⟩ := ql.get e
        have := yl ys (st.l _ _ sq).sq
        rw [e1] at this
        cases this
        exact ⟨rfl, q2⟩
    | lv xs =>
      refine (pi_list ha).run pins s0 σ H Rr I ⟨r, sm, h, hs, ss, ?_⟩
      rw [ea]
      intro r1 H1 x p1 q1
      cases q1 with
      | lv sq ql =>
        rename_i a ys
        refine ⟨_, rfl, ⟨ys, sq.sq⟩, w r1 H1 _ p1 (ir_items (n := ys.length) (ys := fun i => ys[i]?) p1.hs ql.length (fun i H' hi st => ⟨ys, ys[i], (st.z _ _ sq).sq, by simp [hi]⟩) (fun i H' hi st => ⟨ys, (st.z _ _ sq).sq, hi⟩) fun i H' x H2 v st yl e => ?_)⟩
        obtain ⟨rfl, yl⟩ := yl
        obtain ⟨y, e1, q2⟩ := ql.get e
        have := yl ys (st.z _ _ sq).sq
        rw [e1] at this
        cases this
        exact ⟨rfl, q2⟩
    | _ => exact w.elim
def upTo (lo : Int) (n : Nat) : List MV := (List.range n).map fun (i : Nat) => .int (lo + (i : Int))
def jRng1 (a : MA) : MI := fun s h => (a s h).bind fun xs h1 => match xs with
  | [.int j] => if -(2 ^ 62) ≤ j ∧ j < 2 ^ 62 then .ok (.items (upTo 0 j.toNat)) h1 else .stuck
  | _ => .stuck
def jRng2 (a : MA) : MI := fun s h => (a s h).bind fun xs h1 => match xs with
  | [.int i, .int j] => if -(2 ^ 62) ≤ i ∧ i < 2 ^ 62 ∧ -(2 ^ 62) ≤ j ∧ j < 2 ^ 62 then .ok (.items (upTo i (j - i).toNat)) h1 else .stuck
  | _ => .stuck
theorem upTo_get {lo : Int} {n i : Nat} {v : MV} (h : (upTo lo n)[i]? = some v) : v = .int (lo + (i : Int)) := by
  unfold upTo at h
  rw [List.getElem?_map] at h
  cases e : (List.range n)[i]? with
  | none => rw [e] at h; cases h
  | some k =>
    rw [e] at h
    have : k = i := by
      have := List.getElem?_eq_some_iff.mp e
      obtain ⟨_, q⟩ := this
      simpa using q.symm
    subst this
    exact (Option.some.inj h).symm
theorem ir_rng {ww : World} {K : PySem.W.Frag} {mg : Str → Option Value} {r0 : List Addr} {h0 : MH} {H0 : Hp} {lo : Int} {n : Nat} (hs : HS ww K mg r0 h0 H0) : IR ww K mg r0 H0 (.items (upTo lo n)) (Itr lo n) :=
  ir_items (n := n) (ys := fun _ => none) hs (by simp [upTo]) (fun i H hi _ => hi) (fun i H hi _ => hi) fun i H x H' v _ yl e => by
    obtain ⟨rfl, rfl⟩ := yl
    rw [upTo_get e]
    exact ⟨rfl, .int _⟩
theorem mi_range1 {ms : MA} {p : Pos} (hg : Gl X "range") (hm : X.mg "range" = none) (ha : PAm X W [a] ms) (hst : starEach [a] X.env = [(false, eval a X.env)] := by rfl) : PIm X W tg (.Call (.Name "range" p) [a] [] pos) (jRng1 ms) := (pi_range1 hg hm ha hst).mimp fun s H Rr ⟨r, sm, h, hs, ss, w⟩ =>
  tMA_bind hs ss w fun r1 h1 vs xs H1 hs1 ss1 p1 q1 w1 => by
    split at w1
    · rename_i j
      split at w1
      · rename_i hl
        match xs, q1 with
        | [_], .cons q .nil => cases q; exact ⟨j, rfl, hl.1, hl.2, w1 r1 H1 _ (Post.refl hs1) (ir_rng hs1)⟩
      · exact w1.elim
    · exact w1.elim
theorem mi_range2 {ms : MA} {p : Pos} (hg : Gl X "range") (hm : X.mg "range" = none) (ha : PAm X W [a, b] ms) (hst : starEach [a, b] X.env = [(false, eval a X.env), (false, eval b X.env)] := by rfl) (hst2 : starEach [b] X.env = [(false, eval b X.env)] := by rfl) : PIm X W tg (.Call (.Name "range" p) [a, b] [] pos) (jRng2 ms) := (pi_range2 hg hm ha hst hst2).mimp fun s H Rr ⟨r, sm, h, hs, ss, w⟩ =>
  tMA_bind hs ss w fun r1 h1 vs xs H1 hs1 ss1 p1 q1 w1 => by
    split at w1
    · rename_i i j
      split at w1
      · rename_i hl
        match xs, q1 with
        | [_, _], .cons q (.cons q' .nil) => cases q; cases q'; exact ⟨i, j, rfl, hl, w1 r1 H1 _ (Post.refl hs1) (ir_rng hs1)⟩
      · exact w1.elim
    · exact w1.elim
end
end MP

end
section
namespace MP
open PySem PySem.Spec PyProof.Rows L2
theorem RoomG.deeper {k : Nat} {A : Around} (r : RoomG (k + 1) A) (env : Env) : RoomG k (A.deeper env) := ⟨r.toRoom.deeper env, r.gd⟩
theorem RoomG.units {k : Nat} {A : Around} (r : RoomG k A) : A.units + 64 < cLine := r.toRoom.units
theorem noGuard_make (C : Addr) (us : List Value) (kw : List (Str × Value)) : (Code.builtin "type.__call__" ⟨.ref C :: us, kw⟩).isGuard = false := by
  show guardIds.contains "type.__call__" = false
  decide +kernel
theorem RoomG.make {k : Nat} {A : Around} (r : RoomG (k + 1) A) (C : Addr) (us : List Value) (kw : List (Str × Value)) : RoomG k (A.under (.builtin "type.__call__" ⟨.ref C :: us, kw⟩)) :=
  ⟨r.toRoom.make C us kw, by simp [Around.under, Code.guards, noGuard_make, pushGuards, r.gd]⟩
section
variable {P : Program} {w : World} {K : PySem.W.Frag} {mg : Str → Option Value} {base : Heap} {C : CXT} {j k : Nat} {f : Addr} {fd : FuncData} {ps : List Str} {sp sp' : Sp}
theorem fnG_of {x qual : Str} {params : Arguments} {body : List Stmt} {scope : Scope} {dvs : List V} {kws : List (Str × V)} {N : List Str} (F : FunD K x qual params body scope dvs kws f fd) (sc : FnScope N ps scope) (len : ∀ vs H Q E, sp vs H Q E → vs.length = ps.length)
    (hb : ∀ (cdv : Value) (hcd : fd.code = cdv) (A : Around) (outer : List Env) (s : Shared) (H : Hp) (vs : List V) (Q : VK) (E : XK), RoomG k (A.deeper (envOfC qual scope s.heap.objs.size f cdv)) → sp vs H Q E →
      ∃ t, PSs (cxOf C P w K mg base N qual scope f cdv A outer s H E) body t ∧ t { nx := fun _ H' => Q .non H', rt := Q } (L2.start N vs) H) : FnG P w K mg base C (k + 1) f fd ps sp := by
  obtain ⟨oc, od, dV, kV, doc, pm, an, cdv, ct, osl, rfl, lk, hcd, _, _⟩ := F.ex
  refine ⟨len, fun A outer s H args us vs Q E hr e0 bd rv hsp => ?_⟩
  have keep : ∀ b o, base.get? b = some o → s.heap.get? b = some o := fun b o e => (e0.bs b o e).1
  have kin := e0.mod.kin.keeps keep
  refine codeAny_call_function hr.toRoom.depth (kin _ _ lk) rfl sc.co sc.gen rfl (PySem.W.codeRec_of kin hcd) (bd _ _ _ _ ?_)
  refine wpAny_newFunctionEnv_cells sc.kind (fun y hy => ?_) fun env he s1 x => ?_
  · obtain ⟨n, v⟩ := y
    cases sc.par n (List.of_mem_zip hy).1 with
    | inl q => exact .inl q
    | inr q => exact .inr ⟨q, PySem.W.cellsFrom_some _ _ _ (.inl q)⟩
  · subst he
    refine ⟨(e0.mod.nolimit.keeps keep).keeps x.toInCall.keep, codeAny_func ?_⟩
    obtain ⟨t, ht, hq⟩ := hb cdv rfl A outer s H vs Q E (hr.deeper _) hsp
    refine wpAny_mono (ht.run [] s1 _ H _ (inv_start sc hr.hd e0 (len _ _ _ _ hsp) rv x) hq) (fun fl s' z => ?_) fun _ _ z => z
    cases fl with
    | ret u => obtain ⟨v, σ', H', J, ru, q⟩ := z; exact ⟨v, H', J.os, J.bare, J.base, J.hok, ru, q⟩
    | next => obtain ⟨σ', H', J, q⟩ := z; exact ⟨V.non, H', J.os, J.bare, J.base, J.hok, rfl, q⟩
    | brk => exact z.elim fun _ z => z.elim fun _ z => z.2.elim
    | cont => exact z.elim fun _ z => z.elim fun _ z => z.2.elim
end
section
variable {X : Cx} {C : CXT} {k : Nat} {f : Addr} {fd : FuncData} {ps : List Str} {sp : Sp} {E : XK} {pins : List (Addr × Obj)} {σ : L2.St} {H : Hp} {s : Shared} {Q : VK} {us : List Value} {vs : List V}
theorem runG (F : FnG X.prog X.w X.K X.mg X.base C k f fd ps sp) (hr : RoomG k X.A) (hb : Binds X.K fd ps []) (hx : PassesAt C X σ E) (I : L2.Inv X pins σ H s) (r : Vals vs us) (h : sp vs H Q E) : wpAny (model X.prog X.w) X.A (call (.ref f) us) (EP X pins σ Q) X.xe s := by
  have bd := hb s us I.kIn (by rw [List.append_nil, ← r.length]; exact F.len _ _ _ _ h)
  rw [List.append_nil] at bd
  refine wpAny_call (codeAny_mono (F.run X.A X.stack s H ⟨us, []⟩ us vs Q E hr I.env0 bd r h) fun z s' q => ?_)
  cases z with
  | error e => exact hx pins H s e s' I q
  | ok fl => cases fl with
    | ret u => exact I.after q
    | _ => exact False.elim q
end
theorem tabs3_mem {K : PySem.W.Frag} {p : Addr × Addr × Str} (h : p ∈ tabs3 K) : K.lookup p.2.1 = none ∧ PySem.W.codeHdIn K p.1 p.2.1 = true := by
  obtain ⟨z, _, e⟩ := List.mem_filterMap.mp h
  split at e
  · split at e
    · rename_i c
      cases e
      rw [Bool.and_eq_true, Option.isNone_iff_eq_none] at c
      exact c
    · cases e
  · cases e
def hp0 (K : PySem.W.Frag) (a : Addr) (u : HO) : Hp := fun b => if b ∈ tabA K then some (.tbl #[]) else if b = a ∧ K.lookup a = none then some u else none
theorem hp0_cases (K : PySem.W.Frag) (a : Addr) (u : HO) (b : Addr) : hp0 K a u b = none ∨ (b ∈ tabA K ∧ hp0 K a u b = some (.tbl #[])) ∨ (b = a ∧ K.lookup a = none ∧ hp0 K a u b = some u) := by
  unfold hp0
  split
  · exact .inr (.inl ⟨‹_›, rfl⟩)
  · split
    · rename_i z; exact .inr (.inr ⟨z.1, z.2, rfl⟩)
    · exact .inl rfl
theorem hp0_tabs {K : PySem.W.Frag} {a : Addr} {u : HO} : LamX.Tabs (tabsK K) (hp0 K a u) := fun p hp => by
  obtain ⟨t, ht, rfl⟩ := List.mem_map.mp hp
  exact LamX.TabS.nil (if_pos (List.mem_map.mpr ⟨t, ht, rfl⟩))
abbrev BMain (mg : Str → Option Value) (h : Heap) : Prop := ∃ (bm : Addr) (ob : Obj), mg "__builtins__" = some (.ref bm) ∧ bm ≠ builtinsNs ∧ h.get? bm = some ob ∧ ob.cls = .type "module" ∧ ob.dict = some builtinsNs ∧ ob.data = .plain
theorem law_callG {P : Program} {w : World} {K : PySem.W.Frag} {mg mb : Str → Option Value} {C : CXT} {k : Nat} {fa a : Addr} {fd : FuncData} {x : Str} {sp : Sp} {s : Shared} {vs : List Value} {ns : List Int}
    (kin : K.In s.heap) (glob : s.heap.Ns mainGlobals mg) (blt : s.heap.Ns builtinsNs mb) (boot : ∀ x : Str, x ≠ "__name__" → mb x = bootBuiltins x) (lim : s.heap.NoLimit) (gens : s.gens = #[])
    (tE : ∀ b ∈ tabA K, s.heap.get? b = some tabO) (bmn : BMain mg s.heap)
    (ha : s.heap.get? a = some { cls := .type "list", data := .seq vs.toArray }) (hi : IntsAre vs ns) (hl : ns.length ≤ sizeLine) (hr : RoomG k callerA)
    (F : ∀ base : Heap, K.In base → base.Ns mainGlobals mg → TabsB K mg base → FnG P w K mg base C k fa fd [x] sp) (bind : ∀ (s : Shared) (u : Value), BindsTo s fd ⟨[u], []⟩ [(x, u)])
    (hsp : ∀ H : Hp, LamX.Tabs (tabsK K) H → RoL K H a (ns.map V.int) → sp [.ref a] H (fun v _ => v = .bl true) fun _ _ _ => False) (hC : ∀ H e s', C [] H s (fun _ _ _ => False) e s' → False) :
    codeAny (model P w) callerA (.call (.ref fa) ⟨[.ref a], []⟩) (fun r s' => r = .ok (.ret (.bool true)) ∧ OldK s.heap s'.heap ∧ s'.os = s.os ∧ AllBare s'.gens) s := by
  have rv := vals_ints hi
  obtain ⟨u, hu⟩ : ∃ u : HO, u = .frz { cls := .type "list", data := .seq vs.toArray } (.lst (ns.map V.int)) := ⟨_, rfl⟩
  have ro : RoL K (hp0 K a u) a (ns.map V.int) := by
    have na : a ∉ tabA K := fun z => by have q := tE a z; rw [ha] at q; cases q
    cases hk : K.lookup a with
    | some o =>
      have e := kin a o hk
      rw [ha] at e
      cases e
      exact .inr ⟨_, vs.toArray, _, hk, rfl, rfl, rfl, by rw [List.size_toArray, hi.length]; exact hl, by simpa using rv⟩
    | none => exact .inl ⟨_, by unfold hp0; rw [if_neg na, if_pos ⟨rfl, hk⟩, hu]⟩
  have free {b : Addr} {o : Obj} (e : s.heap.get? b = some o) (n1 : ∀ xs n, o.data ≠ .seq xs n) (n2 : o.data ≠ .fields #[]) : hp0 K a u b = none := by
    rcases hp0_cases K a u b with z | ⟨z, _⟩ | ⟨z, _⟩
    · exact z
    · rw [tE b z] at e; cases e; exact absurd rfl n2
    · rw [z, ha] at e; cases e; exact absurd rfl (n1 _ _)
  have ns' {b : Addr} {m : Str → Option Value} : s.heap.Ns b m → (hidT s.heap (hp0 K a u)).Ns b m := fun ⟨o, es, ep, e, d, r⟩ =>
    ⟨o, es, ep, hidT_get e (free e (fun _ _ z => by rw [d] at z; cases z) fun z => by rw [d] at z; cases z), d, r⟩
  have kin' : K.In (hidT s.heap (hp0 K a u)) := fun b o e => hidT_get (kin b o e) (by
    rcases hp0_cases K a u b with z | ⟨z, _⟩ | ⟨z, y, _⟩
    · exact z
    · obtain ⟨t, ht, rfl⟩ := List.mem_map.mp z; rw [(tabs3_mem ht).1] at e; cases e
    · rw [z, y] at e; cases e)
  have apart {b : Addr} (hb : b ∈ tabA K) {c : Addr} {o : Obj} (e : s.heap.get? c = some o) (n2 : o.data ≠ .fields #[]) : c ≠ b := fun z => by
    rw [z, tE b hb] at e; cases e; exact n2 rfl
  have tabs : TabsB K mg (hidT s.heap (hp0 K a u)) := fun p hp => by
    have hb : p.2.1 ∈ tabA K := List.mem_map.mpr ⟨p, hp, rfl⟩
    obtain ⟨bm, ob, b1, b2, b3, b4, b5, b6⟩ := bmn
    obtain ⟨og, es, ep, eg, dg, _⟩ := id glob
    have nd : ob.data ≠ .fields #[] := fun z => by rw [b6] at z; cases z
    refine ⟨PySem.W.codeHd_of_K kin' (tabs3_mem hp).2, ⟨bm, ob, b1, b2, fun z => ?_, apart hb b3 nd, hidT_get b3 (free b3 (fun _ _ z => by rw [b6] at z; cases z) nd), b4, b5, b6⟩, apart hb eg fun z => by rw [dg] at z; cases z⟩
    rw [z, eg] at b3
    cases b3
    rw [dg] at b6
    cases b6
  have ok : HOk P w (hp0 K a u) s.heap := fun b v e => by
    rcases hp0_cases K a u b with z | ⟨z, y⟩ | ⟨z, _, y⟩
    · rw [z] at e; cases e
    · rw [y] at e; cases e; exact tE b z
    · rw [y, hu] at e; cases e; rw [z]; exact ⟨ha, by rw [List.length_map]; exact hl, vs, _, rv, ha⟩
  obtain ⟨mc, l1, l2⟩ := lim
  have e0 : Env0 P w K mg (hidT s.heap (hp0 K a u)) callerA [] s (hp0 K a u) := ⟨rfl, ⟨kin', ns' glob, ⟨mb, ns' blt, boot⟩, ⟨mc, ns' l1, l2⟩⟩, fun b o e => of_hidT e, Nat.le_of_eq (hidT_size _ _), trivial, (fun b hb => nomatch (show b ∈ ([] : List Addr) from hb)), ok, .of_eq gens⟩
  refine codeAny_mono ((F _ kin' (ns' glob) tabs).run callerA [] s _ ⟨[.ref a], []⟩ [.ref a] [.ref a] _ _ hr e0 (bind s (.ref a)) (.cons rfl .nil) (hsp _ hp0_tabs ro)) fun r s' z => ?_
  rcases r with e | fl
  · exact (hC _ e s' z).elim
  cases fl
  case ret v =>
    obtain ⟨_, H', os, bare, un, ok', rv', rfl⟩ := z
    cases (show v = Value.bool true from rv')
    have was (b : Addr) (o : Obj) (e : s.heap.get? b = some o) : s'.heap.get? b = some o ∨ (b ∈ tabA K ∧ o = tabO ∧ ∃ more, s'.heap.get? b = some { cls := .none, data := .fields more }) := by
      rcases hp0_cases K a u b with z | ⟨z, y⟩ | ⟨z, _, y⟩
      · exact .inl (un.keep b o e z (fun m => nomatch (show b ∈ ([] : List Addr) from m)) (fun m => nomatch m))
      · obtain ⟨more, q⟩ := un.tbls b #[] y
        rw [tE b z] at e
        cases e
        exact .inr ⟨z, rfl, _, ok' b _ q⟩
      · rw [z, ha] at e
        cases e
        rw [z] at y ⊢
        exact .inl (ok' a _ (un.frzs a _ _ (y.trans (congrArg some hu)))).1
    refine ⟨rfl, ⟨fun b o e => ?_, fun b o e => ?_⟩, os, bare⟩
    · rcases was b o e with q | ⟨hb, rfl, more, q⟩
      · exact .inl q
      · obtain ⟨t, ht, rfl⟩ := List.mem_map.mp hb
        exact .inr (.inl ⟨((PySem.W.codeHd_of_K kin (tabs3_mem ht).2).tab (tE _ hb)).isCodeTable, rfl, #[], more, rfl, by rw [Array.empty_append]; exact q⟩)
    · rcases was b o e with q | ⟨_, _, _, q⟩
      · exact ⟨_, q⟩
      · exact ⟨_, q⟩
  all_goals exact z.elim
end MP

end
section
namespace MP
open PySem PySem.Spec PyProof.Rows L2

def runFn (n : Nat) (b : MS) (as : List MV) (h : MH) : R MV := match b (as.map some ++ List.replicate (n - as.length) none) h with
  | .rt v h' => .ok v h'
  | .nx _ h' => .ok .non h'
  | .err e _ h' => .err e h'
  | _ => .stuck
abbrev WF (E : XK) : WX := fun cls d _ H => E cls d H
section
variable {P : Program} {w : World} {K : PySem.W.Frag} {mg : Str → Option Value} {base : Heap}
theorem SS.start {r : List Addr} {H : Hp} {N : List Str} {as : List MV} {vs : List V} (q : RepL K mg r H as vs) : SS K mg r H (as.map some ++ List.replicate (N.length - as.length) none) (L2.start N vs) := by
  have hl := q.length
  refine ⟨by simp [L2.start, hl], fun i v e => ?_⟩
  by_cases hi : i < as.length
  · rw [List.getElem?_append_left (by simpa using hi), List.getElem?_map] at e
    cases e1 : as[i]? with
    | none => rw [e1] at e; cases e
    | some u =>
      rw [e1] at e
      cases e
      obtain ⟨x, e2, q2⟩ := q.get e1
      refine ⟨x, ?_, q2⟩
      unfold L2.start
      rw [List.getElem?_append_left (by simpa [← hl] using hi), List.getElem?_map, e2]
      rfl
  · rw [List.getElem?_append_right (by simpa using hi)] at e
    have := List.mem_of_getElem? e
    have := (List.mem_replicate.mp this).2
    cases this
end
def eCall (np : Nat) (m : MF) (a : MA) : ME := fun s h => (a s h).bind fun xs h1 => if xs.length = np then m xs h1 else .stuck
def noF (f : CP) : List (CP × MV) → Bool
  | [] => true
  | p :: r => p.1 != f && noF f r
def eMeth (c x : CP) (np : Nat) (m : MF) (o : ME) (a : MA) : ME := fun s h => (o s h).bind fun y h1 => match y with
  | .ref n => match h1[n]? with
    | some (.ins c' fs) => if c' == c && noF x fs then (a s h1).bind fun xs h2 => if xs.length + 1 = np then m (.ref n :: xs) h2 else .stuck else .stuck
    | _ => .stuck
  | _ => .stuck
def eMake (c : CP) (np : Nat) (m : MF) (a : MA) : ME := fun s h => (a s h).bind fun xs h1 => if xs.length + 1 = np then (m (.ref h1.length :: xs) (h1 ++ [.ins c []])).bind fun v h2 => (match v with
    | .non => .ok (.ref h1.length) h2
    | _ => .stuck) else .stuck
theorem RepF.noF {K : PySem.W.Frag} {mg : Str → Option Value} {r : List Addr} {H : Hp} {x : CP} : ∀ {fs : List (CP × MV)} {ys : List (Str × V)}, RepF K mg r H fs ys → noF x fs = true → ys.lookup (S x) = none
  | _, _, .nil, _ => rfl
  | _, _, .cons (a := p) (b := q) e t, h => by
    simp only [MP.noF, Bool.and_eq_true, bne_iff_ne, ne_eq] at h
    obtain ⟨y, z⟩ := q
    have e1 : y = S p.1 := e.1
    have hne : (S x == y) = false := by
      rw [beq_eq_false_iff_ne, e1]
      exact fun z => h.1 (S_inj z).symm
    rw [List.lookup_cons, hne]
    exact RepF.noF t h.2
section
variable {X : Cx} {W : WX} {e o : Expr} {es : List Expr} {mo : ME} {ms : MA} {k j np : Nat} {m : MF} {x c : Str} {p pos apos : Pos}
abbrev PlainArgs (X : Cx) (e : Expr) (es : List Expr) (pos : Pos) : Prop := starEach (e :: es) X.env = (false, eval e X.env) :: starEach es X.env ∧ (backTo pos (starEach es X.env)).any Prod.fst = false
abbrev ReadsM (X : Cx) (o : Expr) (x : Str) (as : List Expr) (apos pos : Pos) (pl : Sem Bool) : Prop :=
  eval (.Call (.Attribute o x apos) as [] pos) X.env = (eval o X.env >>= fun ov => standAt apos.atName >>= fun _ => holding [ov] (getMethod ov x pl) >>= fun mf =>
    callWith pos mf.1 mf.2 (backTo pos (starEach as X.env)) (backToKw pos (keywordEach [] X.env)))
theorem by_name {pins : List (Addr × Obj)} {σ : L2.St} {H : Hp} {s : Shared} {Q : Value → Shared → Prop} {as : List Expr} {f : Addr} (I : L2.Inv X pins σ H s) (hg : Gl X x) (hm : X.mg x = some (.ref f)) (hdb : (x == ("__debug__" : Str)) = false)
    (h : wpAny (model X.prog X.w) X.A (callWith pos (.ref f) [] (backTo pos (starEach as X.env)) (backToKw pos (keywordEach [] X.env))) Q X.xe s) : wpAny (model X.prog X.w) X.A (eval (.Call (.Name x p) as [] pos) X.env) Q X.xe s := wpAny_Call_Name_kw (ld_glob I hg hm h hdb)
theorem me_call (F : Fn X.prog X.w X.K X.mg X.base x j np m) (tk : Takes X W) (hr : RoomG k X.A) (hg : Gl X x) (ha : PAm X W (e :: es) ms) (hjk : j ≤ k := by decide) (hdb : (x == ("__debug__" : Str)) = false := by decide)
    (he : starEach (e :: es) X.env = (false, eval e X.env) :: starEach es X.env := by rfl) (hpl : (backTo pos (starEach es X.env)).any (·.1) = false := by rfl) : PEm X W (.Call (.Name x p) (e :: es) [] pos) (eCall np m ms) := by
  obtain ⟨f, fd, ps, hn, F, hm, hk, hb⟩ := F.ex
  refine ⟨fun pins s σ H Q I hh => ?_⟩
  obtain ⟨r, sm, h, hs, ss, w⟩ := hh
  refine by_name I hg hm hdb ?_
  refine PySem.W.callWith_K (h₀ := X.base) I.ok.mod.kin hk (thn (ha.run pos pins s σ H _ I (tMA_bind (Q' := fun vs H2 => spM X.w X.K X.mg ps.length m vs H2 Q (WE W σ)) hs ss w fun r1 h1 vs xs H1 hs1 ss1 p1 q1 w1 => ?_)) fun us s1 ⟨vs, H1, I1, rr, q⟩ => ⟨I1.kIn, ?_⟩) he hpl
  · split at w1
    · rename_i hl
      exact ⟨by rw [← q1.length, hl, hn], r1, h1, vs, hs1, q1, w1⟩
    · exact w1.elim
  · exact runG F (hr.mono hjk) hb (passAt tk σ) I1 rr q
theorem ins_of {r : List Addr} {h : MH} {H : Hp} {n : Nat} {a : Addr} {c : CP} {fs : List (CP × MV)} (hs : HS X.w X.K X.mg r h H) (e : r[n]? = some a) (ho : h[n]? = some (.ins c fs)) {C : Addr} (hC : X.mg (S c) = some (.ref C)) :
    ∃ dx ys, H a = some (.ins C dx ys) ∧ RepF X.K X.mg r H fs ys := by
  obtain ⟨C', dx, ys, m, e1, q⟩ := hs.lookup e ho
  rw [hC] at m
  cases m
  exact ⟨dx, ys, e1, q⟩
theorem me_meth {cc xx : CP} {pl : Sem Bool} (F : Mt X.prog X.w X.K X.mg X.base (S cc) (S xx) j np m) (tk : Takes X W) (hr : RoomG k X.A) (ho : PEm X W o mo) (ha : PAm X W (e :: es) ms) (hxx : x = S xx := by decide +kernel) (hjk : j ≤ k := by decide)
    (pn : PlainArgs X e es pos := by exact ⟨rfl, rfl⟩) (ht : ReadsM X o x (e :: es) apos pos pl := by rfl) :
    PEm X W (.Call (.Attribute o x apos) (e :: es) [] pos) (eMeth cc xx np m mo ms) := by
  subst hxx
  obtain ⟨C, f, fd, ps, hn, F, hm, hc, hme, hb⟩ := F.ex
  refine ⟨fun pins s σ H Q I hh => ?_⟩
  obtain ⟨r, sm, h, hs, ss, w⟩ := hh
  refine PySem.W.methodCall_KW (pl := pl) (thn (ho.run pins s σ H _ I (tM_bind (Q' := fun y H1 => ∃ a dx fs r1 h1 n, y = V.ref a ∧ H1 a = some (.ins C dx fs) ∧ fs.lookup (S xx) = none ∧ HS X.w X.K X.mg r1 h1 H1 ∧ SS X.K X.mg r1 H1 sm σ ∧ Rep X.K X.mg r1 H1 (.ref n) (.ref a) ∧
      Wt X.w X.K X.mg (Rep X.K X.mg) r1 H1 (fun c d H' => W c d σ H') Q ((ms sm h1).bind fun xs h2 => if xs.length + 1 = np then m (.ref n :: xs) h2 else .stuck)) hs ss w fun r1 h1 v y H1 hs1 ss1 p1 q1 w1 => ?_)) fun u s1 ⟨y, H1, I1, rx, a, dx, fs, r1, h1, n, ey, ea, l, hs1, ss1, q1, w1⟩ => ?_) ht
  · split at w1
    · rename_i n
      cases q1 with
      | ref en =>
        split at w1
        · rename_i c' fs ho
          split at w1
          · rename_i hcc
            rw [Bool.and_eq_true, beq_iff_eq] at hcc
            obtain ⟨rfl, hnf⟩ := hcc
            obtain ⟨dx, ys, e1, q⟩ := ins_of hs1 en ho hm
            exact ⟨_, dx, ys, r1, h1, n, rfl, e1, q.noF hnf, hs1, ss1, .ref en, w1⟩
          · exact w1.elim
        · exact w1.elim
    · exact w1.elim
  · subst ey
    cases (rx : u = Value.ref a)
    refine getmeth_ok I1 ea hc hme l ?_
    refine PySem.W.callWith_K (first := [.ref a]) (h₀ := X.base) I.ok.mod.kin hme.kp (thn (ha.run pos pins s1 σ H1 _ I1 (tMA_bind (Q' := fun vs H2 => spM X.w X.K X.mg ps.length m (.ref a :: vs) H2 Q (WE W σ)) hs1 ss1 w1 fun r2 h2 vs xs H2 hs2 ss2 p2 q2 w2 => ?_)) fun us s2 ⟨vs, H2, I2, rr, q2⟩ => ⟨I2.kIn, ?_⟩) pn.1 pn.2
    · split at w2
      · rename_i hl
        refine ⟨?_, r2, h2, .ref n :: vs, hs2, .cons (p2.rep hs1 q1) q2, w2⟩
        rw [List.length_cons, ← q2.length, hl, hn]
      · exact w2.elim
    · exact runG (us := .ref a :: us) (vs := .ref a :: vs) F (hr.mono hjk) hb (passAt tk σ) I2 (.cons rfl rr) q2
theorem me_meth0 {cc xx : CP} {pl : Sem Bool} (F : Mt X.prog X.w X.K X.mg X.base (S cc) (S xx) j np m) (tk : Takes X W) (hr : RoomG k X.A) (ho : PEm X W o mo) (hxx : x = S xx := by decide +kernel) (hjk : j ≤ k := by decide)
    (ht : ReadsM X o x [] apos pos pl := by rfl) :
    PEm X W (.Call (.Attribute o x apos) [] [] pos) (eMeth cc xx np m mo aNil) := by
  subst hxx
  obtain ⟨C, f, fd, ps, hn, F, hm, hc, hme, hb⟩ := F.ex
  refine ⟨fun pins s σ H Q I hh => ?_⟩
  obtain ⟨r, sm, h, hs, ss, w⟩ := hh
  refine PySem.W.methodCall_KW (pl := pl) (thn (ho.run pins s σ H _ I (tM_bind (Q' := fun y H1 => ∃ a dx fs, y = V.ref a ∧ H1 a = some (.ins C dx fs) ∧ fs.lookup (S xx) = none ∧ spM X.w X.K X.mg ps.length m [.ref a] H1 Q (WE W σ)) hs ss w fun r1 h1 v y H1 hs1 ss1 p1 q1 w1 => ?_)) fun u s1 ⟨y, H1, I1, rx, a, dx, fs, ey, ea, l, q1⟩ => ?_) ht
  · split at w1
    · rename_i n
      cases q1 with
      | ref en =>
        split at w1
        · rename_i c' fs ho
          split at w1
          · rename_i hcc
            rw [Bool.and_eq_true, beq_iff_eq] at hcc
            obtain ⟨rfl, hnf⟩ := hcc
            obtain ⟨dx, ys, e1, q⟩ := ins_of hs1 en ho hm
            have w2 : Wt X.w X.K X.mg (Rep X.K X.mg) r1 H1 (fun c d H' => W c d σ H') Q (if ([] : List MV).length + 1 = np then m (.ref n :: []) h1 else .stuck) := w1
            split at w2
            · rename_i hl
              exact ⟨_, dx, ys, rfl, e1, q.noF hnf, by rw [hn]; exact hl, r1, h1, [.ref n], hs1, .cons (.ref en) .nil, w2⟩
            · exact w2.elim
          · exact w1.elim
        · exact w1.elim
    · exact w1.elim
  · subst ey
    cases (rx : u = Value.ref a)
    refine getmeth_ok I1 ea hc hme l ?_
    exact PySem.W.callWith_K0 (first := [.ref a]) I1.kIn hme.kp (runG (us := [.ref a]) (vs := [.ref a]) F (hr.mono hjk) hb (passAt tk σ) I1 (.cons rfl .nil) q1)
theorem new_ins {r : List Addr} {h : MH} {H : Hp} {a dx C : Addr} {cc : CP} (hs : HS X.w X.K X.mg r h H) (ha : H a = none) (hd : H dx = none) (hne : dx ≠ a) (hC : X.mg (S cc) = some (.ref C)) :
    Post X.w X.K X.mg r H (r ++ [a]) (h ++ [.ins cc []]) (upd (upd H dx (.own a)) a (.ins C dx [])) := by
  have p1 := hs.extra (u := .own a) hd
  have ha' : upd H dx (.own a) a = none := by rw [upd_ne hne.symm]; exact ha
  exact p1.trans (p1.hs.new ha' ⟨C, dx, [], hC, rfl, .nil⟩)
theorem run_makeS {pins : List (Addr × Obj)} {σ : L2.St} {H : Hp} {s : Shared} {Q : VK} {us : List Value} {vs : List V} {C f : Addr} {fd : FuncData} {ps : List Str} {sp : Sp} {E : XK} {CX : CXT} (M : Mk X.K C f) (F : FnG X.prog X.w X.K X.mg X.base CX k f fd ps sp) (hr : RoomG (k + 1) X.A) (hb : Binds X.K fd ps [])
    (hx : PassesAt CX X σ E) (I : L2.Inv X pins σ H s) (r : Vals vs us)
    (h : ∀ x dx, H x = none → H dx = none → dx ≠ x → sp (.ref x :: vs) (upd (upd H dx (.own x)) x (.ins C dx [])) (fun v H2 => v = .non ∧ Q (.ref x) H2) E) : wpAny (model X.prog X.w) X.A (call (.ref C) us) (EP X pins σ Q) X.xe s := by
  have q := h _ _ (I.hok.fresh (Nat.le_succ s.heap.objs.size)) I.fresh (Nat.succ_ne_self _).symm
  have J := L2.Inv.made (C := C) I
  have rr : Vals (.ref (s.heap.objs.size + 1) :: vs) (.ref (s.heap.objs.size + 1) :: us) := .cons rfl r
  have bd := hb _ (.ref (s.heap.objs.size + 1) :: us) J.kIn (by rw [List.append_nil, ← rr.length]; exact F.len _ _ _ _ q)
  rw [List.append_nil] at bd
  apply wpAny_call
  apply make_map I.kIn M.makes M.init (beq_iff_eq.mp M.fn)
  refine codeAny_mono (F.run _ X.stack _ _ _ _ _ _ E (hr.make C us []) (J.env0.make C us []) bd rr q) ?_
  rintro (e | fl) s' z
  · exact hx pins _ _ e s' J z
  · cases fl
    case ret u =>
      obtain ⟨_, H3, J3, rv, rfl, q3⟩ := J.after z
      exact ⟨rv, .ref _, H3, J3, rfl, q3⟩
    all_goals exact z.elim
theorem make_sp {cc : CP} {C : Addr} {ps : List Str} {r : List Addr} {h : MH} {H : Hp} {vs : List MV} {xs : List V} {Q : VK} {E : XK} (hn : ps.length = np) (hC : X.mg (S cc) = some (.ref C)) (hs : HS X.w X.K X.mg r h H) (q : RepL X.K X.mg r H vs xs)
    (w : Wt X.w X.K X.mg (Rep X.K X.mg) r H E Q (if vs.length + 1 = np then (m (.ref h.length :: vs) (h ++ [.ins cc []])).bind fun v h2 => (match v with
      | .non => .ok (.ref h.length) h2
      | _ => .stuck) else .stuck)) :
    ∀ x dx, H x = none → H dx = none → dx ≠ x → spM X.w X.K X.mg ps.length m (.ref x :: xs) (upd (upd H dx (.own x)) x (.ins C dx [])) (fun v H2 => v = .non ∧ Q (.ref x) H2) E := fun x dx hx hdx hne => by
  split at w
  · rename_i hl
    have po := new_ins (cc := cc) hs hx hdx hne hC
    have ix : (r ++ [x])[h.length]? = some x := by rw [← hs.len]; simp
    refine ⟨by rw [List.length_cons, ← q.length, hl, hn], _, _, .ref h.length :: vs, po.hs, .cons (.ref ix) (po.repL hs q), ?_⟩
    refine (Wt.bind (rel := Rep X.K X.mg) (w.post po)).imp (fun _ _ _ z => z) fun y H1 ⟨r1, h1, v, p1, q1, w1⟩ => ?_
    cases v with
    | non => cases q1; exact ⟨rfl, w1 r1 H1 _ (Post.refl p1.hs) (.ref (p1.ix _ _ ix))⟩
    | _ => exact w1.elim
  · exact w.elim
theorem me_make {cc : CP} (F : Mkr X.prog X.w X.K X.mg X.base (S cc) j np m) (tk : Takes X W) (hr : RoomG k X.A) (hg : Gl X x) (ha : PAm X W (e :: es) ms) (hxx : x = S cc := by decide +kernel) (hjk : j + 1 ≤ k := by decide) (hdb : (x == ("__debug__" : Str)) = false := by decide)
    (he : starEach (e :: es) X.env = (false, eval e X.env) :: starEach es X.env := by rfl) (hpl : (backTo pos (starEach es X.env)).any (·.1) = false := by rfl) : PEm X W (.Call (.Name x p) (e :: es) [] pos) (eMake cc np m ms) := by
  subst hxx
  obtain ⟨C, f, fd, ps, hn, F, hm, M, hb⟩ := F.ex
  refine ⟨fun pins s σ H Q I hh => ?_⟩
  obtain ⟨r, sm, h, hs, ss, w⟩ := hh
  refine by_name I hg hm hdb ?_
  refine PySem.W.callWith_K (h₀ := X.base) I.ok.mod.kin M.kp (thn (ha.run pos pins s σ H _ I (tMA_bind (Q' := fun vs H2 => ∀ x dx, H2 x = none → H2 dx = none → dx ≠ x → spM X.w X.K X.mg ps.length m (.ref x :: vs) (upd (upd H2 dx (.own x)) x (.ins C dx [])) (fun v H3 => v = .non ∧ Q (.ref x) H3) (WE W σ)) hs ss w fun r2 h2 vs xs H2 hs2 ss2 p2 q2 w2 => ?_)) fun us s1 ⟨vs, H1, I1, rr, q⟩ => ⟨I1.kIn, ?_⟩) he hpl
  · exact make_sp hn hm hs2 q2 w2
  · exact run_makeS M F (hr.mono hjk) hb (passAt tk σ) I1 rr q
def HasF (X : Cx) (cs : List CP) (f : Str) : Prop := ∀ c ∈ cs, ∃ C, X.mg (S c) = some (.ref C) ∧ Cls X.K C ∧ NoAttr X.K C f
def getF (f : CP) : List (CP × MV) → Option MV
  | [] => none
  | p :: r => if f == p.1 then some p.2 else getF f r
def eFld (cs : List CP) (f : CP) (o : ME) : ME := fun s h => (o s h).bind fun y h1 => match y with
  | .ref n => match h1[n]? with
    | some (.ins c fs) => if cs.contains c then (match getF f fs with
      | some v => .ok v h1
      | none => .stuck) else .stuck
    | _ => .stuck
  | _ => .stuck
theorem RepF.get {K : PySem.W.Frag} {mg : Str → Option Value} {r : List Addr} {H : Hp} {f : CP} {v : MV} : ∀ {fs : List (CP × MV)} {ys : List (Str × V)}, RepF K mg r H fs ys → getF f fs = some v → ∃ x, ys.lookup (S f) = some x ∧ Rep K mg r H v x
  | _, _, .nil, h => by cases h
  | _, _, .cons (a := p) (b := q) e t, h => by
    obtain ⟨y, z⟩ := q
    have e1 : y = S p.1 := e.1
    simp only [getF] at h
    split at h
    · rename_i hf
      rw [beq_iff_eq] at hf
      cases h
      refine ⟨z, ?_, e.2⟩
      rw [List.lookup_cons, e1, hf]
      simp
    · rename_i hf
      obtain ⟨w, e2, q2⟩ := RepF.get t h
      refine ⟨w, ?_, q2⟩
      have hne : (S f == y) = false := by
        rw [beq_eq_false_iff_ne, e1]
        exact fun z => hf (by rw [S_inj z]; exact beq_self_eq_true _)
      rw [List.lookup_cons, hne]
      exact e2
theorem me_fld {cs : List CP} {f : CP} (hc : HasF X cs x) (ho : PEm X W o mo) (hxx : x = S f := by decide +kernel) (hb : attributeBase o x X.env (eval o X.env) = eval o X.env := by rfl) : PEm X W (.Attribute o x pos) (eFld cs f mo) := (pe_fld ho hb).mimp fun s H Q ⟨r, sm, h, hs, ss, w⟩ =>
  tM_bind hs ss w fun r1 h1 v y H1 hs1 ss1 p1 q1 w1 => by
    subst hxx
    split at w1
    · rename_i n
      cases q1 with
      | ref en =>
        split at w1
        · rename_i c' fs ho
          split at w1
          · rename_i hcc
            obtain ⟨C, hC, cl, na⟩ := hc c' (List.contains_iff_mem.mp hcc)
            split at w1
            · rename_i v hv
              obtain ⟨dx, ys, e1, q⟩ := ins_of hs1 en ho hC
              obtain ⟨z, e2, q2⟩ := q.get hv
              exact ⟨_, C, dx, ys, z, rfl, e1, cl, na, e2, Wt.plain hs1 w1 q2⟩
            · exact w1.elim
          · exact w1.elim
        · exact w1.elim
    · exact w1.elim
def sFldM (cs : List CP) (f : CP) (o e : ME) : MS := fun s h => (e s h).bindS s fun v h1 => (o s h1).bindS s fun y h2 => match y with
  | .ref n => match h2[n]? with
    | some (.ins c fs) => if cs.contains c && decide (fs.length < 1000) then .nx s (h2.set n (.ins c (setF f v fs))) else .stuck
    | _ => .stuck
  | _ => .stuck
theorem paired_len {α β : Type} {F : α → β → Prop} : ∀ {l : List α} {l' : List β}, Paired F l l' → l.length = l'.length
  | _, _, .nil => rfl
  | _, _, .cons _ t => by rw [List.length_cons, List.length_cons, paired_len t]
theorem put_ins {r : List Addr} {h : MH} {H : Hp} {n : Nat} {a C dx : Addr} {c f : CP} {fs : List (CP × MV)} {ys : List (Str × V)} {v : MV} {y : V} (hs : HS X.w X.K X.mg r h H) (en : r[n]? = some a) (hC : X.mg (S c) = some (.ref C)) (q : RepF X.K X.mg r H fs ys) (qv : Rep X.K X.mg r H v y) (hz : ∀ o' u', H a ≠ some (.frz o' u')) :
    Post X.w X.K X.mg r H r (h.set n (.ins c (setF f v fs))) (upd H a (.ins C dx (putF (S f) y ys))) := by
  have hpr : a ∈ r := List.mem_of_getElem? en
  have ht : Kp X.K H (upd H a (.ins C dx (putF (S f) y ys))) := Kp.upd fun o e => by
    obtain ⟨o', e', q⟩ := hs.plain hpr
    rw [e] at e'
    cases e'
    exact q
  exact hs.put en ⟨C, dx, _, hC, rfl, paired_mono (fun _ _ z => ⟨z.1, Rep.mono ht (fun _ _ z => z) _ _ z.2⟩) (RepF.set qv q)⟩ hz
theorem ms_fld {cs : List CP} {f : CP} {me : ME} {pos' : Pos} (hc : HasF X cs x) (ho : PEm X W o mo) (hv : PEm X W e me) (hxx : x = S f := by decide +kernel) (hsw : swapsWith e (some (.Attribute o x pos')) pos.line X.env = pure false := by rfl) : PSm X W (.Assign [.Attribute o x pos'] e pos) (sFldM cs f mo me) := (ps_fld ho hv hsw).mimp fun D s H ⟨r, sm, h, hs, ss, w⟩ =>
  tM_bindS hs ss w fun r1 h1 v y H1 hs1 ss1 p1 q1 w1 => tM_bindS hs1 ss1 w1 fun r2 h2 u z H2 hs2 ss2 p2 q2 w2 => by
    subst hxx
    split at w2
    · rename_i n
      cases q2 with
      | ref en =>
        split at w2
        · rename_i c' fs ho
          split at w2
          · rename_i hcc
            rw [Bool.and_eq_true, decide_eq_true_eq] at hcc
            obtain ⟨C, hC, cl, na⟩ := hc c' (List.contains_iff_mem.mp hcc.1)
            obtain ⟨dx, ys, e1, q⟩ := ins_of hs2 en ho hC
            have po := put_ins (f := f) (dx := dx) hs2 en hC q (p2.rep hs1 q1) (fun _ _ z => by rw [e1] at z; cases z)
            exact ⟨_, C, dx, ys, rfl, e1, cl, na, by rw [← paired_len q]; exact hcc.2, w2 r2 s _ po (ss2.post hs2 po)⟩
          · exact w2.elim
        · exact w2.elim
    · exact w2.elim
end
end MP

end
section
namespace MP
open PySem PySem.Spec PyProof.Rows L2
mutual
def dat : MV → PyData
  | .bl b => .bool b
  | .int i => .int i
  | .str l => .str (S l)
  | .tup xs => .tuple (dats xs)
  | _ => .none
def dats : List MV → List PyData
  | [] => []
  | x :: xs => dat x :: dats xs
end
mutual
def dOk : MV → Bool
  | .str l => l.all fun c => Nat.blt c 0x110000
  | .tup xs => dOks xs
  | _ => true
def dOks : List MV → Bool
  | [] => true
  | x :: xs => dOk x && dOks xs
end
section
variable {K : PySem.W.Frag} {mg : Str → Option Value} {r : List Addr} {H : Hp}
mutual
theorem dat_dp : ∀ (v : MV) (x : V) (n : Nat), kD v = some n → Rep K mg r H v x → Dp K H x (dat v)
  | .non, _, _, _, q => by cases q; exact .non
  | .bl _, _, _, _, q => by cases q; exact .bl _
  | .int _, _, _, _, q => by cases q; exact .int _
  | .str _, _, _, _, q => by cases q; exact .str _
  | .tup xs, _, n, e, q => by
    simp only [kD, Option.map_eq_some_iff] at e
    obtain ⟨d, e1, _⟩ := e
    cases q with
    | tup sq ql => exact .tup sq (dats_dp xs _ d e1 ql)
  | .ref _, _, _, e, _ => by simp [kD] at e
  | .ty _, _, _, e, _ => by simp [kD] at e
  | .glo _, _, _, e, _ => by simp [kD] at e
  | .ro _, _, _, e, _ => by simp [kD] at e
  | .lv _, _, _, e, _ => by simp [kD] at e
  | .exc _ _ _, _, _, e, _ => by simp [kD] at e
  | .clo _ _ _ _ _, _, _, e, _ => by simp [kD] at e
theorem dats_dp : ∀ (vs : List MV) (xs : List V) (n : Nat), kDs vs = some n → RepL K mg r H vs xs → DpAll K H xs (dats vs)
  | [], _, _, _, q => by cases q; exact .nil
  | v :: vs, _, n, e, q => by
    simp only [kDs] at e
    split at e
    · rename_i a b h1 h2
      cases q with
      | cons q1 q2 => exact .cons (dat_dp v _ a h1 q1) (dats_dp vs _ b h2 q2)
    · cases e
end
end
mutual
theorem dat_depth : ∀ (v : MV) (n : Nat), kD v = some n → (dat v).depth = n
  | .non, _, e => by cases e; rfl
  | .bl _, _, e => by cases e; rfl
  | .int _, _, e => by cases e; rfl
  | .str _, _, e => by cases e; rfl
  | .tup xs, n, e => by
    simp only [kD, Option.map_eq_some_iff] at e
    obtain ⟨d, e1, rfl⟩ := e
    rw [dat, PyData.depth, dats_depth xs d e1]
  | .ref _, _, e => by simp [kD] at e
  | .ty _, _, e => by simp [kD] at e
  | .glo _, _, e => by simp [kD] at e
  | .ro _, _, e => by simp [kD] at e
  | .lv _, _, e => by simp [kD] at e
  | .exc _ _ _, _, e => by simp [kD] at e
  | .clo _ _ _ _ _, _, e => by simp [kD] at e
theorem dats_depth : ∀ (vs : List MV) (n : Nat), kDs vs = some n → PyData.depthAll (dats vs) = n
  | [], _, e => by cases e; rfl
  | v :: vs, n, e => by
    simp only [kDs] at e
    split at e
    · rename_i a b h1 h2
      cases e
      rw [dats, PyData.depthAll, dat_depth v a h1, dats_depth vs b h2]
    · cases e
end
theorem strOk_S (l : CP) : PyData.strOk (S l) = l.all fun c => Nat.blt c 0x110000 := by
  simp only [PyData.strOk, S]
  rw [← Array.all_toList]
  congr 1
  funext c
  rw [Bool.eq_iff_iff]
  simp [Nat.blt_eq]
mutual
theorem dat_lay : ∀ (v : MV), dOk v = true → (dat v).canLay0 = true
  | .non, _ => rfl
  | .bl _, _ => rfl
  | .int _, _ => rfl
  | .str l, h => by
    rw [dat, PyData.canLay0, strOk_S]
    exact h
  | .tup xs, h => by
    rw [dat, PyData.canLay0]
    exact dats_lay xs (by simpa [dOk] using h)
  | .ref _, _ => rfl
  | .ty _, _ => rfl
  | .glo _, _ => rfl
  | .ro _, _ => rfl
  | .lv _, _ => rfl
  | .exc _ _ _, _ => rfl
  | .clo _ _ _ _ _, _ => rfl
theorem dats_lay : ∀ (vs : List MV), dOks vs = true → PyData.canLayAll0 (dats vs) = true
  | [], _ => rfl
  | v :: vs, h => by
    simp only [dOks, Bool.and_eq_true] at h
    rw [dats, PyData.canLayAll0, dat_lay v h.1, dats_lay vs h.2]
    rfl
end
theorem S_beq' (a b : CP) : (S a == S b) = (a == b) := by
  by_cases e : a = b
  · subst e; simp
  · have h : ¬ S a = S b := fun q => e (S_inj q)
    rw [beq_eq_false_iff_ne.mpr h, beq_eq_false_iff_ne.mpr e]
mutual
theorem eqv_dat : ∀ (a b : MV) (m n : Nat), kD a = some m → kD b = some n → PyData.eqv (dat a) (dat b) = kEq a b
  | .non, b, m, n, e, e' => by cases b <;> first | rfl | (simp [kD] at e'; done)
  | .bl a, b, m, n, e, e' => by cases b <;> first | rfl | (simp [kD] at e'; done)
  | .int a, b, m, n, e, e' => by cases b <;> first | rfl | (simp [kD] at e'; done)
  | .str a, b, m, n, e, e' => by cases b <;> first | rfl | (simp [kD] at e'; done) | exact S_beq' _ _
  | .tup xs, b, m, n, e, e' => by
    simp only [kD, Option.map_eq_some_iff] at e
    obtain ⟨d, e1, rfl⟩ := e
    cases b <;> first | rfl | (simp [kD] at e'; done) | skip
    rename_i ys
    simp only [kD, Option.map_eq_some_iff] at e'
    obtain ⟨d', e2, rfl⟩ := e'
    rw [dat, dat, PyData.eqv, kEq]
    exact eqvs_dat xs ys d d' e1 e2
  | .ref _, _, _, _, e, _ => by simp [kD] at e
  | .ty _, _, _, _, e, _ => by simp [kD] at e
  | .glo _, _, _, _, e, _ => by simp [kD] at e
  | .ro _, _, _, _, e, _ => by simp [kD] at e
  | .lv _, _, _, _, e, _ => by simp [kD] at e
  | .exc _ _ _, _, _, _, e, _ => by simp [kD] at e
  | .clo _ _ _ _ _, _, _, _, e, _ => by simp [kD] at e
theorem eqvs_dat : ∀ (a b : List MV) (m n : Nat), kDs a = some m → kDs b = some n → PyData.eqvAll (dats a) (dats b) = kEqs a b
  | [], [], _, _, _, _ => rfl
  | [], _ :: _, _, _, _, _ => rfl
  | _ :: _, [], _, _, _, _ => rfl
  | x :: a, y :: b, m, n, e, e' => by
    simp only [kDs] at e e'
    split at e
    · rename_i k1 k2 h1 h2
      split at e'
      · rename_i l1 l2 h3 h4
        rw [dats, dats, PyData.eqvAll, kEqs, eqv_dat x y k1 l1 h1 h3, eqvs_dat a b k2 l2 h2 h4]
      · cases e'
    · cases e
end
def inDat (x : MV) (ys : List MV) : Option Bool := match kD x, kDs ys with
  | some d, some _ => if Nat.ble d 8 && (dOk x && dOks ys) then some (ys.any fun y => kEqQ y x) else none
  | _, _ => none
theorem any_dat {x : MV} {d : Nat} (e : kD x = some d) : ∀ {ys : List MV} {n : Nat}, kDs ys = some n → (dats ys).any (fun z => PyData.eqv z (dat x)) = ys.any fun y => kEqQ y x
  | [], _, _ => rfl
  | y :: ys, n, h => by
    simp only [kDs] at h
    split at h
    · rename_i a b h1 h2
      rw [dats, List.any_cons, List.any_cons, kEqQ_eq, eqv_dat y x a d h1 e, any_dat e h2]
    · cases h
section
variable {X : Cx} {pins : List (Addr × Obj)} {σ : L2.St} {H : Hp} {s : Shared} {r : List Addr} {x : MV} {ys : List MV} {k : Bool} {a : V} {u : Value} {p : Addr} {zs : List V} {E : Value → Shared → Prop} {Q : Value → Shared → Prop}
theorem inDat_in (hu : X.A.units + 64 < cLine) (I : L2.Inv X pins σ H s) (e : inDat x ys = some k) (q : Rep X.K X.mg r H x a) (ra : RelV a u) (sq : SqL X.K H p zs ∨ SqT X.K H p zs) (ql : RepL X.K X.mg r H ys zs) :
    (Q (.bool k) s → wpAny (model X.prog X.w) X.A (compareOp .In u (.ref p)) Q E s) ∧ (Q (.bool (!k)) s → wpAny (model X.prog X.w) X.A (compareOp .NotIn u (.ref p)) Q E s) := by
  unfold inDat at e
  split at e
  · rename_i d n h1 h2
    split at e
    · rename_i hc
      cases e
      simp only [Bool.and_eq_true, Nat.ble_eq] at hc
      obtain ⟨as, r1⟩ := Dp.reads I _ _ _ (dat_dp x a d h1 q) ra
      have hd := dat_depth x d h1
      have hroom : X.A.units + 1 + min (PyData.depthAll (dats ys)) (dat x).depth < cLine := by
        have : min (PyData.depthAll (dats ys)) (dat x).depth ≤ 8 := Nat.le_trans (Nat.min_le_right _ _) (by omega)
        omega
      rcases sq with sq | sq
      · obtain ⟨bs, r2⟩ := Dp.reads I (.list (dats ys)) (.ref p) (.ref p) (.lst sq (dats_dp ys zs n h2 ql)) rfl
        exact ⟨fun hq => SeqAt.in_list_reads r2 r1 (dats_lay ys hc.2.2) (dat_lay x hc.2.1) hroom (by rw [any_dat h1 h2]; exact hq),
          fun hq => SeqAt.notIn_list_reads r2 r1 (dats_lay ys hc.2.2) (dat_lay x hc.2.1) hroom (by rw [any_dat h1 h2]; exact hq)⟩
      · obtain ⟨bs, r2⟩ := Dp.reads I (.tuple (dats ys)) (.ref p) (.ref p) (.tup sq (dats_dp ys zs n h2 ql)) rfl
        exact ⟨fun hq => SeqAt.in_tuple_reads r2 r1 (dats_lay ys hc.2.2) (dat_lay x hc.2.1) hroom (by rw [any_dat h1 h2]; exact hq),
          fun hq => SeqAt.notIn_tuple_reads r2 r1 (dats_lay ys hc.2.2) (dat_lay x hc.2.1) hroom (by rw [any_dat h1 h2]; exact hq)⟩
    · cases e
  · cases e
end
mutual
theorem kEq_self : ∀ (a b : MV), sSh a b = true → kEq a b = true → a = b
  | .non, b, h, e => by cases b <;> simp_all [sSh]
  | .bl _, b, h, e => by cases b <;> simp_all [sSh, kEq]
  | .int _, b, h, e => by cases b <;> simp_all [sSh, kEq]
  | .str _, b, h, e => by cases b <;> simp_all [sSh, kEq]
  | .tup xs, b, h, e => by
    cases b <;> first | (simp [sSh] at h; done) | skip
    rw [sSh] at h
    rw [kEq] at e
    rw [kEqs_self xs _ h e]
  | .ref _, _, h, _ => by simp [sSh] at h
  | .ty _, _, h, _ => by simp [sSh] at h
  | .glo _, _, h, _ => by simp [sSh] at h
  | .ro _, _, h, _ => by simp [sSh] at h
  | .lv _, _, h, _ => by simp [sSh] at h
  | .exc _ _ _, _, h, _ => by simp [sSh] at h
  | .clo _ _ _ _ _, _, h, _ => by simp [sSh] at h
theorem kEqs_self : ∀ (a b : List MV), sShs a b = true → kEqs a b = true → a = b
  | [], [], _, _ => rfl
  | [], _ :: _, h, _ => by simp [sShs] at h
  | _ :: _, [], h, _ => by simp [sShs] at h
  | x :: a, y :: b, h, e => by
    simp only [sShs, Bool.and_eq_true] at h
    simp only [kEqs, Bool.and_eq_true] at e
    rw [kEq_self x y h.1 e.1, kEqs_self a b h.2 e.2]
end
end MP

end
section
namespace MP
open PySem PySem.Spec PyProof.Rows L2

def mIs : F2
  | a, .non, h => some (.bl (match a with
    | .non => true
    | _ => false), h)
  | .bl a, .bl b, h => some (.bl (a == b), h)
  | _, _, _ => none
def mIsNot : F2
  | a, .non, h => some (.bl (match a with
    | .non => false
    | _ => true), h)
  | .bl a, .bl b, h => some (.bl (!(a == b)), h)
  | _, _, _ => none
def fEq : MV → MV → Option Bool
  | .non, .non => some true
  | .bl a, .bl b => some (a == b)
  | .bl a, .int b => some ((if a then 1 else 0) == b)
  | .int a, .bl b => some (a == (if b then 1 else 0))
  | .int a, .int b => some (a == b)
  | .str a, .str b => some (a == b)
  | .non, .bl _ => some false
  | .non, .int _ => some false
  | .non, .str _ => some false
  | .bl _, .non => some false
  | .bl _, .str _ => some false
  | .int _, .non => some false
  | .int _, .str _ => some false
  | .str _, .non => some false
  | .str _, .bl _ => some false
  | .str _, .int _ => some false
  | _, _ => none
def inF (x : MV) : List MV → Option Bool
  | [] => match x with
    | .non => some false
    | .bl _ => some false
    | .int _ => some false
    | .str _ => some false
    | _ => none
  | y :: ys => match fEq y x, inF x ys with
    | some b, some c => some (b || c)
    | _, _ => none
def keyOf : MV → Option MK
  | .int i => some (.inl i)
  | .str l => some (.inr l)
  | _ => none
def dGet {κ : Type} [DecidableEq κ] (k : κ) : List (κ × MV) → Option MV
  | [] => none
  | p :: r => if p.1 = k then some p.2 else dGet k r
def dLook (h : MH) (n : Nat) (y : MV) : Option (Option MV) := match h[n]? with
  | some (.dK kvs) => (keyOf y).map fun k => dGet k kvs
  | some (.dZ kvs) => (keyOf y).map fun k => dGet k kvs
  | _ => none
def dtAt (h : MH) (n : Nat) : Option (List (MV × MV)) := match h[n]? with
  | some (.dT kvs) => some kvs
  | _ => none
theorem dtAt_ok {h : MH} {n : Nat} {kvs : List (MV × MV)} (e : dtAt h n = some kvs) : h[n]? = some (.dT kvs) := by
  unfold dtAt at e
  split at e
  · cases e; assumption
  · cases e
def orO {α : Type} : Option α → Option α → Option α
  | some a, _ => some a
  | none, b => b
@[simp] theorem orO_some {α : Type} (a : α) (b : Option α) : orO (some a) b = some a := rfl
@[simp] theorem orO_none {α : Type} (b : Option α) : orO none b = b := rfl
theorem orO_cases {α : Type} {a b : Option α} {k : α} (h : orO a b = some k) : a = some k ∨ b = some k := by
  cases a with
  | none => exact .inr h
  | some a => exact .inl h
def mInB (x y : MV) (h : MH) : Option Bool := match x, y with
  | .str a, .str b => some (inS a b)
  | x, .tup ys => orO (inF x ys) (inDat x ys)
  | x, .ref n => match lstAt h n with
    | some ys => orO (inF x ys) (inDat x ys)
    | none => match dtAt h n with
      | some kvs => if isKy x then some (kGet x kvs).isSome else none
      | none => (dLook h n x).map (·.isSome)
  | x, .lv ys => orO (inF x ys) (inDat x ys)
  | _, _ => none
def mIn : F2 := fun x y h => (mInB x y h).map fun k => (.bl k, h)
def mNotIn : F2 := fun x y h => (mInB x y h).map fun k => (.bl (!k), h)
section
variable {X : Cx}
theorem rep_non {K : PySem.W.Frag} {mg : Str → Option Value} {r : List Addr} {H : Hp} {a : MV} {x : V} (q : Rep K mg r H a x) : decide (x = .non) = (match a with
    | .non => true
    | _ => false) := by
  cases q <;> first | rfl | simp
theorem om_isnot : OpR X (compareOp .IsNot) (rM X.w X.K X.mg mIsNot) := by
  intro pins s σ H x y v u Q I rx ry hh
  obtain ⟨r, h, a, b, hs, ra, rb, w⟩ := hh
  cases b with
  | non =>
    cases rb
    refine op_notN pins s σ H _ _ v u Q I rx ry ⟨rfl, ?_⟩
    rw [rep_non ra]
    cases a <;> exact Wt.plain hs w (.bl _)
  | bl b =>
    cases a with
    | bl a =>
      cases ra; cases rb
      refine op_isnot_bl pins s σ H _ _ v u Q I rx ry ⟨a, b, rfl, rfl, ?_⟩
      have := Wt.plain hs w (.bl _)
      rw [Bool.beq_eq_decide_eq] at this
      exact this
    | _ => exact w.elim
  | _ => cases a <;> exact w.elim
theorem S_beq (a b : CP) : (S a == S b) = (a == b) := by
  by_cases e : a = b
  · subst e; simp
  · have h : ¬ S a = S b := fun q => e (S_inj q)
    rw [beq_eq_false_iff_ne.mpr h, beq_eq_false_iff_ne.mpr e]
theorem fEq_ok {K : PySem.W.Frag} {mg : Str → Option Value} {r : List Addr} {H : Hp} {a b : MV} {x y : V} {k : Bool} (ra : Rep K mg r H a x) (rb : Rep K mg r H b y) (e : fEq a b = some k) : flatV x = true ∧ flatV y = true ∧ eqV x y = k := by
  cases a <;> cases b <;> first
    | (cases e; done)
    | (cases ra; cases rb; cases e; exact ⟨rfl, rfl, by first | rfl | exact S_beq _ _⟩)
theorem inF_ok {K : PySem.W.Frag} {mg : Str → Option Value} {r : List Addr} {H : Hp} {a : MV} {x : V} (ra : Rep K mg r H a x) : ∀ {ys : List MV} {zs : List V} {k : Bool}, RepL K mg r H ys zs → inF a ys = some k → flatV x = true ∧ zs.all flatV = true ∧ inV x zs = k
  | [], _, k, .nil, e => by
    cases a <;> first | (cases e; done) | (cases ra; cases e; exact ⟨rfl, rfl, rfl⟩)
  | b :: ys, _, k, .cons rb rs, e => by
    simp only [inF] at e
    split at e
    · rename_i b1 c1 h1 h2
      cases e
      obtain ⟨f1, f2, f3⟩ := fEq_ok rb ra h1
      obtain ⟨_, g2, g3⟩ := inF_ok ra rs h2
      refine ⟨f2, by rw [List.all_cons, f1, g2]; rfl, ?_⟩
      have : ∀ (z : V) (zs : List V), inV x (z :: zs) = (eqV z x || inV x zs) := fun z zs => rfl
      rw [this, f3, g3]
    · cases e
theorem keyOf_ok {K : PySem.W.Frag} {mg : Str → Option Value} {r : List Addr} {H : Hp} {a : MV} {x : V} {k : MK} (ra : Rep K mg r H a x) (e : keyOf a = some k) : x = kV (mk k) := by
  cases a <;> first | (cases e; done) | (cases ra; cases e; rfl)
theorem mk_inj {a b : MK} (h : mk a = mk b) : a = b := by
  cases a <;> cases b <;> simp only [mk, Sum.inl.injEq, Sum.inr.injEq, reduceCtorEq] at h
  · rw [h]
  · rw [S_inj h]
theorem dGet_ok {K : PySem.W.Frag} {mg : Str → Option Value} {r : List Addr} {H : Hp} {κ κ' : Type} [DecidableEq κ] [DecidableEq κ'] {g : κ → κ'} (gi : ∀ a b, g a = g b → a = b) (k : κ) :
    ∀ {kvs : List (κ × MV)} {ys : List (κ' × V)}, Paired (fun p q => q.1 = g p.1 ∧ Rep K mg r H p.2 q.2) kvs ys → (∀ v, dGet k kvs = some v → ∃ x, valV ys (g k) = some x ∧ Rep K mg r H v x) ∧ (dGet k kvs = none → valV ys (g k) = none)
  | _, _, .nil => ⟨fun v e => (by cases e), fun _ => rfl⟩
  | _, _, .cons (a := p) (b := q) e t => by
    obtain ⟨i1, i2⟩ := dGet_ok gi k t
    by_cases hk : p.1 = k
    · refine ⟨fun v e' => ?_, fun e' => ?_⟩
      · simp only [dGet, if_pos hk, Option.some.injEq] at e'
        subst e'
        exact ⟨q.2, valV_pos (by rw [e.1, hk]), e.2⟩
      · simp only [dGet, if_pos hk] at e'
        cases e'
    · have hk' : ¬ q.1 = g k := fun z => hk (gi _ _ (e.1.symm.trans z))
      refine ⟨fun v e' => ?_, fun e' => ?_⟩
      · simp only [dGet, if_neg hk] at e'
        rw [valV_neg hk']
        exact i1 v e'
      · simp only [dGet, if_neg hk] at e'
        rw [valV_neg hk']
        exact i2 e'
theorem dLook_ok {r : List Addr} {h : MH} {H : Hp} {n : Nat} {p : Addr} {a : MV} {x : V} {o : Option MV} (hs : HS X.w X.K X.mg r h H) (en : r[n]? = some p) (ra : Rep X.K X.mg r H a x) (e : dLook h n a = some o) :
    ∃ ov, DGet H p x ov ∧ (∀ v, o = some v → ∃ z, ov = some z ∧ Rep X.K X.mg r H v z) ∧ (o = none → ov = none) := by
  unfold dLook at e
  split at e
  · rename_i kvs hk
    obtain ⟨ys, e1, q⟩ := hs.lookup en hk
    simp only [Option.map_eq_some_iff] at e
    obtain ⟨k, e2, rfl⟩ := e
    obtain ⟨i1, i2⟩ := dGet_ok (g := mk) (fun _ _ => mk_inj) k q
    rw [keyOf_ok ra e2]
    exact ⟨_, DGet.k e1, i1, i2⟩
  · rename_i kvs hk
    obtain ⟨o, ys, e1, q⟩ := hs.lookup en hk
    simp only [Option.map_eq_some_iff] at e
    obtain ⟨k, e2, rfl⟩ := e
    obtain ⟨i1, i2⟩ := dGet_ok (g := mk) (fun _ _ => mk_inj) k q
    rw [keyOf_ok ra e2]
    exact ⟨_, .inl ⟨_, _, .inr ⟨_, e1⟩, rfl, rfl⟩, i1, i2⟩
  · cases e
theorem in_cases (hu : X.A.units + 64 < cLine) {r : List Addr} {h : MH} {H : Hp} {a b : MV} {x y : V} {k : Bool} (hs : HS X.w X.K X.mg r h H) (ra : Rep X.K X.mg r H a x) (rb : Rep X.K X.mg r H b y) (e : mInB a b h = some k) :
    (∃ i j, x = .str (S i) ∧ y = .str (S j) ∧ inS i j = k) ∨ (∃ p xs, y = .ref p ∧ (SqL X.K H p xs ∨ SqT X.K H p xs) ∧ flatV x = true ∧ xs.all flatV = true ∧ inV x xs = k) ∨ (∃ p ov, y = .ref p ∧ DGet H p x ov ∧ ov.isSome = k) ∨
      (∃ p xs ys, y = .ref p ∧ (SqL X.K H p xs ∨ SqT X.K H p xs) ∧ RepL X.K X.mg r H ys xs ∧ inDat a ys = some k) ∨ ∃ (n : Nat) (p : Addr) (kvs : List (MV × MV)), y = .ref p ∧ r[n]? = some p ∧ h[n]? = some (MO.dT kvs) ∧ isKy a = true ∧ (kGet a kvs).isSome = k := by
  unfold mInB at e
  split at e
  · cases ra; cases rb; cases e
    exact .inl ⟨_, _, rfl, rfl, rfl⟩
  · cases rb with
    | tup sq ql =>
      rcases orO_cases e with e | e
      · obtain ⟨h1, h2, h3⟩ := inF_ok ra ql e
        exact .inr (.inl ⟨_, _, rfl, .inr sq, h1, h2, h3⟩)
      · exact .inr (.inr (.inr (.inl ⟨_, _, _, rfl, .inr sq, ql, e⟩)))
  · rename_i n
    cases rb with
    | ref en =>
      cases hl : lstAt h n with
      | some ys =>
        rw [hl] at e
        obtain ⟨zs, sq, ql⟩ := hs.list en hl
        rcases orO_cases e with e | e
        · obtain ⟨h1, h2, h3⟩ := inF_ok ra ql e
          exact .inr (.inl ⟨_, _, rfl, .inl sq, h1, h2, h3⟩)
        · exact .inr (.inr (.inr (.inl ⟨_, _, _, rfl, .inl sq, ql, e⟩)))
      | none =>
        rw [hl] at e
        dsimp only at e
        cases hd : dtAt h n with
        | some kvs =>
          rw [hd] at e
          dsimp only at e
          split at e
          · rename_i hk
            cases e
            exact .inr (.inr (.inr (.inr ⟨n, _, kvs, rfl, en, dtAt_ok hd, hk, rfl⟩)))
          · cases e
        | none =>
          rw [hd] at e
          simp only [Option.map_eq_some_iff] at e
          obtain ⟨o, e1, e2⟩ := e
          obtain ⟨ov, g, h1, h2⟩ := dLook_ok hs en ra e1
          refine .inr (.inr (.inl ⟨_, ov, rfl, g, ?_⟩))
          cases o with
          | none => rw [h2 rfl]; exact e2
          | some v => obtain ⟨z, ez, _⟩ := h1 v rfl; rw [ez, ← e2]; rfl
  · cases rb with
    | lv sq ql =>
      rcases orO_cases e with e | e
      · obtain ⟨h1, h2, h3⟩ := inF_ok ra ql e
        exact .inr (.inl ⟨_, _, rfl, .inl sq.sq, h1, h2, h3⟩)
      · exact .inr (.inr (.inr (.inl ⟨_, _, _, rfl, .inl sq.sq, ql, e⟩)))
  · cases e
theorem om_in (hu : X.A.units + 64 < cLine) : OpR X (compareOp .In) (rM X.w X.K X.mg mIn) := by
  intro pins s σ H x y v u Q I rx ry hh
  obtain ⟨r, h, a, b, hs, ra, rb, w⟩ := hh
  obtain ⟨k, e, q⟩ := Wt.boolO (g := fun k => k) hs w
  rcases in_cases hu hs ra rb e with ⟨i, j, rfl, rfl, h1⟩ | ⟨p, xs, rfl, h1, h2, h3, h4⟩ | ⟨p, ov, rfl, g, h1⟩ | ⟨p, xs, ys, rfl, sq, ql, h1⟩ | ⟨n, p, kvs, rfl, en, ho, hk, h1⟩
  · exact op_in_str pins s σ H _ _ v u Q I rx ry ⟨_, _, rfl, rfl, by rw [inS_occ, h1]; exact q⟩
  · exact op_in_seq pins s σ H _ _ v u Q I rx ry ⟨p, xs, rfl, h1, h2, h3, by rw [if_neg Bool.false_ne_true, h4]; exact q⟩
  · obtain rfl : u = Value.ref p := ry
    exact d_in (by omega) I g rx fun s3 I3 => ⟨.bl ov.isSome, H, I3, rfl, by rw [h1]; exact q⟩
  · obtain rfl : u = Value.ref p := ry
    exact (inDat_in hu I h1 ra rx sq ql).1 ⟨.bl k, H, I, rfl, q⟩
  · obtain rfl : u = Value.ref p := ry
    exact dT_in hu I hs en ho hk ra rx fun s3 I3 => ⟨.bl _, H, I3, rfl, by rw [h1]; exact q⟩
theorem om_notin (hu : X.A.units + 64 < cLine) : OpR X (compareOp .NotIn) (rM X.w X.K X.mg mNotIn) := by
  intro pins s σ H x y v u Q I rx ry hh
  obtain ⟨r, h, a, b, hs, ra, rb, w⟩ := hh
  obtain ⟨k, e, q⟩ := Wt.boolO (g := fun k => !k) hs w
  rcases in_cases hu hs ra rb e with ⟨i, j, rfl, rfl, h1⟩ | ⟨p, xs, rfl, h1, h2, h3, h4⟩ | ⟨p, ov, rfl, g, h1⟩ | ⟨p, xs, ys, rfl, sq, ql, h1⟩ | ⟨n, p, kvs, rfl, en, ho, hk, h1⟩
  · exact op_notIn_str pins s σ H _ _ v u Q I rx ry ⟨_, _, rfl, rfl, by rw [inS_occ, h1]; exact q⟩
  · exact op_notIn_seq pins s σ H _ _ v u Q I rx ry ⟨p, xs, rfl, h1, h2, h3, by rw [if_pos rfl, h4]; exact q⟩
  · obtain rfl : u = Value.ref p := ry
    exact d_notIn (by omega) I g rx fun s3 I3 => ⟨.bl (!ov.isSome), H, I3, rfl, by rw [h1]; exact q⟩
  · obtain rfl : u = Value.ref p := ry
    exact (inDat_in hu I h1 ra rx sq ql).2 ⟨.bl (!k), H, I, rfl, q⟩
  · obtain rfl : u = Value.ref p := ry
    exact dT_notIn hu I hs en ho hk ra rx fun s3 I3 => ⟨.bl _, H, I3, rfl, by rw [h1]; exact q⟩

def mIx : F2
  | .tup xs, .int i, h => (atI xs i).map fun v => (v, h)
  | .str l, .int i, h => if l.length ≤ sizeLine then (atI l i).map fun c => (.str [c], h) else none
  | .ref n, y, h => match lstAt h n with
    | some xs => (match y with
      | .int i => (atI xs i).map fun v => (v, h)
      | _ => none)
    | none => match dtAt h n with
      | some kvs => if isKy y then (kGet y kvs).map fun v => (v, h) else none
      | none => (dLook h n y).bind fun o => o.map fun v => (v, h)
  | .lv xs, .int i, h => (atI xs i).map fun v => (v, h)
  | _, _, _ => none
theorem RepL.atI {K : PySem.W.Frag} {mg : Str → Option Value} {r : List Addr} {H : Hp} {vs : List MV} {xs : List V} {i : Int} {v : MV} (q : RepL K mg r H vs xs) (e : L2.atI vs i = some v) : ∃ x, L2.atI xs i = some x ∧ Rep K mg r H v x := by
  unfold L2.atI at e ⊢
  rw [q.length] at e
  cases e1 : ixN xs.length i with
  | none => rw [e1] at e; cases e
  | some j => rw [e1] at e; exact q.get e
theorem ix_dict (hu : X.A.units + 1 < cLine) : IxR X (fun x y H Q => ∃ a v, x = .ref a ∧ DGet H a y (some v) ∧ Q v H) := by
  intro value slice pins s σ H x y v u Q I rx ry hh hs
  obtain ⟨a, z, rfl, g, q⟩ := hh
  obtain rfl : v = Value.ref a := rx
  exact tail_any (dict_typeIs I g) PySem.F.slot_dict_getitem.lookup (d_getItem hu I g ry fun w' s3 I3 rw' => ⟨z, H, I3, rw', q⟩) hs
theorem ixm (hu : X.A.units + 64 < cLine) : IxR X (rM X.w X.K X.mg mIx) := by
  intro value slice pins s σ H x y v u Q I rx ry hh hsl
  obtain ⟨r, h, a, b, hs, ra, rb, w⟩ := hh
  cases a with
  | tup xs =>
    cases b with
    | int i =>
      cases rb
      cases ra with
      | tup sq ql =>
        simp only [mIx] at w
        cases e : atI xs i with
        | none => rw [e] at w; exact w.elim
        | some v' =>
          rw [e] at w
          obtain ⟨z, e1, q1⟩ := ql.atI e
          exact ix_tup value slice pins s σ H _ _ v u Q I rx ry ⟨_, _, i, z, rfl, rfl, sq, e1, Wt.plain hs w q1⟩ hsl
    | _ => exact w.elim
  | str l =>
    cases b with
    | int i =>
      cases rb; cases ra
      simp only [mIx] at w
      split at w
      · rename_i hl
        cases e : atI l i with
        | none => rw [e] at w; exact w.elim
        | some c =>
          rw [e] at w
          exact ix_str value slice pins s σ H _ _ v u Q I rx ry ⟨S l, i, c, rfl, rfl, by rw [S_length]; exact hl, by rw [S_toList]; exact e, Wt.plain hs w (.str [c])⟩ hsl
      · exact w.elim
    | _ => exact w.elim
  | ref n =>
    cases ra with
    | ref en =>
      simp only [mIx] at w
      split at w
      · rename_i xs hl
        obtain ⟨zs, sq, ql⟩ := hs.list en hl
        cases b with
        | int i =>
          cases rb
          dsimp only at w
          cases e : atI xs i with
          | none => rw [e] at w; exact w.elim
          | some v' =>
            rw [e] at w
            obtain ⟨z, e1, q1⟩ := ql.atI e
            exact ix_list value slice pins s σ H _ _ v u Q I rx ry ⟨_, _, i, z, rfl, rfl, sq, e1, Wt.plain hs w q1⟩ hsl
        | _ => exact w.elim
      · cases hd : dtAt h n with
        | some kvs =>
          rw [hd] at w
          dsimp only at w
          split at w
          · rename_i hk
            cases e : kGet b kvs with
            | none => rw [e] at w; exact w.elim
            | some v' =>
              rw [e] at w
              obtain ⟨xs, e1, t, hm, _, _⟩ := dT_of I hs en (dtAt_ok hd)
              have ty := hm.typeIs
              obtain rfl : v = Value.ref _ := rx
              exact tail_any ty PySem.F.slot_dict_getitem.lookup (dT_get hu I hs en (dtAt_ok hd) hk rb ry e fun y u' s3 I3 ry' qy => ⟨y, H, I3, ry', Wt.plain hs w qy⟩) hsl
          · exact w.elim
        | none =>
        rw [hd] at w
        dsimp only at w
        cases e : dLook h n b with
        | none => rw [e] at w; exact w.elim
        | some o =>
          rw [e] at w
          cases o with
          | none => exact w.elim
          | some v' =>
            obtain ⟨ov, g, h1, h2⟩ := dLook_ok hs en rb e
            obtain ⟨z, ez, qz⟩ := h1 v' rfl
            rw [ez] at g
            exact ix_dict (by omega) value slice pins s σ H _ _ v u Q I rx ry ⟨_, z, rfl, g, Wt.plain hs w qz⟩ hsl
  | lv xs =>
    cases b with
    | int i =>
      cases rb
      cases ra with
      | lv sq ql =>
        simp only [mIx] at w
        cases e : atI xs i with
        | none => rw [e] at w; exact w.elim
        | some v' =>
          rw [e] at w
          obtain ⟨z, e1, q1⟩ := ql.atI e
          exact ix_list value slice pins s σ H _ _ v u Q I rx ry ⟨_, _, i, z, rfl, rfl, sq.sq, e1, Wt.plain hs w q1⟩ hsl
    | _ => exact w.elim
  | _ => cases b <;> exact w.elim
theorem me_ix (hu : X.A.units + 64 < cLine) {W : WX} {a b : Expr} {ma mb : ME} {pos : Pos} (ha : PEm X W a ma) (hb : PEm X W b mb) (hp : PlainIx b := by exact fun _ _ => rfl) : PEm X W (.Subscript a b pos) (eOp mIx ma mb) := (pe_ix (ixm hu) ha hb hp).mimp fun s H Q ⟨r, sm, h, hs, ss, w⟩ =>
  tM_bind hs ss w fun r1 h1 v x H1 hs1 ss1 p1 q1 w1 => tM_bind hs1 ss1 w1 fun r2 h2 u y H2 hs2 ss2 p2 q2 w2 => ⟨r2, h2, v, u, hs2, p2.rep hs1 q1, q2, w2.anyE⟩
def cutM {α : Type} (xs : List α) (lo hi : Option Int) : List α := (xs.drop (HT.sIx xs.length 0 lo)).take (HT.sIx xs.length xs.length hi - HT.sIx xs.length 0 lo)
def mCut (x : MV) (lo hi : Option Int) (h : MH) : Option (MV × MH) := match x with
  | .tup xs => some (.tup (cutM xs lo hi), h)
  | .str l => if l.length ≤ sizeLine then some (.str (cutM l lo hi), h) else none
  | x => match lstV h x with
    | some xs => some (.ref h.length, h ++ [.lst (cutM xs lo hi)])
    | none => none
abbrev MP_ := Sl → MH → R (Option Int)
def pNo : MP_ := fun _ h => .ok none h
def pSo (a : ME) : MP_ := fun s h => (a s h).bind fun x h1 => match x with
  | .int i => .ok (some i) h1
  | _ => .stuck
def tMO (ww : World) (K : PySem.W.Frag) (mg : Str → Option Value) (W : WX) (m : MP_) : TO := fun s H Q => ∃ r sm h, HS ww K mg r h H ∧ SS K mg r H sm s ∧ Wt ww K mg (fun _ _ a b => a = b) r H (fun c d H' => W c d s H') Q (m sm h)
theorem _root_.L2.PO.mimp {X : Cx} {e : Option Expr} {t t' : TO} (h : PO X e t) (i : ∀ s H Q, t' s H Q → t s H Q) : PO X e t' := ⟨fun pins s σ H Q I q => h.run pins s σ H Q I (i _ _ _ q)⟩
abbrev POm (X : Cx) (W : WX) (e : Option Expr) (m : MP_) : Prop := PO X e (tMO X.w X.K X.mg W m)
theorem mo_none {W : WX} : POm X W none pNo := po_none.mimp fun s H Q ⟨r, sm, h, hs, ss, w⟩ => w r H none (Post.refl hs) rfl
theorem mo_some {W : WX} {a : Expr} {ma : ME} (ha : PEm X W a ma) : POm X W (some a) (pSo ma) := (po_some ha).mimp fun s H Q ⟨r, sm, h, hs, ss, w⟩ =>
  tM_bind hs ss w fun r1 h1 v x H1 hs1 ss1 p1 q1 w1 => by
    cases v with
    | int i => cases q1; exact ⟨i, rfl, w1 r1 H1 _ (Post.refl hs1) rfl⟩
    | _ => exact w1.elim
theorem RepL.cut {K : PySem.W.Frag} {mg : Str → Option Value} {r : List Addr} {H : Hp} {vs : List MV} {xs : List V} (q : RepL K mg r H vs xs) (lo hi : Option Int) : RepL K mg r H (cutM vs lo hi) (cutV xs lo hi) := by
  unfold cutM cutV
  rw [q.length]
  exact (q.drop _).take _
def rCutM (X : Cx) : V → Option Int → Option Int → Hp → VK → Prop := fun x lo hi H Q => ∃ r h a, HS X.w X.K X.mg r h H ∧ Rep X.K X.mg r H a x ∧ Wt X.w X.K X.mg (Rep X.K X.mg) r H (fun _ _ _ => False) Q (ofO (mCut a lo hi h))
theorem slm : SlR X (rCutM X) := by
  intro pins s σ H x v vl vu lo hi sl Q I rx hsl pl pu hh
  obtain ⟨r, h, a, hs, ra, w⟩ := hh
  cases a with
  | tup xs =>
    cases ra with
    | tup sq ql =>
      refine sl_tupA pins s σ H _ v vl vu lo hi sl Q I rx hsl pl pu ⟨_, _, rfl, sq, fun hw => ?_, fun _ p hp => ?_⟩
      · have e : cutM xs lo hi = xs := by
          unfold cutM
          rw [ql.length, hw.1, hw.2]
          simp [← ql.length]
        simp only [mCut, e] at w
        exact Wt.plain hs w (.tup sq ql)
      · obtain ⟨po, re⟩ := hs.newT hp (ql.cut lo hi)
        exact w _ _ _ po re
  | str l =>
    cases ra
    simp only [mCut] at w
    split at w
    · rename_i hl
      refine sl_str pins s σ H _ v vl vu lo hi sl Q I rx hsl pl pu ⟨_, rfl, by rw [S_length]; exact hl, ?_⟩
      have e : cutS (S l) lo hi = S (cutM l lo hi) := by
        unfold cutS cutM
        rw [S_length, S_toList]
        rfl
      rw [e]
      exact Wt.plain hs w (.str _)
    · exact w.elim
  | _ =>
    simp only [mCut] at w
    split at w
    · rename_i xs hl
      obtain ⟨_, zs, rfl, sq, ql⟩ := hs.listV ra hl
      refine sl_list pins s σ H _ v vl vu lo hi sl Q I rx hsl pl pu ⟨_, _, rfl, sq, fun p hp => ?_⟩
      obtain ⟨po, re⟩ := hs.newL hp (ql.cut lo hi)
      exact w _ _ _ po re
    · exact w.elim
end
end MP

end
section
namespace MP
open PySem PySem.Spec PyProof.Rows L2

def rMA (X : Cx) (f : FA) : List V → Hp → VK → Prop := fun xs H Q => ∃ r h as, HS X.w X.K X.mg r h H ∧ RepL X.K X.mg r H as xs ∧ Wt X.w X.K X.mg (Rep X.K X.mg) r H (fun _ _ _ => False) Q (ofO (f as h))
def eBlt (f : FA) (a : MA) : ME := fun s h => (a s h).bind fun xs h1 => ofO (f xs h1)
section
variable {X : Cx} {W : WX} {e o : Expr} {es : List Expr} {ms : MA} {mo : ME} {x : Str} {p pos apos : Pos} {f : FA}
theorem me_callB {id : String} (hc : CallR X (.builtin id) (rMA X f)) (hg : Gl X x) (hm : X.mg x = none) (hv : bootBuiltins x = some (.builtin id)) (ha : PAm X W (e :: es) ms) (hn : x ≠ "__name__" := by decide) (hdb : (x == ("__debug__" : Str)) = false := by decide)
    (he : starEach (e :: es) X.env = (false, eval e X.env) :: starEach es X.env := by rfl) (hpl : (backTo pos (starEach es X.env)).any (·.1) = false := by rfl) : PEm X W (.Call (.Name x p) (e :: es) [] pos) (eBlt f ms) := (pe_callB hc hg hm hv ha hn hdb he hpl).mimp fun s H Q ⟨r, sm, h, hs, ss, w⟩ =>
  tMA_bind hs ss w fun r1 h1 vs xs H1 hs1 ss1 p1 q1 w1 => ⟨r1, h1, vs, hs1, q1, w1.anyE⟩
theorem me_callTy {T : String} (hc : CallR X (.type T) (rMA X f)) (hg : Gl X x) (hm : X.mg x = none) (hv : bootBuiltins x = some (.type T)) (ha : PAm X W (e :: es) ms) (hn : x ≠ "__name__" := by decide) (hdb : (x == ("__debug__" : Str)) = false := by decide)
    (he : starEach (e :: es) X.env = (false, eval e X.env) :: starEach es X.env := by rfl) (hpl : (backTo pos (starEach es X.env)).any (·.1) = false := by rfl) : PEm X W (.Call (.Name x p) (e :: es) [] pos) (eBlt f ms) := (pe_callTy hc hg hm hv ha hn hdb he hpl).mimp fun s H Q ⟨r, sm, h, hs, ss, w⟩ =>
  tMA_bind hs ss w fun r1 h1 vs xs H1 hs1 ss1 p1 q1 w1 => ⟨r1, h1, vs, hs1, q1, w1.anyE⟩
theorem me_ty {t : Ty} (hg : Gl X x) (hm : X.mg x = none) (hv : bootBuiltins x = some (.type t.nm)) (hn : x ≠ "__name__" := by decide) (hdb : (x == ("__debug__" : Str)) = false := by decide) : PEm X W (.Name x pos) (eC (.ty t)) :=
  (pe_bltn (v := .ty t.nm) hg hm hv rfl hn hdb).mimp fun s H Q ⟨r, sm, h, hs, ss, w⟩ => Wt.plain hs w (.ty t)
theorem repL1 {K : PySem.W.Frag} {mg : Str → Option Value} {r : List Addr} {H : Hp} {a : MV} {xs : List V} (q : RepL K mg r H [a] xs) : ∃ x, xs = [x] ∧ Rep K mg r H a x := by
  cases q with | cons q1 q2 => cases q2; exact ⟨_, rfl, q1⟩
theorem repL2 {K : PySem.W.Frag} {mg : Str → Option Value} {r : List Addr} {H : Hp} {a b : MV} {xs : List V} (q : RepL K mg r H [a, b] xs) : ∃ x y, xs = [x, y] ∧ Rep K mg r H a x ∧ Rep K mg r H b y := by
  cases q with | cons q1 q2 => cases q2 with | cons q2 q3 => cases q3; exact ⟨_, _, rfl, q1, q2⟩
def mLen : FA
  | [.str l], h => if l.length ≤ sizeLine then some (.int l.length, h) else none
  | [.tup xs], h => some (.int xs.length, h)
  | [.ref n], h => match h[n]? with
    | some (.lst xs) => some (.int xs.length, h)
    | some (.dK kvs) => some (.int kvs.length, h)
    | _ => none
  | [.ro xs], h => some (.int xs.length, h)
  | [.lv xs], h => some (.int xs.length, h)
  | _, _ => none
theorem cm_len : CallR X (.builtin "len") (rMA X mLen) := by
  intro pins s σ H xs us Q I rv hh
  obtain ⟨r, h, as, hs, ra, w⟩ := hh
  unfold mLen at w
  split at w
  · obtain ⟨x, rfl, q⟩ := repL1 ra
    cases q
    split at w
    · rename_i hl
      exact call_len_str pins s σ H _ us Q I rv ⟨_, rfl, by rw [S_length]; exact hl, by rw [S_length]; exact Wt.plain hs w (.int _)⟩
    · exact w.elim
  · obtain ⟨x, rfl, q⟩ := repL1 ra
    cases q with
    | tup sq ql => exact call_len_seq pins s σ H _ us Q I rv ⟨_, _, rfl, .inr sq, by rw [← ql.length]; exact Wt.plain hs w (.int _)⟩
  · obtain ⟨x, rfl, q⟩ := repL1 ra
    cases q with
    | ref en =>
      split at w
      · rename_i ys h1
        obtain ⟨zs, e1, ql⟩ := hs.lookup en h1
        exact call_len_seq pins s σ H _ us Q I rv ⟨_, _, rfl, .inl (SqL.of e1), by rw [← ql.length]; exact Wt.plain hs w (.int _)⟩
      · rename_i ys h1
        obtain ⟨zs, e1, ql⟩ := hs.lookup en h1
        exact call_lenD pins s σ H _ us Q I rv ⟨_, _, rfl, e1, by rw [← paired_len ql]; exact Wt.plain hs w (.int _)⟩
      · exact w.elim
  · obtain ⟨x, rfl, q⟩ := repL1 ra
    cases q with
    | ro sq ql => exact call_len_seq pins s σ H _ us Q I rv ⟨_, _, rfl, .inl sq.sq, by rw [← ql.length]; exact Wt.plain hs w (.int _)⟩
  · obtain ⟨x, rfl, q⟩ := repL1 ra
    cases q with
    | lv sq ql => exact call_len_seq pins s σ H _ us Q I rv ⟨_, _, rfl, .inl sq.sq, by rw [← ql.length]; exact Wt.plain hs w (.int _)⟩
  · exact w.elim
def mInt : FA
  | [.int i], h => some (.int i, h)
  | [.bl b], h => some (.int (if b then 1 else 0), h)
  | _, _ => none
theorem cm_int : CallR X (.type "int") (rMA X mInt) := by
  intro pins s σ H xs us Q I rv hh
  obtain ⟨r, h, as, hs, ra, w⟩ := hh
  unfold mInt at w
  split at w
  · obtain ⟨x, rfl, q⟩ := repL1 ra
    cases q
    exact call_int1 pins s σ H _ us Q I rv (.inl ⟨_, rfl, Wt.plain hs w (.int _)⟩)
  · obtain ⟨x, rfl, q⟩ := repL1 ra
    cases q
    exact call_int1 pins s σ H _ us Q I rv (.inr ⟨_, rfl, Wt.plain hs w (.int _)⟩)
  · exact w.elim
def mList : FA
  | [.tup xs], h => some (.ref h.length, h ++ [.lst xs])
  | [v], h => match lstV h v with
    | some xs => some (.ref h.length, h ++ [.lst xs])
    | none => none
  | _, _ => none
def mTuple : FA
  | [.tup xs], h => some (.tup xs, h)
  | [v], h => match lstV h v with
    | some xs => some (.tup xs, h)
    | none => none
  | _, _ => none
theorem cm_tuple : CallR X (.type "tuple") (rMA X mTuple) := by
  intro pins s σ H xs us Q I rv hh
  obtain ⟨r, h, as, hs, ra, w⟩ := hh
  unfold mTuple at w
  split at w
  · obtain ⟨x, rfl, q⟩ := repL1 ra
    cases q with
    | tup sq ql => exact call_tuple_of pins s σ H _ us Q I rv ⟨_, _, rfl, .inr ⟨sq, Wt.plain hs w (.tup sq ql)⟩⟩
  · obtain ⟨x, rfl, q⟩ := repL1 ra
    split at w
    · rename_i ys hl
      obtain ⟨_, zs, rfl, sq, ql⟩ := hs.listV q hl
      refine call_tuple_of pins s σ H _ us Q I rv ⟨_, _, rfl, .inl ⟨sq, fun l hl => ?_⟩⟩
      obtain ⟨po, re⟩ := hs.newT hl ql
      exact w _ _ _ po re
    · exact w.elim
  · exact w.elim
def boolsOf : List MV → Option (List Bool) := mapO fun v => match v with
  | .bl b => some b
  | _ => none
theorem boolsOf_ok {K : PySem.W.Frag} {mg : Str → Option Value} {r : List Addr} {H : Hp} : ∀ {vs : List MV} {xs : List V} {bs : List Bool}, RepL K mg r H vs xs → boolsOf vs = some bs → xs = bs.map V.bl
  | [], _, bs, .nil, e => by cases e; rfl
  | v :: vs, _, bs, .cons q t, e => by
    simp only [boolsOf, mapO] at e
    split at e
    · rename_i y ys h1 h2
      cases e
      cases v with
      | bl b => cases q; cases h1; rw [boolsOf_ok t h2]; rfl
      | _ => cases h1
    · cases e
def mAll : FA
  | [v], h => match lstV h v with
    | some xs => (boolsOf xs).map fun bs => (.bl (bs.all id), h)
    | none => none
  | _, _ => none
theorem cm_all (hc : X.calm = true) : CallR X (.builtin "all") (rMA X mAll) := by
  intro pins s σ H xs us Q I rv hh
  obtain ⟨r, h, as, hs, ra, w⟩ := hh
  unfold mAll at w
  split at w
  · obtain ⟨x, rfl, q⟩ := repL1 ra
    split at w
    · rename_i ys hl
      obtain ⟨_, zs, rfl, sq, ql⟩ := hs.listV q hl
      cases e : boolsOf ys with
      | none => rw [e] at w; exact w.elim
      | some bs =>
        rw [e] at w
        rw [boolsOf_ok ql e] at sq
        exact cr_all hc pins s σ H _ us Q I rv ⟨_, bs, rfl, sq, Wt.plain hs w (.bl _)⟩
    · exact w.elim
  · exact w.elim
def kindOf (v : MV) (h : MH) : Option Ty := match v with
  | .non => some .none
  | .bl _ => some .bool
  | .int _ => some .int
  | .str _ => some .str
  | .tup _ => some .tuple
  | .ref n => match h[n]? with
    | some (.lst _) => some .list
    | some (.dK _) => some .dict
    | _ => none
  | .lv _ => some .list
  | _ => none
def isTy (k t : Ty) : Bool := match k, t with
  | .int, .int => true
  | .str, .str => true
  | .bool, .bool => true
  | .bool, .int => true
  | .tuple, .tuple => true
  | .list, .list => true
  | .dict, .dict => true
  | .none, .none => true
  | .valErr, .valErr => true
  | .ovfErr, .ovfErr => true
  | _, _ => false
def mIsi : FA
  | [v, .ty t], h => (kindOf v h).map fun k => (.bl (isTy k t), h)
  | _, _ => none
theorem isTy_ok {K : PySem.W.Frag} (k t : Ty) : PySem.W.kitOne K (.type k.nm) (.type t.nm) = some (isTy k t) := by
  cases k <;> cases t <;> exact kit_ty (by decide +kernel)
theorem kind_ok {r : List Addr} {h : MH} {H : Hp} {v : MV} {x : V} {k : Ty} (hs : HS X.w X.K X.mg r h H) (q : Rep X.K X.mg r H v x) (e : kindOf v h = some k) : TyX X.K H x (.type k.nm) := by
  cases v with
  | non => cases q; cases e; exact .base .non
  | bl b => cases q; cases e; exact .base (.bl b)
  | int i => cases q; cases e; exact .base (.int i)
  | str l => cases q; cases e; exact .base (.str _)
  | tup xs =>
    cases q with
    | tup sq ql =>
      cases e
      rcases sq with (sq | ⟨o, sq⟩) | ⟨o, its, n, h1, h2, _⟩
      · exact .base (.tup sq)
      · exact .fTuple sq
      · exact .kTuple h1 h2
  | ref n =>
    cases q with
    | ref en =>
      simp only [kindOf] at e
      split at e
      · rename_i ys h1
        cases e
        obtain ⟨zs, e1, ql⟩ := hs.lookup en h1
        exact .base (.lst e1)
      · rename_i ys h1
        cases e
        obtain ⟨zs, e1, ql⟩ := hs.lookup en h1
        exact .base (.dK e1)
      · cases e
  | ty _ => cases e
  | glo _ => cases e
  | exc _ _ _ => cases e
  | clo _ _ _ _ _ => cases e
  | ro _ => cases e
  | lv xs =>
    cases q with
    | lv sq ql => cases e; obtain ⟨o, sq⟩ := sq; exact .base (.frz sq)
theorem cm_isi : CallR X (.builtin "isinstance") (rMA X mIsi) := by
  intro pins s σ H xs us Q I rv hh
  obtain ⟨r, h, as, hs, ra, w⟩ := hh
  unfold mIsi at w
  split at w
  · rename_i v t
    obtain ⟨x, y, rfl, q1, q2⟩ := repL2 ra
    cases q2
    cases e : kindOf v h with
    | none => rw [e] at w; exact w.elim
    | some k =>
      rw [e] at w
      exact call_isi pins s σ H _ us Q I rv ⟨x, _, _, _, _, rfl, .ty _, kind_ok hs q1 e, isTy_ok k t, Wt.plain hs w (.bl _)⟩
  · exact w.elim

abbrev FM := MV → List MV → MH → Option (MV × MH)
def rMM (X : Cx) (f : FM) : V → List V → Hp → VK → Prop := fun x xs H Q => ∃ r h a as, HS X.w X.K X.mg r h H ∧ Rep X.K X.mg r H a x ∧ RepL X.K X.mg r H as xs ∧ Wt X.w X.K X.mg (Rep X.K X.mg) r H (fun _ _ _ => False) Q (ofO (f a as h))
def isRcv (t : Ty) (v : MV) (h : MH) : Bool := match t, v with
  | .str, .str _ => true
  | .list, .ref n => (lstAt h n).isSome
  | .list, .lv _ => true
  | .dict, .ref n => match h[n]? with
    | some (.dK _) => true
    | some (.dT _) => true
    | _ => false
  | _, _ => false
def eBm (t : Ty) (f : FM) (o : ME) (a : MA) : ME := fun s h => (o s h).bind fun x h1 => if isRcv t x h1 then (a s h1).bind fun xs h2 => ofO (f x xs h2) else .stuck
theorem rcv_old {r : List Addr} {h : MH} {H : Hp} {v : MV} {x : V} {t : Ty} (hs : HS X.w X.K X.mg r h H) (q : Rep X.K X.mg r H v x) (e : isRcv t v h = true) : tyV X.K t.nm x H ∨ ∃ (n : Nat) (p : Addr) (kvs : List (MV × MV)), r[n]? = some p ∧ x = V.ref p ∧ h[n]? = some (MO.dT kvs) ∧ t = .dict := by
  unfold isRcv at e
  split at e
  · cases q; exact .inl rfl
  · cases q with
    | ref en =>
      rw [Option.isSome_iff_exists] at e
      obtain ⟨xs, hl⟩ := e
      obtain ⟨zs, sq, ql⟩ := hs.list en hl
      exact .inl (.inl ⟨rfl, zs, sq⟩)
  · cases q with
    | lv sq ql => exact .inl (.inl ⟨rfl, _, sq.sq⟩)
  · cases q with
    | ref en =>
      split at e
      · rename_i kvs h1
        obtain ⟨zs, e1, ql⟩ := hs.lookup en h1
        exact .inl (.inr (.inr (.inl ⟨rfl, .inl ⟨zs, e1⟩⟩)))
      · rename_i kvs h1
        exact .inr ⟨_, _, kvs, en, rfl, h1, rfl⟩
      · cases e
  · cases e
theorem rcv_is {pins : List (Addr × Obj)} {σ : L2.St} {s : Shared} {r : List Addr} {h : MH} {H : Hp} {v : MV} {x : V} {u : Value} {t : Ty} (I : L2.Inv X pins σ H s) (hs : HS X.w X.K X.mg r h H) (q : Rep X.K X.mg r H v x) (ru : RelV x u) (e : isRcv t v h = true) :
    s.TypeIs u t.nm ∧ ∀ a, u = .ref a → ∃ ob, s.heap.get? a = some ob ∧ ob.dict = none := by
  rcases rcv_old hs q e with ty | ⟨n, p, kvs, en, rfl, h1, rfl⟩
  · exact tyV_is I ru ty
  · obtain ⟨xs, _, _, hm, _, _⟩ := dT_of I hs en h1
    obtain rfl := (show u = Value.ref p from ru)
    refine ⟨hm.typeIs, fun a ea => ?_⟩
    cases ea
    obtain ⟨ob, es, ep, ho, hx, _⟩ := hm
    exact ⟨ob, ho, hx.2.1⟩
theorem me_bm {t : Ty} {f : FM} {id : String} (pa : PlainAttrs t.nm) (slot : Slot t.nm x id) (hty : typeOf (.builtin id) = pure (.type "method_descriptor")) (hm : MtR X id (rMM X f)) (ho : PEm X W o mo) (ha : PAm X W (e :: es) ms)
    (hbase : attributeBase o x X.env (eval o X.env) = eval o X.env := by rfl)
    (hfew : ((backTo pos (starEach (e :: es) X.env)).all (fun x => !x.1) && (backToKw pos (keywordEach [] X.env)).all (fun x => x.1.isSome)
      && decide ((e :: es).length + ([] : List Keyword).length + (if ([] : List Keyword).isEmpty then 0 else 1) < 30)) = true := by rfl)
    (hline : (apos.endLine == pos.line) = true := by rfl) (hst : starEach (e :: es) X.env = (false, eval e X.env) :: starEach es X.env := by rfl) (hplain : (backTo pos (starEach es X.env)).any (·.1) = false := by rfl) :
    PEm X W (.Call (.Attribute o x apos) (e :: es) [] pos) (eBm t f mo ms) := by
  refine ⟨fun pins s0 σ H0 Q I0 ⟨r, sm, h, hs, ss, w⟩ => ?_⟩
  let Mid : V → Hp → Prop := fun y H1 => ∃ r1 h1 v, HS X.w X.K X.mg r1 h1 H1 ∧ SS X.K X.mg r1 H1 sm σ ∧ Rep X.K X.mg r1 H1 v y ∧ isRcv t v h1 = true ∧ Wt X.w X.K X.mg (Rep X.K X.mg) r1 H1 (fun c d H' => W c d σ H') Q ((ms sm h1).bind fun xs h2 => ofO (f v xs h2))
  have key : ∀ y H1, Mid y H1 → ∀ u s1, L2.Inv X pins σ H1 s1 → RelV y u → (s1.TypeIs u t.nm ∧ ∀ a, u = .ref a → ∃ ob, s1.heap.get? a = some ob ∧ ob.dict = none) ∧ tMA X.w X.K X.mg W ms σ H1 (fun vs H2 => rMM X f y vs H2 Q) := by
    intro y H1 ⟨r1, h1, v, hs1, ss1, q1, hr, w1⟩ u s1 I1 ru
    exact ⟨rcv_is I1 hs1 q1 ru hr, tMA_bind hs1 ss1 w1 fun r2 h2 vs xs H2 hs2 ss2 p2 q2 w2 => ⟨r2, h2, v, vs, hs2, p2.rep hs1 q1, q2, w2.anyE⟩⟩
  refine wpAny_Call_method_late hbase hfew hline rfl (thn (ho.run pins s0 σ H0 Mid I0 (tM_bind hs ss w fun r1 h1 v y H1 hs1 ss1 p1 q1 w1 => ?_)) fun u s1 ⟨y, H1, I1, ru, kk⟩ => ?_)
  · split at w1
    · rename_i hr
      exact ⟨r1, h1, v, hs1, ss1, q1, hr, w1⟩
    · exact w1.elim
  · obtain ⟨⟨t1, t2⟩, ta⟩ := key y H1 kk u s1 I1 ru
    refine ⟨t.nm, id, pa, slot, hty, t1, t2, ?_⟩
    have go := ha.run pos pins s1 σ H1 _ I1 ta
    rw [hst] at go ⊢
    exact Calls.callWith_builtin (by show (false || (backTo pos (starEach es X.env)).any (·.1)) = false; rw [hplain]; rfl) (Calls.evalArgs_plain (thn go fun us s2 ⟨vs, H2, I2, r2, q2⟩ => hm pins s2 σ H2 y vs u us Q I2 ru r2 q2))
theorem me_bm0 {t : Ty} {f : FM} {id : String} (pa : PlainAttrs t.nm) (slot : Slot t.nm x id) (hty : typeOf (.builtin id) = pure (.type "method_descriptor")) (hm : MtR X id (rMM X f)) (ho : PEm X W o mo)
    (hbase : attributeBase o x X.env (eval o X.env) = eval o X.env := by rfl) (hline : (apos.endLine == pos.line) = true := by rfl) :
    PEm X W (.Call (.Attribute o x apos) [] [] pos) (eBm t f mo aNil) := by
  refine ⟨fun pins s0 σ H0 Q I0 ⟨r, sm, h, hs, ss, w⟩ => ?_⟩
  refine wpAny_Call_method0_late hbase hline (thn (ho.run pins s0 σ H0 (fun y H1 => ∃ r1 h1 v, HS X.w X.K X.mg r1 h1 H1 ∧ Rep X.K X.mg r1 H1 v y ∧ isRcv t v h1 = true ∧ Wt X.w X.K X.mg (Rep X.K X.mg) r1 H1 (fun c d H' => W c d σ H') Q (ofO (f v [] h1))) I0 (tM_bind hs ss w fun r1 h1 v y H1 hs1 ss1 p1 q1 w1 => ?_)) fun u s1 ⟨y, H1, I1, ru, r1, h1, v, hs1, q1, hr, w1⟩ => ?_)
  · split at w1
    · rename_i hr
      exact ⟨r1, h1, v, hs1, q1, hr, w1⟩
    · exact w1.elim
  · obtain ⟨t1, t2⟩ := rcv_is I1 hs1 q1 ru hr
    exact ⟨t.nm, id, pa, slot, hty, t1, t2, Calls.callWith_builtin rfl (PySem.evalArgs_none (hm pins s1 σ H1 y [] u [] Q I1 ru .nil ⟨r1, h1, v, [], hs1, q1, .nil, w1.anyE⟩))⟩
def mAppend : FM
  | .ref n, [v], h => match h[n]? with
    | some (.lst xs) => if xs.length < sizeLine then some (.non, h.set n (.lst (xs ++ [v]))) else none
    | _ => none
  | _, _, _ => none
theorem mm_append : MtR X "list.append" (rMM X mAppend) := by
  intro pins s σ H x xs v us Q I rx rv hh
  obtain ⟨r, h, a, as, hs, ra, rs, w⟩ := hh
  unfold mAppend at w
  split at w
  · obtain ⟨y, rfl, q⟩ := repL1 rs
    cases ra with
    | ref en =>
      split at w
      · rename_i zs h1
        split at w
        · rename_i hl
          obtain ⟨ys, e1, ql⟩ := hs.lookup en h1
          refine mt_append pins s σ H _ _ v us Q I rx rv ⟨_, ys, y, rfl, rfl, e1, by rw [← ql.length]; exact hl, ?_⟩
          exact w _ _ _ (hs.putL en (ql.append (.cons q .nil)) e1) .non
        · exact w.elim
      · exact w.elim
  · exact w.elim
def mPop : FM
  | .ref n, [], h => match h[n]? with
    | some (.lst xs) => match xs[xs.length - 1]? with
      | some v => some (v, h.set n (.lst xs.dropLast))
      | none => none
    | _ => none
  | _, _, _ => none
theorem RepL.dropLast {K : PySem.W.Frag} {mg : Str → Option Value} {r : List Addr} {H : Hp} {vs : List MV} {xs : List V} (q : RepL K mg r H vs xs) : RepL K mg r H vs.dropLast xs.dropLast := by
  rw [List.dropLast_eq_take, List.dropLast_eq_take, q.length]
  exact q.take _
theorem mm_pop : MtR X "list.pop" (rMM X mPop) := by
  intro pins s σ H x xs v us Q I rx rv hh
  obtain ⟨r, h, a, as, hs, ra, rs, w⟩ := hh
  unfold mPop at w
  split at w
  · cases rs
    cases ra with
    | ref en =>
      split at w
      · rename_i zs h1
        split at w
        · rename_i v' hl
          obtain ⟨ys, e1, ql⟩ := hs.lookup en h1
          obtain ⟨y, e2, q2⟩ := ql.get hl
          rw [ql.length] at e2
          refine mt_pop pins s σ H _ _ v us Q I rx rv ⟨_, ys, y, rfl, rfl, e1, e2, ?_⟩
          have po := hs.putL en ql.dropLast e1
          exact w _ _ _ po (po.rep hs q2)
        · exact w.elim
      · exact w.elim
  · exact w.elim
def strsOf : List MV → Option (List CP) := mapO fun v => match v with
  | .str l => some l
  | _ => none
def joinL (a : CP) : List CP → CP
  | [] => []
  | [x] => x
  | x :: y :: r => x ++ a ++ joinL a (y :: r)
def lensum : List CP → Nat
  | [] => 0
  | x :: r => x.length + lensum r
def mJoinL (a : CP) (vs : List MV) (h : MH) : Option (MV × MH) := match strsOf vs with
  | some ls => if lensum ls + ls.length * a.length ≤ 16777216 then some (.str (joinL a ls), h) else none
  | none => none
def mJoin : FM
  | .str a, [.tup vs], h => mJoinL a vs h
  | .str a, [v], h => match lstV h v with
    | some vs => mJoinL a vs h
    | none => none
  | _, _, _ => none
end
end MP

end
section
namespace MP
open PySem PySem.Spec PyProof.Rows L2
section
variable {X : Cx} {W : WX} {e o : Expr} {es : List Expr} {ms : MA} {mo : ME} {x : Str} {p pos apos : Pos}
def cntL (c : Nat) : CP → Int
  | [] => 0
  | d :: r => (if d = c then 1 else 0) + cntL c r
theorem cnt_eq (c : Nat) : ∀ l : CP, PyProof.Rows.cnt c l = cntL c l
  | [] => rfl
  | d :: r => by rw [PyProof.Rows.cnt_cons, cntL, cnt_eq c r]
def mCount : FM
  | .str l, [.str [c]], h => some (.int (cntL c l), h)
  | _, _, _ => none
theorem mm_count : MtR X "str.count" (rMM X mCount) := by
  intro pins s σ H x xs v us Q I rx rv hh
  obtain ⟨r, h, a, as, hs, ra, rs, w⟩ := hh
  unfold mCount at w
  split at w
  · rename_i l c
    obtain ⟨y, rfl, q⟩ := repL1 rs
    cases ra; cases q
    refine mt_count pins s σ H _ _ v us Q I rx rv ⟨_, _, rfl, rfl, ?_⟩
    have e : Txt.count (S l) (S [c]) = cntL c l := by
      rw [← cnt_eq]
      have := PyProof.Rows.count_cnt (S l) c
      rw [S_toList] at this
      exact this
    rw [e]
    exact Wt.plain hs w (.int _)
  · exact w.elim
def lastIx (c : Nat) : CP → Int
  | [] => -1
  | d :: r => if lastIx c r = -1 then (if d = c then 0 else -1) else lastIx c r + 1
theorem lastIx_spec (c : Nat) : ∀ l : CP, (lastIx c l = -1 ∧ ∀ i : Nat, l[i]? ≠ some c) ∨ ∃ i : Nat, lastIx c l = (i : Int) ∧ l[i]? = some c ∧ ∀ k, i < k → l[k]? ≠ some c
  | [] => .inl ⟨rfl, fun i => by simp⟩
  | d :: r => by
    rcases lastIx_spec c r with ⟨e, hn⟩ | ⟨i, e, hi, hn⟩
    · by_cases hd : d = c
      · refine .inr ⟨0, by simp [lastIx, e, hd], by simp [hd], fun k hk => ?_⟩
        cases k with
        | zero => omega
        | succ k => simpa using hn k
      · refine .inl ⟨by simp [lastIx, e, hd], fun i => ?_⟩
        cases i with
        | zero => simpa using hd
        | succ i => simpa using hn i
    · refine .inr ⟨i + 1, ?_, by simpa using hi, fun k hk => ?_⟩
      · rw [lastIx, e, if_neg (by omega)]; omega
      · cases k with
        | zero => omega
        | succ k => simpa using hn k (by omega)
theorem subAt_one (l : CP) (c i : Nat) : Builtin.Str.subAt (S l) (S [c]) i = true ↔ l[i]? = some c := by
  unfold Builtin.Str.subAt
  rw [beq_iff_eq]
  constructor
  · intro h
    have h2 := congrArg Array.toList h
    have h3 : (l.drop i).take 1 = [c] := by simpa [S, Str.length, List.extract_eq_take_drop] using h2
    have : (l.drop i)[0]? = some c := by
      have := congrArg (fun z => z[0]?) h3
      simpa using this
    simpa using this
  · intro h
    apply Array.ext'
    obtain ⟨h1, h2⟩ := List.getElem?_eq_some_iff.mp h
    have : (l.drop i).take 1 = [c] := by
      rw [List.drop_eq_getElem_cons h1, h2]
      simp
    simpa [S, Str.length, List.extract_eq_take_drop] using this
theorem rfind_eq (l : CP) (c : Nat) : Txt.rfind (S l) (S [c]) = lastIx c l := by
  have hat : ∀ i, StrLaws.At (S l) (S [c]) (S l).length i ↔ l[i]? = some c := fun i => by
    unfold StrLaws.At
    rw [subAt_one, S_length, S_length]
    constructor
    · exact fun h => h.2
    · intro h
      refine ⟨?_, h⟩
      have := (List.getElem?_eq_some_iff.mp h).1
      show i + 1 ≤ l.length
      omega
  rcases PyProof.Rows.rfind_whole (S l) (S [c]) with ⟨e, hn⟩ | ⟨i, e, hi, hn⟩ <;> rcases lastIx_spec c l with ⟨e', hn'⟩ | ⟨j, e', hj, hn'⟩
  · rw [e, e']
  · exact absurd ((hat j).mpr hj) (hn j)
  · exact absurd ((hat i).mp hi) (hn' i)
  · rw [e, e']
    have h1 : ¬ i < j := fun z => hn j z ((hat j).mpr hj)
    have h2 : ¬ j < i := fun z => hn' i z ((hat i).mp hi)
    have : i = j := by omega
    rw [this]
def mRfind : FM
  | .str l, [.str [c]], h => some (.int (lastIx c l), h)
  | _, _, _ => none
theorem mm_rfind : MtR X "str.rfind" (rMM X mRfind) := by
  intro pins s σ H x xs v us Q I rx rv hh
  obtain ⟨r, h, a, as, hs, ra, rs, w⟩ := hh
  unfold mRfind at w
  split at w
  · rename_i l c
    obtain ⟨y, rfl, q⟩ := repL1 rs
    cases ra; cases q
    refine mt_rfind pins s σ H _ _ v us Q I rx rv ⟨_, _, rfl, rfl, ?_⟩
    rw [rfind_eq]
    exact Wt.plain hs w (.int _)
  · exact w.elim
def firstIx (c : Nat) : CP → Option Nat
  | [] => none
  | d :: r => if d = c then some 0 else (firstIx c r).map (· + 1)
def mIndexS : FM
  | .str l, [.str [c]], h => match firstIx c l with
    | some i => some (.int (i : Nat), h)
    | none => none
  | _, _, _ => none
theorem firstIx_spec (c : Nat) : ∀ {l : CP} {i : Nat}, firstIx c l = some i → l[i]? = some c ∧ ∀ k, k < i → l[k]? ≠ some c
  | [], i, e => by cases e
  | d :: r, i, e => by
    simp only [firstIx] at e
    split at e
    · rename_i hd
      cases e
      exact ⟨by simp [hd], fun k hk => by omega⟩
    · rename_i hd
      simp only [Option.map_eq_some_iff] at e
      obtain ⟨j, e1, rfl⟩ := e
      obtain ⟨h1, h2⟩ := firstIx_spec c e1
      refine ⟨by simpa using h1, fun k hk => ?_⟩
      cases k with
      | zero => simpa using hd
      | succ k => simpa using h2 k (by omega)
def mGetD : FM
  | .ref n, [y], h => match dtAt h n with
    | some kvs => if isKy y then some ((kGet y kvs).getD .non, h) else none
    | none => (dLook h n y).map fun o => (o.getD .non, h)
  | .ref n, [y, d], h => match dtAt h n with
    | some kvs => if isKy y then some ((kGet y kvs).getD d, h) else none
    | none => (dLook h n y).map fun o => (o.getD d, h)
  | _, _, _ => none
theorem mm_get (hu : X.A.units + 64 < cLine) : MtR X "dict.get" (rMM X mGetD) := by
  intro pins s σ H x xs v us Q I rx rv hh
  obtain ⟨r, h, a, as, hs, ra, rs, w⟩ := hh
  unfold mGetD at w
  split at w
  · rename_i n y
    obtain ⟨z, rfl, q⟩ := repL1 rs
    cases ra with
    | ref en =>
      cases hd : dtAt h n with
      | some kvs =>
        rw [hd] at w
        dsimp only at w
        split at w
        · rename_i hk
          obtain ⟨u, rfl, ru⟩ := vals1 rv
          obtain rfl := (show v = Value.ref _ from rx)
          exact dT_get1 hu I hs en (dtAt_ok hd) hk q ru fun y u' s3 I3 ry qy => ⟨y, H, I3, ry, Wt.plain hs w qy⟩
        · exact w.elim
      | none =>
      rw [hd] at w
      dsimp only at w
      cases e : dLook h n y with
      | none => rw [e] at w; exact w.elim
      | some o =>
        rw [e] at w
        obtain ⟨ov, g, h1, h2⟩ := dLook_ok hs en q e
        obtain ⟨u, rfl, ru⟩ := vals1 rv
        obtain rfl := (show v = Value.ref _ from rx)
        refine d_get1 (by omega) I g ru fun w' s' I' rw' => ⟨ov.getD .non, H, I', rw', ?_⟩
        cases o with
        | none => rw [h2 rfl]; exact Wt.plain hs w .non
        | some v' => obtain ⟨z, ez, qz⟩ := h1 v' rfl; rw [ez]; exact Wt.plain hs w qz
  · rename_i n y d
    obtain ⟨z, z2, rfl, q, q2⟩ := repL2 rs
    cases ra with
    | ref en =>
      cases hd : dtAt h n with
      | some kvs =>
        rw [hd] at w
        dsimp only at w
        split at w
        · rename_i hk
          obtain ⟨u, u2, rfl, ru, ru2⟩ := vals2 rv
          obtain rfl := (show v = Value.ref _ from rx)
          exact dT_get2 hu I hs en (dtAt_ok hd) hk q ru q2 ru2 fun y u' s3 I3 ry qy => ⟨y, H, I3, ry, Wt.plain hs w qy⟩
        · exact w.elim
      | none =>
      rw [hd] at w
      dsimp only at w
      cases e : dLook h n y with
      | none => rw [e] at w; exact w.elim
      | some o =>
        rw [e] at w
        obtain ⟨ov, g, h1, h2⟩ := dLook_ok hs en q e
        obtain ⟨u, u2, rfl, ru, ru2⟩ := vals2 rv
        obtain rfl := (show v = Value.ref _ from rx)
        refine d_get2 (by omega) I g ru ru2 fun w' s' I' rw' => ⟨ov.getD z2, H, I', rw', ?_⟩
        cases o with
        | none => rw [h2 rfl]; exact Wt.plain hs w q2
        | some v' => obtain ⟨z, ez, qz⟩ := h1 v' rfl; rw [ez]; exact Wt.plain hs w qz
  · exact w.elim
def dHas {κ : Type} [DecidableEq κ] (k : κ) (kvs : List (κ × MV)) : Bool := kvs.any fun p => decide (p.1 = k)
def dPut {κ : Type} [DecidableEq κ] (k : κ) (v : MV) (kvs : List (κ × MV)) : List (κ × MV) := if dHas k kvs = true then kvs.map (fun p => if p.1 = k then (p.1, v) else p) else kvs ++ [(k, v)]
def mSet (o i v : MV) (h : MH) : Option MH := match o with
  | .ref n => match h[n]? with
    | some (.lst xs) => (match i with
      | .int k => (ixN xs.length k).map fun j => h.set n (.lst (xs.set j v))
      | _ => none)
    | some (.dK kvs) => (match keyOf i with
      | some k => if kvs.length < sizeLine then some (h.set n (.dK (dPut k v kvs))) else none
      | none => none)
    | some (.dT kvs) => if isKy i && decide (kvs.length < sizeLine) then some (h.set n (.dT (kPut i v kvs))) else none
    | _ => none
  | _ => none
theorem paired_append {α β : Type} {F : α → β → Prop} : ∀ {a : List α} {b : List β} {c : List α} {d : List β}, Paired F a b → Paired F c d → Paired F (a ++ c) (b ++ d)
  | _, _, _, _, .nil, s => s
  | _, _, _, _, .cons q t, s => .cons q (paired_append t s)
theorem dHas_ok {K : PySem.W.Frag} {mg : Str → Option Value} {r : List Addr} {H : Hp} {k : MK} : ∀ {kvs : List (MK × MV)} {ys : List (Key × V)}, RepK K mg r H kvs ys → (ys.any fun kv => decide (kv.1 = mk k)) = dHas k kvs
  | _, _, .nil => rfl
  | _, _, .cons (a := p) (b := y) e t => by
    unfold dHas
    rw [List.any_cons, List.any_cons, dHas_ok t, e.1]
    have : decide (mk p.1 = mk k) = decide (p.1 = k) := by
      by_cases h : p.1 = k
      · rw [decide_eq_true h, decide_eq_true (by rw [h])]
      · rw [decide_eq_false h, decide_eq_false (fun z => h (mk_inj z))]
    rw [this]
    rfl
theorem putK_ok {K : PySem.W.Frag} {mg : Str → Option Value} {r : List Addr} {H : Hp} {k : MK} {v : MV} {x : V} (q : Rep K mg r H v x) {kvs : List (MK × MV)} {ys : List (Key × V)} (h : RepK K mg r H kvs ys) : RepK K mg r H (dPut k v kvs) (putK ys (mk k) x) := by
  unfold dPut putK
  rw [dHas_ok h]
  split
  · have : ∀ {kvs : List (MK × MV)} {ys : List (Key × V)}, RepK K mg r H kvs ys → RepK K mg r H (kvs.map fun p => if p.1 = k then (p.1, v) else p) (ys.map fun kv => if kv.1 = mk k then (kv.1, x) else kv) := by
      intro kvs
      induction kvs with
      | nil => intro ys h; cases h; exact .nil
      | cons p kvs ih =>
        intro ys h
        cases h with
        | @cons _ y _ ys e t =>
          rw [List.map_cons, List.map_cons]
          refine .cons ?_ (ih t)
          by_cases hk : p.1 = k
          · rw [if_pos hk, if_pos (by rw [e.1, hk])]
            exact ⟨e.1, q⟩
          · rw [if_neg hk, if_neg (fun z => hk (mk_inj (e.1.symm.trans z)))]
            exact e
    exact this h
  · exact paired_append h (.cons ⟨rfl, q⟩ .nil)
theorem HS.putD {ww : World} {K : PySem.W.Frag} {mg : Str → Option Value} {r : List Addr} {h : MH} {H : Hp} (hs : HS ww K mg r h H) {n : Nat} {p : Addr} (en : r[n]? = some p) {xs : List (MK × MV)} {ys : List (Key × V)} (q : RepK K mg r H xs ys) {zs : List (Key × V)} (e0 : H p = some (.dK zs)) :
    Post ww K mg r H r (h.set n (.dK xs)) (upd H p (.dK ys)) := by
  have hpr : p ∈ r := List.mem_of_getElem? en
  have ht : Kp K H (upd H p (.dK ys)) := Kp.upd fun o e => by
    obtain ⟨o', e', q⟩ := hs.plain hpr
    rw [e] at e'
    cases e'
    exact q
  exact hs.put en ⟨_, rfl, paired_mono (fun _ _ z => ⟨z.1, Rep.mono ht (fun _ _ z => z) _ _ z.2⟩) q⟩ (fun _ _ z => by rw [e0] at z; cases z)
def sSub (o i e : ME) : MS := fun s h => (e s h).bindS s fun v h1 => (o s h1).bindS s fun x h2 => (i s h2).bindS s fun y h3 => match mSet x y v h3 with
  | some h4 => .nx s h4
  | none => .stuck
theorem set_ok (hu : X.A.units + 64 < cLine) {r : List Addr} {h h' : MH} {H : Hp} {a b c : MV} {x y z : V} (hs : HS X.w X.K X.mg r h H) (ra : Rep X.K X.mg r H a x) (rb : Rep X.K X.mg r H b y) (rc : Rep X.K X.mg r H c z) (e : mSet a b c h = some h')
    {pins : List (Addr × Obj)} {s : Shared} {σ : L2.St} {ov iv u : Value} (I : L2.Inv X pins σ H s) (ro : RelV x ov) (ri : RelV y iv) (rv : RelV z u) : wpAny (model X.prog X.w) X.A (setItem ov iv u) (fun _ s' => ∃ H', L2.Inv X pins σ H' s' ∧ Post X.w X.K X.mg r H r h' H') X.xe s := by
  unfold mSet at e
  split at e
  · rename_i n
    cases ra with
    | ref en =>
      split at e
      · rename_i xs h1
        obtain ⟨ys, e1, ql⟩ := hs.lookup en h1
        split at e
        · rename_i k
          cases rb
          simp only [Option.map_eq_some_iff] at e
          obtain ⟨j, e2, rfl⟩ := e
          rw [ql.length] at e2
          exact set_list pins s σ H _ _ z ov iv u _ I ro ri rv ⟨_, ys, k, j, rfl, rfl, e1, e2, hs.putL en (ql.set rc j) e1⟩
        · cases e
      · rename_i kvs h1
        obtain ⟨ys, e1, ql⟩ := hs.lookup en h1
        split at e
        · rename_i k hk
          split at e
          · rename_i hl
            cases e
            obtain rfl := (show ov = Value.ref _ from ro)
            rw [keyOf_ok rb hk] at ri
            exact d_setItem (by omega) I (DPut.k e1 (by rw [← paired_len ql]; exact hl)) ri rv fun s' I' => ⟨_, I', hs.putD en (putK_ok rc ql) e1⟩
          · cases e
        · cases e
      · rename_i kvs h1
        split at e
        · rename_i hc
          cases e
          rw [Bool.and_eq_true, decide_eq_true_eq] at hc
          obtain rfl := (show ov = Value.ref _ from ro)
          exact dT_set hu I hs en h1 hc.2 hc.1 rb ri rc rv fun H' s' I' P => ⟨H', I', P⟩
        · cases e
      · cases e
  · cases e
theorem ms_sub (hu : X.A.units + 64 < cLine) {i : Expr} {mi me : ME} {pos' : Pos} (ho : PEm X W o mo) (hi : PEm X W i mi) (hv : PEm X W e me) (hsw : swapsWith e (some (.Subscript o i pos')) pos.line X.env = pure false := by rfl) : PSm X W (.Assign [.Subscript o i pos'] e pos) (sSub mo mi me) := by
  refine ⟨fun pins s0 σ H D I hh => ?_⟩
  obtain ⟨r, sm, h, hs, ss, w⟩ := hh
  refine wpAny_Assign_Subscript (thn (hv.run pins s0 σ H (fun z H1 => ∃ r1 h1 v, HS X.w X.K X.mg r1 h1 H1 ∧ SS X.K X.mg r1 H1 sm σ ∧ Rep X.K X.mg r1 H1 v z ∧ WtS X.w X.K X.mg W r1 H1 D ((mo sm h1).bindS sm fun x h2 => (mi sm h2).bindS sm fun y h3 => match mSet x y v h3 with
    | some h4 => .nx sm h4
    | none => .stuck)) I (tM_bindS hs ss w fun r1 h1 v z H1 hs1 ss1 p1 q1 w1 => ⟨r1, h1, v, hs1, ss1, q1, w1⟩)) fun u s1 ⟨z, H1, I1, rz, r1, h1, v, hs1, ss1, q1, w1⟩ => ?_) hsw
  refine thn (ho.run pins s1 σ H1 (fun x H2 => ∃ r2 h2 a, HS X.w X.K X.mg r2 h2 H2 ∧ SS X.K X.mg r2 H2 sm σ ∧ Rep X.K X.mg r2 H2 v z ∧ Rep X.K X.mg r2 H2 a x ∧ WtS X.w X.K X.mg W r2 H2 D ((mi sm h2).bindS sm fun y h3 => match mSet a y v h3 with
    | some h4 => .nx sm h4
    | none => .stuck)) I1 (tM_bindS hs1 ss1 w1 fun r2 h2 a x H2 hs2 ss2 p2 q2 w2 => ⟨r2, h2, a, hs2, ss2, p2.rep hs1 q1, q2, w2⟩)) fun ov s2 ⟨x, H2, I2, rx, r2, h2, a, hs2, ss2, q1, q2, w2⟩ => ?_
  refine thn (hi.run pins s2 σ H2 (fun y H3 => ∃ r3 h3 b, HS X.w X.K X.mg r3 h3 H3 ∧ SS X.K X.mg r3 H3 sm σ ∧ Rep X.K X.mg r3 H3 v z ∧ Rep X.K X.mg r3 H3 a x ∧ Rep X.K X.mg r3 H3 b y ∧ WtS X.w X.K X.mg W r3 H3 D (match mSet a b v h3 with
    | some h4 => .nx sm h4
    | none => .stuck)) I2 (tM_bindS hs2 ss2 w2 fun r3 h3 b y H3 hs3 ss3 p3 q3 w3 => ⟨r3, h3, b, hs3, ss3, p3.rep hs2 q1, p3.rep hs2 q2, q3, w3⟩)) fun iv s3 ⟨y, H3, I3, ry, r3, h3, b, hs3, ss3, q1, q2, q3, w3⟩ => ?_
  cases em : mSet a b v h3 with
  | none => rw [em] at w3; exact w3.elim
  | some h4 =>
    rw [em] at w3
    exact thn (set_ok hu hs3 q2 q3 q1 em I3 rx ry rz) fun _ s4 ⟨H4, I4, p4⟩ => ⟨σ, H4, I4, w3 _ _ _ p4 (ss3.post hs3 p4)⟩
def mIAdd : F2
  | .int i, .int j, h => some (.int (i + j), h)
  | .str a, .str b, h => if a.length + b.length ≤ sizeLine then some (.str (a ++ b), h) else none
  | .ref m, .ref n, h => match h[m]?, h[n]? with
    | some (.lst a), some (.lst b) => if a.length + b.length ≤ sizeLine then some (.ref m, h.set m (.lst (a ++ b))) else none
    | _, _ => none
  | _, _, _ => none
theorem im_add : OpR X (inplaceOp .Add) (rM X.w X.K X.mg mIAdd) := by
  intro pins s σ H x y v u Q I rx ry hh
  obtain ⟨r, h, a, b, hs, ra, rb, w⟩ := hh
  cases a <;> cases b <;> first | exact w.elim | skip
  case int.int i j =>
    cases ra; cases rb
    exact iop_add pins s σ H _ _ v u Q I rx ry ⟨i, j, rfl, rfl, w.plain hs (.int _)⟩
  case str.str i j =>
    cases ra; cases rb
    simp only [mIAdd] at w
    split at w
    · rename_i hl
      refine iop_add_str pins s σ H _ _ v u Q I rx ry ⟨S i, S j, rfl, rfl, by simpa [S_length] using hl, ?_⟩
      rw [S_append]
      exact w.plain hs (.str _)
    · exact w.elim
  case ref.ref i j =>
    cases ra with | ref ea => cases rb with | ref eb =>
    simp only [mIAdd] at w
    split at w
    · rename_i xa xb h1 h2
      split at w
      · rename_i hl
        obtain ⟨ya, e1, q1⟩ := hs.lookup ea h1
        obtain ⟨yb, e2, q2⟩ := hs.lookup eb h2
        refine iop_ext pins s σ H _ _ v u Q I rx ry ⟨_, _, ya, yb, rfl, rfl, e1, e2, by rw [← q1.length, ← q2.length]; exact hl, ?_⟩
        have po := hs.putL ea (q1.append q2) e1
        exact w _ _ _ po (.ref ea)
      · exact w.elim
    · exact w.elim
def sAug (i : Nat) (f : F2) (e : ME) : MS := fun s h => match s[i]? with
  | some (some x) => (e s h).bindS s fun y h1 => match f x y h1 with
    | some (z, h2) => .nx (s.set i (some z)) h2
    | none => .stuck
  | _ => .stuck
def sFldAug (cs : List CP) (f : CP) (g : F2) (o e : ME) : MS := fun s h => (o s h).bindS s fun y h1 => match y with
  | .ref n => match h1[n]? with
    | some (.ins c fs) => if cs.contains c then (match getF f fs with
      | some v => (e s h1).bindS s fun u h2 => match g v u h2 with
        | some (z, h3) => (match h3[n]? with
          | some (.ins c' fs') => if c' == c && decide (fs'.length < 1000) then .nx s (h3.set n (.ins c (setF f z fs'))) else .stuck
          | _ => .stuck)
        | none => .stuck
      | none => .stuck) else .stuck
    | _ => .stuck
  | _ => .stuck
theorem ms_fldaug {cs : List CP} {f : CP} {g : F2} {op : Operator} {me : ME} {tpos : Pos} (hc : HasF X cs x) (hop : OpR X (inplaceOp op) (rM X.w X.K X.mg g)) (ho : PEm X W o mo) (hv : PEm X W e me) (hxx : x = S f := by decide +kernel) : PSm X W (.AugAssign (.Attribute o x tpos) op e pos) (sFldAug cs f g mo me) := (ps_fldaug (rd := rM X.w X.K X.mg g) ho hv (fun pins s σ H x y u v Q I rx ry hh => hop pins s σ H x y u v Q I rx ry hh)).mimp fun D s H ⟨r, sm, h, hs, ss, w⟩ =>
  tM_bindS hs ss w fun r1 h1 v y H1 hs1 ss1 p1 q1 w1 => by
    subst hxx
    split at w1
    · rename_i n
      cases q1 with
      | ref en =>
        split at w1
        · rename_i c' fs ho
          split at w1
          · rename_i hcc
            obtain ⟨C, hC, cl, na⟩ := hc c' (List.contains_iff_mem.mp hcc)
            split at w1
            · rename_i v hv
              obtain ⟨dx, ys, e1, q⟩ := ins_of hs1 en ho hC
              obtain ⟨z, e2, q2⟩ := q.get hv
              refine ⟨_, C, dx, ys, z, rfl, e1, cl, na, e2, tM_bindS hs1 ss1 w1 fun r2 h2 u y2 H2 hs2 ss2 p2 q3 w2 => ⟨r2, h2, v, u, hs2, p2.rep hs1 q2, q3, ?_⟩⟩
              revert w2
              cases g v u h2 with
              | none => intro w2; exact w2.elim
              | some pz =>
                obtain ⟨z2, h3⟩ := pz
                intro w2 r3 H3 y3 p3 q4
                dsimp only at w2
                split at w2
                · rename_i c2 fs2 ho2
                  split at w2
                  · rename_i hcc2
                    rw [Bool.and_eq_true, beq_iff_eq, decide_eq_true_eq] at hcc2
                    obtain ⟨rfl, hl⟩ := hcc2
                    have en3 := p3.ix _ _ (p2.ix _ _ en)
                    obtain ⟨dx2, ys2, e5, q5⟩ := ins_of p3.hs en3 ho2 hC
                    have po := put_ins (f := f) (dx := dx2) p3.hs en3 hC q5 q4 (fun _ _ z => by rw [e5] at z; cases z)
                    exact ⟨dx2, ys2, e5, by rw [← paired_len q5]; exact hl, w2 r3 s _ (p3.trans po) ((ss2.post hs2 p3).post p3.hs po)⟩
                  · exact w2.elim
                · exact w2.elim
            · exact w1.elim
          · exact w1.elim
        · exact w1.elim
    · exact w1.elim
def eRev (a : ME) : ME := fun s h => (a s h).bind fun x h1 => match x with
  | .str l => if l.length ≤ sizeLine then .ok (.str l.reverse) h1 else .stuck
  | x => match lstV h1 x with
    | some xs => .ok (.ref h1.length) (h1 ++ [.lst xs.reverse])
    | none => .stuck
end
end MP

end
section
namespace MP
open PySem PySem.Spec PyProof.Rows L2

abbrev W0 : WX := fun _ _ _ _ => False
def wipeM (s : Sl) : List Nat → Sl
  | [] => s
  | v :: vs => (wipeM s vs).set v none
theorem wipe_set {σ : L2.St} {i : Nat} {x : Option V} : ∀ {vs : List Nat}, i ∈ vs → wipe (σ.set i x) vs = wipe σ vs
  | [], h => nomatch h
  | v :: vs, h => by
    unfold wipe
    by_cases hv : i ∈ vs
    · rw [wipe_set hv]
    · have e : i = v := by
        rcases List.mem_cons.mp h with e | e
        · exact e
        · exact absurd e hv
      subst e
      have pass : ∀ {us : List Nat}, i ∉ us → wipe (σ.set i x) us = (wipe σ us).set i x := by
        intro us
        induction us with
        | nil => intro _; rfl
        | cons u us ih =>
          intro hu
          unfold wipe
          rw [ih (fun z => hu (List.mem_cons_of_mem _ z))]
          have hne : i ≠ u := fun z => hu (by rw [z]; exact List.mem_cons_self)
          rw [List.set_comm _ _ hne]
      rw [pass hv, List.set_set]
theorem wipe_wipe (σ : L2.St) (vs : List Nat) : L2.wipe (L2.wipe σ vs) vs = L2.wipe σ vs := by
  have : ∀ (us : List Nat), (∀ u ∈ us, u ∈ vs) → L2.wipe (L2.wipe σ us) vs = L2.wipe σ vs := by
    intro us
    induction us with
    | nil => intro _; rfl
    | cons u us ih =>
      intro hu
      show L2.wipe ((L2.wipe σ us).set u none) vs = L2.wipe σ vs
      rw [wipe_set (hu u List.mem_cons_self)]
      exact ih fun x hx => hu x (List.mem_cons_of_mem _ hx)
  exact this vs fun _ z => z
theorem SS.wipe {K : PySem.W.Frag} {mg : Str → Option Value} {r : List Addr} {H : Hp} {m : Sl} {s : L2.St} (y : SS K mg r H m s) : ∀ vs : List Nat, SS K mg r H (wipeM m vs) (L2.wipe s vs)
  | [] => y
  | v :: vs => by
    have ih := SS.wipe y vs
    refine ⟨by simp only [wipeM, L2.wipe, List.length_set, ih.len], fun i w e => ?_⟩
    unfold wipeM at e
    unfold L2.wipe
    by_cases hi : v = i
    · subst hi
      by_cases hv : v < (wipeM m vs).length
      · rw [List.getElem?_set_self hv] at e; cases e
      · rw [List.getElem?_eq_none (by simpa using hv)] at e; cases e
    · rw [List.getElem?_set_ne hi] at e
      rw [List.getElem?_set_ne hi]
      exact ih.at_ i w e
theorem tgs_ok {K : PySem.W.Frag} {mg : Str → Option Value} {r : List Addr} {H : Hp} {ws : List Nat} : ∀ {is : List Nat} {m m2 : Sl} {s : L2.St} {vs : List MV} {xs : List V} {Q : L2.St → Hp → Prop}, SS K mg r H m s → RepL K mg r H vs xs → setAll m is vs = some m2 → (∀ i ∈ is, i ∈ ws) →
    (∀ s2, SS K mg r H m2 s2 → L2.wipe s2 ws = L2.wipe s ws → s2.length = s.length → Q s2 H) → xs.length = is.length ∧ tgs is xs s H Q
  | [], m, m2, s, [], _, Q, ss, .nil, e, _, k => by cases e; exact ⟨rfl, rfl, k s ss rfl rfl⟩
  | i :: is, m, m2, s, v :: vs, _, Q, ss, .cons q qs, e, hw, k => by
    obtain ⟨hl, h⟩ := tgs_ok (ws := ws) (Q := Q) (ss.set q i) qs e (fun j hj => hw j (List.mem_cons_of_mem _ hj)) fun s2 ss2 e2 l2 => k s2 ss2 (e2.trans (wipe_set (hw i List.mem_cons_self))) (by rw [l2, List.length_set])
    exact ⟨by rw [List.length_cons, List.length_cons, hl], _, _, rfl, h⟩
  | [], _, _, _, _ :: _, _, _, _, _, e, _, _ => by cases e
  | _ :: _, _, _, _, [], _, _, _, _, e, _, _ => by cases e
theorem tg_ok {K : PySem.W.Frag} {mg : Str → Option Value} {r : List Addr} {H : Hp} {ws : List Nat} {t : Tg} {m m2 : Sl} {s : L2.St} {v : MV} {x : V} {Q : L2.St → Hp → Prop} (ss : SS K mg r H m s) (q : Rep K mg r H v x) (e : t.run v m = some m2) (hw : ∀ i ∈ t.own, i ∈ ws)
    (k : ∀ s2, SS K mg r H m2 s2 → L2.wipe s2 ws = L2.wipe s ws → s2.length = s.length → Q s2 H) : t.tg K x s H Q := by
  cases t with
  | one i =>
    cases e
    exact k _ (ss.set q i) (wipe_set (hw i (by simp [Tg.own]))) (by rw [List.length_set])
  | row is =>
    cases v with
    | tup xs =>
      cases q with
      | tup sq ql =>
        obtain ⟨hl, h⟩ := tgs_ok ss ql e hw k
        exact ⟨_, _, rfl, sq, hl, h⟩
    | _ => cases e
def tYesM : MT := fun _ h => .ok true h
def lcM (it : MIt) (t : Tg) (tt : MT) (te : ME) (sw : Sl) (n : Nat) : Nat → List MV → MH → R MV :=
  Nat.rec (fun i acc h => match it.at h i with
    | some none => .ok (.ref h.length) (h ++ [.lst acc])
    | _ => .stuck)
  (fun _ go i acc h => match it.at h i with
    | some none => .ok (.ref h.length) (h ++ [.lst acc])
    | some (some v) => match t.run v sw with
      | some s2 => match tt s2 h with
        | .ok true h3 => (match te s2 h3 with
          | .ok y h4 => if acc.length < sizeLine then go (i + 1) (acc ++ [y]) h4 else .stuck
          | _ => .stuck)
        | .ok false h3 => go (i + 1) acc h3
        | _ => .stuck
      | none => .stuck
    | none => .stuck) n
theorem lcM_zero (it : MIt) (t : Tg) (tt : MT) (te : ME) (sw : Sl) (i : Nat) (acc : List MV) (h : MH) : lcM it t tt te sw 0 i acc h = match it.at h i with
    | some none => .ok (.ref h.length) (h ++ [.lst acc])
    | _ => .stuck := rfl
theorem lcM_succ (it : MIt) (t : Tg) (tt : MT) (te : ME) (sw : Sl) (n i : Nat) (acc : List MV) (h : MH) : lcM it t tt te sw (n + 1) i acc h = match it.at h i with
    | some none => .ok (.ref h.length) (h ++ [.lst acc])
    | some (some v) => match t.run v sw with
      | some s2 => match tt s2 h with
        | .ok true h3 => (match te s2 h3 with
          | .ok y h4 => if acc.length < sizeLine then lcM it t tt te sw n (i + 1) (acc ++ [y]) h4 else .stuck
          | _ => .stuck)
        | .ok false h3 => lcM it t tt te sw n (i + 1) acc h3
        | _ => .stuck
      | none => .stuck
    | none => .stuck := rfl
def eLc (mi : MI) (ws : List Nat) (t : Tg) (tt : MT) (te : ME) : ME := fun s h => (mi s h).bind fun it h1 => lcM it t tt te (wipeM s ws) (it.fuel h1) 0 [] h1
section
variable {X : Cx} {W : WX} {elt tg iter c : Expr} {ifs : List Expr} {scope : Scope} {own : List (Str × Nat)} {pos : Pos} {mi : MI} {t : Tg} {tt : MT} {te : ME}
theorem mts_nil {W : WX} : PTs X [] (tMT X.w X.K X.mg W tYesM) := ⟨fun pins s σ H Q I hh => by
  obtain ⟨r, sm, h, hs, ss, w⟩ := hh
  exact pts_nil.run pins s σ H Q I (Wt.plainB hs w)⟩
theorem HS.side {ww : World} {K : PySem.W.Frag} {mg : Str → Option Value} {r : List Addr} {h : MH} {H : Hp} (hs : HS ww K mg r h H) {D : Addr} {o u : HO} (hn : D ∉ r) (ho : H D = some o) (hnt : plainO o) : HS ww K mg r h (upd H D u) ∧ Kp K H (upd H D u) := by
  have hpl : ∀ o', H D = some o' → plainO o' := fun o' e => by
    rw [ho] at e
    cases e
    exact hnt
  have ht : Kp K H (upd H D u) := Kp.upd hpl
  refine ⟨⟨hs.len, hs.nd, fun n o a e1 e2 => ?_, tabs_upd hpl hs.tb⟩, ht⟩
  have hne : a ≠ D := fun z => hn (z ▸ List.mem_of_getElem? e2)
  rw [upd_ne hne]
  exact (hs.at_ n o a e1 e2).mono ht fun _ _ z => z
theorem tLc_of (hw : ∀ i ∈ t.own, i ∈ own.map (·.2)) : ∀ (s : L2.St) (H : Hp) (Q : VK), tM X.w X.K X.mg W (eLc mi (own.map (·.2)) t tt te) s H Q → tLc (tMI X.w X.K X.mg W mi) (t.tg X.K) (tMT X.w X.K X.mg W0 tt) (tM X.w X.K X.mg W0 te) (own.map (·.2)) s H Q := fun s H Q ⟨r, sm, h, hs, ss, w⟩ => by
  refine ⟨r, sm, h, hs, ss, (Wt.bind (rel := IR X.w X.K X.mg) w).imp (fun _ _ _ z => z) fun J H1 ⟨r1, h1, it, p1, ir, w1⟩ D hD => ?_⟩
  have ss1 := ss.post hs p1
  have pD := p1.hs.extra (u := .lst []) hD
  have hDr1 : D ∉ r1 := p1.hs.notNone hD
  refine ⟨fun i m H' => ∃ r' h' acc ys, Post X.w X.K X.mg r1 H1 r' h' H' ∧ D ∉ r' ∧ H' D = some (.lst ys) ∧ RepL X.K X.mg r' H' acc ys ∧ Wt X.w X.K X.mg (Rep X.K X.mg) r1 H1 (fun c d H2 => W c d s H2) Q (lcM it t tt te (wipeM sm (own.map (·.2))) m i acc h'),
    ⟨it.fuel h1, r1, h1, [], [], pD, hDr1, upd_same, .nil, w1⟩, ?_⟩
  rintro i m H' ⟨r', h', acc, ys, p', hDr, eD, ql, w'⟩
  obtain ⟨st, gs⟩ := ir r' h' H' i p'
  have fin : Wt X.w X.K X.mg (Rep X.K X.mg) r1 H1 (fun c d H2 => W c d s H2) Q (.ok (.ref h'.length) (h' ++ [.lst acc])) → Q (.ref D) H' := fun w2 => by
    have hm : ∀ (n : Nat) (z : Addr), r'[n]? = some z → (r' ++ [D])[n]? = some z := fun n z e => by
      rw [List.getElem?_append_left (List.getElem?_eq_some_iff.mp e).1]; exact e
    refine w2 (r' ++ [D]) H' (.ref D) ⟨?_, ⟨by simp [p'.hs.len], ?_, fun n o a e1 e2 => ?_, p'.hs.tb⟩, fun b o hb e t => ⟨?_, (p'.fr b o hb e t).2⟩, p'.fz⟩ (.ref (by rw [← p'.hs.len]; simp))
    · obtain ⟨u, hu⟩ := p'.pre
      exact ⟨u ++ [D], by rw [hu, List.append_assoc]⟩
    · rw [List.nodup_append]
      refine ⟨p'.hs.nd, by simp, fun a ha b hb z => ?_⟩
      have : b = D := by simpa using hb
      subst this
      subst z
      exact hDr ha
    · by_cases hn : n < r'.length
      · have hl : n < h'.length := by rw [← p'.hs.len]; exact hn
        rw [List.getElem?_append_left hn] at e2
        rw [List.getElem?_append_left hl] at e1
        exact (p'.hs.at_ n o a e1 e2).mono Kp.refl hm
      · have hn' : r'.length ≤ n := by omega
        have hl' : h'.length ≤ n := by rw [← p'.hs.len]; exact hn'
        rw [List.getElem?_append_right hn'] at e2
        rw [List.getElem?_append_right hl'] at e1
        have z : n - r'.length = 0 := by
          have := (List.getElem?_eq_some_iff.mp e2).1
          simp at this
          omega
        rw [z] at e2
        rw [← p'.hs.len, z] at e1
        simp at e1 e2
        subst e1 e2
        rw [eD]
        exact ⟨ys, rfl, RepL.mono Kp.refl hm _ _ ql⟩
    · intro hm'
      rcases List.mem_append.mp hm' with z | z
      · exact (p'.fr b o hb e t).1 z
      · have : b = D := by simpa using z
        subst this
        rw [hD] at e; cases e
  cases m with
  | zero =>
    rw [lcM_zero] at w'
    split at w'
    · rename_i e
      exact .inl ⟨st e, fin w'⟩
    · exact w'.elim
  | succ m =>
    rw [lcM_succ] at w'
    split at w'
    · rename_i e
      exact .inl ⟨st e, fin w'⟩
    · rename_i v e
      obtain ⟨go, yl⟩ := gs v e
      split at w'
      · rename_i s2 es2
        refine .inr ⟨go, fun H2 => ∃ r' h' acc ys, Post X.w X.K X.mg r1 H1 r' h' H2 ∧ D ∉ r' ∧ H2 D = some (.lst ys) ∧ RepL X.K X.mg r' H2 acc ys ∧ Wt X.w X.K X.mg (Rep X.K X.mg) r1 H1 (fun c d H3 => W c d s H3) Q (lcM it t tt te (wipeM sm (own.map (·.2))) m (i + 1) acc h'), fun H2 z => ⟨m, Nat.lt_succ_self m, z⟩, fun x H2 y => ?_⟩
        obtain ⟨p2, q2⟩ := yl x H2 y
        have eD2 := p2.at_ eD hDr
        have ql2 := p2.repL p'.hs ql
        have pp := p'.trans p2
        have ssw : SS X.K X.mg r' H2 (wipeM sm (own.map (·.2))) (L2.wipe s (own.map (·.2))) := (((ss1.post p1.hs p').post p'.hs p2)).wipe _
        refine tg_ok (ws := own.map (·.2)) ssw q2 es2 hw fun σ2 ss2 ew hlen => ⟨ew.trans ?_, ?_⟩
        · -- wiping twice is wiping once
          exact wipe_wipe _ _
        · refine ⟨r', s2, h', p2.hs, ss2, ?_⟩
          cases et : tt s2 h' with
          | stuck => rw [et] at w'; exact w'.elim
          | err x h3 => rw [et] at w'; exact w'.elim
          | ok b h3 =>
            rw [et] at w'
            intro r3 H3 b' p3 eb
            subst eb
            have eD3 := p3.at_ eD2.1 eD2.2
            cases b with
            | false => exact iteF ⟨r3, h3, acc, ys, pp.trans p3, eD3.2, eD3.1, p3.repL p2.hs ql2, w'⟩
            | true =>
              refine iteT ⟨r3, s2, h3, p3.hs, ss2.post p2.hs p3, ?_⟩
              dsimp only at w'
              cases ee : te s2 h3 with
              | stuck => rw [ee] at w'; exact w'.elim
              | err x h4 => rw [ee] at w'; exact w'.elim
              | ok y4 h4 =>
                rw [ee] at w'
                dsimp only at w'
                split at w'
                · rename_i hz
                  intro r4 H4 z4 p4 q4
                  have eD4 := p4.at_ eD3.1 eD3.2
                  have ql4 := p4.repL p3.hs (p3.repL p2.hs ql2)
                  refine ⟨ys, eD4.1, by rw [← ql4.length]; exact hz, ?_⟩
                  obtain ⟨hs5, ht5⟩ := p4.hs.side (u := .lst (ys ++ [z4])) eD4.2 eD4.1 trivial
                  have p5 := (pp.trans p3).trans p4
                  refine ⟨r4, h4, acc ++ [y4], ys ++ [z4], ⟨p5.pre, hs5, fun b o hb eb t => ⟨(p5.fr b o hb eb t).1, ?_⟩, fun b o u eb => by rw [upd_ne (fun (z : b = D) => by rw [z, hD] at eb; cases eb)]; exact p5.fz b o u eb⟩, eD4.2, upd_same, ?_, w'⟩
                  · have hne : b ≠ D := fun z => by rw [z, hD] at eb; cases eb
                    rw [upd_ne hne]
                    exact (p5.fr b o hb eb t).2
                  · exact (RepL.mono ht5 (fun _ _ z => z) _ _ ql4).append (.cons (Rep.mono ht5 (fun _ _ z => z) _ _ q4) .nil)
                · exact w'.elim
      · exact w'.elim
    · exact w'.elim
theorem me_lc (hc : X.calm = true) (hN : X.N.Nodup) (hi : PIm X W tg iter mi) (ok : BlkOk X.N X.env.scope scope own) (hw : ∀ i ∈ t.own, i ∈ own.map (·.2))
    (hg : ∀ (s : Shared) (H : Hp) (C : Addr) (cl : List (Str × Addr)) (fp : List Addr), PG (X.blk s H scope (compEnvC scope cl C X.env) fp) tg (t.tg X.K))
    (ht : ∀ (s : Shared) (H : Hp) (C : Addr) (cl : List (Str × Addr)) (fp : List Addr), PTs (X.blk s H scope (compEnvC scope cl C X.env) fp) ifs (tMT X.w X.K X.mg W0 tt))
    (he : ∀ (s : Shared) (H : Hp) (C : Addr) (cl : List (Str × Addr)) (fp : List Addr), PEm (X.blk s H scope (compEnvC scope cl C X.env) fp) W0 elt te) (hfs : ∀ x, foldedSetIterable iter X.env x = pure x := by intro _; rfl) :
    PEm X W (.ListComp elt [⟨tg, iter, ifs, 0⟩] scope pos) (eLc mi (own.map (·.2)) t tt te) := (pe_lc hc hN hi ok hg ht he hfs).mimp (tLc_of hw)
theorem ms_setLc {i : Nat} {y : Str} {py spos : Pos} (hc : X.calm = true) (hN : X.N.Nodup) (hy : X.N[i]? = some y) (hyl : X.env.scope.names.lookup y = some .local)
    (hsw : swapsWith (.ListComp elt [⟨tg, iter, ifs, 0⟩] scope pos) (some (.Name y py)) spos.line X.env = pure true) (hi : PIm X W tg iter mi) (ok : BlkOk X.N X.env.scope scope own) (hw : ∀ i ∈ t.own, i ∈ own.map (·.2))
    (hg : ∀ (s : Shared) (H : Hp) (C : Addr) (cl : List (Str × Addr)) (fp : List Addr), PG (X.blk s H scope (compEnvC scope cl C X.env) fp) tg (t.tg X.K))
    (ht : ∀ (s : Shared) (H : Hp) (C : Addr) (cl : List (Str × Addr)) (fp : List Addr), PTs (X.blk s H scope (compEnvC scope cl C X.env) fp) ifs (tMT X.w X.K X.mg W0 tt))
    (he : ∀ (s : Shared) (H : Hp) (C : Addr) (cl : List (Str × Addr)) (fp : List Addr), PEm (X.blk s H scope (compEnvC scope cl C X.env) fp) W0 elt te) (hfs : ∀ x, foldedSetIterable iter X.env x = pure x := by intro _; rfl) :
    PSm X W (.Assign [.Name y py] (.ListComp elt [⟨tg, iter, ifs, 0⟩] scope pos) spos) (sAsg (eLc mi (own.map (·.2)) t tt te) (gNm i)) := (ps_setLc hc hN hy hyl hsw hi ok hg ht he hfs).mimp fun D s H ⟨r, sm, h, hs, ss, w⟩ =>
  tLc_of hw s H _ (tM_bindS hs ss w fun r1 h1 v x H1 hs1 ss1 p1 q1 w1 => WtS.nx hs1 (ss1.set q1 i) w1)
end
end MP

end
section
namespace MP
open PySem PySem.Spec PyProof.Rows L2
def ItE (K : PySem.W.Frag) (H0 : Hp) (n : Nat) (ys : Nat → Option V) : It :=
  ⟨fun i H => i < n ∧ ∀ a xs, SqT K H0 a xs → SqT K H a xs, fun i H v H' => ∃ T x, v = .ref T ∧ H T = none ∧ H' = upd H T (.tup [.int (i : Nat), x]) ∧ ys i = some x, fun i H => n ≤ i ∧ ∀ a xs, SqT K H0 a xs → SqT K H a xs⟩
def EnAt (n : Nat) (e it : Addr) (At : Nat → Heap → Prop) (j : Nat) (h : Heap) : Prop := j ≤ n ∧ (∃ old, IsEnum h e it (j : Int) old) ∧ At j h
section
variable {P : Program} {w : World} {K : PySem.W.Frag} {elts : List Expr} {kk : Nat} {tpos : Pos} {H0 : Hp} {n : Nat} {ys : Nat → Option V} {e it : Addr} {At : Nat → Heap → Prop}
theorem two_mem {b : Addr} (hb : b ∈ [e, it]) : b = e ∨ b = it := by
  cases hb with
  | head => exact .inl rfl
  | tail _ q => exact .inr (List.mem_singleton.mp q)
theorem Still.turn (S : Still P w K H0 n ys e it At) : Turn P w K (.Tuple elts kk tpos) (ItE K H0 n ys) [e, it] e (EnAt n e it At) where
  mem := List.mem_cons_self ..
  obj j h st b hb := by
    cases two_mem hb with
    | inl q =>
      obtain ⟨old, he⟩ := st.2.1
      exact q ▸ ⟨_, he, fun v z => by cases z⟩
    | inr q => exact q ▸ S.cell j h st.2.2
  keep j h h' st k := ⟨st.1, st.2.1.imp fun old he => k e (List.mem_cons_self ..) _ he, S.move j h h' st.2.2 fun o q => k it (List.mem_cons_of_mem _ (List.mem_cons_self ..)) o q⟩
  item X hP hw hK hc j pins s σ H E I hf st hg := by
    obtain ⟨fp, Pv, Sd, D, hif, hef, hS, hAt, hv⟩ := S.draw X pins σ H s j hP hw hK hc I hg.2 st.2.2
    cases hP
    cases hw
    cases hK
    have W := WalksT.enumerateD D e S.ne hef hif
    apply W.item j s _ E hg.1 ⟨st.2.1, hS⟩
    intro T vals h1 tk pt hT hv1 mid k1
    refine ⟨_, rfl, W.go elts kk tpos j T { s with heap := h1, toks := tk } _ E mid fun h2 st2 k2 => ?_⟩
    obtain ⟨t, v, pv, rfl⟩ := pt
    obtain ⟨x, ex, rx⟩ := hv j v pv
    have hT2 : IsTup h2 T #[.int (j : Int) t, v] := hv1.at fun o q => k2 T o (W.apart j T h1 mid) q
    have I2 := I.turnedNew (t' := tk) (h' := h2) (ch := [e, it]) (ob := .tup [.int (j : Nat), x]) (fun b o hb q => k2 b o hb (k1 b o hb q)) hf hT ⟨(by decide : 2 ≤ sizeLine), _, .cons ⟨t, rfl⟩ (.cons rx .nil), hT2⟩
    refine ⟨.ref T, _, I2, rfl, ⟨T, x, rfl, I.hok.fresh hT, rfl, ex⟩, ⟨hg.1, st2.1, hAt _ _ st2.2⟩, fun b hb => ?_⟩
    have hbT : b ≠ T := fun q => W.apart j T h1 mid (q ▸ hb)
    exact (upd_ne hbT).trans (hf b hb).1
  done X hP hw hK hc j pins s σ H E I hf st hg := by
    obtain ⟨fp, Pv, Sd, D, hif, hef, hS, hAt, hv⟩ := S.draw X pins σ H s j hP hw hK hc I hg.2 st.2.2
    cases hP
    cases hw
    cases hK
    obtain rfl : j = n := Nat.le_antisymm st.1 hg.1
    exact (WalksT.enumerateD D e S.ne hef hif).done s _ E ⟨st.2.1, hS⟩ fun h1 tk k => ⟨rfl, I.turnedL k hf⟩
  self A j s Q E st h := by
    obtain ⟨old, he⟩ := st.2.1
    exact wpAny_pyIter_enum he h
theorem still_text (x : Str) (t : Tok) (hne : e ≠ it) : Still P w K H0 x.cps.size (fun i => x.cps[i]?.map fun c => .str ⟨#[c]⟩) e it (fun j h => h.IsStrIter it (strIterType x) x t j) where
  ne := hne
  cell j h st := by
    obtain ⟨o, ho, _, hd⟩ := st
    exact ⟨o, ho, fun v q => by cases hd.symm.trans q⟩
  move j h h' st k := by
    obtain ⟨o, ho, r⟩ := st
    exact ⟨o, k o ho, r⟩
  draw X pins σ H s j hP hw hK hc I hq st := by
    refine ⟨_, _, _, Draws.text (A := X.A.in1) (I.ok.hd hc) it x t, List.mem_singleton.mpr rfl, fun q => hne (List.mem_singleton.mp q), st, fun _ _ q => q, fun k v hv => ?_⟩
    obtain ⟨c, u, ec, rfl⟩ := hv
    exact ⟨.str ⟨#[c]⟩, by simp only [ec, Option.map_some], u, rfl⟩
theorem still_tuple (a : Addr) (xs : List V) (hq0 : SqT K H0 a xs) (hne : e ≠ it) (hea : e ≠ a) (hai : a ≠ it) : Still P w K H0 xs.length (fun i => xs[i]?) e it (fun j h => h.IsTupleIter it a j) where
  ne := hne
  cell j h st := by
    obtain ⟨o, ho, _, hd⟩ := st
    exact ⟨o, ho, fun v q => by cases hd.symm.trans q⟩
  move j h h' st k := st.at k
  draw X pins σ H s j hP hw hK hc I hq st := by
    cases hK
    obtain ⟨its, rv, p, _⟩ := I.tuple (hq a xs hq0)
    have D : Draws P w X.A.in1 it [it, a] its.toArray.size _ _ := Draws.tuple (A := X.A.in1) (I.ok.hd hc) it a hai its.toArray
    rw [List.size_toArray, ← rv.length] at D
    refine ⟨_, _, _, D, List.mem_cons_self .., fun q => ?_, ⟨st, p⟩, fun _ _ q => q.1, fun k v hv => ?_⟩
    · exact (two_mem q).elim hne hea
    · rw [List.getElem?_toArray] at hv
      have hk : k < xs.length := by rw [rv.length]; exact (List.getElem?_eq_some_iff.mp hv).1
      obtain ⟨v', e1, r1⟩ := rv.get (List.getElem?_eq_getElem hk)
      exact ⟨_, List.getElem?_eq_getElem hk, Option.some.inj (e1.symm.trans hv) ▸ r1⟩
end
abbrev enIt (a : Addr) : Obj := { cls := .type "tuple_iterator", data := .fields #[.ref a, .int 0 0] }
abbrev enOb (it : Addr) : Obj := { cls := .type "enumerate", data := .fields #[.none, .bool false, .ref it, rawInt 0, .none, .none] }
theorem new_enumT (a : Addr) (its : Array Value) : Meets (Builtin.«enumerate.__new__» ⟨[.type "enumerate", .ref a], []⟩) fun _ R s =>
    s.heap.IsTuple a its ∧ R (.ok (.ret (.ref (s.heap.push (enIt a)).objs.size))) { s with heap := (s.heap.push (enIt a)).push (enOb s.heap.objs.size) } := by
  refine .of_wp fun P w A R s hs => ?_
  obtain ⟨ht, hr⟩ := hs
  cases s with
  | mk hp g d tk os =>
    have sub := sub_enumerate
    have go {A' : Around} {E Q : Value → Shared → Prop} (q : Q (.ref hp.objs.size) ⟨hp.push (enIt a), g, d, tk, os⟩) : wpAny (model P w) A' (pyIter (.ref a)) Q E ⟨hp, g, d, tk, os⟩ := wpAny_pyIter_tuple ht q
    wp_walk using go
    apply wpAny_stack_any
    intro top
    apply wpAny_pure
    split
    case h_1 => generalize (_ == Value.type "enumerate") = b; cases b <;> (wp_walk using go; exact ⟨_, rfl, hr⟩)
    all_goals (wp_walk using go; exact ⟨_, rfl, hr⟩)
theorem call_enumT {P : Program} {w : World} {A : Around} {E : Value → Shared → Prop} {s : Shared} {a : Addr} {its : Array Value} {Q : Value → Shared → Prop} (ht : s.heap.IsTuple a its)
    (q : Q (.ref (s.heap.objs.size + 1)) { s with heap := (s.heap.push (enIt a)).push (enOb s.heap.objs.size) }) : wpAny (model P w) A (call (.type "enumerate") [.ref a]) Q E s := by
  have sz : (s.heap.push (enIt a)).objs.size = s.heap.objs.size + 1 := Heap.size_push ..
  have at1 := Heap.get?_push_size (s.heap.push (enIt a)) (o := enOb s.heap.objs.size) rfl
  exact callType_new F.called_enumerate (by decide) (F.typeCall_enumerate_1 _) (F.newCall_enumerate_1 _) (fun o => F.args_object_init_2 o _) F.entry_enumerate_new (new_enumT a its) ⟨ht, ⟨_, at1, rfl⟩, sz.symm ▸ q⟩
def iEnumX (K : PySem.W.Frag) (ta : TA) : TI := fun σ H R => ta σ H fun vs H1 => (∃ x, vs = [.str x] ∧ R (ItE K H1 x.cps.size fun i => x.cps[i]?.map fun c => .str ⟨#[c]⟩) H1) ∨ ∃ a ys, vs = [.ref a] ∧ SqT K H1 a ys ∧ R (ItE K H1 ys.length fun i => ys[i]?) H1
theorem pi_enumX {X : Cx} {e : Expr} {ta : TA} {p pos tpos : Pos} {elts : List Expr} {kk : Nat} (hg : Gl X "enumerate") (hm : X.mg "enumerate" = none) (ha : PA X [e] ta) (hs : starEach [e] X.env = [(false, eval e X.env)] := by rfl) :
    PI X (.Tuple elts kk tpos) (.Call (.Name "enumerate" p) [e] [] pos) (iEnumX X.K ta) := by
  constructor
  intro pins s σ H Rr I h
  refine Call_ ?_
  apply ld_blt I hg hm boot_enumerate
  refine PyProof.Rows.callWith_type1 (thn (ha.run pos pins s σ H _ I h) ?_) hs rfl
  rintro us s1 ⟨vs, H1, I1, r1, q1⟩
  have new (b : Addr) (hb : b ∈ [s1.heap.objs.size + 1, s1.heap.objs.size]) : FpOk X pins H1 b := by
    have le : s1.heap.objs.size ≤ b := (two_mem hb).elim (fun z => z ▸ Nat.le_succ _) fun z => Nat.le_of_eq z.symm
    exact I1.fpOk le (I1.hok.fresh le)
  cases q1 with
  | inl q =>
    obtain ⟨x, rfl, q⟩ := q
    obtain ⟨u, rfl, t, rfl⟩ := vals1 r1
    apply call_enumerate_str
    intro h' he hit _ hk
    exact wpAny_pyIter_enum he ⟨_, _, _, _, H1, rfl, I1.kept (t' := s1.toks) hk, (still_text x t (Nat.succ_ne_self _)).turn, ⟨Nat.zero_le _, ⟨_, he⟩, hit⟩, new, q⟩
  | inr q =>
    obtain ⟨a, ys, rfl, hq, q⟩ := q
    obtain ⟨u, rfl, ru⟩ := vals1 r1
    cases (show u = Value.ref a from ru)
    obtain ⟨its, _, tp, _⟩ := I1.tuple hq
    have lt : a < s1.heap.objs.size := tp.lt
    apply call_enumT tp
    have sz : (s1.heap.push (enIt a)).objs.size = s1.heap.objs.size + 1 := Heap.size_push ..
    have he : IsEnum ((s1.heap.push (enIt a)).push (enOb s1.heap.objs.size)) (s1.heap.objs.size + 1) s1.heap.objs.size 0 .none := sz ▸ Heap.get?_push_size (s1.heap.push (enIt a)) rfl
    have hit : ((s1.heap.push (enIt a)).push (enOb s1.heap.objs.size)).IsTupleIter s1.heap.objs.size a 0 := ⟨_, Heap.get?_push_of_some _ (Heap.get?_push_size s1.heap (o := enIt a) rfl), rfl, rfl⟩
    exact wpAny_pyIter_enum he ⟨_, _, _, _, H1, rfl, I1.kept (t' := s1.toks) fun b o z => Heap.get?_push_of_some _ (Heap.get?_push_of_some _ z), (still_tuple a ys hq (Nat.succ_ne_self _) (Nat.ne_of_gt (Nat.lt_succ_of_lt lt)) (Nat.ne_of_lt lt)).turn, ⟨Nat.zero_le _, ⟨_, he⟩, hit⟩, new, q⟩
theorem enumL_get : ∀ (xs : List MV) (k i : Nat), (enumL k xs)[i]? = xs[i]?.map fun x => .tup [.int ((k + i : Nat) : Int), x]
  | [], _, i => by simp [enumL]
  | x :: xs, k, 0 => by simp [enumL]
  | x :: xs, k, i + 1 => by
    simp only [enumL, List.getElem?_cons_succ]
    rw [enumL_get xs (k + 1) i]
    have : k + 1 + i = k + (i + 1) := by omega
    rw [this]
def jEnum (a : MA) : MI := fun s h => (a s h).bind fun xs h1 => match xs with
  | [.str l] => .ok (.items (enumL 0 (l.map fun c => .str [c]))) h1
  | [.tup xs] => .ok (.items (enumL 0 xs)) h1
  | [.ro xs] => .ok (.items (enumL 0 xs)) h1
  | [.lv xs] => .ok (.items (enumL 0 xs)) h1
  | [.ref n] => (match lstAt h1 n with
    | some _ => .ok (.enumL n) h1
    | none => .stuck)
  | _ => .stuck
section
variable {X : Cx} {W : WX} {e : Expr} {ms : MA} {p pos tpos : Pos} {elts : List Expr} {kk : Nat}
theorem ir_itE {ww : World} {K : PySem.W.Frag} {mg : Str → Option Value} {r0 : List Addr} {h0 : MH} {H0 : Hp} {vs : List MV} {ys : List V} (hs : HS ww K mg r0 h0 H0) (q : RepL K mg r0 H0 vs ys) : IR ww K mg r0 H0 (.items (enumL 0 vs)) (ItE K H0 ys.length fun i => ys[i]?) := fun r h H i po => by
  have hl := q.length
  have hat : MIt.at (.items (enumL 0 vs)) h i = some (vs[i]?.map fun x => .tup [.int (i : Int), x]) := by
    simp only [MIt.at, enumL_get, Nat.zero_add]
  refine ⟨fun e => ⟨?_, po.sqT hs⟩, fun v e => ?_⟩
  · rw [hat] at e
    have : vs[i]? = none := by simpa using e
    rw [← hl]
    exact List.getElem?_eq_none_iff.mp this
  · rw [hat] at e
    cases ev : vs[i]? with
    | none => rw [ev] at e; cases e
    | some u =>
      rw [ev] at e
      have ee : MV.tup [.int (i : Int), u] = v := by simpa using e
      obtain ⟨y, ey, qy⟩ := q.get ev
      refine ⟨⟨by rw [← hl]; exact (List.getElem?_eq_some_iff.mp ev).1, po.sqT hs⟩, fun x H' yl => ?_⟩
      obtain ⟨T, z, rfl, hT, rfl, ez⟩ := yl
      have ez : ys[i]? = some z := ez
      rw [ey] at ez
      cases ez
      rw [← ee]
      exact po.hs.newT hT (.cons (.int _) (.cons (po.rep hs qy) .nil))
theorem ir_enumL {ww : World} {K : PySem.W.Frag} {mg : Str → Option Value} {r0 : List Addr} {H0 : Hp} {n : Nat} {p : Addr} (e : r0[n]? = some p) : IR ww K mg r0 H0 (.enumL n) (Ite K p) := fun r h H i po => by
  refine ⟨fun q => ?_, fun v q => ?_⟩
  · simp only [MIt.at, Option.map_eq_some_iff] at q
    obtain ⟨xs, l, q⟩ := q
    obtain ⟨ys, sq, ql⟩ := post_list po e l
    exact ⟨ys, sq, by rw [← ql.length]; exact List.getElem?_eq_none_iff.mp (by simpa using q)⟩
  · simp only [MIt.at, Option.map_eq_some_iff] at q
    obtain ⟨xs, l, u, q, rfl⟩ := q
    obtain ⟨ys, sq, ql⟩ := post_list po e l
    obtain ⟨y, e1, q1⟩ := ql.get q
    refine ⟨⟨ys, y, sq, e1⟩, fun x H' yl => ?_⟩
    obtain ⟨T, z, rfl, hT, rfl, yl⟩ := yl
    have := yl ys sq
    rw [e1] at this
    cases this
    exact po.hs.newT hT (.cons (.int _) (.cons q1 .nil))
theorem ir_roE {ww : World} {K : PySem.W.Frag} {mg : Str → Option Value} {r0 : List Addr} {h0 : MH} {H0 : Hp} {vs : List MV} {ys : List V} {a : Addr} (hs : HS ww K mg r0 h0 H0) (sq : ∀ H, Kp K H0 H → SqL K H a ys) (q : RepL K mg r0 H0 vs ys) : IR ww K mg r0 H0 (.items (enumL 0 vs)) (Ite K a) := fun r h H i po => by
  have hl := q.length
  have st := sq H (po.kp hs)
  have hat : MIt.at (.items (enumL 0 vs)) h i = some (vs[i]?.map fun x => .tup [.int (i : Int), x]) := by
    simp only [MIt.at, enumL_get, Nat.zero_add]
  refine ⟨fun e => ⟨ys, st, ?_⟩, fun v e => ?_⟩
  · rw [hat] at e
    have : vs[i]? = none := by simpa using e
    rw [← hl]
    exact List.getElem?_eq_none_iff.mp this
  · rw [hat] at e
    cases ev : vs[i]? with
    | none => rw [ev] at e; cases e
    | some u =>
      rw [ev] at e
      have ee : MV.tup [.int (i : Int), u] = v := by simpa using e
      obtain ⟨y, ey, qy⟩ := q.get ev
      refine ⟨⟨ys, y, st, ey⟩, fun x H' yl => ?_⟩
      obtain ⟨T, z, rfl, hT, rfl, ez⟩ := yl
      have ez := ez ys st
      rw [ey] at ez
      cases ez
      rw [← ee]
      exact po.hs.newT hT (.cons (.int _) (.cons (po.rep hs qy) .nil))
theorem mi_enum (hg : Gl X "enumerate") (hm : X.mg "enumerate" = none) (ha : PAm X W [e] ms) (hst : starEach [e] X.env = [(false, eval e X.env)] := by rfl) : PIm X W (.Tuple elts kk tpos) (.Call (.Name "enumerate" p) [e] [] pos) (jEnum ms) := by
  refine ⟨fun pins s0 σ H Rr I hh => ?_⟩
  obtain ⟨r, sm, h, hs, ss, w⟩ := hh
  cases ea : ms sm h with
  | stuck => simp only [jEnum, ea, R.bind] at w; exact w.elim
  | err x h1 =>
    refine (pi_enum hg hm ha hst).run pins s0 σ H Rr I ⟨r, sm, h, hs, ss, ?_⟩
    simp only [jEnum, ea, R.bind] at w
    rw [ea]
    exact w
  | ok vs h1 =>
    simp only [jEnum, ea, R.bind] at w
    split at w
    · rename_i l
      refine (pi_enumX hg hm ha hst).run pins s0 σ H Rr I ⟨r, sm, h, hs, ss, ?_⟩
      rw [ea]
      intro r1 H1 x p1 q1
      obtain ⟨y, rfl, q⟩ := repL1 q1
      cases q
      refine .inl ⟨_, rfl, ?_⟩
      have key : RepL X.K X.mg r1 H1 (l.map fun c => MV.str [c]) (l.map fun c => V.str ⟨#[c]⟩) := by
        clear w ea q1
        induction l with
        | nil => exact .nil
        | cons c l ih => exact .cons (.str [c]) ih
      have ir := ir_itE p1.hs key
      have e1 : (S l).cps.size = (l.map fun c => V.str ⟨#[c]⟩).length := by simp [S]
      have e2 : (fun i => (S l).cps[i]?.map fun c => V.str ⟨#[c]⟩) = fun (i : Nat) => (l.map fun c => V.str ⟨#[c]⟩)[i]? := by
        funext i
        simp [S]
      rw [e1, e2]
      exact w r1 H1 _ p1 ir
    · rename_i zs
      refine (pi_enumX hg hm ha hst).run pins s0 σ H Rr I ⟨r, sm, h, hs, ss, ?_⟩
      rw [ea]
      intro r1 H1 x p1 q1
      obtain ⟨y, rfl, q⟩ := repL1 q1
      cases q with
      | tup sq ql => exact .inr ⟨_, _, rfl, sq, w r1 H1 _ p1 (ir_itE p1.hs ql)⟩
    · rename_i zs
      refine (pi_enum hg hm ha hst).run pins s0 σ H Rr I ⟨r, sm, h, hs, ss, ?_⟩
      rw [ea]
      intro r1 H1 x p1 q1
      obtain ⟨y, rfl, q⟩ := repL1 q1
      cases q with
      | ro sq ql => exact ⟨_, _, rfl, sq.sq, w r1 H1 _ p1 (ir_roE p1.hs (fun H kp => (kp.l _ _ sq).sq) ql)⟩
    · rename_i zs
      refine (pi_enum hg hm ha hst).run pins s0 σ H Rr I ⟨r, sm, h, hs, ss, ?_⟩
      rw [ea]
      intro r1 H1 x p1 q1
      obtain ⟨y, rfl, q⟩ := repL1 q1
      cases q with
      | lv sq ql => exact ⟨_, _, rfl, sq.sq, w r1 H1 _ p1 (ir_roE p1.hs (fun H kp => (kp.z _ _ sq).sq) ql)⟩
    · rename_i n
      refine (pi_enum hg hm ha hst).run pins s0 σ H Rr I ⟨r, sm, h, hs, ss, ?_⟩
      rw [ea]
      intro r1 H1 x p1 q1
      obtain ⟨y, rfl, q⟩ := repL1 q1
      split at w
      · rename_i xs l
        cases q with
        | ref en =>
          obtain ⟨ys, sq, ql⟩ := p1.hs.list en l
          exact ⟨_, ys, rfl, sq, w r1 H1 _ p1 (ir_enumL en)⟩
      · exact w.elim
    · exact w.elim
end
end MP

end
section
namespace MP
open PySem PySem.Spec PyProof.Rows L2
section
variable {X : Cx} {W : WX} {a b c e e2 : Expr} {es : List Expr} {ma mb mc : ME} {ms : MA} {p pos tpos : Pos} {elts : List Expr} {kk : Nat}
def eNeg (a : ME) : ME := fun s h => (a s h).bind fun x h1 => match x with
  | .int i => .ok (.int (-i)) h1
  | _ => .stuck
theorem me_neg (ha : PEm X W a ma) : PEm X W (.UnaryOp .USub a pos) (eNeg ma) := (pe_un un_neg ha).mimp fun s H Q ⟨r, sm, h, hs, ss, w⟩ =>
  tM_bind hs ss w fun r1 h1 v x H1 hs1 ss1 p1 q1 w1 => by
    cases v with
    | int i => cases q1; exact ⟨i, rfl, Wt.plain hs1 w1 (.int _)⟩
    | _ => exact w1.elim
theorem rev_S (l : CP) (u : Tok) : Txt.sliceBy (S l) none none (-1, u) = S l.reverse := by
  have h := PyProof.Rows.step_rev_list (S l) u
  have e : (Txt.sliceBy (S l) none none (-1, u)).cps.toList = l.reverse := by
    rw [h, S_length]
    apply List.ext_getElem
    · simp
    · intro i h1 h2
      simp only [List.length_map, List.length_range] at h1
      simp only [S, Array.getD, List.getElem_reverse, List.getElem_map, List.getElem_range, List.size_toArray]
      rw [dif_pos (by omega)]
      rfl
  have : Txt.sliceBy (S l) none none (-1, u) = ⟨l.reverse.toArray⟩ := by
    cases hx : Txt.sliceBy (S l) none none (-1, u) with
    | mk cps =>
      rw [hx] at e
      simp only at e
      rw [← e]
  exact this
theorem me_rev {k : Nat} {pa p2 p3 : Pos} (he : PEm X W e ma) : PEm X W (.Subscript e (.Slice none none (some (.UnaryOp .USub (.Constant (.int 1) k pa) p2)) p3) pos) (eRev ma) := by
  refine ⟨fun pins s0 σ H Q I hh => ?_⟩
  obtain ⟨r, sm, h, hs, ss, w⟩ := hh
  cases ea : ma sm h with
  | stuck => simp only [eRev, ea, R.bind] at w; exact w.elim
  | err x h1 =>
    refine (pe_revL he).run pins s0 σ H Q I ⟨r, sm, h, hs, ss, ?_⟩
    simp only [eRev, ea, R.bind] at w
    rw [ea]
    exact w
  | ok v h1 =>
    simp only [eRev, ea, R.bind] at w
    cases v with
    | str l =>
      dsimp only at w
      split at w
      · rename_i hl
        refine Subscript_ (thn (he.run pins s0 σ H (fun y H1 => ∃ r1, y = .str (S l) ∧ Post X.w X.K X.mg r H r1 h1 H1) I ⟨r, sm, h, hs, ss, by rw [ea]; intro r1 H1 x p1 q1; cases q1; exact ⟨r1, rfl, p1⟩⟩) fun v s1 ⟨x, H1, I1, rx, r1, ex, p1⟩ => ?_)
        subst ex
        obtain ⟨tx, rfl⟩ := rx
        have hst : PO X (some (.UnaryOp .USub (.Constant (.int 1) k pa) p2)) (tPart (tUn (rU fun i => .int (-i)) (tC (.int 1)))) := po_some (pe_un un_neg pe_int)
        have left (t : Shared) (G : Hp) (J : L2.Inv X pins σ G t) := po_none.run pins t σ G (fun o G' => o = none ∧ G' = G) J ⟨rfl, rfl⟩
        refine wpAny_Slice (thn (left s1 H1 I1) fun vl s2 ⟨l2, H2, I2, pl, el, e2⟩ => ?_)
        subst el e2
        refine thn (left s2 H2 I2) fun vu s3 ⟨u, H3, I3, pu, eu, e3⟩ => ?_
        subst eu e3
        have back := hst.run pins s3 σ H3 (fun o G' => o = some (-1) ∧ G' = H3) I3 ⟨1, rfl, -1, rfl, rfl, rfl⟩
        refine thn back fun vs s4 ⟨o, H4, I4, ps, eo, e4⟩ => ?_
        subst eo e4
        have I5 : L2.Inv X pins σ H4 { s4 with heap := s4.heap.push { cls := .type "slice", data := .fields #[vl, vu, vs] } } := I4.kept (t' := s4.toks) fun b ob q => Heap.get?_push_of_some _ q
        show wpAny (model X.prog X.w) X.A (subscriptTail e (.Slice none none (some (.UnaryOp .USub (.Constant (.int 1) k pa) p2)) p3) (.str (S l) tx) (.ref s4.heap.objs.size)) (EP X pins σ Q) X.xe { s4 with heap := s4.heap.push { cls := .type "slice", data := .fields #[vl, vu, vs] } }
        obtain ⟨l0, rfl, hl0⟩ := IsPart.raw pl
        obtain ⟨u0, rfl, hu0⟩ := IsPart.raw pu
        obtain ⟨s0', rfl, hs0⟩ := IsPart.raw ps
        cases l0 with
        | some z => cases hl0
        | none =>
        cases u0 with
        | some z => cases hu0
        | none =>
        cases s0' with
        | none => cases hs0
        | some st =>
        obtain ⟨st1, st2⟩ := st
        have hst1 : st1 = -1 := by simpa using hs0
        subst hst1
        refine tail_any (ops := [.str (S l) tx, .ref s4.heap.objs.size]) (typeIs_str _ _ _) (F.slot_str_getitem.lookup) ?_ (by with_unfolding_all rfl)
        refine wpAny_getItem_str_slice (l := none) (u := none) (st := some (-1, st2)) ⟨_, Heap.get?_push_size _ rfl, rfl, rfl⟩ rfl ?_
        have hres : Q (.str (S l.reverse)) H4 := w r1 H4 _ p1 (.str _)
        rw [← rev_S l st2] at hres
        have hlen : (Txt.sliceBy (S l) none none (-1, st2)).length ≤ sizeLine := by
          rw [rev_S, S_length, List.length_reverse]; exact hl
        unfold Txt.sliceBy at hres hlen
        show Made.post (if ((((some ((-1 : Int), st2)).map (·.1)).getD 1 == 1 && (slicePicked (S l) none none (some (-1, st2))).length == (S l).length) = true) then Made.val (.str (S l) tx)
          else Made.str ⟨((slicePicked (S l) none none (some (-1, st2))).filterMap ((S l).cps[·]?)).toArray⟩) (EP X pins σ Q) _
        split
        · rename_i hcnd
          rw [if_pos hcnd] at hres
          exact ⟨.str (S l), H4, I5, ⟨tx, rfl⟩, hres⟩
        · rename_i hcnd
          rw [if_neg hcnd] at hres hlen
          exact ⟨hlen, .str _, H4, I5.tok _, ⟨_, rfl⟩, hres⟩
      · exact w.elim
    | _ =>
      refine (pe_revL he).run pins s0 σ H Q I ⟨r, sm, h, hs, ss, ?_⟩
      rw [ea]
      intro r1 H1 x p1 q1
      dsimp only at w
      split at w
      · rename_i xs l
        obtain ⟨_, ys, rfl, sq, ql⟩ := p1.hs.listV q1 l
        refine ⟨_, ys, rfl, sq, fun p hp => ?_⟩
        obtain ⟨po, re⟩ := p1.hs.newL hp ql.reverse
        exact w _ _ _ (p1.trans po) re
      · exact w.elim
def jZip (a : MA) : MI := fun s h => (a s h).bind fun xs h1 => match xs with
  | [.tup xs, .tup ys] => .ok (.items (pairs xs ys)) h1
  | [.ref n, .ref m] => (match lstAt h1 n, lstAt h1 m with
    | some _, some _ => .ok (.zipL n m) h1
    | _, _ => .stuck)
  | [.lv xs, .lv ys] => .ok (.items (pairs xs ys)) h1
  | _ => .stuck
theorem ms_par2 {i j : Nat} {x y : Str} {px py pt : Pos} {kt k2 pt2} (hc : X.calm = true) (hN : X.N.Nodup) (hi : X.N[i]? = some x) (hj : X.N[j]? = some y) (hij : i ≠ j)
    (hx : X.env.scope.names.lookup x = some .local) (hy : X.env.scope.names.lookup y = some .local) (ha : PAm X W [a, b] ms)
    (hw : swappedStores [.Tuple [.Name x px, .Name y py] kt pt] (.Tuple [a, b] k2 pt2) X.env = pure (some [x, y]) := by rfl)
    (hsw : swapsWithSole [.Tuple [.Name x px, .Name y py] kt pt] (.Tuple [a, b] k2 pt2) pos.line X.env = pure false := by rfl) : PSm X W (.Assign [.Tuple [.Name x px, .Name y py] kt pt] (.Tuple [a, b] k2 pt2) pos) (sPar i j ms) := (ps_par hc hN hi hj hij hx hy ha hw hsw).mimp fun D s H ⟨r, sm, h, hs, ss, w⟩ =>
  tMA_bindS hs ss w fun r1 h1 v x H1 hs1 ss1 p1 q1 w1 => by
    match v, q1, w1 with
    | [v1, v2], .cons q1 (.cons q2 .nil), w1 => exact ⟨_, _, rfl, WtS.nx hs1 ((ss1.set q1 i).set q2 j) w1⟩
    | [], _, w1 => exact w1.elim
    | [_], _, w1 => exact w1.elim
    | _ :: _ :: _ :: _, _, w1 => exact w1.elim
def sPar3 (i j l : Nat) (a : MA) : MS := fun s h => (a s h).bindS s fun vs h1 => match vs with
  | [u, v, w] => .nx (((s.set i (some u)).set j (some v)).set l (some w)) h1
  | _ => .stuck
theorem ms_par3 {i j l : Nat} {x y z : Str} {px py pz pt : Pos} {kt k2 pt2} (hc : X.calm = true) (hN : X.N.Nodup) (hi : X.N[i]? = some x) (hj : X.N[j]? = some y) (hl : X.N[l]? = some z) (hij : i ≠ j) (hil : i ≠ l) (hjl : j ≠ l)
    (hx : X.env.scope.names.lookup x = some .local) (hy : X.env.scope.names.lookup y = some .local) (hz : X.env.scope.names.lookup z = some .local) (ha : PAm X W [a, b, c] ms)
    (hw : swappedStores [.Tuple [.Name x px, .Name y py, .Name z pz] kt pt] (.Tuple [a, b, c] k2 pt2) X.env = pure (some [x, y, z]) := by rfl)
    (hsw : swapsWithSole [.Tuple [.Name x px, .Name y py, .Name z pz] kt pt] (.Tuple [a, b, c] k2 pt2) pos.line X.env = pure false := by rfl) : PSm X W (.Assign [.Tuple [.Name x px, .Name y py, .Name z pz] kt pt] (.Tuple [a, b, c] k2 pt2) pos) (sPar3 i j l ms) := (ps_par3 hc hN hi hj hl hij hil hjl hx hy hz ha hw hsw).mimp fun D s H ⟨r, sm, h, hs, ss, w⟩ =>
  tMA_bindS hs ss w fun r1 h1 v x H1 hs1 ss1 p1 q1 w1 => by
    match v, q1, w1 with
    | [v1, v2, v3], .cons q1 (.cons q2 (.cons q3 .nil)), w1 => exact ⟨_, _, _, rfl, WtS.nx hs1 (((ss1.set q1 i).set q2 j).set q3 l) w1⟩
    | [], _, w1 => exact w1.elim
    | [_], _, w1 => exact w1.elim
    | [_, _], _, w1 => exact w1.elim
    | _ :: _ :: _ :: _ :: _, _, w1 => exact w1.elim
def pairsM : List (ME × ME) → Sl → MH → R (List (MK × MV))
  | [], _, h => .ok [] h
  | (k, v) :: r, s, h => (k s h).bind fun x h1 => (v s h1).bind fun y h2 => (pairsM r s h2).bind fun ps h3 => match keyOf x with
    | some kk => .ok ((kk, y) :: ps) h3
    | none => .stuck
def merge (ps : List (MK × MV)) : List (MK × MV) := ps.foldl (fun acc kv => dPut kv.1 kv.2 acc) []
def eDisp (prs : List (ME × ME)) : ME := fun s h => (pairsM prs s h).bind fun ps h1 => if ps.length ≤ 15 then .ok (.ref h1.length) (h1 ++ [.dK (merge ps)]) else .stuck
theorem tM_anch {ww : World} {K : PySem.W.Frag} {mg : Str → Option Value} {W : WX} {r0 r : List Addr} {sm : Sl} {h : MH} {s : L2.St} {H0 H : Hp} {α β : Type} {rel : List Addr → Hp → α → β → Prop} {m : ME} {f : MV → MH → R α} {Q : β → Hp → Prop} {Q' : VK} (p0 : Post ww K mg r0 H0 r h H) (ss : SS K mg r H sm s)
    (w : Wt ww K mg rel r0 H0 (fun c d H' => W c d s H') Q ((m sm h).bind f))
    (k : ∀ r1 h1 v x H1, Post ww K mg r0 H0 r1 h1 H1 → Post ww K mg r H r1 h1 H1 → Rep K mg r1 H1 v x → Wt ww K mg rel r0 H0 (fun c d H' => W c d s H') Q (f v h1) → Q' x H1) : tM ww K mg W m s H Q' := by
  refine ⟨r, sm, h, p0.hs, ss, ?_⟩
  cases e : m sm h with
  | stuck => rw [e] at w; exact w
  | err x h1 => rw [e] at w; exact fun r1 H1 cls d p q => w r1 H1 cls d (p0.trans p) q
  | ok v h1 => rw [e] at w; exact fun r1 H1 x p q => k r1 h1 v x H1 (p0.trans p) p q w
abbrev RepP (K : PySem.W.Frag) (mg : Str → Option Value) (r : List Addr) (H : Hp) : List (MK × MV) → List (V × V) → Prop := Paired fun p q => q.1 = kV (mk p.1) ∧ Rep K mg r H p.2 q.2
theorem pairs_of {ww : World} {K : PySem.W.Frag} {mg : Str → Option Value} {W : WX} {r0 : List Addr} {H0 : Hp} {sm : Sl} {s : L2.St} {α β : Type} {rel : List Addr → Hp → α → β → Prop} {Q : β → Hp → Prop} : ∀ (prs : List (ME × ME)) {f : List (MK × MV) → MH → R α} {Q' : List (V × V) → Hp → Prop} {r : List Addr} {h : MH} {H : Hp}, Post ww K mg r0 H0 r h H → SS K mg r H sm s →
    Wt ww K mg rel r0 H0 (fun c d H' => W c d s H') Q ((pairsM prs sm h).bind f) →
    (∀ r1 h1 ps xs H1, Post ww K mg r0 H0 r1 h1 H1 → Post ww K mg r H r1 h1 H1 → RepP K mg r1 H1 ps xs → Wt ww K mg rel r0 H0 (fun c d H' => W c d s H') Q (f ps h1) → Q' xs H1) → tPairs (prs.map fun p => (tM ww K mg W p.1, tM ww K mg W p.2)) s H Q'
  | [], f, Q', r, h, H, p0, ss, w, k => k r h [] [] H p0 (Post.refl p0.hs) .nil w
  | (kx, vx) :: prs, f, Q', r, h, H, p0, ss, w, k => by
    have w' : Wt ww K mg rel r0 H0 (fun c d H' => W c d s H') Q ((kx sm h).bind fun x h1 => (vx sm h1).bind fun y h2 => (pairsM prs sm h2).bind fun ps h3 => (match keyOf x with
      | some kk => .ok ((kk, y) :: ps) h3
      | none => .stuck : R (List (MK × MV))).bind f) := by
      have e : (pairsM ((kx, vx) :: prs) sm h).bind f = ((kx sm h).bind fun x h1 => (vx sm h1).bind fun y h2 => (pairsM prs sm h2).bind fun ps h3 => (match keyOf x with
        | some kk => .ok ((kk, y) :: ps) h3
        | none => .stuck : R (List (MK × MV))).bind f) := by
        simp only [pairsM]
        cases kx sm h with
        | ok v h1 =>
          simp only [R.bind]
          cases vx sm h1 with
          | ok v2 h2 =>
            simp only [R.bind]
            cases pairsM prs sm h2 <;> rfl
          | err _ _ => rfl
          | stuck => rfl
        | err _ _ => rfl
        | stuck => rfl
      rw [← e]
      exact w
    refine tM_anch p0 ss w' fun r1 h1 v x H1 pa pb q1 w1 => ?_
    refine tM_anch pa (ss.post p0.hs pb) w1 fun r2 h2 u y H2 pa2 pb2 q2 w2 => ?_
    refine pairs_of prs pa2 ((ss.post p0.hs pb).post pa.hs pb2) w2 fun r3 h3 ps xs H3 pa3 pb3 q3 w3 => ?_
    cases ek : keyOf v with
    | none => rw [ek] at w3; exact w3.elim
    | some kk =>
      rw [ek] at w3
      exact k r3 h3 ((kk, u) :: ps) _ H3 pa3 ((pb.trans pb2).trans pb3) (.cons ⟨keyOf_ok q1 ek, pb3.rep pa2.hs q2⟩ q3) w3
theorem merge_ok {K : PySem.W.Frag} {mg : Str → Option Value} {r : List Addr} {H : Hp} : ∀ {ps : List (MK × MV)} {kvs : List (Key × V)} {acc : List (MK × MV)} {acc' : List (Key × V)}, RepK K mg r H ps kvs → RepK K mg r H acc acc' → RepK K mg r H (ps.foldl (fun acc kv => dPut kv.1 kv.2 acc) acc) (mergeK acc' kvs)
  | _, _, _, _, .nil, q => q
  | _, _, _, _, .cons (a := p) (b := y) e t, q => by
    obtain ⟨y1, y2⟩ := y
    have e1 : y1 = mk p.1 := e.1
    subst e1
    have z := merge_ok t (putK_ok (k := p.1) e.2 q)
    exact z
theorem repP_keys {K : PySem.W.Frag} {mg : Str → Option Value} {r : List Addr} {H : Hp} : ∀ {ps : List (MK × MV)} {xs : List (V × V)}, RepP K mg r H ps xs → ∃ kvs : List (Key × V), xs = kvs.map (fun kv => (kV kv.1, kv.2)) ∧ RepK K mg r H ps kvs
  | _, _, .nil => ⟨[], rfl, .nil⟩
  | _, _, .cons (a := p) (b := y) e t => by
    obtain ⟨kvs, e1, q⟩ := repP_keys t
    obtain ⟨y1, y2⟩ := y
    have e2 : y1 = kV (mk p.1) := e.1
    exact ⟨(mk p.1, y2) :: kvs, by rw [List.map_cons, e1, e2], .cons ⟨rfl, e.2⟩ q⟩
theorem me_disp {keys : List (Option Expr)} {values : List Expr} {prs : List (ME × ME)} (hp : PPs X pos keys values (prs.map fun p => (tM X.w X.K X.mg W p.1, tM X.w X.K X.mg W p.2))) (hall : keys.all (·.isSome) = true := by rfl) (hl : keys.length = values.length := by rfl) (h0 : keys ≠ [] := by exact fun z => by cases z)
    (h15 : keys.length ≤ 15 := by decide) : PEm X W (.Dict keys values pos) (eDisp prs) := (pe_disp hp hall hl h0 h15).mimp fun s H Q ⟨r, sm, h, hs, ss, w⟩ p hp => by
  have po := hs.extra (u := .dK []) hp
  have hpr : p ∉ r := hs.notNone hp
  refine pairs_of prs (r0 := r) (H0 := H) po (ss.post hs po) w fun r1 h1 ps xs H1 pa pb q w1 => ?_
  have eD := pb.at_ (D := p) upd_same hpr
  split at w1
  · rename_i h15
    obtain ⟨kvs, e1, qk⟩ := repP_keys q
    refine ⟨eD.1, kvs, e1, by rw [← paired_len qk]; exact h15, ?_⟩
    obtain ⟨hs5, ht5⟩ := pa.hs.side (u := .dK (mergeK [] kvs)) eD.2 eD.1 trivial
    have hm : ∀ (n : Nat) (z : Addr), r1[n]? = some z → (r1 ++ [p])[n]? = some z := fun n z e => by
      rw [List.getElem?_append_left (List.getElem?_eq_some_iff.mp e).1]; exact e
    refine w1 (r1 ++ [p]) _ (.ref p) ⟨?_, ⟨by simp [pa.hs.len], ?_, fun n o a e1 e2 => ?_, hs5.tb⟩, fun b o hb e t => ⟨?_, ?_⟩, fun b o u e => by rw [upd_ne (ne_of_none e hp)]; exact pa.fz b o u e⟩ (.ref (by rw [← pa.hs.len]; simp))
    · obtain ⟨u, hu⟩ := pa.pre
      exact ⟨u ++ [p], by rw [hu, List.append_assoc]⟩
    · rw [List.nodup_append]
      refine ⟨pa.hs.nd, by simp, fun a ha b hb z => ?_⟩
      have : b = p := by simpa using hb
      subst this
      subst z
      exact eD.2 ha
    · by_cases hn : n < r1.length
      · have hl : n < h1.length := by rw [← pa.hs.len]; exact hn
        rw [List.getElem?_append_left hn] at e2
        rw [List.getElem?_append_left hl] at e1
        exact (hs5.at_ n o a e1 e2).mono Kp.refl hm
      · have hn' : r1.length ≤ n := by omega
        have hl' : h1.length ≤ n := by rw [← pa.hs.len]; exact hn'
        rw [List.getElem?_append_right hn'] at e2
        rw [List.getElem?_append_right hl'] at e1
        have z : n - r1.length = 0 := by
          have := (List.getElem?_eq_some_iff.mp e2).1
          simp at this
          omega
        rw [z] at e2
        rw [← pa.hs.len, z] at e1
        simp at e1 e2
        subst e1 e2
        rw [upd_same]
        exact ⟨_, rfl, merge_ok (paired_mono (fun _ _ z => ⟨z.1, Rep.mono ht5 hm _ _ z.2⟩) qk) .nil⟩
    · intro hm'
      rcases List.mem_append.mp hm' with z | z
      · exact (pa.fr b o hb e t).1 z
      · have : b = p := by simpa using z
        subst this
        rw [hp] at e; cases e
    · have hne : b ≠ p := fun z => by rw [z, hp] at e; cases e
      rw [upd_ne hne]
      exact (pa.fr b o hb e t).2
  · exact w1.elim
end
end MP

end
section
namespace MP
open PySem PySem.Spec PyProof.Rows L2
theorem repB_all {K : PySem.W.Frag} {mg : Str → Option Value} {f : MV → Value → Bool} (hf : ∀ v u, f v u = true → ∃ y, RelV y u ∧ ∀ r H, Rep K mg r H v y) : ∀ (xs : List MV) (us : List Value), us.length = xs.length → ((xs.zip us).all fun p => f p.1 p.2) = true → ∃ ys, Vals ys us ∧ ∀ r H, RepL K mg r H xs ys
  | [], [], _, _ => ⟨[], .nil, fun _ _ => .nil⟩
  | x :: xs, u :: us, hl, h => by
    rw [List.zip_cons_cons, List.all_cons, Bool.and_eq_true] at h
    obtain ⟨y, r1, q1⟩ := hf x u h.1
    obtain ⟨ys, r2, q2⟩ := repB_all hf xs us (by simpa using hl) h.2
    exact ⟨y :: ys, .cons r1 r2, fun r H => .cons (q1 r H) (q2 r H)⟩
  | [], _ :: _, hl, _ => by simp at hl
  | _ :: _, [], hl, _ => by simp at hl
theorem repB_ok {K : PySem.W.Frag} {mg : Str → Option Value} : ∀ (n : Nat) (v : MV) (u : Value), repB K n v u = true → ∃ y, RelV y u ∧ ∀ r H, Rep K mg r H v y
  | 0, _, _, h => by cases h
  | n + 1, v, u, h => by
    unfold repB at h
    split at h
    · exact ⟨.non, rfl, fun _ _ => .non⟩
    · rw [beq_iff_eq] at h; subst h; exact ⟨.bl _, rfl, fun _ _ => .bl _⟩
    · have := of_decide_eq_true h; subst this; exact ⟨.int _, ⟨_, rfl⟩, fun _ _ => .int _⟩
    · have := of_decide_eq_true h; subst this; exact ⟨.str _, ⟨_, rfl⟩, fun _ _ => .str _⟩
    · split at h
      · rename_i xs a _ dc its m sl hk
        rw [Bool.and_eq_true, Bool.and_eq_true, decide_eq_true_eq, beq_iff_eq] at h
        obtain ⟨ys, r1, q1⟩ := repB_all (repB_ok n) xs its.toList h.1.2 h.2
        exact ⟨.ref a, rfl, fun r H => .tup (.inr ⟨_, its, m, hk, rfl, rfl, h.1.1, r1⟩) (q1 r H)⟩
      · cases h
    · cases h
def GloM (K : PySem.W.Frag) (mg : Str → Option Value) (x : Str) (v : MV) : Prop := ∃ u y, mg x = some u ∧ RelV y u ∧ ∀ r H, Rep K mg r H v y
theorem gloB_ok {K : PySem.W.Frag} {mg : Str → Option Value} {h : Heap} (X : K.In h) (G : h.Ns mainGlobals mg) {x : Str} {v : MV} (c : gloB K x v = true) : GloM K mg x v := by
  unfold gloB at c
  split at c
  · rename_i u e
    obtain ⟨y, r, q⟩ := repB_ok (mg := mg) 8 v u c
    exact ⟨u, y, PySem.W.mg_of X G e, r, q⟩
  · cases c
section
variable {P : Program} {w : World} {K : PySem.W.Frag} {mg : Str → Option Value} {base : Heap}
theorem fn_okD {x qual : Str} {params : Arguments} {body : List Stmt} {scope : Scope} {dvs : List V} {kws : List (Str × V)} {f : Addr} {fd : FuncData} {N ps : List Str} {k : Nat} {b : MS} (F : FunD K x qual params body scope dvs kws f fd) (S : FnScope N ps scope)
    (hb : ∀ (cdv : Value) (hcd : fd.code = cdv) (A : Around) (outer : List Env) (s : Shared) (H : Hp) (E : XK), RoomG k (A.deeper (envOfC qual scope s.heap.objs.size f cdv)) →
      Takes (cxOf (L2.CX P w) P w K mg base N qual scope f cdv A outer s H E) (WF E) →
      PassesOwn (model P w) (A.deeper (envOfC qual scope s.heap.objs.size f cdv)) (envOfC qual scope s.heap.objs.size f cdv) (cxOf (L2.CX P w) P w K mg base N qual scope f cdv A outer s H E).xe →
      PSsm (cxOf (L2.CX P w) P w K mg base N qual scope f cdv A outer s H E) (WF E) body b) : FnM P w K mg base (k + 1) f fd ps (runFn N.length b) := by
  refine fnG_of (C := L2.CX P w) F S (fun vs H Q E h => h.1) fun cdv hcd A outer s H vs Q E hr h => ?_
  refine ⟨_, hb cdv hcd A outer s H E hr (takes_of rfl rfl rfl rfl) (passes_of rfl), ?_⟩
  obtain ⟨hl, r, h0, as, hs, q, wt⟩ := h
  refine ⟨r, _, h0, hs, SS.start q, ?_⟩
  unfold runFn at wt
  show WtS w K mg (WF E) r H _ (b (as.map some ++ List.replicate (N.length - as.length) none) h0)
  cases e : b (as.map some ++ List.replicate (N.length - as.length) none) h0 with
  | nx s' h' => rw [e] at wt; exact fun r' s2 H' p _ => wt r' H' .non p .non
  | rt v h' => rw [e] at wt; exact fun r' H' y p q => wt r' H' y p q
  | bk s' h' => rw [e] at wt; exact wt.elim
  | ct s' h' => rw [e] at wt; exact wt.elim
  | err x s' h' => rw [e] at wt; exact fun r' s2 H' cls d p _ q => wt r' H' cls d p q
  | stuck => rw [e] at wt; exact wt.elim
theorem law_sp {m : MF} {ns : List Int} {H : Hp} {a : Addr} (hT : LamX.Tabs (tabsK K) H) (hro : RoL K H a (ns.map V.int)) (hm : ∃ h', m [.ro (ns.map MV.int)] [] = .ok (.bl true) h') : spM w K mg 1 m [.ref a] H (fun v _ => v = .bl true) fun _ _ _ => False := by
  have hs : HS w K mg [] [] H := ⟨rfl, .nil, (fun n o a e _ => by cases e), hT⟩
  have hl : ∀ ns : List Int, RepL K mg [] H (ns.map MV.int) (ns.map V.int) := fun ns => by
    induction ns with
    | nil => exact .nil
    | cons n ns ih => exact .cons (.int n) ih
  obtain ⟨h', e⟩ := hm
  refine ⟨rfl, [], [], [.ro (ns.map MV.int)], hs, .cons (.ro hro (hl ns)) .nil, ?_⟩
  rw [e]
  intro r' H' y p q
  cases q
  rfl
theorem cx_none (P : Program) (w : World) : ∀ (H : Hp) (s : Shared) (e : Value) (s' : Shared), L2.CX P w [] H s (fun _ _ _ => False) e s' → False := fun H s e s' z => by
  obtain ⟨_, _, _, _, _, _, _, _, _, _, _, _, z⟩ := z
  exact z
end
end MP

end
section
namespace MP
open PySem PySem.Spec PyProof.Rows L2
def tB (a : ME) : MT := fun s h => (a s h).bind fun v h1 => match v with
  | .bl k => .ok k h1
  | _ => .stuck
section
variable {X : Cx} {W : WX} {a b c : Expr} {pos : Pos} {ma mb mc : ME}
theorem find_at (l : CP) (c i : Nat) : StrLaws.At (S l) (S [c]) (S l).length i ↔ l[i]? = some c := by
  unfold StrLaws.At
  rw [subAt_one, S_length, S_length]
  constructor
  · exact fun h => h.2
  · intro h
    refine ⟨?_, h⟩
    have := (List.getElem?_eq_some_iff.mp h).1
    show i + 1 ≤ l.length
    omega
theorem mm_index : MtR X "str.index" (rMM X mIndexS) := by
  intro pins s σ H x xs v us Q I rx rv hh
  obtain ⟨r, h, a, as, hs, ra, rs, w⟩ := hh
  unfold mIndexS at w
  split at w
  · rename_i l c
    split at w
    · rename_i i e
      obtain ⟨y, rfl, q⟩ := repL1 rs
      cases ra; cases q
      obtain ⟨h1, h2⟩ := firstIx_spec c e
      rcases StrLaws.occ_head (S l) (S [c]) 1 (Nat.le_refl 1) with ⟨h0, hn⟩ | ⟨j, rest, h0, hj, hn⟩
      · exact absurd ((find_at l c i).mpr h1) (hn i)
      · have h3 := (find_at l c j).mp hj
        have h4 : ¬ i < j := fun z => hn i z ((find_at l c i).mpr h1)
        have h5 : ¬ j < i := fun z => h2 j z h3
        have : i = j := by omega
        subst this
        exact mt_sindex pins s σ H _ _ v us Q I rx rv ⟨_, _, i, rest, rfl, rfl, h0, Wt.plain hs w (.int _)⟩
    · exact w.elim
  · exact w.elim
end
theorem walk_mir {l : PySem.W.OpenLaw} {k : Nat} {q : Program} {loose : List Str} {XP : (Str → Option Value) → Heap → Prop} {YP : World → Heap → Prop} {d : DefRec} {x : Str} {m : MF} (hn : l.most = some 63) (hdf : d.params.defaults = []) (hr : RoomG k callerA)
    (pu : ∀ ns : List Int, ns.length ≤ 63 → ∃ h', m [.ro (ns.map MV.int)] [] = .ok (.bl true) h')
    (F : ∀ (w : World) (mg : Str → Option Value) (fa : Addr) (h : Heap), YP w h → h.Ns mainGlobals mg → mg d.name = some (.ref fa) →
      ∃ (K : PySem.W.Frag) (fd : FuncData), K.In h ∧ (∀ b ∈ tabA K, h.get? b = some tabO) ∧ (∀ (s : Shared) (u : Value), BindsTo s fd ⟨[u], []⟩ [(x, u)]) ∧ ∀ base : Heap, K.In base → base.Ns mainGlobals mg → TabsB K mg base → FnM l.prog w K mg base k fa fd [x] m) :
    PySem.W.WalkO q loose XP YP l.row.toRowW d [] (fun f vs => PySem.call f vs) :=
  Att.attach_call hn hdf fun w s₀ s₁ mg mb fa o pm cd doc a vs ns G Y ho hd hcd hmg hobj hints hlen hg => by
    obtain ⟨K, fd, KX, hT, hb, hF⟩ := F w mg fa _ Y G.T.g hmg
    exact law_callG KX G.T.g G.T.b G.T.builtins G.T.nolimit hg hT G.T.bmain hobj hints (Nat.le_trans hlen (by decide)) hr hF hb (fun H hT hS => law_sp hT hS (pu ns hlen)) fun H e s' => cx_none l.prog w H s₁ e s'
end MP

end
section
namespace MP
open PySem PySem.Spec PyProof.Rows L2
mutual
def below (n : Nat) : MV → Bool
  | .ref m => Nat.blt m n
  | .tup xs => belowL n xs
  | .ro xs => belowL n xs
  | .lv xs => belowL n xs
  | .exc _ _ xs => belowL n xs
  | .clo _ _ _ _ xs => belowL n xs
  | _ => true
def belowL (n : Nat) : List MV → Bool
  | [] => true
  | x :: xs => below n x && belowL n xs
end
def belowF {α : Type} (n : Nat) : List (α × MV) → Bool
  | [] => true
  | x :: xs => below n x.2 && belowF n xs
def belowO (n : Nat) : MO → Bool
  | .lst xs => belowL n xs
  | .dK kvs => belowF n kvs
  | .dZ kvs => belowF n kvs
  | .dT kvs => belowF n kvs
  | .dU kvs => belowF n kvs
  | .ins _ fs => belowF n fs
def belowH (n : Nat) : MH → Bool
  | [] => true
  | o :: os => belowO n o && belowH n os
def trimR (n : Nat) : R MV → R MV
  | .ok v h => if below n v && belowH n (h.take n) then .ok v (h.take n) else .stuck
  | .err x h => if belowF n x.fs && belowH n (h.take n) then .err x (h.take n) else .stuck
  | .stuck => .stuck
def trimF (m : MF) : MF := fun as h => trimR h.length (m as h)
def pureR (h : MH) : R MV → R MV
  | .ok v _ => if below 0 v then .ok v h else .stuck
  | .err x _ => if belowF 0 x.fs then .err x h else .stuck
  | .stuck => .stuck
def pureF (m : MF) : MF := fun as h => if belowL 0 as then pureR h (m as []) else .stuck
section
variable {ww : World} {K : PySem.W.Frag} {mg : Str → Option Value} {r r' t : List Addr} {H H' : Hp} {h h' : MH}
mutual
theorem Rep.bel {n : Nat} (hr : ∀ (i : Nat) (a : Addr), i < n → r[i]? = some a → r'[i]? = some a) : ∀ (v : MV) (x : V), MP.below n v = true → Rep K mg r H v x → Rep K mg r' H v x
  | .non, _, _, h => by cases h; exact .non
  | .bl _, _, _, h => by cases h; exact .bl _
  | .int _, _, _, h => by cases h; exact .int _
  | .str _, _, _, h => by cases h; exact .str _
  | .tup xs, _, b, h => by
    cases h with
    | tup s q => exact .tup s (RepL.bel hr xs _ (by simpa [MP.below] using b) q)
  | .ref _, _, b, h => by cases h with | ref e => exact .ref (hr _ _ (by simpa [MP.below, Nat.blt_eq] using b) e)
  | .ty _, _, _, h => by cases h; exact .ty _
  | .glo _, _, _, h => by cases h with | glo e => exact .glo e
  | .exc _ _ vs, _, hb, h => by
    cases h with
    | exc m e1 e2 l q => exact .exc m e1 e2 l (RepL.bel hr vs _ (by simpa [MP.below] using hb) q)
  | .clo _ _ _ ws vs, _, hb, h => by
    cases h with
    | clo e q => exact .clo e (RepL.bel hr vs ws (by simpa [MP.below] using hb) q)
  | .ro xs, _, b, h => by
    cases h with
    | ro s q => exact .ro s (RepL.bel hr xs _ (by simpa [MP.below] using b) q)
  | .lv xs, _, b, h => by
    cases h with
    | lv s q => exact .lv s (RepL.bel hr xs _ (by simpa [MP.below] using b) q)
theorem RepL.bel {n : Nat} (hr : ∀ (i : Nat) (a : Addr), i < n → r[i]? = some a → r'[i]? = some a) : ∀ (vs : List MV) (xs : List V), MP.belowL n vs = true → RepL K mg r H vs xs → RepL K mg r' H vs xs
  | [], _, _, h => by cases h; exact .nil
  | v :: vs, _, b, h => by
    have b : MP.below n v = true ∧ MP.belowL n vs = true := by simpa [MP.belowL] using b
    cases h with | cons p q => exact .cons (Rep.bel hr v _ b.1 p) (RepL.bel hr vs _ b.2 q)
end
theorem RepF.bel {n : Nat} (hr : ∀ (i : Nat) (a : Addr), i < n → r[i]? = some a → r'[i]? = some a) {α β : Type} {g : α → β} : ∀ {l : List (α × MV)} {l' : List (β × V)}, belowF n l = true → Paired (fun p q => q.1 = g p.1 ∧ Rep K mg r H p.2 q.2) l l' → Paired (fun p q => q.1 = g p.1 ∧ Rep K mg r' H p.2 q.2) l l'
  | [], _, _, t => by cases t; exact .nil
  | p :: ps, _, b, t => by
    cases t with
    | cons z s =>
    have b := (Bool.and_eq_true _ _).mp b
    exact .cons ⟨z.1, Rep.bel hr _ _ b.1 z.2⟩ (RepF.bel hr b.2 s)
theorem RepT.bel {n : Nat} (hr : ∀ (i : Nat) (a : Addr), i < n → r[i]? = some a → r'[i]? = some a) : ∀ {l : List (MV × MV)} {l' : List (NestedKey × Addr × Value)}, belowF n l = true → RepT K mg r H l l' → RepT K mg r' H l l'
  | [], _, _, t => by cases t; exact .nil
  | p :: ps, _, b, t => by
    cases t with
    | cons z s =>
    have b := (Bool.and_eq_true _ _).mp b
    obtain ⟨z1, z2, y, z3, z4⟩ := z
    exact .cons ⟨z1, Rep.data _ _ _ z1 z2, y, z3, Rep.bel hr _ _ b.1 z4⟩ (RepT.bel hr b.2 s)
theorem RepO.bel {n : Nat} (hr : ∀ (i : Nat) (a : Addr), i < n → r[i]? = some a → r'[i]? = some a) {o : MO} {u : Option HO} (b : belowO n o = true) (q : RepO ww K mg r H o u) : RepO ww K mg r' H o u := by
  cases o with
  | lst xs => obtain ⟨ys, e, p⟩ := q; exact ⟨ys, e, RepL.bel hr _ _ (by simpa [belowO] using b) p⟩
  | dK kvs => obtain ⟨ys, e, p⟩ := q; exact ⟨ys, e, RepF.bel hr (by simpa [belowO] using b) p⟩
  | dZ kvs => obtain ⟨o, ys, e, p⟩ := q; exact ⟨o, ys, e, RepF.bel hr (by simpa [belowO] using b) p⟩
  | dT kvs => obtain ⟨a, ys, e, p⟩ := q; exact ⟨a, ys, e, RepT.bel hr (by simpa [belowO] using b) p⟩
  | dU kvs => obtain ⟨o, a, ys, e, p⟩ := q; exact ⟨o, a, ys, e, RepT.bel hr (by simpa [belowO] using b) p⟩
  | ins c fs => obtain ⟨C, dx, ys, m, e, p⟩ := q; exact ⟨C, dx, ys, m, e, RepF.bel hr (by simpa [belowO] using b) p⟩
theorem belowH_get {n : Nat} : ∀ {h : MH} {i : Nat} {o : MO}, belowH n h = true → h[i]? = some o → belowO n o = true
  | [], i, o, _, e => by simp at e
  | p :: ps, 0, o, b, e => by
    simp at e; subst e
    have b : belowO n p = true ∧ belowH n ps = true := by simpa [belowH] using b
    exact b.1
  | p :: ps, i + 1, o, b, e => by
    have b : belowO n p = true ∧ belowH n ps = true := by simpa [belowH] using b
    exact belowH_get (i := i) b.2 (by simpa using e)
theorem Post.trim (p : Post ww K mg r H r' h' H') (b : belowH r.length (h'.take r.length) = true) : Post ww K mg r H r (h'.take r.length) H' := by
  obtain ⟨t, rfl⟩ := p.pre
  have hl : (r ++ t).length = h'.length := p.hs.len
  rw [List.length_append] at hl
  refine ⟨⟨[], by simp⟩, ⟨by rw [List.length_take]; omega, (List.nodup_append.mp p.hs.nd).1, fun n o a e1 e2 => ?_, p.hs.tb⟩, fun c o n e t => ⟨n, (p.fr c o n e t).2⟩, p.fz⟩
  have hn : n < r.length := (List.getElem?_eq_some_iff.mp e2).1
  have e1' : h'[n]? = some o := by rw [List.getElem?_take_of_lt hn] at e1; exact e1
  have q := p.hs.at_ n o a e1' (by rw [List.getElem?_append_left hn]; exact e2)
  exact q.bel (fun i a hi e => by rw [List.getElem?_append_left hi] at e; exact e) (belowH_get b e1)
theorem Post.ixb (p : Post ww K mg r H r' h' H') : ∀ (i : Nat) (a : Addr), i < r.length → r'[i]? = some a → r[i]? = some a := fun i a hi e => by
  obtain ⟨t, rfl⟩ := p.pre
  rw [List.getElem?_append_left hi] at e
  exact e
theorem Post.pure (x : HS ww K mg r h H) (p : Post ww K mg [] H r' h' H') : Post ww K mg r H r h H' := by
  have kp : Kp K H H' := p.kp (h := []) ⟨rfl, .nil, (fun n o a e _ => by cases e), x.tb⟩
  refine ⟨⟨[], by simp⟩, ⟨x.len, x.nd, fun n o a e1 e2 => ?_, p.hs.tb⟩, fun c o n e t => ⟨n, (p.fr c o (by simp) e t).2⟩, p.fz⟩
  obtain ⟨u, e3, pl⟩ := x.plain (List.mem_of_getElem? e2)
  rw [p.keep (by simp) e3 (fun ps z => by rw [z] at pl; exact pl), ← e3]
  exact (x.at_ n o a e1 e2).mono kp fun _ _ z => z
theorem noXd {o : MO} {u : Option HO} {ys : List (Str × V)} (q : RepO ww K mg r H o u) : u ≠ some (.xd ys) := fun z => by
  subst z
  cases o with
  | lst xs => obtain ⟨_, e, _⟩ := q; cases e
  | dK xs => obtain ⟨_, e, _⟩ := q; cases e
  | dZ xs => obtain ⟨_, _, e, _⟩ := q; cases e
  | dT xs => obtain ⟨_, _, e, _⟩ := q; cases e
  | dU xs => obtain ⟨_, _, _, e, _⟩ := q; cases e
  | ins c fs => obtain ⟨_, _, _, _, e, _⟩ := q; cases e
theorem HS.notXd (x : HS ww K mg r h H) {a : Addr} {ys : List (Str × V)} (e : H a = some (.xd ys)) : a ∉ r := fun hm => by
  obtain ⟨n, hn, e1⟩ := List.getElem_of_mem hm
  have hl : n < h.length := by rw [← x.len]; exact hn
  have q := x.at_ n h[n] a (by simp [hl]) (by simp [hn, e1])
  exact noXd q e
theorem RepX.to {x : MX} {cls : Value} {d : Option Addr} (hs : HS ww K mg r h' H) {n : Nat} (hr : ∀ (i : Nat) (a : Addr), i < n → r'[i]? = some a → r[i]? = some a) (b : belowF n x.fs = true) (q : RepX K mg r' H x cls d) : RepX K mg r H x cls d := by
  obtain ⟨C, dd, ys, e1, e2, e3, e4, e5, q⟩ := q
  exact ⟨C, dd, ys, e1, e2, e3, hs.notXd e5, e5, RepF.bel hr b q⟩
theorem Wt.trim {E : XK} {Q : VK} {x : R MV} (hs : HS ww K mg r h H) (w : Wt ww K mg (Rep K mg) r H E Q (trimR h.length x)) : Wt ww K mg (Rep K mg) r H E Q x := by
  rw [← hs.len] at w
  cases x with
  | stuck => exact w
  | ok v h' =>
    simp only [trimR] at w
    split at w
    · rename_i b
      rw [Bool.and_eq_true] at b
      exact fun r' H' y p q => w r H' y (p.trim b.2) (Rep.bel p.ixb _ _ b.1 q)
    · exact w.elim
  | err e h' =>
    simp only [trimR] at w
    split at w
    · rename_i b
      rw [Bool.and_eq_true] at b
      exact fun r' H' c d p q => w r H' c d (p.trim b.2) (q.to (p.trim b.2).hs p.ixb b.1)
    · exact w.elim
theorem Wt.pure {E : XK} {Q : VK} {x : R MV} (hs : HS ww K mg r h H) (w : Wt ww K mg (Rep K mg) r H E Q (pureR h x)) : Wt ww K mg (Rep K mg) [] H E Q x := by
  cases x with
  | stuck => exact w
  | ok v h' =>
    simp only [pureR] at w
    split at w
    · rename_i b
      exact fun r' H' y p q => w r H' y (p.pure hs) (Rep.bel (n := 0) (fun i a hi _ => by omega) _ _ b q)
    · exact w.elim
  | err e h' =>
    simp only [pureR] at w
    split at w
    · rename_i b
      exact fun r' H' c d p q => w r H' c d (p.pure hs) (q.to (p.pure hs).hs (n := 0) (fun i a hi _ => by omega) b)
    · exact w.elim
end
section
variable {P : Program} {w : World} {K : PySem.W.Frag} {mg : Str → Option Value} {base : Heap} {k : Nat} {f : Addr} {fd : FuncData} {ps : List Str} {m : MF}
theorem FnM.trim (F : FnM P w K mg base k f fd ps m) : FnM P w K mg base k f fd ps (trimF m) := F.imp fun vs H Q E ⟨hl, r, h, as, hs, q, w⟩ => ⟨hl, r, h, as, hs, q, w.trim hs⟩
theorem FnM.pure (F : FnM P w K mg base k f fd ps m) : FnM P w K mg base k f fd ps (pureF m) := F.imp fun vs H Q E ⟨hl, r, h, as, hs, q, w⟩ => by
  unfold pureF at w
  split at w
  · rename_i b
    exact ⟨hl, [], [], as, ⟨rfl, .nil, (fun n o a e _ => by cases e), hs.tb⟩, RepL.bel (n := 0) (fun i a hi _ => by omega) _ _ b q, w.pure hs⟩
  · exact w.elim
theorem Fn.pure {x : Str} {np : Nat} (F : Fn P w K mg base x k np m) : Fn P w K mg base x k np (pureF m) := by
  obtain ⟨f, fd, ps, h1, F, h2, h3, h4⟩ := F.ex
  exact ⟨f, fd, ps, h1, FnM.pure F, h2, h3, h4⟩
end
section
variable {ww : World} {K : PySem.W.Frag} {mg : Str → Option Value} {r r' : List Addr} {H : Hp}
end
section
variable {X : Cx} {W : WX}
end
end MP

end
section
namespace MP
open PySem PySem.Spec PyProof.Rows L2
def okRepr (d : PyData) : Bool := d.showable && !d.hasDict && Nat.ble d.depth 60 && Nat.ble d.shown.length sizeLine
def mRepr : FA
  | [v], h => match toD 64 h v with
    | some d => if okRepr d then some (.str d.shown.cps.toList, h) else none
    | none => none
  | _, _ => none
theorem S_cps (x : Str) : S x.cps.toList = x := by
  obtain ⟨c⟩ := x
  simp [S]
section
variable {X : Cx}
theorem cm_repr {k : Nat} (hr : RoomG k X.A) : CallR X (.builtin "repr") (rMA X mRepr) := by
  intro pins s σ H xs us Q I rv hh
  obtain ⟨r, h, as, hs, ra, w⟩ := hh
  unfold mRepr at w
  split at w
  · rename_i v
    obtain ⟨x, rfl, q⟩ := repL1 ra
    split at w
    · rename_i d hd
      split at w
      · rename_i hok
        simp only [okRepr, Bool.and_eq_true, Bool.not_eq_true', Nat.ble_eq] at hok
        obtain ⟨⟨⟨h1, h2⟩, h3⟩, h4⟩ := hok
        have dp := toD_ok hs _ _ _ _ hd q
        have fin : Q (.str d.shown) H := by
          have := Wt.plain hs w (.str d.shown.cps.toList)
          rw [S_cps] at this
          exact this
        cases rv with
        | cons rv rv2 =>
          cases rv2
          have hu := hr.units
          cases dp with
          | non =>
            cases (show _ = Value.none from rv)
            refine PySem.P.repr_of_none ⟨.str "None", H, I.tok _, ⟨_, rfl⟩, ?_⟩
            simpa only [PyData.shown] using fin
          | bl b =>
            cases (show _ = Value.bool b from rv)
            refine PySem.P.repr_of_bool ⟨.str _, H, I.tok _, ⟨_, rfl⟩, ?_⟩
            simpa only [PyData.shown] using fin
          | int i =>
            obtain ⟨t, rfl⟩ := rv
            refine PySem.P.repr_of_int (by simpa [PyData.showable] using h1) ⟨.str _, H, I.tok _, ⟨_, rfl⟩, ?_⟩
            simpa only [PyData.shown] using fin
          | str y =>
            obtain ⟨t, rfl⟩ := rv
            refine PySem.P.repr_of_str ⟨.str _, H, I.tok _, ⟨_, rfl⟩, ?_⟩ (by simpa only [PyData.shown] using h4)
            simpa only [PyData.shown] using fin
          | lst sq al =>
            rename_i u a ys ds
            cases (show u = Value.ref a from rv)
            obtain ⟨as, rd⟩ := Dp.reads I _ _ _ (.lst sq al) (show RelV (.ref a) (.ref a) from rfl)
            exact repr_of_reads' rd h1 (fun z => by rw [h2] at z; cases z) hr.gd (by omega) (fun _ _ e => e) (fun h' u tk kp => ⟨.str _, H, I.kept kp, ⟨_, rfl⟩, fin⟩) h4
          | tup sq al =>
            rename_i u a ys ds
            cases (show u = Value.ref a from rv)
            obtain ⟨as, rd⟩ := Dp.reads I _ _ _ (.tup sq al) (show RelV (.ref a) (.ref a) from rfl)
            exact repr_of_reads' rd h1 (fun z => by rw [h2] at z; cases z) hr.gd (by omega) (fun _ _ e => e) (fun h' u tk kp => ⟨.str _, H, I.kept kp, ⟨_, rfl⟩, fin⟩) h4
      · exact w.elim
    · exact w.elim
  · exact w.elim
end
end MP

end
section
namespace MP
open PySem PySem.Spec PyProof.Rows L2
section
variable {ww : World} {K : PySem.W.Frag} {mg : Str → Option Value} {r r' : List Addr} {H H' : Hp} {h h' : MH}
end
section
variable {X : Cx} {W : WX} {tg e : Expr} {me : ME}
end
end MP

end
section
namespace MP
open PySem PySem.Spec PyProof.Rows L2
section
variable {X : Cx} {pins : List (Addr × Obj)} {σ : L2.St} {H : Hp} {s : Shared}
end
section
variable {X : Cx} {W : WX} {a b c e : Expr} {es : List Expr} {ma mb : ME} {ms : MA} {pos : Pos}
def eLstV (a : MA) : ME := fun s h => (a s h).bind fun xs h1 => if xs.length ≤ sizeLine then .ok (.lv xs) h1 else .stuck
theorem me_lstV (h : PAm X W es ms) : PEm X W (.List es pos) (eLstV ms) := (pe_lst h).frz.mimp fun s H Q ⟨r, sm, h, hs, ss, w⟩ =>
  tMA_bind hs ss w fun r1 h1 vs xs H1 hs1 ss1 p1 q1 w1 => by
    split at w1
    · rename_i hl
      exact ⟨by rw [← q1.length]; exact hl, fun p hp => Wt.lv hs1 hp q1 w1⟩
    · exact w1.elim
theorem cat_lists {pins : List (Addr × Obj)} {σ : L2.St} {H : Hp} {s : Shared} {l b : Addr} {xs zs : List V} {Q : VK} (I : L2.Inv X pins σ H s) (hl : Rd H l (.lst xs)) (hb : Rd H b (.lst zs)) (hz : xs.length + zs.length ≤ sizeLine) (q : ∀ p, H p = none → FzQ Q (.ref p) (upd H p (.lst (xs ++ zs)))) :
    wpAny (model X.prog X.w) X.A (binaryOp .Add (.ref l) (.ref b)) (EP X pins σ Q) X.xe s := by
  obtain ⟨_, ls, n, rl, el⟩ := hl.ok I.hok
  obtain ⟨_, bs, m, rb, eb⟩ := hb.ok I.hok
  have both := rl.append rb
  have room : ls.toArray.size + bs.toArray.size ≤ sizeLine := by
    rw [List.size_toArray, List.size_toArray, ← rl.length, ← rb.length]
    exact hz
  have I2 := I.lnew (t' := s.toks) both (by rw [List.length_append]; exact hz)
  rw [← List.append_toArray] at I2
  exact PySem.P.add_list el eb (ep_frz ⟨.ref _, _, I2, rfl, q _ I.fresh⟩) room
def rCatR : R2 := fun x y H Q => ∃ l b xs zs, x = .ref l ∧ y = .ref b ∧ Rd H l (.lst xs) ∧ Rd H b (.lst zs) ∧ xs.length + zs.length ≤ sizeLine ∧ ∀ p, H p = none → FzQ Q (.ref p) (upd H p (.lst (xs ++ zs)))
theorem op_catR : OpR X (binaryOp .Add) rCatR := fun pins s σ H x y v u Q I rx ry ⟨l, b, xs, zs, ex, ey, dl, db, hz, q⟩ => by
  cases ex
  cases ey
  cases rx
  cases ry
  exact cat_lists I dl db hz q
def mAddV : F2 := fun a b h => match lstR h a, lstR h b with
  | some xs, some ys => if xs.length + ys.length ≤ sizeLine then some (.lv (xs ++ ys), h) else none
  | _, _ => mAdd a b h
theorem om_addV : OpR X (binaryOp .Add) (rM X.w X.K X.mg mAddV) := by
  intro pins s σ H x y v u Q I rx ry hh
  obtain ⟨r, h, a, b, hs, ra, rb, w⟩ := hh
  unfold mAddV at w
  split at w
  · rename_i xs ys h1 h2
    split at w
    · rename_i hl
      obtain ⟨p, zs, rfl, d1, q1⟩ := hs.listR ra h1
      obtain ⟨p2, zs2, rfl, d2, q2⟩ := hs.listR rb h2
      exact op_catR pins s σ H _ _ v u Q I rx ry ⟨p, p2, zs, zs2, rfl, rfl, d1, d2, by rw [← q1.length, ← q2.length]; exact hl, fun p hp => Wt.lv hs hp (q1.append q2) w⟩
    · exact w.elim
  · exact om_add pins s σ H _ _ v u Q I rx ry ⟨r, h, a, b, hs, ra, rb, w⟩
def mMulV : F2 := fun a b h => match a, b with
  | .ref n, .int k => (match h[n]? with
    | some (.lst xs) => if -(2 ^ 63) ≤ k ∧ k < 2 ^ 63 ∧ xs.length * k.toNat ≤ sizeLine then some (.lv (List.replicate k.toNat xs).flatten, h) else none
    | _ => none)
  | _, _ => mMul a b h
theorem om_mulV : OpR X (binaryOp .Mult) (rM X.w X.K X.mg mMulV) := by
  intro pins s σ H x y v u Q I rx ry hh
  obtain ⟨r, h, a, b, hs, ra, rb, w⟩ := hh
  unfold mMulV at w
  split at w
  · rename_i n k
    split at w
    · rename_i xs h1
      split at w
      · rename_i hc
        cases rb
        cases ra with | ref ea =>
        obtain ⟨ys, e1, q1⟩ := hs.lookup ea h1
        exact thn (op_rep pins s σ H _ _ v u (FzQ Q) I rx ry ⟨_, k, ys, rfl, rfl, e1, hc.1, hc.2.1, by rw [← q1.length]; exact hc.2.2, fun p hp => Wt.lv hs hp (q1.rep k.toNat) w⟩) fun _ _ z => ep_frz z
      · exact w.elim
    · exact w.elim
  · exact om_mul pins s σ H _ _ v u Q I rx ry ⟨r, h, a, b, hs, ra, rb, w⟩
def mCutV (x : MV) (lo hi : Option Int) (h : MH) : Option (MV × MH) := match lstV h x with
  | some xs => some (.lv (cutM xs lo hi), h)
  | none => mCut x lo hi h
def eCutV (a : ME) (lo hi : MP_) : ME := fun s h => (a s h).bind fun x h1 => (lo s h1).bind fun l h2 => (hi s h2).bind fun u h3 => ofO (mCutV x l u h3)
def rCutV (X : Cx) : V → Option Int → Option Int → Hp → VK → Prop := fun x lo hi H Q => ∃ r h a, HS X.w X.K X.mg r h H ∧ Rep X.K X.mg r H a x ∧ Wt X.w X.K X.mg (Rep X.K X.mg) r H (fun _ _ _ => False) Q (ofO (mCutV a lo hi h))
theorem slmV : SlR X (rCutV X) := by
  intro pins s σ H x v vl vu lo hi sl Q I rx hsl pl pu hh
  obtain ⟨r, h, a, hs, ra, w⟩ := hh
  unfold mCutV at w
  split at w
  · rename_i xs h1
    obtain ⟨p, zs, rfl, sq, ql⟩ := hs.listV ra h1
    obtain ⟨T, id, t1, t2, t3⟩ := sl_list pins s σ H _ v vl vu lo hi sl (FzQ Q) I rx hsl pl pu ⟨_, _, rfl, sq, fun p hp => Wt.lv hs hp (ql.cut lo hi) w⟩
    exact ⟨T, id, t1, t2, thn t3 fun _ _ z => ep_frz z⟩
  · exact slm pins s σ H _ v vl vu lo hi sl Q I rx hsl pl pu ⟨r, h, a, hs, ra, w⟩
theorem me_cutV {lo hi : Option Expr} {ml mh : MP_} {p2 : Pos} (ha : PEm X W a ma) (hl : POm X W lo ml) (hh : POm X W hi mh) : PEm X W (.Subscript a (.Slice lo hi none p2) pos) (eCutV ma ml mh) := (pe_slice slmV ha hl hh).mimp fun s H Q ⟨r, sm, h, hs, ss, w⟩ =>
  tM_bind hs ss w fun r1 h1 v x H1 hs1 ss1 p1 q1 w1 => by
    refine ⟨r1, sm, h1, hs1, ss1, (Wt.bind (rel := fun _ _ a b => a = b) w1).imp (fun _ _ _ z => z) fun l H2 ⟨r2, h2, l', p2, e2, w2⟩ => ?_⟩
    subst e2
    refine ⟨r2, sm, h2, p2.hs, ss1.post hs1 p2, (Wt.bind (rel := fun _ _ a b => a = b) w2).imp (fun _ _ _ z => z) fun u H3 ⟨r3, h3, u', p3, e3, w3⟩ => ?_⟩
    subst e3
    exact ⟨r3, h3, v, p3.hs, p3.rep p2.hs (p2.rep hs1 q1), w3.anyE⟩
def eRevV (a : ME) : ME := fun s h => (a s h).bind fun x h1 => match lstV h1 x with
  | some xs => .ok (.lv xs.reverse) h1
  | none => eRev (fun _ h2 => .ok x h2) s h1
def mListV : FA
  | [.tup xs], h => some (.lv xs, h)
  | [v], h => match lstV h v with
    | some xs => some (.lv xs, h)
    | none => none
  | _, _ => none
theorem cm_listV : CallR X (.type "list") (rMA X mListV) := by
  intro pins s σ H xs us Q I rv hh
  obtain ⟨r, h, as, hs, ra, w⟩ := hh
  unfold mListV at w
  split at w
  · obtain ⟨x, rfl, q⟩ := repL1 ra
    cases q with
    | tup sq ql => exact thn (call_list_of pins s σ H _ us (FzQ Q) I rv ⟨_, _, rfl, .inr sq, fun l hl => Wt.lv hs hl ql w⟩) fun _ _ z => ep_frz z
  · obtain ⟨x, rfl, q⟩ := repL1 ra
    split at w
    · rename_i ys hl
      obtain ⟨_, zs, rfl, sq, ql⟩ := hs.listV q hl
      exact thn (call_list_of pins s σ H _ us (FzQ Q) I rv ⟨_, _, rfl, .inl sq, fun l hl => Wt.lv hs hl ql w⟩) fun _ _ z => ep_frz z
    · exact w.elim
  · exact w.elim
end
def lcW (it : MIt) (t : Tg) (tt : MT) (te : ME) (sw : Sl) (n : Nat) : Nat → List MV → MH → R MV :=
  Nat.rec (fun i acc h => match it.at h i with
    | some none => .ok (.lv acc) h
    | _ => .stuck)
  (fun _ go i acc h => match it.at h i with
    | some none => .ok (.lv acc) h
    | some (some v) => match t.run v sw with
      | some s2 => match tt s2 h with
        | .ok true h3 => (match te s2 h3 with
          | .ok y h4 => if acc.length < sizeLine then go (i + 1) (acc ++ [y]) h4 else .stuck
          | _ => .stuck)
        | .ok false h3 => go (i + 1) acc h3
        | _ => .stuck
      | none => .stuck
    | none => .stuck) n
theorem lcW_zero (it : MIt) (t : Tg) (tt : MT) (te : ME) (sw : Sl) (i : Nat) (acc : List MV) (h : MH) : lcW it t tt te sw 0 i acc h = match it.at h i with
    | some none => .ok (.lv acc) h
    | _ => .stuck := rfl
theorem lcW_succ (it : MIt) (t : Tg) (tt : MT) (te : ME) (sw : Sl) (n i : Nat) (acc : List MV) (h : MH) : lcW it t tt te sw (n + 1) i acc h = match it.at h i with
    | some none => .ok (.lv acc) h
    | some (some v) => match t.run v sw with
      | some s2 => match tt s2 h with
        | .ok true h3 => (match te s2 h3 with
          | .ok y h4 => if acc.length < sizeLine then lcW it t tt te sw n (i + 1) (acc ++ [y]) h4 else .stuck
          | _ => .stuck)
        | .ok false h3 => lcW it t tt te sw n (i + 1) acc h3
        | _ => .stuck
      | none => .stuck
    | none => .stuck := rfl
def eLv (mi : MI) (ws : List Nat) (t : Tg) (tt : MT) (te : ME) : ME := fun s h => (mi s h).bind fun it h1 => lcW it t tt te (wipeM s ws) (it.fuel h1) 0 [] h1
section
variable {X : Cx} {W : WX} {elt tg iter c : Expr} {ifs : List Expr} {scope : Scope} {own : List (Str × Nat)} {pos : Pos} {mi : MI} {t : Tg} {tt : MT} {te : ME}
theorem tLv_of (hw : ∀ i ∈ t.own, i ∈ own.map (·.2)) : ∀ (s : L2.St) (H : Hp) (Q : VK), tM X.w X.K X.mg W (eLv mi (own.map (·.2)) t tt te) s H Q → tLc (tMI X.w X.K X.mg W mi) (t.tg X.K) (tMT X.w X.K X.mg W0 tt) (tM X.w X.K X.mg W0 te) (own.map (·.2)) s H (FzQ Q) := fun s H Q ⟨r, sm, h, hs, ss, w⟩ => by
  refine ⟨r, sm, h, hs, ss, (Wt.bind (rel := IR X.w X.K X.mg) w).imp (fun _ _ _ z => z) fun J H1 ⟨r1, h1, it, p1, ir, w1⟩ D hD => ?_⟩
  have ss1 := ss.post hs p1
  have pD := p1.hs.extra (u := .lst []) hD
  have hDr1 : D ∉ r1 := p1.hs.notNone hD
  refine ⟨fun i m H' => ∃ r' h' acc ys, Post X.w X.K X.mg r1 H1 r' h' H' ∧ D ∉ r' ∧ H' D = some (.lst ys) ∧ RepL X.K X.mg r' H' acc ys ∧ Wt X.w X.K X.mg (Rep X.K X.mg) r1 H1 (fun c d H2 => W c d s H2) Q (lcW it t tt te (wipeM sm (own.map (·.2))) m i acc h'),
    ⟨it.fuel h1, r1, h1, [], [], pD, hDr1, upd_same, .nil, w1⟩, ?_⟩
  rintro i m H' ⟨r', h', acc, ys, p', hDr, eD, ql, w'⟩
  obtain ⟨st, gs⟩ := ir r' h' H' i p'
  have fin : Wt X.w X.K X.mg (Rep X.K X.mg) r1 H1 (fun c d H2 => W c d s H2) Q (.ok (.lv acc) h') → FzQ Q (.ref D) H' := fun w2 => by
    refine .inr ⟨D, ys, rfl, eD, fun o => ?_⟩
    obtain ⟨hs5, ht5⟩ := p'.hs.side (u := .frz o (.lst ys)) hDr eD trivial
    refine w2 r' _ (.ref D) ⟨p'.pre, hs5, fun b o hb eb t => ⟨(p'.fr b o hb eb t).1, ?_⟩, fun b o u eb => by rw [upd_ne (fun (z : b = D) => by rw [z, hD] at eb; cases eb)]; exact p'.fz b o u eb⟩ (.lv ⟨o, upd_same⟩ (RepL.mono ht5 (fun _ _ z => z) _ _ ql))
    have hne : b ≠ D := fun z => by rw [z, hD] at eb; cases eb
    rw [upd_ne hne]
    exact (p'.fr b o hb eb t).2
  cases m with
  | zero =>
    rw [lcW_zero] at w'
    split at w'
    · rename_i e
      exact .inl ⟨st e, fin w'⟩
    · exact w'.elim
  | succ m =>
    rw [lcW_succ] at w'
    split at w'
    · rename_i e
      exact .inl ⟨st e, fin w'⟩
    · rename_i v e
      obtain ⟨go, yl⟩ := gs v e
      split at w'
      · rename_i s2 es2
        refine .inr ⟨go, fun H2 => ∃ r' h' acc ys, Post X.w X.K X.mg r1 H1 r' h' H2 ∧ D ∉ r' ∧ H2 D = some (.lst ys) ∧ RepL X.K X.mg r' H2 acc ys ∧ Wt X.w X.K X.mg (Rep X.K X.mg) r1 H1 (fun c d H3 => W c d s H3) Q (lcW it t tt te (wipeM sm (own.map (·.2))) m (i + 1) acc h'), fun H2 z => ⟨m, Nat.lt_succ_self m, z⟩, fun x H2 y => ?_⟩
        obtain ⟨p2, q2⟩ := yl x H2 y
        have eD2 := p2.at_ eD hDr
        have ql2 := p2.repL p'.hs ql
        have pp := p'.trans p2
        have ssw : SS X.K X.mg r' H2 (wipeM sm (own.map (·.2))) (L2.wipe s (own.map (·.2))) := (((ss1.post p1.hs p').post p'.hs p2)).wipe _
        refine tg_ok (ws := own.map (·.2)) ssw q2 es2 hw fun σ2 ss2 ew hlen => ⟨ew.trans ?_, ?_⟩
        · -- wiping twice is wiping once
          exact wipe_wipe _ _
        · refine ⟨r', s2, h', p2.hs, ss2, ?_⟩
          cases et : tt s2 h' with
          | stuck => rw [et] at w'; exact w'.elim
          | err x h3 => rw [et] at w'; exact w'.elim
          | ok b h3 =>
            rw [et] at w'
            intro r3 H3 b' p3 eb
            subst eb
            have eD3 := p3.at_ eD2.1 eD2.2
            cases b with
            | false => exact iteF ⟨r3, h3, acc, ys, pp.trans p3, eD3.2, eD3.1, p3.repL p2.hs ql2, w'⟩
            | true =>
              refine iteT ⟨r3, s2, h3, p3.hs, ss2.post p2.hs p3, ?_⟩
              dsimp only at w'
              cases ee : te s2 h3 with
              | stuck => rw [ee] at w'; exact w'.elim
              | err x h4 => rw [ee] at w'; exact w'.elim
              | ok y4 h4 =>
                rw [ee] at w'
                dsimp only at w'
                split at w'
                · rename_i hz
                  intro r4 H4 z4 p4 q4
                  have eD4 := p4.at_ eD3.1 eD3.2
                  have ql4 := p4.repL p3.hs (p3.repL p2.hs ql2)
                  refine ⟨ys, eD4.1, by rw [← ql4.length]; exact hz, ?_⟩
                  obtain ⟨hs5, ht5⟩ := p4.hs.side (u := .lst (ys ++ [z4])) eD4.2 eD4.1 trivial
                  have p5 := (pp.trans p3).trans p4
                  refine ⟨r4, h4, acc ++ [y4], ys ++ [z4], ⟨p5.pre, hs5, fun b o hb eb t => ⟨(p5.fr b o hb eb t).1, ?_⟩, fun b o u eb => by rw [upd_ne (fun (z : b = D) => by rw [z, hD] at eb; cases eb)]; exact p5.fz b o u eb⟩, eD4.2, upd_same, ?_, w'⟩
                  · have hne : b ≠ D := fun z => by rw [z, hD] at eb; cases eb
                    rw [upd_ne hne]
                    exact (p5.fr b o hb eb t).2
                  · exact (RepL.mono ht5 (fun _ _ z => z) _ _ ql4).append (.cons (Rep.mono ht5 (fun _ _ z => z) _ _ q4) .nil)
                · exact w'.elim
      · exact w'.elim
    · exact w'.elim
theorem tMI_mono {ww : World} {K : PySem.W.Frag} {mg : Str → Option Value} {m : MI} (s : L2.St) (H : Hp) (R R' : It → Hp → Prop) (h : ∀ J H1, R J H1 → R' J H1) (w : tMI ww K mg W m s H R) : tMI ww K mg W m s H R' := by
  obtain ⟨r, sm, h0, hs, ss, w⟩ := w
  exact ⟨r, sm, h0, hs, ss, w.imp (fun _ _ _ z => z) h⟩
theorem tLc_mono {wi : TI} {g : TG} {tt' : TT} {te' : TE} {vs : List Nat} {s : L2.St} {H : Hp} {Q Q' : VK} (hw : ∀ s H R R', (∀ J H1, R J H1 → R' J H1) → wi s H R → wi s H R') (hq : ∀ v H, Q v H → Q' v H) (h : tLc wi g tt' te' vs s H Q) : tLc wi g tt' te' vs s H Q' := by
  refine hw _ _ _ _ (fun J H1 z D hD => ?_) h
  obtain ⟨Wv, h0, st⟩ := z D hD
  exact ⟨Wv, h0, fun i m H w => (st i m H w).imp (fun ⟨a, b⟩ => ⟨a, hq _ _ b⟩) id⟩
theorem me_lcV (hc : X.calm = true) (hN : X.N.Nodup) (hi : PIm X W tg iter mi) (ok : BlkOk X.N X.env.scope scope own) (hw : ∀ i ∈ t.own, i ∈ own.map (·.2))
    (hg : ∀ (s : Shared) (H : Hp) (C : Addr) (cl : List (Str × Addr)) (fp : List Addr), PG (X.blk s H scope (compEnvC scope cl C X.env) fp) tg (t.tg X.K))
    (ht : ∀ (s : Shared) (H : Hp) (C : Addr) (cl : List (Str × Addr)) (fp : List Addr), PTs (X.blk s H scope (compEnvC scope cl C X.env) fp) ifs (tMT X.w X.K X.mg W0 tt))
    (he : ∀ (s : Shared) (H : Hp) (C : Addr) (cl : List (Str × Addr)) (fp : List Addr), PEm (X.blk s H scope (compEnvC scope cl C X.env) fp) W0 elt te) (hfs : ∀ x, foldedSetIterable iter X.env x = pure x := by intro _; rfl) :
    PEm X W (.ListComp elt [⟨tg, iter, ifs, 0⟩] scope pos) (eLv mi (own.map (·.2)) t tt te) := (pe_lc hc hN hi ok hg ht he hfs).frz.mimp (tLv_of hw)
theorem ms_setLcV {i : Nat} {y : Str} {py spos : Pos} (hc : X.calm = true) (hN : X.N.Nodup) (hy : X.N[i]? = some y) (hyl : X.env.scope.names.lookup y = some .local)
    (hsw : swapsWith (.ListComp elt [⟨tg, iter, ifs, 0⟩] scope pos) (some (.Name y py)) spos.line X.env = pure true) (hi : PIm X W tg iter mi) (ok : BlkOk X.N X.env.scope scope own) (hw : ∀ i ∈ t.own, i ∈ own.map (·.2))
    (hg : ∀ (s : Shared) (H : Hp) (C : Addr) (cl : List (Str × Addr)) (fp : List Addr), PG (X.blk s H scope (compEnvC scope cl C X.env) fp) tg (t.tg X.K))
    (ht : ∀ (s : Shared) (H : Hp) (C : Addr) (cl : List (Str × Addr)) (fp : List Addr), PTs (X.blk s H scope (compEnvC scope cl C X.env) fp) ifs (tMT X.w X.K X.mg W0 tt))
    (he : ∀ (s : Shared) (H : Hp) (C : Addr) (cl : List (Str × Addr)) (fp : List Addr), PEm (X.blk s H scope (compEnvC scope cl C X.env) fp) W0 elt te) (hfs : ∀ x, foldedSetIterable iter X.env x = pure x := by intro _; rfl) :
    PSm X W (.Assign [.Name y py] (.ListComp elt [⟨tg, iter, ifs, 0⟩] scope pos) spos) (sAsg (eLv mi (own.map (·.2)) t tt te) (gNm i)) := (ps_setLc hc hN hy hyl hsw hi ok hg ht he hfs).frz.mimp fun D s H ⟨r, sm, h, hs, ss, w⟩ =>
  tLc_mono tMI_mono (fun v H1 z => z.imp id fun ⟨p, xs, _, a, b⟩ => ⟨p, xs, a, b⟩) (tLv_of hw s H (fun v H1 => D.nx (s.set i (some v)) H1) (tM_bindS hs ss w fun r1 h1 v x H1 hs1 ss1 p1 q1 w1 => WtS.nx hs1 (ss1.set q1 i) w1))
end
end MP

end
section
namespace MP
open PySem PySem.Spec PyProof.Rows L2
section
variable {P : Program} {w : World} {K : PySem.W.Frag} {mg : Str → Option Value} {base : Heap} {C : CXT} {k : Nat} {f : Addr} {fd : FuncData} {ps : List Str} {sp : Sp} {m : MF}
def trimRV (n : Nat) : R MV → R MV
  | .ok (.ref j) h => if n ≤ j then (match h[j]? with
    | some (.lst xs) => if belowL n xs && belowH n (h.take n) then .ok (.lv xs) (h.take n) else .stuck
    | _ => .stuck) else trimR n (.ok (.ref j) h)
  | x => trimR n x
def trimV (m : MF) : MF := fun as h => trimRV h.length (m as h)
def pureRV (h : MH) : R MV → R MV
  | .ok (.ref j) h1 => match h1[j]? with
    | some (.lst xs) => if belowL 0 xs then .ok (.lv xs) h else .stuck
    | _ => .stuck
  | x => pureR h x
def pureV (m : MF) : MF := fun as h => if belowL 0 as then pureRV h (m as []) else .stuck
theorem Post.lock {r : List Addr} {h : MH} {H H' : Hp} {a : Addr} {ys : List V} (p : Post w K mg r H r h H') (ha : a ∉ r) (hn : ∀ o, OkT K a o → H a ≠ some o) (e : H' a = some (.lst ys)) (o : Obj) : Post w K mg r H r h (upd H' a (.frz o (.lst ys))) ∧ Kp K H' (upd H' a (.frz o (.lst ys))) := by
  obtain ⟨hs5, ht5⟩ := p.hs.side (u := .frz o (.lst ys)) ha e trivial
  refine ⟨⟨p.pre, hs5, fun b o hb eb t => ⟨(p.fr b o hb eb t).1, ?_⟩, fun b o u eb => ?_⟩, ht5⟩
  · rw [upd_ne (fun z => hn o (by rw [← z]; exact t) (by rw [← z]; exact eb))]
    exact (p.fr b o hb eb t).2
  · rw [upd_ne (fun z => hn (.frz o u) (.inl fun _ q => by cases q) (by rw [← z]; exact eb))]
    exact p.fz b o u eb
theorem Wt.trimV {ww : World} {r : List Addr} {h : MH} {H : Hp} {E : XK} {Q : VK} {x : R MV} (hs : HS ww K mg r h H) (w : Wt ww K mg (Rep K mg) r H E Q (trimRV h.length x)) : Wt ww K mg (Rep K mg) r H E (FzQ Q) x := by
  unfold trimRV at w
  split at w
  · rename_i j h'
    split at w
    · rename_i hj
      split at w
      · rename_i xs hx
        split at w
        · rename_i b
          rw [Bool.and_eq_true] at b
          rw [← hs.len] at b w hj
          intro r' H' y p q
          cases q with
          | ref ea =>
            rename_i a
            obtain ⟨ys, e1, ql⟩ := p.hs.lookup ea hx
            have har' : a ∈ r' := List.mem_of_getElem? ea
            have har : a ∉ r := fun z => by
              obtain ⟨t, rfl⟩ := p.pre
              rw [List.getElem?_append_right hj] at ea
              exact (List.nodup_append.mp p.hs.nd).2.2 a z a (List.mem_of_getElem? ea) rfl
            refine .inr ⟨a, ys, rfl, e1, fun o => ?_⟩
            obtain ⟨po, kp⟩ := (p.trim b.2).lock har (fun o t z => (p.fr a o har z t).1 har') e1 o
            exact w r _ (.ref a) po (.lv ⟨o, upd_same⟩ (RepL.mono kp (fun _ _ z => z) _ _ (RepL.bel p.ixb _ _ b.1 ql)))
        · exact w.elim
      · exact w.elim
    · exact (Wt.trim hs w).frz
  · exact (Wt.trim hs w).frz
theorem Wt.pureV {ww : World} {r : List Addr} {h : MH} {H : Hp} {E : XK} {Q : VK} {x : R MV} (hs : HS ww K mg r h H) (w : Wt ww K mg (Rep K mg) r H E Q (pureRV h x)) : Wt ww K mg (Rep K mg) [] H E (FzQ Q) x := by
  unfold pureRV at w
  split at w
  · rename_i j h'
    split at w
    · rename_i xs hx
      split at w
      · rename_i b
        intro r' H' y p q
        cases q with
        | ref ea =>
          rename_i a
          obtain ⟨ys, e1, ql⟩ := p.hs.lookup ea hx
          have har' : a ∈ r' := List.mem_of_getElem? ea
          have hno : ∀ o, OkT K a o → H a ≠ some o := fun o t z => (p.fr a o (by simp) z t).1 har'
          have har : a ∉ r := fun z => by
            obtain ⟨o, e, pl⟩ := hs.plain z
            exact hno o (.inl fun ps q => by rw [q] at pl; exact pl) e
          refine .inr ⟨a, ys, rfl, e1, fun o => ?_⟩
          obtain ⟨po, kp⟩ := (p.pure hs).lock har hno e1 o
          exact w r _ (.ref a) po (.lv ⟨o, upd_same⟩ (RepL.mono kp (fun _ _ z => z) _ _ (RepL.bel (n := 0) (fun i a hi _ => by omega) _ _ b ql)))
      · exact w.elim
    · exact w.elim
  · exact (Wt.pure hs w).frz
theorem FnM.trimV (F : FnM P w K mg base k f fd ps m) : FnM P w K mg base k f fd ps (trimV m) := F.frz.imp fun vs H Q E ⟨hl, r, h, as, hs, q, w⟩ => ⟨hl, r, h, as, hs, q, Wt.trimV hs w⟩
theorem FnM.pureV (F : FnM P w K mg base k f fd ps m) : FnM P w K mg base k f fd ps (pureV m) := F.frz.imp fun vs H Q E ⟨hl, r, h, as, hs, q, w⟩ => by
  unfold MP.pureV at w
  split at w
  · rename_i b
    exact ⟨hl, [], [], as, ⟨rfl, .nil, (fun n o a e _ => by cases e), hs.tb⟩, RepL.bel (n := 0) (fun i a hi _ => by omega) _ _ b q, Wt.pureV hs w⟩
  · exact w.elim
theorem Fn.pureV {x : Str} {np : Nat} (F : Fn P w K mg base x k np m) : Fn P w K mg base x k np (MP.pureV m) := by
  obtain ⟨f, fd, ps, h1, F, h2, h3, h4⟩ := F.ex
  exact ⟨f, fd, ps, h1, FnM.pureV F, h2, h3, h4⟩
end
section
variable {X : Cx} {W : WX} {a b c e : Expr} {es : List Expr} {ma mb : ME} {ms : MA} {pos : Pos}
end
end MP

end
section
namespace MP
open PySem PySem.Spec PyProof.Rows L2
section
variable {X : Cx}
end
end MP

end
section
namespace MP
open PySem PySem.Spec PyProof.Rows L2
section
variable {X : Cx} {W : WX} {a b c e : Expr} {es : List Expr} {ma mb : ME} {ms : MA} {pos : Pos}
def seqS (h : MH) : MV → Option (List MV)
  | .tup xs => some xs
  | x => lstV h x
theorem HS.seqS {ww : World} {K : PySem.W.Frag} {mg : Str → Option Value} {r : List Addr} {h : MH} {H : Hp} (hs : HS ww K mg r h H) {v : MV} {x : V} {xs : List MV} (q : Rep K mg r H v x) (l : MP.seqS h v = some xs) : ∃ p ys, x = .ref p ∧ (SqT K H p ys ∨ SqL K H p ys) ∧ RepL K mg r H xs ys := by
  unfold MP.seqS at l
  split at l
  · cases l
    cases q with
    | tup sq ql => exact ⟨_, _, rfl, .inl sq, ql⟩
  · obtain ⟨p, ys, e1, e2, e3⟩ := hs.listV q l
    exact ⟨p, ys, e1, .inr e2, e3⟩
def aStar (a : ME) (b : MA) : MA := fun s h => (a s h).bind fun x h1 => match seqS h1 x with
  | some xs => (b s h1).bind fun ys h2 => .ok (xs ++ ys) h2
  | none => .stuck
theorem ma_star {p : Pos} (ha : PEm X W e ma) (hr : PAm X W es ms) (hst : starEach (.Starred e p :: es) X.env = (true, eval e X.env) :: starEach es X.env := by rfl) : PAm X W (.Starred e p :: es) (aStar ma ms) := (StX.pa_star ha hr hst).mimp fun s H Q ⟨r, sm, h, hs, ss, w⟩ =>
  tM_bind hs ss w fun r1 h1 v x H1 hs1 ss1 p1 q1 w1 => by
    cases e : seqS h1 v with
    | none => rw [e] at w1; exact w1.elim
    | some xs =>
      rw [e] at w1
      obtain ⟨p, zs, e1, sq, ql⟩ := hs1.seqS q1 e
      refine ⟨p, zs, e1, sq, ?_⟩
      exact tMA_bind hs1 ss1 w1 fun r2 h2 vs ys H2 hs2 ss2 p2 q2 w2 => w2 r2 H2 _ (Post.refl hs2) ((p2.repL hs1 ql).append q2)
end
end MP

end
section
namespace MP
open PySem PySem.Spec PyProof.Rows L2
theorem base_V : BaseX "ValueError" "ValueError.__new__" "ValueError.__init__" tlV := ⟨PySem.W.kxs_ValueError, F.excBase_ValueError, F.store_ValueError⟩
theorem base_O : BaseX "OverflowError" "OverflowError.__new__" "OverflowError.__init__" tlO := ⟨PySem.W.kxs_OverflowError, F.excBase_OverflowError, F.store_OverflowError⟩
section
variable {P : Program} {w : World} {K : PySem.W.Frag} {mg : Str → Option Value} {C : Addr} {f : Str}
end
end MP

end
section
namespace MP
open PySem PySem.Spec PyProof.Rows L2
section
variable {X : Cx} {C : Addr} {f : Str} {k : Nat} {pins : List (Addr × Obj)} {σ : L2.St} {H : Hp} {s : Shared}
theorem make_run (XC : XcC X.prog X.K C f) (I : L2.Inv X pins σ H s) (hr : RoomG (k + 1) X.A) {u : Value} {Q : Value → Shared → Prop}
    (h : ∀ (e dx t1 : Addr) (h' : Heap) (tk : Nat), s.heap.objs.size ≤ e → s.heap.objs.size ≤ dx → dx ≠ e → (∀ b o, s.heap.get? b = some o → h'.get? b = some o) →
      h'.get? e = some (PySem.W.excObj C t1 (some dx) .none) → h'.Ns1 dx (fun y => if y = f then some u else none) → Q (.ref e) { s with heap := h', toks := tk }) :
    wpAny (model X.prog X.w) X.A (call (.ref C) [u]) Q X.xe s := by
  obtain ⟨B, nid, iid, tl, bx, xin, _, _, _⟩ := XC.base
  obtain ⟨fI, i1, i2, run⟩ := XC.run (w := X.w) (mg := X.mg)
  obtain ⟨mb, b1, b2⟩ := I.ok.mod.blt
  have kin := I.kIn
  have lim := I.nolimit
  have glob : s.heap.Ns mainGlobals X.mg := I.mod.glob.keeps I.bk
  have blt : s.heap.Ns builtinsNs mb := b1.keeps I.bk
  obtain ⟨nm, N, qn, bs, bm, hdct, sn, sub, ab, col, dd, k0, k1, k2, k3, k5, hC, hbm⟩ := PySem.W.excInit_of kin xin
  cases s with | mk hp g dr tk os => ?_
  have kk : ∀ b o, hp.get? b = some o → ((hp.push (PySem.W.kdv_tup [u])).push (PySem.HandSPX.excO C hp.objs.size)).get? b = some o := fun b o e => Heap.get?_push_of_some _ (Heap.get?_push_of_some _ e)
  have hget : ((hp.push (PySem.W.kdv_tup [u])).push (PySem.HandSPX.excO C hp.objs.size)).get? (hp.objs.size + 1) = some (PySem.HandSPX.excO C hp.objs.size) := by heap_get
  have ke : X.K.lookup (hp.objs.size + 1) = none := by
    cases z : X.K.lookup (hp.objs.size + 1) with
    | none => rfl
    | some o => exact absurd (Heap.lt_size (kin _ _ z)) (Nat.not_lt.mpr (Nat.le_succ _))
  refine wpAny_call (PySem.HandSPX.call_own bx.eb hbm hC (PySem.W.looks_findIn kin i1) (fun self => PySem.W.bind_fn kin self i2) (by show 1 ≤ sizeLine; rw [sizeLine_eq]; omega) ?_)
  refine run _ ⟨(hp.push (PySem.W.kdv_tup [u])).push (PySem.HandSPX.excO C hp.objs.size), g, dr, tk, os⟩ mb (hp.objs.size + 1) hp.objs.size u _ _ (.inl rfl) (hr.make C [u] []).toRoom.depth (kin.keeps kk) (lim.keeps kk) (glob.keeps kk) (blt.keeps kk) (b2 "super" (by decide)) hget ke (fun h' tk' dx t1 kp dn dne hx hn => ?_)
  have hs2 : ((hp.push (PySem.W.kdv_tup [u])).push (PySem.HandSPX.excO C hp.objs.size)).objs.size = hp.objs.size + 2 := by simp [Heap.size_push]
  refine ⟨rfl, h (hp.objs.size + 1) dx t1 h' tk' (Nat.le_succ _) ?_ dne (fun b o z => kp b o (fun y => ?_) (kk b o z)) hx hn⟩
  · rw [hs2] at dn
    exact Nat.le_trans (Nat.le_add_right _ 2) dn
  · have := Heap.lt_size z
    rw [y] at this
    exact absurd this (Nat.not_lt.mpr (Nat.le_succ _))
section
variable {e dx t1 : Addr} {y : V} {u : Value} {h' : Heap} {tk : Nat} (I : L2.Inv X pins σ H s) (he : s.heap.objs.size ≤ e) (hd : s.heap.objs.size ≤ dx) (hne : dx ≠ e) (kp : ∀ b o, s.heap.get? b = some o → h'.get? b = some o)
  (hx : h'.get? e = some (PySem.W.excObj C t1 (some dx) .none)) (hn : h'.Ns1 dx (fun y => if y = f then some u else none)) (ry : RelV y u)
include I he hd hne kp hn ry in
theorem made_dict : L2.Inv X pins σ (upd H dx (.xd [(f, y)])) { s with heap := PySem.W.hideAll h' [e], toks := tk } := by
  obtain ⟨od, es, ep, hod, r1, r2⟩ := hn
  have other {b : Addr} (hb : b ≠ e) : b ∉ [e] := fun m => hb (List.mem_singleton.mp m)
  refine I.laidN (fun b o z => PySem.W.hideAll_get [e] (kp b o z) (other fun y => ?_)) (Heap.get?_none_of_le hd) (I.hok.fresh hd) ⟨_, ⟨od, es, ep, PySem.W.hideAll_get [e] hod (other hne), r1, r2⟩, relO_put (fs := []) ry fun g => True.intro⟩
  exact absurd (Heap.lt_size z) (Nat.not_lt.mpr (y ▸ he))
include I he hd hne kp hx hn ry in
theorem made_value : L2.Inv X pins σ (upd (upd H dx (.xd [(f, y)])) e (exV e C dx)) { s with heap := h', toks := tk } := by
  have J := made_dict (tk := tk) I he hd hne kp hn ry
  refine J.laidN (t' := tk) (fun b o z => PySem.W.of_hideAll [e] z) (PySem.W.hideAll_none [e] (List.mem_singleton.mpr rfl)) ?_ (exV_ok hx rfl rfl rfl)
  rw [upd_ne (Ne.symm hne)]
  exact I.hok.fresh he
include I he hd hne kp hx hn ry in
theorem made_air (T : Raises X (.ref C)) {Q : XK} (q : Q (.ref C) (some dx) (upd H dx (.xd [(f, y)]))) : MkP X pins σ Q (.ref e) { s with heap := h', toks := tk } :=
  ⟨e, _, _, { s with heap := PySem.W.hideAll h' [e], toks := tk }, _, .ref C, some dx, rfl, made_dict I he hd hne kp hn ry, fun b o z => PySem.W.of_hideAll [e] z, PySem.W.hideAll_none [e] (List.mem_singleton.mpr rfl), hx, ⟨rfl, rfl⟩, rfl, rfl,
    (upd_ne (Ne.symm hne)).trans (I.hok.fresh he), rfl, I.bare, T, q⟩
end
end
section
variable {X : Cx} {W : WX} {C : Addr} {f : Str} {k : Nat} {x : Str} {e : Expr} {ta : TA} {ms : MA} {p pos : Pos}
def tExc (C : Addr) (f : Str) (ta : TA) : TE := fun σ H Q => ta σ H fun vs H1 => ∃ y, vs = [y] ∧ ∀ a d, H1 a = none → H1 d = none → d ≠ a → Q (.ref a) (upd (upd H1 d (.xd [(f, y)])) a (exV a C d))
def tExcR (C : Addr) (f : Str) (ta : TA) : L2.St → Hp → XK → Prop := fun σ H Q => ta σ H fun vs H1 => ∃ y, vs = [y] ∧ ∀ d, H1 d = none → Q (.ref C) (some d) (upd H1 d (.xd [(f, y)]))
theorem pe_excv (XC : XcC X.prog X.K C f) (hm : X.mg x = some (.ref C)) (hg : Gl X x) (hr : RoomG (k + 1) X.A) (ha : PA X [e] ta) (hdb : (x == ("__debug__" : Str)) = false := by decide)
    (he : starEach [e] X.env = (false, eval e X.env) :: starEach [] X.env := by rfl) : PE X (.Call (.Name x p) [e] [] pos) (tExc C f ta) := by
  constructor
  intro pins s σ H Q I h
  refine by_name I hg hm hdb ?_
  refine PySem.W.callWith_K (h₀ := X.base) I.ok.mod.kin XC.kC (thn (ha.run pos pins s σ H _ I h) fun us s1 ⟨vs, H1, I1, r1, y, ev, q⟩ => ⟨I1.kIn, ?_⟩) he (by rfl)
  subst ev
  cases r1 with
  | cons ry rr =>
    cases rr
    refine make_run XC I1 hr fun e dx t1 h' tk he hd hne kp hx hn => ?_
    exact ⟨.ref e, _, made_value I1 he hd hne kp hx hn ry, rfl, q e dx (I1.hok.fresh he) (I1.hok.fresh hd) hne⟩
theorem pmk_excv (XC : XcC X.prog X.K C f) (hm : X.mg x = some (.ref C)) (hg : Gl X x) (hr : RoomG (k + 1) X.A) (ha : PA X [e] ta) (hdb : (x == ("__debug__" : Str)) = false := by decide)
    (he : starEach [e] X.env = (false, eval e X.env) :: starEach [] X.env := by rfl) : PMk X (.Call (.Name x p) [e] [] pos) (tExcR C f ta) := by
  intro pins s σ H Q I h
  refine by_name I hg hm hdb ?_
  refine PySem.W.callWith_K (h₀ := X.base) I.ok.mod.kin XC.kC (thn (ha.run pos pins s σ H _ I h) fun us s1 ⟨vs, H1, I1, r1, y, ev, q⟩ => ⟨I1.kIn, ?_⟩) he (by rfl)
  subst ev
  cases r1 with
  | cons ry rr =>
    cases rr
    refine make_run XC I1 hr fun e dx t1 h' tk he hd hne kp hx hn => ?_
    exact made_air I1 he hd hne kp hx hn ry (raises_own XC.exC XC.tyC) (q dx (I1.hok.fresh hd))
def eExc (c f : CP) (a : MA) : ME := fun s h => (a s h).bind fun xs h1 => match xs with
  | [v] => .ok (.exc c [f] [v]) h1
  | _ => .stuck
def sRaise (c f : CP) (a : MA) : MS := fun s h => (a s h).bindS s fun xs h1 => match xs with
  | [v] => .err ⟨c, [(f, v)]⟩ s h1
  | _ => .stuck
theorem exc_sp {c ff : CP} {C : Addr} {ta : MA} (hm : X.mg (S c) = some (.ref C)) (s : L2.St) (H : Hp) (Q : VK) (hh : tM X.w X.K X.mg W (eExc c ff ta) s H Q) : tExc C (S ff) (tMA X.w X.K X.mg W ta) s H Q := by
  obtain ⟨r, sm, h, hs, ss, w⟩ := hh
  refine tMA_bind hs ss w fun r1 h1 vs xs H1 hs1 ss1 p1 q1 w1 => ?_
  split at w1
  · rename_i v
    obtain ⟨y, rfl, qv⟩ := repL1 q1
    refine ⟨y, rfl, fun a d na nd hne => ?_⟩
    have po1 := hs1.extra (u := .xd [(S ff, y)]) nd
    have na' : upd H1 d (.xd [(S ff, y)]) a = none := by rw [upd_ne (Ne.symm hne)]; exact na
    have po2 := po1.hs.extra (u := exV a C d) na'
    have po := po1.trans po2
    refine w1 _ _ _ po (.exc hm upd_same (by rw [upd_ne hne, upd_same]; rfl) rfl (.cons (po.rep hs1 qv) .nil))
  · exact w1.elim
theorem me_exc {c ff : CP} (T : Xcs X.prog X.K X.mg c ff) (hr : RoomG k X.A) (hg : Gl X x) (ha : PAm X W [e] ms) (hk : 1 ≤ k := by decide) (hx : x = S c := by decide +kernel) (hdb : (x == ("__debug__" : Str)) = false := by decide)
    (he : starEach [e] X.env = (false, eval e X.env) :: starEach [] X.env := by rfl) : PEm X W (.Call (.Name x p) [e] [] pos) (eExc c ff ms) := by
  obtain ⟨C, hm, XC⟩ := T.ex
  subst hx
  obtain ⟨k', rfl⟩ : ∃ k', k = k' + 1 := ⟨k - 1, by omega⟩
  exact (pe_excv XC hm hg hr ha hdb he).mimp (exc_sp hm)
theorem ms_raise {c ff : CP} {rpos : Pos} (T : Xcs X.prog X.K X.mg c ff) (tk : Takes X W) (hr : RoomG k X.A) (hg : Gl X x) (ha : PAm X W [e] ms) (hc : X.calm = true := by rfl) (hk : 1 ≤ k := by decide) (hx : x = S c := by decide +kernel) (hdb : (x == ("__debug__" : Str)) = false := by decide)
    (he : starEach [e] X.env = (false, eval e X.env) :: starEach [] X.env := by rfl) : PSm X W (.Raise (some (.Call (.Name x p) [e] [] pos)) none rpos) (sRaise c ff ms) := by
  obtain ⟨C, hm, XC⟩ := T.ex
  subst hx
  obtain ⟨k', rfl⟩ : ∃ k', k = k' + 1 := ⟨k - 1, by omega⟩
  exact (ps_raise hc tk (pmk_excv XC hm hg hr ha hdb he)).mimp fun D s H ⟨r, sm, h, hs, ss, w⟩ =>
    tMA_bindS hs ss w fun r1 h1 vs xs H1 hs1 ss1 p1 q1 w1 => by
      split at w1
      · rename_i v
        obtain ⟨y, rfl, qv⟩ := repL1 q1
        refine ⟨y, rfl, fun d nd => ?_⟩
        have po := hs1.extra (u := .xd [(S ff, y)]) nd
        exact w1 _ _ _ _ _ po (ss1.post hs1 po) ⟨C, d, _, hm, rfl, rfl, hs1.notNone nd, upd_same, .cons ⟨rfl, po.rep hs1 qv⟩ .nil⟩
      · exact w1.elim
end
end MP

end
section
namespace MP
open PySem PySem.Spec PyProof.Rows L2
section
variable {X : Cx} {W : WX} {pins : List (Addr × Obj)} {σ : L2.St} {H : Hp} {s : Shared}
end
end MP

end
section
namespace MP
open PySem PySem.Spec PyProof.Rows L2
theorem isBody_ok {f : Str} {b : List Stmt} (h : isBody f b = true) : ∃ msg j p0 p1 p2 p3 p4 p5 q0 q1 q2 q3, b = initBody f msg j p0 p1 p2 p3 p4 p5 q0 q1 q2 q3 ∧ (p2.endLine == p4.line) = true := by
  unfold isBody at h
  split at h
  · simp only [Bool.and_eq_true] at h
    obtain ⟨h1, h2, h3, h4, h5, h6⟩ := h
    cases eq_of_beq h1
    cases eq_of_beq h2
    cases eq_of_beq h3
    cases eq_of_beq h4
    cases eq_of_beq h5
    exact ⟨_, _, _, _, _, _, _, _, _, _, _, _, rfl, h6⟩
  · cases h
theorem gaB_ok {K : PySem.W.Frag} {C : Addr} (h : gaB K C = true) : ExcC K C := by
  unfold gaB at h
  simp only [Bool.and_eq_true, decide_eq_true_eq] at h
  obtain ⟨h1, h2, h3, h4, h5, h6, h7, h8⟩ := h
  exact ⟨h1, h2, h3, h4, h5, h6, h7, h8⟩
theorem baB_ok {K : PySem.W.Frag} {C : Addr} {B nid iid : String} {tl : List Value} (bx : BaseX B nid iid tl) (h : baB K C B nid iid tl = true) : ∃ (B nid iid : String) (tl : List Value), BaseX B nid iid tl ∧ PySem.W.excInitIn K C tl nid = true ∧ PySem.W.excOver K C tl = true ∧ PySem.W.ks_superIn K C C "__init__" = some (some (.builtin iid)) ∧ PySem.W.subIn K (.ref C) (.type B) = some true := by
  unfold baB at h
  simp only [Bool.and_eq_true, decide_eq_true_eq] at h
  obtain ⟨h1, h2, h3, h4⟩ := h
  exact ⟨B, nid, iid, tl, bx, h1, h2, h3, h4⟩
theorem binds2 {K : PySem.W.Frag} {name qual f : Str} {params : Arguments} {body : List Stmt} {scope : Scope} {cl : List (Str × Addr)} {doc pm cdv ct : Value} {an : Option Addr} (hf : isFld f = true) (hp : isPars f params = true) :
    Binds K (PySem.W.fnX name qual params body scope cl .none .none doc pm an cdv ct) ["self", f] [] ∧ (∀ (s : Shared) (a b : Value), BindsTo s (PySem.W.fnX name qual params body scope cl .none .none doc pm an cdv ct) ⟨[a], [(f, b)]⟩ [("self", a), (f, b)]) ∧ ∃ ar, (params.posonlyargs ++ params.args).head? = some ar ∧ ar.arg = "self" := by
  unfold isPars at hp
  split at hp
  · rename_i a b
    rw [Bool.and_eq_true] at hp
    obtain ⟨a1, a2, a3⟩ := a
    obtain ⟨b1, b2, b3⟩ := b
    cases eq_of_beq hp.1
    cases eq_of_beq hp.2
    simp only [isFld, Bool.or_eq_true] at hf
    refine ⟨Binds.all fun us hl => ?_, fun s u v => ?_, _, rfl, rfl⟩
    · match us, hl with
      | [u, v], _ => rcases hf with hf | hf | hf | hf <;> cases eq_of_beq hf <;> rfl
    · refine BindsTo.of_eq ?_
      rcases hf with hf | hf | hf | hf <;> cases eq_of_beq hf <;> rfl
  · cases hp
theorem isNames_ok {f : Str} {sc : Scope} (h : isNames f sc = true) : (∀ x ∈ sc.names, x.2 ≠ .cell) ∧ sc.names.lookup ("self" : Str) = some .local ∧ sc.names.lookup f = some .local ∧ sc.names.lookup ("super" : Str) = some .globalImplicit ∧ sc.names.lookup ("__class__" : Str) = some .free ∧
    sc.kind = .function ∧ sc.isCoroutine = false ∧ sc.isGenerator = false := by
  unfold isNames at h
  simp only [Bool.and_eq_true, decide_eq_true_eq, List.all_eq_true, Bool.not_eq_true'] at h
  exact h
theorem isFun_ok {P : Program} {K : PySem.W.Frag} {C fI : Addr} {f : Str} {fd : FuncData} {oc : Value} {od : Option Addr} {osl : Array (Option Value)} (hk : K.lookup fI = some ⟨oc, od, .func fd, osl⟩) (h : isFun P.main.file K C f fd = true) (hf : isFld f = true) :
    ∃ (cc cda : Addr) (ccl cl : Value) (cdd cld : Option Addr) (ccs csl : Array (Option Value)) (name qual msg : Str) (params : Arguments) (scope : Scope) (dV kV doc pm ct : Value) (an : Option Addr) (j : Nat) (p0 p1 p2 p3 p4 p5 q0 q1 q2 q3 : Pos) (vs : Array Value) (tf : Tok) (ar : Arg),
      K.lookup fI = some ⟨oc, od, .func (PySem.W.ksFn name qual params (initBody f msg j p0 p1 p2 p3 p4 p5 q0 q1 q2 q3) scope dV kV doc pm an (.ref cda) ct cc), osl⟩ ∧
      K.lookup cda = some ⟨ccl, cdd, .fields vs, ccs⟩ ∧ PySem.W.codeIn K (.ref cda) qual = true ∧ vs[2]? = some (.str P.main.file tf) ∧ K.lookup cc = some ⟨cl, cld, .cell (some (.ref C)), csl⟩ ∧
      (params.posonlyargs ++ params.args).head? = some ar ∧ ar.arg = "self" ∧ L2.Binds K (PySem.W.ksFn name qual params (initBody f msg j p0 p1 p2 p3 p4 p5 q0 q1 q2 q3) scope dV kV doc pm an (.ref cda) ct cc) ["self", f] [] ∧ (∀ (s : Shared) (a b : Value), BindsTo s (PySem.W.ksFn name qual params (initBody f msg j p0 p1 p2 p3 p4 p5 q0 q1 q2 q3) scope dV kV doc pm an (.ref cda) ct cc) ⟨[a], [(f, b)]⟩ [("self", a), (f, b)]) ∧ isNames f scope = true ∧ (p2.endLine == p4.line) = true := by
  obtain ⟨name, qual, params, body, scope, gl, cls, df, kd, doc, pm, an, code, ct, bl⟩ := fd
  unfold isFun at h
  split at h
  · rename_i b n cc cda e1 e2 e3 e4 e5
    cases (e1 : body = _)
    cases (e2 : cls = _)
    cases (e3 : code = _)
    cases (e4 : df = _)
    cases (e5 : kd = _)
    simp only [Bool.and_eq_true] at h
    obtain ⟨h1, h2, h3, h4, h5, h6, h7, h8, h9⟩ := h
    cases eq_of_beq h4
    cases (eq_of_beq h5 : gl = _)
    cases (eq_of_beq h6 : bl = _)
    obtain ⟨msg, j, p0, p1, p2, p3, p4, p5, q0, q1, q2, q3, rfl, hp⟩ := isBody_ok h1
    obtain ⟨bd, bk, ar, ha, hs⟩ := binds2 (K := K) (name := name) (qual := qual) (body := initBody f msg j p0 p1 p2 p3 p4 p5 q0 q1 q2 q3) (scope := scope) (cl := [("__class__", cc)]) (doc := doc) (pm := pm) (an := an) (cdv := .ref cda) (ct := ct) hf h2
    split at h8
    · rename_i ccl cdd vs ccs hc
      split at h8
      · rename_i x tf hx
        cases (eq_of_beq h8 : x = _)
        split at h9
        · rename_i cl cld D csl hcc
          cases (eq_of_beq h9 : D = _)
          exact ⟨cc, cda, ccl, cl, cdd, cld, ccs, csl, name, qual, msg, params, scope, .none, .none, doc, pm, ct, an, j, p0, p1, p2, p3, p4, p5, q0, q1, q2, q3, vs, tf, ar, hk, hc, h7, hx, hcc, ha, hs, bd, bk, h3, hp⟩
        · cases h9
      · cases h8
    · cases h8
  · cases h
theorem fld_ne {f : Str} (h : isFld f = true) : f ≠ "self" ∧ (f == ("__debug__" : Str)) = false := by
  simp only [isFld, Bool.or_eq_true] at h
  rcases h with h | h | h | h <;> cases eq_of_beq h <;> exact ⟨by decide, by decide⟩
theorem xcB_ok {P : Program} {K : PySem.W.Frag} {mg : Str → Option Value} {h : Heap} (X : K.In h) (G : h.Ns mainGlobals mg) (ns : (P.main.scope.names.lookup ("super" : Str)).isSome = false) {c f : CP} (b : xcB P.main.file K c f = true) :
    ∃ C, mg (S c) = some (.ref C) ∧ XcC P K C (S f) ∧ ExcC K C := by
  unfold xcB at b
  split at b
  · rename_i C hC
    simp only [Bool.and_eq_true] at b
    obtain ⟨b1, b3, b4, b5⟩ := b
    refine ⟨C, PySem.W.mg_of X G hC, ?_, gaB_ok b5⟩
    unfold saB at b4
    simp only [Bool.and_eq_true, Bool.or_eq_true, decide_eq_true_eq] at b4
    obtain ⟨a1, a2, a3, a4, aH, a5, a6, a7, a8, a9, a10⟩ := b4
    obtain ⟨cdC, a9⟩ := Option.isSome_iff_exists.mp a9
    obtain ⟨n1, n2⟩ := fld_ne b1
    have ba := a8.elim (fun z => baB_ok base_V z) (fun z => baB_ok base_O z)
    refine ⟨a1, a2, a3, a4, aH, a5, a6, a7, ba, ?_⟩
    unfold iniB at b3
    split at b3
    · rename_i fI hi
      rw [Bool.and_eq_true, decide_eq_true_eq] at b3
      split at b3
      · rename_i oc od fd osl hk
        obtain ⟨cc, cda, ccl, cl, cdd, cld, ccs, csl, name, qual, msg, params, scope, dV, kV, doc, pm, ct, an, j, p0, p1, p2, p3, p4, p5, q0, q1, q2, q3, vs, tf, ar, z1, z2, z3, z4, z5, z6, z7, z8, zK, z9, z10⟩ := isFun_ok hk b3.2 b1
        obtain ⟨y1, y2, y3, y4, y5, y6, y7, y8⟩ := isNames_ok z9
        exact ⟨fI, cc, cda, oc, ccl, cl, od, cdd, cld, osl, ccs, csl, name, qual, msg, params, scope, dV, kV, doc, pm, ct, an, j, p0, p1, p2, p3, p4, p5, q0, q1, q2, q3, vs, tf, ar, cdC, hi, b3.1, z1, z2, z3, z4, z5, a9, a10, z6, z7, z8, zK, y1, y2, y3, y4, y5, y6, y7, y8, ns, n1, z10, n2⟩
      · cases b3.2
    · cases b3
  · cases b
theorem clsAt_ok {K : PySem.W.Frag} {mg : Str → Option Value} {h : Heap} (X : K.In h) (G : h.Ns mainGlobals mg) {c : CP} {C : Addr} (e : clsAt K c = some C) : mg (S c) = some (.ref C) := by
  unfold clsAt at e
  split at e
  · rename_i D hD
    cases e
    exact PySem.W.mg_of X G hD
  · cases e
structure ExX (P : Program) (K : PySem.W.Frag) (mg : Str → Option Value) (xs : List (CP × CP)) (tb : List (CP × CP × Bool)) (tt : List (CP × Ty × Bool)) : Prop where
  made : ∀ p ∈ xs, ∃ C, mg (S p.1) = some (.ref C) ∧ XcC P K C (S p.2) ∧ ExcC K C
  isx : IsX K mg tb tt
theorem exX_ok {P : Program} {K : PySem.W.Frag} {mg : Str → Option Value} {h : Heap} {xs : List (CP × CP)} {tb : List (CP × CP × Bool)} {tt : List (CP × Ty × Bool)} (X : K.In h) (G : h.Ns mainGlobals mg) (ns : (P.main.scope.names.lookup ("super" : Str)).isSome = false) (b : exX P.main.file xs tb tt K = true) : ExX P K mg xs tb tt := by
  unfold exX at b
  rw [Bool.and_eq_true, Bool.and_eq_true] at b
  refine ⟨fun p hp => xcB_ok X G ns (List.all_eq_true.mp b.1 p hp), fun p hp => ?_, fun p hp => ?_⟩
  · have z := List.all_eq_true.mp b.2.1 p hp
    unfold isOB at z
    split at z
    · rename_i D E h1 h2
      rw [Bool.and_eq_true, decide_eq_true_eq] at z
      exact ⟨D, E, clsAt_ok X G h1, clsAt_ok X G h2, gaB_ok z.1, z.2⟩
    · cases z
  · have z := List.all_eq_true.mp b.2.2 p hp
    unfold isTB at z
    split at z
    · rename_i D h1
      rw [Bool.and_eq_true, decide_eq_true_eq] at z
      exact ⟨D, clsAt_ok X G h1, gaB_ok z.1, z.2⟩
    · cases z
section
variable {P : Program} {K : PySem.W.Frag} {mg : Str → Option Value} {xs : List (CP × CP)} {tb : List (CP × CP × Bool)} {tt : List (CP × Ty × Bool)}
theorem ExX.xcs (T : ExX P K mg xs tb tt) {c f : CP} (h : (c, f) ∈ xs) : Xcs P K mg c f := by
  obtain ⟨C, h1, h2, _⟩ := T.made _ h
  exact ⟨C, h1, h2⟩
end
end MP

end
section
namespace MP
open PySem PySem.Spec PyProof.Rows L2
section
variable {P : Program} {w : World} {A : Around} {E : Value → Shared → Prop} {hp : Heap} {g : Array GenState} {dr : Drawn} {tk : Nat} {os : OsState} {f : Str} {u : Value}
variable {nm qn : Str} {C N : Addr} {bs bm : List Value} {hdct : Bool} {sn : List Str} {sub : List Value} {ab : Bool} {col : Option Bool} {dd : Option Addr} {k0 k1 k2 k3 k5 : Option Value}
variable {B nid iid : String} {tl : List Value}
end
section
variable {X : Cx} {C : Addr} {f : Str} {k : Nat} {pins : List (Addr × Obj)} {σ : L2.St} {H : Hp} {s : Shared}
end
section
variable {X : Cx} {W : WX} {C : Addr} {f : Str} {k : Nat} {x : Str} {e : Expr} {m : ME} {p pos kpos : Pos}
end
end MP

end
section
namespace MP
open PySem PySem.Spec PyProof.Rows L2
section
variable {X : Cx} {pins : List (Addr × Obj)} {σ : L2.St} {H : Hp} {s : Shared} {r : List Addr} {h : MH}
end
end MP

end
section
namespace MP
open PySem PySem.Spec PyProof.Rows L2
end MP

end
section
namespace MP
open PySem PySem.Spec PyProof.Rows L2
section
variable {X : Cx} {pins : List (Addr × Obj)} {a : Addr} {cls : Value} {d : Option Addr} {σ : L2.St} {H : Hp} {B : Heap} {sI s' : Shared}
end
section
variable {X : Cx} {pins : List (Addr × Obj)} {a : Addr} {cls : Value} {d : Option Addr} {σ : L2.St} {H : Hp} {B : Heap} {sI s : Shared}
end
section
variable {X : Cx} {pins : List (Addr × Obj)} {a : Addr} {cls : Value} {d : Option Addr} {σ : L2.St} {H : Hp} {B : Heap} {sI s : Shared} {n : Str} {he : Expr} {fit : Value → Option Bool} {i : Nat} {suite : List Stmt} {b₀ : Stmt} {pos pos' : Pos} {ts : TS} {E : Ends}
end
end MP

end
section
namespace MP
open PySem PySem.Spec PyProof.Rows L2
section
variable {X : Cx} {W : WX} {n : Str} {he : Expr} {fit : Value → Option Bool} {i : Nat} {body suite : List Stmt} {b₀ : Stmt} {pos pos' : Pos} {mb su : MS} {ins outs : List CP}
end
end MP

end
section
namespace MP
open PySem PySem.Spec PyProof.Rows L2
section
variable {ww : World} {K : PySem.W.Frag} {mg : Str → Option Value} {r : List Addr} {H : Hp}
end
section
variable {X : Cx} {W : WX}
end
end MP

end
section
namespace MP
open PySem PySem.Spec PyProof.Rows L2
section
variable {X : Cx} {W : WX}
end
section
variable {X : Cx} {W : WX} {x n : Str} {i : Nat} {body suite : List Stmt} {b₀ : Stmt} {np pos pos' : Pos} {mb su : MS} {ins outs : List CP} {e : CP}
end
end MP

end
section
namespace MP
open PySem PySem.Spec PyProof.Rows L2
section
variable {M : Model} {A : Around} {E : Value → Shared → Prop} {s : Shared} {q : Str} {params : Arguments} {body : Expr} {scope : Scope} {env : Env} {pos : Pos} {line : Nat} {mg : Str → Option Value} {cl : List (Str × Addr)} {dV : Value} {Q : Value → Shared → Prop}
end
section
variable {X : Cx} {pins : List (Addr × Obj)} {σ : L2.St} {H HZ : Hp} {s s1 : Shared}
end
section
variable {X : Cx} {W : WX}
end
end MP

end
section
namespace MP
open PySem PySem.Spec PyProof.Rows L2
section
variable {X : Cx}
end
end MP

end
section
namespace MP
open PySem PySem.Spec PyProof.Rows L2
section
variable {K : PySem.W.Frag} {w : World} {mg : Str → Option Value}
end
section
variable {X : Cx} {W : WX} {x : CP} {kvs : List (CP × MV)}
end
end MP

end
section
namespace MP
open PySem PySem.Spec PyProof.Rows L2
section
variable {X : Cx} {W : WX} {e : Expr} {es : List Expr} {kws : List Keyword} {ma : ME} {ms mk : MA} {k j n : Nat} {pm : List Nat} {m : MF} {x : Str} {p pos kpos : Pos} {nm : Option Str} {ks : List Str}
end
end MP

end
section
namespace MP
open PySem PySem.Spec PyProof.Rows L2
section
variable {X : Cx} {W : WX} {tg e : Expr} {ma : ME}
end
section
variable {ww : World} {K : PySem.W.Frag} {mg : Str → Option Value} {r0 r r2 : List Addr} {H0 H H2 : Hp} {h h2 : MH} {D : Addr} {acc : List MV} {ys : List V}
theorem Grow.end_ {E : XK} {Q : VK} (g : Grow ww K mg r0 H0 D r h H acc ys) (hD : H0 D = none) (w : Wt ww K mg (Rep K mg) r0 H0 E Q (.ok (.lv acc) h)) : FzQ Q (.ref D) H := by
  refine .inr ⟨D, ys, rfl, g.at_, fun o => ?_⟩
  obtain ⟨hs5, kp⟩ := g.po.hs.side (u := .frz o (.lst ys)) g.out g.at_ trivial
  have ne {b : Addr} {o : HO} (e : H0 b = some o) : b ≠ D := fun z => by rw [z, hD] at e; cases e
  exact w r _ (.ref D) ⟨g.po.pre, hs5, fun b o hb e t => ⟨(g.po.fr b o hb e t).1, by rw [upd_ne (ne e)]; exact (g.po.fr b o hb e t).2⟩, fun b o u e => by rw [upd_ne (ne e)]; exact g.po.fz b o u e⟩ (.lv ⟨o, upd_same⟩ (RepL.mono kp (fun _ _ z => z) _ _ g.rep))
end
section
variable {X : Cx} {W : WX} {elt tg iter tg1 iter1 : Expr} {ifs ifs1 : List Expr} {scope : Scope} {own : List (Str × Nat)} {vs1 : List Nat} {pos : Pos} {mo mi : MA} {t t1 : Tg} {tt tt1 : MT} {te : ME}
end
end MP

end
section
namespace MP
open PySem PySem.Spec PyProof.Rows L2
theorem obsL_eq {as : List Addr} {fa : List He.Fa} {fn : List He.DefD} {ts : List He.Tab} {ex : PySem.W.Frag → Bool} {g : Addr → Option Obj} {s : Shared} (h : ∀ a, g a = s.heap.get? a) : obsL as fa fn ts ex g = (hookL as fa fn ts ex).obs s := by
  cases (funext h : g = s.heap.get?)
  rfl
end MP

end
section
namespace MP
open PySem PySem.Spec PyProof.Rows L2
theorem tup_once (l : Addr) (items : Array Value) (n : Nat) (dd : Option Addr) (sl : Array (Option Value)) (u : Tok) :
    Meets (Builtin.«tuple.__mul__» ⟨[.ref l, .int 1 u], []⟩) (fun _ R s => s.heap.get? l = some { cls := .type "tuple", dict := dd, data := .seq items n, slots := sl } ∧ R (.ok (.ret (Value.ref l))) s) :=
  .of_wp fun prog w A R s h => by
    obtain ⟨hp, g, d, tk, os⟩ := s
    obtain ⟨hl, h⟩ := h
    have f1 := AutoSeq1.idx_int
    have c0 : (decide ((1 : Int) < -(2 ^ 63)) || decide ((1 : Int) ≥ 2 ^ 63)) = false := by decide
    have c1 : (items.isEmpty || (1 : Int) == 1) = true := by simp
    wp_walk using wpAny_loadPart' hl
    repeat (first
      | (refine wpAny_ite_false (decide_eq_false (by rw [c0]; exact Bool.false_ne_true)) ?_; wp_walk using wpAny_loadPart' hl)
      | (refine wpAny_ite_true (decide_eq_true (by rw [c1])) ?_; wp_walk using wpAny_loadPart' hl))
    exact ⟨_, rfl, h⟩
theorem tup_never (l : Addr) (items : Array Value) (n : Nat) (dd : Option Addr) (sl : Array (Option Value)) (u : Tok) (ne : items.isEmpty = false) :
    Meets (Builtin.«tuple.__mul__» ⟨[.ref l, .int 0 u], []⟩) (fun _ R s => s.heap.get? l = some { cls := .type "tuple", dict := dd, data := .seq items n, slots := sl } ∧ R (.ok (.ret (Value.ref s.heap.objs.size))) { s with heap := s.heap.push { cls := Value.type "tuple", data := Data.seq #[] }, toks := s.toks }) :=
  .of_wp fun prog w A R s h => by
    obtain ⟨hp, g, d, tk, os⟩ := s
    obtain ⟨hl, h⟩ := h
    have f1 := AutoSeq1.idx_int
    have z0 : (decide ((0 : Int) < -(2 ^ 63)) || decide ((0 : Int) ≥ 2 ^ 63)) = false := by decide
    have z1 : (items.isEmpty || (0 : Int) == 1) = false := by rw [ne]; decide
    have z2 : (decide ((0 : Int) ≤ 0) || items.isEmpty) = true := by rw [Bool.or_eq_true]; exact .inl (by decide)
    wp_walk using wpAny_loadPart' hl
    repeat (first
      | (refine wpAny_ite_false (decide_eq_false (by rw [z0]; exact Bool.false_ne_true)) ?_; wp_walk using wpAny_loadPart' hl)
      | (refine wpAny_ite_false (decide_eq_false (by rw [z1]; exact Bool.false_ne_true)) ?_; wp_walk using wpAny_loadPart' hl)
      | (refine wpAny_ite_true (decide_eq_true (by rw [z2])) ?_; wp_walk using wpAny_loadPart' hl))
    exact ⟨_, rfl, h⟩
def mMulW : F2 := fun a b h => match a, b with
  | .tup xs, .int k => if k = 1 then some (.tup xs, h) else if k = 0 ∧ xs.isEmpty = false then some (.tup [], h) else mMul (.tup xs) (.int k) h
  | a, b => mMulV a b h
section
variable {X : Cx}
theorem om_mulW : OpR X (binaryOp .Mult) (rM X.w X.K X.mg mMulW) := by
  intro pins s σ H x y v u Q I rx ry hh
  obtain ⟨r, h, a, b, hs, ra, rb, w⟩ := id hh
  unfold mMulW at w
  split at w
  · rename_i xs k
    split at w
    · rename_i hk
      subst hk
      cases rb
      cases ra with | tup sa qa =>
      rename_i pa ys
      cases rx
      obtain ⟨t, rfl⟩ := ry
      obtain ⟨its, rr, ⟨⟨cls, dd, data, sl⟩, ho, hc, n, hd⟩, -⟩ := I.tuple sa
      dsimp only at hc hd
      subst hc hd
      refine wpAny_binaryOp_repeat_ref (T := "tuple") (U := "int") (by decide) ⟨_, ho, rfl⟩ (fun s' => typeIs_int s' 1 t) noFill_tuple_mul F.fills_int_mul F.slot_int_rmul repeat_tuple F.slot_int_index.lookup
        (call_meets F.slot_int_rmul (typeIs_int s 1 t) F.entry_int_rmul (F.args_int_rmul_2 _ _) (int_rmul_tuple 1 t pa its.toArray n dd sl)
          ⟨ho, rfl, ⟨_, ho, rfl⟩, call_meets F.slot_tuple_mul ⟨_, ho, rfl⟩ F.entry_tuple_mul (F.args_tuple_mul_2 _ _) (tup_once pa its.toArray n dd sl t) ⟨ho, ?_⟩⟩)
      exact ⟨.ref pa, H, I, rfl, Wt.plain hs w (.tup sa qa)⟩
    · split at w
      · rename_i hk0
        obtain ⟨rfl, hne⟩ := hk0
        cases rb
        cases ra with | tup sa qa =>
        rename_i pa ys
        cases rx
        obtain ⟨t, rfl⟩ := ry
        obtain ⟨its, rr, ⟨⟨cls, dd, data, sl⟩, ho, hc, n, hd⟩, -⟩ := I.tuple sa
        dsimp only at hc hd
        subst hc hd
        have some1 : its.toArray.isEmpty = false := by
          have l1 := qa.length
          have l2 := Vals.length rr
          cases its with
          | cons a b => rfl
          | nil =>
            exfalso
            cases xs with
            | nil => cases hne
            | cons a b =>
              rw [List.length_nil] at l2
              rw [l2] at l1
              cases l1
        refine wpAny_binaryOp_repeat_ref (T := "tuple") (U := "int") (by decide) ⟨_, ho, rfl⟩ (fun s' => typeIs_int s' 0 t) noFill_tuple_mul F.fills_int_mul F.slot_int_rmul repeat_tuple F.slot_int_index.lookup
          (call_meets F.slot_int_rmul (typeIs_int s 0 t) F.entry_int_rmul (F.args_int_rmul_2 _ _) (int_rmul_tuple 0 t pa its.toArray n dd sl)
            ⟨ho, rfl, ⟨_, ho, rfl⟩, call_meets F.slot_tuple_mul ⟨_, ho, rfl⟩ F.entry_tuple_mul (F.args_tuple_mul_2 _ _) (tup_never pa its.toArray n dd sl t some1) ⟨ho, ?_⟩⟩)
        have fresh : H s.heap.objs.size = none := I.hok.fresh (Nat.le_refl _)
        obtain ⟨po, re⟩ := hs.newT fresh (.nil (K := X.K) (mg := X.mg) (r := r) (H := H))
        refine ⟨.ref s.heap.objs.size, _, I.laid (t' := s.toks) (o := .tup []) (fun b ob q => Heap.get?_push_of_some _ q) (Nat.le_refl _) ?_, rfl, w _ _ _ po re⟩
        exact ⟨Nat.zero_le _, [], .nil, IsTup.new _ _⟩
      · exact om_mul pins s σ H x y v u Q I rx ry ⟨r, h, _, _, hs, ra, rb, w⟩
  · exact om_mulV pins s σ H x y v u Q I rx ry ⟨r, h, _, _, hs, ra, rb, w⟩
end
end MP

end
section
namespace MP
open PySem PySem.Spec PyProof.Rows L2
section
variable {X : Cx} {W : WX} {pos : Pos}
def eDictT : ME := fun _ h => .ok (.ref h.length) (h ++ [.dT []])
theorem me_dictT : PEm X W (.Dict [] [] pos) eDictT := by
  refine ⟨fun pins s σ H Q I hh => ?_⟩
  obtain ⟨r, sm, h, hs, ss, w⟩ := hh
  obtain ⟨z, hd, xs, pr, o, es, ep, ho, hx, hdt, he, hn⟩ := (show ObjOk X.prog X.w H _ _ (.dT []) from dt_empty s.heap I.big)
  cases pr
  have hnone : H s.heap.objs.size = none := I.hok.fresh (Nat.le_refl _)
  have nd : (([] : List (NestedKey × Addr × Value)).map (·.1)).Nodup := List.nodup_nil
  refine wpAny_Dict_empty ⟨.ref s.heap.objs.size, _, I.laid (a := s.heap.objs.size) (o := .ext (rawD X.w s.heap.objs.size [])) (t' := s.toks) (fun _ _ q => Heap.get?_push_of_some _ q) (Nat.le_refl _) (rawD_ok ⟨hd, Nat.zero_le _, nd, (fun x hx => nomatch hx), o, es, ep, ho, hx, hdt, by rw [he]; rfl⟩), rfl, ?_⟩
  have po := hs.new (p := s.heap.objs.size) (o := .dT []) hnone (u := .ext (rawD X.w s.heap.objs.size [])) ⟨_, _, rfl, .nil⟩
  refine w _ _ _ po (.ref ?_)
  rw [List.getElem?_append_right (by rw [hs.len]; exact Nat.le_refl _), ← hs.len]
  simp
end
def unK : MK → MV
  | .inl i => .int i
  | .inr l => .str l
def dKeys (h : MH) (n : Nat) : Option (List MV) := match h[n]? with
  | some (.dK kvs) => some (kvs.map fun p => unK p.1)
  | some (.dT kvs) => some (kvs.map (·.1))
  | _ => none
def dVals (h : MH) (n : Nat) : Option (List MV) := match h[n]? with
  | some (.dK kvs) => some (kvs.map (·.2))
  | some (.dT kvs) => some (kvs.map (·.2))
  | _ => none
section
variable {X : Cx} {pins : List (Addr × Obj)} {σ : L2.St} {H : Hp} {s : Shared} {r : List Addr} {h : MH} {n : Nat} {p : Addr}
def EntOf (X : Cx) (r : List Addr) (H : Hp) (f : DictEntry → Value) (es : List DictEntry) (vs : List MV) : Prop := ∃ ys, Vals ys (es.map f) ∧ RepL X.K X.mg r H vs ys
theorem rep_unK {K : PySem.W.Frag} {mg : Str → Option Value} {r : List Addr} {H : Hp} : ∀ k : MK, Rep K mg r H (unK k) (kV (mk k))
  | .inl i => .int i
  | .inr l => .str l
theorem ents_K {P : Program} {w : World} : ∀ {kvs : List (MK × MV)} {ys : List (L2.Key × V)} {vs : List (L2.Key × Value)} {es : List DictEntry}, RepK X.K X.mg r H kvs ys → KV ys vs → Pairs (mixKind P w) es vs →
    EntOf X r H (·.key) es (kvs.map fun p => unK p.1) ∧ EntOf X r H (·.val) es (kvs.map (·.2)) := by
  intro kvs
  induction kvs with
  | nil =>
    intro ys vs es t k q
    cases t; cases k; cases q
    exact ⟨⟨[], .nil, .nil⟩, ⟨[], .nil, .nil⟩⟩
  | cons p kvs ih =>
    intro ys vs es t k q
    cases t with
    | @cons _ y0 _ _ z t =>
      cases k with
      | cons k1 k =>
        cases q with
        | cons q1 q2 q =>
          obtain ⟨⟨a, a1, a2⟩, ⟨b, b1, b2⟩⟩ := ih t k q
          rename_i e0 _
          have hk : RelV (kV (mk p.1)) e0.key := keyIs_rel (k := mk p.1) (by rw [← z.1, k1.1]; exact q1)
          have hv : RelV y0.2 e0.val := by rw [q2]; exact k1.2
          refine ⟨⟨kV (mk p.1) :: a, .cons hk a1, .cons ?_ a2⟩, ⟨_ :: b, .cons hv b1, .cons z.2 b2⟩⟩
          exact rep_unK p.1
theorem ents_T {w : World} : ∀ {kvs : List (MV × MV)} {xs : List (NestedKey × Addr × Value)}, RepT X.K X.mg r H kvs xs →
    EntOf X r H (·.key) (xs.map fun x => (⟨x.1.hash w, .ref x.2.1, x.2.2⟩ : DictEntry)) (kvs.map (·.1)) ∧ EntOf X r H (·.val) (xs.map fun x => (⟨x.1.hash w, .ref x.2.1, x.2.2⟩ : DictEntry)) (kvs.map (·.2)) := by
  intro kvs
  induction kvs with
  | nil =>
    intro xs t
    cases t
    exact ⟨⟨[], .nil, .nil⟩, ⟨[], .nil, .nil⟩⟩
  | cons p kvs ih =>
    intro xs t
    cases t with
    | cons z t =>
      obtain ⟨⟨a, a1, a2⟩, ⟨b, b1, b2⟩⟩ := ih t
      obtain ⟨z1, z2, y, z3, z4⟩ := z
      exact ⟨⟨V.ref _ :: a, .cons (show RelV (V.ref _) (Value.ref _) from rfl) a1, .cons z2 a2⟩, ⟨y :: b, .cons z3 b1, .cons z4 b2⟩⟩
theorem dRaw_of (I : L2.Inv X pins σ H s) (hs : HS X.w X.K X.mg r h H) (en : r[n]? = some p) {ks : List MV} (e : dKeys h n = some ks) : ∃ es ep vs, dVals h n = some vs ∧ s.heap.DictRaw p es ep ∧ (p == sysModules) = false ∧ es.size ≤ sizeLine ∧ EntOf X r H (·.key) es.toList ks ∧ EntOf X r H (·.val) es.toList vs := by
  unfold dKeys at e
  split at e
  · rename_i kvs h1
    cases e
    obtain ⟨ys, e1, t⟩ := hs.lookup en h1
    obtain ⟨z, hd, vs, rel, o, es, ep, ho, hx, hdt, _, q, _⟩ := (show ObjOk X.prog X.w H s.heap p (.dK ys) from I.hok p _ e1)
    obtain ⟨a, b⟩ := ents_K t rel q
    have hl : es.size = ys.length := by
      obtain ⟨z, z1, z2⟩ := a
      have l1 := z1.length
      have l2 := z2.length
      have l3 := Paired.length t
      simp at l1 l2
      omega
    exact ⟨es, ep, kvs.map (·.2), (by simp [dVals, h1]), ⟨o, ho, hx, hdt⟩, hd, by omega, a, b⟩
  · rename_i kvs h1
    cases e
    obtain ⟨xs, e1, t, hm, hd, hl⟩ := dT_of I hs en h1
    obtain ⟨o, es, ep, ho, hx, hdt, he, _, _⟩ := hm
    obtain ⟨a, b⟩ := ents_T (w := X.w) t
    have he' : es.toList = xs.map fun x => (⟨x.1.hash X.w, .ref x.2.1, x.2.2⟩ : DictEntry) := he
    refine ⟨es, ep, kvs.map (·.2), (by simp [dVals, h1]), ⟨o, ho, hx, hdt⟩, hd, ?_, by rw [he']; exact a, by rw [he']; exact b⟩
    rw [← Array.length_toList, he', List.length_map]
    exact hl
  · cases e
theorem entOf_items {f : DictEntry → Value} {es : Array DictEntry} {vs : List MV} {acc : Array Value} (q : EntOf X r H f es.toList vs) (it : ItemsOf (fun i v => ∃ hi : i < es.size, v = f es[i]) acc es.size) : ∃ ys, Vals ys acc.toList ∧ RepL X.K X.mg r H vs ys := by
  obtain ⟨ys, a, b⟩ := q
  refine ⟨ys, ?_, b⟩
  have e : acc.toList = es.toList.map f := by
    apply List.ext_getElem?
    intro j
    have hl : acc.toList.length = es.size := by rw [Array.length_toList]; exact it.1
    cases hj : acc.toList[j]? with
    | none =>
      have := List.getElem?_eq_none_iff.mp hj
      rw [List.getElem?_eq_none]
      rw [List.length_map, Array.length_toList]
      omega
    | some v =>
      obtain ⟨hi, e1⟩ := it.2 j v (by rw [← hj, Array.getElem?_toList])
      rw [List.getElem?_map, Array.getElem?_toList, Array.getElem?_eq_getElem hi, e1]
      rfl
  rw [e]
  exact a
end
def mListD : FA
  | [.ref n], h => match dKeys h n with
    | some ks => some (.lv ks, h)
    | none => mListV [.ref n] h
  | as, h => mListV as h
theorem cm_listD {X : Cx} (hc : X.calm = true) : CallR X (.type "list") (rMA X mListD) := by
  intro pins s σ H xs us Q I rv hh
  obtain ⟨r, h, as, hs, ra, w⟩ := hh
  unfold mListD at w
  split at w
  · rename_i n
    obtain ⟨x, rfl, q⟩ := repL1 ra
    split at w
    · rename_i ks hk
      cases q with
      | ref en =>
        obtain ⟨_, rfl, rx⟩ := vals1 rv
        obtain rfl := (show _ = Value.ref _ from rx)
        obtain ⟨es, ep, vs, _, hm, hd, hl, e1, _⟩ := dRaw_of I hs en hk
        refine thn (PySem.W.kdl_call (Q := EP X pins σ (FzQ Q)) (KdlSrc.rawDict hd) (I.ok.hd hc) hm hl fun h' tk acc c' kp eo it => ?_) fun _ _ z => ep_frz z
        obtain ⟨ys, hv, qy⟩ := entOf_items e1 it
        have hz : ys.length ≤ sizeLine := by rw [hv.length, Array.length_toList, it.1]; exact hl
        refine ⟨.ref s.heap.objs.size, _, I.laid (t' := tk) kp (Nat.le_refl _) (show ObjOk X.prog X.w _ h' _ (.lst ys) from ⟨hz, acc.toList, c', hv, by simpa using eo⟩), rfl, ?_⟩
        exact Wt.lv hs (I.hok.fresh (Nat.le_refl _)) qy w
    · exact cm_listV pins s σ H _ us Q I rv ⟨r, h, _, hs, .cons q .nil, w⟩
  · exact cm_listV pins s σ H xs us Q I rv ⟨r, h, as, hs, ra, w⟩
def eListVals (a : ME) : ME := fun s h => (a s h).bind fun v h1 => match v with
  | .ref n => (match dKeys h1 n, dVals h1 n with
    | some _, some vs => .ok (.lv vs) h1
    | _, _ => .stuck)
  | _ => .stuck
section
variable {X : Cx} {W : WX} {e : Expr} {m : ME} {p apos cpos pos : Pos}
theorem me_listVals (hg : Gl X "list") (hm : X.mg "list" = none) (ha : PEm X W e m) (hc : X.calm = true := by rfl) (hbase : attributeBase e "values" X.env (eval e X.env) = eval e X.env := by rfl) (hline : (apos.endLine == cpos.line) = true := by rfl)
    (na : starEach [.Call (.Attribute e "values" apos) [] [] cpos] X.env = (false, eval (.Call (.Attribute e "values" apos) [] [] cpos) X.env) :: starEach [] X.env := by rfl) : PEm X W (.Call (.Name "list" p) [.Call (.Attribute e "values" apos) [] [] cpos] [] pos) (eListVals m) := by
  refine ⟨fun pins s σ H Q I hh => ?_⟩
  obtain ⟨r, sm, h, hs, ss, w⟩ := hh
  refine Call_ (ld_blt I hg hm boot_list ?_)
  refine PyProof.Rows.callWith_type1 (PyProof.Rows.args_cons ?_ na) na rfl
  refine wpAny_Call_method (T := "dict") (id := "dict.values") hbase rfl hline PySem.F.plainAttrs_dict PySem.F.slot_dict_values PySem.F.type_dict_values ?_
  refine thn (ha.run pins s σ H (fun x H1 => ∃ r1 h1 v, HS X.w X.K X.mg r1 h1 H1 ∧ Rep X.K X.mg r1 H1 v x ∧ Wt X.w X.K X.mg (Rep X.K X.mg) r1 H1 (fun c d H' => W c d σ H') Q (match v with
    | .ref n => (match dKeys h1 n, dVals h1 n with
      | some _, some vs => .ok (.lv vs) h1
      | _, _ => .stuck)
    | _ => .stuck)) I (tM_bind hs ss w fun r1 h1 v x H1 hs1 ss1 p1 q1 w1 => ⟨r1, h1, v, hs1, q1, w1⟩)) fun u s1 ⟨x, H1, I1, rx, r1, h1, v, hs1, q1, w1⟩ => ?_
  split at w1
  · rename_i n
    split at w1
    · rename_i ks vs hk hv
      cases q1 with
      | @ref _ a en =>
        obtain rfl := (show u = Value.ref a from rx)
        obtain ⟨es, ep, vs', hv', hm1, hd, hl, _, e1⟩ := dRaw_of I1 hs1 en hk
        rw [hv] at hv'
        cases hv'
        refine ⟨hm1.typeIs, fun b eb => by cases eb; obtain ⟨ob, ho, ex, _⟩ := hm1; exact ⟨ob, ho, ex.2.1⟩, ?_⟩
        show wpAny _ _ (callWith cpos (.builtin "dict.values") [.ref a] [] []) _ X.xe s1
        refine method_meetsIn PySem.F.slot_dict_values PySem.F.entry_dict_values rfl (PySem.evalArgs_none ⟨rfl, hm1.typeIs, PySem.F.args_dict_values_1 _, _, meets_dict_values_raw _ hd, ⟨es, ep, hm1⟩, ?_⟩)
        apply PyProof.Rows.args_nil
        have I2 : L2.Inv X pins σ H1 { s1 with heap := s1.heap.push { cls := .type "dict_values", data := .fields #[.ref a] } } := I1.kept (t' := s1.toks) fun b ob q => Heap.get?_push_of_some _ q
        refine thn (PySem.W.kdl_call (Q := EP X pins σ (FzQ Q)) (KdlSrc.rawValues (d := a) (es := es) (ep := ep)) (I2.ok.hd hc) ⟨⟨_, Heap.get?_push_size _ rfl, rfl, rfl⟩, hm1.push _⟩ hl fun h' tk acc c' kp eo it => ?_) fun _ _ z => ep_frz z
        obtain ⟨ys, hvv, qy⟩ := entOf_items e1 it
        have hz : ys.length ≤ sizeLine := by rw [hvv.length, Array.length_toList, it.1]; exact hl
        refine ⟨.ref _, _, I2.laid (t' := tk) kp (Nat.le_refl _) (show ObjOk X.prog X.w _ h' _ (.lst ys) from ⟨hz, acc.toList, c', hvv, by simpa using eo⟩), rfl, ?_⟩
        exact Wt.lv hs1 (I2.hok.fresh (Nat.le_refl _)) qy w1
    · exact w1.elim
  · exact w1.elim
end
def mSetd : FM
  | .ref n, [k, d], h => match h[n]? with
    | some (.dT kvs) => if isKy k && decide (kvs.length < sizeLine) then (match kGet k kvs with
      | some v => some (v, h)
      | none => some (d, h.set n (.dT (kPut k d kvs)))) else none
    | some (.dK kvs) => (match keyOf k with
      | some kk => if kvs.length < sizeLine then (match dGet kk kvs with
        | some v => some (v, h)
        | none => some (d, h.set n (.dK (dPut kk d kvs)))) else none
      | none => none)
    | _ => none
  | _, _, _ => none
theorem mm_setd {X : Cx} (hu : X.A.units + 64 < cLine) : MtR X "dict.setdefault" (rMM X mSetd) := by
  intro pins s σ H x xs v us Q I rx rv hh
  obtain ⟨r, h, a, as, hs, ra, rs, w⟩ := hh
  unfold mSetd at w
  split at w
  · rename_i n k d
    obtain ⟨z, z2, rfl, q, q2⟩ := repL2 rs
    cases ra with
    | ref en =>
      obtain ⟨u, u2, rfl, ru, ru2⟩ := vals2 rv
      obtain rfl := (show v = Value.ref _ from rx)
      split at w
      · rename_i kvs h1
        split at w
        · rename_i hc
          rw [Bool.and_eq_true, decide_eq_true_eq] at hc
          refine dT_setd hu I hs en h1 hc.2 hc.1 q ru q2 ru2 (fun v' e y u' s3 I3 ry qy => ?_) fun e H' s3 I3 P => ?_
          · rw [e] at w
            exact ⟨y, H, I3, ry, Wt.plain hs w qy⟩
          · rw [e] at w
            exact ⟨z2, H', I3, ru2, w _ _ _ P (P.rep hs q2)⟩
        · exact w.elim
      · rename_i kvs h1
        obtain ⟨ys, e1, ql⟩ := hs.lookup en h1
        split at w
        · rename_i kk hk
          split at w
          · rename_i hl
            obtain ⟨i1, i2⟩ := dGet_ok (g := mk) (fun _ _ => mk_inj) kk ql
            rw [keyOf_ok q hk] at ru
            refine d_setd (d := z2) I e1 ru ru2 (by rw [← paired_len ql]; exact hl) (fun v0 e w' s' I' rw' => ?_) fun e w' s' I' rw' => ?_
            · cases e2 : dGet kk kvs with
              | none => rw [i2 e2] at e; cases e
              | some v' =>
                rw [e2] at w
                obtain ⟨y, e3, qy⟩ := i1 v' e2
                rw [e3] at e
                cases e
                exact ⟨v0, H, I', rw', Wt.plain hs w qy⟩
            · cases e2 : dGet kk kvs with
              | some v' => obtain ⟨y, e3, _⟩ := i1 v' e2; rw [e3] at e; cases e
              | none =>
                rw [e2] at w
                have P := hs.putD en (putK_ok (k := kk) q2 ql) e1
                exact ⟨z2, _, I', rw', w _ _ _ P (P.rep hs q2)⟩
          · exact w.elim
        · exact w.elim
      · exact w.elim
  · exact w.elim
end MP

end
section
namespace MP
open PySem PySem.Spec PyProof.Rows L2
section
variable {X : Cx}
end
end MP

end
section
namespace MP
open PySem PySem.Spec PyProof.Rows L2
section
variable {X : Cx} {W : WX} {o i : Expr} {mo mi : ME} {x : Str} {pos : Pos}
end
end MP

end
section
namespace MP
open PySem PySem.Spec PyProof.Rows L2
def eqM (a b : MV) : Bool := sSh a b && kEq a b
def eqFs : List (CP × MV) → List (CP × MV) → Bool
  | [], [] => true
  | p :: r, q :: s => p.1 == q.1 && (eqM p.2 q.2 && eqFs r s)
  | _, _ => false
theorem eqM_ok {a b : MV} (h : eqM a b = true) : a = b := by
  simp only [eqM, Bool.and_eq_true] at h
  exact kEq_self a b h.1 h.2
theorem eqFs_ok : ∀ {a b : List (CP × MV)}, eqFs a b = true → a = b
  | [], [], _ => rfl
  | [], _ :: _, h => by cases h
  | _ :: _, [], h => by cases h
  | p :: r, q :: s, h => by
    simp only [eqFs, Bool.and_eq_true, beq_iff_eq] at h
    obtain ⟨h1, h2, h3⟩ := h
    rw [eqFs_ok h3, Prod.ext h1 (eqM_ok h2)]
def soloR (n : Nat) (c : CP) (fs : List (CP × MV)) (h : MH) : R MV → R MV
  | .ok v (.ins c' fs' :: _) => if below 0 v && c' == c then (if eqFs fs fs' then .ok v h else if belowF 0 fs' then .ok v (h.set n (.ins c fs')) else .stuck) else .stuck
  | _ => .stuck
def soloV (m : MF) : MF := fun as h => match as with
  | .ref n :: rest => (match h[n]? with
    | some (.ins c fs) => if belowF 0 fs && belowL 0 rest then soloR n c fs h (m (.ref 0 :: rest) [.ins c fs]) else .stuck
    | _ => .stuck)
  | _ => .stuck
section
variable {K : PySem.W.Frag} {mg : Str → Option Value} {r r' : List Addr} {H H' : Hp} {h h' : MH} {ww : World}
theorem Post.solo {n : Nat} {a : Addr} {o o' : MO} (x : HS ww K mg r h H) (en : r[n]? = some a) (ho : h[n]? = some o) (b : belowO 0 o = true) (b' : belowO 0 o' = true) (p : Post ww K mg [a] H r' h' H') (e : h'[0]? = some o') : Post ww K mg r H r (h.set n o') H' := by
  have hs1 : HS ww K mg [a] [o] H := ⟨rfl, (by simp), fun i o' a' e1 e2 => by
    cases i with
    | zero => simp at e1 e2; subst e1 e2; exact (x.at_ n o a ho en).bel (n := 0) (fun i a hi _ => by omega) b
    | succ i => simp at e1, x.tb⟩
  have kp : Kp K H H' := p.kp hs1
  obtain ⟨t, rfl⟩ := p.pre
  have oa : RepO ww K mg r H' o' (H' a) := (p.hs.at_ 0 o' a e rfl).bel (n := 0) (fun i a hi _ => by omega) b'
  have hnl : n < r.length := (List.getElem?_eq_some_iff.mp en).1
  refine ⟨⟨[], by simp⟩, ⟨by rw [List.length_set]; exact x.len, x.nd, fun m u c e1 e2 => ?_, p.hs.tb⟩, fun c u hc e t => ⟨hc, (p.fr c u (fun z => hc (by
    rw [List.mem_singleton.mp z]
    exact List.mem_of_getElem? en)) e t).2⟩, p.fz⟩
  by_cases hm : m = n
  · subst hm
    rw [en] at e2
    cases e2
    rw [List.getElem?_set_self (by rw [← x.len]; exact hnl)] at e1
    cases e1
    exact oa
  · rw [List.getElem?_set_ne (Ne.symm hm)] at e1
    have hca : c ≠ a := fun z => by
      subst z
      obtain ⟨h1, q1⟩ := List.getElem?_eq_some_iff.mp e2
      obtain ⟨h2, q2⟩ := List.getElem?_eq_some_iff.mp en
      exact hm ((List.getElem_inj x.nd).mp (q1.trans q2.symm))
    obtain ⟨v, e3, pl⟩ := x.plain (List.mem_of_getElem? e2)
    rw [p.keep (fun z => hca (List.mem_singleton.mp z)) e3 (fun ps z => by rw [z] at pl; exact pl), ← e3]
    exact (x.at_ m u c e1 e2).mono kp fun _ _ z => z
theorem set_same {α : Type} : ∀ {l : List α} {n : Nat} {x : α}, l[n]? = some x → l.set n x = l
  | [], _, _, h => by simp at h
  | y :: l, 0, x, h => by simp at h; subst h; rfl
  | y :: l, n + 1, x, h => by rw [List.set_cons_succ, set_same (by simpa using h)]
end
section
variable {P : Program} {w : World} {K : PySem.W.Frag} {mg : Str → Option Value} {base : Heap} {k : Nat} {f : Addr} {fd : FuncData} {ps : List Str} {m : MF}
theorem FnM.solo (F : FnM P w K mg base k f fd ps m) : FnM P w K mg base k f fd ps (soloV m) := F.imp fun vs H Q E ⟨hl, r, h, as, hs, q, wt⟩ => by
  unfold soloV at wt
  split at wt
  · rename_i n rest
    split at wt
    · rename_i c fs ho
      split at wt
      · rename_i hb
        rw [Bool.and_eq_true] at hb
        cases q with
        | @cons _ _ _ xs q1 q2 =>
          cases q1 with
          | @ref _ a en =>
            have hs1 : HS w K mg [a] [.ins c fs] H := ⟨rfl, (by simp), fun i o' a' e1 e2 => by
              cases i with
              | zero => simp at e1 e2; subst e1 e2; exact (hs.at_ n _ a ho en).bel (n := 0) (fun i a hi _ => by omega) hb.1
              | succ i => simp at e1, hs.tb⟩
            refine ⟨hl, [a], [.ins c fs], .ref 0 :: rest, hs1, .cons (.ref rfl) (RepL.bel (n := 0) (fun i a hi _ => by omega) _ _ hb.2 q2), ?_⟩
            cases e : m (.ref 0 :: rest) [.ins c fs] with
            | stuck => rw [e] at wt; exact wt.elim
            | err _ _ => rw [e] at wt; exact wt.elim
            | ok v h' =>
              rw [e] at wt
              unfold soloR at wt
              split at wt
              · rename_i c' fs' t e2
                cases e2
                split at wt
                · rename_i hc
                  simp only [Bool.and_eq_true, beq_iff_eq] at hc
                  obtain ⟨h1, h2⟩ := hc
                  subst h2
                  split at wt
                  · rename_i h3
                    have e3 := eqFs_ok h3
                    subst e3
                    intro r' H' y p qv
                    have po := Post.solo (o := .ins c' fs) (o' := .ins c' fs) hs en ho hb.1 hb.1 p rfl
                    rw [set_same ho] at po
                    exact wt r H' y po (Rep.bel (n := 0) (fun i a hi _ => by omega) _ _ h1 qv)
                  · split at wt
                    · rename_i h4
                      intro r' H' y p qv
                      exact wt r H' y (Post.solo (o := .ins c' fs) (o' := .ins c' fs') hs en ho hb.1 h4 p rfl) (Rep.bel (n := 0) (fun i a hi _ => by omega) _ _ h1 qv)
                    · exact wt.elim
                · exact wt.elim
              · exact wt.elim
      · exact wt.elim
    · exact wt.elim
  · exact wt.elim
end
end MP

end
section
namespace GXk22
open MP
abbrev n_Page : CP := [80, 97, 103, 101]
abbrev n_Stand : CP := [83, 116, 97, 110, 100]
abbrev n_Heads : CP := [72, 101, 97, 100, 115]
abbrev n_Way : CP := [87, 97, 121]
abbrev x_after : CP := [97, 102, 116, 101, 114]
abbrev x_ahead : CP := [97, 104, 101, 97, 100]
abbrev x_ahead_behind : CP := [97, 104, 101, 97, 100, 95, 98, 101, 104, 105, 110, 100]
abbrev x_bare : CP := [98, 97, 114, 101]
abbrev x_begin : CP := [98, 101, 103, 105, 110]
abbrev x_come : CP := [99, 111, 109, 101]
abbrev x_deed : CP := [100, 101, 101, 100]
abbrev x_deed_in : CP := [100, 101, 101, 100, 95, 105, 110]
abbrev x_does_put : CP := [100, 111, 101, 115, 95, 112, 117, 116]
abbrev x_go_back : CP := [103, 111, 95, 98, 97, 99, 107]
abbrev x_go_over : CP := [103, 111, 95, 111, 118, 101, 114]
abbrev x_is_next_own : CP := [105, 115, 95, 110, 101, 120, 116, 95, 111, 119, 110]
abbrev x_key : CP := [107, 101, 121]
abbrev x_next_sign : CP := [110, 101, 120, 116, 95, 115, 105, 103, 110]
abbrev x_page_by : CP := [112, 97, 103, 101, 95, 98, 121]
abbrev x_press : CP := [112, 114, 101, 115, 115]
abbrev x_strikes : CP := [115, 116, 114, 105, 107, 101, 115]
abbrev x_type_sign : CP := [116, 121, 112, 101, 95, 115, 105, 103, 110]
abbrev x_uncover : CP := [117, 110, 99, 111, 118, 101, 114]
abbrev f_before : CP := [98, 101, 102, 111, 114, 101]
abbrev f_books : CP := [98, 111, 111, 107, 115]
abbrev f_cells : CP := [99, 101, 108, 108, 115]
abbrev f_covering : CP := [99, 111, 118, 101, 114, 105, 110, 103]
abbrev f_deeds : CP := [100, 101, 101, 100, 115]
abbrev f_flags : CP := [102, 108, 97, 103, 115]
abbrev f_following : CP := [102, 111, 108, 108, 111, 119, 105, 110, 103]
abbrev f_held : CP := [104, 101, 108, 100]
abbrev f_is_aged : CP := [105, 115, 95, 97, 103, 101, 100]
abbrev f_is_odd : CP := [105, 115, 95, 111, 100, 100]
abbrev f_is_put : CP := [105, 115, 95, 112, 117, 116]
abbrev f_is_unlike : CP := [105, 115, 95, 117, 110, 108, 105, 107, 101]
abbrev f_keys_so : CP := [107, 101, 121, 115, 95, 115, 111]
abbrev f_known : CP := [107, 110, 111, 119, 110]
abbrev f_left : CP := [108, 101, 102, 116]
abbrev f_met : CP := [109, 101, 116]
abbrev f_rest : CP := [114, 101, 115, 116]
abbrev f_right : CP := [114, 105, 103, 104, 116]
abbrev f_stand : CP := [115, 116, 97, 110, 100]
abbrev f_uncovered : CP := [117, 110, 99, 111, 118, 101, 114, 101, 100]
abbrev f_waiting : CP := [119, 97, 105, 116, 105, 110, 103]
def b_law_folded : MS := sSeq (sAsg (eLc (jRng1 (aCons (eC (.int 64)) (aNil))) [2] (.one 2) (tYesM) (eOp mAdd (eC (.int 17)) (eVar 2))) (gNm 1)) (sSeq (sFor (jEnum (aCons (eVar 0) (aNil))) (gTp 2 (gC (gNm 2) (gC (gNm 3) (gN)))) (sSub (eVar 1) (eOp mMod (eBlt mInt (aCons (eVar 2) (aNil))) (eC (.int 64))) (eOp mMod (eBlt mInt (aCons (eOp mAdd (eOp mMul (eOp mIx (eVar 1) (eOp mMod (eBlt mInt (aCons (eVar 2) (aNil))) (eC (.int 64)))) (eC (.int 48271))) (eVar 3)) (aNil))) (eC (.int 2147483647))))) (sSeq (sFor (jRng2 (aCons (eC (.int 1)) (aCons (eC (.int 64)) (aNil)))) (gNm 2) (sSub (eVar 1) (eVar 2) (eOp mMod (eBlt mInt (aCons (eOp mAdd (eOp mIx (eVar 1) (eVar 2)) (eOp mMul (eOp mIx (eVar 1) (eOp mSub (eVar 2) (eC (.int 1)))) (eC (.int 16807)))) (aNil))) (eC (.int 2147483647))))) (sRet (eVar 1))))
def m_law_folded : MF := runFn 4 b_law_folded
def b_law_begun : MS := sSeq (sAsg (eDisp [(eC (.str [99, 101, 108, 108, 115]), eCall 1 m_law_folded (aCons (eVar 0) (aNil))), (eC (.str [103, 114, 101, 97, 116]), eLst (aNil)), (eC (.str [115, 112, 111, 116]), eC (.int 0))]) (gNm 1)) (sSeq (sSub (eVar 1) (eC (.str [103, 114, 101, 97, 116])) (eLc (jSeq (eVar 0)) [2] (.one 2) (tYesM) (eIf (tCmp mGe (eVar 2) (eOp mPow (eC (.int 10)) (eC (.int 18)))) (eVar 2) (eC (.int 0))))) (sRet (eVar 1)))
def m_law_begun : MF := runFn 3 b_law_begun
def b_law_mixed : MS := sSeq (sAsg (eOp mAdd (eOp mAdd (eOp mMod (eBlt mInt (aCons (eOp mMul (eOp mMul (eVar 0) (eOp mAdd (eC (.int 1)) (eOp mMul (eC (.int 2)) (eVar 1)))) (eC (.int 48271))) (aNil))) (eC (.int 2147483647))) (eOp mMul (eOp mMul (eC (.int 7919)) (eVar 1)) (eVar 1))) (eOp mMul (eC (.int 104729)) (eVar 1))) (gNm 2)) (sRet (eOp mFdiv (eOp mMod (eBlt mInt (aCons (eOp mMul (eVar 2) (eC (.int 69621))) (aNil))) (eC (.int 2147483629))) (eC (.int 7))))
def m_law_mixed : MF := runFn 3 b_law_mixed
def b_law_draw : MS := sSeq (sAsg (eOp mIx (eVar 0) (eC (.str [115, 112, 111, 116]))) (gNm 2)) (sSeq (sSub (eVar 0) (eC (.str [115, 112, 111, 116])) (eOp mAdd (eVar 2) (eC (.int 1)))) (sSeq (sIf (tCmp mNe (eOp mIx (eVar 0) (eC (.str [103, 114, 101, 97, 116]))) (eLst (aNil))) (sSeq (sAsg (eOp mIx (eVar 0) (eC (.str [103, 114, 101, 97, 116]))) (gNm 3)) (sSeq (sAsg (eOp mMod (eBlt mInt (aCons (eVar 2) (aNil))) (eBlt mLen (aCons (eVar 3) (aNil)))) (gNm 4)) (sSeq (sAsg (eOp mIx (eVar 3) (eVar 4)) (gNm 5)) (sIf (tCmp mGt (eVar 5) (eC (.int 0))) (sSeq (sSub (eVar 3) (eVar 4) (eOp mFdiv (eVar 5) (eVar 1))) (sRet (eOp mMod (eBlt mInt (aCons (eVar 5) (aNil))) (eVar 1)))) (sNil))))) (sNil)) (sSeq (sAsg (eOp mIx (eVar 0) (eC (.str [99, 101, 108, 108, 115]))) (gNm 3)) (sRet (eOp mMod (eBlt mInt (aCons (eCall 2 m_law_mixed (aCons (eCall 2 m_law_mixed (aCons (eOp mAdd (eOp mIx (eVar 3) (eOp mMod (eBlt mInt (aCons (eVar 2) (aNil))) (eC (.int 64)))) (eOp mMul (eC (.int 31)) (eOp mFdiv (eVar 2) (eC (.int 64))))) (aCons (eVar 2) (aNil)))) (aCons (eOp mAdd (eVar 2) (eC (.int 7))) (aNil)))) (aNil))) (eVar 1))))))
def m_law_draw : MF := trimF (runFn 6 b_law_draw)
def b_law_book_0 : MS := sAsg (eLstV (aCons (eLstV (aCons (eC (.str [97, 108, 119, 97, 121, 115])) (aCons (eC (.str [102, 114, 101, 101])) (aCons (eC (.str [110, 101, 118, 101, 114])) (aNil))))) (aCons (eLstV (aCons (eC (.str [97, 108, 119, 97, 121, 115])) (aCons (eC (.str [97, 112, 97, 114, 116])) (aCons (eC (.str [110, 101, 118, 101, 114])) (aNil))))) (aCons (eLstV (aCons (eC (.str [115, 97, 109, 101])) (aCons (eC (.str [110, 111, 110, 101])) (aNil)))) (aCons (eLstV (aCons (eC (.str [111, 119, 110])) (aCons (eC (.str [97, 110, 121])) (aCons (eC (.str [110, 101, 118, 101, 114])) (aNil))))) (aNil)))))) (gNm 1)
def b_law_book_1 : MS := sAsg (eOp mAddV (eVar 1) (eLstV (aCons (eLstV (aCons (eC (.str [111, 119, 110])) (aCons (eC (.str [97, 110, 121])) (aCons (eC (.str [111, 110, 101])) (aNil))))) (aCons (eLstV (aCons (eC (.str [110, 101, 118, 101, 114])) (aCons (eC (.str [108, 105, 110, 101])) (aNil)))) (aNil))))) (gNm 1)
def b_law_book_2 : MS := sRet (eBlt mTuple (aCons (eLv (jSeq (eVar 1)) [2] (.one 2) (tYesM) (eOp mIx (eVar 2) (eCall 2 m_law_draw (aCons (eVar 0) (aCons (eBlt mLen (aCons (eVar 2) (aNil))) (aNil)))))) (aNil)))
def b_law_book : MS := sSeq (b_law_book_0) (sSeq (b_law_book_1) (b_law_book_2))
def m_law_book : MF := trimV (runFn 3 b_law_book)
def b_law_like : MS := sRet (eOp mEq (eBlt mRepr (aCons (eVar 0) (aNil))) (eBlt mRepr (aCons (eVar 1) (aNil))))
def m_law_like : MF := pureV (runFn 2 b_law_like)
def b_need_book : MS := sSeq (sIf (tOrM (tNotM (tVal (eBlt mIsi (aCons (eVar 0) (aCons (eC (.ty .tuple)) (aNil)))))) (tCmp mNe (eBlt mLen (aCons (eVar 0) (aNil))) (eBlt mLen (aCons (eC v_CHOICES) (aNil))))) (sRaise n_BadBook f_place (aCons (eC .non) (aNil))) (sNil)) (sSeq (sFor (jEnum (aCons (eVar 0) (aNil))) (gTp 2 (gC (gNm 1) (gC (gNm 2) (gN)))) (sIf (tOrM (tNotM (tVal (eBlt mIsi (aCons (eVar 2) (aCons (eC (.ty .str)) (aNil)))))) (tCmp mNotIn (eVar 2) (eOp mIx (eC v_CHOICES) (eVar 1)))) (sRaise n_BadBook f_place (aCons (eVar 1) (aNil))) (sNil))) (sRet (eVar 0)))
def m_need_book : MF := runFn 3 b_need_book
def b_need_flags : MS := sSeq (sIf (tOrM (tNotM (tVal (eBlt mIsi (aCons (eVar 0) (aCons (eC (.ty .tuple)) (aNil)))))) (tOrM (tCmp mNe (eBlt mLen (aCons (eVar 0) (aNil))) (eC (.int 2))) (tNotM (tVal (eBlt mAll (aCons (eLv (jSeq (eVar 0)) [1] (.one 1) (tYesM) (eBlt mIsi (aCons (eVar 1) (aCons (eC (.ty .bool)) (aNil))))) (aNil))))))) (sRaise n_BadFlags f_value (aCons (eVar 0) (aNil))) (sNil)) (sRet (eVar 0))
def m_need_flags : MF := runFn 2 b_need_flags
def b_rests_of : MS := sRet (eIf (tVal (eOp mIx (eVar 0) (eC (.int 1)))) (eC v_RESTS) (eTup (aCons (eC (.str [])) (aNil))))
def m_rests_of : MF := runFn 1 b_rests_of
def b_Stand_key : MS := sRet (eTup (aCons (eFld [n_Stand] f_before (eVar 0)) (aCons (eFld [n_Stand] f_is_odd (eVar 0)) (aCons (eFld [n_Stand] f_following (eVar 0)) (aCons (eFld [n_Stand] f_is_put (eVar 0)) (aCons (eFld [n_Stand] f_is_aged (eVar 0)) (aCons (eFld [n_Stand] f_held (eVar 0)) (aNil))))))))
def m_Stand_key : MF := runFn 1 b_Stand_key
def b_Heads_come : MS := sSeq (sAsg (eTup (aCons (eVar 1) (aCons (eMeth n_Stand x_key 1 m_Stand_key (eVar 2) aNil) (aNil)))) (gNm 3)) (sIf (tCmp mNotIn (eVar 3) (eFld [n_Heads] f_known (eVar 0))) (sSeq (sSub (eFld [n_Heads] f_known (eVar 0)) (eVar 3) (eC (.bl true))) (sExpr (eBm .list mAppend (eFld [n_Heads] f_waiting (eVar 0)) (aCons (eTup (aCons (eVar 1) (aCons (eVar 2) (aNil)))) (aNil))))) (sNil))
def m_Heads_come : MF := runFn 4 b_Heads_come
def b_Stand_strikes : MS := sSeq (sIf (tCmp mNe (eFld [n_Stand] f_held (eVar 0)) (eTup (aNil))) (sRet (eLstV (aCons (eTup (aCons (eC v_BACK) (aCons (eC (.bl false)) (aNil)))) (aNil)))) (sNil)) (sSeq (sAsg (eLv (jSeq (eC v_STRUCK)) [3] (.one 3) (tYesM) (eTup (aCons (eVar 3) (aCons (eC (.bl false)) (aNil))))) (gNm 2)) (sRet (eOp mAddV (eVar 2) (eIf (tVal (eVar 1)) (eLv (jSeq (eC v_STRUCK)) [3] (.one 3) (tYesM) (eTup (aCons (eVar 3) (aCons (eC (.bl true)) (aNil))))) (eLstV (aNil))))))
def m_Stand_strikes : MF := runFn 4 b_Stand_strikes
def b_left_with : MS := sSeq (sIf (tCmp mEq (eVar 0) (eC v_QUOTE)) (sRet (eIf (tVal (eVar 1)) (eC v_QUOTE) (eOp mAddV (eC v_QUOTE) (eC v_QUOTE)))) (sNil)) (sRet (eOp mAddV (eIf (tVal (eVar 1)) (eC v_QUOTE) (eC (.str []))) (eVar 0)))
def m_left_with : MF := runFn 2 b_left_with
def b_Page___init__ : MS := sSeq (sFldM [n_Page] f_left (eVar 0) (eOp mIx (eVar 1) (eC (.int 0)))) (sFldM [n_Page] f_right (eVar 0) (eRev (eLv (jEnum (aCons (eOp mIx (eVar 1) (eC (.int 1))) (aNil))) [2, 3] (.row [2, 3]) (tYesM) (eTup (aCons (eVar 3) (aCons (eOp mIn (eVar 2) (eOp mIx (eVar 1) (eC (.int 2)))) (aNil)))))))
def m_Page___init__ : MF := runFn 4 b_Page___init__
def b_Stand_page_by : MS := sSeq (sAsg (eAnd (eFld [n_Stand] f_is_put (eVar 0)) (eOr (eOp mNe (eOp mIx (eVar 1) (eC (.int 5))) (eC v_AT_LINES)) (eNot (eFld [n_Stand] f_is_aged (eVar 0))))) (gNm 2)) (sSeq (sAsg (eCall 2 m_left_with (aCons (eFld [n_Stand] f_before (eVar 0)) (aCons (eFld [n_Stand] f_is_odd (eVar 0)) (aNil)))) (gNm 3)) (sSeq (sIf (tCmp mNe (eFld [n_Stand] f_held (eVar 0)) (eTup (aNil))) (sAsg (eOp mAddV (eCall 2 m_left_with (aCons (eOp mIx (eFld [n_Stand] f_held (eVar 0)) (eC (.int 1))) (aCons (eOp mIx (eFld [n_Stand] f_held (eVar 0)) (eC (.int 2))) (aNil)))) (eOp mIx (eFld [n_Stand] f_held (eVar 0)) (eC (.int 0)))) (gNm 3)) (sNil)) (sRet (eMake n_Page 2 m_Page___init__ (aCons (eTup (aCons (eVar 3) (aCons (eFld [n_Stand] f_following (eVar 0)) (aCons (eIf (tVal (eVar 2)) (eTup (aCons (eC (.int 0)) (aNil))) (eTup (aNil))) (aNil))))) (aNil))))))
def m_Stand_page_by : MF := runFn 4 b_Stand_page_by
def b_closer_of : MS := sSeq (sIf (tCmp mEq (eVar 0) (eC v_QUOTE)) (sRet (eC v_QUOTE)) (sNil)) (sRet (eIf (tAndM (tCmp mNe (eVar 0) (eC (.str []))) (tCmp mIn (eVar 0) (eC v_OPENERS))) (eOp mIx (eC v_CLOSERS) (eBm .str mIndexS (eC v_OPENERS) (aCons (eVar 0) (aNil)))) (eC (.str []))))
def m_closer_of : MF := runFn 1 b_closer_of
def b_Page_next_sign : MS := sRet (eIf (tCmp mNe (eFld [n_Page] f_right (eVar 0)) (eLstV (aNil))) (eOp mIx (eOp mIx (eFld [n_Page] f_right (eVar 0)) (eNeg (eC (.int 1)))) (eC (.int 0))) (eC (.str [])))
def m_Page_next_sign : MF := runFn 1 b_Page_next_sign
def b_Page_is_next_own : MS := sRet (eAnd (eOp mNe (eFld [n_Page] f_right (eVar 0)) (eLstV (aNil))) (eOp mIx (eOp mIx (eFld [n_Page] f_right (eVar 0)) (eNeg (eC (.int 1)))) (eC (.int 1))))
def m_Page_is_next_own : MF := runFn 1 b_Page_is_next_own
def b_Page_go_back : MS := sIf (tCmp mNe (eFld [n_Page] f_left (eVar 0)) (eC (.str []))) (sSeq (sAsg (eCall 1 m_closer_of (aCons (eOp mIx (eFld [n_Page] f_left (eVar 0)) (eNeg (eC (.int 1)))) (aNil))) (gNm 2)) (sSeq (sFldM [n_Page] f_left (eVar 0) (eCutV (eFld [n_Page] f_left (eVar 0)) (pNo) (pSo (eNeg (eC (.int 1)))))) (sSeq (sAsg (eAnd (eOp mNe (eVar 2) (eC (.str []))) (eOp mEq (eMeth n_Page x_next_sign 1 m_Page_next_sign (eVar 0) aNil) (eVar 2))) (gNm 3)) (sIf (tAndM (tVal (eVar 3)) (tOrM (tCmp mEq (eOp mIx (eVar 1) (eC (.int 4))) (eC v_ANY)) (tAndM (tCmp mEq (eOp mIx (eVar 1) (eC (.int 4))) (eC v_OWN)) (tVal (eMeth n_Page x_is_next_own 1 m_Page_is_next_own (eVar 0) aNil))))) (sExpr (eBm .list mPop (eFld [n_Page] f_right (eVar 0)) aNil)) (sNil))))) (sNil)
def m_Page_go_back : MF := runFn 4 b_Page_go_back
def b_Page_go_over : MS := sIf (tCmp mNe (eFld [n_Page] f_right (eVar 0)) (eLstV (aNil))) (sFldAug [n_Page] f_left mIAdd (eVar 0) (eOp mIx (eBm .list mPop (eFld [n_Page] f_right (eVar 0)) aNil) (eC (.int 0)))) (sNil)
def m_Page_go_over : MF := runFn 1 b_Page_go_over
def b_is_closing : MS := sRet (eAnd (eOp mNe (eVar 0) (eC (.str []))) (eOp mIn (eVar 0) (eOp mAddV (eC v_CLOSERS) (eC v_QUOTE))))
def m_is_closing : MF := runFn 1 b_is_closing
def b_is_within : MS := sSeq (sAsg (eBm .str mCount (eCutV (eVar 0) (pSo (eOp mAddV (eBm .str mRfind (eVar 0) (aCons (eC v_LINE) (aNil))) (eC (.int 1)))) (pNo)) (aCons (eC v_QUOTE) (aNil))) (gNm 1)) (sRet (eOp mEq (eOp mSub (eVar 1) (eOp mMulW (eC (.int 2)) (eOp mFdiv (eVar 1) (eC (.int 2))))) (eC (.int 1))))
def m_is_within : MF := runFn 2 b_is_within
def b_is_free : MS := sRet (eOr (eOp mEq (eVar 0) (eC (.str []))) (eOp mIn (eVar 0) (eOp mAddV (eOp mAddV (eOp mAddV (eC v_CLOSERS) (eC v_QUOTE)) (eC v_BLANK)) (eC v_LINE))))
def m_is_free : MF := runFn 1 b_is_free
def b_is_letter : MS := sRet (eAnd (eOp mNe (eVar 0) (eC (.str []))) (eOp mIn (eVar 0) (eC v_LETTERS)))
def m_is_letter : MF := runFn 1 b_is_letter
def b_Page_does_put : MS := sSeq (sIf (tAndM (tCmp mNe (eOp mIx (eVar 1) (eC (.int 2))) (eC v_SAME)) (tVal (eCall 1 m_is_within (aCons (eFld [n_Page] f_left (eVar 0)) (aNil))))) (sRet (eC (.bl false))) (sNil)) (sSeq (sIf (tCmp mIn (eVar 2) (eC v_OPENERS)) (sRet (eOr (eOp mEq (eOp mIx (eVar 1) (eC (.int 0))) (eC v_ALWAYS)) (eAnd (eOp mEq (eOp mIx (eVar 1) (eC (.int 0))) (eC v_FREE)) (eCall 1 m_is_free (aCons (eMeth n_Page x_next_sign 1 m_Page_next_sign (eVar 0) aNil) (aNil)))))) (sNil)) (sSeq (sIf (tCmp mNe (eOp mIx (eVar 1) (eC (.int 1))) (eC v_APART)) (sRet (eOp mEq (eOp mIx (eVar 1) (eC (.int 1))) (eC v_ALWAYS))) (sNil)) (sSeq (sAsg (eCutV (eFld [n_Page] f_left (eVar 0)) (pSo (eNeg (eC (.int 1)))) (pNo)) (gNm 3)) (sRet (eAnd (eCall 1 m_is_free (aCons (eMeth n_Page x_next_sign 1 m_Page_next_sign (eVar 0) aNil) (aNil))) (eAnd (eNot (eCall 1 m_is_letter (aCons (eVar 3) (aNil)))) (eOp mNe (eVar 3) (eC v_QUOTE))))))))
def m_Page_does_put : MF := runFn 4 b_Page_does_put
def b_Page_type_sign : MS := sSeq (sAsg (eAnd (eCall 1 m_is_closing (aCons (eVar 2) (aNil))) (eOp mEq (eMeth n_Page x_next_sign 1 m_Page_next_sign (eVar 0) aNil) (eVar 2))) (gNm 3)) (sSeq (sIf (tAndM (tVal (eVar 3)) (tOrM (tCmp mEq (eOp mIx (eVar 1) (eC (.int 3))) (eC v_ANY)) (tAndM (tCmp mEq (eOp mIx (eVar 1) (eC (.int 3))) (eC v_OWN)) (tVal (eMeth n_Page x_is_next_own 1 m_Page_is_next_own (eVar 0) aNil))))) (sSeq (sExpr (eMeth n_Page x_go_over 1 m_Page_go_over (eVar 0) aNil)) (sRetN)) (sNil)) (sSeq (sAsg (eCall 1 m_closer_of (aCons (eVar 2) (aNil))) (gNm 4)) (sSeq (sAsg (eAnd (eOp mNe (eVar 4) (eC (.str []))) (eMeth n_Page x_does_put 3 m_Page_does_put (eVar 0) (aCons (eVar 1) (aCons (eVar 2) (aNil))))) (gNm 5)) (sSeq (sFldAug [n_Page] f_left mIAdd (eVar 0) (eVar 2)) (sSeq (sIf (tVal (eVar 5)) (sExpr (eBm .list mAppend (eFld [n_Page] f_right (eVar 0)) (aCons (eTup (aCons (eVar 4) (aCons (eC (.bl true)) (aNil)))) (aNil)))) (sNil)) (sIf (tAndM (tCmp mEq (eVar 2) (eC v_LINE)) (tCmp mEq (eOp mIx (eVar 1) (eC (.int 5))) (eC v_AT_LINES))) (sFldM [n_Page] f_right (eVar 0) (eLc (jSeq (eFld [n_Page] f_right (eVar 0))) [6, 7] (.row [6, 7]) (tYesM) (eTup (aCons (eVar 6) (aCons (eC (.bl false)) (aNil)))))) (sNil)))))))
def m_Page_type_sign : MF := runFn 8 b_Page_type_sign
def b_Page_press : MS := sIf (tCmp mEq (eVar 2) (eC v_BACK)) (sExpr (eMeth n_Page x_go_back 2 m_Page_go_back (eVar 0) (aCons (eVar 1) (aNil)))) (sIf (tCmp mEq (eVar 2) (eC v_RIGHT)) (sExpr (eMeth n_Page x_go_over 1 m_Page_go_over (eVar 0) aNil)) (sIf (tCmp mEq (eVar 2) (eC v_END)) (sWhile (tVal (eMeth n_Page x_is_next_own 1 m_Page_is_next_own (eVar 0) aNil)) (sExpr (eMeth n_Page x_go_over 1 m_Page_go_over (eVar 0) aNil))) (sExpr (eMeth n_Page x_type_sign 3 m_Page_type_sign (eVar 0) (aCons (eVar 1) (aCons (eVar 2) (aNil)))))))
def m_Page_press : MF := runFn 3 b_Page_press
def b_Stand_deed : MS := sSeq (sAsg (eMeth n_Stand x_page_by 2 m_Stand_page_by (eVar 0) (aCons (eVar 1) (aNil))) (gNm 3)) (sSeq (sExpr (eMeth n_Page x_press 3 m_Page_press (eVar 3) (aCons (eVar 1) (aCons (eVar 2) (aNil))))) (sSeq (sIf (tCmp mEq (eBlt mLen (aCons (eFld [n_Page] f_right (eVar 3)) (aNil))) (eBlt mLen (aCons (eFld [n_Stand] f_following (eVar 0)) (aNil)))) (sRet (eC v_PLAIN)) (sNil)) (sRet (eIf (tCmp mGt (eBlt mLen (aCons (eFld [n_Page] f_right (eVar 3)) (aNil))) (eBlt mLen (aCons (eFld [n_Stand] f_following (eVar 0)) (aNil)))) (eC v_PUT) (eC v_OVER)))))
def m_Stand_deed : MF := soloV (runFn 4 b_Stand_deed)
def b_deed_of_both : MS := sSeq (sAsg (eMeth n_Stand x_deed 3 m_Stand_deed (eVar 2) (aCons (eVar 0) (aCons (eVar 3) (aNil)))) (gNm 4)) (sRet (eIf (tCmp mEq (eMeth n_Stand x_deed 3 m_Stand_deed (eVar 2) (aCons (eVar 1) (aCons (eVar 3) (aNil)))) (eVar 4)) (eVar 4) (eC (.str []))))
def m_deed_of_both : MF := runFn 5 b_deed_of_both
def b_Heads_deed_in : MS := sSeq (sAsg (eTup (aCons (eMeth n_Stand x_key 1 m_Stand_key (eVar 1) aNil) (aCons (eVar 2) (aNil)))) (gNm 3)) (sSeq (sIf (tCmp mNotIn (eVar 3) (eFld [n_Heads] f_deeds (eVar 0))) (sSub (eFld [n_Heads] f_deeds (eVar 0)) (eVar 3) (eCall 4 m_deed_of_both (aCons (eOp mIx (eFld [n_Heads] f_books (eVar 0)) (eC (.int 0))) (aCons (eOp mIx (eFld [n_Heads] f_books (eVar 0)) (eC (.int 1))) (aCons (eVar 1) (aCons (eVar 2) (aNil))))))) (sNil)) (sRet (eOp mIx (eFld [n_Heads] f_deeds (eVar 0)) (eVar 3))))
def m_Heads_deed_in : MF := runFn 4 b_Heads_deed_in
def b_kind_before : MS := sSeq (sIf (tVal (eCall 1 m_is_letter (aCons (eVar 0) (aNil)))) (sRet (eC (.str [97]))) (sNil)) (sRet (eIf (tCmp mEq (eVar 0) (eC v_QUOTE)) (eC v_QUOTE) (eC v_BLANK)))
def m_kind_before : MF := runFn 1 b_kind_before
def b_Stand_ahead : MS := sSeq (sAsg (eAnd (eOp mNe (eFld [n_Stand] f_is_odd (eVar 0)) (eOp mEq (eVar 1) (eC v_QUOTE))) (eOp mNe (eVar 1) (eC v_LINE))) (gNm 2)) (sRet (eTup (aCons (eCall 1 m_kind_before (aCons (eVar 1) (aNil))) (aCons (eVar 2) (aNil)))))
def m_Stand_ahead : MF := runFn 3 b_Stand_ahead
def b_Stand_ahead_behind : MS := sSeq (sIf (tCmp mEq (eVar 1) (eC v_BACK)) (sRet (eTup (aCons (eOp mIx (eFld [n_Stand] f_held (eVar 0)) (eC (.int 1))) (aCons (eOp mIx (eFld [n_Stand] f_held (eVar 0)) (eC (.int 2))) (aCons (eTup (aNil)) (aNil)))))) (sNil)) (sSeq (sAsg (eMeth n_Stand x_ahead 2 m_Stand_ahead (eVar 0) (aCons (eVar 1) (aNil))) (gTp 2 (gC (gNm 3) (gC (gNm 4) (gN))))) (sRet (eTup (aCons (eVar 3) (aCons (eVar 4) (aCons (eIf (tVal (eVar 2)) (eTup (aCons (eVar 1) (aCons (eFld [n_Stand] f_before (eVar 0)) (aCons (eFld [n_Stand] f_is_odd (eVar 0)) (aNil))))) (eTup (aNil))) (aNil)))))))
def m_Stand_ahead_behind : MF := runFn 5 b_Stand_ahead_behind
def b_Stand___init__ : MS := sSeq (sFldM [n_Stand] f_before (eVar 0) (eVar 1)) (sSeq (sFldM [n_Stand] f_is_odd (eVar 0) (eVar 2)) (sSeq (sFldM [n_Stand] f_following (eVar 0) (eVar 3)) (sSeq (sFldM [n_Stand] f_is_put (eVar 0) (eVar 4)) (sSeq (sFldM [n_Stand] f_is_aged (eVar 0) (eVar 5)) (sFldM [n_Stand] f_held (eVar 0) (eVar 6))))))
def m_Stand___init__ : MF := soloV (runFn 7 b_Stand___init__)
def b_Heads_bare : MS := sSeq (sAsg (eVar 1) (gTp 2 (gC (gNm 4) (gC (gNm 5) (gN))))) (sSeq (sAsg (eVar 2) (gTp 4 (gC (gNm 6) (gC (gNm 7) (gC (gNm 8) (gC (gNm 9) (gN))))))) (sSeq (sAsg (eOr (eFld [n_Stand] f_is_aged (eVar 5)) (eVar 8)) (gNm 3)) (sExpr (eMeth n_Heads x_come 3 m_Heads_come (eVar 0) (aCons (eVar 4) (aCons (eMake n_Stand 7 m_Stand___init__ (aCons (eVar 6) (aCons (eVar 7) (aCons (eFld [n_Stand] f_following (eVar 5)) (aCons (eFld [n_Stand] f_is_put (eVar 5)) (aCons (eAnd (eVar 3) (eFld [n_Stand] f_is_put (eVar 5))) (aCons (eVar 9) (aNil)))))))) (aNil)))))))
def m_Heads_bare : MF := runFn 10 b_Heads_bare
def b_Heads_begin : MS := sSeq (sAsg (eMeth n_Stand x_key 1 m_Stand_key (eVar 2) aNil) (gNm 3)) (sSeq (sPar 4 5 (aCons (eBm .dict mSetd (eFld [n_Heads] f_covering (eVar 0)) (aCons (eVar 3) (aCons (eDictT) (aNil)))) (aCons (eTup (aCons (eOp mIx (eVar 1) (eC (.int 0))) (aCons (eMeth n_Stand x_key 1 m_Stand_key (eOp mIx (eVar 1) (eC (.int 1))) aNil) (aNil)))) (aNil)))) (sSeq (sIf (tCmp mNotIn (eVar 5) (eVar 4)) (sSeq (sSub (eVar 4) (eVar 5) (eVar 1)) (sFor (jSeq (eBlt mListD (aCons (eBm .dict mGetD (eFld [n_Heads] f_uncovered (eVar 0)) (aCons (eVar 3) (aCons (eDictT) (aNil)))) (aNil)))) (gNm 6) (sExpr (eMeth n_Heads x_bare 3 m_Heads_bare (eVar 0) (aCons (eVar 1) (aCons (eVar 6) (aNil))))))) (sNil)) (sExpr (eMeth n_Heads x_come 3 m_Heads_come (eVar 0) (aCons (eVar 3) (aCons (eVar 2) (aNil)))))))
def m_Heads_begin : MF := runFn 7 b_Heads_begin
def b_Heads_uncover : MS := sSeq (sAsg (eBm .dict mSetd (eFld [n_Heads] f_uncovered (eVar 0)) (aCons (eVar 1) (aCons (eDictT) (aNil)))) (gNm 3)) (sIf (tCmp mNotIn (eVar 2) (eVar 3)) (sSeq (sSub (eVar 3) (eVar 2) (eC (.bl true))) (sFor (jSeq (eListVals (eOp mIx (eFld [n_Heads] f_covering (eVar 0)) (eVar 1)))) (gNm 4) (sExpr (eMeth n_Heads x_bare 3 m_Heads_bare (eVar 0) (aCons (eVar 4) (aCons (eVar 2) (aNil))))))) (sNil))
def m_Heads_uncover : MF := runFn 5 b_Heads_uncover
def b_Heads_press : MS := sSeq (sAsg (eMeth n_Heads x_deed_in 3 m_Heads_deed_in (eVar 0) (aCons (eVar 2) (aCons (eVar 3) (aNil)))) (gNm 5)) (sSeq (sAsg (eMeth n_Stand x_ahead_behind 3 m_Stand_ahead_behind (eVar 2) (aCons (eVar 3) (aCons (eVar 4) (aNil)))) (gTp 3 (gC (gNm 6) (gC (gNm 7) (gC (gNm 8) (gN)))))) (sIf (tCmp mEq (eVar 5) (eC (.str []))) (sFldM [n_Heads] f_is_unlike (eVar 0) (eC (.bl true))) (sIf (tCmp mEq (eVar 5) (eC v_PLAIN)) (sSeq (sAsg (eOr (eFld [n_Stand] f_is_aged (eVar 2)) (eOp mEq (eVar 3) (eC v_LINE))) (gNm 9)) (sExpr (eMeth n_Heads x_come 3 m_Heads_come (eVar 0) (aCons (eVar 1) (aCons (eMake n_Stand 7 m_Stand___init__ (aCons (eVar 6) (aCons (eVar 7) (aCons (eFld [n_Stand] f_following (eVar 2)) (aCons (eFld [n_Stand] f_is_put (eVar 2)) (aCons (eVar 9) (aCons (eVar 8) (aNil)))))))) (aNil)))))) (sIf (tCmp mEq (eVar 5) (eC v_PUT)) (sSeq (sAsg (eMake n_Stand 7 m_Stand___init__ (aCons (eVar 6) (aCons (eVar 7) (aCons (eCall 1 m_closer_of (aCons (eVar 3) (aNil))) (aCons (eC (.bl true)) (aCons (eC (.bl false)) (aCons (eVar 8) (aNil)))))))) (gNm 10)) (sExpr (eMeth n_Heads x_begin 3 m_Heads_begin (eVar 0) (aCons (eTup (aCons (eVar 1) (aCons (eVar 2) (aNil)))) (aCons (eVar 10) (aNil)))))) (sIf (tVal (eFld [n_Stand] f_is_put (eVar 2))) (sExpr (eMeth n_Heads x_uncover 3 m_Heads_uncover (eVar 0) (aCons (eVar 1) (aCons (eTup (aCons (eVar 6) (aCons (eVar 7) (aCons (eFld [n_Stand] f_is_aged (eVar 2)) (aCons (eVar 8) (aNil)))))) (aNil))))) (sFor (jSeq (eCall 1 m_rests_of (aCons (eFld [n_Heads] f_flags (eVar 0)) (aNil)))) (gNm 11) (sExpr (eMeth n_Heads x_come 3 m_Heads_come (eVar 0) (aCons (eVar 1) (aCons (eMake n_Stand 7 m_Stand___init__ (aCons (eVar 6) (aCons (eVar 7) (aCons (eVar 11) (aCons (eC (.bl false)) (aCons (eC (.bl false)) (aCons (eVar 8) (aNil)))))))) (aNil)))))))))))
def m_Heads_press : MF := runFn 12 b_Heads_press
def b_Heads___init__ : MS := sSeq (sFldM [n_Heads] f_books (eVar 0) (eTup (aCons (eVar 1) (aCons (eVar 2) (aNil))))) (sSeq (sFldM [n_Heads] f_flags (eVar 0) (eVar 3)) (sSeq (sFldM [n_Heads] f_known (eVar 0) (eDictT)) (sSeq (sFldM [n_Heads] f_uncovered (eVar 0) (eDictT)) (sSeq (sFldM [n_Heads] f_covering (eVar 0) (eDictT)) (sSeq (sFldM [n_Heads] f_waiting (eVar 0) (eLst (aNil))) (sSeq (sFldM [n_Heads] f_deeds (eVar 0) (eDictT)) (sSeq (sFldM [n_Heads] f_is_unlike (eVar 0) (eC (.bl false))) (sSeq (sFor (jSeq (eCall 1 m_rests_of (aCons (eVar 3) (aNil)))) (gNm 4) (sExpr (eMeth n_Heads x_come 3 m_Heads_come (eVar 0) (aCons (eC (.str [])) (aCons (eMake n_Stand 7 m_Stand___init__ (aCons (eC v_BLANK) (aCons (eC (.bl false)) (aCons (eVar 4) (aCons (eC (.bl false)) (aCons (eC (.bl false)) (aCons (eTup (aNil)) (aNil)))))))) (aNil)))))) (sWhile (tAndM (tCmp mNe (eFld [n_Heads] f_waiting (eVar 0)) (eLstV (aNil))) (tNotM (tVal (eFld [n_Heads] f_is_unlike (eVar 0))))) (sSeq (sAsg (eBm .list mPop (eFld [n_Heads] f_waiting (eVar 0)) aNil) (gTp 2 (gC (gNm 5) (gC (gNm 6) (gN))))) (sFor (jSeq (eMeth n_Stand x_strikes 2 m_Stand_strikes (eVar 6) (aCons (eOp mIx (eFld [n_Heads] f_flags (eVar 0)) (eC (.int 0))) (aNil)))) (gTp 2 (gC (gNm 7) (gC (gNm 8) (gN)))) (sExpr (eMeth n_Heads x_press 5 m_Heads_press (eVar 0) (aCons (eVar 5) (aCons (eVar 6) (aCons (eVar 7) (aCons (eVar 8) (aNil))))))))))))))))))
def m_Heads___init__ : MF := runFn 9 b_Heads___init__
def b_are_alike : MS := sSeq (sExpr (eCall 1 m_need_book (aCons (eVar 0) (aNil)))) (sSeq (sExpr (eCall 1 m_need_book (aCons (eVar 1) (aNil)))) (sSeq (sExpr (eCall 1 m_need_flags (aCons (eVar 2) (aNil)))) (sRet (eNot (eFld [n_Heads] f_is_unlike (eMake n_Heads 4 m_Heads___init__ (aCons (eVar 0) (aCons (eVar 1) (aCons (eVar 2) (aNil))))))))))
def m_are_alike : MF := runFn 3 b_are_alike
def p_are_alike : MF := pureV m_are_alike
def b_stand_at : MS := sSeq (sAsg (eVar 0) (gTp 3 (gC (gNm 3) (gC (gNm 4) (gC (gNm 5) (gN)))))) (sSeq (sAsg (eIf (tCmp mNe (eVar 1) (eTup (aNil))) (eOp mIx (eVar 1) (eC (.int 0))) (eTup (aCons (eVar 2) (aCons (eC (.bl false)) (aNil))))) (gTp 2 (gC (gNm 6) (gC (gNm 7) (gN))))) (sRet (eMake n_Stand 7 m_Stand___init__ (aCons (eVar 3) (aCons (eVar 4) (aCons (eVar 6) (aCons (eOp mNe (eVar 1) (eTup (aNil))) (aCons (eVar 7) (aCons (eVar 5) (aNil))))))))))
def m_stand_at : MF := runFn 8 b_stand_at
def b_Way___init__ : MS := sSeq (sFldM [n_Way] f_stand (eVar 0) (eVar 1)) (sSeq (sFldM [n_Way] f_cells (eVar 0) (eVar 2)) (sSeq (sFldM [n_Way] f_rest (eVar 0) (eVar 3)) (sSeq (sFldM [n_Way] f_met (eVar 0) (eVar 4)) (sFldM [n_Way] f_keys_so (eVar 0) (eVar 5)))))
def m_Way___init__ : MF := runFn 6 b_Way___init__
def b_Way_after : MS := sSeq (sAsg (eTup (aCons (eMeth n_Stand x_ahead_behind 3 m_Stand_ahead_behind (eFld [n_Way] f_stand (eVar 0)) (aCons (eVar 2) (aCons (eVar 3) (aNil)))) (aCons (eTup (aStar (eFld [n_Way] f_keys_so (eVar 0)) (aCons (eVar 2) (aNil)))) (aNil)))) (gTp 2 (gC (gNm 6) (gC (gNm 7) (gN))))) (sSeq (sAsg (eBlt mTuple (aCons (eLv (jSeq (eFld [n_Way] f_cells (eVar 0))) [9, 10] (.row [9, 10]) (tYesM) (eTup (aCons (eVar 9) (aCons (eOr (eVar 10) (eOp mEq (eVar 2) (eC v_LINE))) (aNil))))) (aNil))) (gNm 5)) (sSeq (sIf (tAndM (tCmp mEq (eVar 1) (eC v_OVER)) (tCmp mEq (eVar 5) (eTup (aNil)))) (sRet (eLv (jSeq (eVar 4)) [8] (.one 8) (tYesM) (eMake n_Way 6 m_Way___init__ (aCons (eCall 3 m_stand_at (aCons (eVar 6) (aCons (eTup (aNil)) (aCons (eVar 8) (aNil))))) (aCons (eTup (aNil)) (aCons (eVar 8) (aCons (eOp mAddV (eFld [n_Way] f_met (eVar 0)) (eVar 8)) (aCons (eVar 7) (aNil))))))))) (sNil)) (sSeq (sIf (tCmp mEq (eVar 1) (eC v_PUT)) (sAsg (eTup (aCons (eTup (aCons (eCall 1 m_closer_of (aCons (eVar 2) (aNil))) (aCons (eC (.bl false)) (aNil)))) (aStar (eVar 5) (aNil)))) (gNm 5)) (sIf (tCmp mEq (eVar 1) (eC v_OVER)) (sAsg (eCutV (eVar 5) (pSo (eC (.int 1))) (pNo)) (gNm 5)) (sNil))) (sRet (eLstV (aCons (eMake n_Way 6 m_Way___init__ (aCons (eCall 3 m_stand_at (aCons (eVar 6) (aCons (eVar 5) (aCons (eFld [n_Way] f_rest (eVar 0)) (aNil))))) (aCons (eVar 5) (aCons (eFld [n_Way] f_rest (eVar 0)) (aCons (eFld [n_Way] f_met (eVar 0)) (aCons (eVar 7) (aNil))))))) (aNil)))))))
def m_Way_after : MF := runFn 11 b_Way_after
def b_Way_key : MS := sRet (eTup (aCons (eMeth n_Stand x_key 1 m_Stand_key (eFld [n_Way] f_stand (eVar 0)) aNil) (aCons (eFld [n_Way] f_cells (eVar 0)) (aCons (eFld [n_Way] f_rest (eVar 0)) (aNil)))))
def m_Way_key : MF := runFn 1 b_Way_key
def b_parting : MS := sSeq (sIf (tVal (eCall 3 m_are_alike (aCons (eVar 0) (aCons (eVar 1) (aCons (eVar 2) (aNil)))))) (sRet (eC .non)) (sNil)) (sSeq (sPar 4 5 (aCons (eCall 1 m_rests_of (aCons (eVar 2) (aNil))) (aCons (eDictT) (aNil)))) (sSeq (sAsg (eLv (jSeq (eVar 4)) [8] (.one 8) (tYesM) (eMake n_Way 6 m_Way___init__ (aCons (eCall 3 m_stand_at (aCons (eTup (aCons (eC v_BLANK) (aCons (eC (.bl false)) (aCons (eTup (aNil)) (aNil))))) (aCons (eTup (aNil)) (aCons (eVar 8) (aNil))))) (aCons (eTup (aNil)) (aCons (eVar 8) (aCons (eVar 8) (aCons (eTup (aNil)) (aNil)))))))) (gNm 3)) (sWhile (tVal (eC (.bl true))) (sSeq (sAsg (eLst (aNil)) (gNm 6)) (sSeq (sFor (jSeq (eVar 3)) (gNm 7) (sFor (jSeq (eMeth n_Stand x_strikes 2 m_Stand_strikes (eFld [n_Way] f_stand (eVar 7)) (aCons (eOp mIx (eVar 2) (eC (.int 0))) (aNil)))) (gTp 2 (gC (gNm 9) (gC (gNm 10) (gN)))) (sSeq (sAsg (eCall 4 m_deed_of_both (aCons (eVar 0) (aCons (eVar 1) (aCons (eFld [n_Way] f_stand (eVar 7)) (aCons (eVar 9) (aNil)))))) (gNm 11)) (sSeq (sIf (tCmp mEq (eVar 11) (eC (.str []))) (sRet (eTup (aCons (eFld [n_Way] f_met (eVar 7)) (aCons (eTup (aStar (eFld [n_Way] f_keys_so (eVar 7)) (aCons (eVar 9) (aNil)))) (aNil))))) (sNil)) (sFor (jSeq (eMeth n_Way x_after 5 m_Way_after (eVar 7) (aCons (eVar 11) (aCons (eVar 9) (aCons (eVar 10) (aCons (eVar 4) (aNil))))))) (gNm 12) (sIf (tCmp mNotIn (eMeth n_Way x_key 1 m_Way_key (eVar 12) aNil) (eVar 5)) (sSeq (sSub (eVar 5) (eMeth n_Way x_key 1 m_Way_key (eVar 12) aNil) (eC (.bl true))) (sExpr (eBm .list mAppend (eVar 6) (aCons (eVar 12) (aNil))))) (sNil))))))) (sAsg (eVar 6) (gNm 3)))))))
def m_parting : MF := runFn 13 b_parting
def p_parting : MF := pureV m_parting
def b_law_0 : MS := sAsg (eCall 1 m_law_begun (aCons (eVar 0) (aNil))) (gNm 1)
def b_law_1_b_0 : MS := sPar3 6 7 8 (aCons (eBlt mListV (aCons (eCall 1 m_law_book (aCons (eVar 1) (aNil))) (aNil))) (aCons (eOp mEq (eCall 2 m_law_draw (aCons (eVar 1) (aCons (eC (.int 2)) (aNil)))) (eC (.int 1))) (aCons (eOp mEq (eCall 2 m_law_draw (aCons (eVar 1) (aCons (eC (.int 2)) (aNil)))) (eC (.int 1))) (aNil))))
def b_law_1_b_1 : MS := sAsg (eOp mAddV (eLstV (aCons (eC (.str [110, 101, 118, 101, 114])) (aCons (eC (.str [110, 101, 118, 101, 114])) (aNil)))) (eCutV (eVar 6) (pSo (eC (.int 2))) (pNo))) (gNm 3)
def b_law_1_b_2 : MS := sAsg (eLst (aCons (eTup (aCons (eOp mAddV (eOp mAddV (eCutV (eVar 6) (pNo) (pSo (eC (.int 4)))) (eLstV (aCons (eC (.str [111, 119, 110])) (aNil)))) (eCutV (eVar 6) (pSo (eC (.int 5))) (pNo))) (aCons (eOp mAddV (eOp mAddV (eCutV (eVar 6) (pNo) (pSo (eC (.int 4)))) (eLstV (aCons (eOp mIx (eLstV (aCons (eC (.str [97, 110, 121])) (aCons (eC (.str [111, 110, 101])) (aNil)))) (eCall 2 m_law_draw (aCons (eVar 1) (aCons (eC (.int 2)) (aNil))))) (aNil)))) (eCutV (eVar 6) (pSo (eC (.int 5))) (pNo))) (aCons (eC (.bl false)) (aNil))))) (aNil))) (gNm 4)
def b_law_1_b_3 : MS := sAsg (eOp mAddV (eOp mAddV (eCutV (eVar 6) (pNo) (pSo (eC (.int 3)))) (eLstV (aCons (eOp mIx (eLstV (aCons (eC (.str [97, 110, 121])) (aCons (eC (.str [110, 101, 118, 101, 114])) (aNil)))) (eCall 2 m_law_draw (aCons (eVar 1) (aCons (eC (.int 2)) (aNil))))) (aNil)))) (eCutV (eVar 6) (pSo (eC (.int 4))) (pNo))) (gNm 5)
def b_law_1_b_4 : MS := sExpr (eBm .list mAppend (eVar 4) (aCons (eTup (aCons (eOp mAddV (eCutV (eVar 5) (pNo) (pSo (eC (.int 5)))) (eLstV (aCons (eC (.str [110, 101, 118, 101, 114])) (aNil)))) (aCons (eOp mAddV (eCutV (eVar 5) (pNo) (pSo (eC (.int 5)))) (eLstV (aCons (eC (.str [108, 105, 110, 101])) (aNil)))) (aCons (eC (.bl false)) (aNil))))) (aNil)))
def b_law_1_b_5 : MS := sExpr (eBm .list mAppend (eVar 4) (aCons (eTup (aCons (eOp mAddV (eCutV (eVar 3) (pNo) (pSo (eC (.int 5)))) (eLstV (aCons (eC (.str [110, 101, 118, 101, 114])) (aNil)))) (aCons (eOp mAddV (eCutV (eVar 3) (pNo) (pSo (eC (.int 5)))) (eLstV (aCons (eC (.str [108, 105, 110, 101])) (aNil)))) (aCons (eVar 8) (aNil))))) (aNil)))
def b_law_1_b_6 : MS := sExpr (eBm .list mAppend (eVar 4) (aCons (eTup (aCons (eOp mAddV (eOp mAddV (eCutV (eVar 3) (pNo) (pSo (eC (.int 3)))) (eLstV (aCons (eC (.str [111, 119, 110])) (aNil)))) (eCutV (eVar 3) (pSo (eC (.int 4))) (pNo))) (aCons (eOp mAddV (eOp mAddV (eCutV (eVar 3) (pNo) (pSo (eC (.int 3)))) (eLstV (aCons (eC (.str [110, 101, 118, 101, 114])) (aNil)))) (eCutV (eVar 3) (pSo (eC (.int 4))) (pNo))) (aCons (eVar 8) (aNil))))) (aNil)))
def b_law_1_b_7 : MS := sExpr (eBm .list mAppend (eVar 4) (aCons (eTup (aCons (eOp mAddV (eOp mAddV (eCutV (eVar 3) (pNo) (pSo (eC (.int 4)))) (eLstV (aCons (eC (.str [111, 119, 110])) (aNil)))) (eCutV (eVar 3) (pSo (eC (.int 5))) (pNo))) (aCons (eOp mAddV (eOp mAddV (eCutV (eVar 3) (pNo) (pSo (eC (.int 4)))) (eLstV (aCons (eC (.str [111, 110, 101])) (aNil)))) (eCutV (eVar 3) (pSo (eC (.int 5))) (pNo))) (aCons (eVar 8) (aNil))))) (aNil)))
def b_law_1_b_8_b_0 : MS := sPar3 12 13 14 (aCons (eBlt mTuple (aCons (eVar 9) (aNil))) (aCons (eBlt mTuple (aCons (eVar 10) (aNil))) (aCons (eTup (aCons (eVar 11) (aCons (eVar 7) (aNil)))) (aNil))))
def b_law_1_b_8_b_1 : MS := sIf (tNotM (tVal (eCall 2 m_law_like (aCons (eLstV (aCons (eCall 3 p_are_alike (aCons (eVar 12) (aCons (eVar 13) (aCons (eVar 14) (aNil))))) (aCons (eCall 3 p_parting (aCons (eVar 13) (aCons (eVar 12) (aCons (eVar 14) (aNil))))) (aNil)))) (aCons (eLstV (aCons (eC (.bl true)) (aCons (eC .non) (aNil)))) (aNil)))))) (sRet (eC (.bl false))) (sNil)
def b_law_1_b_8 : MS := sFor (jSeq (eVar 4)) (gTp 3 (gC (gNm 9) (gC (gNm 10) (gC (gNm 11) (gN))))) (sSeq (b_law_1_b_8_b_0) (b_law_1_b_8_b_1))
def b_law_1_b_9 : MS := sPar 12 13 (aCons (eBlt mTuple (aCons (eVar 3) (aNil))) (aCons (eOp mAddV (eTup (aCons (eC (.str [110, 101, 118, 101, 114])) (aCons (eC (.str [110, 101, 118, 101, 114])) (aNil)))) (eCutV (eCall 1 m_law_book (aCons (eVar 1) (aNil))) (pSo (eC (.int 2))) (pNo))) (aNil)))
def b_law_1_b_10 : MS := sIf (tCmp mIsNot (eCall 3 p_are_alike (aCons (eVar 12) (aCons (eVar 13) (aCons (eTup (aCons (eVar 8) (aCons (eC (.bl false)) (aNil)))) (aNil))))) (eC (.bl true))) (sRet (eC (.bl false))) (sNil)
def b_law_1_b_11 : MS := sPar 12 13 (aCons (eOp mAddV (eTup (aCons (eC (.str [97, 108, 119, 97, 121, 115])) (aNil))) (eBlt mTuple (aCons (eCutV (eVar 6) (pSo (eC (.int 1))) (pNo)) (aNil)))) (aCons (eOp mAddV (eTup (aCons (eC (.str [102, 114, 101, 101])) (aNil))) (eBlt mTuple (aCons (eCutV (eVar 6) (pSo (eC (.int 1))) (pNo)) (aNil)))) (aNil)))
def b_law_1_b_12 : MS := sIf (tCmp mIsNot (eCall 3 p_are_alike (aCons (eVar 12) (aCons (eVar 13) (aCons (eTup (aCons (eVar 8) (aCons (eC (.bl false)) (aNil)))) (aNil))))) (eC (.bl true))) (sRet (eC (.bl false))) (sNil)
def b_law_1_b : MS := sSeq (b_law_1_b_0) (sSeq (b_law_1_b_1) (sSeq (b_law_1_b_2) (sSeq (b_law_1_b_3) (sSeq (b_law_1_b_4) (sSeq (b_law_1_b_5) (sSeq (b_law_1_b_6) (sSeq (b_law_1_b_7) (sSeq (b_law_1_b_8) (sSeq (b_law_1_b_9) (sSeq (b_law_1_b_10) (sSeq (b_law_1_b_11) (b_law_1_b_12))))))))))))
def b_law_1 : MS := sFor (jRng1 (aCons (eC (.int 1)) (aNil))) (gNm 2) (b_law_1_b)
def b_law : MS := sSeq (b_law_0) (sSeq (b_law_1) (sRet (eC (.bl true))))
def m_law : MF := runFn 15 b_law
end GXk22

end
section
namespace GXk22
open PySem PySem.Spec PyProof.Rows L2 MP
abbrev N_law_folded : List Str := ["_law_script", "_law_found", "_law_n", "_law_cell"]
theorem sc_law_folded : FnScope N_law_folded ["_law_script"] (defScope s_law_folded) := ⟨rfl, rfl, rfl, by decide +kernel, rfl, by decide +kernel, by decide +kernel⟩
abbrev N_law_begun : List Str := ["_law_script", "_law_m", "_law_cell"]
theorem sc_law_begun : FnScope N_law_begun ["_law_script"] (defScope s_law_begun) := ⟨rfl, rfl, rfl, by decide +kernel, rfl, by decide +kernel, by decide +kernel⟩
abbrev N_law_mixed : List Str := ["_law_cell", "_law_n", "_law_blend"]
theorem sc_law_mixed : FnScope N_law_mixed ["_law_cell", "_law_n"] (defScope s_law_mixed) := ⟨rfl, rfl, rfl, by decide +kernel, rfl, by decide +kernel, by decide +kernel⟩
abbrev N_law_draw : List Str := ["_law_m", "_law_limit", "_law_n", "_law_lot", "_law_here", "_law_cell"]
theorem sc_law_draw : FnScope N_law_draw ["_law_m", "_law_limit"] (defScope s_law_draw) := ⟨rfl, rfl, rfl, by decide +kernel, rfl, by decide +kernel, by decide +kernel⟩
abbrev N_law_book : List Str := ["_law_m", "_law_some", "_law_row"]
theorem sc_law_book : FnScope N_law_book ["_law_m"] (defScope s_law_book) := ⟨rfl, rfl, rfl, by decide +kernel, rfl, by decide +kernel, by decide +kernel⟩
abbrev N_law_like : List Str := ["_law_heard", "_law_due"]
theorem sc_law_like : FnScope N_law_like ["_law_heard", "_law_due"] (defScope s_law_like) := ⟨rfl, rfl, rfl, by decide +kernel, rfl, by decide +kernel, by decide +kernel⟩
abbrev N_need_book : List Str := ["book", "place", "choice"]
theorem sc_need_book : FnScope N_need_book ["book"] (defScope s_need_book) := ⟨rfl, rfl, rfl, by decide +kernel, rfl, by decide +kernel, by decide +kernel⟩
abbrev N_need_flags : List Str := ["flags", "word"]
theorem sc_need_flags : FnScope N_need_flags ["flags"] (defScope s_need_flags) := ⟨rfl, rfl, rfl, by decide +kernel, rfl, by decide +kernel, by decide +kernel⟩
abbrev N_rests_of : List Str := ["flags"]
theorem sc_rests_of : FnScope N_rests_of ["flags"] (defScope s_rests_of) := ⟨rfl, rfl, rfl, by decide +kernel, rfl, by decide +kernel, by decide +kernel⟩
abbrev N_Stand_key : List Str := ["self"]
theorem sc_Stand_key : FnScope N_Stand_key ["self"] (defScope s_Stand_key) := ⟨rfl, rfl, rfl, by decide +kernel, rfl, by decide +kernel, by decide +kernel⟩
abbrev N_Heads_come : List Str := ["self", "level", "stand", "place"]
theorem sc_Heads_come : FnScope N_Heads_come ["self", "level", "stand"] (defScope s_Heads_come) := ⟨rfl, rfl, rfl, by decide +kernel, rfl, by decide +kernel, by decide +kernel⟩
abbrev N_Stand_strikes : List Str := ["self", "has_slips", "found", "sign"]
theorem sc_Stand_strikes : FnScope N_Stand_strikes ["self", "has_slips"] (defScope s_Stand_strikes) := ⟨rfl, rfl, rfl, by decide +kernel, rfl, by decide +kernel, by decide +kernel⟩
abbrev N_left_with : List Str := ["before", "is_odd"]
theorem sc_left_with : FnScope N_left_with ["before", "is_odd"] (defScope s_left_with) := ⟨rfl, rfl, rfl, by decide +kernel, rfl, by decide +kernel, by decide +kernel⟩
abbrev N_Page___init__ : List Str := ["self", "page", "place", "sign"]
theorem sc_Page___init__ : FnScope N_Page___init__ ["self", "page"] (defScope s_Page___init__) := ⟨rfl, rfl, rfl, by decide +kernel, rfl, by decide +kernel, by decide +kernel⟩
abbrev N_Stand_page_by : List Str := ["self", "book", "is_own", "left"]
theorem sc_Stand_page_by : FnScope N_Stand_page_by ["self", "book"] (defScope s_Stand_page_by) := ⟨rfl, rfl, rfl, by decide +kernel, rfl, by decide +kernel, by decide +kernel⟩
abbrev N_closer_of : List Str := ["sign"]
theorem sc_closer_of : FnScope N_closer_of ["sign"] (defScope s_closer_of) := ⟨rfl, rfl, rfl, by decide +kernel, rfl, by decide +kernel, by decide +kernel⟩
abbrev N_Page_next_sign : List Str := ["self"]
theorem sc_Page_next_sign : FnScope N_Page_next_sign ["self"] (defScope s_Page_next_sign) := ⟨rfl, rfl, rfl, by decide +kernel, rfl, by decide +kernel, by decide +kernel⟩
abbrev N_Page_is_next_own : List Str := ["self"]
theorem sc_Page_is_next_own : FnScope N_Page_is_next_own ["self"] (defScope s_Page_is_next_own) := ⟨rfl, rfl, rfl, by decide +kernel, rfl, by decide +kernel, by decide +kernel⟩
abbrev N_Page_go_back : List Str := ["self", "book", "closer", "does_match"]
theorem sc_Page_go_back : FnScope N_Page_go_back ["self", "book"] (defScope s_Page_go_back) := ⟨rfl, rfl, rfl, by decide +kernel, rfl, by decide +kernel, by decide +kernel⟩
abbrev N_Page_go_over : List Str := ["self"]
theorem sc_Page_go_over : FnScope N_Page_go_over ["self"] (defScope s_Page_go_over) := ⟨rfl, rfl, rfl, by decide +kernel, rfl, by decide +kernel, by decide +kernel⟩
abbrev N_is_closing : List Str := ["sign"]
theorem sc_is_closing : FnScope N_is_closing ["sign"] (defScope s_is_closing) := ⟨rfl, rfl, rfl, by decide +kernel, rfl, by decide +kernel, by decide +kernel⟩
abbrev N_is_within : List Str := ["left", "many"]
theorem sc_is_within : FnScope N_is_within ["left"] (defScope s_is_within) := ⟨rfl, rfl, rfl, by decide +kernel, rfl, by decide +kernel, by decide +kernel⟩
abbrev N_is_free : List Str := ["sign"]
theorem sc_is_free : FnScope N_is_free ["sign"] (defScope s_is_free) := ⟨rfl, rfl, rfl, by decide +kernel, rfl, by decide +kernel, by decide +kernel⟩
abbrev N_is_letter : List Str := ["sign"]
theorem sc_is_letter : FnScope N_is_letter ["sign"] (defScope s_is_letter) := ⟨rfl, rfl, rfl, by decide +kernel, rfl, by decide +kernel, by decide +kernel⟩
abbrev N_Page_does_put : List Str := ["self", "book", "sign", "before"]
theorem sc_Page_does_put : FnScope N_Page_does_put ["self", "book", "sign"] (defScope s_Page_does_put) := ⟨rfl, rfl, rfl, by decide +kernel, rfl, by decide +kernel, by decide +kernel⟩
abbrev N_Page_type_sign : List Str := ["self", "book", "sign", "does_match", "closer", "is_put", "other", "is_own"]
theorem sc_Page_type_sign : FnScope N_Page_type_sign ["self", "book", "sign"] (defScope s_Page_type_sign) := ⟨rfl, rfl, rfl, by decide +kernel, rfl, by decide +kernel, by decide +kernel⟩
abbrev N_Page_press : List Str := ["self", "book", "key"]
theorem sc_Page_press : FnScope N_Page_press ["self", "book", "key"] (defScope s_Page_press) := ⟨rfl, rfl, rfl, by decide +kernel, rfl, by decide +kernel, by decide +kernel⟩
abbrev N_Stand_deed : List Str := ["self", "book", "key", "page"]
theorem sc_Stand_deed : FnScope N_Stand_deed ["self", "book", "key"] (defScope s_Stand_deed) := ⟨rfl, rfl, rfl, by decide +kernel, rfl, by decide +kernel, by decide +kernel⟩
abbrev N_deed_of_both : List Str := ["one", "other", "stand", "key", "deed"]
theorem sc_deed_of_both : FnScope N_deed_of_both ["one", "other", "stand", "key"] (defScope s_deed_of_both) := ⟨rfl, rfl, rfl, by decide +kernel, rfl, by decide +kernel, by decide +kernel⟩
abbrev N_Heads_deed_in : List Str := ["self", "stand", "key", "place"]
theorem sc_Heads_deed_in : FnScope N_Heads_deed_in ["self", "stand", "key"] (defScope s_Heads_deed_in) := ⟨rfl, rfl, rfl, by decide +kernel, rfl, by decide +kernel, by decide +kernel⟩
abbrev N_kind_before : List Str := ["sign"]
theorem sc_kind_before : FnScope N_kind_before ["sign"] (defScope s_kind_before) := ⟨rfl, rfl, rfl, by decide +kernel, rfl, by decide +kernel, by decide +kernel⟩
abbrev N_Stand_ahead : List Str := ["self", "sign", "is_odd"]
theorem sc_Stand_ahead : FnScope N_Stand_ahead ["self", "sign"] (defScope s_Stand_ahead) := ⟨rfl, rfl, rfl, by decide +kernel, rfl, by decide +kernel, by decide +kernel⟩
abbrev N_Stand_ahead_behind : List Str := ["self", "key", "is_slip", "before", "is_odd"]
theorem sc_Stand_ahead_behind : FnScope N_Stand_ahead_behind ["self", "key", "is_slip"] (defScope s_Stand_ahead_behind) := ⟨rfl, rfl, rfl, by decide +kernel, rfl, by decide +kernel, by decide +kernel⟩
abbrev N_Stand___init__ : List Str := ["self", "before", "is_odd", "following", "is_put", "is_aged", "held"]
theorem sc_Stand___init__ : FnScope N_Stand___init__ ["self", "before", "is_odd", "following", "is_put", "is_aged", "held"] (defScope s_Stand___init__) := ⟨rfl, rfl, rfl, by decide +kernel, rfl, by decide +kernel, by decide +kernel⟩
abbrev N_Heads_bare : List Str := ["self", "above", "ahead", "aged", "level", "stand", "before", "is_odd", "is_aged", "held"]
theorem sc_Heads_bare : FnScope N_Heads_bare ["self", "above", "ahead"] (defScope s_Heads_bare) := ⟨rfl, rfl, rfl, by decide +kernel, rfl, by decide +kernel, by decide +kernel⟩
abbrev N_Heads_begin : List Str := ["self", "above", "fresh", "level", "some", "place", "ahead"]
theorem sc_Heads_begin : FnScope N_Heads_begin ["self", "above", "fresh"] (defScope s_Heads_begin) := ⟨rfl, rfl, rfl, by decide +kernel, rfl, by decide +kernel, by decide +kernel⟩
abbrev N_Heads_uncover : List Str := ["self", "level", "ahead", "known", "above"]
theorem sc_Heads_uncover : FnScope N_Heads_uncover ["self", "level", "ahead"] (defScope s_Heads_uncover) := ⟨rfl, rfl, rfl, by decide +kernel, rfl, by decide +kernel, by decide +kernel⟩
abbrev N_Heads_press : List Str := ["self", "level", "stand", "key", "is_slip", "deed", "before", "is_odd", "held", "is_aged", "fresh", "rest"]
theorem sc_Heads_press : FnScope N_Heads_press ["self", "level", "stand", "key", "is_slip"] (defScope s_Heads_press) := ⟨rfl, rfl, rfl, by decide +kernel, rfl, by decide +kernel, by decide +kernel⟩
abbrev N_Heads___init__ : List Str := ["self", "one", "other", "flags", "rest", "level", "stand", "key", "is_slip"]
theorem sc_Heads___init__ : FnScope N_Heads___init__ ["self", "one", "other", "flags"] (defScope s_Heads___init__) := ⟨rfl, rfl, rfl, by decide +kernel, rfl, by decide +kernel, by decide +kernel⟩
abbrev N_are_alike : List Str := ["one", "other", "flags"]
theorem sc_are_alike : FnScope N_are_alike ["one", "other", "flags"] (defScope s_are_alike) := ⟨rfl, rfl, rfl, by decide +kernel, rfl, by decide +kernel, by decide +kernel⟩
abbrev N_stand_at : List Str := ["ahead", "cells", "rest", "before", "is_odd", "held", "following", "is_aged"]
theorem sc_stand_at : FnScope N_stand_at ["ahead", "cells", "rest"] (defScope s_stand_at) := ⟨rfl, rfl, rfl, by decide +kernel, rfl, by decide +kernel, by decide +kernel⟩
abbrev N_Way___init__ : List Str := ["self", "stand", "cells", "rest", "met", "keys_so"]
theorem sc_Way___init__ : FnScope N_Way___init__ ["self", "stand", "cells", "rest", "met", "keys_so"] (defScope s_Way___init__) := ⟨rfl, rfl, rfl, by decide +kernel, rfl, by decide +kernel, by decide +kernel⟩
abbrev N_Way_after : List Str := ["self", "deed", "key", "is_slip", "rests", "cells", "ahead", "row", "rest", "sign", "is_aged"]
theorem sc_Way_after : FnScope N_Way_after ["self", "deed", "key", "is_slip", "rests"] (defScope s_Way_after) := ⟨rfl, rfl, rfl, by decide +kernel, rfl, by decide +kernel, by decide +kernel⟩
abbrev N_Way_key : List Str := ["self"]
theorem sc_Way_key : FnScope N_Way_key ["self"] (defScope s_Way_key) := ⟨rfl, rfl, rfl, by decide +kernel, rfl, by decide +kernel, by decide +kernel⟩
abbrev N_parting : List Str := ["one", "other", "flags", "layer", "rests", "known", "later", "way", "rest", "key", "is_slip", "deed", "fresh"]
theorem sc_parting : FnScope N_parting ["one", "other", "flags"] (defScope s_parting) := ⟨rfl, rfl, rfl, by decide +kernel, rfl, by decide +kernel, by decide +kernel⟩
abbrev N_law : List Str := ["_law_script", "_law_m", "_law_turn", "_law_bare", "_law_pairs", "_law_far", "_law_book_here", "_law_behind_so", "_law_slips_so", "_law_one", "_law_other", "_law_slip_so", "_law_mine", "_law_yours", "_law_flags"]
theorem sc_law : FnScope N_law ["_law_script"] (defScope s_law) := ⟨rfl, rfl, rfl, by decide +kernel, rfl, by decide +kernel, by decide +kernel⟩
section
variable {P : Program} {w : World} {K : PySem.W.Frag} {mg : Str → Option Value} {base h : Heap}
theorem Txt.more1 (T : Txt P w K mg base h) : (exs.all fun p => gloB K p.1 p.2) = true := ((Bool.and_eq_true _ _).mp T.says.more).1
theorem Txt.exx (T : Txt P w K mg base h) : ExX P K mg xsX tbX ttX := exX_ok T.kin T.glob T.nosup (by rw [T.file]; exact ((Bool.and_eq_true _ _).mp ((Bool.and_eq_true _ _).mp T.says.more).2).1)
theorem c_ALWAYS (T : Txt P w K mg base h) : GloM K mg "ALWAYS" v_ALWAYS := gloB_ok T.kin T.glob (List.all_eq_true.mp T.more1 ("ALWAYS", v_ALWAYS) (List.mem_of_getElem? (i := 0) rfl))
theorem c_FREE (T : Txt P w K mg base h) : GloM K mg "FREE" v_FREE := gloB_ok T.kin T.glob (List.all_eq_true.mp T.more1 ("FREE", v_FREE) (List.mem_of_getElem? (i := 1) rfl))
theorem c_APART (T : Txt P w K mg base h) : GloM K mg "APART" v_APART := gloB_ok T.kin T.glob (List.all_eq_true.mp T.more1 ("APART", v_APART) (List.mem_of_getElem? (i := 2) rfl))
theorem c_SAME (T : Txt P w K mg base h) : GloM K mg "SAME" v_SAME := gloB_ok T.kin T.glob (List.all_eq_true.mp T.more1 ("SAME", v_SAME) (List.mem_of_getElem? (i := 3) rfl))
theorem c_OWN (T : Txt P w K mg base h) : GloM K mg "OWN" v_OWN := gloB_ok T.kin T.glob (List.all_eq_true.mp T.more1 ("OWN", v_OWN) (List.mem_of_getElem? (i := 4) rfl))
theorem c_ANY (T : Txt P w K mg base h) : GloM K mg "ANY" v_ANY := gloB_ok T.kin T.glob (List.all_eq_true.mp T.more1 ("ANY", v_ANY) (List.mem_of_getElem? (i := 5) rfl))
theorem c_AT_LINES (T : Txt P w K mg base h) : GloM K mg "AT_LINES" v_AT_LINES := gloB_ok T.kin T.glob (List.all_eq_true.mp T.more1 ("AT_LINES", v_AT_LINES) (List.mem_of_getElem? (i := 6) rfl))
theorem c_CHOICES (T : Txt P w K mg base h) : GloM K mg "CHOICES" v_CHOICES := gloB_ok T.kin T.glob (List.all_eq_true.mp T.more1 ("CHOICES", v_CHOICES) (List.mem_of_getElem? (i := 7) rfl))
theorem c_OPENERS (T : Txt P w K mg base h) : GloM K mg "OPENERS" v_OPENERS := gloB_ok T.kin T.glob (List.all_eq_true.mp T.more1 ("OPENERS", v_OPENERS) (List.mem_of_getElem? (i := 8) rfl))
theorem c_CLOSERS (T : Txt P w K mg base h) : GloM K mg "CLOSERS" v_CLOSERS := gloB_ok T.kin T.glob (List.all_eq_true.mp T.more1 ("CLOSERS", v_CLOSERS) (List.mem_of_getElem? (i := 9) rfl))
theorem c_QUOTE (T : Txt P w K mg base h) : GloM K mg "QUOTE" v_QUOTE := gloB_ok T.kin T.glob (List.all_eq_true.mp T.more1 ("QUOTE", v_QUOTE) (List.mem_of_getElem? (i := 10) rfl))
theorem c_BLANK (T : Txt P w K mg base h) : GloM K mg "BLANK" v_BLANK := gloB_ok T.kin T.glob (List.all_eq_true.mp T.more1 ("BLANK", v_BLANK) (List.mem_of_getElem? (i := 11) rfl))
theorem c_LINE (T : Txt P w K mg base h) : GloM K mg "LINE" v_LINE := gloB_ok T.kin T.glob (List.all_eq_true.mp T.more1 ("LINE", v_LINE) (List.mem_of_getElem? (i := 12) rfl))
theorem c_LETTERS (T : Txt P w K mg base h) : GloM K mg "LETTERS" v_LETTERS := gloB_ok T.kin T.glob (List.all_eq_true.mp T.more1 ("LETTERS", v_LETTERS) (List.mem_of_getElem? (i := 13) rfl))
theorem c_BACK (T : Txt P w K mg base h) : GloM K mg "BACK" v_BACK := gloB_ok T.kin T.glob (List.all_eq_true.mp T.more1 ("BACK", v_BACK) (List.mem_of_getElem? (i := 14) rfl))
theorem c_RIGHT (T : Txt P w K mg base h) : GloM K mg "RIGHT" v_RIGHT := gloB_ok T.kin T.glob (List.all_eq_true.mp T.more1 ("RIGHT", v_RIGHT) (List.mem_of_getElem? (i := 15) rfl))
theorem c_END (T : Txt P w K mg base h) : GloM K mg "END" v_END := gloB_ok T.kin T.glob (List.all_eq_true.mp T.more1 ("END", v_END) (List.mem_of_getElem? (i := 16) rfl))
theorem c_STRUCK (T : Txt P w K mg base h) : GloM K mg "STRUCK" v_STRUCK := gloB_ok T.kin T.glob (List.all_eq_true.mp T.more1 ("STRUCK", v_STRUCK) (List.mem_of_getElem? (i := 17) rfl))
theorem c_RESTS (T : Txt P w K mg base h) : GloM K mg "RESTS" v_RESTS := gloB_ok T.kin T.glob (List.all_eq_true.mp T.more1 ("RESTS", v_RESTS) (List.mem_of_getElem? (i := 18) rfl))
theorem c_OVER (T : Txt P w K mg base h) : GloM K mg "OVER" v_OVER := gloB_ok T.kin T.glob (List.all_eq_true.mp T.more1 ("OVER", v_OVER) (List.mem_of_getElem? (i := 19) rfl))
theorem c_PUT (T : Txt P w K mg base h) : GloM K mg "PUT" v_PUT := gloB_ok T.kin T.glob (List.all_eq_true.mp T.more1 ("PUT", v_PUT) (List.mem_of_getElem? (i := 20) rfl))
theorem c_PLAIN (T : Txt P w K mg base h) : GloM K mg "PLAIN" v_PLAIN := gloB_ok T.kin T.glob (List.all_eq_true.mp T.more1 ("PLAIN", v_PLAIN) (List.mem_of_getElem? (i := 21) rfl))
theorem z_all (T : Txt P w K mg base h) : mg "all" = none := He.free_ok T.kin T.glob (T.says.t.d.fact 58 (f := .free "all") rfl)
theorem z_bool (T : Txt P w K mg base h) : mg "bool" = none := He.free_ok T.kin T.glob (T.says.t.d.fact 59 (f := .free "bool") rfl)
theorem z_enumerate (T : Txt P w K mg base h) : mg "enumerate" = none := He.free_ok T.kin T.glob (T.says.t.d.fact 60 (f := .free "enumerate") rfl)
theorem z_int (T : Txt P w K mg base h) : mg "int" = none := He.free_ok T.kin T.glob (T.says.t.d.fact 61 (f := .free "int") rfl)
theorem z_isinstance (T : Txt P w K mg base h) : mg "isinstance" = none := He.free_ok T.kin T.glob (T.says.t.d.fact 62 (f := .free "isinstance") rfl)
theorem z_len (T : Txt P w K mg base h) : mg "len" = none := He.free_ok T.kin T.glob (T.says.t.d.fact 63 (f := .free "len") rfl)
theorem z_list (T : Txt P w K mg base h) : mg "list" = none := He.free_ok T.kin T.glob (T.says.t.d.fact 64 (f := .free "list") rfl)
theorem z_range (T : Txt P w K mg base h) : mg "range" = none := He.free_ok T.kin T.glob (T.says.t.d.fact 65 (f := .free "range") rfl)
theorem z_repr (T : Txt P w K mg base h) : mg "repr" = none := He.free_ok T.kin T.glob (T.says.t.d.fact 66 (f := .free "repr") rfl)
theorem z_str (T : Txt P w K mg base h) : mg "str" = none := He.free_ok T.kin T.glob (T.says.t.d.fact 67 (f := .free "str") rfl)
theorem z_tuple (T : Txt P w K mg base h) : mg "tuple" = none := He.free_ok T.kin T.glob (T.says.t.d.fact 68 (f := .free "tuple") rfl)
theorem h_before (T : Txt P w K mg base h) : ∀ c ∈ [n_Stand], ∃ C, mg (S c) = some (.ref C) ∧ Cls K C ∧ NoAttr K C "before" := by
  intro c hc
  simp only [List.mem_cons, List.not_mem_nil, or_false] at hc
  rcases hc with rfl
  · exact ⟨_, by rw [show S n_Stand = "Stand" by decide +kernel]; exact He.glo_ok T.kin T.glob (T.says.t.d.fact 32 (f := .glo "Stand") rfl), He.cls_ok (T.says.t.d.fact 33 (f := .cls "Stand") rfl), He.noat_ok (T.says.t.d.fact 69 (f := .noat "Stand" "before") rfl)⟩
theorem h_books (T : Txt P w K mg base h) : ∀ c ∈ [n_Heads], ∃ C, mg (S c) = some (.ref C) ∧ Cls K C ∧ NoAttr K C "books" := by
  intro c hc
  simp only [List.mem_cons, List.not_mem_nil, or_false] at hc
  rcases hc with rfl
  · exact ⟨_, by rw [show S n_Heads = "Heads" by decide +kernel]; exact He.glo_ok T.kin T.glob (T.says.t.d.fact 42 (f := .glo "Heads") rfl), He.cls_ok (T.says.t.d.fact 43 (f := .cls "Heads") rfl), He.noat_ok (T.says.t.d.fact 70 (f := .noat "Heads" "books") rfl)⟩
theorem h_cells (T : Txt P w K mg base h) : ∀ c ∈ [n_Way], ∃ C, mg (S c) = some (.ref C) ∧ Cls K C ∧ NoAttr K C "cells" := by
  intro c hc
  simp only [List.mem_cons, List.not_mem_nil, or_false] at hc
  rcases hc with rfl
  · exact ⟨_, by rw [show S n_Way = "Way" by decide +kernel]; exact He.glo_ok T.kin T.glob (T.says.t.d.fact 52 (f := .glo "Way") rfl), He.cls_ok (T.says.t.d.fact 53 (f := .cls "Way") rfl), He.noat_ok (T.says.t.d.fact 71 (f := .noat "Way" "cells") rfl)⟩
theorem h_covering (T : Txt P w K mg base h) : ∀ c ∈ [n_Heads], ∃ C, mg (S c) = some (.ref C) ∧ Cls K C ∧ NoAttr K C "covering" := by
  intro c hc
  simp only [List.mem_cons, List.not_mem_nil, or_false] at hc
  rcases hc with rfl
  · exact ⟨_, by rw [show S n_Heads = "Heads" by decide +kernel]; exact He.glo_ok T.kin T.glob (T.says.t.d.fact 42 (f := .glo "Heads") rfl), He.cls_ok (T.says.t.d.fact 43 (f := .cls "Heads") rfl), He.noat_ok (T.says.t.d.fact 72 (f := .noat "Heads" "covering") rfl)⟩
theorem h_deeds (T : Txt P w K mg base h) : ∀ c ∈ [n_Heads], ∃ C, mg (S c) = some (.ref C) ∧ Cls K C ∧ NoAttr K C "deeds" := by
  intro c hc
  simp only [List.mem_cons, List.not_mem_nil, or_false] at hc
  rcases hc with rfl
  · exact ⟨_, by rw [show S n_Heads = "Heads" by decide +kernel]; exact He.glo_ok T.kin T.glob (T.says.t.d.fact 42 (f := .glo "Heads") rfl), He.cls_ok (T.says.t.d.fact 43 (f := .cls "Heads") rfl), He.noat_ok (T.says.t.d.fact 73 (f := .noat "Heads" "deeds") rfl)⟩
theorem h_flags (T : Txt P w K mg base h) : ∀ c ∈ [n_Heads], ∃ C, mg (S c) = some (.ref C) ∧ Cls K C ∧ NoAttr K C "flags" := by
  intro c hc
  simp only [List.mem_cons, List.not_mem_nil, or_false] at hc
  rcases hc with rfl
  · exact ⟨_, by rw [show S n_Heads = "Heads" by decide +kernel]; exact He.glo_ok T.kin T.glob (T.says.t.d.fact 42 (f := .glo "Heads") rfl), He.cls_ok (T.says.t.d.fact 43 (f := .cls "Heads") rfl), He.noat_ok (T.says.t.d.fact 74 (f := .noat "Heads" "flags") rfl)⟩
theorem h_following (T : Txt P w K mg base h) : ∀ c ∈ [n_Stand], ∃ C, mg (S c) = some (.ref C) ∧ Cls K C ∧ NoAttr K C "following" := by
  intro c hc
  simp only [List.mem_cons, List.not_mem_nil, or_false] at hc
  rcases hc with rfl
  · exact ⟨_, by rw [show S n_Stand = "Stand" by decide +kernel]; exact He.glo_ok T.kin T.glob (T.says.t.d.fact 32 (f := .glo "Stand") rfl), He.cls_ok (T.says.t.d.fact 33 (f := .cls "Stand") rfl), He.noat_ok (T.says.t.d.fact 75 (f := .noat "Stand" "following") rfl)⟩
theorem h_held (T : Txt P w K mg base h) : ∀ c ∈ [n_Stand], ∃ C, mg (S c) = some (.ref C) ∧ Cls K C ∧ NoAttr K C "held" := by
  intro c hc
  simp only [List.mem_cons, List.not_mem_nil, or_false] at hc
  rcases hc with rfl
  · exact ⟨_, by rw [show S n_Stand = "Stand" by decide +kernel]; exact He.glo_ok T.kin T.glob (T.says.t.d.fact 32 (f := .glo "Stand") rfl), He.cls_ok (T.says.t.d.fact 33 (f := .cls "Stand") rfl), He.noat_ok (T.says.t.d.fact 76 (f := .noat "Stand" "held") rfl)⟩
theorem h_is_aged (T : Txt P w K mg base h) : ∀ c ∈ [n_Stand], ∃ C, mg (S c) = some (.ref C) ∧ Cls K C ∧ NoAttr K C "is_aged" := by
  intro c hc
  simp only [List.mem_cons, List.not_mem_nil, or_false] at hc
  rcases hc with rfl
  · exact ⟨_, by rw [show S n_Stand = "Stand" by decide +kernel]; exact He.glo_ok T.kin T.glob (T.says.t.d.fact 32 (f := .glo "Stand") rfl), He.cls_ok (T.says.t.d.fact 33 (f := .cls "Stand") rfl), He.noat_ok (T.says.t.d.fact 77 (f := .noat "Stand" "is_aged") rfl)⟩
theorem h_is_odd (T : Txt P w K mg base h) : ∀ c ∈ [n_Stand], ∃ C, mg (S c) = some (.ref C) ∧ Cls K C ∧ NoAttr K C "is_odd" := by
  intro c hc
  simp only [List.mem_cons, List.not_mem_nil, or_false] at hc
  rcases hc with rfl
  · exact ⟨_, by rw [show S n_Stand = "Stand" by decide +kernel]; exact He.glo_ok T.kin T.glob (T.says.t.d.fact 32 (f := .glo "Stand") rfl), He.cls_ok (T.says.t.d.fact 33 (f := .cls "Stand") rfl), He.noat_ok (T.says.t.d.fact 78 (f := .noat "Stand" "is_odd") rfl)⟩
theorem h_is_put (T : Txt P w K mg base h) : ∀ c ∈ [n_Stand], ∃ C, mg (S c) = some (.ref C) ∧ Cls K C ∧ NoAttr K C "is_put" := by
  intro c hc
  simp only [List.mem_cons, List.not_mem_nil, or_false] at hc
  rcases hc with rfl
  · exact ⟨_, by rw [show S n_Stand = "Stand" by decide +kernel]; exact He.glo_ok T.kin T.glob (T.says.t.d.fact 32 (f := .glo "Stand") rfl), He.cls_ok (T.says.t.d.fact 33 (f := .cls "Stand") rfl), He.noat_ok (T.says.t.d.fact 79 (f := .noat "Stand" "is_put") rfl)⟩
theorem h_is_unlike (T : Txt P w K mg base h) : ∀ c ∈ [n_Heads], ∃ C, mg (S c) = some (.ref C) ∧ Cls K C ∧ NoAttr K C "is_unlike" := by
  intro c hc
  simp only [List.mem_cons, List.not_mem_nil, or_false] at hc
  rcases hc with rfl
  · exact ⟨_, by rw [show S n_Heads = "Heads" by decide +kernel]; exact He.glo_ok T.kin T.glob (T.says.t.d.fact 42 (f := .glo "Heads") rfl), He.cls_ok (T.says.t.d.fact 43 (f := .cls "Heads") rfl), He.noat_ok (T.says.t.d.fact 80 (f := .noat "Heads" "is_unlike") rfl)⟩
theorem h_keys_so (T : Txt P w K mg base h) : ∀ c ∈ [n_Way], ∃ C, mg (S c) = some (.ref C) ∧ Cls K C ∧ NoAttr K C "keys_so" := by
  intro c hc
  simp only [List.mem_cons, List.not_mem_nil, or_false] at hc
  rcases hc with rfl
  · exact ⟨_, by rw [show S n_Way = "Way" by decide +kernel]; exact He.glo_ok T.kin T.glob (T.says.t.d.fact 52 (f := .glo "Way") rfl), He.cls_ok (T.says.t.d.fact 53 (f := .cls "Way") rfl), He.noat_ok (T.says.t.d.fact 81 (f := .noat "Way" "keys_so") rfl)⟩
theorem h_known (T : Txt P w K mg base h) : ∀ c ∈ [n_Heads], ∃ C, mg (S c) = some (.ref C) ∧ Cls K C ∧ NoAttr K C "known" := by
  intro c hc
  simp only [List.mem_cons, List.not_mem_nil, or_false] at hc
  rcases hc with rfl
  · exact ⟨_, by rw [show S n_Heads = "Heads" by decide +kernel]; exact He.glo_ok T.kin T.glob (T.says.t.d.fact 42 (f := .glo "Heads") rfl), He.cls_ok (T.says.t.d.fact 43 (f := .cls "Heads") rfl), He.noat_ok (T.says.t.d.fact 82 (f := .noat "Heads" "known") rfl)⟩
theorem h_left (T : Txt P w K mg base h) : ∀ c ∈ [n_Page], ∃ C, mg (S c) = some (.ref C) ∧ Cls K C ∧ NoAttr K C "left" := by
  intro c hc
  simp only [List.mem_cons, List.not_mem_nil, or_false] at hc
  rcases hc with rfl
  · exact ⟨_, by rw [show S n_Page = "Page" by decide +kernel]; exact He.glo_ok T.kin T.glob (T.says.t.d.fact 21 (f := .glo "Page") rfl), He.cls_ok (T.says.t.d.fact 22 (f := .cls "Page") rfl), He.noat_ok (T.says.t.d.fact 83 (f := .noat "Page" "left") rfl)⟩
theorem h_met (T : Txt P w K mg base h) : ∀ c ∈ [n_Way], ∃ C, mg (S c) = some (.ref C) ∧ Cls K C ∧ NoAttr K C "met" := by
  intro c hc
  simp only [List.mem_cons, List.not_mem_nil, or_false] at hc
  rcases hc with rfl
  · exact ⟨_, by rw [show S n_Way = "Way" by decide +kernel]; exact He.glo_ok T.kin T.glob (T.says.t.d.fact 52 (f := .glo "Way") rfl), He.cls_ok (T.says.t.d.fact 53 (f := .cls "Way") rfl), He.noat_ok (T.says.t.d.fact 84 (f := .noat "Way" "met") rfl)⟩
theorem h_rest (T : Txt P w K mg base h) : ∀ c ∈ [n_Way], ∃ C, mg (S c) = some (.ref C) ∧ Cls K C ∧ NoAttr K C "rest" := by
  intro c hc
  simp only [List.mem_cons, List.not_mem_nil, or_false] at hc
  rcases hc with rfl
  · exact ⟨_, by rw [show S n_Way = "Way" by decide +kernel]; exact He.glo_ok T.kin T.glob (T.says.t.d.fact 52 (f := .glo "Way") rfl), He.cls_ok (T.says.t.d.fact 53 (f := .cls "Way") rfl), He.noat_ok (T.says.t.d.fact 85 (f := .noat "Way" "rest") rfl)⟩
theorem h_right (T : Txt P w K mg base h) : ∀ c ∈ [n_Page], ∃ C, mg (S c) = some (.ref C) ∧ Cls K C ∧ NoAttr K C "right" := by
  intro c hc
  simp only [List.mem_cons, List.not_mem_nil, or_false] at hc
  rcases hc with rfl
  · exact ⟨_, by rw [show S n_Page = "Page" by decide +kernel]; exact He.glo_ok T.kin T.glob (T.says.t.d.fact 21 (f := .glo "Page") rfl), He.cls_ok (T.says.t.d.fact 22 (f := .cls "Page") rfl), He.noat_ok (T.says.t.d.fact 86 (f := .noat "Page" "right") rfl)⟩
theorem h_stand (T : Txt P w K mg base h) : ∀ c ∈ [n_Way], ∃ C, mg (S c) = some (.ref C) ∧ Cls K C ∧ NoAttr K C "stand" := by
  intro c hc
  simp only [List.mem_cons, List.not_mem_nil, or_false] at hc
  rcases hc with rfl
  · exact ⟨_, by rw [show S n_Way = "Way" by decide +kernel]; exact He.glo_ok T.kin T.glob (T.says.t.d.fact 52 (f := .glo "Way") rfl), He.cls_ok (T.says.t.d.fact 53 (f := .cls "Way") rfl), He.noat_ok (T.says.t.d.fact 87 (f := .noat "Way" "stand") rfl)⟩
theorem h_uncovered (T : Txt P w K mg base h) : ∀ c ∈ [n_Heads], ∃ C, mg (S c) = some (.ref C) ∧ Cls K C ∧ NoAttr K C "uncovered" := by
  intro c hc
  simp only [List.mem_cons, List.not_mem_nil, or_false] at hc
  rcases hc with rfl
  · exact ⟨_, by rw [show S n_Heads = "Heads" by decide +kernel]; exact He.glo_ok T.kin T.glob (T.says.t.d.fact 42 (f := .glo "Heads") rfl), He.cls_ok (T.says.t.d.fact 43 (f := .cls "Heads") rfl), He.noat_ok (T.says.t.d.fact 88 (f := .noat "Heads" "uncovered") rfl)⟩
theorem h_waiting (T : Txt P w K mg base h) : ∀ c ∈ [n_Heads], ∃ C, mg (S c) = some (.ref C) ∧ Cls K C ∧ NoAttr K C "waiting" := by
  intro c hc
  simp only [List.mem_cons, List.not_mem_nil, or_false] at hc
  rcases hc with rfl
  · exact ⟨_, by rw [show S n_Heads = "Heads" by decide +kernel]; exact He.glo_ok T.kin T.glob (T.says.t.d.fact 42 (f := .glo "Heads") rfl), He.cls_ok (T.says.t.d.fact 43 (f := .cls "Heads") rfl), He.noat_ok (T.says.t.d.fact 89 (f := .noat "Heads" "waiting") rfl)⟩
theorem o_law_folded (T : Txt P w K mg base h) : ∃ fd, FnM P w K mg base 1 (He.fAd K e_law_folded.at_) fd ["_law_script"] m_law_folded ∧ Binds K fd ["_law_script"] [] ∧ PySem.W.keepIn K (.ref (He.fAd K e_law_folded.at_)) = true := by
  obtain ⟨fd, F⟩ := T.says.t.d.def_ 0 (d := e_law_folded) rfl
  exact ⟨fd, fn_okD (k := 0) F sc_law_folded (fun cdv hcd A outer s H E hr tk hp => by
    have sc := sc_law_folded
    exact (ms_cons (ms_setLc (i := 1) (own := [("_law_n", 2)]) (t := (.one 2)) rfl sc.nd rfl rfl (sw_true rfl rfl rfl (by decide +kernel)) (mi_range1 rfl (z_range T) (ma_cons me_int ma_nil)) (blkOk_by (own := [("_law_n", 2)]) (N := N_law_folded) (sc := defScope s_law_folded) (by decide +kernel)) (by decide) (fun _ _ _ _ _ => (pg_name (i := 2) sc.nd rfl (Or.inl rfl))) (fun _ _ _ _ _ => mts_nil) (fun _ _ _ _ _ => (me_op om_add me_int (me_var 2)))) (ms_cons (ms_for hp rfl (mi_enum rfl (z_enumerate T) (ma_cons (me_var 0) ma_nil)) (mg_tup rfl (mgs_cons (mg_name (i := 2) sc.nd rfl (Or.inl rfl)) (mgs_cons (mg_name (i := 3) sc.nd rfl (Or.inl rfl)) mgs_nil))) (ms_one (ms_sub hr.units (me_var 1) (me_op om_mod (me_callTy cm_int rfl (z_int T) (by decide +kernel) (ma_cons (me_var 2) ma_nil)) me_int) (me_op om_mod (me_callTy cm_int rfl (z_int T) (by decide +kernel) (ma_cons (me_op om_add (me_op om_mul (me_ix hr.units (me_var 1) (me_op om_mod (me_callTy cm_int rfl (z_int T) (by decide +kernel) (ma_cons (me_var 2) ma_nil)) me_int)) me_int) (me_var 3)) ma_nil)) me_int)))) (ms_cons (ms_for hp rfl (mi_range2 rfl (z_range T) (ma_cons me_int (ma_cons me_int ma_nil))) (mg_name (i := 2) sc.nd rfl (Or.inl rfl)) (ms_one (ms_sub hr.units (me_var 1) (me_var 2) (me_op om_mod (me_callTy cm_int rfl (z_int T) (by decide +kernel) (ma_cons (me_op om_add (me_ix hr.units (me_var 1) (me_var 2)) (me_op om_mul (me_ix hr.units (me_var 1) (me_op om_sub (me_var 2) me_int)) me_int)) ma_nil)) me_int)))) (ms_one (ms_ret (me_var 1))))))), F.bindsN (ps := ["_law_script"]) fun _ _ _ _ _ _ us hl => match us, hl with | [_], _ => rfl, F.kp⟩
theorem d_law_folded (T : Txt P w K mg base h) : Fn P w K mg base "_law_folded" 1 1 m_law_folded := by
  obtain ⟨fd, F, b, kp⟩ := o_law_folded (P := P) (base := base) T
  exact ⟨_, fd, _, rfl, F, He.glo_ok T.kin T.glob (T.says.t.d.fact 0 (f := .glo "_law_folded") rfl), kp, b⟩
theorem o_law_begun (T : Txt P w K mg base h) : ∃ fd, FnM P w K mg base 2 (He.fAd K e_law_begun.at_) fd ["_law_script"] m_law_begun ∧ Binds K fd ["_law_script"] [] ∧ PySem.W.keepIn K (.ref (He.fAd K e_law_begun.at_)) = true := by
  obtain ⟨fd, F⟩ := T.says.t.d.def_ 1 (d := e_law_begun) rfl
  exact ⟨fd, fn_okD (k := 1) F sc_law_begun (fun cdv hcd A outer s H E hr tk hp => by
    have sc := sc_law_begun
    exact (ms_cons (ms_set (i := 1) sc.nd rfl (Or.inl rfl) (me_disp (prs := [(eC (.str [99, 101, 108, 108, 115]), eCall 1 m_law_folded (aCons (eVar 0) (aNil))), (eC (.str [103, 114, 101, 97, 116]), eLst (aNil)), (eC (.str [115, 112, 111, 116]), eC (.int 0))]) (pps_cons (me_str [99, 101, 108, 108, 115]) (me_call (d_law_folded T) tk hr rfl (ma_cons (me_var 0) ma_nil)) (pps_cons (me_str [103, 114, 101, 97, 116]) (me_lst ma_nil) (pps_cons (me_str [115, 112, 111, 116]) me_int pps_nil))))) (ms_cons (ms_sub hr.units (me_var 1) (me_str [103, 114, 101, 97, 116]) (me_lc (own := [("_law_cell", 2)]) (t := (.one 2)) rfl sc.nd (mi_seq (me_var 0)) (blkOk_by (own := [("_law_cell", 2)]) (N := N_law_begun) (sc := defScope s_law_begun) (by decide +kernel)) (by decide) (fun _ _ _ _ _ => (pg_name (i := 2) sc.nd rfl (Or.inl rfl))) (fun _ _ _ _ _ => mts_nil) (fun _ _ _ _ _ => (me_if (mt_cmp om_ge (me_var 2) (me_op om_pow me_int me_int)) (me_var 2) me_int)))) (ms_one (ms_ret (me_var 1)))))), F.bindsN (ps := ["_law_script"]) fun _ _ _ _ _ _ us hl => match us, hl with | [_], _ => rfl, F.kp⟩
theorem d_law_begun (T : Txt P w K mg base h) : Fn P w K mg base "_law_begun" 2 1 m_law_begun := by
  obtain ⟨fd, F, b, kp⟩ := o_law_begun (P := P) (base := base) T
  exact ⟨_, fd, _, rfl, F, He.glo_ok T.kin T.glob (T.says.t.d.fact 1 (f := .glo "_law_begun") rfl), kp, b⟩
theorem o_law_mixed (T : Txt P w K mg base h) : ∃ fd, FnM P w K mg base 1 (He.fAd K e_law_mixed.at_) fd ["_law_cell", "_law_n"] m_law_mixed ∧ Binds K fd ["_law_cell", "_law_n"] [] ∧ PySem.W.keepIn K (.ref (He.fAd K e_law_mixed.at_)) = true := by
  obtain ⟨fd, F⟩ := T.says.t.d.def_ 2 (d := e_law_mixed) rfl
  exact ⟨fd, fn_okD (k := 0) F sc_law_mixed (fun cdv hcd A outer s H E hr tk hp => by
    have sc := sc_law_mixed
    exact (ms_cons (ms_set (i := 2) sc.nd rfl (Or.inl rfl) (me_op om_add (me_op om_add (me_op om_mod (me_callTy cm_int rfl (z_int T) (by decide +kernel) (ma_cons (me_op om_mul (me_op om_mul (me_var 0) (me_op om_add me_int (me_op om_mul me_int (me_var 1)))) me_int) ma_nil)) me_int) (me_op om_mul (me_op om_mul me_int (me_var 1)) (me_var 1))) (me_op om_mul me_int (me_var 1)))) (ms_one (ms_ret (me_op om_fdiv (me_op om_mod (me_callTy cm_int rfl (z_int T) (by decide +kernel) (ma_cons (me_op om_mul (me_var 2) me_int) ma_nil)) me_int) me_int))))), F.bindsN (ps := ["_law_cell", "_law_n"]) fun _ _ _ _ _ _ us hl => match us, hl with | [_, _], _ => rfl, F.kp⟩
theorem d_law_mixed (T : Txt P w K mg base h) : Fn P w K mg base "_law_mixed" 1 2 m_law_mixed := by
  obtain ⟨fd, F, b, kp⟩ := o_law_mixed (P := P) (base := base) T
  exact ⟨_, fd, _, rfl, F, He.glo_ok T.kin T.glob (T.says.t.d.fact 2 (f := .glo "_law_mixed") rfl), kp, b⟩
theorem o_law_draw (T : Txt P w K mg base h) : ∃ fd, FnM P w K mg base 2 (He.fAd K e_law_draw.at_) fd ["_law_m", "_law_limit"] m_law_draw ∧ Binds K fd ["_law_m", "_law_limit"] [] ∧ PySem.W.keepIn K (.ref (He.fAd K e_law_draw.at_)) = true := by
  obtain ⟨fd, F⟩ := T.says.t.d.def_ 3 (d := e_law_draw) rfl
  exact ⟨fd, FnM.trim (fn_okD (k := 1) F sc_law_draw (fun cdv hcd A outer s H E hr tk hp => by
    have sc := sc_law_draw
    exact (ms_cons (ms_set (i := 2) sc.nd rfl (Or.inl rfl) (me_ix hr.units (me_var 0) (me_str [115, 112, 111, 116]))) (ms_cons (ms_sub hr.units (me_var 0) (me_str [115, 112, 111, 116]) (me_op om_add (me_var 2) me_int)) (ms_cons (ms_if (mt_cmp (om_ne hr.units) (me_ix hr.units (me_var 0) (me_str [103, 114, 101, 97, 116])) (me_lst ma_nil)) (ms_cons (ms_set (i := 3) sc.nd rfl (Or.inl rfl) (me_ix hr.units (me_var 0) (me_str [103, 114, 101, 97, 116]))) (ms_cons (ms_set (i := 4) sc.nd rfl (Or.inl rfl) (me_op om_mod (me_callTy cm_int rfl (z_int T) (by decide +kernel) (ma_cons (me_var 2) ma_nil)) (me_callB cm_len rfl (z_len T) (by decide +kernel) (ma_cons (me_var 3) ma_nil)))) (ms_cons (ms_set (i := 5) sc.nd rfl (Or.inl rfl) (me_ix hr.units (me_var 3) (me_var 4))) (ms_one (ms_if (mt_cmp om_gt (me_var 5) me_int) (ms_cons (ms_sub hr.units (me_var 3) (me_var 4) (me_op om_fdiv (me_var 5) (me_var 1))) (ms_one (ms_ret (me_op om_mod (me_callTy cm_int rfl (z_int T) (by decide +kernel) (ma_cons (me_var 5) ma_nil)) (me_var 1))))) ms_nil))))) ms_nil) (ms_cons (ms_set (i := 3) sc.nd rfl (Or.inl rfl) (me_ix hr.units (me_var 0) (me_str [99, 101, 108, 108, 115]))) (ms_one (ms_ret (me_op om_mod (me_callTy cm_int rfl (z_int T) (by decide +kernel) (ma_cons (me_call (d_law_mixed T) tk hr rfl (ma_cons (me_call (d_law_mixed T) tk hr rfl (ma_cons (me_op om_add (me_ix hr.units (me_var 3) (me_op om_mod (me_callTy cm_int rfl (z_int T) (by decide +kernel) (ma_cons (me_var 2) ma_nil)) me_int)) (me_op om_mul me_int (me_op om_fdiv (me_var 2) me_int))) (ma_cons (me_var 2) ma_nil))) (ma_cons (me_op om_add (me_var 2) me_int) ma_nil))) ma_nil)) (me_var 1)))))))))), F.bindsN (ps := ["_law_m", "_law_limit"]) fun _ _ _ _ _ _ us hl => match us, hl with | [_, _], _ => rfl, F.kp⟩
theorem d_law_draw (T : Txt P w K mg base h) : Fn P w K mg base "_law_draw" 2 2 m_law_draw := by
  obtain ⟨fd, F, b, kp⟩ := o_law_draw (P := P) (base := base) T
  exact ⟨_, fd, _, rfl, F, He.glo_ok T.kin T.glob (T.says.t.d.fact 3 (f := .glo "_law_draw") rfl), kp, b⟩
theorem o_law_book (T : Txt P w K mg base h) : ∃ fd, FnM P w K mg base 3 (He.fAd K e_law_book.at_) fd ["_law_m"] m_law_book ∧ Binds K fd ["_law_m"] [] ∧ PySem.W.keepIn K (.ref (He.fAd K e_law_book.at_)) = true := by
  obtain ⟨fd, F⟩ := T.says.t.d.def_ 4 (d := e_law_book) rfl
  exact ⟨fd, FnM.trimV (fn_okD (k := 2) F sc_law_book (fun cdv hcd A outer s H E hr tk hp => by
    have sc := sc_law_book
    exact (ms_cons (ms_set (i := 1) sc.nd rfl (Or.inl rfl) (me_lstV (ma_cons (me_lstV (ma_cons (me_str [97, 108, 119, 97, 121, 115]) (ma_cons (me_str [102, 114, 101, 101]) (ma_cons (me_str [110, 101, 118, 101, 114]) ma_nil)))) (ma_cons (me_lstV (ma_cons (me_str [97, 108, 119, 97, 121, 115]) (ma_cons (me_str [97, 112, 97, 114, 116]) (ma_cons (me_str [110, 101, 118, 101, 114]) ma_nil)))) (ma_cons (me_lstV (ma_cons (me_str [115, 97, 109, 101]) (ma_cons (me_str [110, 111, 110, 101]) ma_nil))) (ma_cons (me_lstV (ma_cons (me_str [111, 119, 110]) (ma_cons (me_str [97, 110, 121]) (ma_cons (me_str [110, 101, 118, 101, 114]) ma_nil)))) ma_nil)))))) (ms_cons (ms_set (i := 1) sc.nd rfl (Or.inl rfl) (me_op om_addV (me_var 1) (me_lstV (ma_cons (me_lstV (ma_cons (me_str [111, 119, 110]) (ma_cons (me_str [97, 110, 121]) (ma_cons (me_str [111, 110, 101]) ma_nil)))) (ma_cons (me_lstV (ma_cons (me_str [110, 101, 118, 101, 114]) (ma_cons (me_str [108, 105, 110, 101]) ma_nil))) ma_nil))))) (ms_one (ms_ret (me_callTy cm_tuple rfl (z_tuple T) (by decide +kernel) (ma_cons (me_lcV (own := [("_law_row", 2)]) (t := (.one 2)) rfl sc.nd (mi_seq (me_var 1)) (blkOk_by (own := [("_law_row", 2)]) (N := N_law_book) (sc := defScope s_law_book) (by decide +kernel)) (by decide) (fun _ _ _ _ _ => (pg_name (i := 2) sc.nd rfl (Or.inl rfl))) (fun _ _ _ _ _ => mts_nil) (fun _ _ _ _ _ => (me_ix hr.units (me_var 2) (me_call (d_law_draw T) takes0 hr rfl (ma_cons (me_var 0) (ma_cons (me_callB cm_len rfl (z_len T) (by decide +kernel) (ma_cons (me_var 2) ma_nil)) ma_nil)))))) ma_nil)))))))), F.bindsN (ps := ["_law_m"]) fun _ _ _ _ _ _ us hl => match us, hl with | [_], _ => rfl, F.kp⟩
theorem d_law_book (T : Txt P w K mg base h) : Fn P w K mg base "_law_book" 3 1 m_law_book := by
  obtain ⟨fd, F, b, kp⟩ := o_law_book (P := P) (base := base) T
  exact ⟨_, fd, _, rfl, F, He.glo_ok T.kin T.glob (T.says.t.d.fact 4 (f := .glo "_law_book") rfl), kp, b⟩
theorem o_law_like (T : Txt P w K mg base h) : ∃ fd, FnM P w K mg base 1 (He.fAd K e_law_like.at_) fd ["_law_heard", "_law_due"] m_law_like ∧ Binds K fd ["_law_heard", "_law_due"] [] ∧ PySem.W.keepIn K (.ref (He.fAd K e_law_like.at_)) = true := by
  obtain ⟨fd, F⟩ := T.says.t.d.def_ 5 (d := e_law_like) rfl
  exact ⟨fd, FnM.pureV (fn_okD (k := 0) F sc_law_like (fun cdv hcd A outer s H E hr tk hp => by
    have sc := sc_law_like
    exact (ms_one (ms_ret (me_cmp (om_eq hr.units) (me_callB (cm_repr hr) rfl (z_repr T) (by decide +kernel) (ma_cons (me_var 0) ma_nil)) (me_callB (cm_repr hr) rfl (z_repr T) (by decide +kernel) (ma_cons (me_var 1) ma_nil))))))), F.bindsN (ps := ["_law_heard", "_law_due"]) fun _ _ _ _ _ _ us hl => match us, hl with | [_, _], _ => rfl, F.kp⟩
theorem d_law_like (T : Txt P w K mg base h) : Fn P w K mg base "_law_like" 1 2 m_law_like := by
  obtain ⟨fd, F, b, kp⟩ := o_law_like (P := P) (base := base) T
  exact ⟨_, fd, _, rfl, F, He.glo_ok T.kin T.glob (T.says.t.d.fact 5 (f := .glo "_law_like") rfl), kp, b⟩
theorem o_need_book (T : Txt P w K mg base h) : ∃ fd, FnM P w K mg base 2 (He.fAd K e_need_book.at_) fd ["book"] m_need_book ∧ Binds K fd ["book"] [] ∧ PySem.W.keepIn K (.ref (He.fAd K e_need_book.at_)) = true := by
  obtain ⟨fd, F⟩ := T.says.t.d.def_ 6 (d := e_need_book) rfl
  exact ⟨fd, fn_okD (k := 1) F sc_need_book (fun cdv hcd A outer s H E hr tk hp => by
    have sc := sc_need_book
    exact (ms_cons (ms_if (mt_w (mw_or (mt_not (mt_val (me_callB cm_isi rfl (z_isinstance T) (by decide +kernel) (ma_cons (me_var 0) (ma_cons (me_ty (t := .tuple) rfl (z_tuple T) (by decide +kernel)) ma_nil))))) (mw_or1 (mt_cmp (om_ne hr.units) (me_callB cm_len rfl (z_len T) (by decide +kernel) (ma_cons (me_var 0) ma_nil)) (me_callB cm_len rfl (z_len T) (by decide +kernel) (ma_cons (me_glob rfl (c_CHOICES T)) ma_nil)))))) (ms_one (ms_raise (c := n_BadBook) (ff := f_place) ((T.exx).xcs (by decide +kernel)) tk hr rfl (ma_cons me_non ma_nil))) ms_nil) (ms_cons (ms_for hp rfl (mi_enum rfl (z_enumerate T) (ma_cons (me_var 0) ma_nil)) (mg_tup rfl (mgs_cons (mg_name (i := 1) sc.nd rfl (Or.inl rfl)) (mgs_cons (mg_name (i := 2) sc.nd rfl (Or.inl rfl)) mgs_nil))) (ms_one (ms_if (mt_w (mw_or (mt_not (mt_val (me_callB cm_isi rfl (z_isinstance T) (by decide +kernel) (ma_cons (me_var 2) (ma_cons (me_ty (t := .str) rfl (z_str T) (by decide +kernel)) ma_nil))))) (mw_or1 (mt_cmp (om_notin hr.units) (me_var 2) (me_ix hr.units (me_glob rfl (c_CHOICES T)) (me_var 1)))))) (ms_one (ms_raise (c := n_BadBook) (ff := f_place) ((T.exx).xcs (by decide +kernel)) tk hr rfl (ma_cons (me_var 1) ma_nil))) ms_nil))) (ms_one (ms_ret (me_var 0)))))), F.bindsN (ps := ["book"]) fun _ _ _ _ _ _ us hl => match us, hl with | [_], _ => rfl, F.kp⟩
theorem d_need_book (T : Txt P w K mg base h) : Fn P w K mg base "need_book" 2 1 m_need_book := by
  obtain ⟨fd, F, b, kp⟩ := o_need_book (P := P) (base := base) T
  exact ⟨_, fd, _, rfl, F, He.glo_ok T.kin T.glob (T.says.t.d.fact 6 (f := .glo "need_book") rfl), kp, b⟩
theorem o_need_flags (T : Txt P w K mg base h) : ∃ fd, FnM P w K mg base 2 (He.fAd K e_need_flags.at_) fd ["flags"] m_need_flags ∧ Binds K fd ["flags"] [] ∧ PySem.W.keepIn K (.ref (He.fAd K e_need_flags.at_)) = true := by
  obtain ⟨fd, F⟩ := T.says.t.d.def_ 7 (d := e_need_flags) rfl
  exact ⟨fd, fn_okD (k := 1) F sc_need_flags (fun cdv hcd A outer s H E hr tk hp => by
    have sc := sc_need_flags
    exact (ms_cons (ms_if (mt_w (mw_or (mt_not (mt_val (me_callB cm_isi rfl (z_isinstance T) (by decide +kernel) (ma_cons (me_var 0) (ma_cons (me_ty (t := .tuple) rfl (z_tuple T) (by decide +kernel)) ma_nil))))) (mw_or (mt_cmp (om_ne hr.units) (me_callB cm_len rfl (z_len T) (by decide +kernel) (ma_cons (me_var 0) ma_nil)) me_int) (mw_or1 (mt_not (mt_val (me_callB (cm_all rfl) rfl (z_all T) (by decide +kernel) (ma_cons (me_lcV (own := [("word", 1)]) (t := (.one 1)) rfl sc.nd (mi_seq (me_var 0)) (blkOk_by (own := [("word", 1)]) (N := N_need_flags) (sc := defScope s_need_flags) (by decide +kernel)) (by decide) (fun _ _ _ _ _ => (pg_name (i := 1) sc.nd rfl (Or.inl rfl))) (fun _ _ _ _ _ => mts_nil) (fun _ _ _ _ _ => (me_callB cm_isi rfl (z_isinstance T) (by decide +kernel) (ma_cons (me_var 1) (ma_cons (me_ty (t := .bool) rfl (z_bool T) (by decide +kernel)) ma_nil))))) ma_nil)))))))) (ms_one (ms_raise (c := n_BadFlags) (ff := f_value) ((T.exx).xcs (by decide +kernel)) tk hr rfl (ma_cons (me_var 0) ma_nil))) ms_nil) (ms_one (ms_ret (me_var 0))))), F.bindsN (ps := ["flags"]) fun _ _ _ _ _ _ us hl => match us, hl with | [_], _ => rfl, F.kp⟩
theorem d_need_flags (T : Txt P w K mg base h) : Fn P w K mg base "need_flags" 2 1 m_need_flags := by
  obtain ⟨fd, F, b, kp⟩ := o_need_flags (P := P) (base := base) T
  exact ⟨_, fd, _, rfl, F, He.glo_ok T.kin T.glob (T.says.t.d.fact 7 (f := .glo "need_flags") rfl), kp, b⟩
theorem o_rests_of (T : Txt P w K mg base h) : ∃ fd, FnM P w K mg base 1 (He.fAd K e_rests_of.at_) fd ["flags"] m_rests_of ∧ Binds K fd ["flags"] [] ∧ PySem.W.keepIn K (.ref (He.fAd K e_rests_of.at_)) = true := by
  obtain ⟨fd, F⟩ := T.says.t.d.def_ 8 (d := e_rests_of) rfl
  exact ⟨fd, fn_okD (k := 0) F sc_rests_of (fun cdv hcd A outer s H E hr tk hp => by
    have sc := sc_rests_of
    exact (ms_one (ms_ret (me_if (mt_val (me_ix hr.units (me_var 0) me_int)) (me_glob rfl (c_RESTS T)) (me_tup (ma_cons (me_str []) ma_nil)))))), F.bindsN (ps := ["flags"]) fun _ _ _ _ _ _ us hl => match us, hl with | [_], _ => rfl, F.kp⟩
theorem d_rests_of (T : Txt P w K mg base h) : Fn P w K mg base "rests_of" 1 1 m_rests_of := by
  obtain ⟨fd, F, b, kp⟩ := o_rests_of (P := P) (base := base) T
  exact ⟨_, fd, _, rfl, F, He.glo_ok T.kin T.glob (T.says.t.d.fact 8 (f := .glo "rests_of") rfl), kp, b⟩
theorem o_Stand_key (T : Txt P w K mg base h) : ∃ fd, FnM P w K mg base 1 (He.fAd K e_Stand_key.at_) fd ["self"] m_Stand_key ∧ Binds K fd ["self"] [] ∧ PySem.W.keepIn K (.ref (He.fAd K e_Stand_key.at_)) = true := by
  obtain ⟨fd, F⟩ := T.says.t.d.def_ 9 (d := e_Stand_key) rfl
  exact ⟨fd, fn_okD (k := 0) F sc_Stand_key (fun cdv hcd A outer s H E hr tk hp => by
    have sc := sc_Stand_key
    exact (ms_one (ms_ret (me_tup (ma_cons (me_fld (cs := [n_Stand]) (f := f_before) (h_before T) (me_var 0)) (ma_cons (me_fld (cs := [n_Stand]) (f := f_is_odd) (h_is_odd T) (me_var 0)) (ma_cons (me_fld (cs := [n_Stand]) (f := f_following) (h_following T) (me_var 0)) (ma_cons (me_fld (cs := [n_Stand]) (f := f_is_put) (h_is_put T) (me_var 0)) (ma_cons (me_fld (cs := [n_Stand]) (f := f_is_aged) (h_is_aged T) (me_var 0)) (ma_cons (me_fld (cs := [n_Stand]) (f := f_held) (h_held T) (me_var 0)) ma_nil)))))))))), F.bindsN (ps := ["self"]) fun _ _ _ _ _ _ us hl => match us, hl with | [_], _ => rfl, F.kp⟩
theorem t_Stand_key (T : Txt P w K mg base h) : Mt P w K mg base (S n_Stand) (S x_key) 1 1 m_Stand_key := by
  obtain ⟨fd, F, b, kp⟩ := o_Stand_key (P := P) (base := base) T
  have hx : S x_key = "key" := by decide +kernel
  exact ⟨_, _, fd, _, rfl, F, by rw [show S n_Stand = "Stand" by decide +kernel]; exact He.glo_ok T.kin T.glob (T.says.t.d.fact 32 (f := .glo "Stand") rfl), He.cls_ok (T.says.t.d.fact 33 (f := .cls "Stand") rfl), by rw [hx]; exact He.meth_ok (T.says.t.d.fact 35 (f := .meth "Stand" "key") rfl), b⟩
theorem o_Heads_come (T : Txt P w K mg base h) : ∃ fd, FnM P w K mg base 2 (He.fAd K e_Heads_come.at_) fd ["self", "level", "stand"] m_Heads_come ∧ Binds K fd ["self", "level", "stand"] [] ∧ PySem.W.keepIn K (.ref (He.fAd K e_Heads_come.at_)) = true := by
  obtain ⟨fd, F⟩ := T.says.t.d.def_ 10 (d := e_Heads_come) rfl
  exact ⟨fd, fn_okD (k := 1) F sc_Heads_come (fun cdv hcd A outer s H E hr tk hp => by
    have sc := sc_Heads_come
    exact (ms_cons (ms_set (i := 3) sc.nd rfl (Or.inl rfl) (me_tup (ma_cons (me_var 1) (ma_cons (me_meth0 (cc := n_Stand) (xx := x_key) (t_Stand_key T) tk hr (me_var 2)) ma_nil)))) (ms_one (ms_if (mt_cmp (om_notin hr.units) (me_var 3) (me_fld (cs := [n_Heads]) (f := f_known) (h_known T) (me_var 0))) (ms_cons (ms_sub hr.units (me_fld (cs := [n_Heads]) (f := f_known) (h_known T) (me_var 0)) (me_var 3) me_bl) (ms_one (ms_expr (me_bm (t := .list) PySem.F.plainAttrs_list PySem.F.slot_list_append PySem.F.type_list_append mm_append (me_fld (cs := [n_Heads]) (f := f_waiting) (h_waiting T) (me_var 0)) (ma_cons (me_tup (ma_cons (me_var 1) (ma_cons (me_var 2) ma_nil))) ma_nil))))) ms_nil)))), F.bindsN (ps := ["self", "level", "stand"]) fun _ _ _ _ _ _ us hl => match us, hl with | [_, _, _], _ => rfl, F.kp⟩
theorem t_Heads_come (T : Txt P w K mg base h) : Mt P w K mg base (S n_Heads) (S x_come) 2 3 m_Heads_come := by
  obtain ⟨fd, F, b, kp⟩ := o_Heads_come (P := P) (base := base) T
  have hx : S x_come = "come" := by decide +kernel
  exact ⟨_, _, fd, _, rfl, F, by rw [show S n_Heads = "Heads" by decide +kernel]; exact He.glo_ok T.kin T.glob (T.says.t.d.fact 42 (f := .glo "Heads") rfl), He.cls_ok (T.says.t.d.fact 43 (f := .cls "Heads") rfl), by rw [hx]; exact He.meth_ok (T.says.t.d.fact 45 (f := .meth "Heads" "come") rfl), b⟩
theorem o_Stand_strikes (T : Txt P w K mg base h) : ∃ fd, FnM P w K mg base 1 (He.fAd K e_Stand_strikes.at_) fd ["self", "has_slips"] m_Stand_strikes ∧ Binds K fd ["self", "has_slips"] [] ∧ PySem.W.keepIn K (.ref (He.fAd K e_Stand_strikes.at_)) = true := by
  obtain ⟨fd, F⟩ := T.says.t.d.def_ 11 (d := e_Stand_strikes) rfl
  exact ⟨fd, fn_okD (k := 0) F sc_Stand_strikes (fun cdv hcd A outer s H E hr tk hp => by
    have sc := sc_Stand_strikes
    exact (ms_cons (ms_if (mt_cmp (om_ne hr.units) (me_fld (cs := [n_Stand]) (f := f_held) (h_held T) (me_var 0)) (me_tup ma_nil)) (ms_one (ms_ret (me_lstV (ma_cons (me_tup (ma_cons (me_glob rfl (c_BACK T)) (ma_cons me_bl ma_nil))) ma_nil)))) ms_nil) (ms_cons (ms_setLcV (i := 2) (own := [("sign", 3)]) (t := (.one 3)) rfl sc.nd rfl rfl (sw_true rfl rfl rfl (by decide +kernel)) (mi_seq (me_glob rfl (c_STRUCK T))) (blkOk_by (own := [("sign", 3)]) (N := N_Stand_strikes) (sc := defScope s_Stand_strikes) (by decide +kernel)) (by decide) (fun _ _ _ _ _ => (pg_name (i := 3) sc.nd rfl (Or.inl rfl))) (fun _ _ _ _ _ => mts_nil) (fun _ _ _ _ _ => (me_tup (ma_cons (me_var 3) (ma_cons me_bl ma_nil))))) (ms_one (ms_ret (me_op om_addV (me_var 2) (me_if (mt_val (me_var 1)) (me_lcV (own := [("sign", 3)]) (t := (.one 3)) rfl sc.nd (mi_seq (me_glob rfl (c_STRUCK T))) (blkOk_by (own := [("sign", 3)]) (N := N_Stand_strikes) (sc := defScope s_Stand_strikes) (by decide +kernel)) (by decide) (fun _ _ _ _ _ => (pg_name (i := 3) sc.nd rfl (Or.inl rfl))) (fun _ _ _ _ _ => mts_nil) (fun _ _ _ _ _ => (me_tup (ma_cons (me_var 3) (ma_cons me_bl ma_nil))))) (me_lstV ma_nil)))))))), F.bindsN (ps := ["self", "has_slips"]) fun _ _ _ _ _ _ us hl => match us, hl with | [_, _], _ => rfl, F.kp⟩
theorem t_Stand_strikes (T : Txt P w K mg base h) : Mt P w K mg base (S n_Stand) (S x_strikes) 1 2 m_Stand_strikes := by
  obtain ⟨fd, F, b, kp⟩ := o_Stand_strikes (P := P) (base := base) T
  have hx : S x_strikes = "strikes" := by decide +kernel
  exact ⟨_, _, fd, _, rfl, F, by rw [show S n_Stand = "Stand" by decide +kernel]; exact He.glo_ok T.kin T.glob (T.says.t.d.fact 32 (f := .glo "Stand") rfl), He.cls_ok (T.says.t.d.fact 33 (f := .cls "Stand") rfl), by rw [hx]; exact He.meth_ok (T.says.t.d.fact 36 (f := .meth "Stand" "strikes") rfl), b⟩
theorem o_left_with (T : Txt P w K mg base h) : ∃ fd, FnM P w K mg base 1 (He.fAd K e_left_with.at_) fd ["before", "is_odd"] m_left_with ∧ Binds K fd ["before", "is_odd"] [] ∧ PySem.W.keepIn K (.ref (He.fAd K e_left_with.at_)) = true := by
  obtain ⟨fd, F⟩ := T.says.t.d.def_ 12 (d := e_left_with) rfl
  exact ⟨fd, fn_okD (k := 0) F sc_left_with (fun cdv hcd A outer s H E hr tk hp => by
    have sc := sc_left_with
    exact (ms_cons (ms_if (mt_cmp (om_eq hr.units) (me_var 0) (me_glob rfl (c_QUOTE T))) (ms_one (ms_ret (me_if (mt_val (me_var 1)) (me_glob rfl (c_QUOTE T)) (me_op om_addV (me_glob rfl (c_QUOTE T)) (me_glob rfl (c_QUOTE T)))))) ms_nil) (ms_one (ms_ret (me_op om_addV (me_if (mt_val (me_var 1)) (me_glob rfl (c_QUOTE T)) (me_str [])) (me_var 0)))))), F.bindsN (ps := ["before", "is_odd"]) fun _ _ _ _ _ _ us hl => match us, hl with | [_, _], _ => rfl, F.kp⟩
theorem d_left_with (T : Txt P w K mg base h) : Fn P w K mg base "left_with" 1 2 m_left_with := by
  obtain ⟨fd, F, b, kp⟩ := o_left_with (P := P) (base := base) T
  exact ⟨_, fd, _, rfl, F, He.glo_ok T.kin T.glob (T.says.t.d.fact 9 (f := .glo "left_with") rfl), kp, b⟩
theorem o_Page___init__ (T : Txt P w K mg base h) : ∃ fd, FnM P w K mg base 1 (He.fAd K e_Page___init__.at_) fd ["self", "page"] m_Page___init__ ∧ Binds K fd ["self", "page"] [] ∧ PySem.W.keepIn K (.ref (He.fAd K e_Page___init__.at_)) = true := by
  obtain ⟨fd, F⟩ := T.says.t.d.def_ 13 (d := e_Page___init__) rfl
  exact ⟨fd, fn_okD (k := 0) F sc_Page___init__ (fun cdv hcd A outer s H E hr tk hp => by
    have sc := sc_Page___init__
    exact (ms_cons (ms_fld (cs := [n_Page]) (f := f_left) (h_left T) (me_var 0) (me_ix hr.units (me_var 1) me_int)) (ms_one (ms_fld (cs := [n_Page]) (f := f_right) (h_right T) (me_var 0) (me_rev (me_lcV (own := [("place", 2), ("sign", 3)]) (t := (.row [2, 3])) rfl sc.nd (mi_enum rfl (z_enumerate T) (ma_cons (me_ix hr.units (me_var 1) me_int) ma_nil)) (blkOk_by (own := [("place", 2), ("sign", 3)]) (N := N_Page___init__) (sc := defScope s_Page___init__) (by decide +kernel)) (by decide) (fun _ _ _ _ _ => (pg_tup rfl (pgs_cons (pg_name (i := 2) sc.nd rfl (Or.inl rfl)) (pgs_cons (pg_name (i := 3) sc.nd rfl (Or.inl rfl)) pgs_nil)))) (fun _ _ _ _ _ => mts_nil) (fun _ _ _ _ _ => (me_tup (ma_cons (me_var 3) (ma_cons (me_cmp (om_in hr.units) (me_var 2) (me_ix hr.units (me_var 1) me_int)) ma_nil)))))))))), F.bindsN (ps := ["self", "page"]) fun _ _ _ _ _ _ us hl => match us, hl with | [_, _], _ => rfl, F.kp⟩
theorem k_Page (T : Txt P w K mg base h) : Mkr P w K mg base (S n_Page) 1 2 m_Page___init__ := by
  obtain ⟨fd, F, b, kp⟩ := o_Page___init__ (P := P) (base := base) T
  exact ⟨_, _, fd, _, rfl, F, by rw [show S n_Page = "Page" by decide +kernel]; exact He.glo_ok T.kin T.glob (T.says.t.d.fact 21 (f := .glo "Page") rfl), He.mkr_ok (T.says.t.d.fact 23 (f := .mkr "Page") rfl), b⟩
theorem o_Stand_page_by (T : Txt P w K mg base h) : ∃ fd, FnM P w K mg base 3 (He.fAd K e_Stand_page_by.at_) fd ["self", "book"] m_Stand_page_by ∧ Binds K fd ["self", "book"] [] ∧ PySem.W.keepIn K (.ref (He.fAd K e_Stand_page_by.at_)) = true := by
  obtain ⟨fd, F⟩ := T.says.t.d.def_ 14 (d := e_Stand_page_by) rfl
  exact ⟨fd, fn_okD (k := 2) F sc_Stand_page_by (fun cdv hcd A outer s H E hr tk hp => by
    have sc := sc_Stand_page_by
    exact (ms_cons (ms_set (i := 2) sc.nd rfl (Or.inl rfl) (me_and (me_fld (cs := [n_Stand]) (f := f_is_put) (h_is_put T) (me_var 0)) (me_one (me_or (me_cmp (om_ne hr.units) (me_ix hr.units (me_var 1) me_int) (me_glob rfl (c_AT_LINES T))) (me_one (me_not (me_fld (cs := [n_Stand]) (f := f_is_aged) (h_is_aged T) (me_var 0)))))))) (ms_cons (ms_set (i := 3) sc.nd rfl (Or.inl rfl) (me_call (d_left_with T) tk hr rfl (ma_cons (me_fld (cs := [n_Stand]) (f := f_before) (h_before T) (me_var 0)) (ma_cons (me_fld (cs := [n_Stand]) (f := f_is_odd) (h_is_odd T) (me_var 0)) ma_nil)))) (ms_cons (ms_if (mt_cmp (om_ne hr.units) (me_fld (cs := [n_Stand]) (f := f_held) (h_held T) (me_var 0)) (me_tup ma_nil)) (ms_one (ms_set (i := 3) sc.nd rfl (Or.inl rfl) (me_op om_addV (me_call (d_left_with T) tk hr rfl (ma_cons (me_ix hr.units (me_fld (cs := [n_Stand]) (f := f_held) (h_held T) (me_var 0)) me_int) (ma_cons (me_ix hr.units (me_fld (cs := [n_Stand]) (f := f_held) (h_held T) (me_var 0)) me_int) ma_nil))) (me_ix hr.units (me_fld (cs := [n_Stand]) (f := f_held) (h_held T) (me_var 0)) me_int)))) ms_nil) (ms_one (ms_ret (me_make (cc := n_Page) (k_Page T) tk hr rfl (ma_cons (me_tup (ma_cons (me_var 3) (ma_cons (me_fld (cs := [n_Stand]) (f := f_following) (h_following T) (me_var 0)) (ma_cons (me_if (mt_val (me_var 2)) (me_tup (ma_cons me_int ma_nil)) (me_tup ma_nil)) ma_nil)))) ma_nil)))))))), F.bindsN (ps := ["self", "book"]) fun _ _ _ _ _ _ us hl => match us, hl with | [_, _], _ => rfl, F.kp⟩
theorem t_Stand_page_by (T : Txt P w K mg base h) : Mt P w K mg base (S n_Stand) (S x_page_by) 3 2 m_Stand_page_by := by
  obtain ⟨fd, F, b, kp⟩ := o_Stand_page_by (P := P) (base := base) T
  have hx : S x_page_by = "page_by" := by decide +kernel
  exact ⟨_, _, fd, _, rfl, F, by rw [show S n_Stand = "Stand" by decide +kernel]; exact He.glo_ok T.kin T.glob (T.says.t.d.fact 32 (f := .glo "Stand") rfl), He.cls_ok (T.says.t.d.fact 33 (f := .cls "Stand") rfl), by rw [hx]; exact He.meth_ok (T.says.t.d.fact 37 (f := .meth "Stand" "page_by") rfl), b⟩
theorem o_closer_of (T : Txt P w K mg base h) : ∃ fd, FnM P w K mg base 1 (He.fAd K e_closer_of.at_) fd ["sign"] m_closer_of ∧ Binds K fd ["sign"] [] ∧ PySem.W.keepIn K (.ref (He.fAd K e_closer_of.at_)) = true := by
  obtain ⟨fd, F⟩ := T.says.t.d.def_ 15 (d := e_closer_of) rfl
  exact ⟨fd, fn_okD (k := 0) F sc_closer_of (fun cdv hcd A outer s H E hr tk hp => by
    have sc := sc_closer_of
    exact (ms_cons (ms_if (mt_cmp (om_eq hr.units) (me_var 0) (me_glob rfl (c_QUOTE T))) (ms_one (ms_ret (me_glob rfl (c_QUOTE T)))) ms_nil) (ms_one (ms_ret (me_if (mt_w (mw_and (mt_cmp (om_ne hr.units) (me_var 0) (me_str [])) (mw_and1 (mt_cmp (om_in hr.units) (me_var 0) (me_glob rfl (c_OPENERS T)))))) (me_ix hr.units (me_glob rfl (c_CLOSERS T)) (me_bm (t := .str) PySem.F.plainAttrs_str PySem.F.slot_str_index PySem.F.type_str_index mm_index (me_glob rfl (c_OPENERS T)) (ma_cons (me_var 0) ma_nil))) (me_str [])))))), F.bindsN (ps := ["sign"]) fun _ _ _ _ _ _ us hl => match us, hl with | [_], _ => rfl, F.kp⟩
theorem d_closer_of (T : Txt P w K mg base h) : Fn P w K mg base "closer_of" 1 1 m_closer_of := by
  obtain ⟨fd, F, b, kp⟩ := o_closer_of (P := P) (base := base) T
  exact ⟨_, fd, _, rfl, F, He.glo_ok T.kin T.glob (T.says.t.d.fact 10 (f := .glo "closer_of") rfl), kp, b⟩
theorem o_Page_next_sign (T : Txt P w K mg base h) : ∃ fd, FnM P w K mg base 1 (He.fAd K e_Page_next_sign.at_) fd ["self"] m_Page_next_sign ∧ Binds K fd ["self"] [] ∧ PySem.W.keepIn K (.ref (He.fAd K e_Page_next_sign.at_)) = true := by
  obtain ⟨fd, F⟩ := T.says.t.d.def_ 16 (d := e_Page_next_sign) rfl
  exact ⟨fd, fn_okD (k := 0) F sc_Page_next_sign (fun cdv hcd A outer s H E hr tk hp => by
    have sc := sc_Page_next_sign
    exact (ms_one (ms_ret (me_if (mt_cmp (om_ne hr.units) (me_fld (cs := [n_Page]) (f := f_right) (h_right T) (me_var 0)) (me_lstV ma_nil)) (me_ix hr.units (me_ix hr.units (me_fld (cs := [n_Page]) (f := f_right) (h_right T) (me_var 0)) (me_neg me_int)) me_int) (me_str []))))), F.bindsN (ps := ["self"]) fun _ _ _ _ _ _ us hl => match us, hl with | [_], _ => rfl, F.kp⟩
theorem t_Page_next_sign (T : Txt P w K mg base h) : Mt P w K mg base (S n_Page) (S x_next_sign) 1 1 m_Page_next_sign := by
  obtain ⟨fd, F, b, kp⟩ := o_Page_next_sign (P := P) (base := base) T
  have hx : S x_next_sign = "next_sign" := by decide +kernel
  exact ⟨_, _, fd, _, rfl, F, by rw [show S n_Page = "Page" by decide +kernel]; exact He.glo_ok T.kin T.glob (T.says.t.d.fact 21 (f := .glo "Page") rfl), He.cls_ok (T.says.t.d.fact 22 (f := .cls "Page") rfl), by rw [hx]; exact He.meth_ok (T.says.t.d.fact 25 (f := .meth "Page" "next_sign") rfl), b⟩
theorem o_Page_is_next_own (T : Txt P w K mg base h) : ∃ fd, FnM P w K mg base 1 (He.fAd K e_Page_is_next_own.at_) fd ["self"] m_Page_is_next_own ∧ Binds K fd ["self"] [] ∧ PySem.W.keepIn K (.ref (He.fAd K e_Page_is_next_own.at_)) = true := by
  obtain ⟨fd, F⟩ := T.says.t.d.def_ 17 (d := e_Page_is_next_own) rfl
  exact ⟨fd, fn_okD (k := 0) F sc_Page_is_next_own (fun cdv hcd A outer s H E hr tk hp => by
    have sc := sc_Page_is_next_own
    exact (ms_one (ms_ret (me_and (me_cmp (om_ne hr.units) (me_fld (cs := [n_Page]) (f := f_right) (h_right T) (me_var 0)) (me_lstV ma_nil)) (me_one (me_ix hr.units (me_ix hr.units (me_fld (cs := [n_Page]) (f := f_right) (h_right T) (me_var 0)) (me_neg me_int)) me_int)))))), F.bindsN (ps := ["self"]) fun _ _ _ _ _ _ us hl => match us, hl with | [_], _ => rfl, F.kp⟩
theorem t_Page_is_next_own (T : Txt P w K mg base h) : Mt P w K mg base (S n_Page) (S x_is_next_own) 1 1 m_Page_is_next_own := by
  obtain ⟨fd, F, b, kp⟩ := o_Page_is_next_own (P := P) (base := base) T
  have hx : S x_is_next_own = "is_next_own" := by decide +kernel
  exact ⟨_, _, fd, _, rfl, F, by rw [show S n_Page = "Page" by decide +kernel]; exact He.glo_ok T.kin T.glob (T.says.t.d.fact 21 (f := .glo "Page") rfl), He.cls_ok (T.says.t.d.fact 22 (f := .cls "Page") rfl), by rw [hx]; exact He.meth_ok (T.says.t.d.fact 26 (f := .meth "Page" "is_next_own") rfl), b⟩
theorem o_Page_go_back (T : Txt P w K mg base h) : ∃ fd, FnM P w K mg base 2 (He.fAd K e_Page_go_back.at_) fd ["self", "book"] m_Page_go_back ∧ Binds K fd ["self", "book"] [] ∧ PySem.W.keepIn K (.ref (He.fAd K e_Page_go_back.at_)) = true := by
  obtain ⟨fd, F⟩ := T.says.t.d.def_ 18 (d := e_Page_go_back) rfl
  exact ⟨fd, fn_okD (k := 1) F sc_Page_go_back (fun cdv hcd A outer s H E hr tk hp => by
    have sc := sc_Page_go_back
    exact (ms_one (ms_if (mt_cmp (om_ne hr.units) (me_fld (cs := [n_Page]) (f := f_left) (h_left T) (me_var 0)) (me_str [])) (ms_cons (ms_set (i := 2) sc.nd rfl (Or.inl rfl) (me_call (d_closer_of T) tk hr rfl (ma_cons (me_ix hr.units (me_fld (cs := [n_Page]) (f := f_left) (h_left T) (me_var 0)) (me_neg me_int)) ma_nil))) (ms_cons (ms_fld (cs := [n_Page]) (f := f_left) (h_left T) (me_var 0) (me_cutV (me_fld (cs := [n_Page]) (f := f_left) (h_left T) (me_var 0)) mo_none (mo_some (me_neg me_int)))) (ms_cons (ms_set (i := 3) sc.nd rfl (Or.inl rfl) (me_and (me_cmp (om_ne hr.units) (me_var 2) (me_str [])) (me_one (me_cmp (om_eq hr.units) (me_meth0 (cc := n_Page) (xx := x_next_sign) (t_Page_next_sign T) tk hr (me_var 0)) (me_var 2))))) (ms_one (ms_if (mt_w (mw_and (mt_val (me_var 3)) (mw_and1 (mt_w (mw_or (mt_cmp (om_eq hr.units) (me_ix hr.units (me_var 1) me_int) (me_glob rfl (c_ANY T))) (mw_or1 (mt_w (mw_and (mt_cmp (om_eq hr.units) (me_ix hr.units (me_var 1) me_int) (me_glob rfl (c_OWN T))) (mw_and1 (mt_val (me_meth0 (cc := n_Page) (xx := x_is_next_own) (t_Page_is_next_own T) tk hr (me_var 0)))))))))))) (ms_one (ms_expr (me_bm0 (t := .list) PySem.F.plainAttrs_list PySem.F.slot_list_pop PySem.F.type_list_pop mm_pop (me_fld (cs := [n_Page]) (f := f_right) (h_right T) (me_var 0))))) ms_nil))))) ms_nil))), F.bindsN (ps := ["self", "book"]) fun _ _ _ _ _ _ us hl => match us, hl with | [_, _], _ => rfl, F.kp⟩
theorem t_Page_go_back (T : Txt P w K mg base h) : Mt P w K mg base (S n_Page) (S x_go_back) 2 2 m_Page_go_back := by
  obtain ⟨fd, F, b, kp⟩ := o_Page_go_back (P := P) (base := base) T
  have hx : S x_go_back = "go_back" := by decide +kernel
  exact ⟨_, _, fd, _, rfl, F, by rw [show S n_Page = "Page" by decide +kernel]; exact He.glo_ok T.kin T.glob (T.says.t.d.fact 21 (f := .glo "Page") rfl), He.cls_ok (T.says.t.d.fact 22 (f := .cls "Page") rfl), by rw [hx]; exact He.meth_ok (T.says.t.d.fact 27 (f := .meth "Page" "go_back") rfl), b⟩
theorem o_Page_go_over (T : Txt P w K mg base h) : ∃ fd, FnM P w K mg base 1 (He.fAd K e_Page_go_over.at_) fd ["self"] m_Page_go_over ∧ Binds K fd ["self"] [] ∧ PySem.W.keepIn K (.ref (He.fAd K e_Page_go_over.at_)) = true := by
  obtain ⟨fd, F⟩ := T.says.t.d.def_ 19 (d := e_Page_go_over) rfl
  exact ⟨fd, fn_okD (k := 0) F sc_Page_go_over (fun cdv hcd A outer s H E hr tk hp => by
    have sc := sc_Page_go_over
    exact (ms_one (ms_if (mt_cmp (om_ne hr.units) (me_fld (cs := [n_Page]) (f := f_right) (h_right T) (me_var 0)) (me_lstV ma_nil)) (ms_one (ms_fldaug (cs := [n_Page]) (f := f_left) (h_left T) im_add (me_var 0) (me_ix hr.units (me_bm0 (t := .list) PySem.F.plainAttrs_list PySem.F.slot_list_pop PySem.F.type_list_pop mm_pop (me_fld (cs := [n_Page]) (f := f_right) (h_right T) (me_var 0))) me_int))) ms_nil))), F.bindsN (ps := ["self"]) fun _ _ _ _ _ _ us hl => match us, hl with | [_], _ => rfl, F.kp⟩
theorem t_Page_go_over (T : Txt P w K mg base h) : Mt P w K mg base (S n_Page) (S x_go_over) 1 1 m_Page_go_over := by
  obtain ⟨fd, F, b, kp⟩ := o_Page_go_over (P := P) (base := base) T
  have hx : S x_go_over = "go_over" := by decide +kernel
  exact ⟨_, _, fd, _, rfl, F, by rw [show S n_Page = "Page" by decide +kernel]; exact He.glo_ok T.kin T.glob (T.says.t.d.fact 21 (f := .glo "Page") rfl), He.cls_ok (T.says.t.d.fact 22 (f := .cls "Page") rfl), by rw [hx]; exact He.meth_ok (T.says.t.d.fact 28 (f := .meth "Page" "go_over") rfl), b⟩
theorem o_is_closing (T : Txt P w K mg base h) : ∃ fd, FnM P w K mg base 1 (He.fAd K e_is_closing.at_) fd ["sign"] m_is_closing ∧ Binds K fd ["sign"] [] ∧ PySem.W.keepIn K (.ref (He.fAd K e_is_closing.at_)) = true := by
  obtain ⟨fd, F⟩ := T.says.t.d.def_ 20 (d := e_is_closing) rfl
  exact ⟨fd, fn_okD (k := 0) F sc_is_closing (fun cdv hcd A outer s H E hr tk hp => by
    have sc := sc_is_closing
    exact (ms_one (ms_ret (me_and (me_cmp (om_ne hr.units) (me_var 0) (me_str [])) (me_one (me_cmp (om_in hr.units) (me_var 0) (me_op om_addV (me_glob rfl (c_CLOSERS T)) (me_glob rfl (c_QUOTE T))))))))), F.bindsN (ps := ["sign"]) fun _ _ _ _ _ _ us hl => match us, hl with | [_], _ => rfl, F.kp⟩
theorem d_is_closing (T : Txt P w K mg base h) : Fn P w K mg base "is_closing" 1 1 m_is_closing := by
  obtain ⟨fd, F, b, kp⟩ := o_is_closing (P := P) (base := base) T
  exact ⟨_, fd, _, rfl, F, He.glo_ok T.kin T.glob (T.says.t.d.fact 11 (f := .glo "is_closing") rfl), kp, b⟩
theorem o_is_within (T : Txt P w K mg base h) : ∃ fd, FnM P w K mg base 1 (He.fAd K e_is_within.at_) fd ["left"] m_is_within ∧ Binds K fd ["left"] [] ∧ PySem.W.keepIn K (.ref (He.fAd K e_is_within.at_)) = true := by
  obtain ⟨fd, F⟩ := T.says.t.d.def_ 21 (d := e_is_within) rfl
  exact ⟨fd, fn_okD (k := 0) F sc_is_within (fun cdv hcd A outer s H E hr tk hp => by
    have sc := sc_is_within
    exact (ms_cons (ms_set (i := 1) sc.nd rfl (Or.inl rfl) (me_bm (t := .str) PySem.F.plainAttrs_str PySem.F.slot_str_count PySem.F.type_str_count mm_count (me_cutV (me_var 0) (mo_some (me_op om_addV (me_bm (t := .str) PySem.F.plainAttrs_str PySem.F.slot_str_rfind PySem.F.type_str_rfind mm_rfind (me_var 0) (ma_cons (me_glob rfl (c_LINE T)) ma_nil)) me_int)) mo_none) (ma_cons (me_glob rfl (c_QUOTE T)) ma_nil))) (ms_one (ms_ret (me_cmp (om_eq hr.units) (me_op om_sub (me_var 1) (me_op om_mulW me_int (me_op om_fdiv (me_var 1) me_int))) me_int))))), F.bindsN (ps := ["left"]) fun _ _ _ _ _ _ us hl => match us, hl with | [_], _ => rfl, F.kp⟩
theorem d_is_within (T : Txt P w K mg base h) : Fn P w K mg base "is_within" 1 1 m_is_within := by
  obtain ⟨fd, F, b, kp⟩ := o_is_within (P := P) (base := base) T
  exact ⟨_, fd, _, rfl, F, He.glo_ok T.kin T.glob (T.says.t.d.fact 12 (f := .glo "is_within") rfl), kp, b⟩
theorem o_is_free (T : Txt P w K mg base h) : ∃ fd, FnM P w K mg base 1 (He.fAd K e_is_free.at_) fd ["sign"] m_is_free ∧ Binds K fd ["sign"] [] ∧ PySem.W.keepIn K (.ref (He.fAd K e_is_free.at_)) = true := by
  obtain ⟨fd, F⟩ := T.says.t.d.def_ 22 (d := e_is_free) rfl
  exact ⟨fd, fn_okD (k := 0) F sc_is_free (fun cdv hcd A outer s H E hr tk hp => by
    have sc := sc_is_free
    exact (ms_one (ms_ret (me_or (me_cmp (om_eq hr.units) (me_var 0) (me_str [])) (me_one (me_cmp (om_in hr.units) (me_var 0) (me_op om_addV (me_op om_addV (me_op om_addV (me_glob rfl (c_CLOSERS T)) (me_glob rfl (c_QUOTE T))) (me_glob rfl (c_BLANK T))) (me_glob rfl (c_LINE T))))))))), F.bindsN (ps := ["sign"]) fun _ _ _ _ _ _ us hl => match us, hl with | [_], _ => rfl, F.kp⟩
theorem d_is_free (T : Txt P w K mg base h) : Fn P w K mg base "is_free" 1 1 m_is_free := by
  obtain ⟨fd, F, b, kp⟩ := o_is_free (P := P) (base := base) T
  exact ⟨_, fd, _, rfl, F, He.glo_ok T.kin T.glob (T.says.t.d.fact 13 (f := .glo "is_free") rfl), kp, b⟩
theorem o_is_letter (T : Txt P w K mg base h) : ∃ fd, FnM P w K mg base 1 (He.fAd K e_is_letter.at_) fd ["sign"] m_is_letter ∧ Binds K fd ["sign"] [] ∧ PySem.W.keepIn K (.ref (He.fAd K e_is_letter.at_)) = true := by
  obtain ⟨fd, F⟩ := T.says.t.d.def_ 23 (d := e_is_letter) rfl
  exact ⟨fd, fn_okD (k := 0) F sc_is_letter (fun cdv hcd A outer s H E hr tk hp => by
    have sc := sc_is_letter
    exact (ms_one (ms_ret (me_and (me_cmp (om_ne hr.units) (me_var 0) (me_str [])) (me_one (me_cmp (om_in hr.units) (me_var 0) (me_glob rfl (c_LETTERS T)))))))), F.bindsN (ps := ["sign"]) fun _ _ _ _ _ _ us hl => match us, hl with | [_], _ => rfl, F.kp⟩
theorem d_is_letter (T : Txt P w K mg base h) : Fn P w K mg base "is_letter" 1 1 m_is_letter := by
  obtain ⟨fd, F, b, kp⟩ := o_is_letter (P := P) (base := base) T
  exact ⟨_, fd, _, rfl, F, He.glo_ok T.kin T.glob (T.says.t.d.fact 14 (f := .glo "is_letter") rfl), kp, b⟩
theorem o_Page_does_put (T : Txt P w K mg base h) : ∃ fd, FnM P w K mg base 2 (He.fAd K e_Page_does_put.at_) fd ["self", "book", "sign"] m_Page_does_put ∧ Binds K fd ["self", "book", "sign"] [] ∧ PySem.W.keepIn K (.ref (He.fAd K e_Page_does_put.at_)) = true := by
  obtain ⟨fd, F⟩ := T.says.t.d.def_ 24 (d := e_Page_does_put) rfl
  exact ⟨fd, fn_okD (k := 1) F sc_Page_does_put (fun cdv hcd A outer s H E hr tk hp => by
    have sc := sc_Page_does_put
    exact (ms_cons (ms_if (mt_w (mw_and (mt_cmp (om_ne hr.units) (me_ix hr.units (me_var 1) me_int) (me_glob rfl (c_SAME T))) (mw_and1 (mt_val (me_call (d_is_within T) tk hr rfl (ma_cons (me_fld (cs := [n_Page]) (f := f_left) (h_left T) (me_var 0)) ma_nil)))))) (ms_one (ms_ret me_bl)) ms_nil) (ms_cons (ms_if (mt_cmp (om_in hr.units) (me_var 2) (me_glob rfl (c_OPENERS T))) (ms_one (ms_ret (me_or (me_cmp (om_eq hr.units) (me_ix hr.units (me_var 1) me_int) (me_glob rfl (c_ALWAYS T))) (me_one (me_and (me_cmp (om_eq hr.units) (me_ix hr.units (me_var 1) me_int) (me_glob rfl (c_FREE T))) (me_one (me_call (d_is_free T) tk hr rfl (ma_cons (me_meth0 (cc := n_Page) (xx := x_next_sign) (t_Page_next_sign T) tk hr (me_var 0)) ma_nil)))))))) ms_nil) (ms_cons (ms_if (mt_cmp (om_ne hr.units) (me_ix hr.units (me_var 1) me_int) (me_glob rfl (c_APART T))) (ms_one (ms_ret (me_cmp (om_eq hr.units) (me_ix hr.units (me_var 1) me_int) (me_glob rfl (c_ALWAYS T))))) ms_nil) (ms_cons (ms_set (i := 3) sc.nd rfl (Or.inl rfl) (me_cutV (me_fld (cs := [n_Page]) (f := f_left) (h_left T) (me_var 0)) (mo_some (me_neg me_int)) mo_none)) (ms_one (ms_ret (me_and (me_call (d_is_free T) tk hr rfl (ma_cons (me_meth0 (cc := n_Page) (xx := x_next_sign) (t_Page_next_sign T) tk hr (me_var 0)) ma_nil)) (me_and (me_not (me_call (d_is_letter T) tk hr rfl (ma_cons (me_var 3) ma_nil))) (me_one (me_cmp (om_ne hr.units) (me_var 3) (me_glob rfl (c_QUOTE T))))))))))))), F.bindsN (ps := ["self", "book", "sign"]) fun _ _ _ _ _ _ us hl => match us, hl with | [_, _, _], _ => rfl, F.kp⟩
theorem t_Page_does_put (T : Txt P w K mg base h) : Mt P w K mg base (S n_Page) (S x_does_put) 2 3 m_Page_does_put := by
  obtain ⟨fd, F, b, kp⟩ := o_Page_does_put (P := P) (base := base) T
  have hx : S x_does_put = "does_put" := by decide +kernel
  exact ⟨_, _, fd, _, rfl, F, by rw [show S n_Page = "Page" by decide +kernel]; exact He.glo_ok T.kin T.glob (T.says.t.d.fact 21 (f := .glo "Page") rfl), He.cls_ok (T.says.t.d.fact 22 (f := .cls "Page") rfl), by rw [hx]; exact He.meth_ok (T.says.t.d.fact 29 (f := .meth "Page" "does_put") rfl), b⟩
theorem o_Page_type_sign (T : Txt P w K mg base h) : ∃ fd, FnM P w K mg base 3 (He.fAd K e_Page_type_sign.at_) fd ["self", "book", "sign"] m_Page_type_sign ∧ Binds K fd ["self", "book", "sign"] [] ∧ PySem.W.keepIn K (.ref (He.fAd K e_Page_type_sign.at_)) = true := by
  obtain ⟨fd, F⟩ := T.says.t.d.def_ 25 (d := e_Page_type_sign) rfl
  exact ⟨fd, fn_okD (k := 2) F sc_Page_type_sign (fun cdv hcd A outer s H E hr tk hp => by
    have sc := sc_Page_type_sign
    exact (ms_cons (ms_set (i := 3) sc.nd rfl (Or.inl rfl) (me_and (me_call (d_is_closing T) tk hr rfl (ma_cons (me_var 2) ma_nil)) (me_one (me_cmp (om_eq hr.units) (me_meth0 (cc := n_Page) (xx := x_next_sign) (t_Page_next_sign T) tk hr (me_var 0)) (me_var 2))))) (ms_cons (ms_if (mt_w (mw_and (mt_val (me_var 3)) (mw_and1 (mt_w (mw_or (mt_cmp (om_eq hr.units) (me_ix hr.units (me_var 1) me_int) (me_glob rfl (c_ANY T))) (mw_or1 (mt_w (mw_and (mt_cmp (om_eq hr.units) (me_ix hr.units (me_var 1) me_int) (me_glob rfl (c_OWN T))) (mw_and1 (mt_val (me_meth0 (cc := n_Page) (xx := x_is_next_own) (t_Page_is_next_own T) tk hr (me_var 0)))))))))))) (ms_cons (ms_expr (me_meth0 (cc := n_Page) (xx := x_go_over) (t_Page_go_over T) tk hr (me_var 0))) (ms_one ms_retN)) ms_nil) (ms_cons (ms_set (i := 4) sc.nd rfl (Or.inl rfl) (me_call (d_closer_of T) tk hr rfl (ma_cons (me_var 2) ma_nil))) (ms_cons (ms_set (i := 5) sc.nd rfl (Or.inl rfl) (me_and (me_cmp (om_ne hr.units) (me_var 4) (me_str [])) (me_one (me_meth (cc := n_Page) (xx := x_does_put) (t_Page_does_put T) tk hr (me_var 0) (ma_cons (me_var 1) (ma_cons (me_var 2) ma_nil)))))) (ms_cons (ms_fldaug (cs := [n_Page]) (f := f_left) (h_left T) im_add (me_var 0) (me_var 2)) (ms_cons (ms_if (mt_val (me_var 5)) (ms_one (ms_expr (me_bm (t := .list) PySem.F.plainAttrs_list PySem.F.slot_list_append PySem.F.type_list_append mm_append (me_fld (cs := [n_Page]) (f := f_right) (h_right T) (me_var 0)) (ma_cons (me_tup (ma_cons (me_var 4) (ma_cons me_bl ma_nil))) ma_nil)))) ms_nil) (ms_one (ms_if (mt_w (mw_and (mt_cmp (om_eq hr.units) (me_var 2) (me_glob rfl (c_LINE T))) (mw_and1 (mt_cmp (om_eq hr.units) (me_ix hr.units (me_var 1) me_int) (me_glob rfl (c_AT_LINES T)))))) (ms_one (ms_fld (cs := [n_Page]) (f := f_right) (h_right T) (me_var 0) (me_lc (own := [("other", 6), ("is_own", 7)]) (t := (.row [6, 7])) rfl sc.nd (mi_seq (me_fld (cs := [n_Page]) (f := f_right) (h_right T) (me_var 0))) (blkOk_by (own := [("other", 6), ("is_own", 7)]) (N := N_Page_type_sign) (sc := defScope s_Page_type_sign) (by decide +kernel)) (by decide) (fun _ _ _ _ _ => (pg_tup rfl (pgs_cons (pg_name (i := 6) sc.nd rfl (Or.inl rfl)) (pgs_cons (pg_name (i := 7) sc.nd rfl (Or.inl rfl)) pgs_nil)))) (fun _ _ _ _ _ => mts_nil) (fun _ _ _ _ _ => (me_tup (ma_cons (me_var 6) (ma_cons me_bl ma_nil))))))) ms_nil))))))))), F.bindsN (ps := ["self", "book", "sign"]) fun _ _ _ _ _ _ us hl => match us, hl with | [_, _, _], _ => rfl, F.kp⟩
theorem t_Page_type_sign (T : Txt P w K mg base h) : Mt P w K mg base (S n_Page) (S x_type_sign) 3 3 m_Page_type_sign := by
  obtain ⟨fd, F, b, kp⟩ := o_Page_type_sign (P := P) (base := base) T
  have hx : S x_type_sign = "type_sign" := by decide +kernel
  exact ⟨_, _, fd, _, rfl, F, by rw [show S n_Page = "Page" by decide +kernel]; exact He.glo_ok T.kin T.glob (T.says.t.d.fact 21 (f := .glo "Page") rfl), He.cls_ok (T.says.t.d.fact 22 (f := .cls "Page") rfl), by rw [hx]; exact He.meth_ok (T.says.t.d.fact 30 (f := .meth "Page" "type_sign") rfl), b⟩
theorem o_Page_press (T : Txt P w K mg base h) : ∃ fd, FnM P w K mg base 4 (He.fAd K e_Page_press.at_) fd ["self", "book", "key"] m_Page_press ∧ Binds K fd ["self", "book", "key"] [] ∧ PySem.W.keepIn K (.ref (He.fAd K e_Page_press.at_)) = true := by
  obtain ⟨fd, F⟩ := T.says.t.d.def_ 26 (d := e_Page_press) rfl
  exact ⟨fd, fn_okD (k := 3) F sc_Page_press (fun cdv hcd A outer s H E hr tk hp => by
    have sc := sc_Page_press
    exact (ms_one (ms_if (mt_cmp (om_eq hr.units) (me_var 2) (me_glob rfl (c_BACK T))) (ms_one (ms_expr (me_meth (cc := n_Page) (xx := x_go_back) (t_Page_go_back T) tk hr (me_var 0) (ma_cons (me_var 1) ma_nil)))) (ms_one (ms_if (mt_cmp (om_eq hr.units) (me_var 2) (me_glob rfl (c_RIGHT T))) (ms_one (ms_expr (me_meth0 (cc := n_Page) (xx := x_go_over) (t_Page_go_over T) tk hr (me_var 0)))) (ms_one (ms_if (mt_cmp (om_eq hr.units) (me_var 2) (me_glob rfl (c_END T))) (ms_one (ms_while hp (mt_val (me_meth0 (cc := n_Page) (xx := x_is_next_own) (t_Page_is_next_own T) tk hr (me_var 0))) (ms_one (ms_expr (me_meth0 (cc := n_Page) (xx := x_go_over) (t_Page_go_over T) tk hr (me_var 0)))))) (ms_one (ms_expr (me_meth (cc := n_Page) (xx := x_type_sign) (t_Page_type_sign T) tk hr (me_var 0) (ma_cons (me_var 1) (ma_cons (me_var 2) ma_nil)))))))))))), F.bindsN (ps := ["self", "book", "key"]) fun _ _ _ _ _ _ us hl => match us, hl with | [_, _, _], _ => rfl, F.kp⟩
theorem t_Page_press (T : Txt P w K mg base h) : Mt P w K mg base (S n_Page) (S x_press) 4 3 m_Page_press := by
  obtain ⟨fd, F, b, kp⟩ := o_Page_press (P := P) (base := base) T
  have hx : S x_press = "press" := by decide +kernel
  exact ⟨_, _, fd, _, rfl, F, by rw [show S n_Page = "Page" by decide +kernel]; exact He.glo_ok T.kin T.glob (T.says.t.d.fact 21 (f := .glo "Page") rfl), He.cls_ok (T.says.t.d.fact 22 (f := .cls "Page") rfl), by rw [hx]; exact He.meth_ok (T.says.t.d.fact 31 (f := .meth "Page" "press") rfl), b⟩
theorem o_Stand_deed (T : Txt P w K mg base h) : ∃ fd, FnM P w K mg base 5 (He.fAd K e_Stand_deed.at_) fd ["self", "book", "key"] m_Stand_deed ∧ Binds K fd ["self", "book", "key"] [] ∧ PySem.W.keepIn K (.ref (He.fAd K e_Stand_deed.at_)) = true := by
  obtain ⟨fd, F⟩ := T.says.t.d.def_ 27 (d := e_Stand_deed) rfl
  exact ⟨fd, FnM.solo (fn_okD (k := 4) F sc_Stand_deed (fun cdv hcd A outer s H E hr tk hp => by
    have sc := sc_Stand_deed
    exact (ms_cons (ms_set (i := 3) sc.nd rfl (Or.inl rfl) (me_meth (cc := n_Stand) (xx := x_page_by) (t_Stand_page_by T) tk hr (me_var 0) (ma_cons (me_var 1) ma_nil))) (ms_cons (ms_expr (me_meth (cc := n_Page) (xx := x_press) (t_Page_press T) tk hr (me_var 3) (ma_cons (me_var 1) (ma_cons (me_var 2) ma_nil)))) (ms_cons (ms_if (mt_cmp (om_eq hr.units) (me_callB cm_len rfl (z_len T) (by decide +kernel) (ma_cons (me_fld (cs := [n_Page]) (f := f_right) (h_right T) (me_var 3)) ma_nil)) (me_callB cm_len rfl (z_len T) (by decide +kernel) (ma_cons (me_fld (cs := [n_Stand]) (f := f_following) (h_following T) (me_var 0)) ma_nil))) (ms_one (ms_ret (me_glob rfl (c_PLAIN T)))) ms_nil) (ms_one (ms_ret (me_if (mt_cmp om_gt (me_callB cm_len rfl (z_len T) (by decide +kernel) (ma_cons (me_fld (cs := [n_Page]) (f := f_right) (h_right T) (me_var 3)) ma_nil)) (me_callB cm_len rfl (z_len T) (by decide +kernel) (ma_cons (me_fld (cs := [n_Stand]) (f := f_following) (h_following T) (me_var 0)) ma_nil))) (me_glob rfl (c_PUT T)) (me_glob rfl (c_OVER T)))))))))), F.bindsN (ps := ["self", "book", "key"]) fun _ _ _ _ _ _ us hl => match us, hl with | [_, _, _], _ => rfl, F.kp⟩
theorem t_Stand_deed (T : Txt P w K mg base h) : Mt P w K mg base (S n_Stand) (S x_deed) 5 3 m_Stand_deed := by
  obtain ⟨fd, F, b, kp⟩ := o_Stand_deed (P := P) (base := base) T
  have hx : S x_deed = "deed" := by decide +kernel
  exact ⟨_, _, fd, _, rfl, F, by rw [show S n_Stand = "Stand" by decide +kernel]; exact He.glo_ok T.kin T.glob (T.says.t.d.fact 32 (f := .glo "Stand") rfl), He.cls_ok (T.says.t.d.fact 33 (f := .cls "Stand") rfl), by rw [hx]; exact He.meth_ok (T.says.t.d.fact 38 (f := .meth "Stand" "deed") rfl), b⟩
theorem o_deed_of_both (T : Txt P w K mg base h) : ∃ fd, FnM P w K mg base 6 (He.fAd K e_deed_of_both.at_) fd ["one", "other", "stand", "key"] m_deed_of_both ∧ Binds K fd ["one", "other", "stand", "key"] [] ∧ PySem.W.keepIn K (.ref (He.fAd K e_deed_of_both.at_)) = true := by
  obtain ⟨fd, F⟩ := T.says.t.d.def_ 28 (d := e_deed_of_both) rfl
  exact ⟨fd, fn_okD (k := 5) F sc_deed_of_both (fun cdv hcd A outer s H E hr tk hp => by
    have sc := sc_deed_of_both
    exact (ms_cons (ms_set (i := 4) sc.nd rfl (Or.inl rfl) (me_meth (cc := n_Stand) (xx := x_deed) (t_Stand_deed T) tk hr (me_var 2) (ma_cons (me_var 0) (ma_cons (me_var 3) ma_nil)))) (ms_one (ms_ret (me_if (mt_cmp (om_eq hr.units) (me_meth (cc := n_Stand) (xx := x_deed) (t_Stand_deed T) tk hr (me_var 2) (ma_cons (me_var 1) (ma_cons (me_var 3) ma_nil))) (me_var 4)) (me_var 4) (me_str [])))))), F.bindsN (ps := ["one", "other", "stand", "key"]) fun _ _ _ _ _ _ us hl => match us, hl with | [_, _, _, _], _ => rfl, F.kp⟩
theorem d_deed_of_both (T : Txt P w K mg base h) : Fn P w K mg base "deed_of_both" 6 4 m_deed_of_both := by
  obtain ⟨fd, F, b, kp⟩ := o_deed_of_both (P := P) (base := base) T
  exact ⟨_, fd, _, rfl, F, He.glo_ok T.kin T.glob (T.says.t.d.fact 15 (f := .glo "deed_of_both") rfl), kp, b⟩
theorem o_Heads_deed_in (T : Txt P w K mg base h) : ∃ fd, FnM P w K mg base 7 (He.fAd K e_Heads_deed_in.at_) fd ["self", "stand", "key"] m_Heads_deed_in ∧ Binds K fd ["self", "stand", "key"] [] ∧ PySem.W.keepIn K (.ref (He.fAd K e_Heads_deed_in.at_)) = true := by
  obtain ⟨fd, F⟩ := T.says.t.d.def_ 29 (d := e_Heads_deed_in) rfl
  exact ⟨fd, fn_okD (k := 6) F sc_Heads_deed_in (fun cdv hcd A outer s H E hr tk hp => by
    have sc := sc_Heads_deed_in
    exact (ms_cons (ms_set (i := 3) sc.nd rfl (Or.inl rfl) (me_tup (ma_cons (me_meth0 (cc := n_Stand) (xx := x_key) (t_Stand_key T) tk hr (me_var 1)) (ma_cons (me_var 2) ma_nil)))) (ms_cons (ms_if (mt_cmp (om_notin hr.units) (me_var 3) (me_fld (cs := [n_Heads]) (f := f_deeds) (h_deeds T) (me_var 0))) (ms_one (ms_sub hr.units (me_fld (cs := [n_Heads]) (f := f_deeds) (h_deeds T) (me_var 0)) (me_var 3) (me_call (d_deed_of_both T) tk hr rfl (ma_cons (me_ix hr.units (me_fld (cs := [n_Heads]) (f := f_books) (h_books T) (me_var 0)) me_int) (ma_cons (me_ix hr.units (me_fld (cs := [n_Heads]) (f := f_books) (h_books T) (me_var 0)) me_int) (ma_cons (me_var 1) (ma_cons (me_var 2) ma_nil))))))) ms_nil) (ms_one (ms_ret (me_ix hr.units (me_fld (cs := [n_Heads]) (f := f_deeds) (h_deeds T) (me_var 0)) (me_var 3))))))), F.bindsN (ps := ["self", "stand", "key"]) fun _ _ _ _ _ _ us hl => match us, hl with | [_, _, _], _ => rfl, F.kp⟩
theorem t_Heads_deed_in (T : Txt P w K mg base h) : Mt P w K mg base (S n_Heads) (S x_deed_in) 7 3 m_Heads_deed_in := by
  obtain ⟨fd, F, b, kp⟩ := o_Heads_deed_in (P := P) (base := base) T
  have hx : S x_deed_in = "deed_in" := by decide +kernel
  exact ⟨_, _, fd, _, rfl, F, by rw [show S n_Heads = "Heads" by decide +kernel]; exact He.glo_ok T.kin T.glob (T.says.t.d.fact 42 (f := .glo "Heads") rfl), He.cls_ok (T.says.t.d.fact 43 (f := .cls "Heads") rfl), by rw [hx]; exact He.meth_ok (T.says.t.d.fact 46 (f := .meth "Heads" "deed_in") rfl), b⟩
theorem o_kind_before (T : Txt P w K mg base h) : ∃ fd, FnM P w K mg base 2 (He.fAd K e_kind_before.at_) fd ["sign"] m_kind_before ∧ Binds K fd ["sign"] [] ∧ PySem.W.keepIn K (.ref (He.fAd K e_kind_before.at_)) = true := by
  obtain ⟨fd, F⟩ := T.says.t.d.def_ 30 (d := e_kind_before) rfl
  exact ⟨fd, fn_okD (k := 1) F sc_kind_before (fun cdv hcd A outer s H E hr tk hp => by
    have sc := sc_kind_before
    exact (ms_cons (ms_if (mt_val (me_call (d_is_letter T) tk hr rfl (ma_cons (me_var 0) ma_nil))) (ms_one (ms_ret (me_str [97]))) ms_nil) (ms_one (ms_ret (me_if (mt_cmp (om_eq hr.units) (me_var 0) (me_glob rfl (c_QUOTE T))) (me_glob rfl (c_QUOTE T)) (me_glob rfl (c_BLANK T))))))), F.bindsN (ps := ["sign"]) fun _ _ _ _ _ _ us hl => match us, hl with | [_], _ => rfl, F.kp⟩
theorem d_kind_before (T : Txt P w K mg base h) : Fn P w K mg base "kind_before" 2 1 m_kind_before := by
  obtain ⟨fd, F, b, kp⟩ := o_kind_before (P := P) (base := base) T
  exact ⟨_, fd, _, rfl, F, He.glo_ok T.kin T.glob (T.says.t.d.fact 16 (f := .glo "kind_before") rfl), kp, b⟩
theorem o_Stand_ahead (T : Txt P w K mg base h) : ∃ fd, FnM P w K mg base 3 (He.fAd K e_Stand_ahead.at_) fd ["self", "sign"] m_Stand_ahead ∧ Binds K fd ["self", "sign"] [] ∧ PySem.W.keepIn K (.ref (He.fAd K e_Stand_ahead.at_)) = true := by
  obtain ⟨fd, F⟩ := T.says.t.d.def_ 31 (d := e_Stand_ahead) rfl
  exact ⟨fd, fn_okD (k := 2) F sc_Stand_ahead (fun cdv hcd A outer s H E hr tk hp => by
    have sc := sc_Stand_ahead
    exact (ms_cons (ms_set (i := 2) sc.nd rfl (Or.inl rfl) (me_and (me_cmp (om_ne hr.units) (me_fld (cs := [n_Stand]) (f := f_is_odd) (h_is_odd T) (me_var 0)) (me_cmp (om_eq hr.units) (me_var 1) (me_glob rfl (c_QUOTE T)))) (me_one (me_cmp (om_ne hr.units) (me_var 1) (me_glob rfl (c_LINE T)))))) (ms_one (ms_ret (me_tup (ma_cons (me_call (d_kind_before T) tk hr rfl (ma_cons (me_var 1) ma_nil)) (ma_cons (me_var 2) ma_nil))))))), F.bindsN (ps := ["self", "sign"]) fun _ _ _ _ _ _ us hl => match us, hl with | [_, _], _ => rfl, F.kp⟩
theorem t_Stand_ahead (T : Txt P w K mg base h) : Mt P w K mg base (S n_Stand) (S x_ahead) 3 2 m_Stand_ahead := by
  obtain ⟨fd, F, b, kp⟩ := o_Stand_ahead (P := P) (base := base) T
  have hx : S x_ahead = "ahead" := by decide +kernel
  exact ⟨_, _, fd, _, rfl, F, by rw [show S n_Stand = "Stand" by decide +kernel]; exact He.glo_ok T.kin T.glob (T.says.t.d.fact 32 (f := .glo "Stand") rfl), He.cls_ok (T.says.t.d.fact 33 (f := .cls "Stand") rfl), by rw [hx]; exact He.meth_ok (T.says.t.d.fact 39 (f := .meth "Stand" "ahead") rfl), b⟩
theorem o_Stand_ahead_behind (T : Txt P w K mg base h) : ∃ fd, FnM P w K mg base 4 (He.fAd K e_Stand_ahead_behind.at_) fd ["self", "key", "is_slip"] m_Stand_ahead_behind ∧ Binds K fd ["self", "key", "is_slip"] [] ∧ PySem.W.keepIn K (.ref (He.fAd K e_Stand_ahead_behind.at_)) = true := by
  obtain ⟨fd, F⟩ := T.says.t.d.def_ 32 (d := e_Stand_ahead_behind) rfl
  exact ⟨fd, fn_okD (k := 3) F sc_Stand_ahead_behind (fun cdv hcd A outer s H E hr tk hp => by
    have sc := sc_Stand_ahead_behind
    exact (ms_cons (ms_if (mt_cmp (om_eq hr.units) (me_var 1) (me_glob rfl (c_BACK T))) (ms_one (ms_ret (me_tup (ma_cons (me_ix hr.units (me_fld (cs := [n_Stand]) (f := f_held) (h_held T) (me_var 0)) me_int) (ma_cons (me_ix hr.units (me_fld (cs := [n_Stand]) (f := f_held) (h_held T) (me_var 0)) me_int) (ma_cons (me_tup ma_nil) ma_nil)))))) ms_nil) (ms_cons (ms_asg (me_meth (cc := n_Stand) (xx := x_ahead) (t_Stand_ahead T) tk hr (me_var 0) (ma_cons (me_var 1) ma_nil)) (mg_tup rfl (mgs_cons (mg_name (i := 3) sc.nd rfl (Or.inl rfl)) (mgs_cons (mg_name (i := 4) sc.nd rfl (Or.inl rfl)) mgs_nil)))) (ms_one (ms_ret (me_tup (ma_cons (me_var 3) (ma_cons (me_var 4) (ma_cons (me_if (mt_val (me_var 2)) (me_tup (ma_cons (me_var 1) (ma_cons (me_fld (cs := [n_Stand]) (f := f_before) (h_before T) (me_var 0)) (ma_cons (me_fld (cs := [n_Stand]) (f := f_is_odd) (h_is_odd T) (me_var 0)) ma_nil)))) (me_tup ma_nil)) ma_nil))))))))), F.bindsN (ps := ["self", "key", "is_slip"]) fun _ _ _ _ _ _ us hl => match us, hl with | [_, _, _], _ => rfl, F.kp⟩
theorem t_Stand_ahead_behind (T : Txt P w K mg base h) : Mt P w K mg base (S n_Stand) (S x_ahead_behind) 4 3 m_Stand_ahead_behind := by
  obtain ⟨fd, F, b, kp⟩ := o_Stand_ahead_behind (P := P) (base := base) T
  have hx : S x_ahead_behind = "ahead_behind" := by decide +kernel
  exact ⟨_, _, fd, _, rfl, F, by rw [show S n_Stand = "Stand" by decide +kernel]; exact He.glo_ok T.kin T.glob (T.says.t.d.fact 32 (f := .glo "Stand") rfl), He.cls_ok (T.says.t.d.fact 33 (f := .cls "Stand") rfl), by rw [hx]; exact He.meth_ok (T.says.t.d.fact 40 (f := .meth "Stand" "ahead_behind") rfl), b⟩
theorem o_Stand___init__ (T : Txt P w K mg base h) : ∃ fd, FnM P w K mg base 1 (He.fAd K e_Stand___init__.at_) fd ["self", "before", "is_odd", "following", "is_put", "is_aged", "held"] m_Stand___init__ ∧ Binds K fd ["self", "before", "is_odd", "following", "is_put", "is_aged", "held"] [] ∧ PySem.W.keepIn K (.ref (He.fAd K e_Stand___init__.at_)) = true := by
  obtain ⟨fd, F⟩ := T.says.t.d.def_ 33 (d := e_Stand___init__) rfl
  exact ⟨fd, FnM.solo (fn_okD (k := 0) F sc_Stand___init__ (fun cdv hcd A outer s H E hr tk hp => by
    have sc := sc_Stand___init__
    exact (ms_cons (ms_fld (cs := [n_Stand]) (f := f_before) (h_before T) (me_var 0) (me_var 1)) (ms_cons (ms_fld (cs := [n_Stand]) (f := f_is_odd) (h_is_odd T) (me_var 0) (me_var 2)) (ms_cons (ms_fld (cs := [n_Stand]) (f := f_following) (h_following T) (me_var 0) (me_var 3)) (ms_cons (ms_fld (cs := [n_Stand]) (f := f_is_put) (h_is_put T) (me_var 0) (me_var 4)) (ms_cons (ms_fld (cs := [n_Stand]) (f := f_is_aged) (h_is_aged T) (me_var 0) (me_var 5)) (ms_one (ms_fld (cs := [n_Stand]) (f := f_held) (h_held T) (me_var 0) (me_var 6)))))))))), F.bindsN (ps := ["self", "before", "is_odd", "following", "is_put", "is_aged", "held"]) fun _ _ _ _ _ _ us hl => match us, hl with | [_, _, _, _, _, _, _], _ => rfl, F.kp⟩
theorem k_Stand (T : Txt P w K mg base h) : Mkr P w K mg base (S n_Stand) 1 7 m_Stand___init__ := by
  obtain ⟨fd, F, b, kp⟩ := o_Stand___init__ (P := P) (base := base) T
  exact ⟨_, _, fd, _, rfl, F, by rw [show S n_Stand = "Stand" by decide +kernel]; exact He.glo_ok T.kin T.glob (T.says.t.d.fact 32 (f := .glo "Stand") rfl), He.mkr_ok (T.says.t.d.fact 34 (f := .mkr "Stand") rfl), b⟩
theorem o_Heads_bare (T : Txt P w K mg base h) : ∃ fd, FnM P w K mg base 3 (He.fAd K e_Heads_bare.at_) fd ["self", "above", "ahead"] m_Heads_bare ∧ Binds K fd ["self", "above", "ahead"] [] ∧ PySem.W.keepIn K (.ref (He.fAd K e_Heads_bare.at_)) = true := by
  obtain ⟨fd, F⟩ := T.says.t.d.def_ 34 (d := e_Heads_bare) rfl
  exact ⟨fd, fn_okD (k := 2) F sc_Heads_bare (fun cdv hcd A outer s H E hr tk hp => by
    have sc := sc_Heads_bare
    exact (ms_cons (ms_asg (me_var 1) (mg_tup rfl (mgs_cons (mg_name (i := 4) sc.nd rfl (Or.inl rfl)) (mgs_cons (mg_name (i := 5) sc.nd rfl (Or.inl rfl)) mgs_nil)))) (ms_cons (ms_asg (me_var 2) (mg_tup rfl (mgs_cons (mg_name (i := 6) sc.nd rfl (Or.inl rfl)) (mgs_cons (mg_name (i := 7) sc.nd rfl (Or.inl rfl)) (mgs_cons (mg_name (i := 8) sc.nd rfl (Or.inl rfl)) (mgs_cons (mg_name (i := 9) sc.nd rfl (Or.inl rfl)) mgs_nil)))))) (ms_cons (ms_set (i := 3) sc.nd rfl (Or.inl rfl) (me_or (me_fld (cs := [n_Stand]) (f := f_is_aged) (h_is_aged T) (me_var 5)) (me_one (me_var 8)))) (ms_one (ms_expr (me_meth (cc := n_Heads) (xx := x_come) (t_Heads_come T) tk hr (me_var 0) (ma_cons (me_var 4) (ma_cons (me_make (cc := n_Stand) (k_Stand T) tk hr rfl (ma_cons (me_var 6) (ma_cons (me_var 7) (ma_cons (me_fld (cs := [n_Stand]) (f := f_following) (h_following T) (me_var 5)) (ma_cons (me_fld (cs := [n_Stand]) (f := f_is_put) (h_is_put T) (me_var 5)) (ma_cons (me_and (me_var 3) (me_one (me_fld (cs := [n_Stand]) (f := f_is_put) (h_is_put T) (me_var 5)))) (ma_cons (me_var 9) ma_nil))))))) ma_nil))))))))), F.bindsN (ps := ["self", "above", "ahead"]) fun _ _ _ _ _ _ us hl => match us, hl with | [_, _, _], _ => rfl, F.kp⟩
theorem t_Heads_bare (T : Txt P w K mg base h) : Mt P w K mg base (S n_Heads) (S x_bare) 3 3 m_Heads_bare := by
  obtain ⟨fd, F, b, kp⟩ := o_Heads_bare (P := P) (base := base) T
  have hx : S x_bare = "bare" := by decide +kernel
  exact ⟨_, _, fd, _, rfl, F, by rw [show S n_Heads = "Heads" by decide +kernel]; exact He.glo_ok T.kin T.glob (T.says.t.d.fact 42 (f := .glo "Heads") rfl), He.cls_ok (T.says.t.d.fact 43 (f := .cls "Heads") rfl), by rw [hx]; exact He.meth_ok (T.says.t.d.fact 47 (f := .meth "Heads" "bare") rfl), b⟩
theorem o_Heads_begin (T : Txt P w K mg base h) : ∃ fd, FnM P w K mg base 4 (He.fAd K e_Heads_begin.at_) fd ["self", "above", "fresh"] m_Heads_begin ∧ Binds K fd ["self", "above", "fresh"] [] ∧ PySem.W.keepIn K (.ref (He.fAd K e_Heads_begin.at_)) = true := by
  obtain ⟨fd, F⟩ := T.says.t.d.def_ 35 (d := e_Heads_begin) rfl
  exact ⟨fd, fn_okD (k := 3) F sc_Heads_begin (fun cdv hcd A outer s H E hr tk hp => by
    have sc := sc_Heads_begin
    exact (ms_cons (ms_set (i := 3) sc.nd rfl (Or.inl rfl) (me_meth0 (cc := n_Stand) (xx := x_key) (t_Stand_key T) tk hr (me_var 2))) (ms_cons (ms_par2 (i := 4) (j := 5) rfl sc.nd rfl rfl (by decide) rfl rfl (ma_cons (me_bm (t := .dict) PySem.F.plainAttrs_dict PySem.F.slot_dict_setdefault PySem.F.type_dict_setdefault (mm_setd hr.units) (me_fld (cs := [n_Heads]) (f := f_covering) (h_covering T) (me_var 0)) (ma_cons (me_var 3) (ma_cons me_dictT ma_nil))) (ma_cons (me_tup (ma_cons (me_ix hr.units (me_var 1) me_int) (ma_cons (me_meth0 (cc := n_Stand) (xx := x_key) (t_Stand_key T) tk hr (me_ix hr.units (me_var 1) me_int)) ma_nil))) ma_nil))) (ms_cons (ms_if (mt_cmp (om_notin hr.units) (me_var 5) (me_var 4)) (ms_cons (ms_sub hr.units (me_var 4) (me_var 5) (me_var 1)) (ms_one (ms_for hp rfl (mi_seq (me_callTy (cm_listD rfl) rfl (z_list T) (by decide +kernel) (ma_cons (me_bm (t := .dict) PySem.F.plainAttrs_dict PySem.F.slot_dict_get PySem.F.type_dict_get (mm_get hr.units) (me_fld (cs := [n_Heads]) (f := f_uncovered) (h_uncovered T) (me_var 0)) (ma_cons (me_var 3) (ma_cons me_dictT ma_nil))) ma_nil))) (mg_name (i := 6) sc.nd rfl (Or.inl rfl)) (ms_one (ms_expr (me_meth (cc := n_Heads) (xx := x_bare) (t_Heads_bare T) tk hr (me_var 0) (ma_cons (me_var 1) (ma_cons (me_var 6) ma_nil)))))))) ms_nil) (ms_one (ms_expr (me_meth (cc := n_Heads) (xx := x_come) (t_Heads_come T) tk hr (me_var 0) (ma_cons (me_var 3) (ma_cons (me_var 2) ma_nil))))))))), F.bindsN (ps := ["self", "above", "fresh"]) fun _ _ _ _ _ _ us hl => match us, hl with | [_, _, _], _ => rfl, F.kp⟩
theorem t_Heads_begin (T : Txt P w K mg base h) : Mt P w K mg base (S n_Heads) (S x_begin) 4 3 m_Heads_begin := by
  obtain ⟨fd, F, b, kp⟩ := o_Heads_begin (P := P) (base := base) T
  have hx : S x_begin = "begin" := by decide +kernel
  exact ⟨_, _, fd, _, rfl, F, by rw [show S n_Heads = "Heads" by decide +kernel]; exact He.glo_ok T.kin T.glob (T.says.t.d.fact 42 (f := .glo "Heads") rfl), He.cls_ok (T.says.t.d.fact 43 (f := .cls "Heads") rfl), by rw [hx]; exact He.meth_ok (T.says.t.d.fact 48 (f := .meth "Heads" "begin") rfl), b⟩
theorem o_Heads_uncover (T : Txt P w K mg base h) : ∃ fd, FnM P w K mg base 4 (He.fAd K e_Heads_uncover.at_) fd ["self", "level", "ahead"] m_Heads_uncover ∧ Binds K fd ["self", "level", "ahead"] [] ∧ PySem.W.keepIn K (.ref (He.fAd K e_Heads_uncover.at_)) = true := by
  obtain ⟨fd, F⟩ := T.says.t.d.def_ 36 (d := e_Heads_uncover) rfl
  exact ⟨fd, fn_okD (k := 3) F sc_Heads_uncover (fun cdv hcd A outer s H E hr tk hp => by
    have sc := sc_Heads_uncover
    exact (ms_cons (ms_set (i := 3) sc.nd rfl (Or.inl rfl) (me_bm (t := .dict) PySem.F.plainAttrs_dict PySem.F.slot_dict_setdefault PySem.F.type_dict_setdefault (mm_setd hr.units) (me_fld (cs := [n_Heads]) (f := f_uncovered) (h_uncovered T) (me_var 0)) (ma_cons (me_var 1) (ma_cons me_dictT ma_nil)))) (ms_one (ms_if (mt_cmp (om_notin hr.units) (me_var 2) (me_var 3)) (ms_cons (ms_sub hr.units (me_var 3) (me_var 2) me_bl) (ms_one (ms_for hp rfl (mi_seq (me_listVals rfl (z_list T) (me_ix hr.units (me_fld (cs := [n_Heads]) (f := f_covering) (h_covering T) (me_var 0)) (me_var 1)))) (mg_name (i := 4) sc.nd rfl (Or.inl rfl)) (ms_one (ms_expr (me_meth (cc := n_Heads) (xx := x_bare) (t_Heads_bare T) tk hr (me_var 0) (ma_cons (me_var 4) (ma_cons (me_var 2) ma_nil)))))))) ms_nil)))), F.bindsN (ps := ["self", "level", "ahead"]) fun _ _ _ _ _ _ us hl => match us, hl with | [_, _, _], _ => rfl, F.kp⟩
theorem t_Heads_uncover (T : Txt P w K mg base h) : Mt P w K mg base (S n_Heads) (S x_uncover) 4 3 m_Heads_uncover := by
  obtain ⟨fd, F, b, kp⟩ := o_Heads_uncover (P := P) (base := base) T
  have hx : S x_uncover = "uncover" := by decide +kernel
  exact ⟨_, _, fd, _, rfl, F, by rw [show S n_Heads = "Heads" by decide +kernel]; exact He.glo_ok T.kin T.glob (T.says.t.d.fact 42 (f := .glo "Heads") rfl), He.cls_ok (T.says.t.d.fact 43 (f := .cls "Heads") rfl), by rw [hx]; exact He.meth_ok (T.says.t.d.fact 49 (f := .meth "Heads" "uncover") rfl), b⟩
theorem o_Heads_press (T : Txt P w K mg base h) : ∃ fd, FnM P w K mg base 8 (He.fAd K e_Heads_press.at_) fd ["self", "level", "stand", "key", "is_slip"] m_Heads_press ∧ Binds K fd ["self", "level", "stand", "key", "is_slip"] [] ∧ PySem.W.keepIn K (.ref (He.fAd K e_Heads_press.at_)) = true := by
  obtain ⟨fd, F⟩ := T.says.t.d.def_ 37 (d := e_Heads_press) rfl
  exact ⟨fd, fn_okD (k := 7) F sc_Heads_press (fun cdv hcd A outer s H E hr tk hp => by
    have sc := sc_Heads_press
    exact (ms_cons (ms_set (i := 5) sc.nd rfl (Or.inl rfl) (me_meth (cc := n_Heads) (xx := x_deed_in) (t_Heads_deed_in T) tk hr (me_var 0) (ma_cons (me_var 2) (ma_cons (me_var 3) ma_nil)))) (ms_cons (ms_asg (me_meth (cc := n_Stand) (xx := x_ahead_behind) (t_Stand_ahead_behind T) tk hr (me_var 2) (ma_cons (me_var 3) (ma_cons (me_var 4) ma_nil))) (mg_tup rfl (mgs_cons (mg_name (i := 6) sc.nd rfl (Or.inl rfl)) (mgs_cons (mg_name (i := 7) sc.nd rfl (Or.inl rfl)) (mgs_cons (mg_name (i := 8) sc.nd rfl (Or.inl rfl)) mgs_nil))))) (ms_one (ms_if (mt_cmp (om_eq hr.units) (me_var 5) (me_str [])) (ms_one (ms_fld (cs := [n_Heads]) (f := f_is_unlike) (h_is_unlike T) (me_var 0) me_bl)) (ms_one (ms_if (mt_cmp (om_eq hr.units) (me_var 5) (me_glob rfl (c_PLAIN T))) (ms_cons (ms_set (i := 9) sc.nd rfl (Or.inl rfl) (me_or (me_fld (cs := [n_Stand]) (f := f_is_aged) (h_is_aged T) (me_var 2)) (me_one (me_cmp (om_eq hr.units) (me_var 3) (me_glob rfl (c_LINE T)))))) (ms_one (ms_expr (me_meth (cc := n_Heads) (xx := x_come) (t_Heads_come T) tk hr (me_var 0) (ma_cons (me_var 1) (ma_cons (me_make (cc := n_Stand) (k_Stand T) tk hr rfl (ma_cons (me_var 6) (ma_cons (me_var 7) (ma_cons (me_fld (cs := [n_Stand]) (f := f_following) (h_following T) (me_var 2)) (ma_cons (me_fld (cs := [n_Stand]) (f := f_is_put) (h_is_put T) (me_var 2)) (ma_cons (me_var 9) (ma_cons (me_var 8) ma_nil))))))) ma_nil)))))) (ms_one (ms_if (mt_cmp (om_eq hr.units) (me_var 5) (me_glob rfl (c_PUT T))) (ms_cons (ms_set (i := 10) sc.nd rfl (Or.inl rfl) (me_make (cc := n_Stand) (k_Stand T) tk hr rfl (ma_cons (me_var 6) (ma_cons (me_var 7) (ma_cons (me_call (d_closer_of T) tk hr rfl (ma_cons (me_var 3) ma_nil)) (ma_cons me_bl (ma_cons me_bl (ma_cons (me_var 8) ma_nil)))))))) (ms_one (ms_expr (me_meth (cc := n_Heads) (xx := x_begin) (t_Heads_begin T) tk hr (me_var 0) (ma_cons (me_tup (ma_cons (me_var 1) (ma_cons (me_var 2) ma_nil))) (ma_cons (me_var 10) ma_nil)))))) (ms_one (ms_if (mt_val (me_fld (cs := [n_Stand]) (f := f_is_put) (h_is_put T) (me_var 2))) (ms_one (ms_expr (me_meth (cc := n_Heads) (xx := x_uncover) (t_Heads_uncover T) tk hr (me_var 0) (ma_cons (me_var 1) (ma_cons (me_tup (ma_cons (me_var 6) (ma_cons (me_var 7) (ma_cons (me_fld (cs := [n_Stand]) (f := f_is_aged) (h_is_aged T) (me_var 2)) (ma_cons (me_var 8) ma_nil))))) ma_nil))))) (ms_one (ms_for hp rfl (mi_seq (me_call (d_rests_of T) tk hr rfl (ma_cons (me_fld (cs := [n_Heads]) (f := f_flags) (h_flags T) (me_var 0)) ma_nil))) (mg_name (i := 11) sc.nd rfl (Or.inl rfl)) (ms_one (ms_expr (me_meth (cc := n_Heads) (xx := x_come) (t_Heads_come T) tk hr (me_var 0) (ma_cons (me_var 1) (ma_cons (me_make (cc := n_Stand) (k_Stand T) tk hr rfl (ma_cons (me_var 6) (ma_cons (me_var 7) (ma_cons (me_var 11) (ma_cons me_bl (ma_cons me_bl (ma_cons (me_var 8) ma_nil))))))) ma_nil)))))))))))))))))), F.bindsN (ps := ["self", "level", "stand", "key", "is_slip"]) fun _ _ _ _ _ _ us hl => match us, hl with | [_, _, _, _, _], _ => rfl, F.kp⟩
theorem t_Heads_press (T : Txt P w K mg base h) : Mt P w K mg base (S n_Heads) (S x_press) 8 5 m_Heads_press := by
  obtain ⟨fd, F, b, kp⟩ := o_Heads_press (P := P) (base := base) T
  have hx : S x_press = "press" := by decide +kernel
  exact ⟨_, _, fd, _, rfl, F, by rw [show S n_Heads = "Heads" by decide +kernel]; exact He.glo_ok T.kin T.glob (T.says.t.d.fact 42 (f := .glo "Heads") rfl), He.cls_ok (T.says.t.d.fact 43 (f := .cls "Heads") rfl), by rw [hx]; exact He.meth_ok (T.says.t.d.fact 50 (f := .meth "Heads" "press") rfl), b⟩
theorem o_Heads___init__ (T : Txt P w K mg base h) : ∃ fd, FnM P w K mg base 9 (He.fAd K e_Heads___init__.at_) fd ["self", "one", "other", "flags"] m_Heads___init__ ∧ Binds K fd ["self", "one", "other", "flags"] [] ∧ PySem.W.keepIn K (.ref (He.fAd K e_Heads___init__.at_)) = true := by
  obtain ⟨fd, F⟩ := T.says.t.d.def_ 38 (d := e_Heads___init__) rfl
  exact ⟨fd, fn_okD (k := 8) F sc_Heads___init__ (fun cdv hcd A outer s H E hr tk hp => by
    have sc := sc_Heads___init__
    exact (ms_cons (ms_fld (cs := [n_Heads]) (f := f_books) (h_books T) (me_var 0) (me_tup (ma_cons (me_var 1) (ma_cons (me_var 2) ma_nil)))) (ms_cons (ms_fld (cs := [n_Heads]) (f := f_flags) (h_flags T) (me_var 0) (me_var 3)) (ms_cons (ms_fld (cs := [n_Heads]) (f := f_known) (h_known T) (me_var 0) me_dictT) (ms_cons (ms_fld (cs := [n_Heads]) (f := f_uncovered) (h_uncovered T) (me_var 0) me_dictT) (ms_cons (ms_fld (cs := [n_Heads]) (f := f_covering) (h_covering T) (me_var 0) me_dictT) (ms_cons (ms_fld (cs := [n_Heads]) (f := f_waiting) (h_waiting T) (me_var 0) (me_lst ma_nil)) (ms_cons (ms_fld (cs := [n_Heads]) (f := f_deeds) (h_deeds T) (me_var 0) me_dictT) (ms_cons (ms_fld (cs := [n_Heads]) (f := f_is_unlike) (h_is_unlike T) (me_var 0) me_bl) (ms_cons (ms_for hp rfl (mi_seq (me_call (d_rests_of T) tk hr rfl (ma_cons (me_var 3) ma_nil))) (mg_name (i := 4) sc.nd rfl (Or.inl rfl)) (ms_one (ms_expr (me_meth (cc := n_Heads) (xx := x_come) (t_Heads_come T) tk hr (me_var 0) (ma_cons (me_str []) (ma_cons (me_make (cc := n_Stand) (k_Stand T) tk hr rfl (ma_cons (me_glob rfl (c_BLANK T)) (ma_cons me_bl (ma_cons (me_var 4) (ma_cons me_bl (ma_cons me_bl (ma_cons (me_tup ma_nil) ma_nil))))))) ma_nil)))))) (ms_one (ms_while hp (mt_w (mw_and (mt_cmp (om_ne hr.units) (me_fld (cs := [n_Heads]) (f := f_waiting) (h_waiting T) (me_var 0)) (me_lstV ma_nil)) (mw_and1 (mt_not (mt_val (me_fld (cs := [n_Heads]) (f := f_is_unlike) (h_is_unlike T) (me_var 0))))))) (ms_cons (ms_asg (me_bm0 (t := .list) PySem.F.plainAttrs_list PySem.F.slot_list_pop PySem.F.type_list_pop mm_pop (me_fld (cs := [n_Heads]) (f := f_waiting) (h_waiting T) (me_var 0))) (mg_tup rfl (mgs_cons (mg_name (i := 5) sc.nd rfl (Or.inl rfl)) (mgs_cons (mg_name (i := 6) sc.nd rfl (Or.inl rfl)) mgs_nil)))) (ms_one (ms_for hp rfl (mi_seq (me_meth (cc := n_Stand) (xx := x_strikes) (t_Stand_strikes T) tk hr (me_var 6) (ma_cons (me_ix hr.units (me_fld (cs := [n_Heads]) (f := f_flags) (h_flags T) (me_var 0)) me_int) ma_nil))) (mg_tup rfl (mgs_cons (mg_name (i := 7) sc.nd rfl (Or.inl rfl)) (mgs_cons (mg_name (i := 8) sc.nd rfl (Or.inl rfl)) mgs_nil))) (ms_one (ms_expr (me_meth (cc := n_Heads) (xx := x_press) (t_Heads_press T) tk hr (me_var 0) (ma_cons (me_var 5) (ma_cons (me_var 6) (ma_cons (me_var 7) (ma_cons (me_var 8) ma_nil)))))))))))))))))))))), F.bindsN (ps := ["self", "one", "other", "flags"]) fun _ _ _ _ _ _ us hl => match us, hl with | [_, _, _, _], _ => rfl, F.kp⟩
theorem k_Heads (T : Txt P w K mg base h) : Mkr P w K mg base (S n_Heads) 9 4 m_Heads___init__ := by
  obtain ⟨fd, F, b, kp⟩ := o_Heads___init__ (P := P) (base := base) T
  exact ⟨_, _, fd, _, rfl, F, by rw [show S n_Heads = "Heads" by decide +kernel]; exact He.glo_ok T.kin T.glob (T.says.t.d.fact 42 (f := .glo "Heads") rfl), He.mkr_ok (T.says.t.d.fact 44 (f := .mkr "Heads") rfl), b⟩
theorem o_are_alike (T : Txt P w K mg base h) : ∃ fd, FnM P w K mg base 11 (He.fAd K e_are_alike.at_) fd ["one", "other", "flags"] m_are_alike ∧ Binds K fd ["one", "other", "flags"] [] ∧ PySem.W.keepIn K (.ref (He.fAd K e_are_alike.at_)) = true := by
  obtain ⟨fd, F⟩ := T.says.t.d.def_ 39 (d := e_are_alike) rfl
  exact ⟨fd, fn_okD (k := 10) F sc_are_alike (fun cdv hcd A outer s H E hr tk hp => by
    have sc := sc_are_alike
    exact (ms_cons (ms_expr (me_call (d_need_book T) tk hr rfl (ma_cons (me_var 0) ma_nil))) (ms_cons (ms_expr (me_call (d_need_book T) tk hr rfl (ma_cons (me_var 1) ma_nil))) (ms_cons (ms_expr (me_call (d_need_flags T) tk hr rfl (ma_cons (me_var 2) ma_nil))) (ms_one (ms_ret (me_not (me_fld (cs := [n_Heads]) (f := f_is_unlike) (h_is_unlike T) (me_make (cc := n_Heads) (k_Heads T) tk hr rfl (ma_cons (me_var 0) (ma_cons (me_var 1) (ma_cons (me_var 2) ma_nil)))))))))))), F.bindsN (ps := ["one", "other", "flags"]) fun _ _ _ _ _ _ us hl => match us, hl with | [_, _, _], _ => rfl, F.kp⟩
theorem d_are_alike (T : Txt P w K mg base h) : Fn P w K mg base "are_alike" 11 3 m_are_alike := by
  obtain ⟨fd, F, b, kp⟩ := o_are_alike (P := P) (base := base) T
  exact ⟨_, fd, _, rfl, F, He.glo_ok T.kin T.glob (T.says.t.d.fact 17 (f := .glo "are_alike") rfl), kp, b⟩
theorem q_are_alike (T : Txt P w K mg base h) : Fn P w K mg base "are_alike" 11 3 p_are_alike := (d_are_alike T).pureV
theorem o_stand_at (T : Txt P w K mg base h) : ∃ fd, FnM P w K mg base 3 (He.fAd K e_stand_at.at_) fd ["ahead", "cells", "rest"] m_stand_at ∧ Binds K fd ["ahead", "cells", "rest"] [] ∧ PySem.W.keepIn K (.ref (He.fAd K e_stand_at.at_)) = true := by
  obtain ⟨fd, F⟩ := T.says.t.d.def_ 40 (d := e_stand_at) rfl
  exact ⟨fd, fn_okD (k := 2) F sc_stand_at (fun cdv hcd A outer s H E hr tk hp => by
    have sc := sc_stand_at
    exact (ms_cons (ms_asg (me_var 0) (mg_tup rfl (mgs_cons (mg_name (i := 3) sc.nd rfl (Or.inl rfl)) (mgs_cons (mg_name (i := 4) sc.nd rfl (Or.inl rfl)) (mgs_cons (mg_name (i := 5) sc.nd rfl (Or.inl rfl)) mgs_nil))))) (ms_cons (ms_asg (me_if (mt_cmp (om_ne hr.units) (me_var 1) (me_tup ma_nil)) (me_ix hr.units (me_var 1) me_int) (me_tup (ma_cons (me_var 2) (ma_cons me_bl ma_nil)))) (mg_tup rfl (mgs_cons (mg_name (i := 6) sc.nd rfl (Or.inl rfl)) (mgs_cons (mg_name (i := 7) sc.nd rfl (Or.inl rfl)) mgs_nil)))) (ms_one (ms_ret (me_make (cc := n_Stand) (k_Stand T) tk hr rfl (ma_cons (me_var 3) (ma_cons (me_var 4) (ma_cons (me_var 6) (ma_cons (me_cmp (om_ne hr.units) (me_var 1) (me_tup ma_nil)) (ma_cons (me_var 7) (ma_cons (me_var 5) ma_nil)))))))))))), F.bindsN (ps := ["ahead", "cells", "rest"]) fun _ _ _ _ _ _ us hl => match us, hl with | [_, _, _], _ => rfl, F.kp⟩
theorem d_stand_at (T : Txt P w K mg base h) : Fn P w K mg base "stand_at" 3 3 m_stand_at := by
  obtain ⟨fd, F, b, kp⟩ := o_stand_at (P := P) (base := base) T
  exact ⟨_, fd, _, rfl, F, He.glo_ok T.kin T.glob (T.says.t.d.fact 18 (f := .glo "stand_at") rfl), kp, b⟩
theorem o_Way___init__ (T : Txt P w K mg base h) : ∃ fd, FnM P w K mg base 1 (He.fAd K e_Way___init__.at_) fd ["self", "stand", "cells", "rest", "met", "keys_so"] m_Way___init__ ∧ Binds K fd ["self", "stand", "cells", "rest", "met", "keys_so"] [] ∧ PySem.W.keepIn K (.ref (He.fAd K e_Way___init__.at_)) = true := by
  obtain ⟨fd, F⟩ := T.says.t.d.def_ 41 (d := e_Way___init__) rfl
  exact ⟨fd, fn_okD (k := 0) F sc_Way___init__ (fun cdv hcd A outer s H E hr tk hp => by
    have sc := sc_Way___init__
    exact (ms_cons (ms_fld (cs := [n_Way]) (f := f_stand) (h_stand T) (me_var 0) (me_var 1)) (ms_cons (ms_fld (cs := [n_Way]) (f := f_cells) (h_cells T) (me_var 0) (me_var 2)) (ms_cons (ms_fld (cs := [n_Way]) (f := f_rest) (h_rest T) (me_var 0) (me_var 3)) (ms_cons (ms_fld (cs := [n_Way]) (f := f_met) (h_met T) (me_var 0) (me_var 4)) (ms_one (ms_fld (cs := [n_Way]) (f := f_keys_so) (h_keys_so T) (me_var 0) (me_var 5)))))))), F.bindsN (ps := ["self", "stand", "cells", "rest", "met", "keys_so"]) fun _ _ _ _ _ _ us hl => match us, hl with | [_, _, _, _, _, _], _ => rfl, F.kp⟩
theorem k_Way (T : Txt P w K mg base h) : Mkr P w K mg base (S n_Way) 1 6 m_Way___init__ := by
  obtain ⟨fd, F, b, kp⟩ := o_Way___init__ (P := P) (base := base) T
  exact ⟨_, _, fd, _, rfl, F, by rw [show S n_Way = "Way" by decide +kernel]; exact He.glo_ok T.kin T.glob (T.says.t.d.fact 52 (f := .glo "Way") rfl), He.mkr_ok (T.says.t.d.fact 54 (f := .mkr "Way") rfl), b⟩
theorem o_Way_after (T : Txt P w K mg base h) : ∃ fd, FnM P w K mg base 5 (He.fAd K e_Way_after.at_) fd ["self", "deed", "key", "is_slip", "rests"] m_Way_after ∧ Binds K fd ["self", "deed", "key", "is_slip", "rests"] [] ∧ PySem.W.keepIn K (.ref (He.fAd K e_Way_after.at_)) = true := by
  obtain ⟨fd, F⟩ := T.says.t.d.def_ 42 (d := e_Way_after) rfl
  exact ⟨fd, fn_okD (k := 4) F sc_Way_after (fun cdv hcd A outer s H E hr tk hp => by
    have sc := sc_Way_after
    exact (ms_cons (ms_asg (me_tup (ma_cons (me_meth (cc := n_Stand) (xx := x_ahead_behind) (t_Stand_ahead_behind T) tk hr (me_fld (cs := [n_Way]) (f := f_stand) (h_stand T) (me_var 0)) (ma_cons (me_var 2) (ma_cons (me_var 3) ma_nil))) (ma_cons (me_tup (ma_star (me_fld (cs := [n_Way]) (f := f_keys_so) (h_keys_so T) (me_var 0)) (ma_cons (me_var 2) ma_nil))) ma_nil))) (mg_tup rfl (mgs_cons (mg_name (i := 6) sc.nd rfl (Or.inr rfl)) (mgs_cons (mg_name (i := 7) sc.nd rfl (Or.inr rfl)) mgs_nil)))) (ms_cons (ms_set (i := 5) sc.nd rfl (Or.inl rfl) (me_callTy cm_tuple rfl (z_tuple T) (by decide +kernel) (ma_cons (me_lcV (own := [("sign", 9), ("is_aged", 10)]) (t := (.row [9, 10])) rfl sc.nd (mi_seq (me_fld (cs := [n_Way]) (f := f_cells) (h_cells T) (me_var 0))) (blkOk_by (own := [("sign", 9), ("is_aged", 10)]) (N := N_Way_after) (sc := defScope s_Way_after) (by decide +kernel)) (by decide) (fun _ _ _ _ _ => (pg_tup rfl (pgs_cons (pg_name (i := 9) sc.nd rfl (Or.inl rfl)) (pgs_cons (pg_name (i := 10) sc.nd rfl (Or.inl rfl)) pgs_nil)))) (fun _ _ _ _ _ => mts_nil) (fun _ _ _ _ _ => (me_tup (ma_cons (me_var 9) (ma_cons (me_or (me_var 10) (me_one (me_cmp (om_eq hr.units) (me_var 2) (me_glob rfl (c_LINE T))))) ma_nil))))) ma_nil))) (ms_cons (ms_if (mt_w (mw_and (mt_cmp (om_eq hr.units) (me_var 1) (me_glob rfl (c_OVER T))) (mw_and1 (mt_cmp (om_eq hr.units) (me_var 5) (me_tup ma_nil))))) (ms_one (ms_ret (me_lcV (own := [("rest", 8)]) (t := (.one 8)) rfl sc.nd (mi_seq (me_var 4)) (blkOk_by (own := [("rest", 8)]) (N := N_Way_after) (sc := defScope s_Way_after) (by decide +kernel)) (by decide) (fun _ _ _ _ _ => (pg_name (i := 8) sc.nd rfl (Or.inl rfl))) (fun _ _ _ _ _ => mts_nil) (fun _ _ _ _ _ => (me_make (cc := n_Way) (k_Way T) takes0 hr rfl (ma_cons (me_call (d_stand_at T) takes0 hr rfl (ma_cons (me_var 6) (ma_cons (me_tup ma_nil) (ma_cons (me_var 8) ma_nil)))) (ma_cons (me_tup ma_nil) (ma_cons (me_var 8) (ma_cons (me_op om_addV (me_fld (cs := [n_Way]) (f := f_met) (h_met T) (me_var 0)) (me_var 8)) (ma_cons (me_var 7) ma_nil)))))))))) ms_nil) (ms_cons (ms_if (mt_cmp (om_eq hr.units) (me_var 1) (me_glob rfl (c_PUT T))) (ms_one (ms_set (i := 5) sc.nd rfl (Or.inl rfl) (me_tup (ma_cons (me_tup (ma_cons (me_call (d_closer_of T) tk hr rfl (ma_cons (me_var 2) ma_nil)) (ma_cons me_bl ma_nil))) (ma_star (me_var 5) ma_nil))))) (ms_one (ms_if (mt_cmp (om_eq hr.units) (me_var 1) (me_glob rfl (c_OVER T))) (ms_one (ms_set (i := 5) sc.nd rfl (Or.inl rfl) (me_cutV (me_var 5) (mo_some me_int) mo_none))) ms_nil))) (ms_one (ms_ret (me_lstV (ma_cons (me_make (cc := n_Way) (k_Way T) tk hr rfl (ma_cons (me_call (d_stand_at T) tk hr rfl (ma_cons (me_var 6) (ma_cons (me_var 5) (ma_cons (me_fld (cs := [n_Way]) (f := f_rest) (h_rest T) (me_var 0)) ma_nil)))) (ma_cons (me_var 5) (ma_cons (me_fld (cs := [n_Way]) (f := f_rest) (h_rest T) (me_var 0)) (ma_cons (me_fld (cs := [n_Way]) (f := f_met) (h_met T) (me_var 0)) (ma_cons (me_var 7) ma_nil)))))) ma_nil))))))))), F.bindsN (ps := ["self", "deed", "key", "is_slip", "rests"]) fun _ _ _ _ _ _ us hl => match us, hl with | [_, _, _, _, _], _ => rfl, F.kp⟩
theorem t_Way_after (T : Txt P w K mg base h) : Mt P w K mg base (S n_Way) (S x_after) 5 5 m_Way_after := by
  obtain ⟨fd, F, b, kp⟩ := o_Way_after (P := P) (base := base) T
  have hx : S x_after = "after" := by decide +kernel
  exact ⟨_, _, fd, _, rfl, F, by rw [show S n_Way = "Way" by decide +kernel]; exact He.glo_ok T.kin T.glob (T.says.t.d.fact 52 (f := .glo "Way") rfl), He.cls_ok (T.says.t.d.fact 53 (f := .cls "Way") rfl), by rw [hx]; exact He.meth_ok (T.says.t.d.fact 56 (f := .meth "Way" "after") rfl), b⟩
theorem o_Way_key (T : Txt P w K mg base h) : ∃ fd, FnM P w K mg base 2 (He.fAd K e_Way_key.at_) fd ["self"] m_Way_key ∧ Binds K fd ["self"] [] ∧ PySem.W.keepIn K (.ref (He.fAd K e_Way_key.at_)) = true := by
  obtain ⟨fd, F⟩ := T.says.t.d.def_ 43 (d := e_Way_key) rfl
  exact ⟨fd, fn_okD (k := 1) F sc_Way_key (fun cdv hcd A outer s H E hr tk hp => by
    have sc := sc_Way_key
    exact (ms_one (ms_ret (me_tup (ma_cons (me_meth0 (cc := n_Stand) (xx := x_key) (t_Stand_key T) tk hr (me_fld (cs := [n_Way]) (f := f_stand) (h_stand T) (me_var 0))) (ma_cons (me_fld (cs := [n_Way]) (f := f_cells) (h_cells T) (me_var 0)) (ma_cons (me_fld (cs := [n_Way]) (f := f_rest) (h_rest T) (me_var 0)) ma_nil))))))), F.bindsN (ps := ["self"]) fun _ _ _ _ _ _ us hl => match us, hl with | [_], _ => rfl, F.kp⟩
theorem t_Way_key (T : Txt P w K mg base h) : Mt P w K mg base (S n_Way) (S x_key) 2 1 m_Way_key := by
  obtain ⟨fd, F, b, kp⟩ := o_Way_key (P := P) (base := base) T
  have hx : S x_key = "key" := by decide +kernel
  exact ⟨_, _, fd, _, rfl, F, by rw [show S n_Way = "Way" by decide +kernel]; exact He.glo_ok T.kin T.glob (T.says.t.d.fact 52 (f := .glo "Way") rfl), He.cls_ok (T.says.t.d.fact 53 (f := .cls "Way") rfl), by rw [hx]; exact He.meth_ok (T.says.t.d.fact 57 (f := .meth "Way" "key") rfl), b⟩
theorem o_parting (T : Txt P w K mg base h) : ∃ fd, FnM P w K mg base 12 (He.fAd K e_parting.at_) fd ["one", "other", "flags"] m_parting ∧ Binds K fd ["one", "other", "flags"] [] ∧ PySem.W.keepIn K (.ref (He.fAd K e_parting.at_)) = true := by
  obtain ⟨fd, F⟩ := T.says.t.d.def_ 44 (d := e_parting) rfl
  exact ⟨fd, fn_okD (k := 11) F sc_parting (fun cdv hcd A outer s H E hr tk hp => by
    have sc := sc_parting
    exact (ms_cons (ms_if (mt_val (me_call (d_are_alike T) tk hr rfl (ma_cons (me_var 0) (ma_cons (me_var 1) (ma_cons (me_var 2) ma_nil))))) (ms_one (ms_ret me_non)) ms_nil) (ms_cons (ms_par2 (i := 4) (j := 5) rfl sc.nd rfl rfl (by decide) rfl rfl (ma_cons (me_call (d_rests_of T) tk hr rfl (ma_cons (me_var 2) ma_nil)) (ma_cons me_dictT ma_nil))) (ms_cons (ms_setLcV (i := 3) (own := [("rest", 8)]) (t := (.one 8)) rfl sc.nd rfl rfl (sw_true rfl rfl rfl (by decide +kernel)) (mi_seq (me_var 4)) (blkOk_by (own := [("rest", 8)]) (N := N_parting) (sc := defScope s_parting) (by decide +kernel)) (by decide) (fun _ _ _ _ _ => (pg_name (i := 8) sc.nd rfl (Or.inl rfl))) (fun _ _ _ _ _ => mts_nil) (fun _ _ _ _ _ => (me_make (cc := n_Way) (k_Way T) takes0 hr rfl (ma_cons (me_call (d_stand_at T) takes0 hr rfl (ma_cons (me_tup (ma_cons (me_glob rfl (c_BLANK T)) (ma_cons me_bl (ma_cons (me_tup ma_nil) ma_nil)))) (ma_cons (me_tup ma_nil) (ma_cons (me_var 8) ma_nil)))) (ma_cons (me_tup ma_nil) (ma_cons (me_var 8) (ma_cons (me_var 8) (ma_cons (me_tup ma_nil) ma_nil)))))))) (ms_one (ms_while hp (mt_val me_bl) (ms_cons (ms_set (i := 6) sc.nd rfl (Or.inl rfl) (me_lst ma_nil)) (ms_cons (ms_for hp rfl (mi_seq (me_var 3)) (mg_name (i := 7) sc.nd rfl (Or.inl rfl)) (ms_one (ms_for hp rfl (mi_seq (me_meth (cc := n_Stand) (xx := x_strikes) (t_Stand_strikes T) tk hr (me_fld (cs := [n_Way]) (f := f_stand) (h_stand T) (me_var 7)) (ma_cons (me_ix hr.units (me_var 2) me_int) ma_nil))) (mg_tup rfl (mgs_cons (mg_name (i := 9) sc.nd rfl (Or.inl rfl)) (mgs_cons (mg_name (i := 10) sc.nd rfl (Or.inl rfl)) mgs_nil))) (ms_cons (ms_set (i := 11) sc.nd rfl (Or.inl rfl) (me_call (d_deed_of_both T) tk hr rfl (ma_cons (me_var 0) (ma_cons (me_var 1) (ma_cons (me_fld (cs := [n_Way]) (f := f_stand) (h_stand T) (me_var 7)) (ma_cons (me_var 9) ma_nil)))))) (ms_cons (ms_if (mt_cmp (om_eq hr.units) (me_var 11) (me_str [])) (ms_one (ms_ret (me_tup (ma_cons (me_fld (cs := [n_Way]) (f := f_met) (h_met T) (me_var 7)) (ma_cons (me_tup (ma_star (me_fld (cs := [n_Way]) (f := f_keys_so) (h_keys_so T) (me_var 7)) (ma_cons (me_var 9) ma_nil))) ma_nil))))) ms_nil) (ms_one (ms_for hp rfl (mi_seq (me_meth (cc := n_Way) (xx := x_after) (t_Way_after T) tk hr (me_var 7) (ma_cons (me_var 11) (ma_cons (me_var 9) (ma_cons (me_var 10) (ma_cons (me_var 4) ma_nil)))))) (mg_name (i := 12) sc.nd rfl (Or.inl rfl)) (ms_one (ms_if (mt_cmp (om_notin hr.units) (me_meth0 (cc := n_Way) (xx := x_key) (t_Way_key T) tk hr (me_var 12)) (me_var 5)) (ms_cons (ms_sub hr.units (me_var 5) (me_meth0 (cc := n_Way) (xx := x_key) (t_Way_key T) tk hr (me_var 12)) me_bl) (ms_one (ms_expr (me_bm (t := .list) PySem.F.plainAttrs_list PySem.F.slot_list_append PySem.F.type_list_append mm_append (me_var 6) (ma_cons (me_var 12) ma_nil))))) ms_nil))))))))) (ms_one (ms_set (i := 3) sc.nd rfl (Or.inl rfl) (me_var 6))))))))))), F.bindsN (ps := ["one", "other", "flags"]) fun _ _ _ _ _ _ us hl => match us, hl with | [_, _, _], _ => rfl, F.kp⟩
theorem d_parting (T : Txt P w K mg base h) : Fn P w K mg base "parting" 12 3 m_parting := by
  obtain ⟨fd, F, b, kp⟩ := o_parting (P := P) (base := base) T
  exact ⟨_, fd, _, rfl, F, He.glo_ok T.kin T.glob (T.says.t.d.fact 19 (f := .glo "parting") rfl), kp, b⟩
theorem q_parting (T : Txt P w K mg base h) : Fn P w K mg base "parting" 12 3 p_parting := (d_parting T).pureV
theorem fin (T : Txt0 P w K mg h) : ∃ fd : FuncData, (∀ (s : Shared) (u : Value), BindsTo s fd ⟨[u], []⟩ [("_law_script", u)]) ∧ ∀ base : Heap, K.In base → base.Ns mainGlobals mg → TabsB K mg base → FnM P w K mg base 13 (He.fAd K e_law.at_) fd ["_law_script"] m_law := by
  obtain ⟨fd, F⟩ := T.says.t.d.def_ 45 (d := e_law) rfl
  have b := FunD.bindsA (ps := ["_law_script"]) F fun _ _ _ _ _ _ us hl => match us, hl with | [_], _ => rfl
  refine ⟨fd, fun s u => b s [u] rfl, fun base _ _ tb => ?_⟩
  have T : Txt P w K mg base h := ⟨T, tb⟩
  exact fn_okD (k := 12) F sc_law (fun cdv hcd A outer s H E hr tk hp => by
    have sc := sc_law
    exact (ms_cons (ms_set (i := 1) sc.nd rfl (Or.inl rfl) (me_call (d_law_begun T) tk hr rfl (ma_cons (me_var 0) ma_nil))) (ms_cons (ms_for hp rfl (mi_range1 rfl (z_range T) (ma_cons me_int ma_nil)) (mg_name (i := 2) sc.nd rfl (Or.inl rfl)) (ms_cons (ms_par3 (i := 6) (j := 7) (l := 8) rfl sc.nd rfl rfl rfl (by decide) (by decide) (by decide) rfl rfl rfl (ma_cons (me_callTy cm_listV rfl (z_list T) (by decide +kernel) (ma_cons (me_call (d_law_book T) tk hr rfl (ma_cons (me_var 1) ma_nil)) ma_nil)) (ma_cons (me_cmp (om_eq hr.units) (me_call (d_law_draw T) tk hr rfl (ma_cons (me_var 1) (ma_cons me_int ma_nil))) me_int) (ma_cons (me_cmp (om_eq hr.units) (me_call (d_law_draw T) tk hr rfl (ma_cons (me_var 1) (ma_cons me_int ma_nil))) me_int) ma_nil)))) (ms_cons (ms_set (i := 3) sc.nd rfl (Or.inl rfl) (me_op om_addV (me_lstV (ma_cons (me_str [110, 101, 118, 101, 114]) (ma_cons (me_str [110, 101, 118, 101, 114]) ma_nil))) (me_cutV (me_var 6) (mo_some me_int) mo_none))) (ms_cons (ms_set (i := 4) sc.nd rfl (Or.inl rfl) (me_lst (ma_cons (me_tup (ma_cons (me_op om_addV (me_op om_addV (me_cutV (me_var 6) mo_none (mo_some me_int)) (me_lstV (ma_cons (me_str [111, 119, 110]) ma_nil))) (me_cutV (me_var 6) (mo_some me_int) mo_none)) (ma_cons (me_op om_addV (me_op om_addV (me_cutV (me_var 6) mo_none (mo_some me_int)) (me_lstV (ma_cons (me_ix hr.units (me_lstV (ma_cons (me_str [97, 110, 121]) (ma_cons (me_str [111, 110, 101]) ma_nil))) (me_call (d_law_draw T) tk hr rfl (ma_cons (me_var 1) (ma_cons me_int ma_nil)))) ma_nil))) (me_cutV (me_var 6) (mo_some me_int) mo_none)) (ma_cons me_bl ma_nil)))) ma_nil))) (ms_cons (ms_set (i := 5) sc.nd rfl (Or.inl rfl) (me_op om_addV (me_op om_addV (me_cutV (me_var 6) mo_none (mo_some me_int)) (me_lstV (ma_cons (me_ix hr.units (me_lstV (ma_cons (me_str [97, 110, 121]) (ma_cons (me_str [110, 101, 118, 101, 114]) ma_nil))) (me_call (d_law_draw T) tk hr rfl (ma_cons (me_var 1) (ma_cons me_int ma_nil)))) ma_nil))) (me_cutV (me_var 6) (mo_some me_int) mo_none))) (ms_cons (ms_expr (me_bm (t := .list) PySem.F.plainAttrs_list PySem.F.slot_list_append PySem.F.type_list_append mm_append (me_var 4) (ma_cons (me_tup (ma_cons (me_op om_addV (me_cutV (me_var 5) mo_none (mo_some me_int)) (me_lstV (ma_cons (me_str [110, 101, 118, 101, 114]) ma_nil))) (ma_cons (me_op om_addV (me_cutV (me_var 5) mo_none (mo_some me_int)) (me_lstV (ma_cons (me_str [108, 105, 110, 101]) ma_nil))) (ma_cons me_bl ma_nil)))) ma_nil))) (ms_cons (ms_expr (me_bm (t := .list) PySem.F.plainAttrs_list PySem.F.slot_list_append PySem.F.type_list_append mm_append (me_var 4) (ma_cons (me_tup (ma_cons (me_op om_addV (me_cutV (me_var 3) mo_none (mo_some me_int)) (me_lstV (ma_cons (me_str [110, 101, 118, 101, 114]) ma_nil))) (ma_cons (me_op om_addV (me_cutV (me_var 3) mo_none (mo_some me_int)) (me_lstV (ma_cons (me_str [108, 105, 110, 101]) ma_nil))) (ma_cons (me_var 8) ma_nil)))) ma_nil))) (ms_cons (ms_expr (me_bm (t := .list) PySem.F.plainAttrs_list PySem.F.slot_list_append PySem.F.type_list_append mm_append (me_var 4) (ma_cons (me_tup (ma_cons (me_op om_addV (me_op om_addV (me_cutV (me_var 3) mo_none (mo_some me_int)) (me_lstV (ma_cons (me_str [111, 119, 110]) ma_nil))) (me_cutV (me_var 3) (mo_some me_int) mo_none)) (ma_cons (me_op om_addV (me_op om_addV (me_cutV (me_var 3) mo_none (mo_some me_int)) (me_lstV (ma_cons (me_str [110, 101, 118, 101, 114]) ma_nil))) (me_cutV (me_var 3) (mo_some me_int) mo_none)) (ma_cons (me_var 8) ma_nil)))) ma_nil))) (ms_cons (ms_expr (me_bm (t := .list) PySem.F.plainAttrs_list PySem.F.slot_list_append PySem.F.type_list_append mm_append (me_var 4) (ma_cons (me_tup (ma_cons (me_op om_addV (me_op om_addV (me_cutV (me_var 3) mo_none (mo_some me_int)) (me_lstV (ma_cons (me_str [111, 119, 110]) ma_nil))) (me_cutV (me_var 3) (mo_some me_int) mo_none)) (ma_cons (me_op om_addV (me_op om_addV (me_cutV (me_var 3) mo_none (mo_some me_int)) (me_lstV (ma_cons (me_str [111, 110, 101]) ma_nil))) (me_cutV (me_var 3) (mo_some me_int) mo_none)) (ma_cons (me_var 8) ma_nil)))) ma_nil))) (ms_cons (ms_for hp rfl (mi_seq (me_var 4)) (mg_tup rfl (mgs_cons (mg_name (i := 9) sc.nd rfl (Or.inl rfl)) (mgs_cons (mg_name (i := 10) sc.nd rfl (Or.inl rfl)) (mgs_cons (mg_name (i := 11) sc.nd rfl (Or.inl rfl)) mgs_nil)))) (ms_cons (ms_par3 (i := 12) (j := 13) (l := 14) rfl sc.nd rfl rfl rfl (by decide) (by decide) (by decide) rfl rfl rfl (ma_cons (me_callTy cm_tuple rfl (z_tuple T) (by decide +kernel) (ma_cons (me_var 9) ma_nil)) (ma_cons (me_callTy cm_tuple rfl (z_tuple T) (by decide +kernel) (ma_cons (me_var 10) ma_nil)) (ma_cons (me_tup (ma_cons (me_var 11) (ma_cons (me_var 7) ma_nil))) ma_nil)))) (ms_one (ms_if (mt_not (mt_val (me_call (d_law_like T) tk hr rfl (ma_cons (me_lstV (ma_cons (me_call (q_are_alike T) tk hr rfl (ma_cons (me_var 12) (ma_cons (me_var 13) (ma_cons (me_var 14) ma_nil)))) (ma_cons (me_call (q_parting T) tk hr rfl (ma_cons (me_var 13) (ma_cons (me_var 12) (ma_cons (me_var 14) ma_nil)))) ma_nil))) (ma_cons (me_lstV (ma_cons me_bl (ma_cons me_non ma_nil))) ma_nil))))) (ms_one (ms_ret me_bl)) ms_nil)))) (ms_cons (ms_par2 (i := 12) (j := 13) rfl sc.nd rfl rfl (by decide) rfl rfl (ma_cons (me_callTy cm_tuple rfl (z_tuple T) (by decide +kernel) (ma_cons (me_var 3) ma_nil)) (ma_cons (me_op om_addV (me_tup (ma_cons (me_str [110, 101, 118, 101, 114]) (ma_cons (me_str [110, 101, 118, 101, 114]) ma_nil))) (me_cutV (me_call (d_law_book T) tk hr rfl (ma_cons (me_var 1) ma_nil)) (mo_some me_int) mo_none)) ma_nil))) (ms_cons (ms_if (mt_cmp om_isnot (me_call (q_are_alike T) tk hr rfl (ma_cons (me_var 12) (ma_cons (me_var 13) (ma_cons (me_tup (ma_cons (me_var 8) (ma_cons me_bl ma_nil))) ma_nil)))) me_bl) (ms_one (ms_ret me_bl)) ms_nil) (ms_cons (ms_par2 (i := 12) (j := 13) rfl sc.nd rfl rfl (by decide) rfl rfl (ma_cons (me_op om_addV (me_tup (ma_cons (me_str [97, 108, 119, 97, 121, 115]) ma_nil)) (me_callTy cm_tuple rfl (z_tuple T) (by decide +kernel) (ma_cons (me_cutV (me_var 6) (mo_some me_int) mo_none) ma_nil))) (ma_cons (me_op om_addV (me_tup (ma_cons (me_str [102, 114, 101, 101]) ma_nil)) (me_callTy cm_tuple rfl (z_tuple T) (by decide +kernel) (ma_cons (me_cutV (me_var 6) (mo_some me_int) mo_none) ma_nil))) ma_nil))) (ms_one (ms_if (mt_cmp om_isnot (me_call (q_are_alike T) tk hr rfl (ma_cons (me_var 12) (ma_cons (me_var 13) (ma_cons (me_tup (ma_cons (me_var 8) (ma_cons me_bl ma_nil))) ma_nil)))) me_bl) (ms_one (ms_ret me_bl)) ms_nil))))))))))))))) (ms_one (ms_ret me_bl)))))
end
theorem ob_eq (s : PySem.W.SharedT) : ob s = hk.obs s.abs := obsL_eq (HandSHeadRun.getT_eq s)
end GXk22
open PySem PySem.W PySem.Calls PyProof.Rows
theorem GXk22.end_ (pure : ∀ ns : List Int, ns.length ≤ 63 → ∃ h', GXk22.m_law [.ro (ns.map MP.MV.int)] [] = .ok (.bl true) h') : PySem.Challenge.rw_ownclosers_k22_whole_choices_without_eff.Holds := by
  w_on; o_law
  refine HandSHeadRun.head_any (r := OpenLaw.row PySem.Challenge.rw_ownclosers_k22_whole_choices_without_eff) (q := view (OpenLaw.row PySem.Challenge.rw_ownclosers_k22_whole_choices_without_eff).prog [59]) (H := GXk22.hk) (ob := GXk22.ob) (M := 20000) (loose := GXk22.loose) (d := HandSHeadRun.topDef (OpenLaw.row PySem.Challenge.rw_ownclosers_k22_whole_choices_without_eff).prog 59) (kwd := []) GXk22.ob_eq
    (by kernel_rfl) (fun s => by kernel_rfl) GXk22.run (by kernel_rfl) (by kernel_rfl) (by kernel_rfl) (by rfl) (by first | assumption | decide +kernel) (by decide +kernel) ⟨rfl, rfl, rfl, rfl, rfl, by decide +kernel⟩ ?hw ?hc
  case hw => w_witness2
  case hc =>
    refine MP.walk_mir (l := PySem.Challenge.rw_ownclosers_k22_whole_choices_without_eff) (k := 13) (x := "_law_script") (m := GXk22.m_law) rfl (by kernel_rfl) ⟨⟨rfl, by decide, by decide⟩, rfl⟩ pure ?F
    intro w mg f h Y G hmg0
    obtain ⟨K, KX, c⟩ := Y
    have hmg : mg ("law" : PySem.Str) = some (.ref f) := by
      have e : (HandSHeadRun.topDef (OpenLaw.row PySem.Challenge.rw_ownclosers_k22_whole_choices_without_eff).prog 59).name = ("law" : PySem.Str) := by kernel_rfl
      rw [← e]
      exact hmg0
    have e := hmg.symm.trans (He.glo_ok KX G (c.t.d.fact 20 (f := .glo "law") rfl))
    cases e
    obtain ⟨fd, hb, hF⟩ := GXk22.fin (P := (PySem.Challenge.rw_ownclosers_k22_whole_choices_without_eff).prog) (w := w) ⟨KX, G, c, rfl, by decide +kernel⟩
    exact ⟨K, fd, KX, c.tabs, hb, hF⟩


end
section
namespace MP.Pr
open MP
def v_ALWAYS : MV := (.str [97, 108, 119, 97, 121, 115])
def v_FREE : MV := (.str [102, 114, 101, 101])
def v_APART : MV := (.str [97, 112, 97, 114, 116])
def v_SAME : MV := (.str [115, 97, 109, 101])
def v_OWN : MV := (.str [111, 119, 110])
def v_ANY : MV := (.str [97, 110, 121])
def v_AT_LINES : MV := (.str [108, 105, 110, 101])
def v_CHOICES : MV := (.tup [(.tup [(.str [97, 108, 119, 97, 121, 115]), (.str [102, 114, 101, 101]), (.str [110, 101, 118, 101, 114])]), (.tup [(.str [97, 108, 119, 97, 121, 115]), (.str [97, 112, 97, 114, 116]), (.str [110, 101, 118, 101, 114])]), (.tup [(.str [115, 97, 109, 101]), (.str [110, 111, 110, 101])]), (.tup [(.str [111, 119, 110]), (.str [97, 110, 121]), (.str [110, 101, 118, 101, 114])]), (.tup [(.str [111, 119, 110]), (.str [97, 110, 121]), (.str [111, 110, 101])]), (.tup [(.str [110, 101, 118, 101, 114]), (.str [108, 105, 110, 101])])])
def v_OPENERS : MV := (.str [40, 91])
def v_CLOSERS : MV := (.str [41, 93])
def v_QUOTE : MV := (.str [39])
def v_BLANK : MV := (.str [32])
def v_LINE : MV := (.str [47])
def v_LETTERS : MV := (.str [97, 98, 99, 100, 101, 102, 103, 104, 105, 106, 107, 108, 109, 110, 111, 112, 113, 114, 115, 116, 117, 118, 119, 120, 121, 122])
def v_SIGNS : MV := (.str [40, 91, 41, 93, 39, 32, 47, 97, 98, 99, 100, 101, 102, 103, 104, 105, 106, 107, 108, 109, 110, 111, 112, 113, 114, 115, 116, 117, 118, 119, 120, 121, 122])
def v_MOST_TEXT : MV := (.int 200)
def v_BACK : MV := (.str [98, 97, 99, 107])
def v_RIGHT : MV := (.str [114, 105, 103, 104, 116])
def v_END : MV := (.str [101, 110, 100])
def v_MOST_KEYS : MV := (.int 400)
abbrev n_Page : CP := [80, 97, 103, 101]
abbrev x_does_put : CP := [100, 111, 101, 115, 95, 112, 117, 116]
abbrev x_go_back : CP := [103, 111, 95, 98, 97, 99, 107]
abbrev x_go_over : CP := [103, 111, 95, 111, 118, 101, 114]
abbrev x_is_next_own : CP := [105, 115, 95, 110, 101, 120, 116, 95, 111, 119, 110]
abbrev x_next_sign : CP := [110, 101, 120, 116, 95, 115, 105, 103, 110]
abbrev x_press : CP := [112, 114, 101, 115, 115]
abbrev x_right_text : CP := [114, 105, 103, 104, 116, 95, 116, 101, 120, 116]
abbrev x_told : CP := [116, 111, 108, 100]
abbrev x_type_sign : CP := [116, 121, 112, 101, 95, 115, 105, 103, 110]
abbrev f_left : CP := [108, 101, 102, 116]
abbrev f_right : CP := [114, 105, 103, 104, 116]
def b_need_book : MS := sSeq (sIf (tOrM (tNotM (tVal (eBlt mIsi (aCons (eVar 0) (aCons (eC (.ty .tuple)) (aNil)))))) (tCmp mNe (eBlt mLen (aCons (eVar 0) (aNil))) (eBlt mLen (aCons (eC v_CHOICES) (aNil))))) (sNever) (sNil)) (sSeq (sFor (jEnum (aCons (eVar 0) (aNil))) (gTp 2 (gC (gNm 1) (gC (gNm 2) (gN)))) (sIf (tOrM (tNotM (tVal (eBlt mIsi (aCons (eVar 2) (aCons (eC (.ty .str)) (aNil)))))) (tCmp mNotIn (eVar 2) (eOp mIx (eC v_CHOICES) (eVar 1)))) (sNever) (sNil))) (sRet (eVar 0)))
def m_need_book : MF := runFn 3 b_need_book
def b_is_text : MS := sRet (eAnd (eBlt mIsi (aCons (eVar 0) (aCons (eC (.ty .str)) (aNil)))) (eAnd (eOp mLe (eBlt mLen (aCons (eVar 0) (aNil))) (eC v_MOST_TEXT)) (eBlt mAll (aCons (eLv (jSeq (eVar 0)) [1] (.one 1) (tYesM) (eOp mIn (eVar 1) (eC v_SIGNS))) (aNil)))))
def m_is_text : MF := runFn 2 b_is_text
def b_is_closing : MS := sRet (eAnd (eOp mNe (eVar 0) (eC (.str []))) (eOp mIn (eVar 0) (eOp mAddV (eC v_CLOSERS) (eC v_QUOTE))))
def m_is_closing : MF := runFn 1 b_is_closing
def b_is_place_in : MS := sSeq (sIf (tOrM (tNotM (tVal (eBlt mIsi (aCons (eVar 0) (aCons (eC (.ty .int)) (aNil)))))) (tOrM (tVal (eBlt mIsi (aCons (eVar 0) (aCons (eC (.ty .bool)) (aNil))))) (tNotM (tB (eChain mLe mLt (eC (.int 0)) (eVar 0) (eBlt mLen (aCons (eVar 1) (aNil)))))))) (sRet (eC (.bl false))) (sNil)) (sRet (eCall 1 m_is_closing (aCons (eOp mIx (eVar 1) (eVar 0)) (aNil))))
def m_is_place_in : MF := runFn 2 b_is_place_in
def b_is_page : MS := sSeq (sIf (tOrM (tNotM (tVal (eBlt mIsi (aCons (eVar 0) (aCons (eC (.ty .tuple)) (aNil)))))) (tOrM (tCmp mNe (eBlt mLen (aCons (eVar 0) (aNil))) (eC (.int 3))) (tOrM (tNotM (tVal (eCall 1 m_is_text (aCons (eOp mIx (eVar 0) (eC (.int 0))) (aNil))))) (tNotM (tVal (eCall 1 m_is_text (aCons (eOp mIx (eVar 0) (eC (.int 1))) (aNil)))))))) (sRet (eC (.bl false))) (sNil)) (sSeq (sIf (tOrM (tNotM (tVal (eBlt mIsi (aCons (eOp mIx (eVar 0) (eC (.int 2))) (aCons (eC (.ty .tuple)) (aNil)))))) (tNotM (tVal (eBlt mAll (aCons (eLv (jSeq (eOp mIx (eVar 0) (eC (.int 2)))) [3] (.one 3) (tYesM) (eCall 2 m_is_place_in (aCons (eVar 3) (aCons (eOp mIx (eVar 0) (eC (.int 1))) (aNil))))) (aNil)))))) (sRet (eC (.bl false))) (sNil)) (sRet (eBlt mAll (aCons (eLv (jZip (aCons (eOp mIx (eVar 0) (eC (.int 2))) (aCons (eCutV (eOp mIx (eVar 0) (eC (.int 2))) (pSo (eC (.int 1))) (pNo)) (aNil)))) [1, 2] (.row [1, 2]) (tYesM) (eOp mLt (eVar 1) (eVar 2))) (aNil)))))
def m_is_page : MF := runFn 4 b_is_page
def b_need_page : MS := sIf (tNotM (tVal (eCall 1 m_is_page (aCons (eVar 0) (aNil))))) (sNever) (sNil)
def m_need_page : MF := runFn 1 b_need_page
def b_is_sign : MS := sRet (eAnd (eBlt mIsi (aCons (eVar 0) (aCons (eC (.ty .str)) (aNil)))) (eAnd (eOp mEq (eBlt mLen (aCons (eVar 0) (aNil))) (eC (.int 1))) (eOp mIn (eVar 0) (eC v_SIGNS))))
def m_is_sign : MF := runFn 1 b_is_sign
def b_is_key : MS := sRet (eOr (eCall 1 m_is_sign (aCons (eVar 0) (aNil))) (eAnd (eBlt mIsi (aCons (eVar 0) (aCons (eC (.ty .str)) (aNil)))) (eOp mIn (eVar 0) (eTup (aCons (eC v_BACK) (aCons (eC v_RIGHT) (aCons (eC v_END) (aNil))))))))
def m_is_key : MF := runFn 1 b_is_key
def b_need_keys : MS := sSeq (sIf (tOrM (tNotM (tVal (eBlt mIsi (aCons (eVar 0) (aCons (eC (.ty .tuple)) (aNil)))))) (tCmp mGt (eBlt mLen (aCons (eVar 0) (aNil))) (eC v_MOST_KEYS))) (sNever) (sNil)) (sFor (jEnum (aCons (eVar 0) (aNil))) (gTp 2 (gC (gNm 1) (gC (gNm 2) (gN)))) (sIf (tNotM (tVal (eCall 1 m_is_key (aCons (eVar 2) (aNil))))) (sNever) (sNil)))
def m_need_keys : MF := runFn 3 b_need_keys
def b_closer_of : MS := sSeq (sIf (tCmp mEq (eVar 0) (eC v_QUOTE)) (sRet (eC v_QUOTE)) (sNil)) (sRet (eIf (tAndM (tCmp mNe (eVar 0) (eC (.str []))) (tCmp mIn (eVar 0) (eC v_OPENERS))) (eOp mIx (eC v_CLOSERS) (eBm .str mIndexS (eC v_OPENERS) (aCons (eVar 0) (aNil)))) (eC (.str []))))
def m_closer_of : MF := runFn 1 b_closer_of
def b_Page_next_sign : MS := sRet (eIf (tCmp mNe (eFld [n_Page] f_right (eVar 0)) (eLstV (aNil))) (eOp mIx (eOp mIx (eFld [n_Page] f_right (eVar 0)) (eNeg (eC (.int 1)))) (eC (.int 0))) (eC (.str [])))
def m_Page_next_sign : MF := runFn 1 b_Page_next_sign
def b_Page_is_next_own : MS := sRet (eAnd (eOp mNe (eFld [n_Page] f_right (eVar 0)) (eLstV (aNil))) (eOp mIx (eOp mIx (eFld [n_Page] f_right (eVar 0)) (eNeg (eC (.int 1)))) (eC (.int 1))))
def m_Page_is_next_own : MF := runFn 1 b_Page_is_next_own
def b_Page_go_back : MS := sIf (tCmp mNe (eFld [n_Page] f_left (eVar 0)) (eC (.str []))) (sSeq (sAsg (eCall 1 m_closer_of (aCons (eOp mIx (eFld [n_Page] f_left (eVar 0)) (eNeg (eC (.int 1)))) (aNil))) (gNm 2)) (sSeq (sFldM [n_Page] f_left (eVar 0) (eCutV (eFld [n_Page] f_left (eVar 0)) (pNo) (pSo (eNeg (eC (.int 1)))))) (sSeq (sAsg (eAnd (eOp mNe (eVar 2) (eC (.str []))) (eOp mEq (eMeth n_Page x_next_sign 1 m_Page_next_sign (eVar 0) aNil) (eVar 2))) (gNm 3)) (sIf (tAndM (tVal (eVar 3)) (tOrM (tCmp mEq (eOp mIx (eVar 1) (eC (.int 4))) (eC v_ANY)) (tAndM (tCmp mEq (eOp mIx (eVar 1) (eC (.int 4))) (eC v_OWN)) (tVal (eMeth n_Page x_is_next_own 1 m_Page_is_next_own (eVar 0) aNil))))) (sExpr (eBm .list mPop (eFld [n_Page] f_right (eVar 0)) aNil)) (sNil))))) (sNil)
def m_Page_go_back : MF := runFn 4 b_Page_go_back
def b_Page_go_over : MS := sIf (tCmp mNe (eFld [n_Page] f_right (eVar 0)) (eLstV (aNil))) (sFldAug [n_Page] f_left mIAdd (eVar 0) (eOp mIx (eBm .list mPop (eFld [n_Page] f_right (eVar 0)) aNil) (eC (.int 0)))) (sNil)
def m_Page_go_over : MF := runFn 1 b_Page_go_over
def b_is_within : MS := sSeq (sAsg (eBm .str mCount (eCutV (eVar 0) (pSo (eOp mAddV (eBm .str mRfind (eVar 0) (aCons (eC v_LINE) (aNil))) (eC (.int 1)))) (pNo)) (aCons (eC v_QUOTE) (aNil))) (gNm 1)) (sRet (eOp mEq (eOp mSub (eVar 1) (eOp mMulV (eC (.int 2)) (eOp mFdiv (eVar 1) (eC (.int 2))))) (eC (.int 1))))
def m_is_within : MF := runFn 2 b_is_within
def b_is_free : MS := sRet (eOr (eOp mEq (eVar 0) (eC (.str []))) (eOp mIn (eVar 0) (eOp mAddV (eOp mAddV (eOp mAddV (eC v_CLOSERS) (eC v_QUOTE)) (eC v_BLANK)) (eC v_LINE))))
def m_is_free : MF := runFn 1 b_is_free
def b_is_letter : MS := sRet (eAnd (eOp mNe (eVar 0) (eC (.str []))) (eOp mIn (eVar 0) (eC v_LETTERS)))
def m_is_letter : MF := runFn 1 b_is_letter
def b_Page_does_put : MS := sSeq (sIf (tAndM (tCmp mNe (eOp mIx (eVar 1) (eC (.int 2))) (eC v_SAME)) (tVal (eCall 1 m_is_within (aCons (eFld [n_Page] f_left (eVar 0)) (aNil))))) (sRet (eC (.bl false))) (sNil)) (sSeq (sIf (tCmp mIn (eVar 2) (eC v_OPENERS)) (sRet (eOr (eOp mEq (eOp mIx (eVar 1) (eC (.int 0))) (eC v_ALWAYS)) (eAnd (eOp mEq (eOp mIx (eVar 1) (eC (.int 0))) (eC v_FREE)) (eCall 1 m_is_free (aCons (eMeth n_Page x_next_sign 1 m_Page_next_sign (eVar 0) aNil) (aNil)))))) (sNil)) (sSeq (sIf (tCmp mNe (eOp mIx (eVar 1) (eC (.int 1))) (eC v_APART)) (sRet (eOp mEq (eOp mIx (eVar 1) (eC (.int 1))) (eC v_ALWAYS))) (sNil)) (sSeq (sAsg (eCutV (eFld [n_Page] f_left (eVar 0)) (pSo (eNeg (eC (.int 1)))) (pNo)) (gNm 3)) (sRet (eAnd (eCall 1 m_is_free (aCons (eMeth n_Page x_next_sign 1 m_Page_next_sign (eVar 0) aNil) (aNil))) (eAnd (eNot (eCall 1 m_is_letter (aCons (eVar 3) (aNil)))) (eOp mNe (eVar 3) (eC v_QUOTE))))))))
def m_Page_does_put : MF := runFn 4 b_Page_does_put
def b_Page_type_sign : MS := sSeq (sAsg (eAnd (eCall 1 m_is_closing (aCons (eVar 2) (aNil))) (eOp mEq (eMeth n_Page x_next_sign 1 m_Page_next_sign (eVar 0) aNil) (eVar 2))) (gNm 3)) (sSeq (sIf (tAndM (tVal (eVar 3)) (tOrM (tCmp mEq (eOp mIx (eVar 1) (eC (.int 3))) (eC v_ANY)) (tAndM (tCmp mEq (eOp mIx (eVar 1) (eC (.int 3))) (eC v_OWN)) (tVal (eMeth n_Page x_is_next_own 1 m_Page_is_next_own (eVar 0) aNil))))) (sSeq (sExpr (eMeth n_Page x_go_over 1 m_Page_go_over (eVar 0) aNil)) (sRetN)) (sNil)) (sSeq (sAsg (eCall 1 m_closer_of (aCons (eVar 2) (aNil))) (gNm 4)) (sSeq (sAsg (eAnd (eOp mNe (eVar 4) (eC (.str []))) (eMeth n_Page x_does_put 3 m_Page_does_put (eVar 0) (aCons (eVar 1) (aCons (eVar 2) (aNil))))) (gNm 5)) (sSeq (sFldAug [n_Page] f_left mIAdd (eVar 0) (eVar 2)) (sSeq (sIf (tVal (eVar 5)) (sExpr (eBm .list mAppend (eFld [n_Page] f_right (eVar 0)) (aCons (eTup (aCons (eVar 4) (aCons (eC (.bl true)) (aNil)))) (aNil)))) (sNil)) (sIf (tAndM (tCmp mEq (eVar 2) (eC v_LINE)) (tCmp mEq (eOp mIx (eVar 1) (eC (.int 5))) (eC v_AT_LINES))) (sFldM [n_Page] f_right (eVar 0) (eLc (jSeq (eFld [n_Page] f_right (eVar 0))) [6, 7] (.row [6, 7]) (tYesM) (eTup (aCons (eVar 6) (aCons (eC (.bl false)) (aNil)))))) (sNil)))))))
def m_Page_type_sign : MF := runFn 8 b_Page_type_sign
def b_Page_press : MS := sIf (tCmp mEq (eVar 2) (eC v_BACK)) (sExpr (eMeth n_Page x_go_back 2 m_Page_go_back (eVar 0) (aCons (eVar 1) (aNil)))) (sIf (tCmp mEq (eVar 2) (eC v_RIGHT)) (sExpr (eMeth n_Page x_go_over 1 m_Page_go_over (eVar 0) aNil)) (sIf (tCmp mEq (eVar 2) (eC v_END)) (sWhile (tVal (eMeth n_Page x_is_next_own 1 m_Page_is_next_own (eVar 0) aNil)) (sExpr (eMeth n_Page x_go_over 1 m_Page_go_over (eVar 0) aNil))) (sExpr (eMeth n_Page x_type_sign 3 m_Page_type_sign (eVar 0) (aCons (eVar 1) (aCons (eVar 2) (aNil)))))))
def m_Page_press : MF := runFn 3 b_Page_press
def b_Page_right_text : MS := sRet (eBm .str mJoin (eC (.str [])) (aCons (eLv (jSeq (eRevV (eFld [n_Page] f_right (eVar 0)))) [1, 2] (.row [1, 2]) (tYesM) (eVar 1)) (aNil)))
def m_Page_right_text : MF := runFn 3 b_Page_right_text
def b_Page_told : MS := sSeq (sAsg (eBlt mTuple (aCons (eLv (jEnum (aCons (eRevV (eFld [n_Page] f_right (eVar 0))) (aNil))) [2, 3] (.row [2, 3]) (tVal (eOp mIx (eVar 3) (eC (.int 1)))) (eVar 2)) (aNil))) (gNm 1)) (sRet (eTup (aCons (eFld [n_Page] f_left (eVar 0)) (aCons (eMeth n_Page x_right_text 1 m_Page_right_text (eVar 0) aNil) (aCons (eVar 1) (aNil))))))
def m_Page_told : MF := runFn 4 b_Page_told
def b_Page___init__ : MS := sSeq (sFldM [n_Page] f_left (eVar 0) (eOp mIx (eVar 1) (eC (.int 0)))) (sFldM [n_Page] f_right (eVar 0) (eRev (eLv (jEnum (aCons (eOp mIx (eVar 1) (eC (.int 1))) (aNil))) [2, 3] (.row [2, 3]) (tYesM) (eTup (aCons (eVar 3) (aCons (eOp mIn (eVar 2) (eOp mIx (eVar 1) (eC (.int 2)))) (aNil)))))))
def m_Page___init__ : MF := runFn 4 b_Page___init__
def b_pressed : MS := sSeq (sExpr (eCall 1 m_need_book (aCons (eVar 0) (aNil)))) (sSeq (sExpr (eCall 1 m_need_page (aCons (eVar 1) (aNil)))) (sSeq (sExpr (eCall 1 m_need_keys (aCons (eVar 2) (aNil)))) (sSeq (sAsg (eMake n_Page 2 m_Page___init__ (aCons (eVar 1) (aNil))) (gNm 3)) (sSeq (sFor (jSeq (eVar 2)) (gNm 4) (sExpr (eMeth n_Page x_press 3 m_Page_press (eVar 3) (aCons (eVar 0) (aCons (eVar 4) (aNil)))))) (sRet (eMeth n_Page x_told 1 m_Page_told (eVar 3) aNil))))))
def m_pressed : MF := runFn 5 b_pressed
abbrev n_Reading : CP := [82, 101, 97, 100, 105, 110, 103]
abbrev x_can_read : CP := [99, 97, 110, 95, 114, 101, 97, 100]
abbrev x_is_quoted : CP := [105, 115, 95, 113, 117, 111, 116, 101, 100]
abbrev x_read : CP := [114, 101, 97, 100]
abbrev f_before : CP := [98, 101, 102, 111, 114, 101]
abbrev f_has_words : CP := [104, 97, 115, 95, 119, 111, 114, 100, 115]
abbrev f_is_open : CP := [105, 115, 95, 111, 112, 101, 110]
abbrev f_needs : CP := [110, 101, 101, 100, 115]
def b_need_manner : MS := sSeq (sIf (tOrM (tNotM (tVal (eBlt mIsi (aCons (eVar 0) (aCons (eC (.ty .tuple)) (aNil)))))) (tOrM (tCmp mNe (eBlt mLen (aCons (eVar 0) (aNil))) (eC (.int 3))) (tNotM (tVal (eBlt mAll (aCons (eLv (jSeq (eVar 0)) [1] (.one 1) (tYesM) (eBlt mIsi (aCons (eVar 1) (aCons (eC (.ty .bool)) (aNil))))) (aNil))))))) (sNever) (sNil)) (sRet (eVar 0))
def m_need_manner : MF := runFn 2 b_need_manner
def b_need_text : MS := sSeq (sIf (tOrM (tNotM (tVal (eBlt mIsi (aCons (eVar 0) (aCons (eC (.ty .str)) (aNil)))))) (tCmp mGt (eBlt mLen (aCons (eVar 0) (aNil))) (eC v_MOST_TEXT))) (sNever) (sNil)) (sFor (jEnum (aCons (eVar 0) (aNil))) (gTp 2 (gC (gNm 1) (gC (gNm 2) (gN)))) (sIf (tCmp mNotIn (eVar 2) (eC v_SIGNS)) (sNever) (sNil)))
def m_need_text : MF := runFn 3 b_need_text
def b_need_behind : MS := sSeq (sExpr (eCall 1 m_need_text (aCons (eVar 1) (aNil)))) (sIf (tAndM (tCmp mNe (eVar 1) (eC (.str []))) (tNotM (tVal (eOp mIx (eVar 0) (eC (.int 2)))))) (sNever) (sNil))
def m_need_behind : MF := runFn 2 b_need_behind
def b_Reading_is_quoted : MS := sRet (eOp mEq (eCutV (eFld [n_Reading] f_needs (eVar 0)) (pSo (eNeg (eC (.int 1)))) (pNo)) (eC v_QUOTE))
def m_Reading_is_quoted : MF := runFn 1 b_Reading_is_quoted
def b_Reading_can_read : MS := sSeq (sIf (tVal (eMeth n_Reading x_is_quoted 1 m_Reading_is_quoted (eVar 0) aNil)) (sRet (eOp mNe (eVar 1) (eC v_LINE))) (sNil)) (sSeq (sIf (tVal (eFld [n_Reading] f_is_open (eVar 0))) (sRet (eCall 1 m_is_letter (aCons (eVar 1) (aNil)))) (sNil)) (sRet (eOr (eOp mNotIn (eVar 1) (eC v_CLOSERS)) (eOp mEq (eCutV (eFld [n_Reading] f_needs (eVar 0)) (pSo (eNeg (eC (.int 1)))) (pNo)) (eVar 1)))))
def m_Reading_can_read : MF := runFn 2 b_Reading_can_read
def b_Reading_read : MS := sSeq (sIf (tVal (eMeth n_Reading x_is_quoted 1 m_Reading_is_quoted (eVar 0) aNil)) (sIf (tCmp mEq (eVar 1) (eC v_QUOTE)) (sFldM [n_Reading] f_needs (eVar 0) (eCutV (eFld [n_Reading] f_needs (eVar 0)) (pNo) (pSo (eNeg (eC (.int 1)))))) (sNil)) (sIf (tAndM (tCmp mEq (eVar 1) (eC v_QUOTE)) (tAndM (tVal (eFld [n_Reading] f_has_words (eVar 0))) (tVal (eCall 1 m_is_letter (aCons (eFld [n_Reading] f_before (eVar 0)) (aNil)))))) (sFldM [n_Reading] f_is_open (eVar 0) (eC (.bl true))) (sSeq (sFldM [n_Reading] f_is_open (eVar 0) (eC (.bl false))) (sIf (tCmp mIn (eVar 1) (eOp mAddV (eC v_OPENERS) (eC v_QUOTE))) (sFldAug [n_Reading] f_needs mIAdd (eVar 0) (eCall 1 m_closer_of (aCons (eVar 1) (aNil)))) (sIf (tCmp mIn (eVar 1) (eC v_CLOSERS)) (sFldM [n_Reading] f_needs (eVar 0) (eCutV (eFld [n_Reading] f_needs (eVar 0)) (pNo) (pSo (eNeg (eC (.int 1)))))) (sNil)))))) (sFldM [n_Reading] f_before (eVar 0) (eVar 1))
def m_Reading_read : MF := runFn 2 b_Reading_read
def b_is_whole : MS := sRet (eAnd (eOp mEq (eFld [n_Reading] f_needs (eVar 0)) (eC (.str []))) (eNot (eFld [n_Reading] f_is_open (eVar 0))))
def m_is_whole : MF := runFn 1 b_is_whole
def b_Reading___init__ : MS := sSeq (sFldM [n_Reading] f_has_words (eVar 0) (eVar 1)) (sSeq (sFldM [n_Reading] f_needs (eVar 0) (eC (.str []))) (sSeq (sFldM [n_Reading] f_before (eVar 0) (eC (.str []))) (sFldM [n_Reading] f_is_open (eVar 0) (eC (.bl false)))))
def m_Reading___init__ : MF := runFn 2 b_Reading___init__
def b_typed_in : MS := sSeq (sPar3 2 3 4 (aCons (eMake n_Reading 2 m_Reading___init__ (aCons (eOp mIx (eVar 0) (eC (.int 1))) (aNil))) (aCons (eC (.str [])) (aCons (eC (.int 0)) (aNil))))) (sSeq (sWhile (tCmp mLt (eVar 4) (eBlt mLen (aCons (eVar 1) (aNil)))) (sSeq (sPar 5 6 (aCons (eOp mIx (eVar 1) (eVar 4)) (aCons (eOp mEq (eCutV (eVar 1) (pSo (eOp mAddV (eVar 4) (eC (.int 1)))) (pSo (eOp mAddV (eVar 4) (eC (.int 2))))) (eTup (aCons (eC v_BACK) (aNil)))) (aNil)))) (sSeq (sIf (tOrM (tNotM (tVal (eCall 1 m_is_sign (aCons (eVar 5) (aNil))))) (tAndM (tVal (eVar 6)) (tNotM (tVal (eOp mIx (eVar 0) (eC (.int 0))))))) (sRet (eTup (aCons (eVar 3) (aCons (eIf (tNotM (tVal (eCall 1 m_is_sign (aCons (eVar 5) (aNil))))) (eVar 4) (eOp mAddV (eVar 4) (eC (.int 1)))) (aNil))))) (sNil)) (sSeq (sIf (tAndM (tNotM (tVal (eVar 6))) (tNotM (tVal (eMeth n_Reading x_can_read 2 m_Reading_can_read (eVar 2) (aCons (eVar 5) (aNil)))))) (sRet (eTup (aCons (eVar 3) (aCons (eVar 4) (aNil))))) (sNil)) (sSeq (sIf (tNotM (tVal (eVar 6))) (sSeq (sExpr (eMeth n_Reading x_read 2 m_Reading_read (eVar 2) (aCons (eVar 5) (aNil)))) (sAug 3 mIAdd (eVar 5))) (sNil)) (sAug 4 mIAdd (eIf (tVal (eVar 6)) (eC (.int 2)) (eC (.int 1))))))))) (sRet (eTup (aCons (eVar 3) (aCons (eIf (tVal (eCall 1 m_is_whole (aCons (eVar 2) (aNil)))) (eC .non) (eBlt mLen (aCons (eVar 1) (aNil)))) (aNil))))))
def m_typed_in : MF := runFn 7 b_typed_in
def b_typed : MS := sSeq (sExpr (eCall 1 m_need_manner (aCons (eVar 0) (aNil)))) (sSeq (sExpr (eCall 1 m_need_keys (aCons (eVar 1) (aNil)))) (sSeq (sAsg (eCall 2 m_typed_in (aCons (eVar 0) (aCons (eVar 1) (aNil)))) (gTp 2 (gC (gNm 2) (gC (gNm 3) (gN))))) (sSeq (sIf (tCmp mIsNot (eVar 3) (eC .non)) (sNever) (sNil)) (sRet (eVar 2)))))
def m_typed : MF := runFn 4 b_typed
end MP.Pr

end
section
namespace MP.Px
open MP
open MP.Pr hiding b_need_manner m_need_manner b_need_text m_need_text b_need_book m_need_book b_need_behind m_need_behind b_need_keys m_need_keys b_need_page m_need_page b_pressed m_pressed b_typed m_typed
abbrev n_BadText : CP := [66, 97, 100, 84, 101, 120, 116]
abbrev n_BadPage : CP := [66, 97, 100, 80, 97, 103, 101]
abbrev n_BadKeys : CP := [66, 97, 100, 75, 101, 121, 115]
abbrev n_BadBook : CP := [66, 97, 100, 66, 111, 111, 107]
abbrev n_BadManner : CP := [66, 97, 100, 77, 97, 110, 110, 101, 114]
abbrev n_NotMeant : CP := [78, 111, 116, 77, 101, 97, 110, 116]
abbrev f_place : CP := [112, 108, 97, 99, 101]
abbrev f_value : CP := [118, 97, 108, 117, 101]
def b_need_manner : MS := sSeq (sIf (tOrM (tNotM (tVal (eBlt mIsi (aCons (eVar 0) (aCons (eC (.ty .tuple)) (aNil)))))) (tOrM (tCmp mNe (eBlt mLen (aCons (eVar 0) (aNil))) (eC (.int 3))) (tNotM (tVal (eBlt mAll (aCons (eLv (jSeq (eVar 0)) [1] (.one 1) (tYesM) (eBlt mIsi (aCons (eVar 1) (aCons (eC (.ty .bool)) (aNil))))) (aNil))))))) (sRaise n_BadManner f_value (aCons (eVar 0) (aNil))) (sNil)) (sRet (eVar 0))
def m_need_manner : MF := runFn 2 b_need_manner
def b_need_text : MS := sSeq (sIf (tOrM (tNotM (tVal (eBlt mIsi (aCons (eVar 0) (aCons (eC (.ty .str)) (aNil)))))) (tCmp mGt (eBlt mLen (aCons (eVar 0) (aNil))) (eC v_MOST_TEXT))) (sRaise n_BadText f_place (aCons (eC .non) (aNil))) (sNil)) (sFor (jEnum (aCons (eVar 0) (aNil))) (gTp 2 (gC (gNm 1) (gC (gNm 2) (gN)))) (sIf (tCmp mNotIn (eVar 2) (eC v_SIGNS)) (sRaise n_BadText f_place (aCons (eVar 1) (aNil))) (sNil)))
def m_need_text : MF := runFn 3 b_need_text
def v_OUT : MV := (.str [111, 117, 116])
def v_IN : MV := (.str [105, 110])
def v_WORD : MV := (.str [119, 111, 114, 100])
def v_EVEN : MV := (.str [101, 118, 101, 110])
def v_ODD : MV := (.str [111, 100, 100])
def v_LETTER : MV := (.str [108, 101, 116, 116, 101, 114])
def v_QUOTED : MV := (.str [113, 117, 111, 116, 101])
def v_PLAIN : MV := (.str [111, 116, 104, 101, 114])
def v_CLOSER : MV := (.str [99, 108, 111, 115, 101, 114])
def v_REST : MV := (.str [114, 101, 115, 116])
def v_WALL : MV := (.str [119, 97, 108, 108])
def b_need_book : MS := sSeq (sIf (tOrM (tNotM (tVal (eBlt mIsi (aCons (eVar 0) (aCons (eC (.ty .tuple)) (aNil)))))) (tCmp mNe (eBlt mLen (aCons (eVar 0) (aNil))) (eBlt mLen (aCons (eC v_CHOICES) (aNil))))) (sRaise n_BadBook f_place (aCons (eC .non) (aNil))) (sNil)) (sSeq (sFor (jEnum (aCons (eVar 0) (aNil))) (gTp 2 (gC (gNm 1) (gC (gNm 2) (gN)))) (sIf (tOrM (tNotM (tVal (eBlt mIsi (aCons (eVar 2) (aCons (eC (.ty .str)) (aNil)))))) (tCmp mNotIn (eVar 2) (eOp mIx (eC v_CHOICES) (eVar 1)))) (sRaise n_BadBook f_place (aCons (eVar 1) (aNil))) (sNil))) (sRet (eVar 0)))
def m_need_book : MF := runFn 3 b_need_book
def b_need_behind : MS := sSeq (sExpr (eCall 1 m_need_text (aCons (eVar 1) (aNil)))) (sIf (tAndM (tCmp mNe (eVar 1) (eC (.str []))) (tNotM (tVal (eOp mIx (eVar 0) (eC (.int 2)))))) (sRaise n_BadText f_place (aCons (eC .non) (aNil))) (sNil))
def m_need_behind : MF := runFn 2 b_need_behind
def b_need_keys : MS := sSeq (sIf (tOrM (tNotM (tVal (eBlt mIsi (aCons (eVar 0) (aCons (eC (.ty .tuple)) (aNil)))))) (tCmp mGt (eBlt mLen (aCons (eVar 0) (aNil))) (eC v_MOST_KEYS))) (sRaise n_BadKeys f_place (aCons (eC .non) (aNil))) (sNil)) (sFor (jEnum (aCons (eVar 0) (aNil))) (gTp 2 (gC (gNm 1) (gC (gNm 2) (gN)))) (sIf (tNotM (tVal (eCall 1 m_is_key (aCons (eVar 2) (aNil))))) (sRaise n_BadKeys f_place (aCons (eVar 1) (aNil))) (sNil)))
def m_need_keys : MF := runFn 3 b_need_keys
def b_need_page : MS := sIf (tNotM (tVal (eCall 1 m_is_page (aCons (eVar 0) (aNil))))) (sRaise n_BadPage f_value (aCons (eVar 0) (aNil))) (sNil)
def m_need_page : MF := runFn 1 b_need_page
def b_pressed : MS := sSeq (sExpr (eCall 1 m_need_book (aCons (eVar 0) (aNil)))) (sSeq (sExpr (eCall 1 m_need_page (aCons (eVar 1) (aNil)))) (sSeq (sExpr (eCall 1 m_need_keys (aCons (eVar 2) (aNil)))) (sSeq (sAsg (eMake n_Page 2 m_Page___init__ (aCons (eVar 1) (aNil))) (gNm 3)) (sSeq (sFor (jSeq (eVar 2)) (gNm 4) (sExpr (eMeth n_Page x_press 3 m_Page_press (eVar 3) (aCons (eVar 0) (aCons (eVar 4) (aNil)))))) (sRet (eMeth n_Page x_told 1 m_Page_told (eVar 3) aNil))))))
def m_pressed : MF := runFn 5 b_pressed
def b_typed : MS := sSeq (sExpr (eCall 1 m_need_manner (aCons (eVar 0) (aNil)))) (sSeq (sExpr (eCall 1 m_need_keys (aCons (eVar 1) (aNil)))) (sSeq (sAsg (eCall 2 m_typed_in (aCons (eVar 0) (aCons (eVar 1) (aNil)))) (gTp 2 (gC (gNm 2) (gC (gNm 3) (gN))))) (sSeq (sIf (tCmp mIsNot (eVar 3) (eC .non)) (sRaise n_NotMeant f_place (aCons (eVar 3) (aNil))) (sNil)) (sRet (eVar 2)))))
def m_typed : MF := runFn 4 b_typed
end MP.Px

end
section
namespace MP
open PySem PySem.Spec PyProof.Rows L2
structure Clz where
  tg : Expr
  iter : Expr
  ifs : List Expr
  wi : TI
  g : TG
  tt : TT
  vs : List Nat
def Clz.c (z : Clz) : Comprehension := ⟨z.tg, z.iter, z.ifs, 0⟩
structure Clz.Ok (B : Cx) (z : Clz) : Prop where
  pg : PG B z.tg z.g
  pt : PTs B z.ifs z.tt
  pi : PI B z.tg z.iter z.wi
  fold : ∀ env x, foldedSetIterable z.iter env x = pure x
def pre (t i : Expr) (ifs : List Expr) (it : Value) (env : Env) (cont : Bool → Sem Fin) : Sem Fin := do
  standAt i.pos
  match ← pyNext it with
  | none => pure (.done .next)
  | some v =>
    letOwnedTupleGo t it v
    assign t env v
    let ok ← forIn ifs true fun c r => if r = true then do let ok ← isTrue c env (eval c env); pure (ForInStep.yield ok) else pure (ForInStep.yield r)
    cont ok
section
variable {elt : Expr} {gens : List Comprehension} {scope : Scope} {pos : Pos} {k : Nat} {it acc : Value} {env : Env} {t i : Expr} {ifs : List Expr}
end
section
variable {prog : Program} {w : World} {A : Around} {E : Value → Shared → Prop} {Q : Fin → Shared → Prop} {s : Shared} {t i : Expr} {ifs : List Expr} {it : Value} {env : Env} {cont : Bool → Sem Fin}
end
section
variable {B : Cx} {elt : Expr} {gens : List Comprehension} {scope : Scope} {pos : Pos} {te : TE} {D : Addr}
end
structure Mz where
  t : Tg
  tt : MT
  mi : MA
  vs : List Nat
section
variable {ww : World} {K : PySem.W.Frag} {mg : Str → Option Value}
variable {r1 : List Addr} {H1 : Hp} {D : Addr} {te : ME}
end
section
variable {X : Cx} {W : WX} {elt : Expr} {scope : Scope} {own : List (Str × Nat)} {pos : Pos} {te : ME}
end
end MP

end
section
namespace MP.Sp
open MP
open MP.Px
open MP.Pr hiding b_need_behind b_need_book b_need_keys b_need_manner b_need_page b_need_text b_pressed b_typed m_need_behind m_need_book m_need_keys m_need_manner m_need_page m_need_text m_pressed m_typed
abbrev n_Cursor : CP := [67, 117, 114, 115, 111, 114]
abbrev f_found : CP := [102, 111, 117, 110, 100]
abbrev f_rest : CP := [114, 101, 115, 116]
abbrev f_rules : CP := [114, 117, 108, 101, 115]
abbrev f_next_thing : CP := [110, 101, 120, 116, 95, 116, 104, 105, 110, 103]
abbrev f_is_fault : CP := [105, 115, 95, 102, 97, 117, 108, 116]
abbrev x_come : CP := [99, 111, 109, 101]
abbrev f_count : CP := [99, 111, 117, 110, 116]
abbrev x_fault_if : CP := [102, 97, 117, 108, 116, 95, 105, 102]
abbrev x_is_forgotten : CP := [105, 115, 95, 102, 111, 114, 103, 111, 116, 116, 101, 110]
abbrev x_can_put : CP := [99, 97, 110, 95, 112, 117, 116]
abbrev x_has_room : CP := [104, 97, 115, 95, 114, 111, 111, 109]
abbrev x_puts_closer : CP := [112, 117, 116, 115, 95, 99, 108, 111, 115, 101, 114]
abbrev x_bared : CP := [98, 97, 114, 101, 100]
abbrev x_swallows : CP := [115, 119, 97, 108, 108, 111, 119, 115]
abbrev f_manner : CP := [109, 97, 110, 110, 101, 114]
abbrev x_puts_quote : CP := [112, 117, 116, 115, 95, 113, 117, 111, 116, 101]
abbrev x_other_count : CP := [111, 116, 104, 101, 114, 95, 99, 111, 117, 110, 116]
abbrev x_loses : CP := [108, 111, 115, 101, 115]
abbrev x_stay : CP := [115, 116, 97, 121]
abbrev x_type_plain : CP := [116, 121, 112, 101, 95, 112, 108, 97, 105, 110]
abbrev x_type_opener : CP := [116, 121, 112, 101, 95, 111, 112, 101, 110, 101, 114]
abbrev x_type_closer : CP := [116, 121, 112, 101, 95, 99, 108, 111, 115, 101, 114]
abbrev x_type_quote : CP := [116, 121, 112, 101, 95, 113, 117, 111, 116, 101]
abbrev x_close_quote : CP := [99, 108, 111, 115, 101, 95, 113, 117, 111, 116, 101]
abbrev x_slip_opener : CP := [115, 108, 105, 112, 95, 111, 112, 101, 110, 101, 114]
abbrev x_slip_closer : CP := [115, 108, 105, 112, 95, 99, 108, 111, 115, 101, 114]
abbrev x_slip_quote : CP := [115, 108, 105, 112, 95, 113, 117, 111, 116, 101]
abbrev f_stand : CP := [115, 116, 97, 110, 100]
abbrev x_go_on : CP := [103, 111, 95, 111, 110]
end MP.Sp

end
section
namespace MP.Jn
inductive Pl where
  | inn | out | word
  deriving DecidableEq
inductive Bf where
  | let_ | oth | quo
  deriving DecidableEq
inductive Nt where
  | clo | quo | rest
  deriving DecidableEq
inductive Rs where
  | bl | clo | end_ | quo | wall
  deriving DecidableEq
structure Sd where
  p : Pl
  c : Bool
  b : Bf
  n : Nt
  r : Rs
  deriving DecidableEq
structure Ru where
  aA : Bool
  aF : Bool
  aN : Bool
  bA : Bool
  bP : Bool
  bN : Bool
  cS : Bool
  dO : Bool
  dA : Bool
  dN : Bool
  eO : Bool
  eA : Bool
  e1 : Bool
  fL : Bool
def Pl.isO : Pl → Bool
  | .out => true
  | _ => false
def Pl.isI : Pl → Bool
  | .inn => true
  | _ => false
def Pl.isW : Pl → Bool
  | .word => true
  | _ => false
def Bf.isL : Bf → Bool
  | .let_ => true
  | _ => false
def Bf.isP : Bf → Bool
  | .oth => true
  | _ => false
def Nt.isC : Nt → Bool
  | .clo => true
  | _ => false
def Nt.isQ : Nt → Bool
  | .quo => true
  | _ => false
def Nt.isR : Nt → Bool
  | .rest => true
  | _ => false
def Rs.isC : Rs → Bool
  | .clo => true
  | _ => false
def Rs.isQ : Rs → Bool
  | .quo => true
  | _ => false
def Rs.isW : Rs → Bool
  | .wall => true
  | _ => false
section
variable (R : Ru) (s : Sd)
def canPut : Bool := R.cS || !s.c
def hasRoom : Bool := !s.n.isR || !s.r.isW
def putsC : Bool := canPut R s && (R.aA || R.aF && hasRoom s)
def putsQ : Bool := if !canPut R s || R.bN then false else R.bA || hasRoom s && s.b.isP
def swallC : Bool := R.dA && (s.n.isR && s.r.isC)
def swallQ : Bool := R.dA && (s.n.isR && s.r.isQ)
def loseC : Bool := R.eA && (s.n.isR && s.r.isC)
def loseQ : Bool := R.eA && (s.n.isR && s.r.isQ)
def forgot : Bool := R.fL && (R.dO && !s.n.isR)
def bared : List Nt := if R.aN then [.rest] else [.clo, .rest]
end
structure Cs where
  f : List Sd
  x : Bool
def addS (f : List Sd) (x : Sd) : List Sd := if f.contains x then f else f ++ [x]
def come (r : Rs) (p : Pl) (c : Bool) (b : Bf) (ns : List Nt) (u : Cs) : Cs := ⟨ns.foldl (fun f n => addS f ⟨p, c, b, n, r⟩) u.f, u.x⟩
def fault (k : Bool) (u : Cs) : Cs := ⟨u.f, u.x || k⟩
section
variable (R : Ru) (sl hw : Bool) (s : Sd) (u : Cs)
def tPlain : Cs :=
  let u := come s.r (if s.p.isW then .out else s.p) s.c .let_ [s.n] u
  let u := if !s.p.isW then come s.r s.p s.c .oth [s.n] u else u
  if s.p.isO then
    if forgot R s then fault true u else come s.r .out false .oth [s.n] (fault false u)
  else u
def tOpen : Cs :=
  let k := putsC R s
  if s.p.isO then come s.r s.p s.c .oth [if k then .clo else s.n] u
  else if k then fault true u else come s.r s.p s.c .oth [if k then .clo else s.n] (fault false u)
def tClose : Cs :=
  if s.n.isC && !R.dN then come s.r s.p s.c .oth (.clo :: bared R) u
  else if swallC R s || s.n.isC && s.p.isO then fault true u else come s.r s.p s.c .oth [s.n] (fault false u)
def tQuote : Cs :=
  let w := hw && s.b.isL
  let k := putsQ R s
  if swallQ R s || w && k then fault true u
  else come s.r (if w then .word else .inn) (!s.c) .quo [if k then .quo else s.n] (fault false u)
def cQuote : Cs :=
  if s.n.isQ then (if R.dN then fault true u else come s.r .out (!s.c) .quo (bared R) (fault false u))
  else if swallQ R s || putsQ R s then fault true u else come s.r .out (!s.c) .quo [s.n] (fault false u)
def stay (ns : List Nt) : Cs := come s.r s.p s.c s.b ns u
def sOpen : Cs :=
  if putsC R s then fault R.e1 u
  else if loseC R s then fault true u
  else if s.n.isC && !R.e1 then stay s (fault false u) (.clo :: bared R) else fault false u
def sClose : Cs :=
  if swallC R s then fault true u
  else if s.n.isC && !R.dN then stay s (fault false u) (.clo :: bared R) else fault false u
def sQuote : Cs :=
  if swallQ R s then fault true u
  else
    let u := fault false u
    if s.n.isQ && !R.dN then stay s (fault (R.eA && s.r.isQ) u) (bared R)
    else if putsQ R s then fault R.e1 u
    else if loseQ R s then fault true u
    else if s.n.isQ && !R.e1 then stay s (fault false u) (bared R) else fault false u
def goOn : Cs :=
  let u := tPlain R s u
  let u := if !s.p.isW then tClose R s (tOpen R s u) else u
  let u := if s.p.isO then tQuote R hw s u else if s.p.isI then cQuote R s u else u
  if sl then fault (forgot R s) (sQuote R s (sClose R s (sOpen R s u))) else u
end
def later (R : Ru) (sl hw : Bool) (s : Sd) : List Sd := (goOn R sl hw s ⟨[], false⟩).f
def rests (bh : Bool) : List Rs := if bh then [.bl, .clo, .end_, .quo, .wall] else [.end_]
def firsts (bh : Bool) : List Sd := (rests bh).map fun r => ⟨.out, false, .oth, .rest, r⟩
class Sz (u : Cs) : Prop where
  nd : u.f.Nodup
theorem addS_nd {f : List Sd} (h : f.Nodup) (x : Sd) : (addS f x).Nodup := by
  unfold addS
  split
  · exact h
  · rename_i k
    rw [List.nodup_append]
    refine ⟨h, by simp, fun a ha b hb e => ?_⟩
    have : b = x := by simpa using hb
    subst this
    subst e
    exact k (by simpa using ha)
theorem foldl_nd (r : Rs) (p : Pl) (c : Bool) (b : Bf) : ∀ (ns : List Nt) (f : List Sd), f.Nodup → (ns.foldl (fun f n => addS f ⟨p, c, b, n, r⟩) f).Nodup
  | [], _, h => h
  | n :: ns, f, h => foldl_nd r p c b ns _ (addS_nd h _)
instance {r : Rs} {p : Pl} {c : Bool} {b : Bf} {ns : List Nt} {u : Cs} [z : Sz u] : Sz (come r p c b ns u) := ⟨foldl_nd r p c b ns _ z.nd⟩
instance {k : Bool} {u : Cs} [z : Sz u] : Sz (fault k u) := ⟨z.nd⟩
instance : Sz ⟨[], false⟩ := ⟨List.nodup_nil⟩
section
variable {R : Ru} {sl hw : Bool} {s : Sd} {u : Cs} [Sz u]
instance : Sz (tPlain R s u) := by
  unfold tPlain
  dsimp only
  split <;> split <;> first | infer_instance | (split <;> infer_instance)
instance : Sz (tOpen R s u) := by
  unfold tOpen
  dsimp only
  split <;> first | infer_instance | (split <;> infer_instance)
instance : Sz (tClose R s u) := by
  unfold tClose
  split <;> first | infer_instance | (split <;> infer_instance)
instance : Sz (tQuote R hw s u) := by
  unfold tQuote
  dsimp only
  split <;> infer_instance
instance : Sz (cQuote R s u) := by
  unfold cQuote
  split <;> split <;> infer_instance
instance {ns : List Nt} : Sz (stay s u ns) := by
  unfold stay
  infer_instance
instance : Sz (sOpen R s u) := by
  unfold sOpen
  split <;> first | infer_instance | (split <;> first | infer_instance | (split <;> infer_instance))
instance : Sz (sClose R s u) := by
  unfold sClose
  split <;> first | infer_instance | (split <;> infer_instance)
instance : Sz (sQuote R s u) := by
  unfold sQuote
  dsimp only
  repeat' split
  all_goals infer_instance
instance : Sz (goOn R sl hw s u) := by
  unfold goOn
  dsimp only
  repeat' split
  all_goals infer_instance
end
inductive Reach (R : Ru) (sl hw bh : Bool) : Sd → Prop
  | first {s : Sd} : s ∈ firsts bh → Reach R sl hw bh s
  | step {s t : Sd} : Reach R sl hw bh s → t ∈ later R sl hw s → Reach R sl hw bh t
end MP.Jn

end
section
namespace MP.Cm
open PySem L2
def b_law_mixed : MS := sSeq (sAsg (eOp mAdd (eOp mAdd (eOp mMod (eBlt mInt (aCons (eOp mMul (eOp mMul (eVar 0) (eOp mAdd (eC (.int 1)) (eOp mMul (eC (.int 2)) (eVar 1)))) (eC (.int 48271))) (aNil))) (eC (.int 2147483647))) (eOp mMul (eOp mMul (eC (.int 7919)) (eVar 1)) (eVar 1))) (eOp mMul (eC (.int 104729)) (eVar 1))) (gNm 2)) (sRet (eOp mFdiv (eOp mMod (eBlt mInt (aCons (eOp mMul (eVar 2) (eC (.int 69621))) (aNil))) (eC (.int 2147483629))) (eC (.int 7))))
def m_law_mixed : MF := runFn 3 b_law_mixed
def b_law_folded : MS := sSeq (sAsg (eLc (jRng1 (aCons (eC (.int 64)) (aNil))) [2] (.one 2) (tYesM) (eOp mAdd (eC (.int 17)) (eVar 2))) (gNm 1)) (sSeq (sFor (jEnum (aCons (eVar 0) (aNil))) (gTp 2 (gC (gNm 2) (gC (gNm 3) (gN)))) (sSub (eVar 1) (eOp mMod (eBlt mInt (aCons (eVar 2) (aNil))) (eC (.int 64))) (eOp mMod (eBlt mInt (aCons (eOp mAdd (eOp mMul (eOp mIx (eVar 1) (eOp mMod (eBlt mInt (aCons (eVar 2) (aNil))) (eC (.int 64)))) (eC (.int 48271))) (eVar 3)) (aNil))) (eC (.int 2147483647))))) (sSeq (sFor (jRng2 (aCons (eC (.int 1)) (aCons (eC (.int 64)) (aNil)))) (gNm 2) (sSub (eVar 1) (eVar 2) (eOp mMod (eBlt mInt (aCons (eOp mAdd (eOp mIx (eVar 1) (eVar 2)) (eOp mMul (eOp mIx (eVar 1) (eOp mSub (eVar 2) (eC (.int 1)))) (eC (.int 16807)))) (aNil))) (eC (.int 2147483647))))) (sRet (eVar 1))))
def m_law_folded : MF := runFn 4 b_law_folded
def b_law_begun : MS := sSeq (sAsg (eDisp [(eC (.str [99, 101, 108, 108, 115]), eCall 1 m_law_folded (aCons (eVar 0) (aNil))), (eC (.str [103, 114, 101, 97, 116]), eLst (aNil)), (eC (.str [115, 112, 111, 116]), eC (.int 0))]) (gNm 1)) (sSeq (sSub (eVar 1) (eC (.str [103, 114, 101, 97, 116])) (eLc (jSeq (eVar 0)) [2] (.one 2) (tYesM) (eIf (tCmp mGe (eVar 2) (eOp mPow (eC (.int 10)) (eC (.int 18)))) (eVar 2) (eC (.int 0))))) (sRet (eVar 1)))
def m_law_begun : MF := runFn 3 b_law_begun
def b_law_draw : MS := sSeq (sAsg (eOp mIx (eVar 0) (eC (.str [115, 112, 111, 116]))) (gNm 2)) (sSeq (sSub (eVar 0) (eC (.str [115, 112, 111, 116])) (eOp mAdd (eVar 2) (eC (.int 1)))) (sSeq (sIf (tCmp mNe (eOp mIx (eVar 0) (eC (.str [103, 114, 101, 97, 116]))) (eLst (aNil))) (sSeq (sAsg (eOp mIx (eVar 0) (eC (.str [103, 114, 101, 97, 116]))) (gNm 3)) (sSeq (sAsg (eOp mMod (eBlt mInt (aCons (eVar 2) (aNil))) (eBlt mLen (aCons (eVar 3) (aNil)))) (gNm 4)) (sSeq (sAsg (eOp mIx (eVar 3) (eVar 4)) (gNm 5)) (sIf (tCmp mGt (eVar 5) (eC (.int 0))) (sSeq (sSub (eVar 3) (eVar 4) (eOp mFdiv (eVar 5) (eVar 1))) (sRet (eOp mMod (eBlt mInt (aCons (eVar 5) (aNil))) (eVar 1)))) (sNil))))) (sNil)) (sSeq (sAsg (eOp mIx (eVar 0) (eC (.str [99, 101, 108, 108, 115]))) (gNm 3)) (sRet (eOp mMod (eBlt mInt (aCons (eCall 2 m_law_mixed (aCons (eCall 2 m_law_mixed (aCons (eOp mAdd (eOp mIx (eVar 3) (eOp mMod (eBlt mInt (aCons (eVar 2) (aNil))) (eC (.int 64)))) (eOp mMul (eC (.int 31)) (eOp mFdiv (eVar 2) (eC (.int 64))))) (aCons (eVar 2) (aNil)))) (aCons (eOp mAdd (eVar 2) (eC (.int 7))) (aNil)))) (aNil))) (eVar 1))))))
def m_law_draw : MF := trimF (runFn 6 b_law_draw)
def mixed (c n : Int) : Int := (c * (1 + 2 * n) * 48271 % 2147483647 + 7919 * n * n + 104729 * n) * 69621 % 2147483629 / 7
theorem mixed_ok {c n : Int} (hc : -(2 ^ 64) < c ∧ c < 2 ^ 64) (hn : 0 ≤ n ∧ n < 2 ^ 63) (h : MH) : m_law_mixed [.int c, .int n] h = .ok (.int (mixed c n)) h := by
  have h4 : (-18446744073709551616 < n ∧ n < 18446744073709551616) := by omega
  have h3 : -18446744073709551616 < c ∧ c < 18446744073709551616 := by omega
  simp [sSeq, sExpr, sRet, sRetN, sNil, sBrk, sCnt, sIf, sAsg, gNm, gN, gC, gTp, eVar, eC, eOp, eBlt, eIf, eTup, eLst, eNot, tVal, tCmp, tNotM, tAndM, tOrM, aNil, aCons, ofO, R.bind, R.bindS, R.go, mInt, mMod, mFdiv, mAdd, mSub, mMul, mTruth, m_law_mixed, runFn, b_law_mixed, h3, h4, mixed]
theorem mixed_range (c n : Int) : 0 ≤ mixed c n ∧ mixed c n < 2 ^ 31 := by
  unfold mixed
  generalize (c * (1 + 2 * n) * 48271 % 2147483647 + 7919 * n * n + 104729 * n) * 69621 = x
  omega
def st (cs gs : List Int) (n : Int) (t : MH) : MH := .lst (cs.map .int) :: .lst [] :: .dK [(.inr [99, 101, 108, 108, 115], .ref 0), (.inr [103, 114, 101, 97, 116], .ref 3), (.inr [115, 112, 111, 116], .int n)] :: .lst (gs.map .int) :: t
structure Ok (cs gs : List Int) (n : Int) : Prop where
  len : cs.length = 64
  cell : ∀ c ∈ cs, 0 ≤ c ∧ c < 2147483647
  spot : 0 ≤ n ∧ n < 2 ^ 62
theorem belowL_ints (k : Nat) : ∀ l : List Int, belowL k (l.map .int) = true
  | [] => rfl
  | _ :: l => by simp [belowL, below, belowL_ints k l]
theorem mapO_ints (n : Nat) (h : MH) : ∀ l : List Int, mapO (toD (n + 1) h) (l.map .int) = some (l.map .int)
  | [] => rfl
  | a :: l => by
    have e := mapO_ints n h l
    rw [List.map_cons, mapO, e]
    rfl
theorem canLay_ints : ∀ l : List Int, PyData.canLayAll0 (l.map .int) = true
  | [] => rfl
  | a :: l => by simp [PyData.canLayAll0, PyData.canLay0, canLay_ints l]
theorem depth_ints : ∀ l : List Int, PyData.depthAll (l.map .int) = 0
  | [] => rfl
  | a :: l => by simp [PyData.depthAll, PyData.depth, depth_ints l]
theorem shaped_ints (l : List Int) : SeqAt.shaped (.list (l.map .int)) = true := by
  simp [SeqAt.shaped, PyData.canLay0, PyData.depth, canLay_ints, depth_ints]
theorem eqv_nil : ∀ l : List Int, PyData.eqv (.list (l.map .int)) (.list []) = l.isEmpty
  | [] => by simp [PyData.eqv, PyData.eqvAll]
  | a :: l => by simp [PyData.eqv, PyData.eqvAll]
section
variable {cs gs : List Int} {n : Int} {t : MH}
theorem st_app (x : MH) : st cs gs n t ++ x = st cs gs n (t ++ x) := rfl
theorem st_len : (st cs gs n t).length = t.length + 4 := rfl
theorem ix_spot : mIx (.ref 2) (.str [115, 112, 111, 116]) (st cs gs n t) = some (.int n, st cs gs n t) := rfl
theorem ix_great : mIx (.ref 2) (.str [103, 114, 101, 97, 116]) (st cs gs n t) = some (.ref 3, st cs gs n t) := rfl
theorem ix_cells : mIx (.ref 2) (.str [99, 101, 108, 108, 115]) (st cs gs n t) = some (.ref 0, st cs gs n t) := rfl
theorem set_spot (m : Int) : mSet (.ref 2) (.str [115, 112, 111, 116]) (.int m) (st cs gs n t) = some (st cs gs m t) := rfl
theorem ne_nil : mNe (.ref 3) (.ref (t.length + 4)) (st cs gs n (t ++ [MO.lst []])) = some (.bl (!gs.isEmpty), st cs gs n (t ++ [MO.lst []])) := by
  have e1 : toD 64 (st cs gs n (t ++ [MO.lst []])) (.ref 3) = some (.list (gs.map .int)) := by
    show (mapO (toD 63 _) (gs.map .int)).map PyData.list = _
    rw [mapO_ints 62]
    rfl
  have e2 : toD 64 (st cs gs n (t ++ [MO.lst []])) (.ref (t.length + 4)) = some (.list []) := by
    have : (st cs gs n (t ++ [MO.lst []]))[t.length + 4]? = some (.lst []) := by
      show (t ++ [MO.lst []])[t.length]? = _
      simp
    simp [toD, lstAt, this, mapO]
  have e3 : SeqAt.shaped (.list ([] : List PyData)) = true := by decide +kernel
  show (match toD 64 (st cs gs n (t ++ [MO.lst []])) (.ref 3), toD 64 (st cs gs n (t ++ [MO.lst []])) (.ref (t.length + 4)) with
    | some d, some e => if SeqAt.shaped d && SeqAt.shaped e then some (PyData.eqv d e) else none
    | _, _ => none).map (fun k => (MV.bl (!k), st cs gs n (t ++ [MO.lst []]))) = _
  rw [e1, e2]
  simp [shaped_ints, e3, eqv_nil]
theorem len_great : mLen [.ref 3] (st cs gs n t) = some (.int gs.length, st cs gs n t) := by
  show some (MV.int ((gs.map MV.int).length : Nat), _) = _
  rw [List.length_map]
theorem ixN_in {k : Nat} {i : Int} (h : 0 ≤ i ∧ i < k) : ixN k i = some i.toNat := by
  unfold ixN
  rw [if_pos h.1, if_pos h.2]
theorem ix_at {l : List Int} {i : Int} (h : 0 ≤ i ∧ i < l.length) : ∃ c, l[i.toNat]? = some c ∧ c ∈ l ∧ atI (l.map MV.int) i = some (.int c) := by
  have hi : i.toNat < l.length := by omega
  refine ⟨l[i.toNat], by simp [hi], List.getElem_mem hi, ?_⟩
  unfold atI
  rw [ixN_in (by simpa using h)]
  simp [hi]
theorem ix_gr {i : Int} {c : Int} (h : atI (gs.map MV.int) i = some (.int c)) : mIx (.ref 3) (.int i) (st cs gs n t) = some (.int c, st cs gs n t) := by
  show (atI (gs.map MV.int) i).map _ = _
  rw [h]
  rfl
theorem ix_ce {i : Int} {c : Int} (h : atI (cs.map MV.int) i = some (.int c)) : mIx (.ref 0) (.int i) (st cs gs n t) = some (.int c, st cs gs n t) := by
  show (atI (cs.map MV.int) i).map _ = _
  rw [h]
  rfl
theorem set_gr {i c : Int} (h : 0 ≤ i ∧ i < gs.length) : mSet (.ref 3) (.int i) (.int c) (st cs gs n t) = some (st cs (gs.set i.toNat c) n t) := by
  show (ixN (gs.map MV.int).length i).map _ = _
  rw [List.length_map, ixN_in h]
  simp [st, List.map_set]
end
theorem mixed_r (c n : Int) : -(2 ^ 64) < mixed c n ∧ mixed c n < 2 ^ 64 := by
  have := mixed_range c n
  omega
theorem draw_body {cs gs : List Int} {n lim : Int} {t : MH} (ok : Ok cs gs n) (hl : 0 < lim ∧ lim < 1073741824) :
    ∃ v gs' u, 0 ≤ v ∧ v < lim ∧ gs'.length = gs.length ∧ runFn 6 b_law_draw [.ref 2, .int lim] (st cs gs n t) = .ok (.int v) (st cs gs' (n + 1) (t ++ u)) := by
  obtain ⟨hlen, hcell, hspot⟩ := ok
  obtain ⟨c, _, hc, hci⟩ := ix_at (l := cs) (i := n % 64) (by omega)
  have hcc := hcell c hc
  have m1 := mixed_ok (c := c + 31 * (n / 64)) (n := n) (by omega) (by omega)
  have m2 := mixed_ok (c := mixed (c + 31 * (n / 64)) n) (n := n + 7) (mixed_r _ _) (by omega)
  have h31 : (-18446744073709551616 : Int) < 31 ∧ (31 : Int) < 18446744073709551616 := by decide
  have hm : ∀ x : Int, 0 ≤ x % lim ∧ x % lim < lim := fun x => ⟨Int.emod_nonneg _ (by omega), Int.emod_lt_of_pos _ hl.1⟩
  have hp : sizeLine ≠ 0 := by decide
  cases gs with
  | nil =>
    refine ⟨mixed (mixed (c + 31 * (n / 64)) n) (n + 7) % lim, [], [MO.lst []], (hm _).1, (hm _).2, rfl, ?_⟩
    simp [sSeq, sExpr, sRet, sRetN, sNil, sBrk, sCnt, sIf, sAsg, gNm, gN, gC, gTp, eVar, eC, eOp, eBlt, eIf, eTup, eLst, eNot, tVal, tCmp, tNotM, tAndM, tOrM, aNil, aCons, ofO, R.bind, R.bindS, R.go, mInt, mMod, mFdiv, mAdd, mSub, mMul, mTruth, runFn, b_law_draw, ix_spot, ix_great, set_spot, sSub, st_app, st_len, ne_nil, ix_cells, ix_ce hci, m1, m2, h31, hl.1, eCall]
  | cons g gs =>
    have hi : 0 ≤ n % ((gs.length : Int) + 1) ∧ n % ((gs.length : Int) + 1) < ((g :: gs).length : Nat) := by
      have h1 := Int.emod_nonneg n (b := (gs.length : Int) + 1) (by omega)
      have h2 := Int.emod_lt_of_pos n (b := (gs.length : Int) + 1) (by omega)
      simp only [List.length_cons]
      omega
    obtain ⟨d, _, _, hd⟩ := ix_at (l := g :: gs) (i := n % ((gs.length : Int) + 1)) hi
    have hlz : (0 : Int) < (gs.length : Int) + 1 := by omega
    by_cases hd0 : 0 < d
    · refine ⟨d % lim, (g :: gs).set (n % ((gs.length : Int) + 1)).toNat (d / lim), [MO.lst []], (hm _).1, (hm _).2, by simp, ?_⟩
      simp [sSeq, sExpr, sRet, sRetN, sNil, sBrk, sCnt, sIf, sAsg, gNm, gN, gC, gTp, eVar, eC, eOp, eBlt, eIf, eTup, eLst, eNot, tVal, tCmp, tNotM, tAndM, tOrM, aNil, aCons, ofO, R.bind, R.bindS, R.go, mInt, mMod, mFdiv, mAdd, mSub, mMul, mTruth, runFn, b_law_draw, ix_spot, ix_great, set_spot, sSub, st_app, st_len, ne_nil, len_great, ix_gr hd, set_gr hi, hd0, hlz, mGt, hl]
    · refine ⟨mixed (mixed (c + 31 * (n / 64)) n) (n + 7) % lim, g :: gs, [MO.lst []], (hm _).1, (hm _).2, rfl, ?_⟩
      simp [sSeq, sExpr, sRet, sRetN, sNil, sBrk, sCnt, sIf, sAsg, gNm, gN, gC, gTp, eVar, eC, eOp, eBlt, eIf, eTup, eLst, eNot, tVal, tCmp, tNotM, tAndM, tOrM, aNil, aCons, ofO, R.bind, R.bindS, R.go, mInt, mMod, mFdiv, mAdd, mSub, mMul, mTruth, runFn, b_law_draw, ix_spot, ix_great, set_spot, sSub, st_app, st_len, ne_nil, len_great, ix_gr hd, hd0, hlz, mGt, ix_cells, ix_ce hci, m1, m2, h31, hl.1, eCall]
theorem st_below {cs gs : List Int} {n : Int} {t : MH} {k : Nat} (hk : 4 ≤ k) (ht : belowH k t = true) : belowH k (st cs gs n t) = true := by
  have h0 : Nat.blt 0 k = true := by rw [Nat.blt_eq]; omega
  have h3 : Nat.blt 3 k = true := by rw [Nat.blt_eq]; omega
  simp [st, belowH, belowO, belowL_ints, belowL, belowF, below, ht, h0, h3]
theorem st_take {cs gs : List Int} {n : Int} {t u : MH} : (st cs gs n (t ++ u)).take (t.length + 4) = st cs gs n t := by
  simp [st, List.take_append]
theorem draw_ok {cs gs : List Int} {n lim : Int} {t : MH} (ok : Ok cs gs n) (hl : 0 < lim ∧ lim < 1073741824) (ht : belowH (t.length + 4) t = true) :
    ∃ v gs', 0 ≤ v ∧ v < lim ∧ gs'.length = gs.length ∧ m_law_draw [.ref 2, .int lim] (st cs gs n t) = .ok (.int v) (st cs gs' (n + 1) t) := by
  obtain ⟨v, gs', u, h1, h2, h3, e⟩ := draw_body (t := t) ok hl
  refine ⟨v, gs', h1, h2, h3, ?_⟩
  rw [m_law_draw, trimF, e, st_len, trimR, st_take, st_below (by omega) ht]
  rfl
theorem forM_items {xs : List MV} {g : MG} {b : MS} {P : Nat → Sl → MH → Prop}
    (step : ∀ i v s h, xs[i]? = some v → P i s h → ∃ s1 h1 s2 h2, g v s h = .ok s1 h1 ∧ b s1 h1 = .nx s2 h2 ∧ P (i + 1) s2 h2) :
    ∀ (n i : Nat) (s : Sl) (h : MH), i + n = xs.length → P i s h → ∃ s' h', forM (.items xs) g b n i s h = .nx s' h' ∧ P xs.length s' h' := by
  intro n
  induction n with
  | zero =>
    intro i s h hi p
    have e : xs[i]? = none := List.getElem?_eq_none (by omega)
    refine ⟨s, h, ?_, by rw [← hi]; exact p⟩
    rw [forM_zero]
    simp [MIt.at, e]
  | succ n ih =>
    intro i s h hi p
    have e : xs[i]? = some xs[i] := List.getElem?_eq_getElem (by omega)
    obtain ⟨s1, h1, s2, h2, e1, e2, p2⟩ := step i _ s h e p
    obtain ⟨s', h', e3, p3⟩ := ih (i + 1) s2 h2 (by omega) p2
    refine ⟨s', h', ?_, p3⟩
    rw [forM_succ]
    simp only [MIt.at, e, e1, R.go, e2, e3]
def Cs (cs : List Int) : Prop := cs.length = 64 ∧ ∀ c ∈ cs, 0 ≤ c ∧ c < 2147483647
theorem Cs.set {cs : List Int} (h : Cs cs) (i : Nat) (x : Int) : Cs (cs.set i (x % 2147483647)) := by
  refine ⟨by simp [h.1], fun c hc => ?_⟩
  rcases List.mem_or_eq_of_mem_set hc with z | z
  · exact h.2 c z
  · subst z; omega
section
variable {cs : List Int} {h : MH}
theorem ix1 {i c : Int} {t : MH} (e : atI (cs.map MV.int) i = some (.int c)) : mIx (.ref 0) (.int i) (.lst (cs.map .int) :: t) = some (.int c, .lst (cs.map .int) :: t) := by
  show (atI (cs.map MV.int) i).map _ = _
  rw [e]
  rfl
theorem set1 {i c : Int} {t : MH} (e : 0 ≤ i ∧ i < cs.length) : mSet (.ref 0) (.int i) (.int c) (.lst (cs.map .int) :: t) = some (.lst ((cs.set i.toNat c).map .int) :: t) := by
  show (ixN (cs.map MV.int).length i).map _ = _
  rw [List.length_map, ixN_in e]
  simp [List.map_set]
end
def cells0 : List Int := (List.range 64).map fun (n : Nat) => 17 + (n : Int)
theorem folded_ok (ns : List Int) : ∃ cs, Cs cs ∧ m_law_folded [.ro (ns.map .int)] [] = .ok (.ref 0) [.lst (cs.map .int)] := by
  have hm1 : (-18446744073709551616 : Int) < 48271 ∧ (48271 : Int) < 18446744073709551616 := by decide
  have hm2 : (-18446744073709551616 : Int) < 16807 ∧ (16807 : Int) < 18446744073709551616 := by decide
  have hA : eLc (jRng1 (aCons (eC (.int 64)) (aNil))) [2] (.one 2) (tYesM) (eOp mAdd (eC (.int 17)) (eVar 2)) [some (.ro (ns.map .int)), none, none, none] [] = .ok (.ref 0) [.lst (cells0.map .int)] := by kernel_rfl
  have c0 : Cs cells0 := by unfold Cs; decide +kernel
  let P : Nat → Sl → MH → Prop := fun _ s h => ∃ cs x y, Cs cs ∧ s = [some (.ro (ns.map .int)), some (.ref 0), x, y] ∧ h = [.lst (cs.map .int)]
  obtain ⟨s1, h1, e1, cs1, x1, y1, k1, rfl, rfl⟩ := forM_items (P := P) (xs := enumL 0 (ns.map .int)) (g := gTp 2 (gC (gNm 2) (gC (gNm 3) (gN))))
    (b := sSub (eVar 1) (eOp mMod (eBlt mInt (aCons (eVar 2) (aNil))) (eC (.int 64))) (eOp mMod (eBlt mInt (aCons (eOp mAdd (eOp mMul (eOp mIx (eVar 1) (eOp mMod (eBlt mInt (aCons (eVar 2) (aNil))) (eC (.int 64)))) (eC (.int 48271))) (eVar 3)) (aNil))) (eC (.int 2147483647))))
    (fun i v s h hv p => by
      obtain ⟨cs, x, y, k, rfl, rfl⟩ := p
      rw [enumL_get, List.getElem?_map] at hv
      cases hn : ns[i]? with
      | none => rw [hn] at hv; cases hv
      | some c =>
        rw [hn] at hv
        cases hv
        have hr : 0 ≤ ((0 + i : Nat) : Int) % 64 ∧ ((0 + i : Nat) : Int) % 64 < cs.length := by rw [k.1]; omega
        obtain ⟨d, _, _, hd⟩ := ix_at hr
        refine ⟨_, _, _, _, rfl, ?_, cs.set (((0 + i : Nat) : Int) % 64).toNat ((d * 48271 + c) % 2147483647), some (.int ((0 + i : Nat) : Int)), some (.int c), k.set _ _, rfl, rfl⟩
        have e0 : ((0 + i : Nat) : Int) = (i : Int) := by omega
        simp only [e0] at hr hd ⊢
        simp [sSeq, sExpr, sRet, sRetN, sNil, sBrk, sCnt, sIf, sAsg, gNm, gN, gC, gTp, eVar, eC, eOp, eBlt, eIf, eTup, eLst, eNot, tVal, tCmp, tNotM, tAndM, tOrM, aNil, aCons, ofO, R.bind, R.bindS, R.go, mInt, mMod, mFdiv, mAdd, mSub, mMul, mTruth, sSub, ix1 hd, hm1, set1 hr])
    (enumL 0 (ns.map MV.int)).length 0 [some (.ro (ns.map .int)), some (.ref 0), none, none] [.lst (cells0.map .int)] (by omega) ⟨cells0, none, none, c0, rfl, rfl⟩
  obtain ⟨s2, h2, e2, cs2, x2, y2, k2, rfl, rfl⟩ := forM_items (P := P) (xs := upTo 1 63) (g := gNm 2)
    (b := sSub (eVar 1) (eVar 2) (eOp mMod (eBlt mInt (aCons (eOp mAdd (eOp mIx (eVar 1) (eVar 2)) (eOp mMul (eOp mIx (eVar 1) (eOp mSub (eVar 2) (eC (.int 1)))) (eC (.int 16807)))) (aNil))) (eC (.int 2147483647))))
    (fun i v s h hv p => by
      obtain ⟨cs, x, y, k, rfl, rfl⟩ := p
      have hi : i < 63 := by
        have := (List.getElem?_eq_some_iff.mp hv).1
        simpa [upTo] using this
      have := upTo_get hv
      subst this
      have hr : 0 ≤ 1 + (i : Int) ∧ 1 + (i : Int) < cs.length := by rw [k.1]; omega
      have hr2 : 0 ≤ 1 + (i : Int) - 1 ∧ 1 + (i : Int) - 1 < cs.length := by rw [k.1]; omega
      obtain ⟨d, _, _, hd⟩ := ix_at hr
      obtain ⟨d2, _, _, hd2⟩ := ix_at hr2
      refine ⟨_, _, _, _, rfl, ?_, cs.set (1 + (i : Int)).toNat ((d + d2 * 16807) % 2147483647), some (.int (1 + (i : Int))), y, k.set _ _, rfl, rfl⟩
      simp [sSeq, sExpr, sRet, sRetN, sNil, sBrk, sCnt, sIf, sAsg, gNm, gN, gC, gTp, eVar, eC, eOp, eBlt, eIf, eTup, eLst, eNot, tVal, tCmp, tNotM, tAndM, tOrM, aNil, aCons, ofO, R.bind, R.bindS, R.go, mInt, mMod, mFdiv, mAdd, mSub, mMul, mTruth, sSub, ix1 hd, ix1 hd2, hm2, set1 hr])
    63 0 [some (.ro (ns.map .int)), some (.ref 0), x1, y1] [.lst (cs1.map .int)] rfl ⟨cs1, x1, y1, k1, rfl, rfl⟩
  refine ⟨cs2, k2, ?_⟩
  have hf : (MIt.items (enumL 0 (ns.map MV.int))).fuel [.lst (cells0.map .int)] = (enumL 0 (ns.map MV.int)).length := rfl
  have hf2 : (MIt.items (upTo 1 63)).fuel [.lst (cs1.map .int)] = 63 := rfl
  have hr : ((63 : Int) - 0).toNat = 63 := rfl
  rw [m_law_folded, runFn, b_law_folded]
  simp only [List.map_cons, List.map_nil, List.length_cons, List.length_nil, List.cons_append, List.nil_append, List.replicate]
  simp only [sSeq, sAsg, hA, R.bindS, gNm, R.go, List.set, sFor, jEnum, jRng2, aCons, aNil, eVar, eC, R.bind, List.getElem?_cons_zero, hf, e1]
  have hif : (-(2 ^ 62) ≤ (1 : Int) ∧ (1 : Int) < 2 ^ 62 ∧ -(2 ^ 62) ≤ (64 : Int) ∧ (64 : Int) < 2 ^ 62) := by decide
  rw [if_pos hif]
  simp only [R.bindS, show ((64 : Int) - 1).toNat = 63 from rfl, hf2, e2]
  simp only [sRet, R.bindS, eVar, List.getElem?_cons_zero, List.getElem?_cons_succ]
theorem lcM_items {xs : List MV} {t : Tg} {te : ME} {sw : Sl} {h : MH} {f : MV → MV} (hs : xs.length < sizeLine)
    (step : ∀ v ∈ xs, ∃ s2, t.run v sw = some s2 ∧ te s2 h = .ok (f v) h) :
    ∀ (n i : Nat) (acc : List MV), i + n = xs.length → acc.length = i → lcM (.items xs) t tYesM te sw n i acc h = .ok (.ref h.length) (h ++ [.lst (acc ++ (xs.drop i).map f)]) := by
  intro n
  induction n with
  | zero =>
    intro i acc hi ha
    have e : xs[i]? = none := List.getElem?_eq_none (by omega)
    show (match MIt.at (.items xs) h i with
      | some none => R.ok (MV.ref h.length) (h ++ [MO.lst acc])
      | _ => .stuck) = _
    simp [MIt.at, e, List.drop_of_length_le (show xs.length ≤ i by omega)]
  | succ n ih =>
    intro i acc hi ha
    have hil : i < xs.length := by omega
    have e : xs[i]? = some xs[i] := List.getElem?_eq_getElem hil
    obtain ⟨s2, e1, e2⟩ := step xs[i] (List.getElem_mem hil)
    have ih := ih (i + 1) (acc ++ [f xs[i]]) (by omega) (by simp [ha])
    have hd : xs.drop i = xs[i] :: xs.drop (i + 1) := List.drop_eq_getElem_cons hil
    show (match MIt.at (.items xs) h i with
      | some none => R.ok (MV.ref h.length) (h ++ [MO.lst acc])
      | some (some v) => match t.run v sw with
        | some s2 => match tYesM s2 h with
          | .ok true h3 => (match te s2 h3 with
            | .ok y h4 => if acc.length < sizeLine then lcM (.items xs) t tYesM te sw n (i + 1) (acc ++ [y]) h4 else .stuck
            | _ => .stuck)
          | .ok false h3 => lcM (.items xs) t tYesM te sw n (i + 1) acc h3
          | _ => .stuck
        | none => .stuck
      | none => .stuck) = _
    have hlt : acc.length < sizeLine := by omega
    simp only [MIt.at, e, e1, tYesM, e2, hlt, if_true, ih, hd, List.map_cons, List.append_assoc, List.cons_append, List.nil_append]
theorem begun_ok (ns : List Int) (hn : ns.length ≤ 63) : ∃ cs gs, Cs cs ∧ gs.length = ns.length ∧ m_law_begun [.ro (ns.map .int)] [] = .ok (.ref 2) (st cs gs 0 []) := by
  obtain ⟨cs, k, e⟩ := folded_ok ns
  have hsz : 63 < sizeLine := by decide
  let F : MV → MV := fun v => match v with
      | .int c => .int (if 1000000000000000000 ≤ c then c else 0)
      | v => v
  let h3 : MH := [.lst (cs.map .int), .lst [], .dK [(.inr [99, 101, 108, 108, 115], .ref 0), (.inr [103, 114, 101, 97, 116], .ref 1), (.inr [115, 112, 111, 116], .int 0)]]
  refine ⟨cs, ns.map (fun c => if 1000000000000000000 ≤ c then c else 0), k, by simp, ?_⟩
  have hl := lcM_items (xs := ns.map .int) (t := .one 2) (te := eIf (tCmp mGe (eVar 2) (eOp mPow (eC (.int 10)) (eC (.int 18)))) (eVar 2) (eC (.int 0))) (sw := [some (.ro (ns.map .int)), some (.ref 2), none]) (h := h3)
    (f := F) (by simp only [List.length_map]; omega) (fun v hv => by
      obtain ⟨c, _, rfl⟩ := List.mem_map.mp hv
      refine ⟨_, rfl, ?_⟩
      by_cases hc : 1000000000000000000 ≤ c
      · simp [sSeq, sExpr, sRet, sRetN, sNil, sBrk, sCnt, sIf, sAsg, gNm, gN, gC, gTp, eVar, eC, eOp, eBlt, eIf, eTup, eLst, eNot, tVal, tCmp, tNotM, tAndM, tOrM, aNil, aCons, ofO, R.bind, R.bindS, R.go, mInt, mMod, mFdiv, mAdd, mSub, mMul, mTruth, mPow, mGe, hc, F]
      · simp [sSeq, sExpr, sRet, sRetN, sNil, sBrk, sCnt, sIf, sAsg, gNm, gN, gC, gTp, eVar, eC, eOp, eBlt, eIf, eTup, eLst, eNot, tVal, tCmp, tNotM, tAndM, tOrM, aNil, aCons, ofO, R.bind, R.bindS, R.go, mInt, mMod, mFdiv, mAdd, mSub, mMul, mTruth, mPow, mGe, hc, F]) ns.length 0 [] (by simp) rfl
  have hF : (ns.map MV.int).map F = (ns.map (fun c => if 1000000000000000000 ≤ c then c else 0)).map MV.int := by simp [F]
  rw [List.drop_zero, List.nil_append, hF] at hl
  have hd : eDisp [(eC (.str [99, 101, 108, 108, 115]), eCall 1 m_law_folded (aCons (eVar 0) (aNil))), (eC (.str [103, 114, 101, 97, 116]), eLst (aNil)), (eC (.str [115, 112, 111, 116]), eC (.int 0))] [some (.ro (ns.map .int)), none, none] [] = .ok (.ref 2) h3 := by
    simp [sSeq, sExpr, sRet, sRetN, sNil, sBrk, sCnt, sIf, sAsg, gNm, gN, gC, gTp, eVar, eC, eOp, eBlt, eIf, eTup, eLst, eNot, tVal, tCmp, tNotM, tAndM, tOrM, aNil, aCons, ofO, R.bind, R.bindS, R.go, mInt, mMod, mFdiv, mAdd, mSub, mMul, mTruth, eDisp, pairsM, eCall, e, keyOf, h3]
    rfl
  rw [m_law_begun, runFn, b_law_begun]
  simp only [List.map_cons, List.map_nil, List.length_cons, List.length_nil, List.cons_append, List.nil_append, List.replicate]
  simp only [sSeq, sAsg, hd, R.bindS, gNm, R.go, List.set, sSub, eLc, jSeq, eVar, eC, R.bind, List.getElem?_cons_zero, List.getElem?_cons_succ, wipeM]
  rw [show (MIt.items (ns.map MV.int)).fuel h3 = ns.length from List.length_map ..]
  rw [hl]
  rfl
end MP.Cm

end
section
namespace MP
open PySem L2
section
variable {α β : Type} {s : Sl} {h : MH}
@[simp] theorem bind_ok (a : α) (h : MH) (f : α → MH → R β) : (R.ok a h).bind f = f a h := rfl
@[simp] theorem bind_err (x : MX) (h : MH) (f : α → MH → R β) : (R.err x h : R α).bind f = .err x h := rfl
@[simp] theorem bind_stuck (f : α → MH → R β) : (R.stuck : R α).bind f = .stuck := rfl
@[simp] theorem bindS_ok (a : α) (h : MH) (s : Sl) (f : α → MH → SR) : (R.ok a h).bindS s f = f a h := rfl
@[simp] theorem bindS_err (x : MX) (h : MH) (s : Sl) (f : α → MH → SR) : (R.err x h : R α).bindS s f = .err x s h := rfl
@[simp] theorem go_ok (s : Sl) (h : MH) (f : Sl → MH → SR) : (R.ok s h).go f = f s h := rfl
@[simp] theorem ofO_some (v : MV) (h : MH) : ofO (some (v, h)) = .ok v h := rfl
@[simp] theorem ofB_some (b : Bool) (h : MH) : ofB (some b) h = .ok b h := rfl
@[simp] theorem eVar_ap (i : Nat) (s : Sl) (h : MH) : eVar i s h = match s[i]? with
  | some (some v) => .ok v h
  | _ => .stuck := rfl
@[simp] theorem eC_ap (v : MV) (s : Sl) (h : MH) : eC v s h = .ok v h := rfl
@[simp] theorem eOp_ap (f : F2) (a b : ME) (s : Sl) (h : MH) : eOp f a b s h = (a s h).bind fun x h1 => (b s h1).bind fun y h2 => ofO (f x y h2) := rfl
@[simp] theorem eIf_ap (t : MT) (a b : ME) (s : Sl) (h : MH) : eIf t a b s h = (t s h).bind fun c h1 => if c then a s h1 else b s h1 := rfl
@[simp] theorem eTup_ap (a : MA) (s : Sl) (h : MH) : eTup a s h = (a s h).bind fun xs h1 => if xs.length ≤ sizeLine then .ok (.tup xs) h1 else .stuck := rfl
@[simp] theorem eLstV_ap (a : MA) (s : Sl) (h : MH) : eLstV a s h = (a s h).bind fun xs h1 => if xs.length ≤ sizeLine then .ok (.lv xs) h1 else .stuck := rfl
@[simp] theorem eLst_ap (a : MA) (s : Sl) (h : MH) : eLst a s h = (a s h).bind fun xs h1 => if xs.length ≤ sizeLine then .ok (.ref h1.length) (h1 ++ [.lst xs]) else .stuck := rfl
@[simp] theorem aNil_ap (s : Sl) (h : MH) : aNil s h = .ok [] h := rfl
@[simp] theorem aCons_ap (a : ME) (b : MA) (s : Sl) (h : MH) : aCons a b s h = (a s h).bind fun x h1 => (b s h1).bind fun xs h2 => .ok (x :: xs) h2 := rfl
@[simp] theorem eBlt_ap (f : FA) (a : MA) (s : Sl) (h : MH) : eBlt f a s h = (a s h).bind fun xs h1 => ofO (f xs h1) := rfl
@[simp] theorem eCall_ap (n : Nat) (m : MF) (a : MA) (s : Sl) (h : MH) : eCall n m a s h = (a s h).bind fun xs h1 => if xs.length = n then m xs h1 else .stuck := rfl
@[simp] theorem eBm_ap (t : Ty) (f : FM) (o : ME) (a : MA) (s : Sl) (h : MH) : eBm t f o a s h = (o s h).bind fun x h1 => if isRcv t x h1 then (a s h1).bind fun xs h2 => ofO (f x xs h2) else .stuck := rfl
@[simp] theorem eCutV_ap (a : ME) (lo hi : MP_) (s : Sl) (h : MH) : eCutV a lo hi s h = (a s h).bind fun x h1 => (lo s h1).bind fun l h2 => (hi s h2).bind fun u h3 => ofO (mCutV x l u h3) := rfl
@[simp] theorem pNo_ap (s : Sl) (h : MH) : pNo s h = .ok none h := rfl
@[simp] theorem pSo_ap (a : ME) (s : Sl) (h : MH) : pSo a s h = (a s h).bind fun x h1 => match x with
  | .int i => .ok (some i) h1
  | _ => .stuck := rfl
@[simp] theorem eNeg_ap (a : ME) (s : Sl) (h : MH) : eNeg a s h = (a s h).bind fun x h1 => match x with
  | .int i => .ok (.int (-i)) h1
  | _ => .stuck := rfl
@[simp] theorem eAnd_ap (a b : ME) (s : Sl) (h : MH) : eAnd a b s h = (a s h).bind fun x h1 => match x with
  | .bl true => b s h1
  | .bl false => .ok (.bl false) h1
  | _ => .stuck := rfl
@[simp] theorem eOr_ap (a b : ME) (s : Sl) (h : MH) : eOr a b s h = (a s h).bind fun x h1 => match x with
  | .bl false => b s h1
  | .bl true => .ok (.bl true) h1
  | _ => .stuck := rfl
@[simp] theorem eNot_ap (a : ME) (s : Sl) (h : MH) : eNot a s h = (a s h).bind fun x h1 => (ofB (mTruth x h1) h1).bind fun c h2 => .ok (.bl (!c)) h2 := rfl
@[simp] theorem eFld_ap (cs : List CP) (f : CP) (o : ME) (s : Sl) (h : MH) : eFld cs f o s h = (o s h).bind fun y h1 => match y with
  | .ref n => match h1[n]? with
    | some (.ins c fs) => if cs.contains c then (match getF f fs with
      | some v => .ok v h1
      | none => .stuck) else .stuck
    | _ => .stuck
  | _ => .stuck := rfl
@[simp] theorem tVal_ap (a : ME) (s : Sl) (h : MH) : tVal a s h = (a s h).bind fun x h1 => ofB (mTruth x h1) h1 := rfl
@[simp] theorem tCmp_ap (f : F2) (a b : ME) (s : Sl) (h : MH) : tCmp f a b s h = (a s h).bind fun x h1 => (b s h1).bind fun y h2 => match f x y h2 with
  | some (.bl k, h3) => .ok k h3
  | _ => .stuck := rfl
@[simp] theorem tNotM_ap (t : MT) (s : Sl) (h : MH) : tNotM t s h = (t s h).bind fun c h1 => .ok (!c) h1 := rfl
@[simp] theorem tAndM_ap (t u : MT) (s : Sl) (h : MH) : tAndM t u s h = (t s h).bind fun c h1 => if c then u s h1 else .ok false h1 := rfl
@[simp] theorem tOrM_ap (t u : MT) (s : Sl) (h : MH) : tOrM t u s h = (t s h).bind fun c h1 => if c then .ok true h1 else u s h1 := rfl
@[simp] theorem tYesM_ap (s : Sl) (h : MH) : tYesM s h = .ok true h := rfl
@[simp] theorem tB_ap (a : ME) (s : Sl) (h : MH) : tB a s h = (a s h).bind fun v h1 => match v with
  | .bl k => .ok k h1
  | _ => .stuck := rfl
@[simp] theorem eChain_ap (f g : F2) (a b c : ME) (s : Sl) (h : MH) : eChain f g a b c s h = (a s h).bind fun x h1 => (b s h1).bind fun y h2 => (ofO (f x y h2)).bind fun z h3 => match z with
  | .bl true => (c s h3).bind fun w h4 => ofO (g y w h4)
  | .bl false => .ok (.bl false) h3
  | _ => .stuck := rfl
@[simp] theorem sNil_ap (s : Sl) (h : MH) : sNil s h = .nx s h := rfl
@[simp] theorem sSeq_ap (a b : MS) (s : Sl) (h : MH) : sSeq a b s h = match a s h with
  | .nx s1 h1 => b s1 h1
  | o => o := rfl
@[simp] theorem sExpr_ap (e : ME) (s : Sl) (h : MH) : sExpr e s h = (e s h).bindS s fun _ h1 => .nx s h1 := rfl
@[simp] theorem sRet_ap (e : ME) (s : Sl) (h : MH) : sRet e s h = (e s h).bindS s fun v h1 => .rt v h1 := rfl
@[simp] theorem sRetN_ap (s : Sl) (h : MH) : sRetN s h = .rt .non h := rfl
@[simp] theorem sIf_ap (t : MT) (a b : MS) (s : Sl) (h : MH) : sIf t a b s h = (t s h).bindS s fun c h1 => if c then a s h1 else b s h1 := rfl
@[simp] theorem sAsg_ap (e : ME) (g : MG) (s : Sl) (h : MH) : sAsg e g s h = (e s h).bindS s fun v h1 => (g v s h1).go fun s' h2 => .nx s' h2 := rfl
@[simp] theorem gNm_ap (i : Nat) (v : MV) (s : Sl) (h : MH) : gNm i v s h = .ok (s.set i (some v)) h := rfl
@[simp] theorem gN_ap (s : Sl) (h : MH) : gN [] s h = .ok s h := rfl
@[simp] theorem gC_ap (g : MG) (gs : MGs) (v : MV) (r : List MV) (s : Sl) (h : MH) : gC g gs (v :: r) s h = (g v s h).bind fun s1 h1 => gs r s1 h1 := rfl
@[simp] theorem gTp_ap (n : Nat) (gs : MGs) (xs : List MV) (s : Sl) (h : MH) : gTp n gs (.tup xs) s h = if xs.length = n then gs xs s h else .stuck := rfl
@[simp] theorem sPar_ap (i j : Nat) (a : MA) (s : Sl) (h : MH) : sPar i j a s h = (a s h).bindS s fun vs h1 => match vs with
  | [v, w] => .nx ((s.set i (some v)).set j (some w)) h1
  | _ => .stuck := rfl
@[simp] theorem sPar3_ap (i j l : Nat) (a : MA) (s : Sl) (h : MH) : sPar3 i j l a s h = (a s h).bindS s fun vs h1 => match vs with
  | [v, w, u] => .nx (((s.set i (some v)).set j (some w)).set l (some u)) h1
  | _ => .stuck := rfl
@[simp] theorem sFldM_ap (cs : List CP) (f : CP) (o e : ME) (s : Sl) (h : MH) : sFldM cs f o e s h = (e s h).bindS s fun v h1 => (o s h1).bindS s fun y h2 => match y with
  | .ref n => match h2[n]? with
    | some (.ins c fs) => if cs.contains c && decide (fs.length < 1000) then .nx s (h2.set n (.ins c (setF f v fs))) else .stuck
    | _ => .stuck
  | _ => .stuck := rfl
@[simp] theorem runFn_ap (n : Nat) (b : MS) (as : List MV) (h : MH) : runFn n b as h = match b (as.map some ++ List.replicate (n - as.length) none) h with
  | .rt v h' => .ok v h'
  | .nx _ h' => .ok .non h'
  | .err e _ h' => .err e h'
  | _ => .stuck := rfl
@[simp] theorem eMeth_ap (c x : CP) (np : Nat) (m : MF) (o : ME) (a : MA) (s : Sl) (h : MH) : eMeth c x np m o a s h = (o s h).bind fun y h1 => match y with
  | .ref n => match h1[n]? with
    | some (.ins c' fs) => if c' == c && noF x fs then (a s h1).bind fun xs h2 => if xs.length + 1 = np then m (.ref n :: xs) h2 else .stuck else .stuck
    | _ => .stuck
  | _ => .stuck := rfl
@[simp] theorem eMake_ap (c : CP) (np : Nat) (m : MF) (a : MA) (s : Sl) (h : MH) : eMake c np m a s h = (a s h).bind fun xs h1 => if xs.length + 1 = np then (m (.ref h1.length :: xs) (h1 ++ [.ins c []])).bind fun v h2 => (match v with
    | .non => .ok (.ref h1.length) h2
    | _ => .stuck) else .stuck := rfl
@[simp] theorem sFldAug_ap (cs : List CP) (f : CP) (g : F2) (o e : ME) (s : Sl) (h : MH) : sFldAug cs f g o e s h = (o s h).bindS s fun y h1 => match y with
  | .ref n => match h1[n]? with
    | some (.ins c fs) => if cs.contains c then (match getF f fs with
      | some v => (e s h1).bindS s fun u h2 => match g v u h2 with
        | some (z, h3) => (match h3[n]? with
          | some (.ins c' fs') => if c' == c && decide (fs'.length < 1000) then .nx s (h3.set n (.ins c (setF f z fs'))) else .stuck
          | _ => .stuck)
        | none => .stuck
      | none => .stuck) else .stuck
    | _ => .stuck
  | _ => .stuck := rfl
@[simp] theorem sAug_ap (i : Nat) (f : F2) (e : ME) (s : Sl) (h : MH) : sAug i f e s h = match s[i]? with
  | some (some v) => (e s h).bindS s fun w h1 => (match f v w h1 with
    | some (z, h2) => .nx (s.set i (some z)) h2
    | none => .stuck)
  | _ => .stuck := by rfl
@[simp] theorem sSub_ap (o i e : ME) (s : Sl) (h : MH) : sSub o i e s h = (e s h).bindS s fun v h1 => (o s h1).bindS s fun x h2 => (i s h2).bindS s fun y h3 => match mSet x y v h3 with
  | some h4 => .nx s h4
  | none => .stuck := by rfl
@[simp] theorem jSeq_str (a : ME) (s : Sl) (h : MH) : jSeq a s h = (a s h).bind fun x h1 => match x with
  | .ref n => match lstAt h1 n with
    | some _ => .ok (.lst n) h1
    | none => .stuck
  | .tup xs => .ok (.items xs) h1
  | .str l => .ok (.items (l.map fun c => .str [c])) h1
  | .ro xs => .ok (.items xs) h1
  | .lv xs => .ok (.items xs) h1
  | _ => .stuck := rfl
@[simp] theorem jRng1_ap (a : MA) (s : Sl) (h : MH) : jRng1 a s h = (a s h).bind fun xs h1 => match xs with
  | [.int j] => if -(2 ^ 62) ≤ j ∧ j < 2 ^ 62 then .ok (.items (upTo 0 j.toNat)) h1 else .stuck
  | _ => .stuck := rfl
@[simp] theorem jRng2_ap (a : MA) (s : Sl) (h : MH) : jRng2 a s h = (a s h).bind fun xs h1 => match xs with
  | [.int i, .int j] => if -(2 ^ 62) ≤ i ∧ i < 2 ^ 62 ∧ -(2 ^ 62) ≤ j ∧ j < 2 ^ 62 then .ok (.items (upTo i (j - i).toNat)) h1 else .stuck
  | _ => .stuck := rfl
@[simp] theorem jEnum_ap (a : MA) (s : Sl) (h : MH) : jEnum a s h = (a s h).bind fun xs h1 => match xs with
  | [.str l] => .ok (.items (enumL 0 (l.map fun c => .str [c]))) h1
  | [.tup xs] => .ok (.items (enumL 0 xs)) h1
  | [.ro xs] => .ok (.items (enumL 0 xs)) h1
  | [.lv xs] => .ok (.items (enumL 0 xs)) h1
  | [.ref n] => (match lstAt h1 n with
    | some _ => .ok (.enumL n) h1
    | none => .stuck)
  | _ => .stuck := rfl
end
def forL (g : MG) (b : MS) : List MV → Sl → MH → SR
  | [], s, h => .nx s h
  | x :: xs, s, h => (g x s h).go fun s1 h1 => match b s1 h1 with
    | .nx s2 h2 => forL g b xs s2 h2
    | .ct s2 h2 => forL g b xs s2 h2
    | .bk s2 h2 => .nx s2 h2
    | o => o
theorem forM_L (g : MG) (b : MS) (xs : List MV) : ∀ (n i : Nat) (s : Sl) (h : MH), i + n = xs.length → forM (.items xs) g b n i s h = forL g b (xs.drop i) s h := by
  intro n
  induction n with
  | zero =>
    intro i s h hi
    have e : xs[i]? = none := List.getElem?_eq_none (by omega)
    rw [forM_zero, List.drop_of_length_le (by omega)]
    simp [MIt.at, e, forL]
  | succ n ih =>
    intro i s h hi
    have hl : i < xs.length := by omega
    have e : xs[i]? = some xs[i] := List.getElem?_eq_getElem hl
    rw [forM_succ, List.drop_eq_getElem_cons hl, forL]
    simp only [MIt.at, e]
    congr 1
    funext s1 h1
    cases b s1 h1 with
    | nx s2 h2 => exact ih (i + 1) s2 h2 (by omega)
    | ct s2 h2 => exact ih (i + 1) s2 h2 (by omega)
    | _ => rfl
@[simp] theorem for_items (xs : List MV) (g : MG) (b : MS) (s : Sl) (h : MH) : forM (.items xs) g b ((MIt.items xs).fuel h) 0 s h = forL g b xs s h := by
  have := forM_L g b xs xs.length 0 s h (by omega)
  rw [List.drop_zero] at this
  exact this
@[simp] theorem sFor_ap (mi : MI) (g : MG) (b : MS) (s : Sl) (h : MH) : sFor mi g b s h = (mi s h).bindS s fun it h1 => forM it g b (it.fuel h1) 0 s h1 := rfl
def lcL (t : Tg) (tt : MT) (te : ME) (sw : Sl) : List MV → List MV → MH → R MV
  | [], acc, h => .ok (.lv acc) h
  | x :: xs, acc, h => match t.run x sw with
    | some s2 => match tt s2 h with
      | .ok true h3 => (match te s2 h3 with
        | .ok y h4 => if acc.length < sizeLine then lcL t tt te sw xs (acc ++ [y]) h4 else .stuck
        | _ => .stuck)
      | .ok false h3 => lcL t tt te sw xs acc h3
      | _ => .stuck
    | none => .stuck
theorem lcW_L (t : Tg) (tt : MT) (te : ME) (sw : Sl) (xs : List MV) : ∀ (n i : Nat) (acc : List MV) (h : MH), i + n = xs.length → lcW (.items xs) t tt te sw n i acc h = lcL t tt te sw (xs.drop i) acc h := by
  intro n
  induction n with
  | zero =>
    intro i acc h hi
    have e : xs[i]? = none := List.getElem?_eq_none (by omega)
    rw [lcW_zero, List.drop_of_length_le (by omega)]
    simp [MIt.at, e, lcL]
  | succ n ih =>
    intro i acc h hi
    have hl : i < xs.length := by omega
    have e : xs[i]? = some xs[i] := List.getElem?_eq_getElem hl
    rw [lcW_succ, List.drop_eq_getElem_cons hl, lcL]
    simp only [MIt.at, e]
    cases t.run xs[i] sw with
    | none => rfl
    | some s2 =>
      dsimp only
      cases tt s2 h with
      | ok b h3 =>
        cases b with
        | false => exact ih (i + 1) acc h3 (by omega)
        | true =>
          dsimp only
          cases te s2 h3 with
          | ok y h4 =>
            dsimp only
            split
            · exact ih (i + 1) _ h4 (by omega)
            · rfl
          | _ => rfl
      | _ => rfl
@[simp] theorem lc_items (t : Tg) (tt : MT) (te : ME) (sw : Sl) (xs acc : List MV) (h : MH) : lcW (.items xs) t tt te sw ((MIt.items xs).fuel h) 0 acc h = lcL t tt te sw xs acc h := by
  have := lcW_L t tt te sw xs xs.length 0 acc h (by omega)
  rw [List.drop_zero] at this
  exact this
@[simp] theorem eLv_ap (mi : MI) (ws : List Nat) (t : Tg) (tt : MT) (te : ME) (s : Sl) (h : MH) : eLv mi ws t tt te s h = (mi s h).bind fun it h1 => lcW it t tt te (wipeM s ws) (it.fuel h1) 0 [] h1 := rfl
structure Dat (k w : Nat) (v : MV) : Prop where
  bel : below 0 v = true
  d : ∃ d : PyData, (∀ n h, k < n → toD n h v = some d) ∧ d.showable = true ∧ d.hasDict = false ∧ d.depth ≤ k ∧ d.weight ≤ w ∧ d.leavesShort 640 = true ∧ d.canLay0 = true
structure DatL (k w : Nat) (vs : List MV) : Prop where
  bel : belowL 0 vs = true
  d : ∃ ds : List PyData, (∀ n h, k < n → mapO (toD n h) vs = some ds) ∧ PyData.showableAll ds = true ∧ PyData.hasDictAll ds = false ∧ PyData.depthAll ds ≤ k ∧ PyData.weightAll ds ≤ w ∧ PyData.leavesShortAll 640 ds = true ∧ PyData.canLayAll0 ds = true ∧ ds.length = vs.length
def okC (l : CP) : Prop := ∀ c ∈ l, c < 1114112
theorem Dat.non : Dat 0 0 .non := ⟨rfl, .none, fun n h hn => by cases n with | zero => omega | succ n => rfl, rfl, rfl, by decide, by decide, rfl, rfl⟩
theorem Dat.bl (b : Bool) : Dat 0 0 (.bl b) := ⟨rfl, .bool b, fun n h hn => by cases n with | zero => omega | succ n => rfl, rfl, rfl, by simp [PyData.depth], by simp [PyData.weight], rfl, rfl⟩
theorem Dat.str {l : CP} (hl : okC l) : Dat 0 l.length (.str l) := by
  refine ⟨rfl, .str (S l), fun n h hn => by cases n with | zero => omega | succ n => rfl, rfl, rfl, by simp [PyData.depth], by simp [PyData.weight, S], ?_, ?_⟩
  · simp only [PyData.leavesShort, S_toList, List.all_eq_true, decide_eq_true_eq]
    intro c hc
    have := hl c hc
    omega
  · simp only [PyData.canLay0, PyData.strOk, S]
    rw [Array.all_eq_true']
    intro c hc
    have := hl c (by simpa using hc)
    simpa using this
theorem DatL.nil (k : Nat) : DatL k 0 [] := ⟨rfl, [], fun n h hn => rfl, rfl, rfl, by simp [PyData.depthAll], by simp [PyData.weightAll], rfl, rfl, rfl⟩
theorem DatL.cons {k w w' : Nat} {v : MV} {vs : List MV} (a : Dat k w v) (b : DatL k w' vs) : DatL k (w + 1 + w') (v :: vs) := by
  obtain ⟨b1, x, h1, h2, h3, h4, h5, h6, h7⟩ := a
  obtain ⟨b2, xs, g1, g2, g3, g4, g5, g6, g7, g8⟩ := b
  exact ⟨by simp [belowL, b1, b2], x :: xs, fun n h hn => by simp [mapO, h1 n h hn, g1 n h hn], by simp [PyData.showableAll, h2, g2], by simp [PyData.hasDictAll, h3, g3], by simp [PyData.depthAll]; omega, by simp only [PyData.weightAll]; omega, by simp [PyData.leavesShortAll, h6, g6], by simp [PyData.canLayAll0, h7, g7], by simp [g8]⟩
theorem DatL.tup {k w : Nat} {vs : List MV} (a : DatL k w vs) : Dat (k + 1) w (.tup vs) := by
  obtain ⟨b2, xs, g1, g2, g3, g4, g5, g6, g7, g8⟩ := a
  refine ⟨by simpa [below] using b2, .tuple xs, fun n h hn => ?_, g2, g3, by simp only [PyData.depth]; omega, by simpa only [PyData.weight] using g5, g6, g7⟩
  cases n with
  | zero => omega
  | succ n => simp [toD, g1 n h (by omega)]
theorem DatL.lv {k w : Nat} {vs : List MV} (a : DatL k w vs) : Dat (k + 1) w (.lv vs) := by
  obtain ⟨b2, xs, g1, g2, g3, g4, g5, g6, g7, g8⟩ := a
  refine ⟨by simpa [below] using b2, .list xs, fun n h hn => ?_, g2, g3, by simp only [PyData.depth]; omega, by simpa only [PyData.weight] using g5, g6, g7⟩
  cases n with
  | zero => omega
  | succ n => simp [toD, g1 n h (by omega)]
@[simp] theorem eqv_str (x y : CP) (h : MH) : mEqv (.str x) (.str y) h = some (x == y) := rfl
@[simp] theorem eqv_int (x y : Int) (h : MH) : mEqv (.int x) (.int y) h = some (x == y) := rfl
@[simp] theorem eqv_bl (x y : Bool) (h : MH) : mEqv (.bl x) (.bl y) h = some (x == y) := rfl
@[simp] theorem eqv_non (h : MH) : mEqv .non .non h = some true := rfl
@[simp] theorem eqv_nonI (y : Int) (h : MH) : mEqv .non (.int y) h = some false := rfl
@[simp] theorem eqv_lvN (xs : List MV) (h : MH) : mEqv (.lv xs) (.lv []) h = some xs.isEmpty := rfl
@[simp] theorem eqv_tupN (xs : List MV) (h : MH) : mEqv (.tup xs) (.tup []) h = some xs.isEmpty := rfl
theorem eqv_refN {n : Nat} {xs : List MV} {h : MH} (e : lstAt h n = some xs) : mEqv (.ref n) (.lv []) h = some xs.isEmpty := by
  simp [mEqv, eqE, lstV, e]
@[simp] theorem mEq_ap (a b : MV) (h : MH) : mEq a b h = (mEqv a b h).map fun k => (.bl k, h) := rfl
@[simp] theorem mNe_ap (a b : MV) (h : MH) : mNe a b h = (mEqv a b h).map fun k => (.bl (!k), h) := rfl
@[simp] theorem mIn_ap (a b : MV) (h : MH) : mIn a b h = (mInB a b h).map fun k => (.bl k, h) := rfl
@[simp] theorem mNotIn_ap (a b : MV) (h : MH) : mNotIn a b h = (mInB a b h).map fun k => (.bl (!k), h) := rfl
@[simp] theorem inB_str (a b : CP) (h : MH) : mInB (.str a) (.str b) h = some (inS a b) := rfl
@[simp] theorem truth_bl (b : Bool) (h : MH) : mTruth (.bl b) h = some b := rfl
@[simp] theorem rcv_str (l : CP) (h : MH) : isRcv .str (.str l) h = true := rfl
theorem Dat.int {i : Int} (hi : i.natAbs < 1000000000000) : Dat 0 64 (.int i) := by
  have hl : i.natAbs.log2 < 40 := by
    by_cases hz : i.natAbs = 0
    · rw [hz]; decide
    · rw [Nat.log2_lt hz]; omega
  refine ⟨rfl, .int i, fun n h hn => by cases n with | zero => omega | succ n => rfl, ?_, rfl, by simp [PyData.depth], ?_, ?_, rfl⟩
  · simp only [PyData.showable, decide_eq_true_eq]; omega
  · simp only [PyData.weight]; split <;> omega
  · simp only [PyData.leavesShort]
    apply decide_eq_true
    have := int_text_length_le (a := i) (k := 40) (by decide) hl
    show (Str.ofString (toString i)).length ≤ 640
    rw [ofString_length]
    omega
end MP

end
section
namespace MP.Pg
open PySem L2 MP MP.Pr
theorem szs : sizeLine = 16777216 := rfl
theorem inS_one (c : Nat) : ∀ b : CP, inS [c] b = b.contains c
  | [] => by simp [inS]
  | d :: b => by
    simp only [inS, inS_one c b, List.isPrefixOf, List.contains_cons, Bool.and_true]
def oT : Option Nat → CP
  | none => []
  | some c => [c]
def opener (c : Nat) : Bool := c == 40 || c == 91
def closing (c : Nat) : Bool := c == 41 || c == 93 || c == 39
def letter (c : Nat) : Bool := decide (97 ≤ c ∧ c ≤ 122)
def free (c : Nat) : Bool := c == 41 || c == 93 || c == 39 || c == 32 || c == 47
def closerN (c : Nat) : Option Nat := if c = 39 then some 39 else if c = 40 then some 41 else if c = 91 then some 93 else none
theorem letters_eq (c : Nat) : ([97, 98, 99, 100, 101, 102, 103, 104, 105, 106, 107, 108, 109, 110, 111, 112, 113, 114, 115, 116, 117, 118, 119, 120, 121, 122] : CP).contains c = letter c := by
  rw [Bool.eq_iff_iff]
  simp [letter]
  omega
theorem closer_ok (o : Option Nat) (g : MH) : m_closer_of [.str (oT o)] g = .ok (.str (oT (o.bind closerN))) g := by
  cases o with
  | none => rfl
  | some c =>
    by_cases h1 : c = 39
    · subst h1; rfl
    by_cases h2 : c = 40
    · subst h2; rfl
    by_cases h3 : c = 91
    · subst h3; rfl
    simp [m_closer_of, b_closer_of, v_QUOTE, v_OPENERS, oT, inS_one, h1, h2, h3, closerN]
theorem letter_ok (o : Option Nat) (g : MH) : m_is_letter [.str (oT o)] g = .ok (.bl (o.elim false letter)) g := by
  cases o with
  | none => rfl
  | some c =>
    simp [m_is_letter, b_is_letter, v_LETTERS, oT, inS_one]
    rw [Bool.eq_iff_iff]
    simp [letter]
    omega
theorem closing_ok (o : Option Nat) (g : MH) : m_is_closing [.str (oT o)] g = .ok (.bl (o.elim false closing)) g := by
  cases o with
  | none => rfl
  | some c =>
    simp [m_is_closing, b_is_closing, v_CLOSERS, v_QUOTE, oT, inS_one, mAddV, lstR, mAdd, szs]
    rw [Bool.eq_iff_iff]
    simp [closing, or_assoc]
theorem free_ok (o : Option Nat) (g : MH) : m_is_free [.str (oT o)] g = .ok (.bl (o.elim true free)) g := by
  cases o with
  | none => rfl
  | some c =>
    simp [m_is_free, b_is_free, v_CLOSERS, v_QUOTE, v_BLANK, v_LINE, oT, inS_one, mAddV, lstR, mAdd, szs]
    rw [Bool.eq_iff_iff]
    simp [free, or_assoc]
def withinA : Bool → CP → Bool
  | b, [] => b
  | b, c :: t => withinA (if c = 47 then false else if c = 39 then !b else b) t
def within (l : CP) : Bool := withinA false l
theorem withinA_snoc (c : Nat) : ∀ (l : CP) (b : Bool), withinA b (l ++ [c]) = if c = 47 then false else if c = 39 then !withinA b l else withinA b l
  | [], b => by simp [withinA]
  | d :: l, b => by simp only [List.cons_append, withinA, withinA_snoc c l]
def after : CP → CP
  | [] => []
  | d :: r => if r.contains 47 then after r else if d = 47 then r else d :: r
def par (l : CP) : Bool := decide (cntL 39 l % 2 = 1)
theorem cnt_nn (c : Nat) : ∀ l : CP, 0 ≤ cntL c l ∧ cntL c l ≤ l.length
  | [] => by simp [cntL]
  | d :: l => by
    have := cnt_nn c l
    simp only [cntL, List.length_cons]
    split <;> omega
theorem par_cons (d : Nat) (l : CP) : par (d :: l) = if d = 39 then !par l else par l := by
  have := cnt_nn 39 l
  by_cases h : d = 39
  · simp only [par, cntL, h, if_true]
    rw [Bool.eq_iff_iff]
    simp
    omega
  · simp [par, cntL, h]
theorem within_after : ∀ (l : CP) (b : Bool), withinA b l = if l.contains 47 then par (after l) else (b != par l)
  | [], b => by simp [withinA, par, cntL]
  | d :: l, b => by
    rw [withinA, within_after l]
    by_cases h : l.contains 47 = true
    · have : (d :: l).contains 47 = true := by rw [List.contains_cons, h, Bool.or_true]
      rw [if_pos h, if_pos this, after, if_pos h]
    · rw [if_neg h]
      by_cases hd : d = 47
      · subst hd
        have : (47 :: l).contains 47 = true := by simp
        rw [if_pos rfl, if_pos this, after, if_neg h, if_pos rfl]
        cases par l <;> rfl
      · have : ¬ (d :: l).contains 47 = true := by rw [List.contains_cons]; simpa [Ne.symm hd] using h
        rw [if_neg hd, if_neg this, par_cons]
        by_cases h39 : d = 39
        · simp only [h39, if_true]; cases b <;> cases par l <;> rfl
        · simp only [h39, if_false]
theorem lastIx_after : ∀ l : CP, l.drop (lastIx 47 l + 1).toNat = after l ∧ (lastIx 47 l = -1 ↔ l.contains 47 = false) ∧ -1 ≤ lastIx 47 l ∧ lastIx 47 l < l.length
  | [] => by simp [lastIx, after]
  | d :: l => by
    obtain ⟨e, i1, i2, i3⟩ := lastIx_after l
    by_cases h : l.contains 47 = true
    · have hn : ¬ lastIx 47 l = -1 := fun z => by rw [i1.mp z] at h; cases h
      rw [lastIx, if_neg hn, after, if_pos h]
      refine ⟨?_, ?_, by omega, by simp only [List.length_cons]; omega⟩
      · have : (lastIx 47 l + 1 + 1).toNat = (lastIx 47 l + 1).toNat + 1 := by omega
        rw [this, List.drop_succ_cons, e]
      · rw [List.contains_cons, h, Bool.or_true]
        constructor
        · intro z; omega
        · intro z; cases z
    · have hf : l.contains 47 = false := by simpa using h
      have hn : lastIx 47 l = -1 := i1.mpr hf
      rw [lastIx, if_pos hn, after, if_neg h]
      by_cases hd : d = 47
      · subst hd
        simp
      · simp [hd, Ne.symm hd]
        constructor
        · simpa using hf
        · omega
theorem cut_from {l : CP} {k : Int} (h : 0 ≤ k) : cutM l (some k) none = l.drop k.toNat := by
  unfold cutM
  simp only [HT.sIx, if_neg (show ¬ k < 0 by omega)]
  by_cases hk : k.toNat ≤ l.length
  · rw [Nat.min_eq_left hk, List.take_of_length_le (by simp)]
  · rw [Nat.min_eq_right (by omega), List.drop_of_length_le (Nat.le_refl _), List.drop_of_length_le (by omega)]
    simp
theorem within_ok {l : CP} (hl : l.length ≤ 100000) (g : MH) : m_is_within [.str l] g = .ok (.bl (within l)) g := by
  obtain ⟨e, i1, i2, i3⟩ := lastIx_after l
  have hc := cnt_nn 39 (after l)
  have ha : (after l).length ≤ l.length := by rw [← e]; simp
  have ew : within l = par (after l) := by
    unfold within
    rw [within_after]
    by_cases h : l.contains 47 = true
    · rw [if_pos h]
    · have hf : l.contains 47 = false := by simpa using h
      rw [if_neg h]
      have : after l = l := by rw [← e, i1.mpr hf]; simp
      rw [this]; cases par l <;> rfl
  have h0 : (-18446744073709551616 : Int) < 2 ∧ (2 : Int) < 18446744073709551616 := by decide
  have hs : l.length ≤ 16777216 := by omega
  simp [m_is_within, b_is_within, v_LINE, v_QUOTE, mRfind, mCutV, lstV, mCut, szs, hs, mAddV, lstR, mAdd, mCount, cut_from (show 0 ≤ lastIx 47 l + 1 by omega), e, mFdiv, mMulV, mMul, h0, mSub, ew, par]
  rw [Bool.eq_iff_iff]
  simp
  omega
end MP.Pg

end
section
namespace MP.Pg
open PySem L2 MP MP.Pr
abbrev Rt := List (Nat × Bool)
def prV (p : Nat × Bool) : MV := .tup [.str [p.1], .bl p.2]
def rtV (r : Rt) : List MV := r.map prV
structure Bk where
  a : CP
  b : CP
  c : CP
  d : CP
  e : CP
  f : CP
def Bk.v (b : Bk) : MV := .tup [.str b.a, .str b.b, .str b.c, .str b.d, .str b.e, .str b.f]
abbrev kBack : CP := [98, 97, 99, 107]
abbrev kRight : CP := [114, 105, 103, 104, 116]
abbrev kEnd : CP := [101, 110, 100]
abbrev wAny : CP := [97, 110, 121]
abbrev wOwn : CP := [111, 119, 110]
abbrev wAlways : CP := [97, 108, 119, 97, 121, 115]
abbrev wFree : CP := [102, 114, 101, 101]
abbrev wSame : CP := [115, 97, 109, 101]
abbrev wApart : CP := [97, 112, 97, 114, 116]
abbrev wLine : CP := [108, 105, 110, 101]
def nx (r : Rt) : Option Nat := r.head?.map (·.1)
def ow (r : Rt) : Bool := (r.head?.map (·.2)).getD false
def lets (w : CP) (o : Bool) : Bool := w == wAny || w == wOwn && o
def doesPut (B : Bk) (l : CP) (r : Rt) (c : Nat) : Bool :=
  if B.c != wSame && within l then false
  else if opener c then B.a == wAlways || B.a == wFree && (nx r).elim true free
  else if B.b != wApart then B.b == wAlways
  else (nx r).elim true free && (!(l.getLast?.elim false letter) && !(l.getLast? == some 39))
def typeS (B : Bk) (l : CP) (r : Rt) (c : Nat) : CP × Rt :=
  if closing c && nx r == some c && lets B.d (ow r) then (l ++ [c], r.tail)
  else
    let r1 : Rt := match closerN c with
      | some k => if doesPut B l r c then (k, true) :: r else r
      | none => r
    (l ++ [c], if c == 47 && B.f == wLine then r1.map (fun p => (p.1, false)) else r1)
def backR (B : Bk) (r : Rt) : Option Nat → Rt
  | some k => if nx r == some k && lets B.e (ow r) then r.tail else r
  | none => r
def backS (B : Bk) (l : CP) (r : Rt) : CP × Rt := match l.getLast? with
  | none => (l, r)
  | some c => (l.dropLast, backR B r (closerN c))
def overS (l : CP) (r : Rt) : CP × Rt := match r with
  | [] => (l, [])
  | p :: t => (l ++ [p.1], t)
def endS (l : CP) (r : Rt) : CP × Rt := (l ++ (r.takeWhile (·.2)).map (·.1), r.dropWhile (·.2))
inductive Ky where
  | back | right | end_ | sg (c : Nat)
def Ky.t : Ky → CP
  | .back => kBack
  | .right => kRight
  | .end_ => kEnd
  | .sg c => [c]
def pressS (B : Bk) (l : CP) (r : Rt) : Ky → CP × Rt
  | .back => backS B l r
  | .right => overS l r
  | .end_ => endS l r
  | .sg c => typeS B l r c
structure PgAt (h : MH) (n k : Nat) (l : CP) (r : Rt) : Prop where
  pg : h[n]? = some (.ins n_Page [(f_left, .str l), (f_right, .ref k)])
  ls : h[k]? = some (.lst (rtV r.reverse))
theorem PgAt.lst {h : MH} {n k : Nat} {l : CP} {r : Rt} (p : PgAt h n k l r) : lstAt h k = some (rtV r.reverse) := by simp [lstAt, p.ls]
theorem PgAt.ne {h : MH} {n k : Nat} {l : CP} {r : Rt} (p : PgAt h n k l r) : n ≠ k := fun z => by
  have := p.pg
  rw [z, p.ls] at this
  cases this
@[simp] theorem getL (a b : MV) : getF f_left [(f_left, a), (f_right, b)] = some a := rfl
@[simp] theorem getR (a b : MV) : getF f_right [(f_left, a), (f_right, b)] = some b := rfl
@[simp] theorem setL (v a b : MV) : setF f_left v [(f_left, a), (f_right, b)] = [(f_left, v), (f_right, b)] := rfl
@[simp] theorem setR (v a b : MV) : setF f_right v [(f_left, a), (f_right, b)] = [(f_left, a), (f_right, v)] := rfl
@[simp] theorem hasPg : ([n_Page] : List CP).contains n_Page = true := rfl
@[simp] theorem noNS (a b : MV) : noF x_next_sign [(f_left, a), (f_right, b)] = true := rfl
@[simp] theorem noNO (a b : MV) : noF x_is_next_own [(f_left, a), (f_right, b)] = true := rfl
@[simp] theorem noGO (a b : MV) : noF x_go_over [(f_left, a), (f_right, b)] = true := rfl
@[simp] theorem noGB (a b : MV) : noF x_go_back [(f_left, a), (f_right, b)] = true := rfl
@[simp] theorem noDP (a b : MV) : noF x_does_put [(f_left, a), (f_right, b)] = true := rfl
@[simp] theorem noTS (a b : MV) : noF x_type_sign [(f_left, a), (f_right, b)] = true := rfl
@[simp] theorem noPr (a b : MV) : noF x_press [(f_left, a), (f_right, b)] = true := rfl
@[simp] theorem noRT (a b : MV) : noF x_right_text [(f_left, a), (f_right, b)] = true := rfl
@[simp] theorem noTo (a b : MV) : noF x_told [(f_left, a), (f_right, b)] = true := rfl
theorem rt_last (p : Nat × Bool) (t : Rt) : rtV (p :: t).reverse = rtV t.reverse ++ [prV p] := by simp [rtV]
theorem rt_empty (r : Rt) : (rtV r.reverse).isEmpty = r.isEmpty := by
  cases r with
  | nil => rfl
  | cons p t => simp [rtV]
section
variable {h : MH} {n k : Nat} {l : CP} {r : Rt}
theorem ix_last (p : PgAt h n k l (q :: t)) : mIx (.ref k) (.int (-1)) h = some (prV q, h) := by
  simp only [mIx, p.lst]
  rw [rt_last, atI_last]
  rfl
theorem PgAt.eqN (p : PgAt h n k l r) : mEqv (.ref k) (.lv []) h = some r.isEmpty := by rw [eqv_refN p.lst, rt_empty]
theorem ix_pr0 (q : Nat × Bool) (h : MH) : mIx (prV q) (.int 0) h = some (.str [q.1], h) := rfl
theorem ix_pr1 (q : Nat × Bool) (h : MH) : mIx (prV q) (.int 1) h = some (.bl q.2, h) := rfl
theorem next_sign_ok (p : PgAt h n k l r) : m_Page_next_sign [.ref n] h = .ok (.str (oT (nx r))) h := by
  cases r with
  | nil => simp [m_Page_next_sign, b_Page_next_sign, p.pg, p.eqN, nx, oT]
  | cons q t => simp [m_Page_next_sign, b_Page_next_sign, p.pg, p.eqN, nx, oT, ix_last p, ix_pr0]
theorem next_own_ok (p : PgAt h n k l r) : m_Page_is_next_own [.ref n] h = .ok (.bl (ow r)) h := by
  cases r with
  | nil => simp [m_Page_is_next_own, b_Page_is_next_own, p.pg, p.eqN, ow]
  | cons q t => simp [m_Page_is_next_own, b_Page_is_next_own, p.pg, p.eqN, ow, ix_last p, ix_pr1]
def Fr (n k : Nat) (h h' : MH) : Prop := ∀ i o, h[i]? = some o → i ≠ n → i ≠ k → h'[i]? = some o
def upg (h : MH) (n k : Nat) (l : CP) (r : Rt) : MH := (h.set k (.lst (rtV r.reverse))).set n (.ins n_Page [(f_left, .str l), (f_right, .ref k)])
theorem get_lt {α : Type} {h : List α} {n : Nat} {o : α} (e : h[n]? = some o) : n < h.length := (List.getElem?_eq_some_iff.mp e).1
theorem upg_at (p : PgAt h n k l r) (l' : CP) (r' : Rt) : PgAt (upg h n k l' r') n k l' r' := by
  have h1 := get_lt p.pg
  have h2 := get_lt p.ls
  refine ⟨?_, ?_⟩
  · unfold upg
    rw [List.getElem?_set_self (by simpa using h1)]
  · unfold upg
    rw [List.getElem?_set_ne p.ne, List.getElem?_set_self h2]
theorem upg_fr (l' : CP) (r' : Rt) : Fr n k h (upg h n k l' r') := fun i o e h1 h2 => by
  unfold upg
  rw [List.getElem?_set_ne (Ne.symm h1), List.getElem?_set_ne (Ne.symm h2)]
  exact e
theorem upg_same (p : PgAt h n k l r) : upg h n k l r = h := by
  unfold upg
  apply List.ext_getElem?
  intro i
  by_cases h1 : n = i
  · subst h1; rw [List.getElem?_set_self (by simpa using get_lt p.pg), p.pg]
  · rw [List.getElem?_set_ne h1]
    by_cases h2 : k = i
    · subst h2; rw [List.getElem?_set_self (get_lt p.ls), p.ls]
    · rw [List.getElem?_set_ne h2]
theorem upg_upg (p : PgAt h n k l r) (l1 l2 : CP) (r1 r2 : Rt) : upg (upg h n k l1 r1) n k l2 r2 = upg h n k l2 r2 := by
  have h1 := get_lt p.pg
  have h2 := get_lt p.ls
  apply List.ext_getElem?
  intro i
  by_cases e1 : n = i
  · subst e1
    rw [(upg_at (upg_at p l1 r1) l2 r2).pg, (upg_at p l2 r2).pg]
  · by_cases e2 : k = i
    · subst e2
      rw [(upg_at (upg_at p l1 r1) l2 r2).ls, (upg_at p l2 r2).ls]
    · unfold upg
      rw [List.getElem?_set_ne e1, List.getElem?_set_ne e2, List.getElem?_set_ne e1, List.getElem?_set_ne e2, List.getElem?_set_ne e1, List.getElem?_set_ne e2]
theorem upg_len (l' : CP) (r' : Rt) : (upg h n k l' r').length = h.length := by simp [upg]
theorem pop_last (p : PgAt h n k l (q :: t)) : mPop (.ref k) [] h = some (prV q, h.set k (.lst (rtV t.reverse))) := by
  have e : (rtV (q :: t).reverse)[(rtV (q :: t).reverse).length - 1]? = some (prV q) := by rw [rt_last]; simp
  have e2 : (rtV (q :: t).reverse).dropLast = rtV t.reverse := by rw [rt_last]; simp
  simp only [mPop, p.ls, e, e2]
theorem rcv_ls (p : PgAt h n k l r) : isRcv .list (.ref k) h = true := by simp [isRcv, p.lst]
theorem go_over_ok (p : PgAt h n k l r) (hl : l.length ≤ 100000) : m_Page_go_over [.ref n] h = .ok .non (upg h n k (overS l r).1 (overS l r).2) := by
  cases r with
  | nil => simp [m_Page_go_over, b_Page_go_over, p.pg, p.eqN, overS, upg_same p]
  | cons q t =>
    have h1 : (h.set k (.lst (rtV t.reverse)))[n]? = some (.ins n_Page [(f_left, .str l), (f_right, .ref k)]) := by
      rw [List.getElem?_set_ne (Ne.symm p.ne)]; exact p.pg
    have hl2 : l.length + 1 ≤ 16777216 := by omega
    simp [m_Page_go_over, b_Page_go_over, p.pg, p.eqN, overS, rcv_ls p, pop_last p, ix_pr0, mIAdd, szs, hl2, h1, upg]
theorem cut_last (l : CP) : cutM l none (some (-1)) = l.dropLast := by
  unfold cutM
  simp only [HT.sIx]
  rw [List.dropLast_eq_take]
  simp
  congr 1
  omega
theorem cut_lastOf (l : CP) : cutM l (some (-1)) none = oT l.getLast? := by
  unfold cutM
  simp only [HT.sIx]
  rcases List.eq_nil_or_concat l with rfl | ⟨l, c, rfl⟩
  · simp [oT]
  · have : ((-1 : Int) + ((l ++ [c]).length : Nat)).toNat = l.length := by simp; omega
    simp only [List.concat_eq_append, this, if_pos (show (-1 : Int) < 0 by decide)]
    simp [oT]
end
end MP.Pg

end
section
namespace MP.Pg
open PySem L2 MP MP.Pr
@[simp] theorem bk0 (B : Bk) (h : MH) : mIx B.v (.int 0) h = some (.str B.a, h) := rfl
@[simp] theorem bk1 (B : Bk) (h : MH) : mIx B.v (.int 1) h = some (.str B.b, h) := rfl
@[simp] theorem bk2 (B : Bk) (h : MH) : mIx B.v (.int 2) h = some (.str B.c, h) := rfl
@[simp] theorem bk3 (B : Bk) (h : MH) : mIx B.v (.int 3) h = some (.str B.d, h) := rfl
@[simp] theorem bk4 (B : Bk) (h : MH) : mIx B.v (.int 4) h = some (.str B.e, h) := rfl
@[simp] theorem bk5 (B : Bk) (h : MH) : mIx B.v (.int 5) h = some (.str B.f, h) := rfl
theorem oT_beq (a b : Option Nat) : (oT a == oT b) = (a == b) := by
  cases a <;> cases b <;> simp [oT]
theorem oT_q (a : Option Nat) (c : Nat) : (oT a == [c]) = (a == some c) := oT_beq a (some c)
section
variable {h : MH} {n k : Nat} {l : CP} {r : Rt}
theorem does_put_ok (p : PgAt h n k l r) (hl : l.length ≤ 100000) (B : Bk) (c : Nat) : m_Page_does_put [.ref n, B.v, .str [c]] h = .ok (.bl (doesPut B l r c)) h := by
  have hs : l.length ≤ 16777216 := by omega
  have ns := next_sign_ok p
  have wi := within_ok hl h
  have fr := free_ok (nx r) h
  have le := letter_ok l.getLast? h
  have e1 : inS [c] [40, 91] = opener c := by
    rw [inS_one, Bool.eq_iff_iff]
    simp [opener]
  unfold doesPut
  by_cases h1 : (B.c == wSame) = true
  · by_cases h2 : opener c = true
    · by_cases h3 : (B.a == wAlways) = true
      · simp [m_Page_does_put, b_Page_does_put, v_SAME, v_OPENERS, v_ALWAYS, v_FREE, h1, e1, h2, h3, bne]
      · by_cases h4 : (B.a == wFree) = true
        · simp [m_Page_does_put, b_Page_does_put, v_SAME, v_OPENERS, v_ALWAYS, v_FREE, h1, e1, h2, h3, h4, bne, p.pg, ns, fr]
        · simp [m_Page_does_put, b_Page_does_put, v_SAME, v_OPENERS, v_ALWAYS, v_FREE, h1, e1, h2, h3, h4, bne, p.pg, ns, fr]
    · by_cases h3 : (B.b == wApart) = true
      · cases hf : (nx r).elim true free with
        | false => simp [m_Page_does_put, b_Page_does_put, v_SAME, v_OPENERS, v_ALWAYS, v_APART, v_QUOTE, h1, e1, h2, h3, bne, p.pg, ns, fr, hf, mCutV, lstV, mCut, szs, hs, cut_lastOf]
        | true => 
          cases hg : l.getLast?.elim false letter <;> simp [m_Page_does_put, b_Page_does_put, v_SAME, v_OPENERS, v_ALWAYS, v_APART, v_QUOTE, h1, e1, h2, h3, bne, p.pg, ns, fr, hf, mCutV, lstV, mCut, szs, hs, cut_lastOf, le, hg, oT_q]
      · simp [m_Page_does_put, b_Page_does_put, v_SAME, v_OPENERS, v_ALWAYS, v_APART, h1, e1, h2, h3, bne]
  · cases hw : within l with
    | true => simp [m_Page_does_put, b_Page_does_put, v_SAME, h1, bne, p.pg, wi, hw]
    | false =>
      by_cases h2 : opener c = true
      · by_cases h3 : (B.a == wAlways) = true
        · simp [m_Page_does_put, b_Page_does_put, v_SAME, v_OPENERS, v_ALWAYS, v_FREE, h1, e1, h2, h3, bne, p.pg, wi, hw]
        · by_cases h4 : (B.a == wFree) = true
          · simp [m_Page_does_put, b_Page_does_put, v_SAME, v_OPENERS, v_ALWAYS, v_FREE, h1, e1, h2, h3, h4, bne, p.pg, ns, fr, wi, hw]
          · simp [m_Page_does_put, b_Page_does_put, v_SAME, v_OPENERS, v_ALWAYS, v_FREE, h1, e1, h2, h3, h4, bne, p.pg, ns, fr, wi, hw]
      · by_cases h3 : (B.b == wApart) = true
        · cases hf : (nx r).elim true free with
          | false => simp [m_Page_does_put, b_Page_does_put, v_SAME, v_OPENERS, v_ALWAYS, v_APART, v_QUOTE, h1, e1, h2, h3, bne, p.pg, ns, fr, hf, mCutV, lstV, mCut, szs, hs, cut_lastOf, wi, hw]
          | true => 
            cases hg : l.getLast?.elim false letter <;> simp [m_Page_does_put, b_Page_does_put, v_SAME, v_OPENERS, v_ALWAYS, v_APART, v_QUOTE, h1, e1, h2, h3, bne, p.pg, ns, fr, hf, mCutV, lstV, mCut, szs, hs, cut_lastOf, le, hg, oT_q, wi, hw]
        · simp [m_Page_does_put, b_Page_does_put, v_SAME, v_OPENERS, v_ALWAYS, v_APART, h1, e1, h2, h3, bne, p.pg, wi, hw]
theorem own3 (p : PgAt h n k l r) (w : CP) (s : Sl) (hs : s[0]? = some (some (.ref n))) (e : ME) (he : ∀ g, e s g = .ok (.str w) g) :
    tOrM (tCmp mEq e (eC v_ANY)) (tAndM (tCmp mEq e (eC v_OWN)) (tVal (eMeth n_Page x_is_next_own 1 m_Page_is_next_own (eVar 0) aNil))) s h = .ok (lets w (ow r)) h := by
  have no := next_own_ok p
  unfold lets
  by_cases h1 : (w == wAny) = true
  · simp [he, v_ANY, h1]
  · by_cases h2 : (w == wOwn) = true
    · simp [he, v_ANY, v_OWN, h1, h2, hs, p.pg, no]
    · simp [he, v_ANY, v_OWN, h1, h2]
theorem appd {t : Rt} (p : PgAt h n k l r) (q : Nat × Bool) (hr : r.length ≤ 100000) : mAppend (.ref k) [prV q] h = some (.non, h.set k (.lst (rtV (q :: r).reverse))) := by
  have : (rtV r.reverse).length < 16777216 := by simp [rtV]; omega
  simp only [mAppend, p.ls, szs, this, if_true, rt_last]
def forgot (h : MH) (n : Nat) (l : CP) (r : Rt) : MH := (h ++ [MO.lst (rtV (r.map fun p => (p.1, false)).reverse)]).set n (.ins n_Page [(f_left, .str l), (f_right, .ref h.length)])
theorem forgot_at (p : PgAt h n k l r) (l' : CP) (r' : Rt) : PgAt (forgot h n l' r') n h.length l' (r'.map fun p => (p.1, false)) := by
  have h1 := get_lt p.pg
  refine ⟨?_, ?_⟩
  · unfold forgot
    rw [List.getElem?_set_self (by simp; omega)]
  · unfold forgot
    rw [List.getElem?_set_ne (by omega)]
    simp
theorem forgot_fr (p : PgAt h n k l r) (l' : CP) (r' : Rt) : Fr n k h (forgot h n l' r') := fun i o e h1 h2 => by
  unfold forgot
  rw [List.getElem?_set_ne (Ne.symm h1), List.getElem?_append_left (get_lt e)]
  exact e
theorem lcM_st {it : MIt} {t : Tg} {te : ME} {sw : Sl} {xs : List MV} {f : MV → MV} (ha : ∀ i : Nat, it.at h i = some xs[i]?) (hs : xs.length < sizeLine)
    (step : ∀ v ∈ xs, ∃ s2, t.run v sw = some s2 ∧ te s2 h = .ok (f v) h) :
    ∀ (m i : Nat) (acc : List MV), i + m = xs.length → acc.length = i → lcM it t tYesM te sw m i acc h = .ok (.ref h.length) (h ++ [.lst (acc ++ (xs.drop i).map f)]) := by
  intro m
  induction m with
  | zero =>
    intro i acc hi hac
    have e : xs[i]? = none := List.getElem?_eq_none (by omega)
    rw [lcM_zero, ha, e, List.drop_of_length_le (show xs.length ≤ i by omega)]
    simp
  | succ m ih =>
    intro i acc hi hac
    have hil : i < xs.length := by omega
    have e : xs[i]? = some xs[i] := List.getElem?_eq_getElem hil
    obtain ⟨s2, e1, e2⟩ := step xs[i] (List.getElem_mem hil)
    have ih := ih (i + 1) (acc ++ [f xs[i]]) (by omega) (by simp [hac])
    have hlt : acc.length < sizeLine := by omega
    rw [lcM_succ, ha, e]
    simp only [e1, tYesM_ap, e2, hlt, if_true, ih, List.drop_eq_getElem_cons hil, List.map_cons, List.append_assoc, List.singleton_append]
theorem forget_lc (p : PgAt h n k l r) (hr : r.length ≤ 100000) (sw : Sl) (hw : sw.length = 8) :
    lcM (.lst k) (.row [6, 7]) tYesM (eTup (aCons (eVar 6) (aCons (eC (.bl false)) (aNil)))) sw ((MIt.lst k).fuel h) 0 [] h = .ok (.ref h.length) (h ++ [.lst (rtV (r.map fun p => (p.1, false)).reverse)]) := by
  have hf : (MIt.lst k).fuel h = (rtV r.reverse).length := by simp [MIt.fuel, p.lst]
  have key := lcM_st (h := h) (it := .lst k) (t := .row [6, 7]) (te := eTup (aCons (eVar 6) (aCons (eC (.bl false)) (aNil)))) (sw := sw) (xs := rtV r.reverse) (f := fun v => match v with
    | .tup [a, _] => .tup [a, .bl false]
    | v => v) (fun i => by simp [MIt.at, p.lst]) (by rw [szs]; simp [rtV]; omega) (fun v hv => ?_) (rtV r.reverse).length 0 [] (by omega) rfl
  · rw [hf, key]
    congr 3
    simp [rtV, prV, List.map_reverse, Function.comp_def]
  · obtain ⟨q, _, rfl⟩ := List.mem_map.mp hv
    obtain ⟨a, b, c, d, e, f, g, i, rfl⟩ : ∃ a b c d e f g i, sw = [a, b, c, d, e, f, g, i] := by
      match sw, hw with
      | [a, b, c, d, e, f, g, i], _ => exact ⟨a, b, c, d, e, f, g, i, rfl⟩
    exact ⟨_, rfl, by simp [szs, prV]⟩
theorem type_sign_ok (p : PgAt h n k l r) (hl : l.length ≤ 99999) (hr : r.length ≤ 99999) (B : Bk) (c : Nat) :
    ∃ h' k', m_Page_type_sign [.ref n, B.v, .str [c]] h = .ok .non h' ∧ PgAt h' n k' (typeS B l r c).1 (typeS B l r c).2 ∧ (k' = k ∨ h.length ≤ k') ∧ Fr n k h h' := by
  have ns := next_sign_ok p
  have cl : m_is_closing [.str [c]] h = .ok (.bl (closing c)) h := closing_ok (some c) h
  have co : m_closer_of [.str [c]] h = .ok (.str (oT (closerN c))) h := closer_ok (some c) h
  have dp := does_put_ok p (by omega) B c
  have go := go_over_ok p (by omega)
  have hl2 : l.length + 1 ≤ 16777216 := by omega
  have tst : ∀ (m : Bool) (x4 x5 x6 x7 : Option MV), tAndM (tVal (eVar 3)) (tOrM (tCmp mEq (eOp mIx (eVar 1) (eC (.int 3))) (eC v_ANY)) (tAndM (tCmp mEq (eOp mIx (eVar 1) (eC (.int 3))) (eC v_OWN)) (tVal (eMeth n_Page x_is_next_own 1 m_Page_is_next_own (eVar 0) aNil))))
      [some (.ref n), some B.v, some (.str [c]), some (.bl m), x4, x5, x6, x7] h = .ok (m && lets B.d (ow r)) h := by
    intro m x4 x5 x6 x7
    have := own3 p B.d [some (.ref n), some B.v, some (.str [c]), some (.bl m), x4, x5, x6, x7] rfl (eOp mIx (eVar 1) (eC (.int 3))) (fun g => by simp)
    have e3 : tVal (eVar 3) [some (.ref n), some B.v, some (.str [c]), some (.bl m), x4, x5, x6, x7] h = .ok m h := by simp
    rw [tAndM_ap, e3, bind_ok]
    cases m with
    | false => rfl
    | true => rw [if_pos rfl, this]; rfl
  have lin : ∀ (x3 x4 x5 x6 x7 : Option MV) (g : MH), tAndM (tCmp mEq (eVar 2) (eC v_LINE)) (tCmp mEq (eOp mIx (eVar 1) (eC (.int 5))) (eC v_AT_LINES)) [some (.ref n), some B.v, some (.str [c]), x3, x4, x5, x6, x7] g = .ok (c == 47 && B.f == wLine) g := by
    intro x3 x4 x5 x6 x7 g
    have e47 : (([c] : CP) == [47]) = (c == 47) := by simp
    by_cases h1 : (c == 47) = true <;> simp [v_LINE, v_AT_LINES, e47, h1]
  have m0 : ∀ x : MV, eAnd (eCall 1 m_is_closing (aCons (eVar 2) (aNil))) (eOp mEq (eMeth n_Page x_next_sign 1 m_Page_next_sign (eVar 0) aNil) (eVar 2)) [some (.ref n), some B.v, some (.str [c]), none, none, none, none, none] h = .ok (.bl (closing c && nx r == some c)) h := by
    intro _
    cases hc : closing c <;> simp [cl, hc, p.pg, ns, oT_q]
  have p0 := m0 .non
  by_cases hM : (closing c && nx r == some c && lets B.d (ow r)) = true
  · refine ⟨upg h n k (overS l r).1 (overS l r).2, k, ?_, ?_, .inl rfl, ?_⟩
    · simp [-eAnd_ap, -tAndM_ap, m_Page_type_sign, b_Page_type_sign, p0, tst, hM, p.pg, go]
    · have e1 : typeS B l r c = (l ++ [c], r.tail) := by unfold typeS; rw [if_pos hM]
      rw [e1]
      have hn : nx r = some c := by
        simp only [Bool.and_eq_true, beq_iff_eq] at hM
        exact hM.1.2
      cases r with
      | nil => cases hn
      | cons q t =>
        have : q.1 = c := by simpa [nx] using hn
        subst this
        exact upg_at p _ _
    · exact upg_fr _ _
  · have hM' : (closing c && nx r == some c && lets B.d (ow r)) = false := by simpa using hM
    have q1 : PgAt (h.set n (.ins n_Page [(f_left, .str (l ++ [c])), (f_right, .ref k)])) n k (l ++ [c]) r :=
      ⟨by rw [List.getElem?_set_self (get_lt p.pg)], by rw [List.getElem?_set_ne p.ne]; exact p.ls⟩
    have q1' : (h.set n (.ins n_Page [(f_left, .str (l ++ [c])), (f_right, .ref k)])) = upg h n k (l ++ [c]) r := by
      unfold upg
      congr 1
      apply List.ext_getElem?
      intro i
      by_cases e2 : k = i
      · subst e2; rw [List.getElem?_set_self (get_lt p.ls), p.ls]
      · rw [List.getElem?_set_ne e2]
    have mt : ∀ (b : Bool), typeS B l r c = (if closing c && nx r == some c && lets B.d (ow r) then (l ++ [c], r.tail) else
        let r1 : Rt := match closerN c with
          | some k => if doesPut B l r c then (k, true) :: r else r
          | none => r
        (l ++ [c], if c == 47 && B.f == wLine then r1.map (fun p => (p.1, false)) else r1)) := fun _ => rfl
    have e0 := mt true
    rw [hM'] at e0
    simp only [Bool.false_eq_true, if_false] at e0
    have hl1 := get_lt p.pg
    cases hc : closerN c with
    | none =>
      rw [hc] at co e0
      have p1 : ∀ x : MV, eAnd (eOp mNe (eVar 4) (eC (.str []))) (eMeth n_Page x_does_put 3 m_Page_does_put (eVar 0) (aCons (eVar 1) (aCons (eVar 2) (aNil)))) [some (.ref n), some B.v, some (.str [c]), some (.bl (closing c && nx r == some c)), some (.str []), none, none, none] h = .ok (.bl false) h := fun _ => by simp
      have p1 := p1 .non
      cases hL : (c == 47 && B.f == wLine) with
      | false =>
        rw [hL] at lin e0
        simp only [Bool.false_eq_true, if_false] at e0
        refine ⟨h.set n (.ins n_Page [(f_left, .str (l ++ [c])), (f_right, .ref k)]), k, ?_, ?_, .inl rfl, ?_⟩
        · simp [-eAnd_ap, -tAndM_ap, m_Page_type_sign, b_Page_type_sign, p0, tst, hM', p.pg, co, oT, p1, mIAdd, szs, hl2, lin]
        · rw [e0]; exact q1
        · rw [q1']; exact upg_fr _ _
      | true =>
        rw [hL] at lin e0
        simp only [if_true] at e0
        have fl := forget_lc q1 (by omega)
        refine ⟨forgot (upg h n k (l ++ [c]) r) n (l ++ [c]) r, h.length, ?_, ?_, .inr (Nat.le_refl _), ?_⟩
        · have fl := fl [some (.ref n), some B.v, some (.str [c]), some (.bl (closing c && nx r == some c)), some (.str []), some (.bl false), none, none] rfl
          have qa : (h.set n (.ins n_Page [(f_left, .str (l ++ [c])), (f_right, .ref k)]) ++ [MO.lst (rtV (r.map fun p => (p.1, false)).reverse)])[n]? = some (.ins n_Page [(f_left, .str (l ++ [c])), (f_right, .ref k)]) := by
            rw [List.getElem?_append_left (by simpa using hl1)]; exact q1.pg
          have lc : ∀ x : MV, eLc (jSeq (eFld [n_Page] f_right (eVar 0))) [6, 7] (.row [6, 7]) (tYesM) (eTup (aCons (eVar 6) (aCons (eC (.bl false)) (aNil)))) [some (.ref n), some B.v, some (.str [c]), some (.bl (closing c && nx r == some c)), some (.str []), some (.bl false), none, none] (h.set n (.ins n_Page [(f_left, .str (l ++ [c])), (f_right, .ref k)])) = .ok (.ref h.length) (h.set n (.ins n_Page [(f_left, .str (l ++ [c])), (f_right, .ref k)]) ++ [MO.lst (rtV (r.map fun p => (p.1, false)).reverse)]) := fun _ => by
            rw [eLc]
            simp only [jSeq_str, eFld_ap, eVar_ap, List.getElem?_cons_zero, bind_ok, q1.pg, hasPg, if_true, getR, q1.lst, wipeM, List.set]
            rw [fl, List.length_set]
          have lc := lc .non
          simp [-eAnd_ap, -tAndM_ap, m_Page_type_sign, b_Page_type_sign, p0, tst, hM', p.pg, co, oT, p1, mIAdd, szs, hl2, lin, lc]
          rw [qa]
          simp [forgot, ← q1']
        · rw [e0]
          have := forgot_at q1 (l ++ [c]) r
          rw [q1'] at this
          rw [upg_len] at this
          exact this
        · exact fun i o e a b => forgot_fr (upg_at p (l ++ [c]) r) (l ++ [c]) r i o (upg_fr _ _ i o e a b) a b
    | some q =>
      rw [hc] at co e0
      have h47 : (c == 47) = false := by
        unfold closerN at hc
        rw [beq_eq_false_iff_ne]
        intro z
        subst z
        simp at hc
      rw [h47] at lin e0
      simp only [Bool.false_and, Bool.false_eq_true, if_false] at lin e0
      have p1 : ∀ x : MV, eAnd (eOp mNe (eVar 4) (eC (.str []))) (eMeth n_Page x_does_put 3 m_Page_does_put (eVar 0) (aCons (eVar 1) (aCons (eVar 2) (aNil)))) [some (.ref n), some B.v, some (.str [c]), some (.bl (closing c && nx r == some c)), some (.str [q]), none, none, none] h = .ok (.bl (doesPut B l r c)) h := fun _ => by simp [p.pg, dp]
      have p1 := p1 .non
      cases hP : doesPut B l r c with
      | false =>
        rw [hP] at p1 e0
        simp only [Bool.false_eq_true, if_false] at e0
        refine ⟨h.set n (.ins n_Page [(f_left, .str (l ++ [c])), (f_right, .ref k)]), k, ?_, ?_, .inl rfl, ?_⟩
        · simp [-eAnd_ap, -tAndM_ap, m_Page_type_sign, b_Page_type_sign, p0, tst, hM', p.pg, co, oT, p1, mIAdd, szs, hl2, lin]
        · rw [e0]; exact q1
        · rw [q1']; exact upg_fr _ _
      | true =>
        rw [hP] at p1 e0
        simp only [if_true] at e0
        have ap := appd (t := r) q1 (q, true) (by omega)
        have rc := rcv_ls q1
        simp only [prV] at ap
        refine ⟨upg h n k (l ++ [c]) ((q, true) :: r), k, ?_, ?_, .inl rfl, ?_⟩
        · simp [-eAnd_ap, -tAndM_ap, m_Page_type_sign, b_Page_type_sign, p0, tst, hM', p.pg, co, oT, p1, mIAdd, szs, hl2, lin, q1.pg, rc, ap]
          rw [List.set_comm _ _ p.ne]
          simp [upg]
        · rw [e0]; exact upg_at p _ _
        · exact upg_fr _ _
end
end MP.Pg

end
section
namespace MP.Pg
open PySem L2 MP MP.Pr
section
variable {h : MH} {n k : Nat} {l : CP} {r : Rt}
theorem Fr.trans {n k : Nat} {h h1 h2 : MH} (a : Fr n k h h1) (b : Fr n k h1 h2) : Fr n k h h2 := fun i o e x y => b i o (a i o e x y) x y
theorem set_pg (p : PgAt h n k l r) (l' : CP) : h.set n (.ins n_Page [(f_left, .str l'), (f_right, .ref k)]) = upg h n k l' r := by
  unfold upg
  congr 1
  apply List.ext_getElem?
  intro i
  by_cases e2 : k = i
  · subst e2; rw [List.getElem?_set_self (get_lt p.ls), p.ls]
  · rw [List.getElem?_set_ne e2]
theorem upg_set (p : PgAt h n k l r) (l' : CP) (r' : Rt) (r1 : Rt) : (upg h n k l' r1).set k (.lst (rtV r'.reverse)) = upg h n k l' r' := by
  unfold upg
  rw [List.set_comm _ _ p.ne, List.set_set]
theorem go_back_ok (p : PgAt h n k l r) (hl : l.length ≤ 99999) (B : Bk) : m_Page_go_back [.ref n, B.v] h = .ok .non (upg h n k (backS B l r).1 (backS B l r).2) := by
  rcases List.eq_nil_or_concat l with rfl | ⟨l, c, rfl⟩
  · simp [m_Page_go_back, b_Page_go_back, p.pg, backS, upg_same p]
  · rw [List.concat_eq_append] at *
    have hs : (l ++ [c]).length ≤ 16777216 := by omega
    have e1 : mIx (.str (l ++ [c])) (.int (-1)) h = some (.str [c], h) := by
      simp only [mIx, szs, hs, if_true, atI_last, Option.map_some]
    have e2 : (l ++ [c] == []) = false := by simp
    have co : m_closer_of [.str [c]] h = .ok (.str (oT (closerN c))) h := closer_ok (some c) h
    have ct : mCutV (.str (l ++ [c])) none (some (-1)) h = some (.str l, h) := by
      simp only [mCutV, lstV, mCut, szs, hs, if_true, cut_last, List.dropLast_concat]
    have q : PgAt (upg h n k l r) n k l r := upg_at p l r
    have ns := next_sign_ok q
    have bs : backS B (l ++ [c]) r = (l, backR B r (closerN c)) := by simp [backS]
    have own := own3 q B.e
    cases hc : closerN c with
    | none =>
      rw [hc, backR] at bs
      rw [hc, oT] at co
      simp [m_Page_go_back, b_Page_go_back, p.pg, e1, co, ct, set_pg p, bs]
    | some d =>
      rw [hc, backR] at bs
      rw [hc, oT] at co
      cases hn : (nx r == some d) with
      | false =>
        rw [hn] at bs
        simp [m_Page_go_back, b_Page_go_back, p.pg, e1, co, ct, set_pg p, bs, q.pg, ns, oT_q, hn]
      | true =>
        rw [hn] at bs
        have ow3 := own [some (.ref n), some B.v, some (.str [d]), some (.bl true)] rfl (eOp mIx (eVar 1) (eC (.int 4))) (fun g => by simp)
        cases hlt : lets B.e (ow r) with
        | false =>
          rw [hlt] at bs ow3
          simp [-tOrM_ap, m_Page_go_back, b_Page_go_back, p.pg, e1, co, ct, set_pg p, bs, q.pg, ns, oT_q, hn, ow3]
        | true =>
          rw [hlt] at bs ow3
          cases r with
          | nil => simp [nx] at hn
          | cons a t =>
            have po := pop_last q
            have rc := rcv_ls q
            simp [-tOrM_ap, m_Page_go_back, b_Page_go_back, p.pg, e1, co, ct, set_pg p, bs, q.pg, ns, oT_q, hn, ow3, po, rc, upg_set p]
theorem end_loop (B : Bk) (s : Sl) (hs : s[0]? = some (some (.ref n))) : ∀ (r : Rt) (l : CP) (h : MH) (m : Nat), PgAt h n k l r → l.length + r.length ≤ 99999 → r.length < m →
    whileM (tVal (eMeth n_Page x_is_next_own 1 m_Page_is_next_own (eVar 0) aNil)) (sExpr (eMeth n_Page x_go_over 1 m_Page_go_over (eVar 0) aNil)) m s h = .nx s (upg h n k (endS l r).1 (endS l r).2)
  | [], l, h, m, p, hl, hm => by
    cases m with
    | zero => omega
    | succ m =>
      have no := next_own_ok p
      rw [whileM_succ]
      simp [hs, p.pg, no, ow, endS, upg_same p]
  | a :: t, l, h, m, p, hl, hm => by
    cases m with
    | zero => omega
    | succ m =>
      have no := next_own_ok p
      have go := go_over_ok p (by simp only [List.length_cons] at hl; omega)
      simp only [List.length_cons] at hl hm
      cases ha : a.2 with
      | false =>
        rw [whileM_succ]
        simp [hs, p.pg, no, ow, endS, upg_same p, ha]
      | true =>
        have q := upg_at p (l ++ [a.1]) t
        have ih := end_loop B s hs t (l ++ [a.1]) _ m q (by simp; omega) (by omega)
        rw [whileM_succ]
        simp [hs, p.pg, no, ow, ha, go, overS, ih, upg_upg p, endS]
theorem press_ok (p : PgAt h n k l r) (hl : l.length + r.length ≤ 99999) (B : Bk) (y : Ky) :
    ∃ h' k', m_Page_press [.ref n, B.v, .str y.t] h = .ok .non h' ∧ PgAt h' n k' (pressS B l r y).1 (pressS B l r y).2 ∧ (k' = k ∨ h.length ≤ k') ∧ Fr n k h h' := by
  cases y with
  | back =>
    have gb := go_back_ok p (by omega) B
    refine ⟨_, k, ?_, upg_at p _ _, .inl rfl, upg_fr _ _⟩
    simp [m_Page_press, b_Page_press, Ky.t, v_BACK, p.pg, gb, pressS]
  | right =>
    have go := go_over_ok p (by omega)
    refine ⟨_, k, ?_, upg_at p _ _, .inl rfl, upg_fr _ _⟩
    simp [m_Page_press, b_Page_press, Ky.t, v_BACK, v_RIGHT, p.pg, go, pressS]
  | end_ =>
    have el := end_loop B [some (.ref n), some B.v, some (.str kEnd)] rfl r l h bigF p hl (by unfold bigF; omega)
    refine ⟨_, k, ?_, upg_at p _ _, .inl rfl, upg_fr _ _⟩
    simp [m_Page_press, b_Page_press, Ky.t, v_BACK, v_RIGHT, v_END, sWhile, el, pressS]
  | sg c =>
    obtain ⟨h', k', e, q, hk, fr⟩ := type_sign_ok p (by omega) (by omega) B c
    refine ⟨h', k', ?_, q, hk, fr⟩
    simp [m_Page_press, b_Page_press, Ky.t, v_BACK, v_RIGHT, v_END, p.pg, e]
end
end MP.Pg

end
section
namespace MP.Pg
open PySem L2 MP MP.Pr
def owns : Nat → Rt → List Nat
  | _, [] => []
  | i, p :: t => if p.2 then i :: owns (i + 1) t else owns (i + 1) t
def toldV (l : CP) (r : Rt) : MV := .tup [.str l, .str (r.map (·.1)), .tup ((owns 0 r).map fun (i : Nat) => .int (i : Int))]
def rtOf : Nat → CP → List Int → Rt
  | _, [], _ => []
  | i, c :: f, os => (c, os.contains (i : Int)) :: rtOf (i + 1) f os
section
variable {h : MH} {n k : Nat} {l : CP} {r : Rt}
theorem inF_ints (i : Int) : ∀ os : List Int, inF (.int i) (os.map .int) = some (os.contains i)
  | [] => rfl
  | o :: os => by
    simp only [List.map_cons, inF, fEq, inF_ints i os, List.contains_cons]
    rw [BEq.comm (a := o)]
theorem init_lc (s0 : MV) (v : MV) (os : List Int) (hv : ∀ g : MH, mIx v (.int 2) g = some (.tup (os.map .int), g)) : ∀ (f : CP) (i : Nat) (acc : List MV), acc.length + f.length ≤ 99999 →
    lcL (.row [2, 3]) tYesM (eTup (aCons (eVar 3) (aCons (eOp mIn (eVar 2) (eOp mIx (eVar 1) (eC (.int 2)))) (aNil)))) [some s0, some v, none, none] (enumL i (f.map fun c => .str [c])) acc h = .ok (.lv (acc ++ rtV (rtOf i f os))) h
  | [], _, acc, _ => by simp [rtV, enumL, lcL, rtOf]
  | c :: f, i, acc, hl => by
    simp only [List.length_cons] at hl
    have hlt : acc.length < 16777216 := by omega
    have ih := init_lc s0 v os hv f (i + 1) (acc ++ [prV (c, os.contains (i : Int))]) (by simp; omega)
    simp only [prV, List.contains_eq_mem] at ih
    simp [enumL, lcL, Tg.run, setAll, szs, hlt, hv, mInB, inF_ints, ih, rtV, rtOf, prV]
theorem init_ok {f : CP} {os : List Int} (hp : h[n]? = some (.ins n_Page [])) (hf : f.length ≤ 99999) : ∃ h', m_Page___init__ [.ref n, .tup [.str l, .str f, .tup (os.map .int)]] h = .ok .non h' ∧ PgAt h' n h.length l (rtOf 0 f os) ∧ h'.length = h.length + 1 ∧ ∀ i o, h[i]? = some o → i ≠ n → h'[i]? = some o := by
  have hn := get_lt hp
  have lc := init_lc (h := h.set n (.ins n_Page [(f_left, .str l)])) (.ref n) (.tup [.str l, .str f, .tup (os.map .int)]) os (fun g => rfl) f 0 [] (by simpa using hf)
  rw [List.nil_append] at lc
  refine ⟨((h.set n (.ins n_Page [(f_left, .str l)])) ++ [MO.lst (rtV (rtOf 0 f os).reverse)]).set n (.ins n_Page [(f_left, .str l), (f_right, .ref h.length)]), ?_, ⟨?_, ?_⟩, by simp, fun i o e hi => ?_⟩
  · have h1 : (h.set n (.ins n_Page [(f_left, .str l)]) ++ [MO.lst (rtV (rtOf 0 f os)).reverse])[n]? = some (.ins n_Page [(f_left, .str l)]) := by
      rw [List.getElem?_append_left (by simpa using hn), List.getElem?_set_self hn]
    have i0 : ∀ g : MH, mIx (.tup [.str l, .str f, .tup (os.map .int)]) (.int 0) g = some (.str l, g) := fun _ => rfl
    have i1 : ∀ g : MH, mIx (.tup [.str l, .str f, .tup (os.map .int)]) (.int 1) g = some (.str f, g) := fun _ => rfl
    have sl : setF f_left (.str l) [] = [(f_left, .str l)] := rfl
    have sr : setF f_right (.ref h.length) [(f_left, .str l)] = [(f_left, .str l), (f_right, .ref h.length)] := rfl
    have er : rtV (rtOf 0 f os).reverse = (rtV (rtOf 0 f os)).reverse := by simp [rtV]
    simp [m_Page___init__, b_Page___init__, i0, i1, hp, sl, wipeM, eRev, lstV, lc]
    simp [h1, sr, er]
  · rw [List.getElem?_set_self (by simp; omega)]
  · rw [List.getElem?_set_ne (by omega), List.getElem?_append_right (by simp)]
    simp
  · rw [List.getElem?_set_ne (Ne.symm hi), List.getElem?_append_left (by simpa using get_lt e), List.getElem?_set_ne (Ne.symm hi)]
    exact e
end
end MP.Pg

end
section
namespace MP.Pg
open PySem L2 MP MP.Pr
abbrev SG : CP := [40, 91, 41, 93, 39, 32, 47, 97, 98, 99, 100, 101, 102, 103, 104, 105, 106, 107, 108, 109, 110, 111, 112, 113, 114, 115, 116, 117, 118, 119, 120, 121, 122]
def sgn (c : Nat) : Bool := SG.contains c
theorem isi_str (l : CP) (t : Ty) (h : MH) : mIsi [.str l, .ty t] h = some (.bl (isTy .str t), h) := rfl
theorem isi_tup (l : List MV) (t : Ty) (h : MH) : mIsi [.tup l, .ty t] h = some (.bl (isTy .tuple t), h) := rfl
theorem len_str {l : CP} (hl : l.length ≤ 16777216) (h : MH) : mLen [.str l] h = some (.int l.length, h) := by simp [mLen, szs, hl]
theorem len_tup (l : List MV) (h : MH) : mLen [.tup l] h = some (.int l.length, h) := rfl
theorem len_lv (l : List MV) (h : MH) : mLen [.lv l] h = some (.int l.length, h) := rfl
end MP.Pg

end
section
namespace MP.Pg
open PySem L2 MP MP.Pr
abbrev wNever : CP := [110, 101, 118, 101, 114]
abbrev wNone : CP := [110, 111, 110, 101]
abbrev wOne : CP := [111, 110, 101]
structure Bk.Ok (B : Bk) : Prop where
  a : B.a ∈ [wAlways, wFree, wNever]
  b : B.b ∈ [wAlways, wApart, wNever]
  c : B.c ∈ [wSame, wNone]
  d : B.d ∈ [wOwn, wAny, wNever]
  e : B.e ∈ [wOwn, wAny, wOne]
  f : B.f ∈ [wNever, wLine]
theorem inF_strs (x : CP) : ∀ l : List CP, inF (.str x) (l.map .str) = some (l.contains x)
  | [] => rfl
  | y :: l => by
    simp only [List.map_cons, inF, fEq, inF_strs x l, List.contains_cons]
    rw [BEq.comm (a := y)]
def Ky.ok : Ky → Bool
  | .sg c => sgn c
  | _ => true
theorem is_sign_one (c : Nat) (h : MH) : m_is_sign [.str [c]] h = .ok (.bl (sgn c)) h := by
  have : inS [c] SG = sgn c := inS_one c SG
  simp only [SG] at this
  simp [m_is_sign, b_is_sign, isi_str, isTy, len_str, v_SIGNS, this]
theorem is_key_ok {y : Ky} (hy : y.ok = true) (h : MH) : m_is_key [.str y.t] h = .ok (.bl true) h := by
  cases y with
  | sg c =>
    have := is_sign_one c h
    have hc : sgn c = true := hy
    rw [hc] at this
    simp [m_is_key, b_is_key, Ky.t, this]
  | back => rfl
  | right => rfl
  | end_ => rfl
theorem keys_loop (t : MV) (h : MH) : ∀ (ks : List Ky) (i : Nat) (x y : Option MV), (∀ k ∈ ks, k.ok = true) → ∃ x' y', forL (gTp 2 (gC (gNm 1) (gC (gNm 2) (gN)))) (sIf (tNotM (tVal (eCall 1 m_is_key (aCons (eVar 2) (aNil))))) (sNever) (sNil)) (enumL i (ks.map fun y => .str y.t)) [some t, x, y] h = .nx [some t, x', y'] h
  | [], _, x, y, _ => ⟨x, y, rfl⟩
  | k :: ks, i, x, y, hk => by
    obtain ⟨x', y', e⟩ := keys_loop t h ks (i + 1) (some (.int (i : Int))) (some (.str k.t)) fun z hz => hk z (List.mem_cons_of_mem _ hz)
    have := is_key_ok (hk k List.mem_cons_self) h
    refine ⟨x', y', ?_⟩
    simp [enumL, forL, this, e]
end MP.Pg

end
section
namespace MP.Ld
open PySem L2 MP MP.Cm MP.Pg
theorem below_up {n m : Nat} (h : n ≤ m) : (∀ v : MV, below n v = true → below m v = true) := by
  intro v
  induction v using below.induct (motive_2 := fun l => belowL n l = true → belowL m l = true) with
  | case1 k => intro e; simp only [below, Nat.blt_eq] at e ⊢; omega
  | case2 xs ih => intro e; simp only [below] at e ⊢; exact ih e
  | case3 xs ih => intro e; simp only [below] at e ⊢; exact ih e
  | case4 xs ih => intro e; simp only [below] at e ⊢; exact ih e
  | case5 c ns xs ih => intro e; simp only [below] at e ⊢; exact ih e
  | case6 a c q ws xs ih => intro e; simp only [below] at e ⊢; exact ih e
  | case7 v h1 h2 h3 h4 h5 h6 => intro _; cases v <;> first | exact (h6 _ _ _ _ _ rfl).elim | simp_all [below]
  | case8 => simp [belowL]
  | case9 x xs i1 i2 =>
    rename_i e
    simp only [belowL, Bool.and_eq_true] at e ⊢
    exact ⟨i1 e.1, i2 e.2⟩
structure S4 (b : Nat) (t h : MH) : Prop where
  ex : ∃ cs gs n, Cs cs ∧ 0 ≤ n ∧ n + (b : Int) < 2 ^ 62 ∧ h = st cs gs n t
  bel : belowH (t.length + 4) t = true
theorem S4.mono {b b' : Nat} {t h : MH} (s : S4 b t h) (hb : b' ≤ b) : S4 b' t h := by
  obtain ⟨⟨cs, gs, n, a, c, d, e⟩, f⟩ := s
  exact ⟨⟨cs, gs, n, a, c, by omega, e⟩, f⟩
theorem S4.draw {b : Nat} {t h : MH} {lim : Int} (s : S4 (b + 1) t h) (hl : 0 < lim ∧ lim < 1073741824) : ∃ v h', 0 ≤ v ∧ v < lim ∧ S4 b t h' ∧ m_law_draw [.ref 2, .int lim] h = .ok (.int v) h' := by
  obtain ⟨⟨cs, gs, n, a, c, d, rfl⟩, f⟩ := s
  obtain ⟨v, gs', h1, h2, _, e⟩ := draw_ok (cs := cs) (gs := gs) (n := n) (lim := lim) (t := t) ⟨a.1, a.2, by omega⟩ hl f
  exact ⟨v, _, h1, h2, ⟨⟨cs, gs', n + 1, a, by omega, by push_cast at d; omega, rfl⟩, f⟩, e⟩
theorem S4.drawN {b : Nat} {t h : MH} {k : Nat} (s : S4 (b + 1) t h) (hk : 0 < k ∧ k < 1000000) : ∃ (j : Nat) (h' : MH), j < k ∧ S4 b t h' ∧ m_law_draw [.ref 2, .int (k : Int)] h = .ok (.int (j : Int)) h' := by
  obtain ⟨v, h', h1, h2, s', e⟩ := s.draw (lim := (k : Int)) (by omega)
  refine ⟨v.toNat, h', by omega, s', ?_⟩
  rw [e, Int.toNat_of_nonneg h1]
theorem st_len4 {cs gs : List Int} {n : Int} {t : MH} : (st cs gs n t).length = t.length + 4 := rfl
theorem S4.len {b : Nat} {t h : MH} (s : S4 b t h) : h.length = t.length + 4 := by
  obtain ⟨⟨cs, gs, n, _, _, _, rfl⟩, _⟩ := s
  rfl
theorem trim_end {m : MF} {as : List MV} {b b' : Nat} {t u h h' : MH} {v : MV} (s : S4 b t h) (s' : S4 b' (t ++ u) h') (e : m as h = .ok v h') (hv : below 0 v = true) : ∃ h2, S4 b' t h2 ∧ trimV m as h = .ok v h2 := by
  obtain ⟨⟨cs, gs, n, a, c, d, rfl⟩, f⟩ := s
  obtain ⟨⟨cs', gs', n', a', c', d', rfl⟩, f'⟩ := s'
  refine ⟨st cs' gs' n' t, ⟨⟨cs', gs', n', a', c', d', rfl⟩, f⟩, ?_⟩
  have hb : below (t.length + 4) v = true := below_up (Nat.zero_le _) v hv
  have hr : ∀ j, v ≠ .ref j := fun j z => by subst z; simp [below] at hv
  have ht : belowH (t.length + 4) (st cs' gs' n' t) = true := st_below (by omega) f
  unfold trimV
  rw [e, st_len4]
  cases v <;> simp [trimRV, trimR, hb, st_take, ht] <;> exact absurd rfl (hr _)
theorem S4.grow {b : Nat} {t h : MH} (s : S4 b t h) (o : MO) (ho : belowO (t.length + 5) o = true) : S4 b (t ++ [o]) (h ++ [o]) := by
  obtain ⟨⟨cs, gs, n, a, c, d, rfl⟩, f⟩ := s
  refine ⟨⟨cs, gs, n, a, c, d, rfl⟩, ?_⟩
  have mono : ∀ (l : List MV) (k j : Nat), k ≤ j → belowL k l = true → belowL j l = true := fun l => by
    induction l with
    | nil => intro k j _ _; rfl
    | cons x l ih =>
      intro k j h e
      simp only [belowL, Bool.and_eq_true] at e ⊢
      exact ⟨below_up h x e.1, ih k j h e.2⟩
  have monoF : ∀ {α : Type} (l : List (α × MV)) (k j : Nat), k ≤ j → belowF k l = true → belowF j l = true := fun {α} l => by
    induction l with
    | nil => intro k j _ _; rfl
    | cons x l ih =>
      intro k j h e
      simp only [belowF, Bool.and_eq_true] at e ⊢
      exact ⟨below_up h x.2 e.1, ih k j h e.2⟩
  have key : ∀ (l : MH) (k j : Nat), k ≤ j → belowH k l = true → belowH j l = true := fun l => by
    induction l with
    | nil => intro k j _ _; rfl
    | cons x l ih =>
      intro k j h e
      simp only [belowH, Bool.and_eq_true] at e ⊢
      refine ⟨?_, ih k j h e.2⟩
      cases x with
      | lst xs => exact mono _ _ _ h e.1
      | dK xs => exact monoF _ _ _ h e.1
      | dZ xs => exact monoF _ _ _ h e.1
      | dT xs => exact monoF _ _ _ h e.1
      | dU xs => exact monoF _ _ _ h e.1
      | ins c xs => exact monoF _ _ _ h e.1
  have app : ∀ (l l' : MH) (k : Nat), belowH k l = true → belowH k l' = true → belowH k (l ++ l') = true := fun l => by
    induction l with
    | nil => intro l' k _ e; exact e
    | cons x l ih =>
      intro l' k e e'
      simp only [List.cons_append, belowH, Bool.and_eq_true] at e ⊢
      exact ⟨e.1, ih l' k e.2 e'⟩
  have e1 : (t ++ [o]).length + 4 = t.length + 5 := by simp
  rw [e1]
  exact app _ _ _ (key t _ _ (by omega) f) (by simp [belowH, ho])
end MP.Ld

end
section
namespace MP.Le
open PySem L2 MP MP.Pg
end MP.Le

end
section
namespace MP.Q3
open PySem L2 MP MP.Pg MP.Le
end MP.Q3

end
section
namespace MP.Q3
open PySem L2 MP MP.Pg MP.Le
end MP.Q3

end
section
namespace MP.Q3
open PySem L2 MP MP.Pg MP.Le
section
variable {B : Bk} {l : CP} {r : Rt} {P : MV} {c : Nat} {o : Bool} {la : CP} {h : MH}
theorem letter_chain (o : Option Nat) : (!decide (oT o < [97]) && !decide ([122] < oT o)) = o.elim false letter := by
  cases o with
  | none => rfl
  | some d =>
    simp only [oT, Option.elim_some, letter]
    rw [Bool.eq_iff_iff]
    simp [List.cons_lt_cons_iff]
end
end MP.Q3

end
section
namespace MP.Q3
open PySem L2 MP MP.Pg MP.Le MP.Ld
open MP.Cm (m_law_draw)
def b_law_book_0 : MS := sAsg (eLstV (aCons (eLstV (aCons (eC (.str [97, 108, 119, 97, 121, 115])) (aCons (eC (.str [102, 114, 101, 101])) (aCons (eC (.str [110, 101, 118, 101, 114])) (aNil))))) (aCons (eLstV (aCons (eC (.str [97, 108, 119, 97, 121, 115])) (aCons (eC (.str [97, 112, 97, 114, 116])) (aCons (eC (.str [110, 101, 118, 101, 114])) (aNil))))) (aCons (eLstV (aCons (eC (.str [115, 97, 109, 101])) (aCons (eC (.str [110, 111, 110, 101])) (aNil)))) (aCons (eLstV (aCons (eC (.str [111, 119, 110])) (aCons (eC (.str [97, 110, 121])) (aCons (eC (.str [110, 101, 118, 101, 114])) (aNil))))) (aNil)))))) (gNm 1)
def b_law_book_1 : MS := sAsg (eOp mAddV (eVar 1) (eLstV (aCons (eLstV (aCons (eC (.str [111, 119, 110])) (aCons (eC (.str [97, 110, 121])) (aCons (eC (.str [111, 110, 101])) (aNil))))) (aCons (eLstV (aCons (eC (.str [110, 101, 118, 101, 114])) (aCons (eC (.str [108, 105, 110, 101])) (aNil)))) (aNil))))) (gNm 1)
def b_law_book_2 : MS := sRet (eBlt mTuple (aCons (eLv (jSeq (eVar 1)) [2] (.one 2) (tYesM) (eOp mIx (eVar 2) (eCall 2 m_law_draw (aCons (eVar 0) (aCons (eBlt mLen (aCons (eVar 2) (aNil))) (aNil)))))) (aNil)))
def b_law_book : MS := sSeq (b_law_book_0) (sSeq (b_law_book_1) (b_law_book_2))
def m_law_book : MF := trimV (runFn 3 b_law_book)
def rows6 : MV := .lv [.lv ([wAlways, wFree, wNever].map .str), .lv ([wAlways, wApart, wNever].map .str), .lv ([wSame, wNone].map .str), .lv ([wOwn, wAny, wNever].map .str), .lv ([wOwn, wAny, wOne].map .str), .lv ([wNever, wLine].map .str)]
theorem pick {b : Nat} {u h : MH} {row : List CP} {s : Sl} {i j : Nat} (st : S4 (1 + b) u h) (hr : 0 < row.length ∧ row.length < 1000) (h0 : s[0]? = some (some (.ref 2))) (hi : s[i]? = some (some (.lv (row.map .str)))) :
    ∃ w h', w ∈ row ∧ S4 b u h' ∧ eOp mIx (eVar i) (eCall 2 m_law_draw (aCons (eVar 0) (aCons (eBlt mLen (aCons (eVar i) (aNil))) (aNil)))) s h = .ok (.str w) h' := by
  obtain ⟨j, h', hj, st', e⟩ := (show S4 (b + 1) u h by rw [Nat.add_comm]; exact st).drawN (k := row.length) (by omega)
  refine ⟨row[j], h', List.getElem_mem hj, st', ?_⟩
  have ix : mIx (.lv (row.map .str)) (.int (j : Int)) h' = some (.str row[j], h') := by
    have := atI_nat (xs := row.map MV.str) (j := j) (v := .str row[j]) (by simp [hj])
    simp [mIx, this]
  simp [h0, hi, len_lv, e, ix]
theorem book_ok {b : Nat} {u h : MH} (st : S4 (6 + b) u h) : ∃ B h', Bk.Ok B ∧ S4 b u h' ∧ m_law_book [.ref 2] h = .ok B.v h' := by
  have hrows : b_law_book_0 [some (.ref 2), none, none] h = .nx [some (.ref 2), some (.lv [.lv ([wAlways, wFree, wNever].map .str), .lv ([wAlways, wApart, wNever].map .str), .lv ([wSame, wNone].map .str), .lv ([wOwn, wAny, wNever].map .str)]), none] h := by
    simp [b_law_book_0, Pg.szs]
  have hrows2 : b_law_book_1 [some (.ref 2), some (.lv [.lv ([wAlways, wFree, wNever].map .str), .lv ([wAlways, wApart, wNever].map .str), .lv ([wSame, wNone].map .str), .lv ([wOwn, wAny, wNever].map .str)]), none] h = .nx [some (.ref 2), some rows6, none] h := by
    simp [b_law_book_1, Pg.szs, mAddV, lstR, rows6]
  have key : ∀ (rows : List (List CP)) (acc : List MV) (b : Nat) (h : MH), S4 (1 * rows.length + b) u h → acc.length + rows.length ≤ 99999 → (∀ r ∈ rows, 0 < r.length ∧ r.length < 1000) → ∃ ws h', Paired (fun (r : List CP) w => w ∈ r) rows ws ∧ S4 b u h' ∧
      lcL (.one 2) tYesM (eOp mIx (eVar 2) (eCall 2 m_law_draw (aCons (eVar 0) (aCons (eBlt mLen (aCons (eVar 2) (aNil))) (aNil))))) [some (.ref 2), some rows6, none] (rows.map fun r => .lv (r.map .str)) acc h = .ok (.lv (acc ++ ws.map .str)) h' := by
    intro rows
    induction rows with
    | nil => intro acc b h st _ _; exact ⟨[], h, .nil, by simpa using st, by simp [lcL]⟩
    | cons r rows ih =>
      intro acc b h st hl hr
      simp only [List.length_cons] at hl st
      obtain ⟨w, h1, hw, st1, e1⟩ := pick (b := 1 * rows.length + b) (row := r) (s := [some (.ref 2), some rows6, some (.lv (r.map .str))]) (i := 2) (j := 0) (st.mono (by omega)) (hr r List.mem_cons_self) rfl rfl
      obtain ⟨ws, h2, pw, st2, e2⟩ := ih (acc ++ [.str w]) b h1 st1 (by simp; omega) fun r hr' => hr r (List.mem_cons_of_mem _ hr')
      have hlt : acc.length < sizeLine := by rw [Pg.szs]; omega
      refine ⟨w :: ws, h2, .cons hw pw, st2, ?_⟩
      rw [List.map_cons, show ∀ (x : MV) (xs : List MV), lcL (.one 2) tYesM (eOp mIx (eVar 2) (eCall 2 m_law_draw (aCons (eVar 0) (aCons (eBlt mLen (aCons (eVar 2) (aNil))) (aNil))))) [some (.ref 2), some rows6, none] (x :: xs) acc h = (match Tg.run (.one 2) x [some (.ref 2), some rows6, none] with
        | some s2 => match tYesM s2 h with
          | .ok true h3 => (match eOp mIx (eVar 2) (eCall 2 m_law_draw (aCons (eVar 0) (aCons (eBlt mLen (aCons (eVar 2) (aNil))) (aNil)))) s2 h3 with
            | .ok y h4 => if acc.length < sizeLine then lcL (.one 2) tYesM (eOp mIx (eVar 2) (eCall 2 m_law_draw (aCons (eVar 0) (aCons (eBlt mLen (aCons (eVar 2) (aNil))) (aNil))))) [some (.ref 2), some rows6, none] xs (acc ++ [y]) h4 else .stuck
            | _ => .stuck)
          | .ok false h3 => lcL (.one 2) tYesM (eOp mIx (eVar 2) (eCall 2 m_law_draw (aCons (eVar 0) (aCons (eBlt mLen (aCons (eVar 2) (aNil))) (aNil))))) [some (.ref 2), some rows6, none] xs acc h3
          | _ => .stuck
        | none => .stuck) from fun _ _ => rfl]
      simp only [Tg.run, List.set, tYesM_ap, e1, if_pos hlt]
      rw [e2]
      simp
  obtain ⟨ws, h1, pw, st1, e1⟩ := key [[wAlways, wFree, wNever], [wAlways, wApart, wNever], [wSame, wNone], [wOwn, wAny, wNever], [wOwn, wAny, wOne], [wNever, wLine]] [] b h (by simpa using st) (by simp) (by simp)
  cases pw with | cons q1 pw => cases pw with | cons q2 pw => cases pw with | cons q3 pw => cases pw with | cons q4 pw => cases pw with | cons q5 pw => cases pw with | cons q6 pw =>
  cases pw
  rename_i w1 w2 w3 w4 w5 w6
  let B : Bk := ⟨w1, w2, w3, w4, w5, w6⟩
  have run : runFn 3 b_law_book [.ref 2] h = .ok B.v h1 := by
    have j0 : jSeq (eVar 1) [some (.ref 2), some rows6, none] h = .ok (.items [.lv ([wAlways, wFree, wNever].map .str), .lv ([wAlways, wApart, wNever].map .str), .lv ([wSame, wNone].map .str), .lv ([wOwn, wAny, wNever].map .str), .lv ([wOwn, wAny, wOne].map .str), .lv ([wNever, wLine].map .str)]) h := rfl
    have e2 : b_law_book_2 [some (.ref 2), some rows6, none] h = .rt B.v h1 := by
      unfold b_law_book_2
      rw [sRet_ap, eBlt_ap, aCons_ap, eLv_ap, j0, bind_ok, lc_items]
      have e1' := e1
      simp only [List.map_cons, List.map_nil, List.nil_append] at e1' ⊢
      simp only [wipeM, List.set]
      rw [e1']
      rfl
    rw [runFn_ap]
    show (match b_law_book [some (.ref 2), none, none] h with
      | .rt v h' => R.ok v h'
      | .nx _ h' => .ok .non h'
      | .err e _ h' => .err e h'
      | _ => .stuck) = _
    rw [show b_law_book [some (.ref 2), none, none] h = .rt B.v h1 by
      unfold b_law_book
      rw [sSeq_ap, hrows]
      simp only
      rw [sSeq_ap, hrows2]
      simp only
      exact e2]
  obtain ⟨h2, st2, e3⟩ := trim_end (m := runFn 3 b_law_book) (u := []) st (by simpa using st1) run (by rfl)
  exact ⟨B, h2, ⟨q1, q2, q3, q4, q5, q6⟩, st2, e3⟩
end MP.Q3

end
section
namespace MP.Pg
open PySem L2 MP
structure PgOk (l : CP) (r : Rt) : Prop where
  l : ∀ c ∈ l, sgn c = true
  r : ∀ p ∈ r, sgn p.1 = true ∧ (p.2 = true → closing p.1 = true)
end MP.Pg

end
section
namespace MP.Pg
open PySem L2 MP MP.Pr
structure Rg where
  needs : CP
  bef : Option Nat
  op : Bool
def Rg.q (r : Rg) : Bool := r.needs.getLast? == some 39
def Rg.can (r : Rg) (c : Nat) : Bool := if r.q then c != 47 else if r.op then letter c else !(c == 41 || c == 93) || r.needs.getLast? == some c
def Rg.step (hw : Bool) (r : Rg) (c : Nat) : Rg :=
  if r.q then { r with needs := if c = 39 then r.needs.dropLast else r.needs, bef := some c }
  else if c = 39 ∧ hw = true ∧ r.bef.elim false letter = true then { r with op := true, bef := some c }
  else { needs := if (closerN c).isSome then r.needs ++ oT (closerN c) else if c = 41 ∨ c = 93 then r.needs.dropLast else r.needs, bef := some c, op := false }
def r0 : Rg := ⟨[], none, false⟩
structure RgAt (h : MH) (n : Nat) (hw : Bool) (r : Rg) : Prop where
  o : h[n]? = some (.ins n_Reading [(f_has_words, .bl hw), (f_needs, .str r.needs), (f_before, .str (oT r.bef)), (f_is_open, .bl r.op)])
@[simp] theorem hasRg : ([n_Reading] : List CP).contains n_Reading = true := rfl
@[simp] theorem rgGw (a b c d : MV) : getF f_has_words [(f_has_words, a), (f_needs, b), (f_before, c), (f_is_open, d)] = some a := rfl
@[simp] theorem rgGn (a b c d : MV) : getF f_needs [(f_has_words, a), (f_needs, b), (f_before, c), (f_is_open, d)] = some b := rfl
@[simp] theorem rgGb (a b c d : MV) : getF f_before [(f_has_words, a), (f_needs, b), (f_before, c), (f_is_open, d)] = some c := rfl
@[simp] theorem rgGo (a b c d : MV) : getF f_is_open [(f_has_words, a), (f_needs, b), (f_before, c), (f_is_open, d)] = some d := rfl
@[simp] theorem rgSn (v a b c d : MV) : setF f_needs v [(f_has_words, a), (f_needs, b), (f_before, c), (f_is_open, d)] = [(f_has_words, a), (f_needs, v), (f_before, c), (f_is_open, d)] := rfl
@[simp] theorem rgSb (v a b c d : MV) : setF f_before v [(f_has_words, a), (f_needs, b), (f_before, c), (f_is_open, d)] = [(f_has_words, a), (f_needs, b), (f_before, v), (f_is_open, d)] := rfl
@[simp] theorem rgSo (v a b c d : MV) : setF f_is_open v [(f_has_words, a), (f_needs, b), (f_before, c), (f_is_open, d)] = [(f_has_words, a), (f_needs, b), (f_before, c), (f_is_open, v)] := rfl
@[simp] theorem noIq (a b c d : MV) : noF x_is_quoted [(f_has_words, a), (f_needs, b), (f_before, c), (f_is_open, d)] = true := rfl
@[simp] theorem noCr (a b c d : MV) : noF x_can_read [(f_has_words, a), (f_needs, b), (f_before, c), (f_is_open, d)] = true := rfl
@[simp] theorem noRe (a b c d : MV) : noF x_read [(f_has_words, a), (f_needs, b), (f_before, c), (f_is_open, d)] = true := rfl
section
variable {h : MH} {n : Nat} {hw : Bool} {r : Rg} {l : CP}
end
end MP.Pg

end
section
namespace MP.Pg
open PySem L2 MP MP.Pr
inductive Typ (sl : Bool) : List Ky → CP → Prop
  | nil : Typ sl [] []
  | slip {c : Nat} {ks : List Ky} {t : CP} : sl = true → sgn c = true → Typ sl ks t → Typ sl (.sg c :: .back :: ks) t
  | key {c : Nat} {ks : List Ky} {t : CP} : sgn c = true → Typ sl ks t → Typ sl (.sg c :: ks) (c :: t)
theorem Typ.ok {sl : Bool} {ks : List Ky} {t : CP} (y : Typ sl ks t) : ∀ k ∈ ks, k.ok = true := by
  induction y with
  | nil => intro k hk; cases hk
  | slip hs hc _ ih =>
    intro k hk
    rcases List.mem_cons.mp hk with rfl | hk
    · exact hc
    · rcases List.mem_cons.mp hk with rfl | hk
      · rfl
      · exact ih k hk
  | key hc _ ih =>
    intro k hk
    rcases List.mem_cons.mp hk with rfl | hk
    · exact hc
    · exact ih k hk
def readAll (hw : Bool) : CP → Rg → Option Rg
  | [], r => some r
  | c :: t, r => if r.can c then readAll hw t (r.step hw c) else none
theorem readAll_append (hw : Bool) : ∀ (t t' : CP) (r : Rg), readAll hw (t ++ t') r = (readAll hw t r).bind (readAll hw t')
  | [], t', r => rfl
  | c :: t, t', r => by
    simp only [List.cons_append, readAll]
    split
    · exact readAll_append hw t t' _
    · rfl
def isSlip (ks : List Ky) : Bool := match ks with
  | .back :: _ => true
  | _ => false
end MP.Pg

end
section
namespace MP.Pg
open PySem L2 MP MP.Pr
def mnV (sl hw bh : Bool) : MV := .tup [.bl sl, .bl hw, .bl bh]
theorem pure_of {m : MF} {as : List MV} {v : MV} (ha : belowL 0 as = true) (hv : below 0 v = true) (e : ∃ h', m as [] = .ok v h') (g : MH) : pureV m as g = .ok v g := by
  obtain ⟨h', e⟩ := e
  unfold pureV
  rw [if_pos ha, e]
  cases v with
  | ref n => simp [below] at hv
  | _ => simp only [pureRV, pureR, hv, if_true]
end MP.Pg

end
section
namespace MP.Jn
open PySem L2 MP MP.Pg MP.Sp MP.Px
open MP.Pr hiding b_need_behind b_need_book b_need_keys b_need_manner b_need_page b_need_text b_pressed b_typed m_need_behind m_need_book m_need_keys m_need_manner m_need_page m_need_text m_pressed m_typed
def Pl.w : Pl → CP
  | .inn => [105, 110] | .out => [111, 117, 116] | .word => [119, 111, 114, 100]
def cW (c : Bool) : CP := if c then [111, 100, 100] else [101, 118, 101, 110]
def Bf.w : Bf → CP
  | .let_ => [108, 101, 116, 116, 101, 114] | .oth => [111, 116, 104, 101, 114] | .quo => [113, 117, 111, 116, 101]
def Nt.w : Nt → CP
  | .clo => [99, 108, 111, 115, 101, 114] | .quo => [113, 117, 111, 116, 101] | .rest => [114, 101, 115, 116]
def Rs.w : Rs → CP
  | .bl => [98, 108, 97, 110, 107] | .clo => [99, 108, 111, 115, 101, 114] | .end_ => [101, 110, 100] | .quo => [113, 117, 111, 116, 101] | .wall => [119, 97, 108, 108]
def Sd.v (s : Sd) : MV := .tup [.str s.p.w, .str (cW s.c), .str s.b.w, .str s.n.w, .str s.r.w]
def ruOf (B : Bk) : Ru := ⟨B.a == wAlways, B.a == wFree, B.a == [110, 101, 118, 101, 114], B.b == wAlways, B.b == wApart, B.b == [110, 101, 118, 101, 114], B.c == wSame, B.d == wOwn, B.d == wAny, B.d == [110, 101, 118, 101, 114], B.e == wOwn, B.e == wAny, B.e == [111, 110, 101], B.f == wLine⟩
section
variable (B : Bk)
@[simp] theorem tA : (B.a == [97, 108, 119, 97, 121, 115]) = (ruOf B).aA := rfl
@[simp] theorem tF : (B.a == [102, 114, 101, 101]) = (ruOf B).aF := rfl
@[simp] theorem tN : (B.a == [110, 101, 118, 101, 114]) = (ruOf B).aN := rfl
@[simp] theorem tbA : (B.b == [97, 108, 119, 97, 121, 115]) = (ruOf B).bA := rfl
@[simp] theorem tbN : (B.b == [110, 101, 118, 101, 114]) = (ruOf B).bN := rfl
@[simp] theorem tS : (B.c == [115, 97, 109, 101]) = (ruOf B).cS := rfl
@[simp] theorem tdO : (B.d == [111, 119, 110]) = (ruOf B).dO := rfl
@[simp] theorem tdA : (B.d == [97, 110, 121]) = (ruOf B).dA := rfl
@[simp] theorem tdN : (B.d == [110, 101, 118, 101, 114]) = (ruOf B).dN := rfl
@[simp] theorem teA : (B.e == [97, 110, 121]) = (ruOf B).eA := rfl
@[simp] theorem te1 : (B.e == [111, 110, 101]) = (ruOf B).e1 := rfl
@[simp] theorem tfL : (B.f == [108, 105, 110, 101]) = (ruOf B).fL := rfl
@[simp] theorem bP (b : Bf) : (b.w == Bf.oth.w) = b.isP := by cases b <;> rfl
@[simp] theorem vOUT : v_OUT = .str Pl.out.w := rfl
@[simp] theorem vIN : v_IN = .str Pl.inn.w := rfl
@[simp] theorem vWORD : v_WORD = .str Pl.word.w := rfl
@[simp] theorem vEVEN : v_EVEN = .str (cW false) := rfl
@[simp] theorem vODD : v_ODD = .str (cW true) := rfl
@[simp] theorem vLETTER : v_LETTER = .str Bf.let_.w := rfl
@[simp] theorem vQUOTED : v_QUOTED = .str Nt.quo.w := rfl
@[simp] theorem vPLAIN : Px.v_PLAIN = .str Bf.oth.w := rfl
@[simp] theorem vCLOSER : v_CLOSER = .str Nt.clo.w := rfl
@[simp] theorem vREST : v_REST = .str Nt.rest.w := rfl
@[simp] theorem vWALL : v_WALL = .str Rs.wall.w := rfl
end
def kvB (f : List Sd) : List (MV × MV) := f.map fun s => (s.v, .bl true)
def cuF (B : Bk) (sl hw bh : Bool) (s : Sd) (m : Nat) (x : Bool) : List (CP × MV) := [(f_rules, B.v), (f_manner, mnV sl hw bh), (f_stand, s.v), (f_place, .str s.p.w), (f_count, .str (cW s.c)), (f_before, .str s.b.w), (f_next_thing, .str s.n.w), (f_rest, .str s.r.w), (f_found, .ref m), (f_is_fault, .bl x)]
section
variable (B : Bk) (sl hw bh : Bool) (s : Sd) (h0 : MH) (u : Cs)
def hc : MH := h0 ++ [.ins n_Cursor (cuF B sl hw bh s (h0.length + 1) u.x), .dT (kvB u.f)]
end
section
variable (B : Bk) (sl hw bh : Bool) (s : Sd) (m : Nat) (x : Bool)
@[simp] theorem gRules : getF f_rules (cuF B sl hw bh s m x) = some B.v := rfl
@[simp] theorem gManner : getF f_manner (cuF B sl hw bh s m x) = some (mnV sl hw bh) := rfl
@[simp] theorem gPlace : getF f_place (cuF B sl hw bh s m x) = some (.str s.p.w) := rfl
@[simp] theorem gCount : getF f_count (cuF B sl hw bh s m x) = some (.str (cW s.c)) := rfl
@[simp] theorem gBefore : getF f_before (cuF B sl hw bh s m x) = some (.str s.b.w) := rfl
@[simp] theorem gNext : getF f_next_thing (cuF B sl hw bh s m x) = some (.str s.n.w) := rfl
@[simp] theorem gRest : getF f_rest (cuF B sl hw bh s m x) = some (.str s.r.w) := rfl
@[simp] theorem gFound : getF f_found (cuF B sl hw bh s m x) = some (.ref m) := rfl
@[simp] theorem gFault : getF f_is_fault (cuF B sl hw bh s m x) = some (.bl x) := rfl
@[simp] theorem sFault (y : Bool) : setF f_is_fault (.bl y) (cuF B sl hw bh s m x) = cuF B sl hw bh s m y := rfl
@[simp] theorem cuLen : (cuF B sl hw bh s m x).length = 10 := rfl
@[simp] theorem hasCu : ([n_Cursor] : List CP).contains n_Cursor = true := rfl
@[simp] theorem nf1 : noF x_come (cuF B sl hw bh s m x) = true := rfl
@[simp] theorem nf2 : noF x_fault_if (cuF B sl hw bh s m x) = true := rfl
@[simp] theorem nf3 : noF x_is_forgotten (cuF B sl hw bh s m x) = true := rfl
@[simp] theorem nf4 : noF x_can_put (cuF B sl hw bh s m x) = true := rfl
@[simp] theorem nf5 : noF x_has_room (cuF B sl hw bh s m x) = true := rfl
@[simp] theorem nf6 : noF x_puts_closer (cuF B sl hw bh s m x) = true := rfl
@[simp] theorem nf7 : noF x_bared (cuF B sl hw bh s m x) = true := rfl
@[simp] theorem nf8 : noF x_swallows (cuF B sl hw bh s m x) = true := rfl
@[simp] theorem nf9 : noF x_puts_quote (cuF B sl hw bh s m x) = true := rfl
@[simp] theorem nf10 : noF x_other_count (cuF B sl hw bh s m x) = true := rfl
@[simp] theorem nf11 : noF x_loses (cuF B sl hw bh s m x) = true := rfl
@[simp] theorem nf12 : noF x_stay (cuF B sl hw bh s m x) = true := rfl
@[simp] theorem nf13 : noF x_type_plain (cuF B sl hw bh s m x) = true := rfl
@[simp] theorem nf14 : noF x_type_opener (cuF B sl hw bh s m x) = true := rfl
@[simp] theorem nf15 : noF x_type_closer (cuF B sl hw bh s m x) = true := rfl
@[simp] theorem nf16 : noF x_type_quote (cuF B sl hw bh s m x) = true := rfl
@[simp] theorem nf17 : noF x_close_quote (cuF B sl hw bh s m x) = true := rfl
@[simp] theorem nf18 : noF x_slip_opener (cuF B sl hw bh s m x) = true := rfl
@[simp] theorem nf19 : noF x_slip_closer (cuF B sl hw bh s m x) = true := rfl
@[simp] theorem nf20 : noF x_slip_quote (cuF B sl hw bh s m x) = true := rfl
@[simp] theorem nf21 : noF x_go_on (cuF B sl hw bh s m x) = true := rfl
@[simp] theorem ix0 (g : MH) : mIx B.v (.int 0) g = some (.str B.a, g) := rfl
@[simp] theorem ix1 (g : MH) : mIx B.v (.int 1) g = some (.str B.b, g) := rfl
@[simp] theorem ix2 (g : MH) : mIx B.v (.int 2) g = some (.str B.c, g) := rfl
@[simp] theorem ix3 (g : MH) : mIx B.v (.int 3) g = some (.str B.d, g) := rfl
@[simp] theorem ix4 (g : MH) : mIx B.v (.int 4) g = some (.str B.e, g) := rfl
@[simp] theorem ix5 (g : MH) : mIx B.v (.int 5) g = some (.str B.f, g) := rfl
@[simp] theorem im0 (g : MH) : mIx (mnV sl hw bh) (.int 0) g = some (.bl sl, g) := rfl
@[simp] theorem im1 (g : MH) : mIx (mnV sl hw bh) (.int 1) g = some (.bl hw, g) := rfl
@[simp] theorem im2 (g : MH) : mIx (mnV sl hw bh) (.int 2) g = some (.bl bh, g) := rfl
end
section
variable {B : Bk} {sl hw bh : Bool} {s : Sd} {h0 : MH} {u : Cs}
end
section
variable {B : Bk} {sl hw bh : Bool} {s : Sd} {h0 : MH} {u : Cs}
end
end MP.Jn

end
section
namespace MP.Jn
open PySem L2 MP MP.Pg MP.Sp MP.Px
open MP.Pr hiding b_need_behind b_need_book b_need_keys b_need_manner b_need_page b_need_text b_pressed b_typed m_need_behind m_need_book m_need_keys m_need_manner m_need_page m_need_text m_pressed m_typed
section
variable {σ : Sl} {h0 t : MH} {fs : List (CP × MV)} {v : MV}
end
section
variable (B : Bk) (sl hw bh : Bool) (s : Sd) (h0 : MH)
end
section
variable (B : Bk) (sl hw bh : Bool) (s : Sd) (h0 : MH)
end
section
variable (h0 : MH) (R : Ru) (sl hw : Bool) (fd W : List Sd) (g : MH)
end
section
variable (B : Bk) (sl hw bh : Bool) (h0 : MH)
end
end MP.Jn

end
section
namespace MP.Q9
open PySem L2 MP MP.Pg MP.Le
def b_law_need_of_1_b_0 : MS := sAsg (eAnd (eOp mNe (eVar 2) (eLstV (aNil))) (eOp mEq (eOp mIx (eVar 2) (eNeg (eC (.int 1)))) (eC (.str [39])))) (gNm 7)
def stV (l : CP) : List MV := l.map fun c => .str [c]
def sl0 (hw sl bh : Bool) (l : MV) (r : Rg) (x5 x6 x7 : Option MV) : Sl := [some (mnV sl hw bh), some l, some (.ref 0), some (.bl r.op), some (.str (oT r.bef)), x5, x6, x7]
def hp0 (r : Rg) : MH := [.lst (stV r.needs)]
theorem rng_ok (o : Option Nat) (s : Sl) (i : Nat) (hi : s[i]? = some (some (.str (oT o)))) (g : MH) : eChain mLe mLe (eC (.str [97])) (eVar i) (eC (.str [122])) s g = .ok (.bl (o.elim false letter)) g := by
  rw [← Q3.letter_chain o]
  cases h5 : decide (oT o < [97]) <;> simp [hi, mLe, h5]
theorem lstAt0 (r : Rg) : lstAt (hp0 r) 0 = some (stV r.needs) := rfl
theorem lastC (r : Rg) : (∃ c, r.needs.getLast? = some c ∧ mEqv (.ref 0) (.lv []) (hp0 r) = some false ∧ mIx (.ref 0) (.int (-1)) (hp0 r) = some (.str [c], hp0 r)) ∨ (r.needs = [] ∧ mEqv (.ref 0) (.lv []) (hp0 r) = some true) := by
  rcases List.eq_nil_or_concat r.needs with e | ⟨l, c, e⟩
  · right
    refine ⟨e, ?_⟩
    rw [eqv_refN (lstAt0 r), e]
    rfl
  · left
    rw [List.concat_eq_append] at e
    refine ⟨c, by rw [e]; simp, ?_, ?_⟩
    · rw [eqv_refN (lstAt0 r), e]
      simp [stV]
    · simp only [mIx, lstAt0]
      rw [e]
      have : stV (l ++ [c]) = stV l ++ [.str [c]] := by simp [stV]
      rw [this, atI_last]
      rfl
section
variable {hw sl bh : Bool} {t : MV} {r : Rg} {c : Nat} {x7 : Option MV} {pl : MV}
theorem n0 : b_law_need_of_1_b_0 (sl0 hw sl bh t r (some pl) (some (.str [c])) x7) (hp0 r) = .nx (sl0 hw sl bh t r (some pl) (some (.str [c])) (some (.bl r.q))) (hp0 r) := by
  rcases lastC r with ⟨d, e, h1, h2⟩ | ⟨e, h1⟩
  · have : r.q = (d == 39) := by simp [Rg.q, e]
    rw [this]
    simp [b_law_need_of_1_b_0, sl0, mNe, h1, h2]
  · have : r.q = false := by simp [Rg.q, e]
    rw [this]
    simp [b_law_need_of_1_b_0, sl0, mNe, h1]
theorem t1 : (tOrM (tAndM (tVal (eVar 7)) (tCmp mEq (eVar 6) (eC (.str [47])))) (tAndM (tVal (eVar 3)) (tNotM (tB (eChain mLe mLe (eC (.str [97])) (eVar 6) (eC (.str [122]))))))) (sl0 hw sl bh t r (some pl) (some (.str [c])) (some (.bl r.q))) (hp0 r) = .ok (r.q && c == 47 || r.op && !letter c) (hp0 r) := by
  have rg := rng_ok (some c) (sl0 hw sl bh t r (some pl) (some (.str [c])) (some (.bl r.q))) 6 rfl (hp0 r)
  have e7 : ∀ g, eVar 7 (sl0 hw sl bh t r (some pl) (some (.str [c])) (some (.bl r.q))) g = .ok (.bl r.q) g := fun _ => rfl
  have e6 : ∀ g, eVar 6 (sl0 hw sl bh t r (some pl) (some (.str [c])) (some (.bl r.q))) g = .ok (.str [c]) g := fun _ => rfl
  have e3 : ∀ g, eVar 3 (sl0 hw sl bh t r (some pl) (some (.str [c])) (some (.bl r.q))) g = .ok (.bl r.op) g := fun _ => rfl
  have q1 : (([c] : CP) == [47]) = (c == 47) := by simp
  generalize sl0 hw sl bh t r (some pl) (some (.str [c])) (some (.bl r.q)) = S at *
  cases hq : r.q <;> cases ho : r.op <;> cases h4 : (c == 47) <;> simp [-eVar_ap, -eChain_ap, e7, e6, e3, rg, hq, ho, q1, h4]
end
end MP.Q9

end
section
namespace MP.Q9
open PySem L2 MP MP.Pg MP.Le MP.Ld MP.Cm
def StkOk (r : Rg) : Prop := ∀ c ∈ r.needs, c = 41 ∨ c = 93 ∨ c = 39
theorem StkOk.step {r : Rg} (s : StkOk r) (hw : Bool) (c : Nat) : StkOk (r.step hw c) := by
  have dl : ∀ d ∈ r.needs.dropLast, d = 41 ∨ d = 93 ∨ d = 39 := fun d hd => s d (List.dropLast_subset _ hd)
  unfold StkOk Rg.step
  split
  · simp only
    split
    · exact dl
    · exact s
  · split
    · exact s
    · simp only
      split
      · intro d hd
        rcases List.mem_append.mp hd with hd | hd
        · exact s d hd
        · unfold closerN at hd
          split at hd
          · simp [oT] at hd; omega
          · split at hd
            · simp [oT] at hd; omega
            · split at hd
              · simp [oT] at hd; omega
              · simp [oT] at hd
      · split
        · exact dl
        · exact s
theorem StkOk.all {hw : Bool} : ∀ (l : CP) (r r' : Rg), StkOk r → readAll hw l r = some r' → StkOk r'
  | [], r, r', s, e => by simp only [readAll, Option.some.injEq] at e; subst e; exact s
  | c :: l, r, r', s, e => by
    simp only [readAll] at e
    split at e
    · exact StkOk.all l _ r' (s.step hw c) e
    · cases e
end MP.Q9

end
section
namespace MP.Q9
open PySem L2 MP MP.Pg MP.Le MP.Ld MP.Cm
end MP.Q9

end
section
namespace MP.N1
open PySem L2 MP MP.Pg MP.Px
open MP.Pr hiding b_need_manner m_need_manner b_need_text m_need_text b_need_book m_need_book b_need_behind m_need_behind b_need_keys m_need_keys b_need_page m_need_page b_pressed m_pressed
@[simp] theorem sRaise_ap (c f : CP) (a : MA) (s : Sl) (h : MH) : sRaise c f a s h = (a s h).bindS s fun xs h1 => match xs with
  | [v] => .err ⟨c, [(f, v)]⟩ s h1
  | _ => .stuck := rfl
theorem forL_nx {g : MG} {b : MS} {x : MV} {xs : List MV} {s s1 s2 : Sl} {h h1 h2 : MH} (e1 : g x s h = .ok s1 h1) (e2 : b s1 h1 = .nx s2 h2) : forL g b (x :: xs) s h = forL g b xs s2 h2 := by
  rw [forL, e1, go_ok, e2]
section
variable {sl hw bh : Bool} {l : CP}
end
end MP.N1

end
section
namespace MP.N2
open PySem L2 MP MP.Pg MP.Px MP.N1
open MP.Pr hiding b_need_manner m_need_manner b_need_text m_need_text b_need_book m_need_book b_need_behind m_need_behind b_need_keys m_need_keys b_need_page m_need_page b_pressed m_pressed b_typed m_typed
def tyP (sl hw : Bool) : List Ky → Rg → CP → Nat → Rg × CP × Option Nat
  | [], r, x, _ => (r, x, none)
  | .sg c :: .back :: t, r, x, i => if sl then tyP sl hw t r x (i + 2) else (r, x, some (i + 1))
  | .sg c :: t, r, x, i => if r.can c then tyP sl hw t (r.step hw c) (x ++ [c]) (i + 1) else (r, x, some i)
  | _ :: _, r, x, i => (r, x, some i)
inductive Hd (sl : Bool) (r : Rg) : List Ky → Prop
  | nil : Hd sl r []
  | slip (c : Nat) (t : List Ky) : Hd sl r (.sg c :: .back :: t)
  | sign (c : Nat) (t : List Ky) : isSlip t = false → Hd sl r (.sg c :: t)
  | odd (k : Ky) (t : List Ky) : (∀ c, k ≠ .sg c) → Hd sl r (k :: t)
section
variable {sl hw bh : Bool} {n : Nat}
end
end MP.N2

end
section
namespace MP.T2
open PySem L2 MP MP.Pg MP.Le MP.Ld MP.Q9
open MP.Cm (m_law_draw)
def b_law_menus_0 : MS := sAsg (eLstV (aCons (eTup (aCons (eC (.str [97, 108, 119, 97, 121, 115])) (aCons (eC (.str [102, 114, 101, 101])) (aCons (eC (.str [110, 101, 118, 101, 114])) (aNil))))) (aCons (eTup (aCons (eC (.str [97, 108, 119, 97, 121, 115])) (aCons (eC (.str [97, 112, 97, 114, 116])) (aCons (eC (.str [110, 101, 118, 101, 114])) (aNil))))) (aCons (eTup (aCons (eC (.str [115, 97, 109, 101])) (aCons (eC (.str [110, 111, 110, 101])) (aNil)))) (aCons (eTup (aCons (eC (.str [111, 119, 110])) (aCons (eC (.str [97, 110, 121])) (aCons (eC (.str [110, 101, 118, 101, 114])) (aNil))))) (aNil)))))) (gNm 0)
def b_law_menus_1 : MS := sRet (eOp mAddV (eVar 0) (eLstV (aCons (eTup (aCons (eC (.str [111, 119, 110])) (aCons (eC (.str [97, 110, 121])) (aCons (eC (.str [111, 110, 101])) (aNil))))) (aCons (eTup (aCons (eC (.str [110, 101, 118, 101, 114])) (aCons (eC (.str [108, 105, 110, 101])) (aNil)))) (aNil)))))
def b_law_menus : MS := sSeq (b_law_menus_0) (b_law_menus_1)
def m_law_menus : MF := pureV (runFn 1 b_law_menus)
def b_law_book : MS := sRet (eBlt mTuple (aCons (eLv (jSeq (eCall 0 m_law_menus aNil)) [1] (.one 1) (tYesM) (eOp mIx (eVar 1) (eCall 2 m_law_draw (aCons (eVar 0) (aCons (eBlt mLen (aCons (eVar 1) (aNil))) (aNil)))))) (aNil)))
def m_law_book : MF := trimV (runFn 2 b_law_book)
end MP.T2

end
section
namespace MP.N5
open PySem L2 MP MP.Pg MP.Le MP.Ld MP.N1
open MP.N2 (tyP)
open MP.Px
open MP.Pr hiding b_need_manner m_need_manner b_need_text m_need_text b_need_book m_need_book b_need_behind m_need_behind b_need_keys m_need_keys b_need_page m_need_page b_pressed m_pressed b_typed m_typed
theorem need_book_okX {B : Bk} (ok : B.Ok) (h : MH) : m_need_book [B.v] h = .ok B.v h := by
  have ea : inF (.str B.a) [.str wAlways, .str wFree, .str wNever] = some true := by
    have := inF_strs B.a [wAlways, wFree, wNever]
    rw [List.contains_iff_mem.mpr ok.a] at this; exact this
  have eb : inF (.str B.b) [.str wAlways, .str wApart, .str wNever] = some true := by
    have := inF_strs B.b [wAlways, wApart, wNever]
    rw [List.contains_iff_mem.mpr ok.b] at this; exact this
  have ec : inF (.str B.c) [.str wSame, .str wNone] = some true := by
    have := inF_strs B.c [wSame, wNone]
    rw [List.contains_iff_mem.mpr ok.c] at this; exact this
  have ed : inF (.str B.d) [.str wOwn, .str wAny, .str wNever] = some true := by
    have := inF_strs B.d [wOwn, wAny, wNever]
    rw [List.contains_iff_mem.mpr ok.d] at this; exact this
  have ee : inF (.str B.e) [.str wOwn, .str wAny, .str wOne] = some true := by
    have := inF_strs B.e [wOwn, wAny, wOne]
    rw [List.contains_iff_mem.mpr ok.e] at this; exact this
  have ef : inF (.str B.f) [.str wNever, .str wLine] = some true := by
    have := inF_strs B.f [wNever, wLine]
    rw [List.contains_iff_mem.mpr ok.f] at this; exact this
  have c0 : mIx v_CHOICES (.int 0) h = some (.tup [.str wAlways, .str wFree, .str wNever], h) := rfl
  have c1 : mIx v_CHOICES (.int 1) h = some (.tup [.str wAlways, .str wApart, .str wNever], h) := rfl
  have c2 : mIx v_CHOICES (.int 2) h = some (.tup [.str wSame, .str wNone], h) := rfl
  have c3 : mIx v_CHOICES (.int 3) h = some (.tup [.str wOwn, .str wAny, .str wNever], h) := rfl
  have c4 : mIx v_CHOICES (.int 4) h = some (.tup [.str wOwn, .str wAny, .str wOne], h) := rfl
  have c5 : mIx v_CHOICES (.int 5) h = some (.tup [.str wNever, .str wLine], h) := rfl
  have cl : mLen [v_CHOICES] h = some (.int 6, h) := rfl
  simp [m_need_book, b_need_book, Bk.v, isi_tup, isi_str, isTy, len_tup, cl, enumL, forL, mInB, c0, c1, c2, c3, c4, c5, ea, eb, ec, ed, ee, ef]
end MP.N5

end
section
namespace MP
open PySem L2
mutual
def isDat : MV → Bool
  | .non => true
  | .bl _ => true
  | .int _ => true
  | .str _ => true
  | .tup xs => isDatL xs
  | .lv xs => isDatL xs
  | _ => false
def isDatL : List MV → Bool
  | [] => true
  | x :: xs => isDat x && isDatL xs
end
mutual
def toP : MV → PyData
  | .bl b => .bool b
  | .int i => .int i
  | .str l => .str (S l)
  | .tup xs => .tuple (toPL xs)
  | .lv xs => .list (toPL xs)
  | _ => .none
def toPL : List MV → List PyData
  | [] => []
  | x :: xs => toP x :: toPL xs
end
def eqD (v u : MV) : Bool := PyData.eqv (toP v) (toP u)
section
@[simp] theorem eqD_non : eqD .non .non = true := rfl
@[simp] theorem eqD_tup_nil : eqD (.tup []) (.tup []) = true := rfl
@[simp] theorem eqD_lv_nil : eqD (.lv []) (.lv []) = true := rfl
@[simp] theorem eqD_tup_nc (y : MV) (ys : List MV) : eqD (.tup []) (.tup (y :: ys)) = false := rfl
@[simp] theorem eqD_tup_cn (y : MV) (ys : List MV) : eqD (.tup (y :: ys)) (.tup []) = false := rfl
@[simp] theorem eqD_lv_nc (y : MV) (ys : List MV) : eqD (.lv []) (.lv (y :: ys)) = false := rfl
@[simp] theorem eqD_lv_cn (y : MV) (ys : List MV) : eqD (.lv (y :: ys)) (.lv []) = false := rfl
@[simp] theorem eqD_ni (i : Int) : eqD .non (.int i) = false := rfl
@[simp] theorem eqD_in (i : Int) : eqD (.int i) .non = false := rfl
end
end MP

end
section
namespace MP.Jt
open PySem L2 MP MP.Pg MP.Le MP.Ld MP.N1 MP.N5 MP.Jn
open MP.Cm (m_law_draw)
open MP.T2 (m_law_book)
end MP.Jt

end
section
namespace MP.Jn
open PySem L2 MP MP.Pg MP.Sp MP.Px MP.N1 MP.Jt
open MP.Pr hiding b_need_behind b_need_book b_need_keys b_need_manner b_need_page b_need_text b_pressed b_typed m_need_behind m_need_book m_need_keys m_need_manner m_need_page m_need_text m_pressed m_typed
abbrev Mn := Bool × Bool × Bool
def Mn.v (m : Mn) : MV := mnV m.1 m.2.1 m.2.2
end MP.Jn

end
section
namespace MP.U1
open PySem L2 MP MP.Pg MP.Le MP.Ld MP.Q9
open MP.Cm (m_law_draw)
def b_law_book_0 : MS := sAsg (eTup (aCons (eTup (aCons (eC (.str [97, 108, 119, 97, 121, 115])) (aCons (eC (.str [102, 114, 101, 101])) (aCons (eC (.str [110, 101, 118, 101, 114])) (aNil))))) (aCons (eTup (aCons (eC (.str [97, 108, 119, 97, 121, 115])) (aCons (eC (.str [97, 112, 97, 114, 116])) (aCons (eC (.str [110, 101, 118, 101, 114])) (aNil))))) (aCons (eTup (aCons (eC (.str [115, 97, 109, 101])) (aCons (eC (.str [110, 111, 110, 101])) (aNil)))) (aCons (eTup (aCons (eC (.str [111, 119, 110])) (aCons (eC (.str [97, 110, 121])) (aCons (eC (.str [110, 101, 118, 101, 114])) (aNil))))) (aNil)))))) (gNm 1)
def b_law_book_1 : MS := sAsg (eOp mAddV (eVar 1) (eTup (aCons (eTup (aCons (eC (.str [111, 119, 110])) (aCons (eC (.str [97, 110, 121])) (aCons (eC (.str [111, 110, 101])) (aNil))))) (aCons (eTup (aCons (eC (.str [110, 101, 118, 101, 114])) (aCons (eC (.str [108, 105, 110, 101])) (aNil)))) (aNil))))) (gNm 1)
def b_law_book_2 : MS := sRet (eBlt mTuple (aCons (eLv (jSeq (eVar 1)) [2] (.one 2) (tYesM) (eOp mIx (eVar 2) (eCall 2 m_law_draw (aCons (eVar 0) (aCons (eBlt mLen (aCons (eVar 2) (aNil))) (aNil)))))) (aNil)))
def b_law_book : MS := sSeq (b_law_book_0) (sSeq (b_law_book_1) (b_law_book_2))
def m_law_book : MF := trimV (runFn 3 b_law_book)
structure MeantS (hw : Bool) (t : CP) : Prop where
  sg : ∀ c ∈ t, sgn c = true
  rd : ∀ r : Rg, r.op = false → r.q = false → r.bef.elim false letter = false → ∃ r', readAll hw t r = some r' ∧ r'.needs = r.needs ∧ r'.op = false ∧ (r'.bef.elim false letter = t.getLast?.elim false letter)
theorem MeantS.nil (hw : Bool) : MeantS hw [] := ⟨by simp, fun r h1 h2 h3 => ⟨r, rfl, rfl, h1, by simpa using h3⟩⟩
theorem MeantS.app {hw : Bool} {t x : CP} (m : MeantS hw t) (hx : x ≠ []) (hs : ∀ c ∈ x, sgn c = true) (h : ∀ r : Rg, r.op = false → r.q = false → r.bef.elim false letter = t.getLast?.elim false letter → ∃ r', readAll hw x r = some r' ∧ r'.needs = r.needs ∧ r'.op = false ∧ r'.bef = x.getLast?) : MeantS hw (t ++ x) := by
  refine ⟨fun c hc => ?_, fun r h1 h2 h3 => ?_⟩
  · rcases List.mem_append.mp hc with hc | hc
    · exact m.sg c hc
    · exact hs c hc
  · obtain ⟨r1, e1, n1, o1, b1⟩ := m.rd r h1 h2 h3
    obtain ⟨r2, e2, n2, o2, b2⟩ := h r1 o1 (by unfold Rg.q at h2 ⊢; rw [n1]; exact h2) b1
    refine ⟨r2, ?_, n2.trans n1, o2, ?_⟩
    · rw [readAll_append, e1]
      exact e2
    · rw [b2, List.getLast?_append]
      cases hg : x.getLast? with
      | none => exact absurd (List.getLast?_eq_none_iff.mp hg) hx
      | some c => rfl
theorem MeantS.nest {hw : Bool} {t x : CP} (m : MeantS hw t) (i : MeantS hw x) {o k : Nat} (ho : o = 40 ∧ k = 41 ∨ o = 91 ∧ k = 93) : MeantS hw (t ++ (o :: x ++ [k])) := by
  have so : sgn o = true := by rcases ho with ⟨rfl, _⟩ | ⟨rfl, _⟩ <;> decide
  have sk : sgn k = true := by rcases ho with ⟨_, rfl⟩ | ⟨_, rfl⟩ <;> decide
  refine m.app (by simp) (fun c hc => ?_) fun r h1 h2 _ => ?_
  · simp only [List.cons_append, List.mem_cons, List.mem_append, List.not_mem_nil, or_false] at hc
    rcases hc with rfl | hc | rfl
    · exact so
    · exact i.sg c hc
    · exact sk
  · have ck : closerN o = some k := by rcases ho with ⟨rfl, rfl⟩ | ⟨rfl, rfl⟩ <;> rfl
    have kn : closerN k = none := by rcases ho with ⟨_, rfl⟩ | ⟨_, rfl⟩ <;> rfl
    have o39 : o ≠ 39 := by rcases ho with ⟨rfl, _⟩ | ⟨rfl, _⟩ <;> decide
    have k39 : k ≠ 39 := by rcases ho with ⟨_, rfl⟩ | ⟨_, rfl⟩ <;> decide
    have o41 : ¬ (o = 41 ∨ o = 93) := by rcases ho with ⟨rfl, _⟩ | ⟨rfl, _⟩ <;> decide
    have k41 : k = 41 ∨ k = 93 := by rcases ho with ⟨_, rfl⟩ | ⟨_, rfl⟩ <;> simp
    have lo : letter o = false := by rcases ho with ⟨rfl, _⟩ | ⟨rfl, _⟩ <;> decide
    have ca : r.can o = true := by
      have : (o == 41 || o == 93) = false := by simpa using o41
      simp [Rg.can, h1, h2, this]
    have sp : r.step hw o = ⟨r.needs ++ [k], some o, false⟩ := by
      unfold Rg.step
      rw [h2]
      simp [o39, ck, oT]
    have q1 : (Rg.mk (r.needs ++ [k]) (some o) false).q = false := by simp [Rg.q, k39]
    obtain ⟨r1, e1, n1, o1, b1⟩ := i.rd ⟨r.needs ++ [k], some o, false⟩ rfl q1 lo
    have q2 : r1.q = false := by unfold Rg.q; rw [n1]; simp [k39]
    have ca2 : r1.can k = true := by unfold Rg.can; rw [q2, o1, n1]; simp
    have sp2 : r1.step hw k = ⟨r.needs, some k, false⟩ := by
      unfold Rg.step
      rw [q2]
      simp [k39, kn, k41, n1]
    refine ⟨⟨r.needs, some k, false⟩, ?_, rfl, rfl, ?_⟩
    · rw [List.cons_append, readAll, ca, if_pos rfl, sp, readAll_append, e1]
      simp [readAll, ca2, sp2]
    · rw [List.getLast?_append]; rfl
theorem MeantS.apos {t : CP} (m : MeantS true t) {c : Nat} (hl : letter c = true) (hs : sgn c = true) (ht : t.getLast?.elim false letter = true) : MeantS true (t ++ [39, c]) := by
  have c39 : c ≠ 39 := fun z => by subst z; exact absurd hl (by decide)
  have c41 : ¬ (c = 41 ∨ c = 93) := fun z => by rcases z with rfl | rfl <;> exact absurd hl (by decide)
  have ck : closerN c = none := by
    unfold closerN
    rw [if_neg c39, if_neg (fun z => by subst z; exact absurd hl (by decide)), if_neg (fun z => by subst z; exact absurd hl (by decide))]
  refine m.app (by simp) (fun d hd => ?_) fun r h1 h2 h3 => ?_
  · simp only [List.mem_cons, List.not_mem_nil, or_false] at hd
    rcases hd with rfl | rfl
    · decide
    · exact hs
  · have ca : r.can 39 = true := by simp [Rg.can, h1, h2]
    have sp : r.step true 39 = ⟨r.needs, some 39, true⟩ := by
      unfold Rg.step
      rw [h2, h3, ht]
      simp
    have q2 : (Rg.mk r.needs (some 39) true).q = false := h2
    have ca2 : (Rg.mk r.needs (some 39) true).can c = true := by simp [Rg.can, q2, hl]
    have sp2 : (Rg.mk r.needs (some 39) true).step true c = ⟨r.needs, some c, false⟩ := by
      unfold Rg.step
      rw [q2]
      simp [c39, ck, c41]
    exact ⟨⟨r.needs, some c, false⟩, by simp [readAll, ca, sp, ca2, sp2], rfl, rfl, rfl⟩
section
variable {B : Bk} {l : CP} {r : Rt} {c : Nat} {g : MH}
end
section
variable {B : Bk} {l : CP} {r : Rt} {k : CP} {g : MH}
end
end MP.U1

end
section
namespace MP.N3
open PySem L2 MP MP.Pg MP.Px MP.N1
open MP.Pr hiding b_need_manner m_need_manner b_need_text m_need_text b_need_book m_need_book b_need_behind m_need_behind b_need_keys m_need_keys b_need_page m_need_page b_pressed m_pressed b_typed m_typed
theorem add_str {a b : CP} (h : a.length + b.length ≤ 100000) (g : MH) : mAddV (.str a) (.str b) g = some (.str (a ++ b), g) := by
  have : a.length + b.length ≤ 16777216 := by omega
  simp [mAddV, lstR, mAdd, Pg.szs, this]
structure Rp where
  left : CP
  right : CP
  owns : List Int
  has : Bool
  can : Bool
structure RpOk (s : Rp) : Prop where
  l : s.left.length ≤ 200
  r : s.right.length ≤ 200
  c : s.can = true → s.has = true ∧ s.right ≠ []
end MP.N3

end
section
namespace GXk22
open PySem L2 MP MP.Pg MP.Le MP.Ld
theorem draw_eq : m_law_draw = Cm.m_law_draw := rfl
theorem begun_eq : m_law_begun = Cm.m_law_begun := rfl
theorem pi_eq : m_Page___init__ = Pr.m_Page___init__ := rfl
theorem pp_eq : m_Page_press = Pr.m_Page_press := rfl
structure Zt where
  b : Nat
  o : Bool
  f : Option Nat
  p : Bool
  a : Bool
  h : Option (Nat × Nat × Bool)
deriving DecidableEq
def fV : Option Nat → CP
  | none => []
  | some c => [c]
def hV : Option (Nat × Nat × Bool) → MV
  | none => .tup []
  | some (c, b, o) => .tup [.str [c], .str [b], .bl o]
def Zt.fs (z : Zt) : List (CP × MV) := [(f_before, .str [z.b]), (f_is_odd, .bl z.o), (f_following, .str (fV z.f)), (f_is_put, .bl z.p), (f_is_aged, .bl z.a), (f_held, hV z.h)]
def Zt.ob (z : Zt) : MO := .ins n_Stand z.fs
def Zt.v (z : Zt) : MV := .tup [.str [z.b], .bl z.o, .str (fV z.f), .bl z.p, .bl z.a, hV z.h]
theorem bel_h (k : Nat) (x : Option (Nat × Nat × Bool)) : below k (hV x) = true := by
  cases x with
  | none => rfl
  | some q => rfl
theorem bel_fs (k : Nat) (z : Zt) : belowF k z.fs = true := by
  unfold Zt.fs
  simp only [belowF, below, bel_h, Bool.and_self]
theorem eq_h (x : Option (Nat × Nat × Bool)) : eqM (hV x) (hV x) = true := by
  cases x with
  | none => rfl
  | some q =>
    obtain ⟨c, b, o⟩ := q
    simp [hV, eqM, sSh, sShs, kEq, kEqs]
theorem eq_fs (z : Zt) : eqFs z.fs z.fs = true := by
  unfold Zt.fs
  simp only [eqFs, eq_h, Bool.and_true, beq_self_eq_true, Bool.true_and]
  simp [eqM, sSh, kEq]
theorem key_ok {h : MH} {i : Nat} {z : Zt} (e : h[i]? = some z.ob) : m_Stand_key [.ref i] h = .ok z.v h := by
  have e : h[i]? = some (.ins n_Stand z.fs) := e
  have g1 : getF f_before z.fs = some (.str [z.b]) := rfl
  have g2 : getF f_is_odd z.fs = some (.bl z.o) := rfl
  have g3 : getF f_following z.fs = some (.str (fV z.f)) := rfl
  have g4 : getF f_is_put z.fs = some (.bl z.p) := rfl
  have g5 : getF f_is_aged z.fs = some (.bl z.a) := rfl
  have g6 : getF f_held z.fs = some (hV z.h) := rfl
  simp [m_Stand_key, b_Stand_key, e, g1, g2, g3, g4, g5, g6, szs, Zt.v]
theorem mk_st {h : MH} {i : Nat} (z : Zt) (e : h[i]? = some (.ins n_Stand [])) : m_Stand___init__ [.ref i, .str [z.b], .bl z.o, .str (fV z.f), .bl z.p, .bl z.a, hV z.h] h = .ok .non (h.set i z.ob) := by
  have b : belowL 0 [.str [z.b], .bl z.o, .str (fV z.f), .bl z.p, .bl z.a, hV z.h] = true := by
    simp only [belowL, below, bel_h, Bool.and_self]
  have run : runFn 7 b_Stand___init__ [.ref 0, .str [z.b], .bl z.o, .str (fV z.f), .bl z.p, .bl z.a, hV z.h] [.ins n_Stand []] = .ok .non [z.ob] := rfl
  have ne : eqFs [] z.fs = false := rfl
  unfold m_Stand___init__
  simp only [soloV, e]
  rw [b, run]
  simp only [Zt.ob, soloR, below, beq_self_eq_true, Bool.and_self, if_true, ne, bel_fs, belowF]
  rfl
def leftW (b : Nat) (o : Bool) : CP := if b = 39 then (if o then [39] else [39, 39]) else (if o then [39] else []) ++ [b]
def Zt.lft (z : Zt) : CP := match z.h with
  | none => leftW z.b z.o
  | some (c, b, o) => leftW b o ++ [c]
def Zt.own (B : Bk) (z : Zt) : Bool := z.p && (B.f != wLine || !z.a)
def Zt.rgt (B : Bk) (z : Zt) : Rt := match z.f with
  | none => []
  | some c => [(c, z.own B)]
abbrev wPlain : CP := [112, 108, 97, 105, 110]
abbrev wPut : CP := [112, 117, 116]
abbrev wOver : CP := [111, 118, 101, 114]
def deedS (B : Bk) (z : Zt) (y : Ky) : CP :=
  if (pressS B z.lft (z.rgt B) y).2.length = (fV z.f).length then wPlain else if (fV z.f).length < (pressS B z.lft (z.rgt B) y).2.length then wPut else wOver
theorem left_with_ok (b : Nat) (o : Bool) (g : MH) : m_left_with [.str [b], .bl o] g = .ok (.str (leftW b o)) g := by
  unfold leftW
  by_cases hb : b = 39
  · subst hb
    cases o <;> rfl
  · have ad : ∀ l : CP, l.length ≤ 5 → mAddV (.str l) (.str [b]) g = some (.str (l ++ [b]), g) := fun l hl => N3.add_str (by simp; omega) g
    cases o with
    | false =>
      have a := ad [] (by simp)
      simp [m_left_with, b_left_with, hb, v_QUOTE, a]
    | true =>
      have a := ad [39] (by simp)
      simp [m_left_with, b_left_with, hb, v_QUOTE, a]
theorem left_len (b : Nat) (o : Bool) : (leftW b o).length ≤ 2 := by
  unfold leftW
  split <;> split <;> simp
section
variable {B : Bk} {z : Zt} {h : MH} {i : Nat}
abbrev P4 (i : Nat) (B : Bk) (x2 x3 : Option MV) : Sl := [some (.ref i), some B.v, x2, x3]
theorem gB (z : Zt) : getF f_before z.fs = some (.str [z.b]) := rfl
theorem gO (z : Zt) : getF f_is_odd z.fs = some (.bl z.o) := rfl
theorem gF (z : Zt) : getF f_following z.fs = some (.str (fV z.f)) := rfl
theorem gP (z : Zt) : getF f_is_put z.fs = some (.bl z.p) := rfl
theorem gA (z : Zt) : getF f_is_aged z.fs = some (.bl z.a) := rfl
theorem gH (z : Zt) : getF f_held z.fs = some (hV z.h) := rfl
theorem own_ex (e : h[i]? = some z.ob) : (eAnd (eFld [n_Stand] f_is_put (eVar 0)) (eOr (eOp mNe (eOp mIx (eVar 1) (eC (.int 5))) (eC v_AT_LINES)) (eNot (eFld [n_Stand] f_is_aged (eVar 0))))) (P4 i B none none) h = .ok (.bl (z.own B)) h := by
  have e : h[i]? = some (.ins n_Stand z.fs) := e
  have ix : mIx B.v (.int 5) h = some (.str B.f, h) := rfl
  have lw : ([108, 105, 110, 101] : CP) = wLine := rfl
  have nq : mNe (.str B.f) v_AT_LINES h = some (.bl (!(B.f == wLine)), h) := rfl
  unfold Zt.own
  cases hp : z.p with
  | false => simp [e, gP, hp]
  | true =>
    cases hf : (B.f == wLine) with
    | true =>
      rw [hf] at nq
      have n2 : (B.f != wLine) = false := by simp only [bne, hf, Bool.not_true]
      rw [n2]
      cases ha : z.a <;> simp [e, gP, hp, gA, ha, ix, -mNe_ap, nq]
    | false =>
      rw [hf] at nq
      have n2 : (B.f != wLine) = true := by simp only [bne, hf, Bool.not_false]
      rw [n2]
      simp [e, gP, hp, ix, -mNe_ap, nq]
theorem page_by_ok (e : h[i]? = some z.ob) : ∃ h' : MH, m_Stand_page_by [.ref i, B.v] h = .ok (.ref h.length) h' ∧ PgAt h' h.length (h.length + 1) z.lft (z.rgt B) ∧ h'.length = h.length + 2 ∧ ∀ (j : Nat) (o : MO), h[j]? = some o → h'[j]? = some o := by
  have ex := own_ex (B := B) e
  have e' : h[i]? = some (.ins n_Stand z.fs) := e
  have hl := left_len z.b z.o
  have lw := left_with_ok z.b z.o h
  have s0 : (sAsg (eAnd (eFld [n_Stand] f_is_put (eVar 0)) (eOr (eOp mNe (eOp mIx (eVar 1) (eC (.int 5))) (eC v_AT_LINES)) (eNot (eFld [n_Stand] f_is_aged (eVar 0))))) (gNm 2)) (P4 i B none none) h = .nx (P4 i B (some (.bl (z.own B))) none) h := by
    rw [sAsg_ap, ex]; rfl
  have s1 : (sAsg (eCall 2 m_left_with (aCons (eFld [n_Stand] f_before (eVar 0)) (aCons (eFld [n_Stand] f_is_odd (eVar 0)) (aNil)))) (gNm 3)) (P4 i B (some (.bl (z.own B))) none) h = .nx (P4 i B (some (.bl (z.own B))) (some (.str (leftW z.b z.o)))) h := by
    generalize leftW z.b z.o = L at *
    simp [e', gB, gO, lw]
  have s2 : (sIf (tCmp mNe (eFld [n_Stand] f_held (eVar 0)) (eTup (aNil))) (sAsg (eOp mAddV (eCall 2 m_left_with (aCons (eOp mIx (eFld [n_Stand] f_held (eVar 0)) (eC (.int 1))) (aCons (eOp mIx (eFld [n_Stand] f_held (eVar 0)) (eC (.int 2))) (aNil)))) (eOp mIx (eFld [n_Stand] f_held (eVar 0)) (eC (.int 0)))) (gNm 3)) (sNil)) (P4 i B (some (.bl (z.own B))) (some (.str (leftW z.b z.o)))) h = .nx (P4 i B (some (.bl (z.own B))) (some (.str z.lft))) h := by
    unfold Zt.lft
    cases hh : z.h with
    | none =>
      have q : mEqv (hV none) (.tup []) h = some true := rfl
      generalize leftW z.b z.o = L at *
      simp [e', gH, hh, q]
    | some q =>
      obtain ⟨c, b, o⟩ := q
      have q : mEqv (hV (some (c, b, o))) (.tup []) h = some false := rfl
      have i0 : mIx (hV (some (c, b, o))) (.int 0) h = some (.str [c], h) := rfl
      have i1 : mIx (hV (some (c, b, o))) (.int 1) h = some (.str [b], h) := rfl
      have i2 : mIx (hV (some (c, b, o))) (.int 2) h = some (.bl o, h) := rfl
      have l2 := left_with_ok b o h
      have ad : mAddV (.str (leftW b o)) (.str [c]) h = some (.str (leftW b o ++ [c]), h) := N3.add_str (by have := left_len b o; simp; omega) h
      simp [e', gH, hh, q, i0, i1, i2, l2, ad]
  obtain ⟨h', pi, pg, pl, fr⟩ := Pg.init_ok (h := h ++ [.ins n_Page []]) (n := h.length) (l := z.lft) (f := fV z.f) (os := if z.own B then [0] else []) (by simp) (by cases z.f <;> simp [fV])
  rw [← pi_eq] at pi
  have rg : rtOf 0 (fV z.f) (if z.own B then [0] else []) = z.rgt B := by
    unfold Zt.rgt
    cases z.f with
    | none => rfl
    | some c => cases z.own B <;> rfl
  rw [rg, show (h ++ [MO.ins n_Page []]).length = h.length + 1 by simp] at pg
  refine ⟨h', ?_, pg, by rw [pl]; simp, fun j o ej => fr j o (by rw [List.getElem?_append_left (get_lt ej)]; exact ej) (by have := get_lt ej; omega)⟩
  have tl : (if z.own B then [0] else [] : List Int).map MV.int = (if z.own B then [.int 0] else []) := by cases z.own B <;> rfl
  rw [tl] at pi
  have s3 : (sRet (eMake n_Page 2 m_Page___init__ (aCons (eTup (aCons (eVar 3) (aCons (eFld [n_Stand] f_following (eVar 0)) (aCons (eIf (tVal (eVar 2)) (eTup (aCons (eC (.int 0)) (aNil))) (eTup (aNil))) (aNil))))) (aNil)))) (P4 i B (some (.bl (z.own B))) (some (.str z.lft))) h = .rt (.ref h.length) h' := by
    cases ho : z.own B with
    | false =>
      rw [ho] at pi
      simp only [Bool.false_eq_true, if_false] at pi
      simp [e', gF, szs, pi]
    | true =>
      rw [ho] at pi
      simp only [if_true] at pi
      simp [e', gF, szs, pi]
  show (match b_Stand_page_by (P4 i B none none) h with
    | .rt v h' => R.ok v h'
    | .nx _ h' => .ok .non h'
    | .err e _ h' => .err e h'
    | _ => .stuck) = _
  unfold b_Stand_page_by
  rw [sSeq_ap, s0]
  simp only
  rw [sSeq_ap, s1]
  simp only
  rw [sSeq_ap, s2]
  simp only
  rw [s3]
end
end GXk22

end
section
namespace GXk22
open PySem L2 MP MP.Pg MP.Le MP.Ld
section
variable {B C : Bk} {z : Zt} {h : MH} {i : Nat}
theorem deed_ok (y : Ky) (e : h[i]? = some z.ob) : m_Stand_deed [.ref i, B.v, .str y.t] h = .ok (.str (deedS B z y)) h := by
  obtain ⟨h1, pb, p1, l1, f1⟩ := page_by_ok (B := B) (z := z) (h := [z.ob]) (i := 0) rfl
  have pb : m_Stand_page_by [.ref 0, B.v] [z.ob] = .ok (.ref 1) h1 := pb
  have p1 : PgAt h1 1 2 z.lft (z.rgt B) := p1
  have ll : z.lft.length + (z.rgt B).length ≤ 99999 := by
    have a : z.lft.length ≤ 3 := by
      unfold Zt.lft
      split
      · have := left_len z.b z.o; omega
      · have := left_len ‹Nat› ‹Bool›
        simp only [List.length_append, List.length_cons, List.length_nil]
        rename_i c b o _
        have := left_len b o
        omega
    have b : (z.rgt B).length ≤ 1 := by
      unfold Zt.rgt
      split <;> simp
    omega
  obtain ⟨h2, k2, pr, p2, _, f2⟩ := press_ok p1 ll B y
  rw [← pp_eq] at pr
  have z1 : h1[0]? = some z.ob := f1 0 _ rfl
  have z2 : h2[0]? = some z.ob := f2 0 _ z1 (by omega) (by omega)
  have z1' : h1[0]? = some (.ins n_Stand z.fs) := z1
  have z2' : h2[0]? = some (.ins n_Stand z.fs) := z2
  have g1 : h1[1]? = some (.ins n_Page [(f_left, .str z.lft), (f_right, .ref 2)]) := p1.pg
  have g2 : h2[1]? = some (.ins n_Page [(f_left, .str (pressS B z.lft (z.rgt B) y).1), (f_right, .ref k2)]) := p2.pg
  have nf : noF x_press [(f_left, MV.str z.lft), (f_right, MV.ref 2)] = true := rfl
  have gr : ∀ l : CP, getF f_right [(f_left, MV.str l), (f_right, MV.ref k2)] = some (.ref k2) := fun _ => rfl
  have ln1 : mLen [.ref k2] h2 = some (.int ((pressS B z.lft (z.rgt B) y).2.length : Int), h2) := by
    have := p2.ls
    simp [mLen, this, rtV]
  have ln2 : mLen [.str (fV z.f)] h2 = some (.int ((fV z.f).length : Int), h2) := by
    have : (fV z.f).length ≤ sizeLine := by rw [szs]; cases z.f <;> simp [fV]
    simp [mLen, this]
  have nfp : noF x_page_by z.fs = true := rfl
  have run : runFn 4 b_Stand_deed [.ref 0, B.v, .str y.t] [z.ob] = .ok (.str (deedS B z y)) h2 := by
    have sl : [MV.ref 0, B.v, .str y.t].map some ++ List.replicate (4 - [MV.ref 0, B.v, .str y.t].length) none = [some (.ref 0), some B.v, some (.str y.t), none] := rfl
    rw [runFn_ap, sl]
    unfold deedS
    generalize (pressS B z.lft (z.rgt B) y).2.length = N at *
    generalize (pressS B z.lft (z.rgt B) y).1 = L at *
    generalize (fV z.f).length = M at *
    generalize B.v = V at *
    generalize y.t = Y at *
    have o0 : ([z.ob] : MH)[0]? = some (.ins n_Stand z.fs) := rfl
    have a0 : (eMeth n_Stand x_page_by 2 m_Stand_page_by (eVar 0) (aCons (eVar 1) (aNil))) [some (.ref 0), some V, some (.str Y), none] [z.ob] = .ok (.ref 1) h1 := by
      simp [Zt.ob, nfp]
      exact pb
    have s0 : (sAsg (eMeth n_Stand x_page_by 2 m_Stand_page_by (eVar 0) (aCons (eVar 1) (aNil))) (gNm 3)) [some (.ref 0), some V, some (.str Y), none] [z.ob] = .nx [some (.ref 0), some V, some (.str Y), some (.ref 1)] h1 := by
      rw [sAsg_ap, a0]; rfl
    have s1 : (sExpr (eMeth n_Page x_press 3 m_Page_press (eVar 3) (aCons (eVar 1) (aCons (eVar 2) (aNil))))) [some (.ref 0), some V, some (.str Y), some (.ref 1)] h1 = .nx [some (.ref 0), some V, some (.str Y), some (.ref 1)] h2 := by
      simp [g1, nf, pr]
    unfold b_Stand_deed
    rw [sSeq_ap, s0]
    simp only
    rw [sSeq_ap, s1]
    have gt : mGt (.int (N : Int)) (.int (M : Int)) h2 = some (.bl (decide ((M : Int) < (N : Int))), h2) := rfl
    by_cases hm : N = M
    · subst hm
      simp [g2, gr, ln1, z2', gF, ln2, v_PLAIN]
    · have hm' : ¬ (N : Int) = (M : Int) := by omega
      by_cases hg : M < N
      · have hg' : (M : Int) < (N : Int) := by omega
        simp [g2, gr, ln1, z2', gF, ln2, v_PUT, hm, hm', gt, hg, hg']
      · have hg' : ¬ (M : Int) < (N : Int) := by omega
        simp [g2, gr, ln1, z2', gF, ln2, v_OVER, hm, hm', gt, hg, hg']
  have bl : belowL 0 [B.v, .str y.t] = true := by simp [belowL, below, Bk.v]
  have e' : h[i]? = some (.ins n_Stand z.fs) := e
  obtain ⟨t, ht⟩ : ∃ t, h2 = .ins n_Stand z.fs :: t := by
    cases h2 with
    | nil => simp at z2'
    | cons o t => simp at z2'; exact ⟨t, by rw [z2']⟩
  rw [ht] at run
  unfold m_Stand_deed
  simp only [soloV, e', bel_fs, bl, Bool.and_self, if_true]
  rw [show ([MO.ins n_Stand z.fs] : MH) = [z.ob] from rfl, run]
  simp only [soloR, below, beq_self_eq_true, Bool.and_self, if_true, eq_fs]
theorem both_ok (y : Ky) (e : h[i]? = some z.ob) : m_deed_of_both [B.v, C.v, .ref i, .str y.t] h = .ok (.str (if deedS C z y = deedS B z y then deedS B z y else [])) h := by
  have d1 := deed_ok (B := B) y e
  have d2 := deed_ok (B := C) y e
  have e' : h[i]? = some (.ins n_Stand z.fs) := e
  have nf : noF x_deed z.fs = true := rfl
  generalize deedS B z y = D1 at *
  generalize deedS C z y = D2 at *
  generalize B.v = V at *
  generalize C.v = V2 at *
  generalize y.t = Y at *
  by_cases q : D2 = D1
  · subst q
    simp [m_deed_of_both, b_deed_of_both, e', nf, d1, d2]
  · simp [m_deed_of_both, b_deed_of_both, e', nf, d1, d2, q]
end
end GXk22

end
section
namespace GXk22
open PySem L2 MP MP.Pg MP.Le MP.Ld
def struck : List Nat := [40, 91, 41, 93, 39, 32, 47, 97]
def kindB (c : Nat) : Nat := if letter c then 97 else if c = 39 then 39 else 32
def oddB (o : Bool) (c : Nat) : Bool := (o != (c == 39)) && c != 47
abbrev Ah := Nat × Bool × Option (Nat × Nat × Bool)
def ahV (a : Ah) : MV := .tup [.str [a.1], .bl a.2.1, hV a.2.2]
def behS (z : Zt) (y : Ky) (sl : Bool) : Ah := match y with
  | .sg c => (kindB c, oddB z.o c, if sl then some (c, z.b, z.o) else none)
  | _ => match z.h with
    | some (_, b, o) => (b, o, none)
    | none => (z.b, z.o, none)
def Can (z : Zt) (y : Ky) : Prop := match z.h with
  | some _ => y = .back
  | none => ∃ c ∈ struck, y = .sg c
section
variable {z : Zt} {h : MH} {i : Nat}
theorem kind_ok {c : Nat} (hc : c ∈ struck) (g : MH) : m_kind_before [.str [c]] g = .ok (.str [kindB c]) g := by
  simp only [struck, List.mem_cons, List.not_mem_nil, or_false] at hc
  rcases hc with rfl | rfl | rfl | rfl | rfl | rfl | rfl | rfl <;> rfl
theorem ahead_ok {c : Nat} (hc : c ∈ struck) (e : h[i]? = some z.ob) : m_Stand_ahead [.ref i, .str [c]] h = .ok (.tup [.str [kindB c], .bl (oddB z.o c)]) h := by
  have k := kind_ok hc h
  have e' : h[i]? = some (.ins n_Stand z.fs) := e
  have q1 : mEqv (.str [c]) v_QUOTE h = some (c == 39) := by
    show some ([c] == [39]) = _
    simp only [struck, List.mem_cons, List.not_mem_nil, or_false] at hc
    rcases hc with rfl | rfl | rfl | rfl | rfl | rfl | rfl | rfl <;> rfl
  have q2 : mEqv (.str [c]) v_LINE h = some (c == 47) := by
    show some ([c] == [47]) = _
    simp only [struck, List.mem_cons, List.not_mem_nil, or_false] at hc
    rcases hc with rfl | rfl | rfl | rfl | rfl | rfl | rfl | rfl <;> rfl
  have q3 : mEqv (.bl z.o) (.bl (c == 39)) h = some (z.o == (c == 39)) := by
    cases z.o <;> cases (c == 39) <;> rfl
  generalize kindB c = K at *
  unfold oddB
  cases hb : (z.o == (c == 39)) with
  | true =>
    rw [hb] at q3
    have : (z.o != (c == 39)) = false := by simp only [bne, hb, Bool.not_true]
    rw [this]
    simp [m_Stand_ahead, b_Stand_ahead, e', gO, q1, q3, k, szs]
  | false =>
    rw [hb] at q3
    have : (z.o != (c == 39)) = true := by simp only [bne, hb, Bool.not_false]
    rw [this]
    simp [m_Stand_ahead, b_Stand_ahead, e', gO, q1, q2, q3, k, szs, bne]
theorem ahead_behind_ok {y : Ky} (hy : Can z y) (sl : Bool) (e : h[i]? = some z.ob) : m_Stand_ahead_behind [.ref i, .str y.t, .bl sl] h = .ok (ahV (behS z y sl)) h := by
  have e' : h[i]? = some (.ins n_Stand z.fs) := e
  unfold Can at hy
  cases hh : z.h with
  | some q =>
    rw [hh] at hy
    simp only at hy
    subst hy
    obtain ⟨c, b, o⟩ := q
    have i1 : mIx (.tup [.str [c], .str [b], .bl o]) (.int 1) h = some (.str [b], h) := rfl
    have i2 : mIx (.tup [.str [c], .str [b], .bl o]) (.int 2) h = some (.bl o, h) := rfl
    have gh := gH z
    rw [hh] at gh
    simp [m_Stand_ahead_behind, b_Stand_ahead_behind, Ky.t, v_BACK, e', gh, i1, i2, szs, behS, hh, ahV, hV]
  | none =>
    rw [hh] at hy
    simp only at hy
    obtain ⟨c, hc, rfl⟩ := hy
    have a := ahead_ok hc e
    have nb : ¬ ([c] : CP) = [98, 97, 99, 107] := by simp
    have nf : noF x_ahead z.fs = true := rfl
    simp only [behS]
    generalize kindB c = K at *
    generalize oddB z.o c = O at *
    cases sl with
    | true => simp [m_Stand_ahead_behind, b_Stand_ahead_behind, Ky.t, v_BACK, e', nf, a, gB, gO, szs, ahV, hV]
    | false => simp [m_Stand_ahead_behind, b_Stand_ahead_behind, Ky.t, v_BACK, e', nf, a, szs, ahV, hV]
def strikesS (z : Zt) (sl : Bool) : List (Ky × Bool) := match z.h with
  | some _ => [(.back, false)]
  | none => struck.map (fun c => (.sg c, false)) ++ (if sl then struck.map (fun c => (.sg c, true)) else [])
def stkV (x : Ky × Bool) : MV := .tup [.str x.1.t, .bl x.2]
theorem strikes_ok (sl : Bool) (e : h[i]? = some z.ob) : m_Stand_strikes [.ref i, .bl sl] h = .ok (.lv ((strikesS z sl).map stkV)) h := by
  have e' : h[i]? = some (.ins n_Stand z.fs) := e
  have gh := gH z
  unfold strikesS
  cases hh : z.h with
  | some q =>
    obtain ⟨c, b, o⟩ := q
    rw [hh] at gh
    have q : mEqv (hV (some (c, b, o))) (.tup []) h = some false := rfl
    simp [m_Stand_strikes, b_Stand_strikes, e', gh, q, szs, stkV, Ky.t, v_BACK]
  | none =>
    rw [hh] at gh
    have q : mEqv (hV none) (.tup []) h = some true := rfl
    cases sl with
    | true =>
      simp [m_Stand_strikes, b_Stand_strikes, e', gh, q]
      rfl
    | false =>
      simp [m_Stand_strikes, b_Stand_strikes, e', gh, q]
      rfl
theorem strikes_can {sl : Bool} : ∀ x ∈ strikesS z sl, Can z x.1 ∧ (x.2 = true → sl = true) := fun x hx => by
  unfold strikesS at hx
  unfold Can
  cases hh : z.h with
  | some q =>
    rw [hh] at hx
    simp only [List.mem_cons, List.not_mem_nil, or_false] at hx
    subst hx
    exact ⟨rfl, fun z => by cases z⟩
  | none =>
    rw [hh] at hx
    simp only [List.mem_append, List.mem_map] at hx
    rcases hx with ⟨c, hc, rfl⟩ | hx
    · exact ⟨⟨c, hc, rfl⟩, fun z => by cases z⟩
    · cases sl with
      | false => simp at hx
      | true =>
        simp only [if_true, List.mem_map] at hx
        obtain ⟨c, hc, rfl⟩ := hx
        exact ⟨⟨c, hc, rfl⟩, fun _ => rfl⟩
end
end GXk22

end
section
namespace GXk22
open PySem L2 MP MP.Pg MP.Le MP.Ld
structure KF {α : Type} [DecidableEq α] (kf : α → MV) : Prop where
  ky : ∀ a, isKy (kf a) = true
  eq : ∀ a b, kEqQ (kf a) (kf b) = decide (a = b)
  tu : ∀ a, ∃ l, kf a = .tup l
section
variable {α β : Type} [DecidableEq α] {kf : α → MV} {f : α × β → MV} {L : List (α × β)} {h : MH} {n : Nat} {a : α}
def dE (kf : α → MV) (f : α × β → MV) (L : List (α × β)) : List (MV × MV) := L.map fun x => (kf x.1, f x)
theorem dE_len : (dE kf f L).length = L.length := by simp [dE]
theorem dE_app (L M : List (α × β)) : dE kf f (L ++ M) = dE kf f L ++ dE kf f M := by simp [dE]
theorem kG_none (K : KF kf) : ∀ {L : List (α × β)}, a ∉ L.map (·.1) → kGet (kf a) (dE kf f L) = none
  | [], _ => rfl
  | x :: L, ha => by
    simp only [List.map_cons, List.mem_cons, not_or] at ha
    have ih := kG_none K ha.2
    unfold dE at ih ⊢
    simp only [List.map_cons, kGet, K.eq, decide_eq_true_eq, if_neg (Ne.symm ha.1)]
    exact ih
theorem kG_some (K : KF kf) : ∀ {L : List (α × β)} {x : α × β}, (L.map (·.1)).Nodup → x ∈ L → kGet (kf x.1) (dE kf f L) = some (f x)
  | y :: L, x, nd, hx => by
    simp only [List.map_cons, List.nodup_cons] at nd
    by_cases e : y.1 = x.1
    · have : y = x := by
        rcases List.mem_cons.mp hx with z | z
        · exact z.symm
        · exact absurd (List.mem_map.mpr ⟨x, z, e.symm⟩) nd.1
      subst this
      simp only [dE, List.map_cons, kGet, K.eq, decide_true, if_true]
    · have hx' : x ∈ L := by
        rcases List.mem_cons.mp hx with z | z
        · exact absurd (by rw [z]) e
        · exact z
      have ih := kG_some K nd.2 hx'
      unfold dE at ih ⊢
      simp only [List.map_cons, kGet, K.eq, decide_eq_true_eq, if_neg e]
      exact ih
theorem inE (K : KF kf) (e : h[n]? = some (.dT (dE kf f L))) (a : α) : mInB (kf a) (.ref n) h = some (decide (a ∈ L.map (·.1))) := by
  have l0 : lstAt h n = none := by simp [lstAt, e]
  have d0 : dtAt h n = some (dE kf f L) := by simp [dtAt, e]
  have ky := K.ky a
  by_cases ha : a ∈ L.map (·.1)
  · obtain ⟨y, hy, ey⟩ := List.mem_map.mp ha
    have q : (kGet (kf a) (dE kf f L)).isSome = true := by
      have : ∀ {L : List (α × β)}, y ∈ L → (kGet (kf y.1) (dE kf f L)).isSome = true := by
        intro L
        induction L with
        | nil => intro z; cases z
        | cons x L ih =>
          intro hz
          simp only [dE, List.map_cons, kGet, K.eq, decide_eq_true_eq]
          by_cases e : x.1 = y.1
          · rw [if_pos e]; rfl
          · rw [if_neg e]
            rcases List.mem_cons.mp hz with z | z
            · exact absurd (by rw [z]) e
            · exact ih z
      have z := this hy
      rw [ey] at z
      exact z
    obtain ⟨l, hl⟩ := K.tu a
    rw [decide_eq_true ha]
    rw [hl] at q ky ⊢
    simp only [mInB, l0, d0, ky, if_true, q]
  · have q := kG_none (f := f) K ha
    obtain ⟨l, hl⟩ := K.tu a
    rw [decide_eq_false ha]
    rw [hl] at q ky ⊢
    simp only [mInB, l0, d0, ky, if_true, q]
    rfl
theorem inE_t (K : KF kf) (e : h[n]? = some (.dT (dE kf f L))) (ha : a ∈ L.map (·.1)) : mInB (kf a) (.ref n) h = some true := by rw [inE K e a, decide_eq_true ha]
theorem inE_f (K : KF kf) (e : h[n]? = some (.dT (dE kf f L))) (ha : a ∉ L.map (·.1)) : mInB (kf a) (.ref n) h = some false := by rw [inE K e a, decide_eq_false ha]
theorem ixE (K : KF kf) (e : h[n]? = some (.dT (dE kf f L))) (nd : (L.map (·.1)).Nodup) {x : α × β} (hx : x ∈ L) : mIx (.ref n) (kf x.1) h = some (f x, h) := by
  have l0 : lstAt h n = none := by simp [lstAt, e]
  have d0 : dtAt h n = some (dE kf f L) := by simp [dtAt, e]
  have ky := K.ky x.1
  have q := kG_some (f := f) K nd hx
  obtain ⟨l, hl⟩ := K.tu x.1
  rw [hl] at q ky ⊢
  simp only [mIx, l0, d0, ky, if_true, q, Option.map_some]
theorem kP_new (K : KF kf) (v : MV) (ha : a ∉ L.map (·.1)) : kPut (kf a) v (dE kf f L) = dE kf f L ++ [(kf a, v)] := by
  unfold kPut
  rw [kG_none K ha]
  simp
theorem setE (K : KF kf) (v : MV) (e : h[n]? = some (.dT (dE kf f L))) (ha : a ∉ L.map (·.1)) (hl : L.length < 16777216) : mSet (.ref n) (kf a) v h = some (h.set n (.dT (dE kf f L ++ [(kf a, v)]))) := by
  have c : (isKy (kf a) && decide ((dE kf f L).length < sizeLine)) = true := by
    rw [K.ky, Bool.true_and, decide_eq_true_eq, szs, dE_len]
    exact hl
  simp only [mSet, e, c, if_true, kP_new K v ha]
theorem sdE_old (K : KF kf) (d : MV) (e : h[n]? = some (.dT (dE kf f L))) (nd : (L.map (·.1)).Nodup) {x : α × β} (hx : x ∈ L) (hl : L.length < 16777216) : mSetd (.ref n) [kf x.1, d] h = some (f x, h) := by
  have c : (isKy (kf x.1) && decide ((dE kf f L).length < sizeLine)) = true := by
    rw [K.ky, Bool.true_and, decide_eq_true_eq, szs, dE_len]
    exact hl
  have q := kG_some (f := f) K nd hx
  simp only [mSetd, e, c, if_true, q]
theorem sdE_new (K : KF kf) (d : MV) (e : h[n]? = some (.dT (dE kf f L))) (ha : a ∉ L.map (·.1)) (hl : L.length < 16777216) : mSetd (.ref n) [kf a, d] h = some (d, h.set n (.dT (dE kf f L ++ [(kf a, d)]))) := by
  have c : (isKy (kf a) && decide ((dE kf f L).length < sizeLine)) = true := by
    rw [K.ky, Bool.true_and, decide_eq_true_eq, szs, dE_len]
    exact hl
  simp only [mSetd, e, c, if_true, kG_none K ha, kP_new K d ha]
theorem gtE_old (K : KF kf) (d : MV) (e : h[n]? = some (.dT (dE kf f L))) (nd : (L.map (·.1)).Nodup) {x : α × β} (hx : x ∈ L) : mGetD (.ref n) [kf x.1, d] h = some (f x, h) := by
  have d0 : dtAt h n = some (dE kf f L) := by simp [dtAt, e]
  have q := kG_some (f := f) K nd hx
  simp only [mGetD, d0, K.ky, if_true, q, Option.getD_some]
theorem gtE_new (K : KF kf) (d : MV) (e : h[n]? = some (.dT (dE kf f L))) (ha : a ∉ L.map (·.1)) : mGetD (.ref n) [kf a, d] h = some (d, h) := by
  have d0 : dtAt h n = some (dE kf f L) := by simp [dtAt, e]
  simp only [mGetD, d0, K.ky, if_true, kG_none K ha, Option.getD_none]
end
theorem kD_h (x : Option (Nat × Nat × Bool)) : kD (hV x) = some 1 := by
  cases x with
  | none => rfl
  | some q => rfl
theorem kEq_h (x y : Option (Nat × Nat × Bool)) : kEq (hV x) (hV y) = decide (x = y) := by
  cases x with
  | none => cases y with
    | none => rfl
    | some q => rfl
  | some p => cases y with
    | none => rfl
    | some q =>
      obtain ⟨c, b, o⟩ := p
      obtain ⟨c', b', o'⟩ := q
      rw [Bool.eq_iff_iff]
      simp [hV, kEq, kEqs]
theorem fV_inj (x y : Option Nat) : (fV x == fV y) = decide (x = y) := by
  rw [Bool.eq_iff_iff]
  cases x <;> cases y <;> simp [fV]
theorem kEq_v (z w : Zt) : kEq z.v w.v = decide (z = w) := by
  obtain ⟨b, o, f, p, a, h⟩ := z
  obtain ⟨b', o', f', p', a', h'⟩ := w
  rw [Bool.eq_iff_iff]
  simp [Zt.v, kEq, kEqs, kEq_h]
  have := fV_inj f f'
  rw [Bool.eq_iff_iff] at this
  simp at this
  rw [this]
  intros
  exact Iff.rfl
theorem kD_v (z : Zt) : kD z.v = some 2 := by
  unfold Zt.v
  simp only [kD, kDs, kD_h, Option.map_some]
  rfl
theorem kf_v : KF Zt.v := ⟨fun z => by
  have := kD_v z
  unfold Zt.v at this ⊢
  simp only [isKy, this]
  rfl, fun z w => by rw [kEqQ_eq, kEq_v], fun z => ⟨_, rfl⟩⟩
def lvV : Option Zt → MV
  | none => .str []
  | some z => z.v
abbrev Pl := Option Zt × Zt
def plV (p : Pl) : MV := .tup [lvV p.1, p.2.v]
theorem kEq_lv (x y : Option Zt) : kEq (lvV x) (lvV y) = decide (x = y) := by
  cases x with
  | none => cases y with
    | none => rfl
    | some w => rfl
  | some z => cases y with
    | none => rfl
    | some w => 
      show kEq z.v w.v = _
      rw [kEq_v]
      simp
theorem kf_pl : KF plV := ⟨fun p => by
  have h1 := kD_v p.2
  have h2 : ∃ d, kD (lvV p.1) = some d ∧ d ≤ 2 := by
    cases p.1 with
    | none => exact ⟨0, rfl, by omega⟩
    | some z => exact ⟨2, kD_v z, by omega⟩
  obtain ⟨d, e, hd⟩ := h2
  unfold plV
  simp only [isKy, kD, kDs, e, h1, Option.map_some, decide_eq_true_eq]
  omega, fun p q => by
  rw [kEqQ_eq]
  obtain ⟨a, b⟩ := p
  obtain ⟨c, d⟩ := q
  rw [Bool.eq_iff_iff]
  simp [plV, kEq, kEqs, kEq_lv, kEq_v], fun p => ⟨_, rfl⟩⟩
instance : DecidableEq Ah := fun a b => (inferInstance : DecidableEq (Nat × Bool × Option (Nat × Nat × Bool))) a b
abbrev Ag := Ah × Bool
def agV (a : Ag) : MV := .tup [.str [a.1.1], .bl a.1.2.1, .bl a.2, hV a.1.2.2]
theorem kf_ag : KF agV := ⟨fun a => by
  unfold agV
  simp only [isKy, kD, kDs, kD_h, Option.map_some, decide_eq_true_eq]
  omega, fun p q => by
  rw [kEqQ_eq]
  obtain ⟨⟨a, b, c⟩, d⟩ := p
  obtain ⟨⟨a', b', c'⟩, d'⟩ := q
  rw [Bool.eq_iff_iff]
  simp [agV, kEq, kEqs, kEq_h]
  exact ⟨fun ⟨h1, h2, h3, h4⟩ => ⟨⟨h1, h2, h4⟩, h3⟩, fun ⟨⟨h1, h2, h4⟩, h3⟩ => ⟨h1, h2, h3, h4⟩⟩, fun a => ⟨_, rfl⟩⟩
abbrev Dk := Zt × CP
def dkV (d : Dk) : MV := .tup [d.1.v, .str d.2]
theorem kf_dk : KF dkV := ⟨fun a => by
  have h1 := kD_v a.1
  unfold dkV
  simp only [isKy, kD, kDs, h1, Option.map_some, decide_eq_true_eq]
  omega, fun p q => by
  rw [kEqQ_eq]
  obtain ⟨a, b⟩ := p
  obtain ⟨c, d⟩ := q
  rw [Bool.eq_iff_iff]
  simp [dkV, kEq, kEqs, kEq_v], fun p => ⟨_, rfl⟩⟩
end GXk22

end
section
namespace GXk22
open PySem L2 MP MP.Pg MP.Le MP.Ld
theorem nd_le {α : Type} [DecidableEq α] : ∀ {l U : List α}, l.Nodup → (∀ x ∈ l, x ∈ U) → l.length ≤ U.length
  | [], _, _, _ => Nat.zero_le _
  | x :: l, U, nd, h => by
    rw [List.nodup_cons] at nd
    have hx := h x List.mem_cons_self
    have ih := nd_le (l := l) (U := U.erase x) nd.2 fun y hy => (List.mem_erase_of_ne (fun e => nd.1 (by rw [← e]; exact hy))).mpr (h y (List.mem_cons_of_mem _ hy))
    rw [List.length_erase_of_mem hx] at ih
    have : 0 < U.length := List.length_pos_of_mem hx
    rw [List.length_cons]
    omega
def bs3 : List Nat := [32, 39, 97]
def fs6 : List (Option Nat) := [none, some 32, some 41, some 93, some 39, some 97]
def hs49 : List (Option (Nat × Nat × Bool)) := none :: struck.flatMap fun c => bs3.flatMap fun b => [some (c, b, true), some (c, b, false)]
structure Ty (z : Zt) : Prop where
  b : z.b ∈ bs3
  f : z.f ∈ fs6
  h : z.h ∈ hs49
def bo2 : List Bool := [true, false]
theorem mem_bo (b : Bool) : b ∈ bo2 := by cases b <;> simp [bo2]
def zts : List Zt := bs3.flatMap fun b => bo2.flatMap fun o => fs6.flatMap fun f => bo2.flatMap fun p => bo2.flatMap fun a => hs49.map fun h => ⟨b, o, f, p, a, h⟩
theorem mem_zts {z : Zt} (t : Ty z) : z ∈ zts := by
  unfold zts
  refine List.mem_flatMap.mpr ⟨z.b, t.b, List.mem_flatMap.mpr ⟨z.o, mem_bo _, List.mem_flatMap.mpr ⟨z.f, t.f, List.mem_flatMap.mpr ⟨z.p, mem_bo _, List.mem_flatMap.mpr ⟨z.a, mem_bo _, List.mem_map.mpr ⟨z.h, t.h, rfl⟩⟩⟩⟩⟩⟩
theorem zts_len : zts.length = 7056 := by decide +kernel
def LvOk : Option Zt → Prop
  | none => True
  | some F => Ty F ∧ F.p = true ∧ F.a = false ∧ F.f ∈ [some 41, some 93, some 39]
def lvs : List (Option Zt) := none :: bs3.flatMap fun b => bo2.flatMap fun o => [some 41, some 93, some 39].flatMap fun f => hs49.map fun h => some ⟨b, o, f, true, false, h⟩
theorem mem_lvs : ∀ {l : Option Zt}, LvOk l → l ∈ lvs
  | none, _ => List.mem_cons_self
  | some ⟨b, o, f, p, a, h⟩, ⟨t, hp, ha, hf⟩ => by
    simp only at hp ha hf
    subst hp ha
    exact List.mem_cons_of_mem _ (List.mem_flatMap.mpr ⟨b, t.b, List.mem_flatMap.mpr ⟨o, mem_bo _, List.mem_flatMap.mpr ⟨f, hf, List.mem_map.mpr ⟨h, t.h, rfl⟩⟩⟩⟩)
theorem lvs_len : lvs.length = 883 := by decide +kernel
def pls : List Pl := lvs.flatMap fun l => zts.map fun z => (l, z)
theorem len_fm {α β : Type} {f : α → List β} {n : Nat} : ∀ {l : List α}, (∀ x, (f x).length = n) → (l.flatMap f).length = l.length * n
  | [], _ => by simp
  | x :: l, h => by
    rw [List.flatMap_cons, List.length_append, h, len_fm h, List.length_cons, Nat.add_mul]
    omega
theorem pls_len : pls.length = 6230448 := by
  unfold pls
  rw [len_fm (n := 7056) fun l => by rw [List.length_map, zts_len], lvs_len]
theorem pl_bound {l : List Pl} (nd : l.Nodup) (h : ∀ p ∈ l, Ty p.2 ∧ LvOk p.1) : l.length ≤ 6230448 := by
  rw [← pls_len]
  exact nd_le nd fun p hp => List.mem_flatMap.mpr ⟨p.1, mem_lvs (h p hp).2, List.mem_map.mpr ⟨p.2, mem_zts (h p hp).1, rfl⟩⟩
theorem lv_bound {l : List Zt} (nd : l.Nodup) (h : ∀ p ∈ l, LvOk (some p)) : l.length ≤ 7056 := by
  rw [← zts_len]
  exact nd_le nd fun p hp => mem_zts (h p hp).1
structure TyA (a : Ag) : Prop where
  b : a.1.1 ∈ bs3
  h : a.1.2.2 ∈ hs49
def ags : List Ag := bs3.flatMap fun b => bo2.flatMap fun o => hs49.flatMap fun h => bo2.map fun a => ((b, o, h), a)
theorem ags_len : ags.length = 588 := by decide +kernel
theorem ag_bound {l : List Ag} (nd : l.Nodup) (h : ∀ p ∈ l, TyA p) : l.length ≤ 588 := by
  rw [← ags_len]
  exact nd_le nd fun p hp => List.mem_flatMap.mpr ⟨p.1.1, (h p hp).b, List.mem_flatMap.mpr ⟨p.1.2.1, mem_bo _, List.mem_flatMap.mpr ⟨p.1.2.2, (h p hp).h, List.mem_map.mpr ⟨p.2, mem_bo _, rfl⟩⟩⟩⟩
def kts : List CP := kBack :: struck.map fun c => [c]
def dks : List Dk := zts.flatMap fun z => kts.map fun k => (z, k)
theorem dk_bound {l : List Dk} (nd : l.Nodup) (h : ∀ p ∈ l, Ty p.1 ∧ p.2 ∈ kts) : l.length ≤ 63504 := by
  have e : dks.length = 63504 := by
    unfold dks
    rw [len_fm (n := 9) fun l => by rw [List.length_map]; rfl, zts_len]
  rw [← e]
  exact nd_le nd fun p hp => List.mem_flatMap.mpr ⟨p.1, mem_zts (h p hp).1, List.mem_map.mpr ⟨p.2, (h p hp).2, rfl⟩⟩
def bareS (z : Zt) (a : Ag) : Zt := ⟨a.1.1, a.1.2.1, z.f, z.p, (z.a || a.2) && z.p, a.1.2.2⟩
def restsS (bh : Bool) : List (Option Nat) := if bh then fs6 else [none]
def clS : Ky → Option Nat
  | .sg c => closerN c
  | _ => none
structure Cl (B C : Bk) (sl bh : Bool) (J : Zt → Prop) : Prop where
  ty : ∀ z, J z → Ty z
  same : ∀ z y s, J z → (y, s) ∈ strikesS z sl → deedS C z y = deedS B z y
  root : ∀ r ∈ restsS bh, J ⟨32, false, r, false, false, none⟩
  plain : ∀ z y s, J z → (y, s) ∈ strikesS z sl → deedS B z y = wPlain → J ⟨(behS z y s).1, (behS z y s).2.1, z.f, z.p, z.a || (y.t == [47]), (behS z y s).2.2⟩
  put : ∀ z y s, J z → (y, s) ∈ strikesS z sl → deedS B z y = wPut → (∃ c ∈ struck, y = .sg c) ∧ J ⟨(behS z y s).1, (behS z y s).2.1, clS y, true, false, (behS z y s).2.2⟩ ∧ clS y ∈ [some 41, some 93, some 39]
  rest : ∀ z y s, J z → (y, s) ∈ strikesS z sl → deedS B z y = wOver → z.p = false → ∀ r ∈ restsS bh, J ⟨(behS z y s).1, (behS z y s).2.1, r, false, false, (behS z y s).2.2⟩
  bare : ∀ z y s, J z → (y, s) ∈ strikesS z sl → deedS B z y = wOver → z.p = true → TyA (behS z y s, z.a) ∧ ∀ w, J w → J (bareS w (behS z y s, z.a))
inductive Ro where
  | fix | st (z : Zt) | cov | unc
structure Gh where
  R : List Ro
  KL : List (Pl × Unit)
  WL : List (Option Zt × Nat)
  DL : List (Dk × CP)
  CL : List (Zt × Nat)
  UL : List (Zt × Nat)
def Pok (J : Zt → Prop) (g : Gh) (p : Pl) : Prop := J p.2 ∧ LvOk p.1 ∧ (p.2.p = true → ∃ F j, p.1 = some F ∧ (F, j) ∈ g.CL)
def OkA (J : Zt → Prop) (a : Ag) : Prop := TyA a ∧ ∀ w, J w → J (bareS w a)
def wV (x : Option Zt × Nat) : MV := .tup [lvV x.1, .ref x.2]
def CovOk (J : Zt → Prop) (g : Gh) (o : Option MO) : Prop := ∃ EL : List (Pl × Nat), o = some (.dT (dE plV (fun x => .tup [lvV x.1.1, .ref x.2]) EL)) ∧ (EL.map (·.1)).Nodup ∧ ∀ x ∈ EL, Pok J g x.1 ∧ g.R[x.2]? = some (.st x.1.2)
def UncOk (J : Zt → Prop) (o : Option MO) : Prop := ∃ AL : List (Ag × Unit), o = some (.dT (dE agV (fun _ => .bl true) AL)) ∧ (AL.map (·.1)).Nodup ∧ ∀ x ∈ AL, OkA J x.1
def hdO (B C : Bk) (sl bh : Bool) : MO := .ins n_Heads [(f_books, .tup [B.v, C.v]), (f_flags, .tup [.bl sl, .bl bh]), (f_known, .ref 1), (f_uncovered, .ref 2), (f_covering, .ref 3), (f_waiting, .ref 4), (f_deeds, .ref 5), (f_is_unlike, .bl false)]
structure Hi (B C : Bk) (sl bh : Bool) (J : Zt → Prop) (g : Gh) (h : MH) : Prop where
  len : g.R.length = h.length
  fx : ∀ (i : Nat), i < 6 → g.R[i]? = some .fix
  o0 : h[0]? = some (hdO B C sl bh)
  o1 : h[1]? = some (.dT (dE plV (fun _ => .bl true) g.KL))
  o2 : h[2]? = some (.dT (dE Zt.v (fun x => .ref x.2) g.UL))
  o3 : h[3]? = some (.dT (dE Zt.v (fun x => .ref x.2) g.CL))
  o4 : h[4]? = some (.lst (g.WL.map wV))
  o5 : h[5]? = some (.dT (dE dkV (fun x => .str x.2) g.DL))
  nk : (g.KL.map (·.1)).Nodup
  pk : ∀ x ∈ g.KL, Pok J g x.1
  nu : (g.UL.map (·.1)).Nodup
  pu : ∀ x ∈ g.UL, LvOk (some x.1) ∧ g.R[x.2]? = some .unc
  nc : (g.CL.map (·.1)).Nodup
  pc : ∀ x ∈ g.CL, LvOk (some x.1) ∧ g.R[x.2]? = some .cov
  pw : ∀ x ∈ g.WL, ∃ z, g.R[x.2]? = some (.st z) ∧ Pok J g (x.1, z)
  lw : g.WL.length ≤ g.KL.length
  nd : (g.DL.map (·.1)).Nodup
  pd : ∀ x ∈ g.DL, J x.1.1 ∧ ∃ y s, (y, s) ∈ strikesS x.1.1 sl ∧ x.1.2 = y.t ∧ x.2 = deedS B x.1.1 y
  rs : ∀ (i : Nat) (z : Zt), g.R[i]? = some (.st z) → h[i]? = some z.ob
  rc : ∀ (i : Nat), g.R[i]? = some .cov → CovOk J g h[i]?
  ru : ∀ (i : Nat), g.R[i]? = some .unc → UncOk J h[i]?
structure Ext (g g' : Gh) : Prop where
  R : ∀ (i : Nat) (r : Ro), g.R[i]? = some r → g'.R[i]? = some r
  C : ∀ x ∈ g.CL, x ∈ g'.CL
theorem Ext.refl (g : Gh) : Ext g g := ⟨fun _ _ z => z, fun _ z => z⟩
theorem Ext.trans {a b c : Gh} (x : Ext a b) (y : Ext b c) : Ext a c := ⟨fun i r z => y.R i r (x.R i r z), fun i z => y.C i (x.C i z)⟩
theorem Pok.ext {J : Zt → Prop} {g g' : Gh} {p : Pl} (x : Ext g g') (k : Pok J g p) : Pok J g' p := ⟨k.1, k.2.1, fun z => let ⟨F, j, a, b⟩ := k.2.2 z; ⟨F, j, a, x.C _ b⟩⟩
theorem CovOk.ext {J : Zt → Prop} {g g' : Gh} {o : Option MO} (x : Ext g g') (k : CovOk J g o) : CovOk J g' o :=
  let ⟨EL, e, nd, p⟩ := k
  ⟨EL, e, nd, fun y hy => ⟨(p y hy).1.ext x, x.R _ _ (p y hy).2⟩⟩
def mu (g : Gh) : Nat := 2 * (6230448 - g.KL.length) + g.WL.length
end GXk22

end
section
namespace GXk22
open PySem L2 MP MP.Pg MP.Le MP.Ld
section
variable {B C : Bk} {sl bh : Bool} {J : Zt → Prop} {g : Gh} {h : MH}
theorem plV_fs (B C : Bk) (sl bh : Bool) : getF f_known [(f_books, .tup [B.v, C.v]), (f_flags, .tup [.bl sl, .bl bh]), (f_known, .ref 1), (f_uncovered, .ref 2), (f_covering, .ref 3), (f_waiting, .ref 4), (f_deeds, .ref 5), (f_is_unlike, .bl false)] = some (.ref 1) := rfl
theorem hd_at (H : Hi B C sl bh J g h) : h[0]? = some (.ins n_Heads [(f_books, .tup [B.v, C.v]), (f_flags, .tup [.bl sl, .bl bh]), (f_known, .ref 1), (f_uncovered, .ref 2), (f_covering, .ref 3), (f_waiting, .ref 4), (f_deeds, .ref 5), (f_is_unlike, .bl false)]) := H.o0
theorem Hi.six (H : Hi B C sl bh J g h) {i : Nat} {r : Ro} (e : g.R[i]? = some r) (hr : r ≠ .fix) : 6 ≤ i := by
  by_cases z : i < 6
  · have := H.fx i z
    rw [e] at this
    cases this
    exact absurd rfl hr
  · omega
theorem Hi.lt (H : Hi B C sl bh J g h) {i : Nat} {r : Ro} (e : g.R[i]? = some r) : i < h.length := by
  rw [← H.len]; exact get_lt e
theorem Hi.stand (H : Hi B C sl bh J g h) (z : Zt) : Hi B C sl bh J { g with R := g.R ++ [.st z] } (h ++ [z.ob]) ∧ Ext g { g with R := g.R ++ [.st z] } := by
  have old : ∀ (i : Nat) (r : Ro), g.R[i]? = some r → (g.R ++ [Ro.st z])[i]? = some r := fun i r e => by rw [List.getElem?_append_left (get_lt e)]; exact e
  have X : Ext g { g with R := g.R ++ [.st z] } := ⟨old, fun _ q => q⟩
  have ho : ∀ (i : Nat) (o : MO), h[i]? = some o → (h ++ [z.ob])[i]? = some o := fun i o e => by rw [List.getElem?_append_left (get_lt e)]; exact e
  have back : ∀ (i : Nat) (r : Ro), (g.R ++ [Ro.st z])[i]? = some r → g.R[i]? = some r ∨ (i = g.R.length ∧ r = .st z) := fun i r e => by
    by_cases q : i < g.R.length
    · rw [List.getElem?_append_left q] at e
      exact .inl e
    · rw [List.getElem?_append_right (by omega)] at e
      have : i - g.R.length = 0 := by
        have := get_lt e
        simp at this
        omega
      rw [this] at e
      cases e
      exact .inr ⟨by omega, rfl⟩
  refine ⟨⟨by simp [H.len], fun i hi => old _ _ (H.fx i hi), ho _ _ H.o0, ho _ _ H.o1, ho _ _ H.o2, ho _ _ H.o3, ho _ _ H.o4, ho _ _ H.o5, H.nk, fun x hx => (H.pk x hx).ext X, H.nu, fun x hx => ⟨(H.pu x hx).1, old _ _ (H.pu x hx).2⟩, H.nc, fun x hx => ⟨(H.pc x hx).1, old _ _ (H.pc x hx).2⟩, fun x hx => ?_, H.lw, H.nd, H.pd, fun i w e => ?_, fun i e => ?_, fun i e => ?_⟩, X⟩
  · obtain ⟨w, a, b⟩ := H.pw x hx
    exact ⟨w, old _ _ a, b.ext X⟩
  · rcases back i _ e with q | ⟨q, r⟩
    · exact ho _ _ (H.rs i w q)
    · cases r
      rw [q, H.len]
      simp
  · rcases back i _ e with q | ⟨q, r⟩
    · have := get_lt q
      rw [List.getElem?_append_left (by rw [← H.len]; exact this)]
      exact (H.rc i q).ext X
    · cases r
  · rcases back i _ e with q | ⟨q, r⟩
    · have := get_lt q
      rw [List.getElem?_append_left (by rw [← H.len]; exact this)]
      exact H.ru i q
    · cases r
theorem pk_len (H : Hi B C sl bh J g h) (cl : ∀ z, J z → Ty z) : g.KL.length ≤ 6230448 := by
  have := pl_bound H.nk fun p hp => by
    obtain ⟨x, hx, rfl⟩ := List.mem_map.mp hp
    exact ⟨cl _ (H.pk x hx).1, (H.pk x hx).2.1⟩
  rwa [List.length_map] at this
theorem come_ok (cl : ∀ z, J z → Ty z) (H : Hi B C sl bh J g h) {l : Option Zt} {i : Nat} {z : Zt} (hr : g.R[i]? = some (.st z)) (pk : Pok J g (l, z)) :
    ∃ g' h', m_Heads_come [.ref 0, lvV l, .ref i] h = .ok .non h' ∧ Hi B C sl bh J g' h' ∧ Ext g g' ∧ g'.R = g.R ∧ mu g' ≤ mu g := by
  have hd := hd_at H
  have es := H.rs i z hr
  have es' : h[i]? = some (.ins n_Stand z.fs) := es
  have ky := key_ok es
  have nf : noF x_key z.fs = true := rfl
  have gk := plV_fs B C sl bh
  have gw : getF f_waiting [(f_books, .tup [B.v, C.v]), (f_flags, .tup [.bl sl, .bl bh]), (f_known, .ref 1), (f_uncovered, .ref 2), (f_covering, .ref 3), (f_waiting, .ref 4), (f_deeds, .ref 5), (f_is_unlike, .bl false)] = some (.ref 4) := rfl
  have pe : plV (l, z) = .tup [lvV l, z.v] := rfl
  by_cases hm : (l, z) ∈ g.KL.map (·.1)
  · refine ⟨g, h, ?_, H, Ext.refl g, rfl, Nat.le_refl _⟩
    have inn := inE_t kf_pl H.o1 hm
    rw [pe] at inn
    generalize z.v = V at *
    generalize lvV l = LV at *
    generalize B.v = BV at *
    generalize C.v = CV at *
    simp [m_Heads_come, b_Heads_come, es', nf, ky, szs, hd, gk, inn]
  · have kl := pk_len H cl
    have wl := H.lw
    have inn := inE_f kf_pl H.o1 hm
    have st := setE kf_pl (.bl true) H.o1 hm (by omega)
    let h1 := h.set 1 (.dT (dE plV (fun _ => .bl true) g.KL ++ [(plV (l, z), .bl true)]))
    have h1_4 : h1[4]? = some (.lst (g.WL.map wV)) := by
      show (h.set 1 _)[4]? = _
      rw [List.getElem?_set_ne (by omega)]; exact H.o4
    have ap : mAppend (.ref 4) [.tup [lvV l, .ref i]] h1 = some (.non, h1.set 4 (.lst (g.WL.map wV ++ [.tup [lvV l, .ref i]]))) := by
      have c : (g.WL.map wV).length < sizeLine := by rw [List.length_map, szs]; omega
      simp only [mAppend, h1_4, c, if_true]
    have rc : isRcv .list (.ref 4) h1 = true := by simp [isRcv, lstAt, h1_4]
    have h1_0 : h1[0]? = some (.ins n_Heads [(f_books, .tup [B.v, C.v]), (f_flags, .tup [.bl sl, .bl bh]), (f_known, .ref 1), (f_uncovered, .ref 2), (f_covering, .ref 3), (f_waiting, .ref 4), (f_deeds, .ref 5), (f_is_unlike, .bl false)]) := by
      show (h.set 1 _)[0]? = _
      rw [List.getElem?_set_ne (by omega)]; exact hd
    let g' : Gh := { g with KL := g.KL ++ [((l, z), ())], WL := g.WL ++ [(l, i)] }
    have X : Ext g g' := ⟨fun _ _ q => q, fun _ q => q⟩
    have keep : ∀ (j : Nat), j ≠ 1 → j ≠ 4 → (h1.set 4 (.lst (g.WL.map wV ++ [.tup [lvV l, .ref i]])))[j]? = h[j]? := fun j a b => by
      rw [List.getElem?_set_ne (Ne.symm b)]
      show (h.set 1 _)[j]? = _
      rw [List.getElem?_set_ne (Ne.symm a)]
    have l4 : 4 < h.length := get_lt H.o4
    refine ⟨g', h1.set 4 (.lst (g.WL.map wV ++ [.tup [lvV l, .ref i]])), ?_, ⟨?_, H.fx, by rw [keep 0 (by omega) (by omega)]; exact H.o0, ?_, by rw [keep 2 (by omega) (by omega)]; exact H.o2, by rw [keep 3 (by omega) (by omega)]; exact H.o3, ?_, by rw [keep 5 (by omega) (by omega)]; exact H.o5, ?_, fun x hx => ?_, H.nu, H.pu, H.nc, H.pc, fun x hx => ?_, ?_, H.nd, H.pd, fun j w e => ?_, fun j e => ?_, fun j e => ?_⟩, X, rfl, ?_⟩
    · rw [pe] at inn st
      have stt : mSet (.ref 1) (.tup [lvV l, z.v]) (.bl true) h = some h1 := st
      generalize z.v = V at *
      generalize lvV l = LV at *
      generalize B.v = BV at *
      generalize C.v = CV at *
      have nk : [BV, CV] = [BV, CV] := rfl
      generalize h1.set 4 _ = h2 at *
      generalize h1 = H1 at *
      simp [m_Heads_come, b_Heads_come, es', nf, ky, szs, hd, gk, gw, inn, stt, h1_0, rc, ap]
    · rw [H.len, List.length_set]
      show _ = (h.set 1 _).length
      rw [List.length_set]
    · rw [List.getElem?_set_ne (by omega)]
      show (h.set 1 _)[1]? = _
      rw [List.getElem?_set_self (by omega), dE_app]
      rfl
    · rw [List.getElem?_set_self (by show 4 < (h.set 1 _).length; rw [List.length_set]; exact l4)]
      simp [g', wV]
    · show ((g.KL ++ [((l, z), ())]).map (·.1)).Nodup
      rw [List.map_append]
      exact List.nodup_append.mpr ⟨H.nk, by simp, fun a ha b hb => by
        simp at hb
        subst hb
        exact fun e => hm (by rw [← e]; exact ha)⟩
    · rcases List.mem_append.mp hx with q | q
      · exact (H.pk x q).ext X
      · simp at q
        subst q
        exact pk.ext X
    · rcases List.mem_append.mp hx with q | q
      · obtain ⟨w, a, b⟩ := H.pw x q
        exact ⟨w, a, b.ext X⟩
      · simp at q
        subst q
        exact ⟨z, hr, pk.ext X⟩
    · show (g.WL ++ [(l, i)]).length ≤ (g.KL ++ [((l, z), ())]).length
      rw [List.length_append, List.length_append, List.length_singleton, List.length_singleton]
      omega
    · have := H.six e (by intro q; cases q)
      rw [keep j (by omega) (by omega)]
      exact H.rs j w e
    · have := H.six e (by intro q; cases q)
      rw [keep j (by omega) (by omega)]
      exact (H.rc j e).ext X
    · have := H.six e (by intro q; cases q)
      rw [keep j (by omega) (by omega)]
      exact H.ru j e
    · have kl2 : (g.KL ++ [((l, z), ())]).length ≤ 6230448 := by
        have := pl_bound (l := (g.KL ++ [((l, z), ())]).map (·.1)) (by
          rw [List.map_append]
          exact List.nodup_append.mpr ⟨H.nk, by simp, fun a ha b hb => by
            simp at hb
            subst hb
            exact fun e => hm (by rw [← e]; exact ha)⟩) fun p hp => by
          obtain ⟨x, hx, rfl⟩ := List.mem_map.mp hp
          rcases List.mem_append.mp hx with q | q
          · exact ⟨cl _ (H.pk x q).1, (H.pk x q).2.1⟩
          · simp at q
            subst q
            exact ⟨cl _ pk.1, pk.2.1⟩
        rwa [List.length_map] at this
      unfold mu
      show 2 * (6230448 - (g.KL ++ [((l, z), ())]).length) + (g.WL ++ [(l, i)]).length ≤ _
      rw [List.length_append, List.length_singleton] at kl2
      rw [List.length_append, List.length_append, List.length_singleton, List.length_singleton]
      omega
end
end GXk22

end
section
namespace GXk22
open PySem L2 MP MP.Pg MP.Le MP.Ld
theorem set_lastL {α : Type} (h : List α) (o o' : α) : (h ++ [o]).set h.length o' = h ++ [o'] := by simp
section
variable {B C : Bk} {sl bh : Bool} {J : Zt → Prop} {g : Gh} {h : MH}
theorem make_st {s : Sl} {a : MA} (z : Zt) (ha : a s h = .ok [.str [z.b], .bl z.o, .str (fV z.f), .bl z.p, .bl z.a, hV z.h] h) : eMake n_Stand 7 m_Stand___init__ a s h = .ok (.ref h.length) (h ++ [z.ob]) := by
  have i := mk_st (h := h ++ [.ins n_Stand []]) (i := h.length) z (by simp)
  rw [set_lastL] at i
  rw [eMake_ap, ha, bind_ok, if_pos (by rfl), i]
  rfl
abbrev hdF (B C : Bk) (sl bh : Bool) : List (CP × MV) := [(f_books, .tup [B.v, C.v]), (f_flags, .tup [.bl sl, .bl bh]), (f_known, .ref 1), (f_uncovered, .ref 2), (f_covering, .ref 3), (f_waiting, .ref 4), (f_deeds, .ref 5), (f_is_unlike, .bl false)]
theorem meth_hd {x : CP} {m : MF} {np : Nat} {s : Sl} {a : MA} {xs : List MV} {h2 : MH} {r : R MV} (h0 : h[0]? = some (.ins n_Heads (hdF B C sl bh))) (nf : noF x (hdF B C sl bh) = true) (s0 : s[0]? = some (some (.ref 0))) (ha : a s h = .ok xs h2) (hn : xs.length + 1 = np) (hm : m (.ref 0 :: xs) h2 = r) :
    eMeth n_Heads x np m (eVar 0) a s h = r := by
  have e0 : eVar 0 s h = .ok (.ref 0) h := by rw [eVar_ap, s0]
  rw [eMeth_ap, e0, bind_ok]
  simp only [h0, nf, beq_self_eq_true, Bool.and_self, if_true]
  rw [ha, bind_ok, if_pos hn]
  exact hm
theorem nf_come (B C : Bk) (sl bh : Bool) : noF x_come (hdF B C sl bh) = true := rfl
theorem nf_bare (B C : Bk) (sl bh : Bool) : noF x_bare (hdF B C sl bh) = true := rfl
theorem come_new (cl : ∀ z, J z → Ty z) (H : Hi B C sl bh J g h) {l : Option Zt} {z : Zt} (pk : Pok J g (l, z)) {s : Sl} {j : Nat} {a : MA} (s0 : s[0]? = some (some (.ref 0))) (sj : s[j]? = some (some (lvV l))) (ha : a s h = .ok [.str [z.b], .bl z.o, .str (fV z.f), .bl z.p, .bl z.a, hV z.h] h) :
    ∃ g' h', eMeth n_Heads x_come 3 m_Heads_come (eVar 0) (aCons (eVar j) (aCons (eMake n_Stand 7 m_Stand___init__ a) aNil)) s h = .ok .non h' ∧ Hi B C sl bh J g' h' ∧ Ext g g' ∧ mu g' ≤ mu g := by
  obtain ⟨H1, X1⟩ := H.stand z
  have hr : (g.R ++ [Ro.st z])[h.length]? = some (.st z) := by rw [← H.len]; simp
  obtain ⟨g', h', e, H2, X2, _, m⟩ := come_ok cl H1 (i := h.length) hr (pk.ext X1)
  refine ⟨g', h', meth_hd (hd_at H) (nf_come B C sl bh) s0 ?_ rfl e, H2, X1.trans X2, m⟩
  have ej : eVar j s h = .ok (lvV l) h := by rw [eVar_ap, sj]
  rw [aCons_ap, ej, bind_ok, aCons_ap, make_st z ha]
  rfl
theorem bare_ok (cl : ∀ z, J z → Ty z) (H : Hi B C sl bh J g h) {l : Option Zt} {i : Nat} {w : Zt} {a : Ag} (hr : g.R[i]? = some (.st w)) (pk : Pok J g (l, w)) (oa : OkA J a) :
    ∃ g' h', m_Heads_bare [.ref 0, .tup [lvV l, .ref i], agV a] h = .ok .non h' ∧ Hi B C sl bh J g' h' ∧ Ext g g' ∧ mu g' ≤ mu g := by
  have es : h[i]? = some (.ins n_Stand w.fs) := H.rs i w hr
  obtain ⟨⟨b, o, x⟩, ag⟩ := a
  have pk2 : Pok J g (l, bareS w ((b, o, x), ag)) := ⟨oa.2 w pk.1, pk.2.1, fun z => pk.2.2 z⟩
  let sl9 : Sl := [some (.ref 0), some (.tup [lvV l, .ref i]), some (agV ((b, o, x), ag)), some (.bl (w.a || ag)), some (lvV l), some (.ref i), some (.str [b]), some (.bl o), some (.bl ag), some (hV x)]
  have ga := gA w
  have gp := gP w
  have gf := gF w
  have av : (aCons (eVar 6) (aCons (eVar 7) (aCons (eFld [n_Stand] f_following (eVar 5)) (aCons (eFld [n_Stand] f_is_put (eVar 5)) (aCons (eAnd (eVar 3) (eFld [n_Stand] f_is_put (eVar 5))) (aCons (eVar 9) (aNil))))))) sl9 h = .ok [.str [(bareS w ((b, o, x), ag)).b], .bl (bareS w ((b, o, x), ag)).o, .str (fV (bareS w ((b, o, x), ag)).f), .bl (bareS w ((b, o, x), ag)).p, .bl (bareS w ((b, o, x), ag)).a, hV (bareS w ((b, o, x), ag)).h] h := by
    simp only [bareS, sl9]
    cases hq : (w.a || ag) with
    | true => simp [es, gf, gp]
    | false => simp [es, gf, gp]
  obtain ⟨g', h', e, H2, X, m⟩ := come_new cl H (s := sl9) (j := 4) pk2 rfl rfl av
  refine ⟨g', h', ?_, H2, X, m⟩
  have s1 : (sAsg (eVar 1) (gTp 2 (gC (gNm 4) (gC (gNm 5) (gN))))) [some (.ref 0), some (.tup [lvV l, .ref i]), some (agV ((b, o, x), ag)), none, none, none, none, none, none, none] h = .nx [some (.ref 0), some (.tup [lvV l, .ref i]), some (agV ((b, o, x), ag)), none, some (lvV l), some (.ref i), none, none, none, none] h := rfl
  have s2 : (sAsg (eVar 2) (gTp 4 (gC (gNm 6) (gC (gNm 7) (gC (gNm 8) (gC (gNm 9) (gN))))))) [some (.ref 0), some (.tup [lvV l, .ref i]), some (agV ((b, o, x), ag)), none, some (lvV l), some (.ref i), none, none, none, none] h = .nx [some (.ref 0), some (.tup [lvV l, .ref i]), some (agV ((b, o, x), ag)), none, some (lvV l), some (.ref i), some (.str [b]), some (.bl o), some (.bl ag), some (hV x)] h := rfl
  have s3 : (sAsg (eOr (eFld [n_Stand] f_is_aged (eVar 5)) (eVar 8)) (gNm 3)) [some (.ref 0), some (.tup [lvV l, .ref i]), some (agV ((b, o, x), ag)), none, some (lvV l), some (.ref i), some (.str [b]), some (.bl o), some (.bl ag), some (hV x)] h = .nx sl9 h := by
    show _ = SR.nx [some (.ref 0), some (.tup [lvV l, .ref i]), some (agV ((b, o, x), ag)), some (.bl (w.a || ag)), some (lvV l), some (.ref i), some (.str [b]), some (.bl o), some (.bl ag), some (hV x)] h
    cases hq : w.a with
    | true => rw [hq] at ga; simp [es, ga]
    | false => rw [hq] at ga; simp [es, ga]
  show (match b_Heads_bare [some (.ref 0), some (.tup [lvV l, .ref i]), some (agV ((b, o, x), ag)), none, none, none, none, none, none, none] h with
    | .rt v h' => R.ok v h'
    | .nx _ h' => .ok .non h'
    | .err e _ h' => .err e h'
    | _ => .stuck) = _
  unfold b_Heads_bare
  rw [sSeq_ap, s1]
  simp only
  rw [sSeq_ap, s2]
  simp only
  rw [sSeq_ap, s3]
  simp only
  rw [sExpr_ap, e]
  rfl
end
end GXk22

end
section
namespace GXk22
open PySem L2 MP MP.Pg MP.Le MP.Ld
theorem seq_nx {a b : MS} {s t : Sl} {h g : MH} (e : a s h = .nx t g) : sSeq a b s h = b t g := by rw [sSeq_ap, e]
theorem if_t {t : MT} {a b : MS} {s : Sl} {h g : MH} (e : t s h = .ok true g) : sIf t a b s h = a s g := by rw [sIf_ap, e]; rfl
theorem if_f {t : MT} {a b : MS} {s : Sl} {h g : MH} (e : t s h = .ok false g) : sIf t a b s h = b s g := by rw [sIf_ap, e]; rfl
section
variable {B C : Bk} {sl bh : Bool} {J : Zt → Prop} {g : Gh} {h : MH}
theorem cov_nil : CovOk J g (some (.dT [])) := ⟨[], rfl, by simp, fun x hx => by cases hx⟩
theorem unc_nil : UncOk J (some (.dT [])) := ⟨[], rfl, by simp, fun x hx => by cases hx⟩
theorem Hi.dict (H : Hi B C sl bh J g h) (r : Ro) (hr : r = .cov ∨ r = .unc) : Hi B C sl bh J { g with R := g.R ++ [r] } (h ++ [.dT []]) ∧ Ext g { g with R := g.R ++ [r] } := by
  have old : ∀ (i : Nat) (q : Ro), g.R[i]? = some q → (g.R ++ [r])[i]? = some q := fun i q e => by rw [List.getElem?_append_left (get_lt e)]; exact e
  have X : Ext g { g with R := g.R ++ [r] } := ⟨old, fun _ q => q⟩
  have ho : ∀ (i : Nat) (o : MO), h[i]? = some o → (h ++ [MO.dT []])[i]? = some o := fun i o e => by rw [List.getElem?_append_left (get_lt e)]; exact e
  have back : ∀ (i : Nat) (q : Ro), (g.R ++ [r])[i]? = some q → g.R[i]? = some q ∨ (i = g.R.length ∧ q = r) := fun i q e => by
    by_cases z : i < g.R.length
    · rw [List.getElem?_append_left z] at e
      exact .inl e
    · rw [List.getElem?_append_right (by omega)] at e
      have : i - g.R.length = 0 := by
        have := get_lt e
        simp at this
        omega
      rw [this] at e
      cases e
      exact .inr ⟨by omega, rfl⟩
  have new : ∀ i, i = g.R.length → (h ++ [MO.dT []])[i]? = some (.dT []) := fun i e => by rw [e, H.len]; simp
  refine ⟨⟨by simp [H.len], fun i hi => old _ _ (H.fx i hi), ho _ _ H.o0, ho _ _ H.o1, ho _ _ H.o2, ho _ _ H.o3, ho _ _ H.o4, ho _ _ H.o5, H.nk, fun x hx => (H.pk x hx).ext X, H.nu, fun x hx => ⟨(H.pu x hx).1, old _ _ (H.pu x hx).2⟩, H.nc, fun x hx => ⟨(H.pc x hx).1, old _ _ (H.pc x hx).2⟩, fun x hx => ?_, H.lw, H.nd, H.pd, fun i w e => ?_, fun i e => ?_, fun i e => ?_⟩, X⟩
  · obtain ⟨w, a, b⟩ := H.pw x hx
    exact ⟨w, old _ _ a, b.ext X⟩
  · rcases back i _ e with q | ⟨q, q2⟩
    · exact ho _ _ (H.rs i w q)
    · subst q2
      rcases hr with z | z <;> cases z
  · rcases back i _ e with q | ⟨q, q2⟩
    · have := get_lt q
      rw [List.getElem?_append_left (by rw [← H.len]; exact this)]
      exact (H.rc i q).ext X
    · rw [new i q]; exact cov_nil
  · rcases back i _ e with q | ⟨q, q2⟩
    · have := get_lt q
      rw [List.getElem?_append_left (by rw [← H.len]; exact this)]
      exact H.ru i q
    · rw [new i q]; exact unc_nil
theorem cover_get (H : Hi B C sl bh J g h) {F : Zt} (lv : LvOk (some F)) {s : Sl} {i : Nat} (s0 : s[0]? = some (some (.ref 0))) (s3 : s[i]? = some (some F.v)) :
    ∃ g' h' j, (eBm .dict mSetd (eFld [n_Heads] f_covering (eVar 0)) (aCons (eVar i) (aCons (eDictT) (aNil)))) s h = .ok (.ref j) h' ∧ Hi B C sl bh J g' h' ∧ Ext g g' ∧ mu g' = mu g ∧ (F, j) ∈ g'.CL := by
  obtain ⟨H1, X1⟩ := H.dict .cov (.inl rfl)
  have e0 : eVar 0 s h = .ok (.ref 0) h := by rw [eVar_ap, s0]
  have ei : eVar i s h = .ok F.v h := by rw [eVar_ap, s3]
  have hd := hd_at H
  have gc : getF f_covering (hdF B C sl bh) = some (.ref 3) := rfl
  have fld : eFld [n_Heads] f_covering (eVar 0) s h = .ok (.ref 3) h := by
    rw [eFld_ap, e0, bind_ok]
    simp [hd, gc]
  have rc : isRcv .dict (.ref 3) h = true := by simp [isRcv, H.o3]
  have args : (aCons (eVar i) (aCons (eDictT) (aNil))) s h = .ok [F.v, .ref h.length] (h ++ [.dT []]) := by
    rw [aCons_ap, ei, bind_ok]; rfl
  have cl : g.CL.length < 16777216 := by
    have := lv_bound H.nc fun p hp => by
      obtain ⟨x, hx, rfl⟩ := List.mem_map.mp hp
      exact (H.pc x hx).1
    rw [List.length_map] at this
    omega
  by_cases hm : F ∈ g.CL.map (·.1)
  · obtain ⟨⟨F', j⟩, hx, rfl⟩ := List.mem_map.mp hm
    have sd := sdE_old kf_v (.ref h.length) H1.o3 H1.nc hx cl
    refine ⟨_, _, j, ?_, H1, X1, rfl, hx⟩
    rw [eBm_ap, fld, bind_ok, if_pos rc, args, bind_ok, sd]
    rfl
  · have sd := sdE_new kf_v (.ref h.length) H1.o3 hm cl
    let g' : Gh := { g with R := g.R ++ [.cov], CL := g.CL ++ [(F, h.length)] }
    have X2 : Ext { g with R := g.R ++ [.cov] } g' := ⟨fun _ _ q => q, fun x hx => List.mem_append_left _ hx⟩
    have l3 : 3 < (h ++ [MO.dT []]).length := get_lt H1.o3
    have keep : ∀ (q : Nat), q ≠ 3 → ((h ++ [MO.dT []]).set 3 (MO.dT (dE Zt.v (fun x => MV.ref x.2) g.CL ++ [(F.v, MV.ref h.length)])))[q]? = (h ++ [MO.dT []])[q]? := fun q a => List.getElem?_set_ne (Ne.symm a)
    refine ⟨g', (h ++ [MO.dT []]).set 3 (MO.dT (dE Zt.v (fun x => MV.ref x.2) g.CL ++ [(F.v, MV.ref h.length)])), h.length, ?_, ⟨?_, H1.fx, by rw [keep 0 (by omega)]; exact H1.o0, by rw [keep 1 (by omega)]; exact H1.o1, by rw [keep 2 (by omega)]; exact H1.o2, ?_, by rw [keep 4 (by omega)]; exact H1.o4, by rw [keep 5 (by omega)]; exact H1.o5, H1.nk, fun x hx => (H1.pk x hx).ext X2, H1.nu, H1.pu, ?_, fun x hx => ?_, fun x hx => ?_, H1.lw, H1.nd, H1.pd, fun q w e => ?_, fun q e => ?_, fun q e => ?_⟩, X1.trans X2, rfl, List.mem_append_right _ (by simp)⟩
    · rw [eBm_ap, fld, bind_ok, if_pos rc, args, bind_ok, sd]
      rfl
    · rw [List.length_set]; exact H1.len
    · rw [List.getElem?_set_self l3, dE_app]; rfl
    · show ((g.CL ++ [(F, h.length)]).map (·.1)).Nodup
      rw [List.map_append]
      exact List.nodup_append.mpr ⟨H.nc, by simp, fun a ha b hb => by
        simp at hb
        subst hb
        exact fun e => hm (by rw [← e]; exact ha)⟩
    · rcases List.mem_append.mp hx with q | q
      · exact H1.pc x q
      · simp at q
        subst q
        exact ⟨lv, by show (g.R ++ [Ro.cov])[h.length]? = _; rw [← H.len]; simp⟩
    · obtain ⟨w, a, b⟩ := H1.pw x hx
      exact ⟨w, a, b.ext X2⟩
    · have := H1.six e (by intro z; cases z)
      rw [keep q (by omega)]
      exact H1.rs q w e
    · have := H1.six e (by intro z; cases z)
      rw [keep q (by omega)]
      exact (H1.rc q e).ext X2
    · have := H1.six e (by intro z; cases z)
      rw [keep q (by omega)]
      exact H1.ru q e
theorem unc_set (H : Hi B C sl bh J g h) {F : Zt} (lv : LvOk (some F)) {s : Sl} {i : Nat} (s0 : s[0]? = some (some (.ref 0))) (s3 : s[i]? = some (some F.v)) :
    ∃ g' h' j, (eBm .dict mSetd (eFld [n_Heads] f_uncovered (eVar 0)) (aCons (eVar i) (aCons (eDictT) (aNil)))) s h = .ok (.ref j) h' ∧ Hi B C sl bh J g' h' ∧ Ext g g' ∧ mu g' = mu g ∧ g'.R[j]? = some .unc := by
  obtain ⟨H1, X1⟩ := H.dict .unc (.inr rfl)
  have e0 : eVar 0 s h = .ok (.ref 0) h := by rw [eVar_ap, s0]
  have ei : eVar i s h = .ok F.v h := by rw [eVar_ap, s3]
  have hd := hd_at H
  have gc : getF f_uncovered (hdF B C sl bh) = some (.ref 2) := rfl
  have fld : eFld [n_Heads] f_uncovered (eVar 0) s h = .ok (.ref 2) h := by
    rw [eFld_ap, e0, bind_ok]
    simp [hd, gc]
  have rc : isRcv .dict (.ref 2) h = true := by simp [isRcv, H.o2]
  have args : (aCons (eVar i) (aCons (eDictT) (aNil))) s h = .ok [F.v, .ref h.length] (h ++ [.dT []]) := by
    rw [aCons_ap, ei, bind_ok]; rfl
  have cl : g.UL.length < 16777216 := by
    have := lv_bound H.nu fun p hp => by
      obtain ⟨x, hx, rfl⟩ := List.mem_map.mp hp
      exact (H.pu x hx).1
    rw [List.length_map] at this
    omega
  by_cases hm : F ∈ g.UL.map (·.1)
  · obtain ⟨⟨F', j⟩, hx, rfl⟩ := List.mem_map.mp hm
    have sd := sdE_old kf_v (.ref h.length) H1.o2 H1.nu hx cl
    refine ⟨_, _, j, ?_, H1, X1, rfl, (H1.pu _ hx).2⟩
    rw [eBm_ap, fld, bind_ok, if_pos rc, args, bind_ok, sd]
    rfl
  · have sd := sdE_new kf_v (.ref h.length) H1.o2 hm cl
    let g' : Gh := { g with R := g.R ++ [.unc], UL := g.UL ++ [(F, h.length)] }
    have X2 : Ext { g with R := g.R ++ [.unc] } g' := ⟨fun _ _ q => q, fun x hx => hx⟩
    have l3 : 2 < (h ++ [MO.dT []]).length := get_lt H1.o2
    have keep : ∀ (q : Nat), q ≠ 2 → ((h ++ [MO.dT []]).set 2 (MO.dT (dE Zt.v (fun x => MV.ref x.2) g.UL ++ [(F.v, MV.ref h.length)])))[q]? = (h ++ [MO.dT []])[q]? := fun q a => List.getElem?_set_ne (Ne.symm a)
    refine ⟨g', (h ++ [MO.dT []]).set 2 (MO.dT (dE Zt.v (fun x => MV.ref x.2) g.UL ++ [(F.v, MV.ref h.length)])), h.length, ?_, ⟨?_, H1.fx, by rw [keep 0 (by omega)]; exact H1.o0, by rw [keep 1 (by omega)]; exact H1.o1, ?_, by rw [keep 3 (by omega)]; exact H1.o3, by rw [keep 4 (by omega)]; exact H1.o4, by rw [keep 5 (by omega)]; exact H1.o5, H1.nk, fun x hx => (H1.pk x hx).ext X2, ?_, fun x hx => ?_, H1.nc, H1.pc, fun x hx => ?_, H1.lw, H1.nd, H1.pd, fun q w e => ?_, fun q e => ?_, fun q e => ?_⟩, X1.trans X2, rfl, by show (g.R ++ [Ro.unc])[h.length]? = _; rw [← H.len]; simp⟩
    · rw [eBm_ap, fld, bind_ok, if_pos rc, args, bind_ok, sd]
      rfl
    · rw [List.length_set]; exact H1.len
    · rw [List.getElem?_set_self l3, dE_app]; rfl
    · show ((g.UL ++ [(F, h.length)]).map (·.1)).Nodup
      rw [List.map_append]
      exact List.nodup_append.mpr ⟨H.nu, by simp, fun a ha b hb => by
        simp at hb
        subst hb
        exact fun e => hm (by rw [← e]; exact ha)⟩
    · rcases List.mem_append.mp hx with q | q
      · exact H1.pu x q
      · simp at q
        subst q
        exact ⟨lv, by show (g.R ++ [Ro.unc])[h.length]? = _; rw [← H.len]; simp⟩
    · obtain ⟨w, a, b⟩ := H1.pw x hx
      exact ⟨w, a, b.ext X2⟩
    · have := H1.six e (by intro z; cases z)
      rw [keep q (by omega)]
      exact H1.rs q w e
    · have := H1.six e (by intro z; cases z)
      rw [keep q (by omega)]
      exact (H1.rc q e).ext X2
    · have := H1.six e (by intro z; cases z)
      rw [keep q (by omega)]
      exact H1.ru q e
theorem unc_list (H : Hi B C sl bh J g h) {F : Zt} {s : Sl} {i : Nat} (s0 : s[0]? = some (some (.ref 0))) (s3 : s[i]? = some (some F.v)) :
    ∃ (g' : Gh) (h' : MH) (AL : List Ag), (jSeq (eBlt mListD (aCons (eBm .dict mGetD (eFld [n_Heads] f_uncovered (eVar 0)) (aCons (eVar i) (aCons (eDictT) (aNil)))) (aNil)))) s h = .ok (.items (AL.map agV)) h' ∧ Hi B C sl bh J g' h' ∧ Ext g g' ∧ mu g' = mu g ∧ ∀ a ∈ AL, OkA J a := by
  obtain ⟨H1, X1⟩ := H.dict .unc (.inr rfl)
  have e0 : eVar 0 s h = .ok (.ref 0) h := by rw [eVar_ap, s0]
  have ei : eVar i s h = .ok F.v h := by rw [eVar_ap, s3]
  have hd := hd_at H
  have gc : getF f_uncovered (hdF B C sl bh) = some (.ref 2) := rfl
  have fld : eFld [n_Heads] f_uncovered (eVar 0) s h = .ok (.ref 2) h := by
    rw [eFld_ap, e0, bind_ok]
    simp [hd, gc]
  have rc : isRcv .dict (.ref 2) h = true := by simp [isRcv, H.o2]
  have args : (aCons (eVar i) (aCons (eDictT) (aNil))) s h = .ok [F.v, .ref h.length] (h ++ [.dT []]) := by
    rw [aCons_ap, ei, bind_ok]; rfl
  obtain ⟨j, gj, rj⟩ : ∃ j, mGetD (.ref 2) [F.v, .ref h.length] (h ++ [.dT []]) = some (.ref j, h ++ [.dT []]) ∧ (g.R ++ [Ro.unc])[j]? = some .unc := by
    by_cases hm : F ∈ g.UL.map (·.1)
    · obtain ⟨⟨F', j⟩, hx, rfl⟩ := List.mem_map.mp hm
      exact ⟨j, gtE_old kf_v (.ref h.length) H1.o2 H1.nu hx, (H1.pu _ hx).2⟩
    · exact ⟨h.length, gtE_new kf_v (.ref h.length) H1.o2 hm, by rw [← H.len]; simp⟩
  obtain ⟨AL, ea, nd, pa⟩ := H1.ru j rj
  refine ⟨_, _, AL.map (·.1), ?_, H1, X1, rfl, fun a ha => by
    obtain ⟨x, hx, rfl⟩ := List.mem_map.mp ha
    exact pa x hx⟩
  have bm : (eBm .dict mGetD (eFld [n_Heads] f_uncovered (eVar 0)) (aCons (eVar i) (aCons (eDictT) (aNil)))) s h = .ok (.ref j) (h ++ [.dT []]) := by
    rw [eBm_ap, fld, bind_ok, if_pos rc, args, bind_ok, gj]
    rfl
  have ls : mListD [.ref j] (h ++ [.dT []]) = some (.lv ((AL.map (·.1)).map agV), h ++ [.dT []]) := by
    have dk : dKeys (h ++ [.dT []]) j = some ((AL.map (·.1)).map agV) := by
      unfold dKeys
      rw [ea]
      simp [dE, Function.comp_def]
    simp only [mListD, dk]
  unfold jSeq
  rw [eBlt_ap, aCons_ap, bm, bind_ok, aNil_ap, bind_ok, bind_ok, ls]
  rfl
end
end GXk22

end
section
namespace GXk22
open PySem L2 MP MP.Pg MP.Le MP.Ld
section
variable {B C : Bk} {sl bh : Bool} {J : Zt → Prop} {g : Gh} {h : MH}
theorem Hi.put (H : Hi B C sl bh J g h) {j : Nat} {r : Ro} {o : MO} (e : g.R[j]? = some r) (ho : (r = .cov ∧ CovOk J g (some o)) ∨ (r = .unc ∧ UncOk J (some o))) : Hi B C sl bh J g (h.set j o) := by
  have jl := H.lt e
  have j6 := H.six e (by rcases ho with ⟨z, _⟩ | ⟨z, _⟩ <;> (rw [z]; intro q; cases q))
  have keep : ∀ (q : Nat), q ≠ j → (h.set j o)[q]? = h[q]? := fun q a => List.getElem?_set_ne (Ne.symm a)
  refine ⟨by rw [List.length_set]; exact H.len, H.fx, by rw [keep 0 (by omega)]; exact H.o0, by rw [keep 1 (by omega)]; exact H.o1, by rw [keep 2 (by omega)]; exact H.o2, by rw [keep 3 (by omega)]; exact H.o3, by rw [keep 4 (by omega)]; exact H.o4, by rw [keep 5 (by omega)]; exact H.o5, H.nk, H.pk, H.nu, H.pu, H.nc, H.pc, H.pw, H.lw, H.nd, H.pd, fun q w z => ?_, fun q z => ?_, fun q z => ?_⟩
  · by_cases hq : q = j
    · subst hq
      rw [e] at z
      cases z
      rcases ho with ⟨y, _⟩ | ⟨y, _⟩ <;> cases y
    · rw [keep q hq]; exact H.rs q w z
  · by_cases hq : q = j
    · subst hq
      rw [List.getElem?_set_self jl]
      rw [e] at z
      cases z
      rcases ho with ⟨_, y⟩ | ⟨y, _⟩
      · exact y
      · cases y
    · rw [keep q hq]; exact H.rc q z
  · by_cases hq : q = j
    · subst hq
      rw [List.getElem?_set_self jl]
      rw [e] at z
      cases z
      rcases ho with ⟨y, _⟩ | ⟨_, y⟩
      · cases y
      · exact y
    · rw [keep q hq]; exact H.ru q z
theorem meth_st {x : CP} {m : MF} {s : Sl} {o : ME} {i : Nat} {w : Zt} {r : R MV} (ho : o s h = .ok (.ref i) h) (es : h[i]? = some w.ob) (nf : noF x w.fs = true) (hm : m [.ref i] h = r) : eMeth n_Stand x 1 m o aNil s h = r := by
  have es : h[i]? = some (.ins n_Stand w.fs) := es
  rw [eMeth_ap, ho, bind_ok]
  simp only [es, nf, beq_self_eq_true, Bool.and_self, if_true]
  rw [aNil_ap, bind_ok, if_pos (by rfl)]
  exact hm
abbrev S7 (l : Option Zt) (i i2 : Nat) (x3 x4 x5 x6 : Option MV) : Sl := [some (.ref 0), some (.tup [lvV l, .ref i]), some (.ref i2), x3, x4, x5, x6]
theorem bares_begin (cl : ∀ z, J z → Ty z) {l : Option Zt} {i i2 : Nat} {w : Zt} {x3 x4 x5 : Option MV} : ∀ (AL : List Ag) (g : Gh) (h : MH) (x6 : Option MV), Hi B C sl bh J g h → g.R[i]? = some (.st w) → Pok J g (l, w) → (∀ a ∈ AL, OkA J a) →
    ∃ g' h' y6, forL (gNm 6) (sExpr (eMeth n_Heads x_bare 3 m_Heads_bare (eVar 0) (aCons (eVar 1) (aCons (eVar 6) (aNil))))) (AL.map agV) (S7 l i i2 x3 x4 x5 x6) h = .nx (S7 l i i2 x3 x4 x5 y6) h' ∧ Hi B C sl bh J g' h' ∧ Ext g g' ∧ mu g' ≤ mu g
  | [], g, h, x6, H, _, _, _ => ⟨g, h, x6, rfl, H, Ext.refl g, Nat.le_refl _⟩
  | a :: AL, g, h, x6, H, hr, pk, ha => by
    obtain ⟨g1, h1, e, H1, X1, m1⟩ := bare_ok cl H hr pk (ha a List.mem_cons_self)
    obtain ⟨g2, h2, y6, e2, H2, X2, m2⟩ := bares_begin cl AL g1 h1 (some (agV a)) H1 (X1.R _ _ hr) (pk.ext X1) fun b hb => ha b (List.mem_cons_of_mem _ hb)
    refine ⟨g2, h2, y6, ?_, H2, X1.trans X2, Nat.le_trans m2 m1⟩
    have b : (sExpr (eMeth n_Heads x_bare 3 m_Heads_bare (eVar 0) (aCons (eVar 1) (aCons (eVar 6) (aNil))))) (S7 l i i2 x3 x4 x5 (some (agV a))) h = .nx (S7 l i i2 x3 x4 x5 (some (agV a))) h1 := by
      have mm : eMeth n_Heads x_bare 3 m_Heads_bare (eVar 0) (aCons (eVar 1) (aCons (eVar 6) (aNil))) (S7 l i i2 x3 x4 x5 (some (agV a))) h = .ok .non h1 := meth_hd (hd_at H) (nf_bare B C sl bh) rfl (xs := [.tup [lvV l, .ref i], agV a]) (h2 := h) rfl rfl e
      rw [sExpr_ap, mm]
      rfl
    rw [List.map_cons, N1.forL_nx (s1 := S7 l i i2 x3 x4 x5 (some (agV a))) rfl b]
    exact e2
theorem for_it {mi : MI} {gg : MG} {b : MS} {s : Sl} {xs : List MV} (e : mi s g0 = .ok (.items xs) h) : sFor mi gg b s g0 = forL gg b xs s h := by
  rw [sFor_ap, e, bindS_ok, for_items]
theorem begin_ok (cl : ∀ z, J z → Ty z) (H : Hi B C sl bh J g h) {l : Option Zt} {i i2 : Nat} {w F : Zt} (hr : g.R[i]? = some (.st w)) (pk : Pok J g (l, w)) (hr2 : g.R[i2]? = some (.st F)) (jf : J F) (lv : LvOk (some F)) :
    ∃ g' h', m_Heads_begin [.ref 0, .tup [lvV l, .ref i], .ref i2] h = .ok .non h' ∧ Hi B C sl bh J g' h' ∧ Ext g g' ∧ mu g' ≤ mu g := by
  have s0 : (sAsg (eMeth n_Stand x_key 1 m_Stand_key (eVar 2) aNil) (gNm 3)) (S7 l i i2 none none none none) h = .nx (S7 l i i2 (some F.v) none none none) h := by
    rw [sAsg_ap, meth_st (i := i2) rfl (H.rs _ _ hr2) rfl (key_ok (H.rs _ _ hr2))]
    rfl
  obtain ⟨g1, h1, j, ec, H1, X1, m1, cj⟩ := cover_get H lv (s := S7 l i i2 (some F.v) none none none) (i := 3) rfl rfl
  have rj := (H1.pc _ cj).2
  have hr1 := X1.R _ _ hr
  have pk1 := pk.ext X1
  have s1 : (sPar 4 5 (aCons (eBm .dict mSetd (eFld [n_Heads] f_covering (eVar 0)) (aCons (eVar 3) (aCons (eDictT) (aNil)))) (aCons (eTup (aCons (eOp mIx (eVar 1) (eC (.int 0))) (aCons (eMeth n_Stand x_key 1 m_Stand_key (eOp mIx (eVar 1) (eC (.int 1))) aNil) (aNil)))) (aNil)))) (S7 l i i2 (some F.v) none none none) h = .nx (S7 l i i2 (some F.v) (some (.ref j)) (some (plV (l, w))) none) h1 := by
    have k : eMeth n_Stand x_key 1 m_Stand_key (eOp mIx (eVar 1) (eC (.int 1))) aNil (S7 l i i2 (some F.v) none none none) h1 = .ok w.v h1 := meth_st (i := i) rfl (H1.rs _ _ hr1) rfl (key_ok (H1.rs _ _ hr1))
    have q0 : (eOp mIx (eVar 1) (eC (.int 0))) (S7 l i i2 (some F.v) none none none) h1 = .ok (lvV l) h1 := rfl
    rw [sPar_ap, aCons_ap, ec, bind_ok, aCons_ap, eTup_ap, aCons_ap, q0, bind_ok, aCons_ap, k]
    rfl
  obtain ⟨EL, eo, nd, pe⟩ := H1.rc j rj
  obtain ⟨g2, h2, x6, s2, H2, X2, m2⟩ : ∃ g2 h2 x6, (sIf (tCmp mNotIn (eVar 5) (eVar 4)) (sSeq (sSub (eVar 4) (eVar 5) (eVar 1)) (sFor (jSeq (eBlt mListD (aCons (eBm .dict mGetD (eFld [n_Heads] f_uncovered (eVar 0)) (aCons (eVar 3) (aCons (eDictT) (aNil)))) (aNil)))) (gNm 6) (sExpr (eMeth n_Heads x_bare 3 m_Heads_bare (eVar 0) (aCons (eVar 1) (aCons (eVar 6) (aNil))))))) (sNil)) (S7 l i i2 (some F.v) (some (.ref j)) (some (plV (l, w))) none) h1 = .nx (S7 l i i2 (some F.v) (some (.ref j)) (some (plV (l, w))) x6) h2 ∧ Hi B C sl bh J g2 h2 ∧ Ext g1 g2 ∧ mu g2 ≤ mu g1 := by
    by_cases hm : (l, w) ∈ EL.map (·.1)
    · have q := inE_t kf_pl eo hm
      refine ⟨g1, h1, none, ?_, H1, Ext.refl _, Nat.le_refl _⟩
      rw [if_f (g := h1) (by
        rw [tCmp_ap]
        show (match mNotIn (plV (l, w)) (.ref j) h1 with
          | some (.bl k, h3) => R.ok k h3
          | _ => R.stuck) = _
        rw [mNotIn_ap, q]; rfl)]
      rfl
    · have q := inE_f kf_pl eo hm
      have el : EL.length < 16777216 := by
        have := pl_bound nd fun p hp => by
          obtain ⟨x, hx, rfl⟩ := List.mem_map.mp hp
          exact ⟨cl _ (pe x hx).1.1, (pe x hx).1.2.1⟩
        rw [List.length_map] at this
        omega
      have st := setE kf_pl (.tup [lvV l, .ref i]) eo hm el
      have H2 := H1.put (o := .dT (dE plV (fun x => .tup [lvV x.1.1, .ref x.2]) EL ++ [(plV (l, w), .tup [lvV l, .ref i])])) rj (.inl ⟨rfl, EL ++ [((l, w), i)], by rw [dE_app]; rfl, by
        rw [List.map_append]
        exact List.nodup_append.mpr ⟨nd, by simp, fun a ha b hb => by
          simp at hb
          subst hb
          exact fun e => hm (by rw [← e]; exact ha)⟩, fun x hx => by
        rcases List.mem_append.mp hx with z | z
        · exact pe x z
        · simp at z
          subst z
          exact ⟨pk1, hr1⟩⟩)
      obtain ⟨g3, h3, AL, eu, H3, X3, m3, oa⟩ := unc_list H2 (s := S7 l i i2 (some F.v) (some (.ref j)) (some (plV (l, w))) none) (i := 3) rfl rfl
      obtain ⟨g4, h4, y6, e4, H4, X4, m4⟩ := bares_begin cl (l := l) (i := i) (i2 := i2) (w := w) (x3 := some F.v) (x4 := some (.ref j)) (x5 := some (plV (l, w))) AL g3 h3 none H3 (X3.R _ _ hr1) (pk1.ext X3) oa
      refine ⟨g4, h4, y6, ?_, H4, X3.trans X4, by omega⟩
      rw [if_t (g := h1) (by
        rw [tCmp_ap]
        show (match mNotIn (plV (l, w)) (.ref j) h1 with
          | some (.bl k, h3) => R.ok k h3
          | _ => R.stuck) = _
        rw [mNotIn_ap, q]; rfl)]
      have sb : (sSub (eVar 4) (eVar 5) (eVar 1)) (S7 l i i2 (some F.v) (some (.ref j)) (some (plV (l, w))) none) h1 = .nx (S7 l i i2 (some F.v) (some (.ref j)) (some (plV (l, w))) none) (h1.set j (.dT (dE plV (fun x => .tup [lvV x.1.1, .ref x.2]) EL ++ [(plV (l, w), .tup [lvV l, .ref i])]))) := by
        rw [sSub_ap]
        show (match mSet (.ref j) (plV (l, w)) (.tup [lvV l, .ref i]) h1 with
          | some h4 => SR.nx _ h4
          | none => .stuck) = _
        rw [st]
      rw [seq_nx sb, for_it eu, e4]
  have X12 := X1.trans X2
  have pkF : Pok J g2 (some F, F) := ⟨jf, lv, fun _ => ⟨F, j, rfl, X2.C _ cj⟩⟩
  obtain ⟨g3, h3, e3, H3, X3, _, m3⟩ := come_ok cl H2 (l := some F) (X12.R _ _ hr2) pkF
  have s3 : (sExpr (eMeth n_Heads x_come 3 m_Heads_come (eVar 0) (aCons (eVar 3) (aCons (eVar 2) (aNil))))) (S7 l i i2 (some F.v) (some (.ref j)) (some (plV (l, w))) x6) h2 = .nx (S7 l i i2 (some F.v) (some (.ref j)) (some (plV (l, w))) x6) h3 := by
    have mm : eMeth n_Heads x_come 3 m_Heads_come (eVar 0) (aCons (eVar 3) (aCons (eVar 2) (aNil))) (S7 l i i2 (some F.v) (some (.ref j)) (some (plV (l, w))) x6) h2 = .ok .non h3 := meth_hd (hd_at H2) (nf_come B C sl bh) rfl (xs := [F.v, .ref i2]) (h2 := h2) rfl rfl e3
    rw [sExpr_ap, mm]
    rfl
  refine ⟨g3, h3, ?_, H3, X12.trans X3, by omega⟩
  show (match b_Heads_begin (S7 l i i2 none none none none) h with
    | .rt v h' => R.ok v h'
    | .nx _ h' => .ok .non h'
    | .err e _ h' => .err e h'
    | _ => .stuck) = _
  unfold b_Heads_begin
  rw [seq_nx s0, seq_nx s1, seq_nx s2, s3]
end
end GXk22

end
section
namespace GXk22
open PySem L2 MP MP.Pg MP.Le MP.Ld
section
variable {B C : Bk} {sl bh : Bool} {J : Zt → Prop} {g : Gh} {h : MH}
abbrev S5 (F : Zt) (a : Ag) (x3 x4 : Option MV) : Sl := [some (.ref 0), some F.v, some (agV a), x3, x4]
theorem bares_unc (cl : ∀ z, J z → Ty z) {F : Zt} {a : Ag} (oa : OkA J a) {x3 : Option MV} : ∀ (EL : List (Pl × Nat)) (g : Gh) (h : MH) (x4 : Option MV), Hi B C sl bh J g h → (∀ x ∈ EL, Pok J g x.1 ∧ g.R[x.2]? = some (.st x.1.2)) →
    ∃ g' h' y4, forL (gNm 4) (sExpr (eMeth n_Heads x_bare 3 m_Heads_bare (eVar 0) (aCons (eVar 4) (aCons (eVar 2) (aNil))))) (EL.map fun x => MV.tup [lvV x.1.1, .ref x.2]) (S5 F a x3 x4) h = .nx (S5 F a x3 y4) h' ∧ Hi B C sl bh J g' h' ∧ Ext g g' ∧ mu g' ≤ mu g
  | [], g, h, x4, H, _ => ⟨g, h, x4, rfl, H, Ext.refl g, Nat.le_refl _⟩
  | x :: EL, g, h, x4, H, ha => by
    obtain ⟨⟨l, w⟩, i⟩ := x
    obtain ⟨pk, hr⟩ := ha _ List.mem_cons_self
    obtain ⟨g1, h1, e, H1, X1, m1⟩ := bare_ok cl H hr pk oa
    obtain ⟨g2, h2, y4, e2, H2, X2, m2⟩ := bares_unc cl oa EL g1 h1 (some (.tup [lvV l, .ref i])) H1 fun y hy => ⟨(ha y (List.mem_cons_of_mem _ hy)).1.ext X1, X1.R _ _ (ha y (List.mem_cons_of_mem _ hy)).2⟩
    refine ⟨g2, h2, y4, ?_, H2, X1.trans X2, Nat.le_trans m2 m1⟩
    have b : (sExpr (eMeth n_Heads x_bare 3 m_Heads_bare (eVar 0) (aCons (eVar 4) (aCons (eVar 2) (aNil))))) (S5 F a x3 (some (.tup [lvV l, .ref i]))) h = .nx (S5 F a x3 (some (.tup [lvV l, .ref i]))) h1 := by
      have mm : eMeth n_Heads x_bare 3 m_Heads_bare (eVar 0) (aCons (eVar 4) (aCons (eVar 2) (aNil))) (S5 F a x3 (some (.tup [lvV l, .ref i]))) h = .ok .non h1 := meth_hd (hd_at H) (nf_bare B C sl bh) rfl (xs := [.tup [lvV l, .ref i], agV a]) (h2 := h) rfl rfl e
      rw [sExpr_ap, mm]
      rfl
    rw [List.map_cons, N1.forL_nx (s1 := S5 F a x3 (some (.tup [lvV l, .ref i]))) rfl b]
    exact e2
theorem uncover_ok (cl : ∀ z, J z → Ty z) (H : Hi B C sl bh J g h) {F : Zt} {j : Nat} (cj : (F, j) ∈ g.CL) {a : Ag} (oa : OkA J a) :
    ∃ g' h', m_Heads_uncover [.ref 0, F.v, agV a] h = .ok .non h' ∧ Hi B C sl bh J g' h' ∧ Ext g g' ∧ mu g' ≤ mu g := by
  have lv := (H.pc _ cj).1
  obtain ⟨g1, h1, u, eu, H1, X1, m1, ru⟩ := unc_set H lv (s := S5 F a none none) (i := 1) rfl rfl
  have s0 : (sAsg (eBm .dict mSetd (eFld [n_Heads] f_uncovered (eVar 0)) (aCons (eVar 1) (aCons (eDictT) (aNil)))) (gNm 3)) (S5 F a none none) h = .nx (S5 F a (some (.ref u)) none) h1 := by
    rw [sAsg_ap, eu]; rfl
  obtain ⟨AL, eo, nd, pa⟩ := H1.ru u ru
  obtain ⟨g2, h2, x4, s1, H2, X2, m2⟩ : ∃ g2 h2 x4, (sIf (tCmp mNotIn (eVar 2) (eVar 3)) (sSeq (sSub (eVar 3) (eVar 2) (eC (.bl true))) (sFor (jSeq (eListVals (eOp mIx (eFld [n_Heads] f_covering (eVar 0)) (eVar 1)))) (gNm 4) (sExpr (eMeth n_Heads x_bare 3 m_Heads_bare (eVar 0) (aCons (eVar 4) (aCons (eVar 2) (aNil))))))) (sNil)) (S5 F a (some (.ref u)) none) h1 = .nx (S5 F a (some (.ref u)) x4) h2 ∧ Hi B C sl bh J g2 h2 ∧ Ext g1 g2 ∧ mu g2 ≤ mu g1 := by
    by_cases hm : a ∈ AL.map (·.1)
    · have q := inE_t kf_ag eo hm
      refine ⟨g1, h1, none, ?_, H1, Ext.refl _, Nat.le_refl _⟩
      rw [if_f (g := h1) (by
        rw [tCmp_ap]
        show (match mNotIn (agV a) (.ref u) h1 with
          | some (.bl k, h3) => R.ok k h3
          | _ => R.stuck) = _
        rw [mNotIn_ap, q]; rfl)]
      rfl
    · have q := inE_f kf_ag eo hm
      have al : AL.length < 16777216 := by
        have := ag_bound nd fun p hp => by
          obtain ⟨x, hx, rfl⟩ := List.mem_map.mp hp
          exact (pa x hx).1
        rw [List.length_map] at this
        omega
      have st := setE kf_ag (.bl true) eo hm al
      have H2 := H1.put (o := .dT (dE agV (fun _ => .bl true) AL ++ [(agV a, .bl true)])) ru (.inr ⟨rfl, AL ++ [(a, ())], by rw [dE_app]; rfl, by
        rw [List.map_append]
        exact List.nodup_append.mpr ⟨nd, by simp, fun b hb c hc => by
          simp at hc
          subst hc
          exact fun e => hm (by rw [← e]; exact hb)⟩, fun x hx => by
        rcases List.mem_append.mp hx with z | z
        · exact pa x z
        · simp at z
          subst z
          exact oa⟩)
      have cj1 := X1.C _ cj
      obtain ⟨EL, ec, ndc, pe⟩ := H2.rc j (H2.pc _ cj1).2
      obtain ⟨g4, h4, y4, e4, H4, X4, m4⟩ := bares_unc cl (F := F) (x3 := some (.ref u)) oa EL _ _ none H2 pe
      refine ⟨g4, h4, y4, ?_, H4, X4, m4⟩
      rw [if_t (g := h1) (by
        rw [tCmp_ap]
        show (match mNotIn (agV a) (.ref u) h1 with
          | some (.bl k, h3) => R.ok k h3
          | _ => R.stuck) = _
        rw [mNotIn_ap, q]; rfl)]
      obtain ⟨h3, e3⟩ : ∃ h3, h3 = h1.set u (.dT (dE agV (fun _ => .bl true) AL ++ [(agV a, .bl true)])) := ⟨_, rfl⟩
      rw [← e3] at st ec e4 H2
      have sb : (sSub (eVar 3) (eVar 2) (eC (.bl true))) (S5 F a (some (.ref u)) none) h1 = .nx (S5 F a (some (.ref u)) none) h3 := by
        rw [sSub_ap]
        show (match mSet (.ref u) (agV a) (.bl true) h1 with
          | some h4 => SR.nx _ h4
          | none => .stuck) = _
        rw [st]
      have ix := ixE kf_v H2.o3 H2.nc cj1
      have hd := hd_at H2
      have gc : getF f_covering (hdF B C sl bh) = some (.ref 3) := rfl
      have it : (jSeq (eListVals (eOp mIx (eFld [n_Heads] f_covering (eVar 0)) (eVar 1)))) (S5 F a (some (.ref u)) none) h3 = .ok (.items (EL.map fun x => MV.tup [lvV x.1.1, .ref x.2])) h3 := by
        have fld : eFld [n_Heads] f_covering (eVar 0) (S5 F a (some (.ref u)) none) h3 = .ok (.ref 3) h3 := by
          have e0 : eVar 0 (S5 F a (some (.ref u)) none) h3 = .ok (.ref 0) h3 := rfl
          rw [eFld_ap, e0, bind_ok]
          simp [hd, gc]
        have e1 : eVar 1 (S5 F a (some (.ref u)) none) h3 = .ok F.v h3 := rfl
        have op : (eOp mIx (eFld [n_Heads] f_covering (eVar 0)) (eVar 1)) (S5 F a (some (.ref u)) none) h3 = .ok (.ref j) h3 := by
          rw [eOp_ap, fld, bind_ok, e1, bind_ok, ix]; rfl
        have dk : dKeys h3 j = some ((dE plV (fun x => MV.tup [lvV x.1.1, .ref x.2]) EL).map (·.1)) := by
          unfold dKeys; rw [ec]
        have dv : dVals h3 j = some (EL.map fun x => MV.tup [lvV x.1.1, .ref x.2]) := by
          unfold dVals; rw [ec]
          simp [dE, Function.comp_def]
        have lv : (eListVals (eOp mIx (eFld [n_Heads] f_covering (eVar 0)) (eVar 1))) (S5 F a (some (.ref u)) none) h3 = .ok (.lv (EL.map fun x => MV.tup [lvV x.1.1, .ref x.2])) h3 := by
          unfold eListVals
          rw [op, bind_ok]
          simp only [dk, dv]
        unfold jSeq
        rw [lv, bind_ok]
      rw [seq_nx sb, for_it it, e4]
  refine ⟨g2, h2, ?_, H2, X1.trans X2, by omega⟩
  show (match b_Heads_uncover (S5 F a none none) h with
    | .rt v h' => R.ok v h'
    | .nx _ h' => .ok .non h'
    | .err e _ h' => .err e h'
    | _ => .stuck) = _
  unfold b_Heads_uncover
  rw [seq_nx s0, s1]
theorem t_inj {z : Zt} {y y' : Ky} (a : Can z y) (b : Can z y') (e : y.t = y'.t) : y = y' := by
  unfold Can at a b
  cases hh : z.h with
  | some q =>
    rw [hh] at a b
    simp only at a b
    rw [a, b]
  | none =>
    rw [hh] at a b
    simp only at a b
    obtain ⟨c, _, rfl⟩ := a
    obtain ⟨c', _, rfl⟩ := b
    simp only [Ky.t, List.cons.injEq, and_true] at e
    rw [e]
theorem can_kts {z : Zt} {y : Ky} (a : Can z y) : y.t ∈ kts := by
  unfold Can at a
  unfold kts
  cases hh : z.h with
  | some q =>
    rw [hh] at a
    simp only at a
    subst a
    exact List.mem_cons_self
  | none =>
    rw [hh] at a
    simp only at a
    obtain ⟨c, hc, rfl⟩ := a
    exact List.mem_cons_of_mem _ (List.mem_map.mpr ⟨c, hc, rfl⟩)
theorem deed_in_ok (K : Cl B C sl bh J) (H : Hi B C sl bh J g h) {i : Nat} {z : Zt} {y : Ky} {s : Bool} (hr : g.R[i]? = some (.st z)) (jz : J z) (hy : (y, s) ∈ strikesS z sl) :
    ∃ g' h', m_Heads_deed_in [.ref 0, .ref i, .str y.t] h = .ok (.str (deedS B z y)) h' ∧ Hi B C sl bh J g' h' ∧ Ext g g' ∧ g'.R = g.R ∧ mu g' = mu g := by
  have es := H.rs i z hr
  have hd := hd_at H
  have cy := (strikes_can _ hy).1
  have gd : getF f_deeds (hdF B C sl bh) = some (.ref 5) := rfl
  have gb : getF f_books (hdF B C sl bh) = some (.tup [B.v, C.v]) := rfl
  have s0 : (sAsg (eTup (aCons (eMeth n_Stand x_key 1 m_Stand_key (eVar 1) aNil) (aCons (eVar 2) (aNil)))) (gNm 3)) [some (.ref 0), some (.ref i), some (.str y.t), none] h = .nx [some (.ref 0), some (.ref i), some (.str y.t), some (dkV (z, y.t))] h := by
    have k : eMeth n_Stand x_key 1 m_Stand_key (eVar 1) aNil [some (.ref 0), some (.ref i), some (.str y.t), none] h = .ok z.v h := meth_st (i := i) rfl es rfl (key_ok es)
    rw [sAsg_ap, eTup_ap, aCons_ap, k]
    rfl
  have fld : ∀ (h : MH), h[0]? = some (.ins n_Heads (hdF B C sl bh)) → eFld [n_Heads] f_deeds (eVar 0) [some (.ref 0), some (.ref i), some (.str y.t), some (dkV (z, y.t))] h = .ok (.ref 5) h := fun h hd => by
    have e0 : eVar 0 [some (.ref 0), some (.ref i), some (.str y.t), some (dkV (z, y.t))] h = .ok (.ref 0) h := rfl
    rw [eFld_ap, e0, bind_ok]
    simp [hd, gd]
  obtain ⟨g1, h1, s1, H1, X1, r1, m1, hx⟩ : ∃ g1 h1, (sIf (tCmp mNotIn (eVar 3) (eFld [n_Heads] f_deeds (eVar 0))) (sSub (eFld [n_Heads] f_deeds (eVar 0)) (eVar 3) (eCall 4 m_deed_of_both (aCons (eOp mIx (eFld [n_Heads] f_books (eVar 0)) (eC (.int 0))) (aCons (eOp mIx (eFld [n_Heads] f_books (eVar 0)) (eC (.int 1))) (aCons (eVar 1) (aCons (eVar 2) (aNil))))))) (sNil)) [some (.ref 0), some (.ref i), some (.str y.t), some (dkV (z, y.t))] h = .nx [some (.ref 0), some (.ref i), some (.str y.t), some (dkV (z, y.t))] h1 ∧ Hi B C sl bh J g1 h1 ∧ Ext g g1 ∧ g1.R = g.R ∧ mu g1 = mu g ∧ ((z, y.t), deedS B z y) ∈ g1.DL := by
    have e3 : eVar 3 [some (.ref 0), some (.ref i), some (.str y.t), some (dkV (z, y.t))] h = .ok (dkV (z, y.t)) h := rfl
    by_cases hm : (z, y.t) ∈ g.DL.map (·.1)
    · have q := inE_t kf_dk H.o5 hm
      obtain ⟨⟨p, d⟩, hx, ep⟩ := List.mem_map.mp hm
      simp only at ep
      subst ep
      obtain ⟨_, y', s', hy', ey, ed⟩ := H.pd _ hx
      have := t_inj cy (strikes_can _ hy').1 ey
      subst this
      simp only at ed
      subst ed
      refine ⟨g, h, ?_, H, Ext.refl g, rfl, rfl, hx⟩
      rw [if_f (g := h) (by rw [tCmp_ap, e3, bind_ok, fld h hd, bind_ok, mNotIn_ap, q]; rfl)]
      rfl
    · have q := inE_f kf_dk H.o5 hm
      have dl : g.DL.length < 16777216 := by
        have := dk_bound H.nd fun p hp => by
          obtain ⟨x, hx, rfl⟩ := List.mem_map.mp hp
          obtain ⟨jx, y', s', hy', ey, _⟩ := H.pd x hx
          exact ⟨K.ty _ jx, by rw [ey]; exact can_kts (strikes_can _ hy').1⟩
        rw [List.length_map] at this
        omega
      have st := setE kf_dk (.str (deedS B z y)) H.o5 hm dl
      have bo := both_ok (B := B) (C := C) y es
      rw [if_pos (K.same z y s jz hy)] at bo
      have j5 : 5 < h.length := get_lt H.o5
      have keep : ∀ (q : Nat), q ≠ 5 → (h.set 5 (MO.dT (dE dkV (fun x => MV.str x.2) g.DL ++ [(dkV (z, y.t), MV.str (deedS B z y))])))[q]? = h[q]? := fun q a => List.getElem?_set_ne (Ne.symm a)
      let g1 : Gh := { g with DL := g.DL ++ [((z, y.t), deedS B z y)] }
      have X : Ext g g1 := ⟨fun _ _ q => q, fun _ q => q⟩
      refine ⟨g1, h.set 5 (MO.dT (dE dkV (fun x => MV.str x.2) g.DL ++ [(dkV (z, y.t), MV.str (deedS B z y))])), ?_, ⟨by rw [List.length_set]; exact H.len, H.fx, by rw [keep 0 (by omega)]; exact H.o0, by rw [keep 1 (by omega)]; exact H.o1, by rw [keep 2 (by omega)]; exact H.o2, by rw [keep 3 (by omega)]; exact H.o3, by rw [keep 4 (by omega)]; exact H.o4, ?_, H.nk, fun x hx => (H.pk x hx).ext X, H.nu, H.pu, H.nc, H.pc, fun x hx => ?_, H.lw, ?_, fun x hx => ?_, fun q w e => ?_, fun q e => ?_, fun q e => ?_⟩, X, rfl, rfl, List.mem_append_right _ (by simp)⟩
      · rw [if_t (g := h) (by rw [tCmp_ap, e3, bind_ok, fld h hd, bind_ok, mNotIn_ap, q]; rfl)]
        have fb : eFld [n_Heads] f_books (eVar 0) [some (.ref 0), some (.ref i), some (.str y.t), some (dkV (z, y.t))] h = .ok (.tup [B.v, C.v]) h := by
          have e0 : eVar 0 [some (.ref 0), some (.ref i), some (.str y.t), some (dkV (z, y.t))] h = .ok (.ref 0) h := rfl
          rw [eFld_ap, e0, bind_ok]
          simp [hd, gb]
        have i0 : mIx (.tup [B.v, C.v]) (.int 0) h = some (B.v, h) := rfl
        have i1 : mIx (.tup [B.v, C.v]) (.int 1) h = some (C.v, h) := rfl
        have ca : (eCall 4 m_deed_of_both (aCons (eOp mIx (eFld [n_Heads] f_books (eVar 0)) (eC (.int 0))) (aCons (eOp mIx (eFld [n_Heads] f_books (eVar 0)) (eC (.int 1))) (aCons (eVar 1) (aCons (eVar 2) (aNil)))))) [some (.ref 0), some (.ref i), some (.str y.t), some (dkV (z, y.t))] h = .ok (.str (deedS B z y)) h := by
          have e1 : eVar 1 [some (.ref 0), some (.ref i), some (.str y.t), some (dkV (z, y.t))] h = .ok (.ref i) h := rfl
          have e2 : eVar 2 [some (.ref 0), some (.ref i), some (.str y.t), some (dkV (z, y.t))] h = .ok (.str y.t) h := rfl
          have o0 : (eOp mIx (eFld [n_Heads] f_books (eVar 0)) (eC (.int 0))) [some (.ref 0), some (.ref i), some (.str y.t), some (dkV (z, y.t))] h = .ok B.v h := by rw [eOp_ap, fb, bind_ok, eC_ap, bind_ok, i0]; rfl
          have o1 : (eOp mIx (eFld [n_Heads] f_books (eVar 0)) (eC (.int 1))) [some (.ref 0), some (.ref i), some (.str y.t), some (dkV (z, y.t))] h = .ok C.v h := by rw [eOp_ap, fb, bind_ok, eC_ap, bind_ok, i1]; rfl
          rw [eCall_ap, aCons_ap, o0, bind_ok, aCons_ap, o1, bind_ok, aCons_ap, e1, bind_ok, aCons_ap, e2, bind_ok, aNil_ap]
          exact bo
        rw [sSub_ap, ca, bindS_ok, fld h hd, bindS_ok, e3, bindS_ok, st]
      · rw [List.getElem?_set_self j5, dE_app]; rfl
      · obtain ⟨w, a, b⟩ := H.pw x hx
        exact ⟨w, a, b.ext X⟩
      · show ((g.DL ++ [((z, y.t), deedS B z y)]).map (·.1)).Nodup
        rw [List.map_append]
        exact List.nodup_append.mpr ⟨H.nd, by simp, fun a ha b hb => by
          simp at hb
          subst hb
          exact fun e => hm (by rw [← e]; exact ha)⟩
      · rcases List.mem_append.mp hx with w | w
        · exact H.pd x w
        · simp at w
          subst w
          exact ⟨jz, y, s, hy, rfl, rfl⟩
      · have := H.six e (by intro z; cases z)
        rw [keep q (by omega)]
        exact H.rs q w e
      · have := H.six e (by intro z; cases z)
        rw [keep q (by omega)]
        exact (H.rc q e).ext X
      · have := H.six e (by intro z; cases z)
        rw [keep q (by omega)]
        exact H.ru q e
  have ix := ixE kf_dk H1.o5 H1.nd hx
  have s2 : (sRet (eOp mIx (eFld [n_Heads] f_deeds (eVar 0)) (eVar 3))) [some (.ref 0), some (.ref i), some (.str y.t), some (dkV (z, y.t))] h1 = .rt (.str (deedS B z y)) h1 := by
    have e3 : eVar 3 [some (.ref 0), some (.ref i), some (.str y.t), some (dkV (z, y.t))] h1 = .ok (dkV (z, y.t)) h1 := rfl
    rw [sRet_ap, eOp_ap, fld h1 (hd_at H1), bind_ok, e3, bind_ok, ix]
    rfl
  refine ⟨g1, h1, ?_, H1, X1, r1, m1⟩
  show (match b_Heads_deed_in [some (.ref 0), some (.ref i), some (.str y.t), none] h with
    | .rt v h' => R.ok v h'
    | .nx _ h' => .ok .non h'
    | .err e _ h' => .err e h'
    | _ => .stuck) = _
  unfold b_Heads_deed_in
  rw [seq_nx s0, seq_nx s1, s2]
end
end GXk22

end
section
namespace GXk22
open PySem L2 MP MP.Pg MP.Le MP.Ld
theorem deed_cases (B : Bk) (z : Zt) (y : Ky) : deedS B z y = wPlain ∨ deedS B z y = wPut ∨ deedS B z y = wOver := by
  unfold deedS
  split
  · exact .inl rfl
  · split
    · exact .inr (.inl rfl)
    · exact .inr (.inr rfl)
theorem closer_ok {c : Nat} (hc : c ∈ struck) (g : MH) : m_closer_of [.str [c]] g = .ok (.str (fV (closerN c))) g := by
  simp only [struck, List.mem_cons, List.not_mem_nil, or_false] at hc
  rcases hc with rfl | rfl | rfl | rfl | rfl | rfl | rfl | rfl <;> rfl
theorem rests_ok (sl bh : Bool) (g : MH) : m_rests_of [.tup [.bl sl, .bl bh]] g = .ok (.tup ((restsS bh).map fun r => .str (fV r))) g := by
  cases bh <;> rfl
section
variable {B C : Bk} {sl bh : Bool} {J : Zt → Prop} {g : Gh} {h : MH}
theorem meth_stA {x : CP} {m : MF} {np : Nat} {s : Sl} {o : ME} {a : MA} {i : Nat} {w : Zt} {xs : List MV} {r : R MV} (ho : o s h = .ok (.ref i) h) (es : h[i]? = some w.ob) (nf : noF x w.fs = true) (ha : a s h = .ok xs h) (hn : xs.length + 1 = np) (hm : m (.ref i :: xs) h = r) : eMeth n_Stand x np m o a s h = r := by
  have es : h[i]? = some (.ins n_Stand w.fs) := es
  rw [eMeth_ap, ho, bind_ok]
  simp only [es, nf, beq_self_eq_true, Bool.and_self, if_true]
  rw [ha, bind_ok, if_pos hn]
  exact hm
abbrev S12 (l : Option Zt) (i : Nat) (y : Ky) (s : Bool) (x5 x6 x7 x8 x9 x10 x11 : Option MV) : Sl := [some (.ref 0), some (lvV l), some (.ref i), some (.str y.t), some (.bl s), x5, x6, x7, x8, x9, x10, x11]
theorem rests_loop (cl : ∀ z, J z → Ty z) {l : Option Zt} {i : Nat} {y : Ky} {s : Bool} {a : Ah} {x5 x9 x10 : Option MV} (lv : LvOk l) : ∀ (rs : List (Option Nat)) (g : Gh) (h : MH) (x11 : Option MV), Hi B C sl bh J g h → (∀ r ∈ rs, J ⟨a.1, a.2.1, r, false, false, a.2.2⟩) →
    ∃ g' h' y11, forL (gNm 11) (sExpr (eMeth n_Heads x_come 3 m_Heads_come (eVar 0) (aCons (eVar 1) (aCons (eMake n_Stand 7 m_Stand___init__ (aCons (eVar 6) (aCons (eVar 7) (aCons (eVar 11) (aCons (eC (.bl false)) (aCons (eC (.bl false)) (aCons (eVar 8) (aNil)))))))) (aNil))))) (rs.map fun r => MV.str (fV r)) (S12 l i y s x5 (some (.str [a.1])) (some (.bl a.2.1)) (some (hV a.2.2)) x9 x10 x11) h = .nx (S12 l i y s x5 (some (.str [a.1])) (some (.bl a.2.1)) (some (hV a.2.2)) x9 x10 y11) h' ∧ Hi B C sl bh J g' h' ∧ Ext g g' ∧ mu g' ≤ mu g
  | [], g, h, x11, H, _ => ⟨g, h, x11, rfl, H, Ext.refl g, Nat.le_refl _⟩
  | r :: rs, g, h, x11, H, hj => by
    have pk : Pok J g (l, ⟨a.1, a.2.1, r, false, false, a.2.2⟩) := ⟨hj r List.mem_cons_self, lv, fun z => by cases z⟩
    obtain ⟨g1, h1, e, H1, X1, m1⟩ := come_new cl H (s := S12 l i y s x5 (some (.str [a.1])) (some (.bl a.2.1)) (some (hV a.2.2)) x9 x10 (some (.str (fV r)))) (j := 1) (a := (aCons (eVar 6) (aCons (eVar 7) (aCons (eVar 11) (aCons (eC (.bl false)) (aCons (eC (.bl false)) (aCons (eVar 8) (aNil)))))))) pk rfl rfl rfl
    obtain ⟨g2, h2, y11, e2, H2, X2, m2⟩ := rests_loop cl (l := l) (i := i) (y := y) (s := s) (a := a) (x5 := x5) (x9 := x9) (x10 := x10) lv rs g1 h1 (some (.str (fV r))) H1 fun q hq => hj q (List.mem_cons_of_mem _ hq)
    refine ⟨g2, h2, y11, ?_, H2, X1.trans X2, Nat.le_trans m2 m1⟩
    have b : (sExpr (eMeth n_Heads x_come 3 m_Heads_come (eVar 0) (aCons (eVar 1) (aCons (eMake n_Stand 7 m_Stand___init__ (aCons (eVar 6) (aCons (eVar 7) (aCons (eVar 11) (aCons (eC (.bl false)) (aCons (eC (.bl false)) (aCons (eVar 8) (aNil)))))))) (aNil))))) (S12 l i y s x5 (some (.str [a.1])) (some (.bl a.2.1)) (some (hV a.2.2)) x9 x10 (some (.str (fV r)))) h = .nx (S12 l i y s x5 (some (.str [a.1])) (some (.bl a.2.1)) (some (hV a.2.2)) x9 x10 (some (.str (fV r)))) h1 := by
      rw [sExpr_ap, e]
      rfl
    rw [List.map_cons, N1.forL_nx (s1 := S12 l i y s x5 (some (.str [a.1])) (some (.bl a.2.1)) (some (hV a.2.2)) x9 x10 (some (.str (fV r)))) rfl b]
    exact e2
theorem nf_begin (B C : Bk) (sl bh : Bool) : noF x_begin (hdF B C sl bh) = true := rfl
theorem nf_uncover (B C : Bk) (sl bh : Bool) : noF x_uncover (hdF B C sl bh) = true := rfl
theorem nf_deed_in (B C : Bk) (sl bh : Bool) : noF x_deed_in (hdF B C sl bh) = true := rfl
theorem press_heads (K : Cl B C sl bh J) (H : Hi B C sl bh J g h) {l : Option Zt} {i : Nat} {z : Zt} {y : Ky} {s : Bool} (hr : g.R[i]? = some (.st z)) (pk : Pok J g (l, z)) (hy : (y, s) ∈ strikesS z sl) :
    ∃ g' h', m_Heads_press [.ref 0, lvV l, .ref i, .str y.t, .bl s] h = .ok .non h' ∧ Hi B C sl bh J g' h' ∧ Ext g g' ∧ mu g' ≤ mu g := by
  have cl := K.ty
  have cy := (strikes_can _ hy).1
  obtain ⟨g1, h1, e0, H1, X1, r1, m1⟩ := deed_in_ok K H hr pk.1 hy
  have s0 : (sAsg (eMeth n_Heads x_deed_in 3 m_Heads_deed_in (eVar 0) (aCons (eVar 2) (aCons (eVar 3) (aNil)))) (gNm 5)) (S12 l i y s none none none none none none none) h = .nx (S12 l i y s (some (.str (deedS B z y))) none none none none none none) h1 := by
    have mm : eMeth n_Heads x_deed_in 3 m_Heads_deed_in (eVar 0) (aCons (eVar 2) (aCons (eVar 3) (aNil))) (S12 l i y s none none none none none none none) h = .ok (.str (deedS B z y)) h1 := meth_hd (hd_at H) (nf_deed_in B C sl bh) rfl (xs := [.ref i, .str y.t]) (h2 := h) rfl rfl e0
    rw [sAsg_ap, mm]
    rfl
  have hr1 : g1.R[i]? = some (.st z) := X1.R _ _ hr
  have es := H1.rs i z hr1
  have es' : h1[i]? = some (.ins n_Stand z.fs) := es
  obtain ⟨a, ea⟩ : ∃ a, a = behS z y s := ⟨_, rfl⟩
  have ab := ahead_behind_ok cy s es
  rw [← ea] at ab
  have s1 : (sAsg (eMeth n_Stand x_ahead_behind 3 m_Stand_ahead_behind (eVar 2) (aCons (eVar 3) (aCons (eVar 4) (aNil)))) (gTp 3 (gC (gNm 6) (gC (gNm 7) (gC (gNm 8) (gN)))))) (S12 l i y s (some (.str (deedS B z y))) none none none none none none) h1 = .nx (S12 l i y s (some (.str (deedS B z y))) (some (.str [a.1])) (some (.bl a.2.1)) (some (hV a.2.2)) none none none) h1 := by
    have mm : eMeth n_Stand x_ahead_behind 3 m_Stand_ahead_behind (eVar 2) (aCons (eVar 3) (aCons (eVar 4) (aNil))) (S12 l i y s (some (.str (deedS B z y))) none none none none none none) h1 = .ok (ahV a) h1 := meth_stA (w := z) rfl es rfl (xs := [.str y.t, .bl s]) rfl rfl ab
    rw [sAsg_ap, mm]
    rfl
  have pk1 := pk.ext X1
  have run : ∀ {t : Sl} {h' : MH}, (sIf (tCmp mEq (eVar 5) (eC (.str []))) (sFldM [n_Heads] f_is_unlike (eVar 0) (eC (.bl true))) (sIf (tCmp mEq (eVar 5) (eC v_PLAIN)) (sSeq (sAsg (eOr (eFld [n_Stand] f_is_aged (eVar 2)) (eOp mEq (eVar 3) (eC v_LINE))) (gNm 9)) (sExpr (eMeth n_Heads x_come 3 m_Heads_come (eVar 0) (aCons (eVar 1) (aCons (eMake n_Stand 7 m_Stand___init__ (aCons (eVar 6) (aCons (eVar 7) (aCons (eFld [n_Stand] f_following (eVar 2)) (aCons (eFld [n_Stand] f_is_put (eVar 2)) (aCons (eVar 9) (aCons (eVar 8) (aNil)))))))) (aNil)))))) (sIf (tCmp mEq (eVar 5) (eC v_PUT)) (sSeq (sAsg (eMake n_Stand 7 m_Stand___init__ (aCons (eVar 6) (aCons (eVar 7) (aCons (eCall 1 m_closer_of (aCons (eVar 3) (aNil))) (aCons (eC (.bl true)) (aCons (eC (.bl false)) (aCons (eVar 8) (aNil)))))))) (gNm 10)) (sExpr (eMeth n_Heads x_begin 3 m_Heads_begin (eVar 0) (aCons (eTup (aCons (eVar 1) (aCons (eVar 2) (aNil)))) (aCons (eVar 10) (aNil)))))) (sIf (tVal (eFld [n_Stand] f_is_put (eVar 2))) (sExpr (eMeth n_Heads x_uncover 3 m_Heads_uncover (eVar 0) (aCons (eVar 1) (aCons (eTup (aCons (eVar 6) (aCons (eVar 7) (aCons (eFld [n_Stand] f_is_aged (eVar 2)) (aCons (eVar 8) (aNil)))))) (aNil))))) (sFor (jSeq (eCall 1 m_rests_of (aCons (eFld [n_Heads] f_flags (eVar 0)) (aNil)))) (gNm 11) (sExpr (eMeth n_Heads x_come 3 m_Heads_come (eVar 0) (aCons (eVar 1) (aCons (eMake n_Stand 7 m_Stand___init__ (aCons (eVar 6) (aCons (eVar 7) (aCons (eVar 11) (aCons (eC (.bl false)) (aCons (eC (.bl false)) (aCons (eVar 8) (aNil)))))))) (aNil)))))))))) (S12 l i y s (some (.str (deedS B z y))) (some (.str [a.1])) (some (.bl a.2.1)) (some (hV a.2.2)) none none none) h1 = .nx t h' → m_Heads_press [.ref 0, lvV l, .ref i, .str y.t, .bl s] h = .ok .non h' := fun {t h'} e => by
    show (match b_Heads_press (S12 l i y s none none none none none none none) h with
      | .rt v h' => R.ok v h'
      | .nx _ h' => .ok .non h'
      | .err e _ h' => .err e h'
      | _ => .stuck) = _
    unfold b_Heads_press
    rw [seq_nx s0, seq_nx s1, e]
  have tst : ∀ (d : CP) (v : MV) (w : CP), v = .str w → (tCmp mEq (eVar 5) (eC v)) (S12 l i y s (some (.str d)) (some (.str [a.1])) (some (.bl a.2.1)) (some (hV a.2.2)) none none none) h1 = .ok (d == w) h1 := fun d v w e => by subst e; rfl
  have ga := gA z
  have gp := gP z
  have gf := gF z
  rcases deed_cases B z y with d | d | d
  · -- plain
    have jz := K.plain z y s pk.1 hy d
    rw [← ea] at jz
    rw [d] at run
    have pk2 : Pok J g1 (l, ⟨a.1, a.2.1, z.f, z.p, z.a || (y.t == [47]), a.2.2⟩) := ⟨jz, pk1.2.1, fun q => pk1.2.2 q⟩
    have q9 : (sAsg (eOr (eFld [n_Stand] f_is_aged (eVar 2)) (eOp mEq (eVar 3) (eC v_LINE))) (gNm 9)) (S12 l i y s (some (.str wPlain)) (some (.str [a.1])) (some (.bl a.2.1)) (some (hV a.2.2)) none none none) h1 = .nx (S12 l i y s (some (.str wPlain)) (some (.str [a.1])) (some (.bl a.2.1)) (some (hV a.2.2)) (some (.bl (z.a || (y.t == [47])))) none none) h1 := by
      have me : mEqv (.str y.t) v_LINE h1 = some (y.t == [47]) := rfl
      cases hq : z.a with
      | true => rw [hq] at ga; simp [es', ga]
      | false => rw [hq] at ga; simp [es', ga, me]
    obtain ⟨g2, h2, e, H2, X2, m2⟩ := come_new cl H1 (s := S12 l i y s (some (.str wPlain)) (some (.str [a.1])) (some (.bl a.2.1)) (some (hV a.2.2)) (some (.bl (z.a || (y.t == [47])))) none none) (j := 1) (a := (aCons (eVar 6) (aCons (eVar 7) (aCons (eFld [n_Stand] f_following (eVar 2)) (aCons (eFld [n_Stand] f_is_put (eVar 2)) (aCons (eVar 9) (aCons (eVar 8) (aNil)))))))) pk2 rfl rfl (by
      generalize y.t = Y at *
      simp [es', gf, gp])
    refine ⟨g2, h2, run (t := S12 l i y s (some (.str wPlain)) (some (.str [a.1])) (some (.bl a.2.1)) (some (hV a.2.2)) (some (.bl (z.a || (y.t == [47])))) none none) ?_, H2, X1.trans X2, by omega⟩
    rw [if_f (tst wPlain (.str []) [] rfl), if_t (tst wPlain v_PLAIN wPlain rfl), seq_nx q9, sExpr_ap, e]
    rfl
  · -- put
    obtain ⟨⟨c, hc, rfl⟩, jf, fc⟩ := K.put z y s pk.1 hy d
    rw [← ea] at jf
    rw [d] at run
    obtain ⟨F, eF⟩ : ∃ F : Zt, F = ⟨a.1, a.2.1, clS (.sg c), true, false, a.2.2⟩ := ⟨_, rfl⟩
    rw [← eF] at jf
    have lvF : LvOk (some F) := ⟨cl F jf, by rw [eF], by rw [eF], by rw [eF]; exact fc⟩
    obtain ⟨H2, X2⟩ := H1.stand F
    have hrF : (g1.R ++ [Ro.st F])[h1.length]? = some (.st F) := by rw [← H1.len]; simp
    obtain ⟨g3, h3, e, H3, X3, m3⟩ := begin_ok cl H2 (l := l) (i := i) (i2 := h1.length) (X2.R _ _ hr1) (pk1.ext X2) hrF jf lvF
    have mk := make_st (h := h1) (s := S12 l i (.sg c) s (some (.str wPut)) (some (.str [a.1])) (some (.bl a.2.1)) (some (hV a.2.2)) none none none) (a := (aCons (eVar 6) (aCons (eVar 7) (aCons (eCall 1 m_closer_of (aCons (eVar 3) (aNil))) (aCons (eC (.bl true)) (aCons (eC (.bl false)) (aCons (eVar 8) (aNil)))))))) F (by
      have co := closer_ok hc h1
      rw [eF]
      have cc : eCall 1 m_closer_of (aCons (eVar 3) (aNil)) (S12 l i (.sg c) s (some (.str wPut)) (some (.str [a.1])) (some (.bl a.2.1)) (some (hV a.2.2)) none none none) h1 = .ok (.str (fV (closerN c))) h1 := co
      have e6 : eVar 6 (S12 l i (.sg c) s (some (.str wPut)) (some (.str [a.1])) (some (.bl a.2.1)) (some (hV a.2.2)) none none none) h1 = .ok (.str [a.1]) h1 := rfl
      have e7 : eVar 7 (S12 l i (.sg c) s (some (.str wPut)) (some (.str [a.1])) (some (.bl a.2.1)) (some (hV a.2.2)) none none none) h1 = .ok (.bl a.2.1) h1 := rfl
      have e8 : eVar 8 (S12 l i (.sg c) s (some (.str wPut)) (some (.str [a.1])) (some (.bl a.2.1)) (some (hV a.2.2)) none none none) h1 = .ok (hV a.2.2) h1 := rfl
      rw [aCons_ap, e6, bind_ok, aCons_ap, e7, bind_ok, aCons_ap, cc, bind_ok, aCons_ap, eC_ap, bind_ok, aCons_ap, eC_ap, bind_ok, aCons_ap, e8, bind_ok, aNil_ap]
      rfl)
    have q10 : (sAsg (eMake n_Stand 7 m_Stand___init__ (aCons (eVar 6) (aCons (eVar 7) (aCons (eCall 1 m_closer_of (aCons (eVar 3) (aNil))) (aCons (eC (.bl true)) (aCons (eC (.bl false)) (aCons (eVar 8) (aNil)))))))) (gNm 10)) (S12 l i (.sg c) s (some (.str wPut)) (some (.str [a.1])) (some (.bl a.2.1)) (some (hV a.2.2)) none none none) h1 = .nx (S12 l i (.sg c) s (some (.str wPut)) (some (.str [a.1])) (some (.bl a.2.1)) (some (hV a.2.2)) none (some (.ref h1.length)) none) (h1 ++ [F.ob]) := by
      rw [sAsg_ap, mk]; rfl
    refine ⟨g3, h3, run (t := S12 l i (.sg c) s (some (.str wPut)) (some (.str [a.1])) (some (.bl a.2.1)) (some (hV a.2.2)) none (some (.ref h1.length)) none) ?_, H3, X1.trans (X2.trans X3), by
      have : mu { g1 with R := g1.R ++ [Ro.st F] } = mu g1 := rfl
      omega⟩
    have mm : eMeth n_Heads x_begin 3 m_Heads_begin (eVar 0) (aCons (eTup (aCons (eVar 1) (aCons (eVar 2) (aNil)))) (aCons (eVar 10) (aNil))) (S12 l i (.sg c) s (some (.str wPut)) (some (.str [a.1])) (some (.bl a.2.1)) (some (hV a.2.2)) none (some (.ref h1.length)) none) (h1 ++ [F.ob]) = .ok .non h3 := meth_hd (hd_at H2) (nf_begin B C sl bh) rfl (xs := [.tup [lvV l, .ref i], .ref h1.length]) (h2 := h1 ++ [F.ob]) rfl rfl e
    rw [if_f (tst wPut (.str []) [] rfl), if_f (tst wPut v_PLAIN wPlain rfl), if_t (tst wPut v_PUT wPut rfl), seq_nx q10, sExpr_ap, mm]
    rfl
  · -- over
    rw [d] at run
    have tp : (tVal (eFld [n_Stand] f_is_put (eVar 2))) (S12 l i y s (some (.str wOver)) (some (.str [a.1])) (some (.bl a.2.1)) (some (hV a.2.2)) none none none) h1 = .ok z.p h1 := by
      generalize y.t = Y at *
      simp [es', gp]
    cases hp : z.p with
    | true =>
      rw [hp] at tp
      obtain ⟨ta, cb⟩ := K.bare z y s pk.1 hy d hp
      rw [← ea] at ta cb
      obtain ⟨F, j, el, cj⟩ := pk1.2.2 hp
      simp only at el
      subst el
      obtain ⟨g2, h2, e, H2, X2, m2⟩ := uncover_ok cl H1 cj (a := (a, z.a)) ⟨ta, cb⟩
      refine ⟨g2, h2, run (t := S12 (some F) i y s (some (.str wOver)) (some (.str [a.1])) (some (.bl a.2.1)) (some (hV a.2.2)) none none none) ?_, H2, X1.trans X2, by omega⟩
      have av : (aCons (eVar 1) (aCons (eTup (aCons (eVar 6) (aCons (eVar 7) (aCons (eFld [n_Stand] f_is_aged (eVar 2)) (aCons (eVar 8) (aNil)))))) (aNil))) (S12 (some F) i y s (some (.str wOver)) (some (.str [a.1])) (some (.bl a.2.1)) (some (hV a.2.2)) none none none) h1 = .ok [F.v, agV (a, z.a)] h1 := by
        generalize y.t = Y at *
        simp [es', ga, szs, lvV, agV]
      have mm : eMeth n_Heads x_uncover 3 m_Heads_uncover (eVar 0) (aCons (eVar 1) (aCons (eTup (aCons (eVar 6) (aCons (eVar 7) (aCons (eFld [n_Stand] f_is_aged (eVar 2)) (aCons (eVar 8) (aNil)))))) (aNil))) (S12 (some F) i y s (some (.str wOver)) (some (.str [a.1])) (some (.bl a.2.1)) (some (hV a.2.2)) none none none) h1 = .ok .non h2 := meth_hd (hd_at H1) (nf_uncover B C sl bh) rfl av rfl e
      rw [if_f (tst wOver (.str []) [] rfl), if_f (tst wOver v_PLAIN wPlain rfl), if_f (tst wOver v_PUT wPut rfl), if_t tp, sExpr_ap, mm]
      rfl
    | false =>
      rw [hp] at tp
      have jr := K.rest z y s pk.1 hy d hp
      rw [← ea] at jr
      obtain ⟨g2, h2, y11, e, H2, X2, m2⟩ := rests_loop cl (l := l) (i := i) (y := y) (s := s) (a := a) (x5 := some (.str wOver)) (x9 := none) (x10 := none) pk.2.1 (restsS bh) g1 h1 none H1 jr
      refine ⟨g2, h2, run (t := S12 l i y s (some (.str wOver)) (some (.str [a.1])) (some (.bl a.2.1)) (some (hV a.2.2)) none none y11) ?_, H2, X1.trans X2, by omega⟩
      have it : (jSeq (eCall 1 m_rests_of (aCons (eFld [n_Heads] f_flags (eVar 0)) (aNil)))) (S12 l i y s (some (.str wOver)) (some (.str [a.1])) (some (.bl a.2.1)) (some (hV a.2.2)) none none none) h1 = .ok (.items ((restsS bh).map fun r => MV.str (fV r))) h1 := by
        have hd := hd_at H1
        have gg : getF f_flags (hdF B C sl bh) = some (.tup [.bl sl, .bl bh]) := rfl
        have fld : eFld [n_Heads] f_flags (eVar 0) (S12 l i y s (some (.str wOver)) (some (.str [a.1])) (some (.bl a.2.1)) (some (hV a.2.2)) none none none) h1 = .ok (.tup [.bl sl, .bl bh]) h1 := by
          have e0 : eVar 0 (S12 l i y s (some (.str wOver)) (some (.str [a.1])) (some (.bl a.2.1)) (some (hV a.2.2)) none none none) h1 = .ok (.ref 0) h1 := rfl
          rw [eFld_ap, e0, bind_ok]
          simp [hd, gg]
        have ca : (eCall 1 m_rests_of (aCons (eFld [n_Heads] f_flags (eVar 0)) (aNil))) (S12 l i y s (some (.str wOver)) (some (.str [a.1])) (some (.bl a.2.1)) (some (hV a.2.2)) none none none) h1 = .ok (.tup ((restsS bh).map fun r => MV.str (fV r))) h1 := by
          rw [eCall_ap, aCons_ap, fld, bind_ok, aNil_ap, bind_ok, bind_ok]
          exact rests_ok sl bh h1
        unfold jSeq
        rw [ca, bind_ok]
      rw [if_f (tst wOver (.str []) [] rfl), if_f (tst wOver v_PLAIN wPlain rfl), if_f (tst wOver v_PUT wPut rfl), if_f tp, for_it it, e]
end
end GXk22

end
section
namespace GXk22
open PySem L2 MP MP.Pg MP.Le MP.Ld
section
variable {B C : Bk} {sl bh : Bool} {J : Zt → Prop}
abbrev flg (sl bh : Bool) : MV := .tup [.bl sl, .bl bh]
abbrev S9 (B C : Bk) (sl bh : Bool) (x4 x5 x6 x7 x8 : Option MV) : Sl := [some (.ref 0), some B.v, some C.v, some (flg sl bh), x4, x5, x6, x7, x8]
theorem nf_press (B C : Bk) (sl bh : Bool) : noF x_press (hdF B C sl bh) = true := rfl
theorem keys_loop (K : Cl B C sl bh J) {l : Option Zt} {i : Nat} {z : Zt} {x4 : Option MV} : ∀ (xs : List (Ky × Bool)) (g : Gh) (h : MH) (x7 x8 : Option MV), (∀ x ∈ xs, x ∈ strikesS z sl) → Hi B C sl bh J g h → g.R[i]? = some (.st z) → Pok J g (l, z) →
    ∃ g' h' y7 y8, forL (gTp 2 (gC (gNm 7) (gC (gNm 8) (gN)))) (sExpr (eMeth n_Heads x_press 5 m_Heads_press (eVar 0) (aCons (eVar 5) (aCons (eVar 6) (aCons (eVar 7) (aCons (eVar 8) (aNil))))))) (xs.map stkV) (S9 B C sl bh x4 (some (lvV l)) (some (.ref i)) x7 x8) h = .nx (S9 B C sl bh x4 (some (lvV l)) (some (.ref i)) y7 y8) h' ∧ Hi B C sl bh J g' h' ∧ mu g' ≤ mu g
  | [], g, h, x7, x8, _, H, _, _ => ⟨g, h, x7, x8, rfl, H, Nat.le_refl _⟩
  | x :: xs, g, h, x7, x8, hx, H, hr, pk => by
    obtain ⟨g1, h1, e, H1, X1, m1⟩ := press_heads K H hr pk (y := x.1) (s := x.2) (hx x List.mem_cons_self)
    obtain ⟨g2, h2, y7, y8, e2, H2, m2⟩ := keys_loop K (l := l) (i := i) (x4 := x4) xs g1 h1 (some (.str x.1.t)) (some (.bl x.2)) (fun q hq => hx q (List.mem_cons_of_mem _ hq)) H1 (X1.R _ _ hr) (pk.ext X1)
    refine ⟨g2, h2, y7, y8, ?_, H2, Nat.le_trans m2 m1⟩
    have b : (sExpr (eMeth n_Heads x_press 5 m_Heads_press (eVar 0) (aCons (eVar 5) (aCons (eVar 6) (aCons (eVar 7) (aCons (eVar 8) (aNil))))))) (S9 B C sl bh x4 (some (lvV l)) (some (.ref i)) (some (.str x.1.t)) (some (.bl x.2))) h = .nx (S9 B C sl bh x4 (some (lvV l)) (some (.ref i)) (some (.str x.1.t)) (some (.bl x.2))) h1 := by
      have mm : eMeth n_Heads x_press 5 m_Heads_press (eVar 0) (aCons (eVar 5) (aCons (eVar 6) (aCons (eVar 7) (aCons (eVar 8) (aNil))))) (S9 B C sl bh x4 (some (lvV l)) (some (.ref i)) (some (.str x.1.t)) (some (.bl x.2))) h = .ok .non h1 := meth_hd (hd_at H) (nf_press B C sl bh) rfl (xs := [lvV l, .ref i, .str x.1.t, .bl x.2]) (h2 := h) rfl rfl e
      rw [sExpr_ap, mm]
      rfl
    rw [List.map_cons, N1.forL_nx (s1 := S9 B C sl bh x4 (some (lvV l)) (some (.ref i)) (some (.str x.1.t)) (some (.bl x.2))) rfl b]
    exact e2
def wT : MT := tAndM (tCmp mNe (eFld [n_Heads] f_waiting (eVar 0)) (eLstV (aNil))) (tNotM (tVal (eFld [n_Heads] f_is_unlike (eVar 0))))
def wB : MS := sSeq (sAsg (eBm .list mPop (eFld [n_Heads] f_waiting (eVar 0)) aNil) (gTp 2 (gC (gNm 5) (gC (gNm 6) (gN))))) (sFor (jSeq (eMeth n_Stand x_strikes 2 m_Stand_strikes (eVar 6) (aCons (eOp mIx (eFld [n_Heads] f_flags (eVar 0)) (eC (.int 0))) (aNil)))) (gTp 2 (gC (gNm 7) (gC (gNm 8) (gN)))) (sExpr (eMeth n_Heads x_press 5 m_Heads_press (eVar 0) (aCons (eVar 5) (aCons (eVar 6) (aCons (eVar 7) (aCons (eVar 8) (aNil))))))))
theorem fld0 {h : MH} (h0 : h[0]? = some (.ins n_Heads (hdF B C sl bh))) {f : CP} {v : MV} (gf : getF f (hdF B C sl bh) = some v) (x4 x5 x6 x7 x8 : Option MV) : eFld [n_Heads] f (eVar 0) (S9 B C sl bh x4 x5 x6 x7 x8) h = .ok v h := by
  have e0 : eVar 0 (S9 B C sl bh x4 x5 x6 x7 x8) h = .ok (.ref 0) h := rfl
  rw [eFld_ap, e0, bind_ok]
  simp only [h0]
  simp [gf]
theorem wT_ok {g : Gh} {h : MH} (H : Hi B C sl bh J g h) (x4 x5 x6 x7 x8 : Option MV) : wT (S9 B C sl bh x4 x5 x6 x7 x8) h = .ok (!g.WL.isEmpty) h := by
  have hd := hd_at H
  have gw : getF f_waiting (hdF B C sl bh) = some (.ref 4) := rfl
  have gu : getF f_is_unlike (hdF B C sl bh) = some (.bl false) := rfl
  have q := eqv_refN (n := 4) (h := h) (xs := g.WL.map wV) (by simp [lstAt, H.o4])
  unfold wT
  rw [tAndM_ap, tCmp_ap, fld0 hd gw, bind_ok]
  have ln : (eLstV aNil) (S9 B C sl bh x4 x5 x6 x7 x8) h = .ok (.lv []) h := rfl
  rw [ln, bind_ok, mNe_ap, q]
  simp only [Option.map_some, List.isEmpty_map]
  rw [bind_ok, tNotM_ap, tVal_ap, fld0 hd gu]
  cases g.WL.isEmpty <;> rfl
theorem wB_ok (K : Cl B C sl bh J) {g : Gh} {h : MH} (H : Hi B C sl bh J g h) (ne : g.WL ≠ []) (x4 x5 x6 x7 x8 : Option MV) :
    ∃ g' h' y5 y6 y7 y8, wB (S9 B C sl bh x4 x5 x6 x7 x8) h = .nx (S9 B C sl bh x4 y5 y6 y7 y8) h' ∧ Hi B C sl bh J g' h' ∧ mu g' + 1 ≤ mu g := by
  obtain ⟨W, ⟨l, i⟩, eW⟩ := (List.eq_nil_or_concat g.WL).resolve_left ne
  have eW : g.WL = W ++ [(l, i)] := by simpa using eW
  have hd := hd_at H
  have gw : getF f_waiting (hdF B C sl bh) = some (.ref 4) := rfl
  have gf : getF f_flags (hdF B C sl bh) = some (flg sl bh) := rfl
  obtain ⟨z, hr, pk⟩ := H.pw (l, i) (by rw [eW]; simp)
  have l4 := get_lt H.o4
  have pop : mPop (.ref 4) [] h = some (wV (l, i), h.set 4 (.lst (W.map wV))) := by
    have o4 := H.o4
    rw [eW, List.map_append, List.map_singleton] at o4
    simp only [mPop, o4]
    have : (W.map wV ++ [wV (l, i)])[(W.map wV ++ [wV (l, i)]).length - 1]? = some (wV (l, i)) := by simp
    rw [this]
    simp
  let g1 : Gh := { g with WL := W }
  have X : Ext g g1 := ⟨fun _ _ q => q, fun _ q => q⟩
  have keep : ∀ (q : Nat), q ≠ 4 → (h.set 4 (MO.lst (W.map wV)))[q]? = h[q]? := fun q a => List.getElem?_set_ne (Ne.symm a)
  have H1 : Hi B C sl bh J g1 (h.set 4 (MO.lst (W.map wV))) := by
    refine ⟨by rw [List.length_set]; exact H.len, H.fx, by rw [keep 0 (by omega)]; exact H.o0, by rw [keep 1 (by omega)]; exact H.o1, by rw [keep 2 (by omega)]; exact H.o2, by rw [keep 3 (by omega)]; exact H.o3, by rw [List.getElem?_set_self l4], by rw [keep 5 (by omega)]; exact H.o5, H.nk, fun x hx => (H.pk x hx).ext X, H.nu, H.pu, H.nc, H.pc, fun x hx => ?_, ?_, H.nd, H.pd, fun q w e => ?_, fun q e => ?_, fun q e => ?_⟩
    · obtain ⟨w, a, b⟩ := H.pw x (by rw [eW]; exact List.mem_append_left _ hx)
      exact ⟨w, a, b.ext X⟩
    · have := H.lw
      rw [eW, List.length_append, List.length_singleton] at this
      show W.length ≤ g.KL.length
      omega
    · have := H.six e (by intro z; cases z)
      rw [keep q (by omega)]
      exact H.rs q w e
    · have := H.six e (by intro z; cases z)
      rw [keep q (by omega)]
      exact (H.rc q e).ext X
    · have := H.six e (by intro z; cases z)
      rw [keep q (by omega)]
      exact H.ru q e
  have m1 : mu g1 + 1 ≤ mu g := by
    unfold mu
    rw [eW, List.length_append, List.length_singleton]
    show 2 * (6230448 - g.KL.length) + W.length + 1 ≤ _
    omega
  have hd1 := hd_at H1
  have es := H1.rs i z hr
  have so := strikes_ok (z := z) sl es
  obtain ⟨g2, h2, y7, y8, e2, H2, m2⟩ := keys_loop K (l := l) (i := i) (x4 := x4) (strikesS z sl) g1 _ x7 x8 (fun x hx => hx) H1 hr (pk.ext X)
  refine ⟨g2, h2, some (lvV l), some (.ref i), y7, y8, ?_, H2, by omega⟩
  have rc : isRcv .list (.ref 4) h = true := by simp [isRcv, lstAt, H.o4]
  have s0 : (sAsg (eBm .list mPop (eFld [n_Heads] f_waiting (eVar 0)) aNil) (gTp 2 (gC (gNm 5) (gC (gNm 6) (gN))))) (S9 B C sl bh x4 x5 x6 x7 x8) h = .nx (S9 B C sl bh x4 (some (lvV l)) (some (.ref i)) x7 x8) (h.set 4 (MO.lst (W.map wV))) := by
    rw [sAsg_ap, eBm_ap, fld0 hd gw, bind_ok, if_pos rc, aNil_ap, bind_ok, pop]
    rfl
  have it : (jSeq (eMeth n_Stand x_strikes 2 m_Stand_strikes (eVar 6) (aCons (eOp mIx (eFld [n_Heads] f_flags (eVar 0)) (eC (.int 0))) (aNil)))) (S9 B C sl bh x4 (some (lvV l)) (some (.ref i)) x7 x8) (h.set 4 (MO.lst (W.map wV))) = .ok (.items ((strikesS z sl).map stkV)) (h.set 4 (MO.lst (W.map wV))) := by
    have i0 : mIx (flg sl bh) (.int 0) (h.set 4 (MO.lst (W.map wV))) = some (.bl sl, h.set 4 (MO.lst (W.map wV))) := rfl
    have av : (aCons (eOp mIx (eFld [n_Heads] f_flags (eVar 0)) (eC (.int 0))) (aNil)) (S9 B C sl bh x4 (some (lvV l)) (some (.ref i)) x7 x8) (h.set 4 (MO.lst (W.map wV))) = .ok [.bl sl] (h.set 4 (MO.lst (W.map wV))) := by
      rw [aCons_ap, eOp_ap, fld0 hd1 gf, bind_ok, eC_ap, bind_ok, i0]
      rfl
    have mm : eMeth n_Stand x_strikes 2 m_Stand_strikes (eVar 6) (aCons (eOp mIx (eFld [n_Heads] f_flags (eVar 0)) (eC (.int 0))) (aNil)) (S9 B C sl bh x4 (some (lvV l)) (some (.ref i)) x7 x8) (h.set 4 (MO.lst (W.map wV))) = .ok (.lv ((strikesS z sl).map stkV)) (h.set 4 (MO.lst (W.map wV))) := meth_stA (w := z) rfl es rfl av rfl so
    unfold jSeq
    rw [mm, bind_ok]
  unfold wB
  rw [seq_nx s0, for_it it, e2]
theorem w_loop (K : Cl B C sl bh J) : ∀ (n fuel : Nat) (g : Gh) (h : MH) (x4 x5 x6 x7 x8 : Option MV), mu g ≤ n → n < fuel → Hi B C sl bh J g h →
    ∃ g' h' y5 y6 y7 y8, whileM wT wB fuel (S9 B C sl bh x4 x5 x6 x7 x8) h = .nx (S9 B C sl bh x4 y5 y6 y7 y8) h' ∧ Hi B C sl bh J g' h'
  | n, 0, _, _, _, _, _, _, _, _, hf, _ => absurd hf (Nat.not_lt_zero _)
  | n, f + 1, g, h, x4, x5, x6, x7, x8, hm, hf, H => by
    rw [whileM_succ, wT_ok H, bindS_ok]
    by_cases ne : g.WL = []
    · rw [ne]
      exact ⟨g, h, x5, x6, x7, x8, rfl, H⟩
    · have e1 : (!g.WL.isEmpty) = true := by
        cases q : g.WL with
        | nil => exact absurd q ne
        | cons _ _ => rfl
      rw [e1, if_pos rfl]
      obtain ⟨g1, h1, y5, y6, y7, y8, e, H1, m1⟩ := wB_ok K H ne x4 x5 x6 x7 x8
      rw [e]
      cases n with
      | zero => omega
      | succ n => exact w_loop K n f g1 h1 x4 y5 y6 y7 y8 (by omega) (by omega) H1
end
end GXk22

end
section
namespace GXk22
open PySem L2 MP MP.Pg MP.Le MP.Ld
theorem nb_eq : m_need_book = Px.m_need_book := rfl
section
variable {B C : Bk} {sl bh : Bool} {J : Zt → Prop}
theorem roots_loop (K : Cl B C sl bh J) : ∀ (rs : List (Option Nat)) (g : Gh) (h : MH) (x4 : Option MV), Hi B C sl bh J g h → (∀ r ∈ rs, J ⟨32, false, r, false, false, none⟩) →
    ∃ g' h' y4, forL (gNm 4) (sExpr (eMeth n_Heads x_come 3 m_Heads_come (eVar 0) (aCons (eC (.str [])) (aCons (eMake n_Stand 7 m_Stand___init__ (aCons (eC v_BLANK) (aCons (eC (.bl false)) (aCons (eVar 4) (aCons (eC (.bl false)) (aCons (eC (.bl false)) (aCons (eTup (aNil)) (aNil)))))))) (aNil))))) (rs.map fun r => MV.str (fV r)) (S9 B C sl bh x4 none none none none) h = .nx (S9 B C sl bh y4 none none none none) h' ∧ Hi B C sl bh J g' h' ∧ mu g' ≤ mu g
  | [], g, h, x4, H, _ => ⟨g, h, x4, rfl, H, Nat.le_refl _⟩
  | r :: rs, g, h, x4, H, hj => by
    have pk : Pok J g (none, ⟨32, false, r, false, false, none⟩) := ⟨hj r List.mem_cons_self, trivial, fun z => by cases z⟩
    obtain ⟨H1, X1⟩ := H.stand ⟨32, false, r, false, false, none⟩
    have hr : (g.R ++ [Ro.st ⟨32, false, r, false, false, none⟩])[h.length]? = some (.st ⟨32, false, r, false, false, none⟩) := by rw [← H.len]; simp
    obtain ⟨g1, h1, e, H2, X2, _, m1⟩ := come_ok K.ty H1 (i := h.length) hr (pk.ext X1)
    obtain ⟨g2, h2, y4, e2, H3, m2⟩ := roots_loop K rs g1 h1 (some (.str (fV r))) H2 fun q hq => hj q (List.mem_cons_of_mem _ hq)
    refine ⟨g2, h2, y4, ?_, H3, Nat.le_trans m2 m1⟩
    have mk := make_st (h := h) (s := S9 B C sl bh (some (.str (fV r))) none none none none) (a := (aCons (eC v_BLANK) (aCons (eC (.bl false)) (aCons (eVar 4) (aCons (eC (.bl false)) (aCons (eC (.bl false)) (aCons (eTup (aNil)) (aNil)))))))) ⟨32, false, r, false, false, none⟩ rfl
    have av : (aCons (eC (.str [])) (aCons (eMake n_Stand 7 m_Stand___init__ (aCons (eC v_BLANK) (aCons (eC (.bl false)) (aCons (eVar 4) (aCons (eC (.bl false)) (aCons (eC (.bl false)) (aCons (eTup (aNil)) (aNil)))))))) (aNil))) (S9 B C sl bh (some (.str (fV r))) none none none none) h = .ok [lvV none, .ref h.length] (h ++ [Zt.ob ⟨32, false, r, false, false, none⟩]) := by
      rw [aCons_ap, eC_ap, bind_ok, aCons_ap, mk]
      rfl
    have b : (sExpr (eMeth n_Heads x_come 3 m_Heads_come (eVar 0) (aCons (eC (.str [])) (aCons (eMake n_Stand 7 m_Stand___init__ (aCons (eC v_BLANK) (aCons (eC (.bl false)) (aCons (eVar 4) (aCons (eC (.bl false)) (aCons (eC (.bl false)) (aCons (eTup (aNil)) (aNil)))))))) (aNil))))) (S9 B C sl bh (some (.str (fV r))) none none none none) h = .nx (S9 B C sl bh (some (.str (fV r))) none none none none) h1 := by
      have mm := meth_hd (hd_at H) (nf_come B C sl bh) (s := S9 B C sl bh (some (.str (fV r))) none none none none) (np := 3) (m := m_Heads_come) rfl av rfl e
      rw [sExpr_ap, mm]
      rfl
    rw [List.map_cons, N1.forL_nx (s1 := S9 B C sl bh (some (.str (fV r))) none none none none) rfl b]
    exact e2
def g0 : Gh := ⟨[.fix, .fix, .fix, .fix, .fix, .fix], [], [], [], [], []⟩
def h0 (B C : Bk) (sl bh : Bool) : MH := [hdO B C sl bh, .dT [], .dT [], .dT [], .lst [], .dT []]
theorem no_role {i : Nat} {r : Ro} (e : g0.R[i]? = some r) : r = .fix := by
  have := List.mem_of_getElem? e
  simp [g0] at this
  exact this
theorem start (B C : Bk) (sl bh : Bool) (J : Zt → Prop) : Hi B C sl bh J g0 (h0 B C sl bh) :=
  ⟨rfl, fun i hi => by
    match i, hi with
    | 0, _ | 1, _ | 2, _ | 3, _ | 4, _ | 5, _ => rfl, rfl, rfl, rfl, rfl, rfl, rfl, List.nodup_nil, fun x hx => (nomatch hx), List.nodup_nil, fun x hx => (nomatch hx), List.nodup_nil, fun x hx => (nomatch hx), fun x hx => (nomatch hx), Nat.le_refl _, List.nodup_nil, fun x hx => (nomatch hx), fun i z e => (nomatch no_role e), fun i e => (nomatch no_role e), fun i e => (nomatch no_role e)⟩
theorem heads_ok (K : Cl B C sl bh J) : ∃ h', m_Heads___init__ [.ref 0, B.v, C.v, flg sl bh] [.ins n_Heads []] = .ok .non h' ∧ h'[0]? = some (hdO B C sl bh) := by
  have H0 := start B C sl bh J
  obtain ⟨g1, h1, y4, e1, H1, m1⟩ := roots_loop K (restsS bh) g0 (h0 B C sl bh) none H0 K.root
  have mb : mu g1 ≤ 12460896 := m1
  obtain ⟨g2, h2, y5, y6, y7, y8, e2, H2⟩ := w_loop K 12460896 bigF g1 h1 y4 none none none none mb (by unfold bigF; omega) H1
  refine ⟨h2, ?_, H2.o0⟩
  have it : (jSeq (eCall 1 m_rests_of (aCons (eVar 3) (aNil)))) (S9 B C sl bh none none none none none) (h0 B C sl bh) = .ok (.items ((restsS bh).map fun r => MV.str (fV r))) (h0 B C sl bh) := by
    have ca : (eCall 1 m_rests_of (aCons (eVar 3) (aNil))) (S9 B C sl bh none none none none none) (h0 B C sl bh) = .ok (.tup ((restsS bh).map fun r => MV.str (fV r))) (h0 B C sl bh) := by
      have e3 : eVar 3 (S9 B C sl bh none none none none none) (h0 B C sl bh) = .ok (flg sl bh) (h0 B C sl bh) := rfl
      rw [eCall_ap, aCons_ap, e3, bind_ok, aNil_ap, bind_ok, bind_ok]
      exact rests_ok sl bh _
    unfold jSeq
    rw [ca, bind_ok]
  show (match b_Heads___init__ (S9 B C sl bh none none none none none) [.ins n_Heads []] with
    | .rt v h' => R.ok v h'
    | .nx _ h' => .ok .non h'
    | .err e _ h' => .err e h'
    | _ => .stuck) = _
  have run : b_Heads___init__ (S9 B C sl bh none none none none none) [.ins n_Heads []] = .nx (S9 B C sl bh y4 y5 y6 y7 y8) h2 := by
    have fs : ∀ rest : MS, (sSeq (sFldM [n_Heads] f_books (eVar 0) (eTup (aCons (eVar 1) (aCons (eVar 2) (aNil))))) (sSeq (sFldM [n_Heads] f_flags (eVar 0) (eVar 3)) (sSeq (sFldM [n_Heads] f_known (eVar 0) (eDictT)) (sSeq (sFldM [n_Heads] f_uncovered (eVar 0) (eDictT)) (sSeq (sFldM [n_Heads] f_covering (eVar 0) (eDictT)) (sSeq (sFldM [n_Heads] f_waiting (eVar 0) (eLst (aNil))) (sSeq (sFldM [n_Heads] f_deeds (eVar 0) (eDictT)) (sSeq (sFldM [n_Heads] f_is_unlike (eVar 0) (eC (.bl false))) rest)))))))) (S9 B C sl bh none none none none none) [.ins n_Heads []] = rest (S9 B C sl bh none none none none none) (h0 B C sl bh) := fun rest => rfl
    unfold b_Heads___init__
    rw [fs, seq_nx (t := S9 B C sl bh y4 none none none none) (g := h1) (by rw [for_it it]; exact e1)]
    exact e2
  rw [run]
theorem alike_ok (K : Cl B C sl bh J) (bo : B.Ok) (co : C.Ok) : ∃ h', m_are_alike [B.v, C.v, flg sl bh] [] = .ok (.bl true) h' := by
  obtain ⟨h', e, e0⟩ := heads_ok K
  have nb := N5.need_book_okX bo []
  have nc := N5.need_book_okX co []
  rw [← nb_eq] at nb nc
  have nf : m_need_flags [flg sl bh] [] = .ok (flg sl bh) [] := by cases sl <;> cases bh <;> rfl
  refine ⟨h', ?_⟩
  have mk : eMake n_Heads 4 m_Heads___init__ (aCons (eVar 0) (aCons (eVar 1) (aCons (eVar 2) (aNil)))) [some B.v, some C.v, some (flg sl bh)] [] = .ok (.ref 0) h' := by
    have av : (aCons (eVar 0) (aCons (eVar 1) (aCons (eVar 2) (aNil)))) [some B.v, some C.v, some (flg sl bh)] [] = .ok [B.v, C.v, flg sl bh] [] := rfl
    rw [eMake_ap, av, bind_ok, if_pos (by rfl)]
    show ((m_Heads___init__ [.ref 0, B.v, C.v, flg sl bh] [.ins n_Heads []]).bind _) = _
    rw [e]
    rfl
  have e0' : h'[0]? = some (.ins n_Heads (hdF B C sl bh)) := e0
  have gu : getF f_is_unlike (hdF B C sl bh) = some (.bl false) := rfl
  have s0 : (sExpr (eCall 1 m_need_book (aCons (eVar 0) (aNil)))) [some B.v, some C.v, some (flg sl bh)] [] = .nx [some B.v, some C.v, some (flg sl bh)] [] := by
    have ca : (eCall 1 m_need_book (aCons (eVar 0) (aNil))) [some B.v, some C.v, some (flg sl bh)] [] = m_need_book [B.v] [] := rfl
    rw [sExpr_ap, ca, nb]; rfl
  have s1 : (sExpr (eCall 1 m_need_book (aCons (eVar 1) (aNil)))) [some B.v, some C.v, some (flg sl bh)] [] = .nx [some B.v, some C.v, some (flg sl bh)] [] := by
    have ca : (eCall 1 m_need_book (aCons (eVar 1) (aNil))) [some B.v, some C.v, some (flg sl bh)] [] = m_need_book [C.v] [] := rfl
    rw [sExpr_ap, ca, nc]; rfl
  have s2 : (sExpr (eCall 1 m_need_flags (aCons (eVar 2) (aNil)))) [some B.v, some C.v, some (flg sl bh)] [] = .nx [some B.v, some C.v, some (flg sl bh)] [] := by
    have ca : (eCall 1 m_need_flags (aCons (eVar 2) (aNil))) [some B.v, some C.v, some (flg sl bh)] [] = m_need_flags [flg sl bh] [] := rfl
    rw [sExpr_ap, ca, nf]; rfl
  show (match b_are_alike [some B.v, some C.v, some (flg sl bh)] [] with
    | .rt v h' => R.ok v h'
    | .nx _ h' => .ok .non h'
    | .err e _ h' => .err e h'
    | _ => .stuck) = _
  unfold b_are_alike
  rw [seq_nx s0, seq_nx s1, seq_nx s2, sRet_ap, eNot_ap, eFld_ap, mk, bind_ok]
  simp only [e0']
  simp [gu]
theorem p_alike (K : Cl B C sl bh J) (bo : B.Ok) (co : C.Ok) (g : MH) : p_are_alike [B.v, C.v, flg sl bh] g = .ok (.bl true) g := pure_of rfl rfl (alike_ok K bo co) g
theorem p_part (K : Cl B C sl bh J) (bo : B.Ok) (co : C.Ok) (g : MH) : p_parting [B.v, C.v, flg sl bh] g = .ok .non g := by
  obtain ⟨h', e⟩ := alike_ok K bo co
  refine pure_of rfl rfl ⟨h', ?_⟩ g
  have ca : (eCall 3 m_are_alike (aCons (eVar 0) (aCons (eVar 1) (aCons (eVar 2) (aNil))))) [some B.v, some C.v, some (flg sl bh), none, none, none, none, none, none, none, none, none, none] [] = .ok (.bl true) h' := e
  have s0 : (sIf (tVal (eCall 3 m_are_alike (aCons (eVar 0) (aCons (eVar 1) (aCons (eVar 2) (aNil)))))) (sRet (eC .non)) (sNil)) [some B.v, some C.v, some (flg sl bh), none, none, none, none, none, none, none, none, none, none] [] = .rt .non h' := by
    rw [sIf_ap, tVal_ap, ca]
    rfl
  show (match b_parting [some B.v, some C.v, some (flg sl bh), none, none, none, none, none, none, none, none, none, none] [] with
    | .rt v h' => R.ok v h'
    | .nx _ h' => .ok .non h'
    | .err e _ h' => .err e h'
    | _ => .stuck) = _
  unfold b_parting
  rw [sSeq_ap, s0]
end
end GXk22

end
section
namespace GXk22
open PySem L2 MP MP.Pg MP.Le MP.Ld
section
variable {B C : Bk} {z : Zt}
theorem nx_rgt (B : Bk) (z : Zt) : nx (z.rgt B) = z.f := by
  unfold Zt.rgt
  split <;> simp_all [nx]
def owS (B : Bk) (z : Zt) : Bool := z.f.isSome && z.own B
theorem ow_rgt (B : Bk) (z : Zt) : ow (z.rgt B) = owS B z := by
  unfold Zt.rgt owS
  split <;> simp_all [ow]
theorem len_rgt (B : Bk) (z : Zt) : (z.rgt B).length = (fV z.f).length := by
  unfold Zt.rgt
  split <;> simp_all [fV]
def putS (B : Bk) (z : Zt) (c : Nat) : Bool := (closerN c).isSome && doesPut B z.lft (z.rgt B) c
def overSg (B : Bk) (z : Zt) (c : Nat) : Bool := closing c && z.f == some c && lets B.d (owS B z)
theorem deed_sg (B : Bk) (z : Zt) (c : Nat) : deedS B z (.sg c) = if overSg B z c then wOver else if putS B z c then wPut else wPlain := by
  have ln := len_rgt B z
  unfold deedS overSg putS
  simp only [pressS, typeS, nx_rgt, ow_rgt]
  cases h1 : (closing c && z.f == some c && lets B.d (owS B z)) with
  | true =>
    simp only [if_true]
    have hf : z.f = some c := by
      simp only [Bool.and_eq_true, beq_iff_eq] at h1
      exact h1.1.2
    rw [List.length_tail, ln, hf]
    rfl
  | false =>
    simp only [Bool.false_eq_true, if_false]
    cases hk : closerN c with
    | none =>
      simp only [Option.isSome_none, Bool.false_and, Bool.false_eq_true, if_false]
      have : (if (c == 47 && B.f == wLine) = true then (z.rgt B).map (fun p => (p.1, false)) else z.rgt B).length = (fV z.f).length := by
        split
        · rw [List.length_map, ln]
        · exact ln
      rw [if_pos this]
    | some k =>
      simp only [Option.isSome_some, Bool.true_and]
      cases hp : doesPut B z.lft (z.rgt B) c with
      | true =>
        simp only [if_true]
        have : (if (c == 47 && B.f == wLine) = true then ((k, true) :: z.rgt B).map (fun p => (p.1, false)) else (k, true) :: z.rgt B).length = (fV z.f).length + 1 := by
          split
          · rw [List.length_map, List.length_cons, ln]
          · rw [List.length_cons, ln]
        rw [this, if_neg (by omega), if_pos (by omega)]
      | false =>
        simp only [Bool.false_eq_true, if_false]
        have : (if (c == 47 && B.f == wLine) = true then (z.rgt B).map (fun p => (p.1, false)) else z.rgt B).length = (fV z.f).length := by
          split
          · rw [List.length_map, ln]
          · exact ln
        rw [if_pos this]
def overBk (B : Bk) (z : Zt) (c : Nat) : Bool := match closerN c with
  | some k => z.f == some k && lets B.e (owS B z)
  | none => false
theorem deed_back {c b : Nat} {o : Bool} (hh : z.h = some (c, b, o)) : deedS B z .back = if overBk B z c then wOver else wPlain := by
  have ln := len_rgt B z
  have gl : z.lft.getLast? = some c := by
    unfold Zt.lft
    rw [hh]
    simp
  have pr : (pressS B z.lft (z.rgt B) .back).2 = if overBk B z c then (z.rgt B).tail else z.rgt B := by
    simp only [pressS, backS, gl]
    unfold overBk backR
    cases hk : closerN c with
    | none => rfl
    | some k =>
      simp only [nx_rgt, ow_rgt]
  unfold deedS
  rw [pr]
  cases h1 : overBk B z c with
  | false =>
    simp only [Bool.false_eq_true, if_false]
    rw [if_pos ln]
  | true =>
    simp only [if_true]
    have hf : z.f.isSome = true := by
      unfold overBk at h1
      cases hk : closerN c with
      | none => rw [hk] at h1; cases h1
      | some k =>
        rw [hk] at h1
        simp only [Bool.and_eq_true, beq_iff_eq] at h1
        rw [h1.1]; rfl
    have l1 : (fV z.f).length = 1 := by
      cases q : z.f with
      | none => rw [q] at hf; cases hf
      | some k => rfl
    have l2 : (z.rgt B).tail.length = 0 := by rw [List.length_tail, ln, l1]
    rw [l2, l1]
    rfl
end
theorem kind_ty (c : Nat) : kindB c ∈ bs3 := by
  unfold kindB bs3
  split
  · simp
  · split <;> simp
theorem mem_hs {c b : Nat} {o : Bool} : some (c, b, o) ∈ hs49 ↔ c ∈ struck ∧ b ∈ bs3 := by
  unfold hs49
  simp only [List.mem_cons, reduceCtorEq, false_or, List.mem_flatMap, List.not_mem_nil, or_false, Option.some.injEq, Prod.mk.injEq]
  constructor
  · rintro ⟨c', hc, b', hb, h | h⟩
    · obtain ⟨rfl, rfl, _⟩ := h; exact ⟨hc, hb⟩
    · obtain ⟨rfl, rfl, _⟩ := h; exact ⟨hc, hb⟩
  · rintro ⟨hc, hb⟩
    refine ⟨c, hc, b, hb, ?_⟩
    cases o
    · exact .inr ⟨rfl, rfl, rfl⟩
    · exact .inl ⟨rfl, rfl, rfl⟩
theorem beh_ty {z : Zt} {y : Ky} {s sl : Bool} (t : Ty z) (hy : (y, s) ∈ strikesS z sl) : (behS z y s).1 ∈ bs3 ∧ (behS z y s).2.2 ∈ hs49 ∧ (sl = false → (behS z y s).2.2 = none) := by
  obtain ⟨cy, cs⟩ := strikes_can _ hy
  have cs : s = true → sl = true := cs
  unfold Can at cy
  cases hh : z.h with
  | some q =>
    obtain ⟨c, b, o⟩ := q
    rw [hh] at cy
    simp only at cy
    subst cy
    have := t.h
    rw [hh, mem_hs] at this
    simp only [behS, hh]
    exact ⟨this.2, List.mem_cons_self, fun _ => trivial⟩
  | none =>
    rw [hh] at cy
    simp only at cy
    obtain ⟨c, hc, rfl⟩ := cy
    simp only [behS]
    cases s with
    | false => exact ⟨kind_ty c, List.mem_cons_self, fun _ => rfl⟩
    | true => exact ⟨kind_ty c, mem_hs.mpr ⟨hc, t.b⟩, fun e => by rw [cs rfl] at e; cases e⟩
theorem closer_mem {c : Nat} (h : (closerN c).isSome = true) : closerN c ∈ [some 41, some 93, some 39] := by
  unfold closerN at *
  split
  · simp
  · split
    · simp
    · split
      · simp
      · simp_all
theorem rests_fs {bh : Bool} {r : Option Nat} (h : r ∈ restsS bh) : r ∈ fs6 := by
  cases bh
  · have : r = none := by simpa [restsS] using h
    rw [this]; simp [fs6]
  · exact h
def JP (sl : Bool) (P : Option Nat → Bool → Prop) (z : Zt) : Prop := Ty z ∧ P z.f z.p ∧ (sl = false → z.h = none)
theorem cl_of {B C : Bk} {sl bh : Bool} {P : Option Nat → Bool → Prop} (same : ∀ z y s, JP sl P z → (y, s) ∈ strikesS z sl → deedS C z y = deedS B z y) (root : ∀ r ∈ restsS bh, P r false)
    (put : ∀ z c, JP sl P z → putS B z c = true → P (closerN c) true) : Cl B C sl bh (JP sl P) := by
  have fc : ∀ r : Option Nat, r ∈ [some 41, some 93, some 39] → r ∈ fs6 := fun r hr => by
    simp only [List.mem_cons, List.not_mem_nil, or_false] at hr
    rcases hr with rfl | rfl | rfl <;> simp [fs6]
  refine ⟨fun z j => j.1, same, fun r hr => ⟨⟨by simp [bs3], rests_fs hr, List.mem_cons_self⟩, root r hr, fun _ => rfl⟩, fun z y s j hy _ => ?_, fun z y s j hy d => ?_, fun z y s j hy _ _ r hr => ?_, fun z y s j hy _ _ => ?_⟩
  · obtain ⟨t1, t2, t3⟩ := beh_ty j.1 hy
    exact ⟨⟨t1, j.1.f, t2⟩, j.2.1, t3⟩
  · obtain ⟨t1, t2, t3⟩ := beh_ty j.1 hy
    obtain ⟨cy, _⟩ := strikes_can _ hy
    unfold Can at cy
    cases hh : z.h with
    | some q =>
      obtain ⟨c, b, o⟩ := q
      rw [hh] at cy
      simp only at cy
      subst cy
      rw [deed_back hh] at d
      split at d <;> cases d
    | none =>
      rw [hh] at cy
      simp only at cy
      obtain ⟨c, hc, rfl⟩ := cy
      rw [deed_sg] at d
      split at d
      · cases d
      · split at d
        · rename_i hp
          have ks : (closerN c).isSome = true := by
            unfold putS at hp
            rw [Bool.and_eq_true] at hp
            exact hp.1
          have cm := closer_mem ks
          exact ⟨⟨c, hc, rfl⟩, ⟨⟨t1, fc _ cm, t2⟩, put z c j hp, t3⟩, cm⟩
        · cases d
  · obtain ⟨t1, t2, t3⟩ := beh_ty j.1 hy
    exact ⟨⟨t1, rests_fs hr, t2⟩, root r hr, t3⟩
  · obtain ⟨t1, t2, t3⟩ := beh_ty j.1 hy
    exact ⟨⟨t1, t2⟩, fun w jw => ⟨⟨t1, jw.1.f, t2⟩, jw.2.1, t3⟩⟩
theorem by_key {B C : Bk} {sl : Bool} {P : Option Nat → Bool → Prop} (h1 : ∀ z c, JP sl P z → overSg C z c = overSg B z c ∧ putS C z c = putS B z c) (h2 : ∀ z c, JP sl P z → sl = true → overBk C z c = overBk B z c) : ∀ z y s, JP sl P z → (y, s) ∈ strikesS z sl → deedS C z y = deedS B z y := by
  intro z y s j hy
  obtain ⟨cy, _⟩ := strikes_can _ hy
  unfold Can at cy
  cases hh : z.h with
  | some q =>
    obtain ⟨c, b, o⟩ := q
    rw [hh] at cy
    simp only at cy
    subst cy
    have st : sl = true := by
      cases q : sl with
      | true => rfl
      | false =>
        have := j.2.2 q
        rw [hh] at this
        cases this
    rw [deed_back hh, deed_back hh, h2 z c j st]
  | none =>
    rw [hh] at cy
    simp only at cy
    obtain ⟨c, hc, rfl⟩ := cy
    rw [deed_sg, deed_sg, (h1 z c j).1, (h1 z c j).2]
theorem put_eq {B C : Bk} (ha : C.a = B.a) (hb : C.b = B.b) (hc : C.c = B.c) (z : Zt) (c : Nat) : putS C z c = putS B z c := by
  unfold putS doesPut
  simp only [nx_rgt, ha, hb, hc]
theorem ow_eq {B C : Bk} (hf : C.f = B.f) (z : Zt) : owS C z = owS B z := by
  unfold owS Zt.own
  rw [hf]
theorem ow_no {B : Bk} {z : Zt} (hp : z.p = false) : owS B z = false := by
  unfold owS Zt.own
  rw [hp]
  simp
abbrev PT : Option Nat → Bool → Prop := fun _ _ => True
abbrev PN : Option Nat → Bool → Prop := fun _ p => p = false
abbrev PE : Option Nat → Bool → Prop := fun f p => f = none ∧ p = false
abbrev PC : Option Nat → Bool → Prop := fun f _ => f ∈ [none, some 41, some 93, some 39]
theorem cl_back {B C : Bk} (bh : Bool) (ha : C.a = B.a) (hb : C.b = B.b) (hc : C.c = B.c) (hd : C.d = B.d) (hf : C.f = B.f) : Cl B C false bh (JP false PT) :=
  cl_of (by_key (fun z c _ => ⟨by unfold overSg; rw [hd, ow_eq hf], put_eq ha hb hc z c⟩) fun z c _ q => by cases q) (fun _ _ => trivial) fun _ _ _ _ => trivial
theorem cl_forget {B C : Bk} (bh : Bool) (ha : C.a = B.a) (hb : C.b = B.b) (hc : C.c = B.c) (hd : C.d = B.d) (h : B.d ∈ [wAny, wNever]) : Cl B C false bh (JP false PT) := by
  have lt : ∀ a b : Bool, lets B.d a = lets B.d b := fun a b => by
    simp only [List.mem_cons, List.not_mem_nil, or_false] at h
    rcases h with q | q <;> rw [q] <;> cases a <;> cases b <;> decide
  exact cl_of (by_key (fun z c _ => ⟨by unfold overSg; rw [hd, lt (owS C z) (owS B z)], put_eq ha hb hc z c⟩) fun z c _ q => by cases q) (fun _ _ => trivial) fun _ _ _ _ => trivial
theorem no_put {B : Bk} (ha : B.a = wNever) (hb : B.b = wNever) (z : Zt) (c : Nat) : putS B z c = false := by
  unfold putS doesPut
  rw [ha, hb]
  cases (closerN c).isSome with
  | false => rfl
  | true =>
    rw [Bool.true_and]
    split
    · rfl
    · split
      · rfl
      · rfl
theorem cl_bare {B C : Bk} (sl bh : Bool) (ba : B.a = wNever) (bb : B.b = wNever) (ca : C.a = wNever) (cb : C.b = wNever) (hd : lets C.d false = lets B.d false) (he : lets C.e false = lets B.e false) : Cl B C sl bh (JP sl PN) :=
  cl_of (by_key (fun z c j => ⟨by unfold overSg; rw [ow_no j.2.1, ow_no j.2.1, hd], by rw [no_put ba bb, no_put ca cb]⟩) fun z c j _ => by
    unfold overBk
    rw [ow_no j.2.1, ow_no j.2.1, he]) (fun _ _ => rfl) fun z c _ hp => by rw [no_put ba bb] at hp; cases hp
theorem cl_empty {B C : Bk} (sl : Bool) (ba : B.a = wNever) (bb : B.b = wNever) (ca : C.a = wNever) (cb : C.b = wNever) : Cl B C sl false (JP sl PE) :=
  cl_of (by_key (fun z c j => ⟨by unfold overSg; rw [j.2.1.1]; simp, by rw [no_put ba bb, no_put ca cb]⟩) fun z c j _ => by
    unfold overBk
    rw [j.2.1.1]
    cases closerN c <;> rfl) (fun r hr => ⟨by simpa [restsS] using hr, rfl⟩) fun z c _ hp => by rw [no_put ba bb] at hp; cases hp
theorem cl_free {B C : Bk} (sl : Bool) (ba : B.a = wAlways) (ca : C.a = wFree) (hb : C.b = B.b) (hc : C.c = B.c) (hd : C.d = B.d) (he : C.e = B.e) (hf : C.f = B.f) : Cl B C sl false (JP sl PC) :=
  cl_of (by_key (fun z c j => ⟨by unfold overSg; rw [hd, ow_eq hf], by
    have fr : z.f.elim true free = true := by
      have := j.2.1
      simp only [PC, List.mem_cons, List.not_mem_nil, or_false] at this
      rcases this with q | q | q | q <;> rw [q] <;> rfl
    unfold putS doesPut
    simp only [nx_rgt, ba, ca, hb, hc, fr, Bool.and_true]
    rfl⟩) fun z c j _ => by
    unfold overBk
    rw [he, ow_eq hf]) (fun r hr => by
      have : r = none := by simpa [restsS] using hr
      rw [this]; simp) fun z c _ hp => by
    have ks : (closerN c).isSome = true := by
      unfold putS at hp
      rw [Bool.and_eq_true] at hp
      exact hp.1
    have := closer_mem ks
    simp only [PC]
    exact List.mem_cons_of_mem _ this
end GXk22

end
section
namespace MP
open PySem PySem.Spec PyProof.Rows L2
section
variable {X : Cx} {pins : List (Addr × Obj)} {σ : L2.St} {H : Hp} {s : Shared} {r : List Addr}
end
section
variable {B : Cx} {kx vx : Expr} {scope : Scope} {pos : Pos} {tk tv : TE} {D : Addr}
end
section
variable {ww : World} {K : PySem.W.Frag} {mg : Str → Option Value} {D : Addr} {tk tv : ME} {n0 : Nat}
end
section
variable {X : Cx} {W : WX} {kx vx : Expr} {scope : Scope} {own : List (Str × Nat)} {pos : Pos} {tk tv : ME}
end
end MP

end
section
namespace MP
open PySem PySem.Spec PyProof.Rows L2
section
variable {X : Cx} {W : WX}
end
section
variable {ww : World} {K : PySem.W.Frag} {mg : Str → Option Value} {r r' : List Addr} {H H' : Hp} {h h' : MH}
end
section
variable {X : Cx} {W : WX}
end
end MP

end
section
namespace MP
open PySem PySem.Spec PyProof.Rows L2
end MP

end
section
namespace MP
open PySem PySem.Spec PyProof.Rows L2
section
variable {X : Cx} {W : WX} {e : Expr} {es : List Expr} {ms : MA} {k i : Nat} {tbl : List (CP × Nat × MF)} {x : Str} {p pos : Pos}
end
end MP

end
section
namespace MP.Lz0
open MP
open MP.Px
open MP.Pr hiding b_need_behind b_need_book b_need_keys b_need_manner b_need_page b_need_text b_pressed b_typed m_need_behind m_need_book m_need_keys m_need_manner m_need_page m_need_text m_pressed m_typed
abbrev n_Spans : CP := [83, 112, 97, 110, 115]
abbrev f_own_text : CP := [111, 119, 110, 95, 116, 101, 120, 116]
abbrev f_puts : CP := [112, 117, 116, 115]
abbrev f_own_book : CP := [111, 119, 110, 95, 98, 111, 111, 107]
abbrev f_lines : CP := [108, 105, 110, 101, 115]
abbrev x_span : CP := [115, 112, 97, 110]
abbrev x_can_put : CP := [99, 97, 110, 95, 112, 117, 116]
abbrev x_ends : CP := [101, 110, 100, 115]
abbrev f_spans : CP := [115, 112, 97, 110, 115]
abbrev x_ways : CP := [119, 97, 121, 115]
abbrev n_Marks : CP := [77, 97, 114, 107, 115]
abbrev f_by_hand : CP := [98, 121, 95, 104, 97, 110, 100]
abbrev f_by_editor : CP := [98, 121, 95, 101, 100, 105, 116, 111, 114]
abbrev f_seen : CP := [115, 101, 101, 110]
abbrev x_marked : CP := [109, 97, 114, 107, 101, 100]
abbrev x_mark : CP := [109, 97, 114, 107]
end MP.Lz0

end
section
namespace MP.Lm
open PySem L2 MP MP.Pg
def putAt (B : Bk) (t : CP) (p : Nat) : Option Nat := t[p]?.bind fun c => (closerN c).bind fun k => if doesPut B (t.take p) [] c then some k else none
def lineAt (t : CP) (p : Nat) : Int := cntL 47 (t.take p)
def canPut (B : Bk) (t : CP) (a p : Nat) : Bool := match t[p]? with
  | none => false
  | some c => a == 0 || !closing c || putAt B t (a - 1) != some c || (B.d != wAny && (B.d != wOwn || !(B.f != wLine || lineAt t p == lineAt t (a - 1))))
inductive Sp (B : Bk) (t : CP) : Nat → Nat → Prop
  | base (a : Nat) : Sp B t a a
  | plain {a p : Nat} : Sp B t a p → p < t.length → canPut B t a p = true → putAt B t p = none → Sp B t a (p + 1)
  | put {a p g k : Nat} : Sp B t a p → p < t.length → canPut B t a p = true → putAt B t p = some k → Sp B t (p + 1) g → t[g]? = some k → Sp B t a (g + 1)
def EndOf (B : Bk) (t : CP) (a g : Nat) : Prop := Sp B t a g ∧ ∃ k, putAt B t (a - 1) = some k ∧ t[g]? = some k
def Wy (B : Bk) (t : CP) (a p far : Nat) (gone : Option Nat) : Prop := p < t.length ∧ canPut B t a p = true ∧ ((putAt B t p = none ∧ far = p + 1 ∧ gone = none) ∨ ∃ g, (putAt B t p).isSome = true ∧ EndOf B t (p + 1) g ∧ far = g + 1 ∧ gone = some g)
section
variable {B : Bk} {t : CP} {a p far : Nat} {gone : Option Nat}
theorem Sp.all {P : Nat → Prop} (h0 : P a) (hs : ∀ p far gone, P p → Sp B t a p → Wy B t a p far gone → P far) (h : Sp B t a p) : P p := by
  induction h with
  | base a => exact h0
  | plain s hp c e ih => exact hs _ _ none (ih h0 hs) s ⟨hp, c, .inl ⟨e, rfl, rfl⟩⟩
  | put s hp c e sg eg ih1 ih2 => exact hs _ _ (some _) (ih1 h0 hs) s ⟨hp, c, .inr ⟨_, by rw [e]; rfl, ⟨sg, _, e, eg⟩, rfl, rfl⟩⟩
end
end MP.Lm

end
section
namespace MP.Lm
open PySem L2 MP MP.Pg MP.Lz0
open MP.Pr (m_closer_of m_is_closing v_AT_LINES v_ANY v_OWN v_LINE)
def putV (B : Bk) (t : CP) (p : Nat) : MV := .str (oT (putAt B t p))
def putsV (B : Bk) (t : CP) : List MV := (List.range t.length).map (putV B t)
def lineV (t : CP) (p : Nat) : MV := .int (lineAt t p)
def linesV (t : CP) : List MV := (List.range (t.length + 1)).map (lineV t)
def spO (B : Bk) (t : CP) (m : Nat) : MO := .ins n_Spans [(f_own_book, B.v), (f_own_text, .str t), (f_puts, .lv (putsV B t)), (f_lines, .lv (linesV t)), (f_spans, .ref m)]
section
variable (x y z u v : MV)
@[simp] theorem hasSn : ([n_Spans] : List CP).contains n_Spans = true := rfl
@[simp] theorem snB : getF f_own_book [(f_own_book, x), (f_own_text, y), (f_puts, z), (f_lines, u), (f_spans, v)] = some x := rfl
@[simp] theorem snT : getF f_own_text [(f_own_book, x), (f_own_text, y), (f_puts, z), (f_lines, u), (f_spans, v)] = some y := rfl
@[simp] theorem snP : getF f_puts [(f_own_book, x), (f_own_text, y), (f_puts, z), (f_lines, u), (f_spans, v)] = some z := rfl
@[simp] theorem snL : getF f_lines [(f_own_book, x), (f_own_text, y), (f_puts, z), (f_lines, u), (f_spans, v)] = some u := rfl
@[simp] theorem snS : getF f_spans [(f_own_book, x), (f_own_text, y), (f_puts, z), (f_lines, u), (f_spans, v)] = some v := rfl
@[simp] theorem snNc : noF x_can_put [(f_own_book, x), (f_own_text, y), (f_puts, z), (f_lines, u), (f_spans, v)] = true := rfl
@[simp] theorem snNs : noF x_span [(f_own_book, x), (f_own_text, y), (f_puts, z), (f_lines, u), (f_spans, v)] = true := rfl
@[simp] theorem snNe : noF x_ends [(f_own_book, x), (f_own_text, y), (f_puts, z), (f_lines, u), (f_spans, v)] = true := rfl
@[simp] theorem snNw : noF x_ways [(f_own_book, x), (f_own_text, y), (f_puts, z), (f_lines, u), (f_spans, v)] = true := rfl
end
section
variable {B : Bk} {t : CP} {h : MH} {n m a p : Nat} {c : Nat}
def gnV : Option Nat → MV
  | none => .non
  | some g => .int (g : Int)
def wayV (w : Nat × Option Nat) : MV := .tup [.int (w.1 : Int), gnV w.2]
structure Fd (B : Bk) (t : CP) (h : MH) (R : Nat → Prop) (a : Nat) (fk : List (Nat × Nat)) : Prop where
  nd : (fk.map (·.1)).Nodup
  keys : ∀ p, p ∈ fk.map (·.1) ↔ Sp B t a p
  ways : ∀ x ∈ fk, R x.2 ∧ ∃ ws : List (Nat × Option Nat), h[x.2]? = some (.lst (ws.map wayV)) ∧ (∀ w, w ∈ ws ↔ Sp B t a w.1 ∧ Wy B t a w.1 x.1 w.2) ∧ (ws.map (·.1)).Nodup
def fkV (fk : List (Nat × Nat)) : List (MK × MV) := fk.map fun x => (.inl (x.1 : Int), .ref x.2)
def ksV' (ks : List (Nat × Nat)) : List (MK × MV) := ks.map fun x => (.inl ((x.1 : Int) - 1), .ref x.2)
structure Si (B : Bk) (t : CP) (h : MH) (n m : Nat) (ks : List (Nat × Nat)) (R : Nat → Prop) : Prop where
  o : h[n]? = some (spO B t m)
  s : h[m]? = some (.dK (ksV' ks))
  nd : (ks.map (·.1)).Nodup
  kb : ∀ x ∈ ks, x.1 ≤ t.length
  rm : ∀ i, R i → i ≠ m ∧ i ≠ n
  f : ∀ x ∈ ks, R x.2 ∧ ∃ fk, h[x.2]? = some (.dZ (fkV fk)) ∧ Fd B t h R x.1 fk
end
end MP.Lm

end
section
namespace MP.Lm
open PySem L2 MP MP.Pg MP.Lz0
def natV (p : Nat) : MV := .int (p : Int)
structure St (B : Bk) (t : CP) (g : MH) (R0 : Nat → Prop) (n m a fD wL : Nat) (h : MH) (R : Nat → Prop) (fk : List (Nat × Nat)) (W : List Nat) (ws : Nat → List (Nat × Option Nat)) (P : Nat → Prop) (pl : Nat) (seen : List (Nat × Option Nat)) (c : Nat) : Prop where
  si : ∃ ks, Si B t h n m ks R
  rr : ∀ i, R i → R0 i ∨ g.length ≤ i
  rl : ∀ i, R i → i < h.length
  ru : ∀ i, R0 i → R i
  fr : ∀ (i : Nat) (o : MO), g[i]? = some o → i ≠ m → h[i]? = some o
  lt : n < g.length ∧ m < g.length
  dD : h[fD]? = some (.dK (fkV fk))
  dW : h[wL]? = some (.lst (W.map natV))
  dL : ∀ x ∈ fk, h[x.2]? = some (.lst ((ws x.1).map wayV))
  nf : ¬ R fD
  nw : ¬ R wL
  nl : ∀ x ∈ fk, ¬ R x.2
  ge : g.length ≤ fD ∧ g.length ≤ wL ∧ ∀ x ∈ fk, g.length ≤ x.2
  ndk : (fk.map (·.1)).Nodup
  ndl : (fk.map (·.2)).Nodup
  nwl : ∀ x ∈ fk, x.2 ≠ wL
  ndw : W.Nodup
  pw : ∀ p, p ∈ fk.map (·.1) ↔ P p ∨ p ∈ W
  sp : ∀ p ∈ fk.map (·.1), Sp B t a p
  wy : ∀ x ∈ fk, ∀ w, w ∈ ws x.1 ↔ (P w.1 ∧ w.1 ≠ pl ∧ Wy B t a w.1 x.1 w.2) ∨ (w.1 = pl ∧ (x.1, w.2) ∈ seen)
  cl : ∀ p, P p → p ≠ pl → ∀ far gone, Wy B t a p far gone → far ∈ fk.map (·.1)
  cs : ∀ w ∈ seen, w.1 ∈ fk.map (·.1)
  dj : ∀ p, P p → p ∉ W
  wl : ∀ x ∈ fk, (ws x.1).length ≤ c
  ak : a ∈ fk.map (·.1)
  wn : ∀ x ∈ fk, ((ws x.1).map (·.1)).Nodup
  sw : ∀ w ∈ seen, Wy B t a pl w.1 w.2
section
variable {B : Bk} {t : CP} {g h : MH} {R0 R : Nat → Prop} {n m a fD wL pl : Nat} {fk : List (Nat × Nat)} {W : List Nat} {ws : Nat → List (Nat × Option Nat)} {P : Nat → Prop} {seen : List (Nat × Option Nat)} {c : Nat}
end
end MP.Lm

end
section
namespace MP.Lm
open PySem L2 MP MP.Pg MP.Lz0
structure SpR (B : Bk) (t : CP) (n m a : Nat) (h h' : MH) (R R' : Nat → Prop) (d : Nat) (fk : List (Nat × Nat)) : Prop where
  si : ∃ ks, Si B t h' n m ks R'
  up : ∀ i, R i → R' i
  nw : ∀ i, R' i → R i ∨ h.length ≤ i
  rl : ∀ i, R' i → i < h'.length
  rd : R' d
  e : h'[d]? = some (.dZ (fkV fk))
  f : Fd B t h' R' a fk
  fr : ∀ (i : Nat) (o : MO), h[i]? = some o → i ≠ m → h'[i]? = some o
  le : h.length ≤ h'.length
section
variable {B : Bk} {t : CP} {h : MH} {R : Nat → Prop} {n m a p : Nat} {rec : MF}
end
end MP.Lm

end
section
namespace MP.Lm
open PySem L2 MP MP.Pg MP.Lz0
section
variable {B : Bk} {t : CP} {g h : MH} {R0 R : Nat → Prop} {n m a fD wL pl : Nat} {fk : List (Nat × Nat)} {W : List Nat} {ws : Nat → List (Nat × Option Nat)} {P : Nat → Prop} {seen : List (Nat × Option Nat)} {c : Nat}
end
section
variable {B : Bk} {t : CP} {n m : Nat}
end
end MP.Lm

end
section
namespace MP.Q3
open PySem L2 MP MP.Pg MP.Le MP.Ld MP.Cm
end MP.Q3

end
section
namespace MP.N4
open PySem L2 MP MP.Pg MP.Ld MP.Cm MP.N1
end MP.N4

end
section
namespace MP.Sd
open PySem L2 MP MP.Pg MP.Le MP.Ld
abbrev n_BadText : CP := [66, 97, 100, 84, 101, 120, 116]
abbrev n_BadPage : CP := [66, 97, 100, 80, 97, 103, 101]
abbrev n_BadKeys : CP := [66, 97, 100, 75, 101, 121, 115]
abbrev n_BadBook : CP := [66, 97, 100, 66, 111, 111, 107]
abbrev n_BadManner : CP := [66, 97, 100, 77, 97, 110, 110, 101, 114]
abbrev n_NotMeant : CP := [78, 111, 116, 77, 101, 97, 110, 116]
abbrev n_BadNumber : CP := [66, 97, 100, 78, 117, 109, 98, 101, 114]
abbrev f_place : CP := [112, 108, 97, 99, 101]
abbrev f_value : CP := [118, 97, 108, 117, 101]
section
variable {h r : MH} {k : Nat}
end
def CL : List (CP × CP × CP) := [(n_BadText, f_place, [116, 101, 120, 116]), (n_BadKeys, f_place, [107, 101, 121, 115]), (n_BadBook, f_place, [98, 111, 111, 107]), (n_NotMeant, f_place, [109, 101, 97, 110, 116]), (n_BadPage, f_value, [112, 97, 103, 101]), (n_BadManner, f_value, [109, 97, 110, 110, 101, 114]), (n_BadNumber, f_value, [110, 117, 109, 98, 101, 114])]
def sl (x2 x3 : Option MV) (c f : CP) (v : MV) : Sl := [none, none, x2, x3, some (.lv []), some (.exc c [f] [v]), none, none]
section
variable {c f w : CP} {v : MV} {g : MH} {n m : Nat} (hc : (c, f, w) ∈ CL) (x2 x3 : Option MV)
include hc
end
section
variable {act : MH → R MV} {h t : MH} {v : MV} {b : Nat}
end
end MP.Sd

end
section
namespace MP.N6
open PySem L2 MP MP.Pg MP.Le MP.Ld MP.N1
open MP.Px
open MP.Pr hiding b_need_manner m_need_manner b_need_text m_need_text b_need_book m_need_book b_need_behind m_need_behind b_need_keys m_need_keys b_need_page m_need_page b_pressed m_pressed b_typed m_typed
end MP.N6

end
section
namespace MP.Lm
open PySem L2 MP MP.Pg MP.Lz0
section
variable {B : Bk} {t : CP}
end
end MP.Lm

end
section
namespace MP.Lm
open PySem L2 MP MP.Pg
inductive Bw (B : Bk) (t : CP) (a e : Nat) : Nat → Prop
  | base : Bw B t a e e
  | step {p far : Nat} {gone : Option Nat} : Bw B t a e far → Sp B t a p → Wy B t a p far gone → Bw B t a e p
inductive Mk (B : Bk) (t : CP) : Nat → Nat → Prop
  | base : Mk B t 0 t.length
  | step {a e p far g : Nat} : Mk B t a e → Bw B t a e far → Sp B t a p → Wy B t a p far (some g) → Mk B t (p + 1) g
section
variable {B : Bk} {t : CP} {a e p g far : Nat}
theorem Bw.sp (h : Bw B t a e p) (he : Sp B t a e) : Sp B t a p := by
  cases h with
  | base => exact he
  | step _ sp _ => exact sp
theorem Mk.sp (h : Mk B t a e) (h0 : Sp B t 0 t.length) : Sp B t a e ∧ a ≤ t.length := by
  cases h with
  | base => exact ⟨h0, Nat.zero_le _⟩
  | step _ _ sp w =>
    obtain ⟨hp, _, ⟨_, _, z⟩ | ⟨g, _, en, _, z⟩⟩ := w
    · cases z
    · cases z
      exact ⟨en.1, by omega⟩
structure Ps where
  H : List Nat
  E : List Nat
  F : List (Nat × Nat)
  K : List Nat
  W : List Nat
def Ps.kn (s : Ps) (p : Nat) : Ps := if p ∈ s.K then s else { s with K := s.K ++ [p], W := s.W ++ [p] }
structure Pi (B : Bk) (t : CP) (a e : Nat) (H0 E0 : List Nat) (s : Ps) (D : List Nat) (far : Nat) (sn : List (Nat × Option Nat)) : Prop where
  nd : D.Nodup
  kw : ∀ p, p ∈ s.K ↔ p ∈ D ∨ p ∈ s.W
  dw : ∀ p ∈ D, p ∉ s.W
  wn : s.W.Nodup
  kn : s.K.Nodup
  ek : e ∈ s.K
  bw : ∀ p ∈ s.K, Bw B t a e p
  sw : ∀ w ∈ sn, Sp B t a w.1 ∧ Wy B t a w.1 far w.2
  fd : sn ≠ [] → far ∈ D
  cl : ∀ f ∈ D, f ≠ far → ∀ p gone, Sp B t a p → Wy B t a p f gone → p ∈ s.K
  cs : ∀ w ∈ sn, w.1 ∈ s.K
  h : ∀ p, p ∈ s.H ↔ p ∈ H0 ∨ (∃ f ∈ D, f ≠ far ∧ ∃ gone, Sp B t a p ∧ Wy B t a p f gone) ∨ ∃ gone, (p, gone) ∈ sn
  e : ∀ g, g ∈ s.E ↔ g ∈ E0 ∨ (∃ f ∈ D, f ≠ far ∧ ∃ p, Sp B t a p ∧ Wy B t a p f (some g)) ∨ ∃ p, (p, some g) ∈ sn
  f : ∀ x, x ∈ s.F ↔ (∃ f ∈ D, f ≠ far ∧ Sp B t a x.1 ∧ Wy B t a x.1 f (some x.2)) ∨ (x.1, some x.2) ∈ sn
  hn : s.H.Nodup ∧ ∀ p ∈ s.H, p < t.length + 1
  en : s.E.Nodup ∧ ∀ p ∈ s.E, p < t.length + 1
  fl : s.F.length ≤ (D.erase far).length * (t.length + 1) + sn.length
section
variable {H0 E0 : List Nat} {s : Ps} {D : List Nat} {sn : List (Nat × Option Nat)}
end
end
end MP.Lm

end
section
namespace MP.Lm
open PySem L2 MP MP.Pg MP.Lz0
def trV (S : List Nat) : List (MK × MV) := S.map fun (p : Nat) => (.inl (p : Int), .bl true)
def pairV (x : Nat × Nat) : MV := .tup [natV x.1, natV x.2]
def mkO (n mh me ms : Nat) : MO := .ins n_Marks [(f_spans, .ref n), (f_by_hand, .ref mh), (f_by_editor, .ref me), (f_seen, .ref ms)]
section
variable (x y z u : MV)
@[simp] theorem hasMk : ([n_Marks] : List CP).contains n_Marks = true := rfl
@[simp] theorem mkS : getF f_spans [(f_spans, x), (f_by_hand, y), (f_by_editor, z), (f_seen, u)] = some x := rfl
@[simp] theorem mkH : getF f_by_hand [(f_spans, x), (f_by_hand, y), (f_by_editor, z), (f_seen, u)] = some y := rfl
@[simp] theorem mkE : getF f_by_editor [(f_spans, x), (f_by_hand, y), (f_by_editor, z), (f_seen, u)] = some z := rfl
@[simp] theorem mkN : getF f_seen [(f_spans, x), (f_by_hand, y), (f_by_editor, z), (f_seen, u)] = some u := rfl
@[simp] theorem mkM : noF x_mark [(f_spans, x), (f_by_hand, y), (f_by_editor, z), (f_seen, u)] = true := rfl
@[simp] theorem mkD : noF x_marked [(f_spans, x), (f_by_hand, y), (f_by_editor, z), (f_seen, u)] = true := rfl
end
structure Pa (h : MH) (mh me fo kn wt : Nat) (s : Ps) : Prop where
  H : h[mh]? = some (.dK (trV s.H))
  E : h[me]? = some (.dK (trV s.E))
  F : h[fo]? = some (.lst (s.F.map pairV))
  K : h[kn]? = some (.dK (trV s.K))
  W : h[wt]? = some (.lst (s.W.map natV))
  d1 : mh ≠ me
  d2 : mh ≠ kn
  d3 : me ≠ kn
  d4 : fo ≠ wt
section
variable {h : MH} {mh me fo kn wt q n ms : Nat} {s : Ps}
def Fr5 (mh me fo kn wt : Nat) (h h' : MH) : Prop := h'.length = h.length ∧ ∀ (i : Nat) (o : MO), h[i]? = some o → i ≠ mh → i ≠ me → i ≠ fo → i ≠ kn → i ≠ wt → h'[i]? = some o
theorem Fr5.trans {h1 h2 : MH} (a : Fr5 mh me fo kn wt h h1) (b : Fr5 mh me fo kn wt h1 h2) : Fr5 mh me fo kn wt h h2 := ⟨b.1.trans a.1, fun i o e n1 n2 n3 n4 n5 => b.2 i o (a.2 i o e n1 n2 n3 n4 n5) n1 n2 n3 n4 n5⟩
end
end MP.Lm

end
section
namespace MP.Lm
open PySem L2 MP MP.Pg MP.Lz0
theorem forM_lst {g : MG} {b : MS} {l : Nat} {xs : List MV} (P : List MV → Sl → MH → Prop) (keep : ∀ r s h, P r s h → h[l]? = some (.lst xs))
    (step : ∀ x r s h, P (x :: r) s h → ∃ s1 h1 s2 h2, g x s h = .ok s1 h1 ∧ b s1 h1 = .nx s2 h2 ∧ P r s2 h2) : ∀ (k i : Nat) (s : Sl) (h : MH), i + k = xs.length → P (xs.drop i) s h → ∃ s' h', forM (.lst l) g b k i s h = .nx s' h' ∧ P [] s' h'
  | 0, i, s, h, hi, p => by
    have dr : xs.drop i = [] := List.drop_eq_nil_of_le (by omega)
    rw [dr] at p
    have e : (MIt.lst l).at h i = some none := by
      have : xs[i]? = none := List.getElem?_eq_none_iff.mpr (by omega)
      simp [MIt.at, lstAt, keep _ _ _ p, this]
    exact ⟨s, h, by rw [forM_zero, e], p⟩
  | k + 1, i, s, h, hi, p => by
    have lt : i < xs.length := by omega
    have dr : xs.drop i = xs[i] :: xs.drop (i + 1) := List.drop_eq_getElem_cons lt
    rw [dr] at p
    have e : (MIt.lst l).at h i = some (some xs[i]) := by
      simp [MIt.at, lstAt, keep _ _ _ p, lt]
    obtain ⟨s1, h1, s2, h2, e1, e2, p2⟩ := step _ _ _ _ p
    obtain ⟨s', h', e3, p3⟩ := forM_lst P keep step k (i + 1) s2 h2 (by omega) p2
    refine ⟨s', h', ?_, p3⟩
    rw [forM_succ, e]
    simp only
    rw [e1, go_ok, e2]
    exact e3
section
variable {B : Bk} {t : CP} {h : MH} {mh me fo kn wt q n m ms d a e far : Nat} {s : Ps} {H0 E0 D : List Nat} {fk : List (Nat × Nat)} {R : Nat → Prop} {sn : List (Nat × Option Nat)}
structure Ml (B : Bk) (t : CP) (h : MH) (q n mh me ms d a : Nat) (fk : List (Nat × Nat)) (R : Nat → Prop) (fo kn wt : Nat) : Prop where
  q : h[q]? = some (mkO n mh me ms)
  d : h[d]? = some (.dZ (fkV fk))
  f : Fd B t h R a fk
  r : ∀ i, R i → i ≠ mh ∧ i ≠ me ∧ i ≠ fo ∧ i ≠ kn ∧ i ≠ wt
structure Mo (B : Bk) (t : CP) (h : MH) (q n m mh me ms : Nat) (R : Nat → Prop) (HL EL : List Nat) (NL : List (MV × MV)) : Prop where
  si : ∃ ks, Si B t h n m ks R
  rl : ∀ i, R i → i < h.length
  q : h[q]? = some (mkO n mh me ms)
  H : h[mh]? = some (.dK (trV HL))
  E : h[me]? = some (.dK (trV EL))
  N : h[ms]? = some (.dT NL)
  d1 : mh ≠ me
  m1 : mh ≠ m
  m2 : me ≠ m
  r : ∀ i, R i → i ≠ mh ∧ i ≠ me
  hn : HL.Nodup ∧ ∀ p ∈ HL, p < t.length + 1
  en : EL.Nodup ∧ ∀ p ∈ EL, p < t.length + 1
end
end MP.Lm

end
section
namespace MP
open PySem PySem.Spec PyProof.Rows L2
structure Pt (P : Program) (w : World) (K : PySem.W.Frag) (mg : Str → Option Value) (base : Heap) (c x : Str) (k : Nat) (m : MF) : Prop where
  ex : ∃ C p g fd ps, ps.length = 1 ∧ FnM P w K mg base k g fd ps m ∧ mg c = some (.ref C) ∧ Cls K C ∧ PropOf K C x p g ∧ Binds K fd ps []
def calmR : R MV → R MV
  | .ok v h => .ok v h
  | _ => .stuck
def eProp (c : CP) (m : MF) (o : ME) : ME := fun s h => (o s h).bind fun y h1 => match y with
  | .ref n => match h1[n]? with
    | some (.ins c' _) => if c' == c then calmR (m [.ref n] h1) else .stuck
    | _ => .stuck
  | _ => .stuck
section
variable {X : Cx} {W : WX} {e o : Expr} {mo : ME} {k j : Nat} {m : MF} {x c : Str} {p pos apos : Pos}
end
structure GetD where
  cls : Str
  name : Str
  qual : Str
  params : Arguments
  body : List Stmt
  scope : Scope
def pAd (K : PySem.W.Frag) (c x : Str) : Addr := He.ma K (He.ga K c) x
def gAd (K : PySem.W.Frag) (c x : Str) : Addr := match PySem.W.recIn K (pAd K c x) "property" with
  | some (.ref g :: _) => g
  | _ => 0
def gnW (K : PySem.W.Frag) (d : GetD) : He.FnW := match K.lookup (gAd K d.cls d.name) with
  | some ⟨_, _, .func fd, _⟩ => some (fd.name, fd.qualname, fd.params, fd.body, fd.scope, fd.globals, fd.closure, fd.builtins)
  | _ => none
def GetD.val (d : GetD) : He.FnW := some (d.name, d.qual, d.params, .stmts d.body, d.scope, mainGlobals, [], builtinsNs)
def GetD.ok (K : PySem.W.Frag) (d : GetD) : Bool :=
  decide (PySem.W.findIn K (.ref (He.ga K d.cls)) d.name = some (some (.ref (pAd K d.cls d.name)))) && (decide (PySem.W.specialIn K (.ref (pAd K d.cls d.name)) "__get__" = some (some (.builtin "property.__get__"))) &&
  (decide (PySem.W.takesIn K (.ref (pAd K d.cls d.name)) = some true) && ((match PySem.W.recIn K (pAd K d.cls d.name) "property" with
    | some (.ref _ :: _) => true
    | _ => false) && (PySem.W.keepIn K (.ref (gAd K d.cls d.name)) && (match K.lookup (gAd K d.cls d.name) with
    | some ⟨_, _, .func fd, _⟩ => PySem.W.codeIn K fd.code d.qual && (He.dflB K fd.defaults [] && He.kwdB K fd.kwdefaults [])
    | _ => false)))))
structure SaysP (gs : List GetD) (fa : List He.Fa) (fn : List He.DefD) (ts : List He.Tab) (ex : PySem.W.Frag → Bool) (w : World) (h : Heap) (K : PySem.W.Frag) : Prop extends SaysF fa fn ts ex w h K where
  gets : gs.map (gnW K) = gs.map GetD.val
  gok : (gs.all fun d => d.ok K) = true
end MP

end
section
namespace MP
open PySem PySem.Spec PyProof.Rows L2
def pk {α : Type} (pm : List Nat) (xs : List α) : List α := pm.filterMap fun i => xs[i]?
structure MkrK (P : Program) (w : World) (K : PySem.W.Frag) (mg : Str → Option Value) (base : Heap) (c : Str) (k n : Nat) (ks : List Str) (ds : List MV) (pm : List Nat) (m : MF) : Prop where
  ex : ∃ C f fd ps zs mv, (∀ r H, RepL K mg r H ds zs) ∧ FnM P w K mg base k f fd ps m ∧ mg c = some (.ref C) ∧ Mk K C f ∧ ps.length = pm.length ∧ KBn K fd ps (n + 1) ks (fun us ws => pk pm (us ++ (ws ++ mv))) (fun vs ws => pk pm (vs ++ (ws ++ zs)))
section
variable {X : Cx} {W : WX} {e : Expr} {es : List Expr} {kws : List Keyword} {ma : ME} {ms mk : MA} {k j n : Nat} {pm : List Nat} {m : MF} {x : Str} {p pos : Pos} {ks : List Str} {ds : List MV}
end
end MP

end
section
namespace MP
open PySem PySem.Spec PyProof.Rows L2
structure OEq (P : Program) (w : World) (K : PySem.W.Frag) (mg : Str → Option Value) (base : Heap) (c : Str) (k : Nat) (m : MF) : Prop where
  ex : ∃ C f fd ps, ps.length = 2 ∧ FnM P w K mg base k f fd ps m ∧ mg c = some (.ref C) ∧ Binds K fd ps [] ∧ PySem.W.findIn K (.ref C) "__eq__" = some (some (.ref f)) ∧ PySem.W.isFn K (.ref f) = true ∧
    PySem.W.findIn K (.ref C) "__ne__" = some (some (.builtin "object.__ne__")) ∧ PySem.W.mroIn K C (.type "object") = some true
section
variable {prog : Program} {w : World} {A : Around} {E : Value → Shared → Prop} {s : Shared} {K : PySem.W.Frag} {x C f : Addr} {ox : Obj} {od : Option Obj} {u tb : Value}
end
section
variable {X : Cx} {k j : Nat} {m : MF} {cc : CP}
end
end MP
namespace MP
open PySem PySem.Spec PyProof.Rows L2
section
variable {X : Cx} {k j : Nat} {m : MF} {cc : CP}
end
end MP

end
section
namespace MP
open PySem PySem.Spec PyProof.Rows L2
structure IsO (K : PySem.W.Frag) (mg : Str → Option Value) (c : CP) : Prop where
  ex : ∃ C, mg (S c) = some (.ref C) ∧ Cls K C ∧ PySem.W.findIn K (.ref C) "__class__" = some (some (.builtin "object.__class__")) ∧ PySem.W.specialIn K (.builtin "object.__class__") "__get__" = some (some (.builtin "getset_descriptor.__get__")) ∧
    PySem.W.takesIn K (.builtin "object.__class__") = some true ∧ PySem.W.mroIn K C (.type "object") = some true ∧ ∀ k : Ty, PySem.W.kitOne K (.type k.nm) (.ref C) = some false
end MP

end
section
namespace MP.Pz
open MP
open MP.Px
open MP.Pr hiding b_need_behind b_need_book b_need_keys b_need_manner b_need_page b_need_text b_pressed b_typed m_need_behind m_need_book m_need_keys m_need_manner m_need_page m_need_text m_pressed m_typed
abbrev n_Editor : CP := [69, 100, 105, 116, 111, 114]
abbrev f_own_book : CP := [111, 119, 110, 95, 98, 111, 111, 107]
abbrev f_own_behind : CP := [111, 119, 110, 95, 98, 101, 104, 105, 110, 100]
abbrev f_done : CP := [100, 111, 110, 101]
abbrev f_later : CP := [108, 97, 116, 101, 114]
end MP.Pz

end
section
namespace MP.Ed
open PySem L2 MP MP.Pg MP.Le MP.Ld MP.Pz
open MP.Px
open MP.Pr hiding b_need_manner m_need_manner b_need_text m_need_text b_need_book m_need_book b_need_behind m_need_behind b_need_keys m_need_keys b_need_page m_need_page b_pressed m_pressed b_typed m_typed
abbrev Dn := List (Ky × CP × Rt)
def dnV (p : Ky × CP × Rt) : MV := .tup [.str p.1.t, toldV p.2.1 p.2.2]
def dnL (d : Dn) : List MV := d.map dnV
structure Er where
  bk : Bk
  tl : CP
  done : Dn
  later : Dn
def Er.o (e : Er) : MO := .ins n_Editor [(f_own_book, e.bk.v), (f_own_behind, .str e.tl), (f_done, .tup (dnL e.done)), (f_later, .tup (dnL e.later))]
structure DOk (p : Ky × CP × Rt) : Prop where
  k : p.1.ok = true
  ok : PgOk p.2.1 p.2.2
  l : p.2.1.length ≤ 200
  r : p.2.2.length ≤ 200
structure Er.Ok (e : Er) : Prop where
  bk : e.bk.Ok
  tl : ∀ c ∈ e.tl, sgn c = true
  ln : e.tl.length ≤ 200
  done : ∀ p ∈ e.done, DOk p
  later : ∀ p ∈ e.later, DOk p
  dn : e.done.length ≤ 400
section
variable {h : MH} {n : Nat} {e : Er}
end
structure PaAt (N n np k q : Nat) (e : Er) (l : CP) (r : Rt) (acc : List MV) (g0 h : MH) : Prop where
  ed : h[n]? = some e.o
  pg : PgAt h np k l r
  ls : h[q]? = some (.lst acc)
  lt : n < N ∧ N ≤ np ∧ N ≤ k ∧ N ≤ q
  ne : q ≠ np ∧ q ≠ k
  old : ∀ i, i < N → h[i]? = g0[i]?
theorem belowH_set {k : Nat} {o : MO} (ho : belowO k o = true) : ∀ {h : MH} {n : Nat}, belowH k h = true → belowH k (h.set n o) = true
  | [], _, e => e
  | x :: h, 0, e => by
    simp only [belowH, List.set_cons_zero, Bool.and_eq_true] at e ⊢
    exact ⟨ho, e.2⟩
  | x :: h, n + 1, e => by
    simp only [belowH, List.set_cons_succ, Bool.and_eq_true] at e ⊢
    exact ⟨e.1, belowH_set ho e.2⟩
@[simp] theorem eProp_ap (c : CP) (m : MF) (o : ME) (s : Sl) (h : MH) : eProp c m o s h = (o s h).bind fun y h1 => match y with
  | .ref n => match h1[n]? with
    | some (.ins c' _) => if c' == c then calmR (m [.ref n] h1) else .stuck
    | _ => .stuck
  | _ => .stuck := rfl
end MP.Ed

end
section
namespace MP.Ek
open PySem L2 MP MP.Pg MP.Le MP.Ld MP.N1
open MP.Cm (m_law_draw)
theorem S4.set {b : Nat} {t h : MH} (s : S4 b t h) (i : Nat) {o : MO} (ho : belowO (t.length + 4) o = true) : S4 b (t.set i o) (h.set (4 + i) o) := by
  obtain ⟨⟨cs, gs, n, c1, c2, c3, rfl⟩, bl⟩ := s
  refine ⟨⟨cs, gs, n, c1, c2, c3, ?_⟩, by rw [List.length_set]; exact Ed.belowH_set ho bl⟩
  simp only [Cm.st, Nat.add_comm 4 i, List.set_cons_succ]
end MP.Ek

end
section
namespace GXk22
open PySem L2 MP MP.Pg MP.Le MP.Ld
theorem book_eq : m_law_book = Q3.m_law_book := rfl
abbrev wOneW : CP := [111, 110, 101]
def bkL (B : Bk) : MV := .lv [.str B.a, .str B.b, .str B.c, .str B.d, .str B.e, .str B.f]
abbrev L15 (ns : List Int) (x2 x3 x4 x5 x6 x7 x8 x9 x10 x11 x12 x13 x14 : Option MV) : Sl := [some (.ro (ns.map .int)), some (.ref 2), x2, x3, x4, x5, x6, x7, x8, x9, x10, x11, x12, x13, x14]
structure Alike (C D : Bk) (sl bh : Bool) : Prop where
  c : C.Ok
  d : D.Ok
  cd : ∃ J, Cl C D sl bh J
  dc : ∃ J, Cl D C sl bh J
def prV (x : Bk × Bk × Bool) : MV := .tup [bkL x.1, bkL x.2.1, .bl x.2.2]
theorem bel_prs (k : Nat) (l : List (Bk × Bk × Bool)) : belowO k (.lst (l.map prV)) = true := by
  simp only [belowO]
  induction l with
  | nil => rfl
  | cons x l ih =>
    simp only [List.map_cons, belowL, Bool.and_eq_true]
    exact ⟨rfl, ih⟩
theorem app_pr {h : MH} {n : Nat} {l : List (Bk × Bk × Bool)} (e : h[n]? = some (.lst (l.map prV))) (hl : l.length ≤ 100) (x : Bk × Bk × Bool) : mAppend (.ref n) [prV x] h = some (.non, h.set n (.lst ((l ++ [x]).map prV))) := by
  have z : (l.map prV).length < sizeLine := by rw [List.length_map, szs]; omega
  simp only [mAppend, e, z, if_true, List.map_append, List.map_cons, List.map_nil]
theorem S4.put {b n : Nat} {t h : MH} {o : MO} (s : S4 b t h) (h4 : 4 ≤ n) (ho : belowO (t.length + 4) o = true) : S4 b (t.set (n - 4) o) (h.set n o) := by
  have := Ek.S4.set s (n - 4) ho
  rw [show 4 + (n - 4) = n by omega] at this
  exact this
section
variable {ns : List Int} {x2 x3 x4 x5 x6 x7 x8 x9 x10 x11 x12 x13 x14 : Option MV} {g h : MH} {B C D : Bk}
theorem two_words {b : Nat} {t h : MH} (st : S4 (b + 1) t h) (u v : CP) (s : Sl) (s1 : s[1]? = some (some (.ref 2))) : ∃ w h1, (w = u ∨ w = v) ∧ S4 b t h1 ∧ (eOp mIx (eLstV (aCons (eC (.str u)) (aCons (eC (.str v)) (aNil)))) (eCall 2 m_law_draw (aCons (eVar 1) (aCons (eC (.int 2)) (aNil))))) s h = .ok (.str w) h1 := by
  obtain ⟨j, h1, hj, st1, ed⟩ := st.drawN (k := 2) (by omega)
  rw [← draw_eq] at ed
  have e1 : eVar 1 s h = .ok (.ref 2) h := by rw [eVar_ap, s1]
  have cd : eCall 2 m_law_draw (aCons (eVar 1) (aCons (eC (.int 2)) (aNil))) s h = .ok (.int (j : Int)) h1 := by
    rw [eCall_ap, aCons_ap, e1, bind_ok, aCons_ap, eC_ap, bind_ok, aNil_ap]
    exact ed
  have l0 : (eLstV (aCons (eC (.str u)) (aCons (eC (.str v)) (aNil)))) s h = .ok (.lv [.str u, .str v]) h := rfl
  match j, hj with
  | 0, _ => exact ⟨u, h1, .inl rfl, st1, by rw [eOp_ap, l0, bind_ok, cd, bind_ok]; rfl⟩
  | 1, _ => exact ⟨v, h1, .inr rfl, st1, by rw [eOp_ap, l0, bind_ok, cd, bind_ok]; rfl⟩
theorem draw_is {b : Nat} {t h : MH} (st : S4 (b + 1) t h) (s : Sl) (s1 : s[1]? = some (some (.ref 2))) : ∃ (k : Bool) (h1 : MH), S4 b t h1 ∧ (eOp mEq (eCall 2 m_law_draw (aCons (eVar 1) (aCons (eC (.int 2)) (aNil)))) (eC (.int 1))) s h = .ok (.bl k) h1 := by
  obtain ⟨j, h1, hj, st1, ed⟩ := st.drawN (k := 2) (by omega)
  rw [← draw_eq] at ed
  have e1 : eVar 1 s h = .ok (.ref 2) h := by rw [eVar_ap, s1]
  have cd : eCall 2 m_law_draw (aCons (eVar 1) (aCons (eC (.int 2)) (aNil))) s h = .ok (.int (j : Int)) h1 := by
    rw [eCall_ap, aCons_ap, e1, bind_ok, aCons_ap, eC_ap, bind_ok, aNil_ap]
    exact ed
  exact ⟨((j : Int) == 1), h1, st1, by rw [eOp_ap, cd, bind_ok]; rfl⟩
theorem like_ok (g : MH) : m_law_like [.lv [.bl true, .non], .lv [.bl true, .non]] g = .ok (.bl true) g := by kernel_rfl
theorem ask_ok {bh : Bool} (A : Alike C D x bh) (g : MH) : ∃ y9 y10 y11 y12 y13 y14, (sSeq b_law_1_b_8_b_0 b_law_1_b_8_b_1) (L15 ns x2 x3 x4 x5 x6 (some (.bl bh)) x8 (some (bkL C)) (some (bkL D)) (some (.bl x)) x12 x13 x14) g = .nx (L15 ns x2 x3 x4 x5 x6 (some (.bl bh)) x8 y9 y10 y11 y12 y13 y14) g := by
  obtain ⟨J, K⟩ := A.cd
  obtain ⟨J2, K2⟩ := A.dc
  have p1 := p_alike K A.c A.d g
  have p2 := p_part K2 A.d A.c g
  have s0 : b_law_1_b_8_b_0 (L15 ns x2 x3 x4 x5 x6 (some (.bl bh)) x8 (some (bkL C)) (some (bkL D)) (some (.bl x)) x12 x13 x14) g = .nx (L15 ns x2 x3 x4 x5 x6 (some (.bl bh)) x8 (some (bkL C)) (some (bkL D)) (some (.bl x)) (some C.v) (some D.v) (some (flg x bh))) g := rfl
  refine ⟨_, _, _, _, _, _, by
    rw [seq_nx s0]
    have c1 : (eCall 3 p_are_alike (aCons (eVar 12) (aCons (eVar 13) (aCons (eVar 14) (aNil))))) (L15 ns x2 x3 x4 x5 x6 (some (.bl bh)) x8 (some (bkL C)) (some (bkL D)) (some (.bl x)) (some C.v) (some D.v) (some (flg x bh))) g = .ok (.bl true) g := p1
    have c2 : (eCall 3 p_parting (aCons (eVar 13) (aCons (eVar 12) (aCons (eVar 14) (aNil))))) (L15 ns x2 x3 x4 x5 x6 (some (.bl bh)) x8 (some (bkL C)) (some (bkL D)) (some (.bl x)) (some C.v) (some D.v) (some (flg x bh))) g = .ok .non g := p2
    have l1 : (eLstV (aCons (eCall 3 p_are_alike (aCons (eVar 12) (aCons (eVar 13) (aCons (eVar 14) (aNil))))) (aCons (eCall 3 p_parting (aCons (eVar 13) (aCons (eVar 12) (aCons (eVar 14) (aNil))))) (aNil)))) (L15 ns x2 x3 x4 x5 x6 (some (.bl bh)) x8 (some (bkL C)) (some (bkL D)) (some (.bl x)) (some C.v) (some D.v) (some (flg x bh))) g = .ok (.lv [.bl true, .non]) g := by
      rw [eLstV_ap, aCons_ap, c1, bind_ok, aCons_ap, c2]; rfl
    have l2 : (eLstV (aCons (eC (.bl true)) (aCons (eC .non) (aNil)))) (L15 ns x2 x3 x4 x5 x6 (some (.bl bh)) x8 (some (bkL C)) (some (bkL D)) (some (.bl x)) (some C.v) (some D.v) (some (flg x bh))) g = .ok (.lv [.bl true, .non]) g := rfl
    have ca : ∀ E1 E2 : ME, E1 (L15 ns x2 x3 x4 x5 x6 (some (.bl bh)) x8 (some (bkL C)) (some (bkL D)) (some (.bl x)) (some C.v) (some D.v) (some (flg x bh))) g = .ok (.lv [.bl true, .non]) g → E2 (L15 ns x2 x3 x4 x5 x6 (some (.bl bh)) x8 (some (bkL C)) (some (bkL D)) (some (.bl x)) (some C.v) (some D.v) (some (flg x bh))) g = .ok (.lv [.bl true, .non]) g → (eCall 2 m_law_like (aCons E1 (aCons E2 aNil))) (L15 ns x2 x3 x4 x5 x6 (some (.bl bh)) x8 (some (bkL C)) (some (bkL D)) (some (.bl x)) (some C.v) (some D.v) (some (flg x bh))) g = .ok (.bl true) g := fun E1 E2 a b => by
      rw [eCall_ap, aCons_ap, a, bind_ok, aCons_ap, b, bind_ok, aNil_ap]
      exact like_ok g
    unfold b_law_1_b_8_b_1
    rw [if_f (g := g) (by rw [tNotM_ap, tVal_ap, ca _ _ l1 l2]; rfl)]
    rfl⟩
end
end GXk22

end
section
namespace GXk22
open PySem L2 MP MP.Pg MP.Le MP.Ld
def bare0 (B : Bk) : Bk := { B with a := wNever, b := wNever }
theorem bare_okB {B : Bk} (bo : B.Ok) : (bare0 B).Ok := ⟨by simp [bare0], by simp [bare0], bo.c, bo.d, bo.e, bo.f⟩
section
variable {B : Bk} {bb ss : Bool}
theorem al1 (bo : B.Ok) {w : CP} (hw : w = wAny ∨ w = wOneW) (bb : Bool) : Alike { B with e := wOwn } { B with e := w } false bb :=
  ⟨⟨bo.a, bo.b, bo.c, bo.d, by simp, bo.f⟩, ⟨bo.a, bo.b, bo.c, bo.d, (by rcases hw with rfl | rfl; exact (show wAny ∈ [wOwn, wAny, wOne] by decide); exact (show wOneW ∈ [wOwn, wAny, wOne] by decide)), bo.f⟩, ⟨_, cl_back bb rfl rfl rfl rfl rfl⟩, ⟨_, cl_back bb rfl rfl rfl rfl rfl⟩⟩
theorem al2 (bo : B.Ok) {w : CP} (hw : w = wAny ∨ w = wNever) (bb : Bool) : Alike { B with d := w, f := wNever } { B with d := w, f := wLine } false bb := by
  have wo : w ∈ [wOwn, wAny, wNever] := by rcases hw with rfl | rfl <;> decide
  have wi : w ∈ [wAny, wNever] := by rcases hw with rfl | rfl <;> decide
  exact ⟨⟨bo.a, bo.b, bo.c, wo, bo.e, by simp⟩, ⟨bo.a, bo.b, bo.c, wo, bo.e, by simp⟩, ⟨_, cl_forget bb rfl rfl rfl rfl wi⟩, ⟨_, cl_forget bb rfl rfl rfl rfl wi⟩⟩
theorem al3 (bo : B.Ok) (ss bb : Bool) : Alike { bare0 B with f := wNever } { bare0 B with f := wLine } ss bb :=
  have q := bare_okB bo
  ⟨⟨q.a, q.b, q.c, q.d, q.e, by simp⟩, ⟨q.a, q.b, q.c, q.d, q.e, by simp⟩, ⟨_, cl_bare ss bb rfl rfl rfl rfl rfl rfl⟩, ⟨_, cl_bare ss bb rfl rfl rfl rfl rfl rfl⟩⟩
theorem al4 (bo : B.Ok) (ss bb : Bool) : Alike { bare0 B with d := wOwn } { bare0 B with d := wNever } ss bb :=
  have q := bare_okB bo
  ⟨⟨q.a, q.b, q.c, by simp, q.e, q.f⟩, ⟨q.a, q.b, q.c, by simp, q.e, q.f⟩, ⟨_, cl_bare ss bb rfl rfl rfl rfl (show lets wNever false = lets wOwn false by decide) rfl⟩, ⟨_, cl_bare ss bb rfl rfl rfl rfl (show lets wOwn false = lets wNever false by decide) rfl⟩⟩
theorem al5 (bo : B.Ok) (ss bb : Bool) : Alike { bare0 B with e := wOwn } { bare0 B with e := wOneW } ss bb :=
  have q := bare_okB bo
  ⟨⟨q.a, q.b, q.c, q.d, by simp, q.f⟩, ⟨q.a, q.b, q.c, q.d, by simp, q.f⟩, ⟨_, cl_bare ss bb rfl rfl rfl rfl rfl (show lets wOneW false = lets wOwn false by decide)⟩, ⟨_, cl_bare ss bb rfl rfl rfl rfl rfl (show lets wOwn false = lets wOneW false by decide)⟩⟩
theorem turn_ok {ns : List Int} {b : Nat} {h : MH} {x2 : Option MV} (st : S4 (16 + b) [] h) : ∃ s' h', b_law_1_b (L15 ns x2 none none none none none none none none none none none none) h = .nx s' h' := by
  obtain ⟨B, h1, bo, st1, e1⟩ := Q3.book_ok (show S4 (6 + (10 + b)) [] h from st.mono (by omega))
  rw [← book_eq] at e1
  have f0 : (eBlt mListV (aCons (eCall 1 m_law_book (aCons (eVar 1) (aNil))) (aNil))) (L15 ns x2 none none none none none none none none none none none none) h = .ok (bkL B) h1 := by
    have ca : (eCall 1 m_law_book (aCons (eVar 1) (aNil))) (L15 ns x2 none none none none none none none none none none none none) h = .ok B.v h1 := e1
    rw [eBlt_ap, aCons_ap, ca]; rfl
  obtain ⟨bb, h2, st2, d1⟩ := draw_is (show S4 ((9 + b) + 1) [] h1 from st1.mono (by omega)) (L15 ns x2 none none none none none none none none none none none none) rfl
  obtain ⟨ss, h3, st3, d2⟩ := draw_is (show S4 ((8 + b) + 1) [] h2 from st2.mono (by omega)) (L15 ns x2 none none none none none none none none none none none none) rfl
  have s0 : b_law_1_b_0 (L15 ns x2 none none none none none none none none none none none none) h = .nx (L15 ns x2 none none none (some (bkL B)) (some (.bl bb)) (some (.bl ss)) none none none none none none) h3 := by
    unfold b_law_1_b_0
    rw [sPar3_ap, aCons_ap, f0, bind_ok, aCons_ap, d1, bind_ok, aCons_ap, d2]
    rfl
  have s1 : b_law_1_b_1 (L15 ns x2 none none none (some (bkL B)) (some (.bl bb)) (some (.bl ss)) none none none none none none) h3 = .nx (L15 ns x2 (some (bkL (bare0 B))) none none (some (bkL B)) (some (.bl bb)) (some (.bl ss)) none none none none none none) h3 := rfl
  obtain ⟨w2, h4, hw2, st4, d3⟩ := two_words (show S4 ((7 + b) + 1) [] h3 from st3.mono (by omega)) wAny wOneW (L15 ns x2 (some (bkL (bare0 B))) none none (some (bkL B)) (some (.bl bb)) (some (.bl ss)) none none none none none none) rfl
  have s2 : b_law_1_b_2 (L15 ns x2 (some (bkL (bare0 B))) none none (some (bkL B)) (some (.bl bb)) (some (.bl ss)) none none none none none none) h3 = .nx (L15 ns x2 (some (bkL (bare0 B))) (some (.ref h4.length)) none (some (bkL B)) (some (.bl bb)) (some (.bl ss)) none none none none none none) (h4 ++ [.lst ([({ B with e := wOwn }, { B with e := w2 }, false)].map prV)]) := by
    have q1 : (eOp mAddV (eOp mAddV (eCutV (eVar 6) (pNo) (pSo (eC (.int 4)))) (eLstV (aCons (eC (.str [111, 119, 110])) (aNil)))) (eCutV (eVar 6) (pSo (eC (.int 5))) (pNo))) (L15 ns x2 (some (bkL (bare0 B))) none none (some (bkL B)) (some (.bl bb)) (some (.bl ss)) none none none none none none) h3 = .ok (bkL { B with e := wOwn }) h3 := rfl
    have q2 : (eLstV (aCons (eOp mIx (eLstV (aCons (eC (.str [97, 110, 121])) (aCons (eC (.str [111, 110, 101])) (aNil)))) (eCall 2 m_law_draw (aCons (eVar 1) (aCons (eC (.int 2)) (aNil))))) (aNil))) (L15 ns x2 (some (bkL (bare0 B))) none none (some (bkL B)) (some (.bl bb)) (some (.bl ss)) none none none none none none) h3 = .ok (.lv [.str w2]) h4 := by
      rw [eLstV_ap, aCons_ap, d3]; rfl
    have q3 : (eCutV (eVar 6) (pNo) (pSo (eC (.int 4)))) (L15 ns x2 (some (bkL (bare0 B))) none none (some (bkL B)) (some (.bl bb)) (some (.bl ss)) none none none none none none) h3 = .ok (.lv [.str B.a, .str B.b, .str B.c, .str B.d]) h3 := rfl
    have q4 : (eOp mAddV (eOp mAddV (eCutV (eVar 6) (pNo) (pSo (eC (.int 4)))) (eLstV (aCons (eOp mIx (eLstV (aCons (eC (.str [97, 110, 121])) (aCons (eC (.str [111, 110, 101])) (aNil)))) (eCall 2 m_law_draw (aCons (eVar 1) (aCons (eC (.int 2)) (aNil))))) (aNil)))) (eCutV (eVar 6) (pSo (eC (.int 5))) (pNo))) (L15 ns x2 (some (bkL (bare0 B))) none none (some (bkL B)) (some (.bl bb)) (some (.bl ss)) none none none none none none) h3 = .ok (bkL { B with e := w2 }) h4 := by
      rw [eOp_ap, eOp_ap, q3, bind_ok, q2]; rfl
    unfold b_law_1_b_2
    rw [sAsg_ap, eLst_ap, aCons_ap, eTup_ap, aCons_ap, q1, bind_ok, aCons_ap, q4]
    rfl
  obtain ⟨n, en⟩ : ∃ n, n = h4.length := ⟨_, rfl⟩
  have n4 : 4 ≤ n := by rw [en, st4.len]; omega
  rw [← en] at s2
  have st5 := S4.grow st4 (.lst ([({ B with e := wOwn }, { B with e := w2 }, false)].map prV)) (bel_prs _ _)
  obtain ⟨g1, eg1⟩ : ∃ g, g = h4 ++ [MO.lst ([({ B with e := wOwn }, { B with e := w2 }, false)].map prV)] := ⟨_, rfl⟩
  rw [← eg1] at s2 st5
  have o1 : g1[n]? = some (.lst ([({ B with e := wOwn }, { B with e := w2 }, false)].map prV)) := by rw [eg1, en]; simp
  obtain ⟨w3, h5, hw3, st6, d4⟩ := two_words (st5.mono (show (6 + b) + 1 ≤ 7 + b by omega)) wAny wNever (L15 ns x2 (some (bkL (bare0 B))) (some (.ref n)) none (some (bkL B)) (some (.bl bb)) (some (.bl ss)) none none none none none none) rfl
  have at4 : ∀ {b b' : Nat} {t h h' : MH}, S4 b t h → S4 b' t h' → h'[n]? = h[n]? := fun {b b' t h h'} a c => by
    obtain ⟨⟨cs, gs, k, _, _, _, rfl⟩, _⟩ := a
    obtain ⟨⟨cs', gs', k', _, _, _, rfl⟩, _⟩ := c
    obtain ⟨j, rfl⟩ : ∃ j, n = j + 4 := ⟨n - 4, by omega⟩
    simp only [Cm.st, List.getElem?_cons_succ]
  have o2 : h5[n]? = some (.lst ([({ B with e := wOwn }, { B with e := w2 }, false)].map prV)) := by rw [at4 st5 st6]; exact o1
  have s3 : b_law_1_b_3 (L15 ns x2 (some (bkL (bare0 B))) (some (.ref n)) none (some (bkL B)) (some (.bl bb)) (some (.bl ss)) none none none none none none) g1 = .nx (L15 ns x2 (some (bkL (bare0 B))) (some (.ref n)) (some (bkL { B with d := w3 })) (some (bkL B)) (some (.bl bb)) (some (.bl ss)) none none none none none none) h5 := by
    have q2 : (eLstV (aCons (eOp mIx (eLstV (aCons (eC (.str [97, 110, 121])) (aCons (eC (.str [110, 101, 118, 101, 114])) (aNil)))) (eCall 2 m_law_draw (aCons (eVar 1) (aCons (eC (.int 2)) (aNil))))) (aNil))) (L15 ns x2 (some (bkL (bare0 B))) (some (.ref n)) none (some (bkL B)) (some (.bl bb)) (some (.bl ss)) none none none none none none) g1 = .ok (.lv [.str w3]) h5 := by
      rw [eLstV_ap, aCons_ap, d4]; rfl
    have q3 : (eCutV (eVar 6) (pNo) (pSo (eC (.int 3)))) (L15 ns x2 (some (bkL (bare0 B))) (some (.ref n)) none (some (bkL B)) (some (.bl bb)) (some (.bl ss)) none none none none none none) g1 = .ok (.lv [.str B.a, .str B.b, .str B.c]) g1 := rfl
    unfold b_law_1_b_3
    rw [sAsg_ap, eOp_ap, eOp_ap, q3, bind_ok, q2]
    rfl
  let P1 : Bk × Bk × Bool := ({ B with e := wOwn }, { B with e := w2 }, false)
  let P2 : Bk × Bk × Bool := ({ B with d := w3, f := wNever }, { B with d := w3, f := wLine }, false)
  let P3 : Bk × Bk × Bool := ({ bare0 B with f := wNever }, { bare0 B with f := wLine }, ss)
  let P4 : Bk × Bk × Bool := ({ bare0 B with d := wOwn }, { bare0 B with d := wNever }, ss)
  let P5 : Bk × Bk × Bool := ({ bare0 B with e := wOwn }, { bare0 B with e := wOneW }, ss)
  have step : ∀ {E : ME} {l : List (Bk × Bk × Bool)} {x : Bk × Bk × Bool} {g : MH}, g[n]? = some (.lst (l.map prV)) → l.length ≤ 100 → E (L15 ns x2 (some (bkL (bare0 B))) (some (.ref n)) (some (bkL { B with d := w3 })) (some (bkL B)) (some (.bl bb)) (some (.bl ss)) none none none none none none) g = .ok (prV x) g →
      sExpr (eBm .list mAppend (eVar 4) (aCons E aNil)) (L15 ns x2 (some (bkL (bare0 B))) (some (.ref n)) (some (bkL { B with d := w3 })) (some (bkL B)) (some (.bl bb)) (some (.bl ss)) none none none none none none) g = .nx (L15 ns x2 (some (bkL (bare0 B))) (some (.ref n)) (some (bkL { B with d := w3 })) (some (bkL B)) (some (.bl bb)) (some (.bl ss)) none none none none none none) (g.set n (.lst ((l ++ [x]).map prV))) := fun {E l x g} e hl ex => by
    have rc : isRcv .list (.ref n) g = true := by simp [isRcv, lstAt, e]
    have e4 : eVar 4 (L15 ns x2 (some (bkL (bare0 B))) (some (.ref n)) (some (bkL { B with d := w3 })) (some (bkL B)) (some (.bl bb)) (some (.bl ss)) none none none none none none) g = .ok (.ref n) g := rfl
    rw [sExpr_ap, eBm_ap, e4, bind_ok, if_pos rc, aCons_ap, ex, bind_ok, aNil_ap, bind_ok, bind_ok, app_pr e hl]
    rfl
  have nl : ∀ {g : MH} {o : MO}, g[n]? = some o → n < g.length := fun e => get_lt e
  have s4 := step (l := [P1]) (x := P2) o2 (by simp) (E := (eTup (aCons (eOp mAddV (eCutV (eVar 5) (pNo) (pSo (eC (.int 5)))) (eLstV (aCons (eC (.str [110, 101, 118, 101, 114])) (aNil)))) (aCons (eOp mAddV (eCutV (eVar 5) (pNo) (pSo (eC (.int 5)))) (eLstV (aCons (eC (.str [108, 105, 110, 101])) (aNil)))) (aCons (eC (.bl false)) (aNil)))))) rfl
  have st7 := S4.put (o := .lst (([P1] ++ [P2]).map prV)) st6 n4 (bel_prs _ _)
  obtain ⟨k1, ek1⟩ : ∃ g, g = h5.set n (MO.lst (([P1] ++ [P2]).map prV)) := ⟨_, rfl⟩
  have o3 : k1[n]? = some (.lst ([P1, P2].map prV)) := by rw [ek1]; exact List.getElem?_set_self (nl o2)
  rw [← ek1] at s4 st7
  have s5 := step (l := [P1, P2]) (x := P3) o3 (by simp) (E := (eTup (aCons (eOp mAddV (eCutV (eVar 3) (pNo) (pSo (eC (.int 5)))) (eLstV (aCons (eC (.str [110, 101, 118, 101, 114])) (aNil)))) (aCons (eOp mAddV (eCutV (eVar 3) (pNo) (pSo (eC (.int 5)))) (eLstV (aCons (eC (.str [108, 105, 110, 101])) (aNil)))) (aCons (eVar 8) (aNil)))))) rfl
  have st8 := S4.put (o := .lst (([P1, P2] ++ [P3]).map prV)) st7 n4 (bel_prs _ _)
  obtain ⟨k2, ek2⟩ : ∃ g, g = k1.set n (MO.lst (([P1, P2] ++ [P3]).map prV)) := ⟨_, rfl⟩
  have o4 : k2[n]? = some (.lst ([P1, P2, P3].map prV)) := by rw [ek2]; exact List.getElem?_set_self (nl o3)
  rw [← ek2] at s5 st8
  have s6 := step (l := [P1, P2, P3]) (x := P4) o4 (by simp) (E := (eTup (aCons (eOp mAddV (eOp mAddV (eCutV (eVar 3) (pNo) (pSo (eC (.int 3)))) (eLstV (aCons (eC (.str [111, 119, 110])) (aNil)))) (eCutV (eVar 3) (pSo (eC (.int 4))) (pNo))) (aCons (eOp mAddV (eOp mAddV (eCutV (eVar 3) (pNo) (pSo (eC (.int 3)))) (eLstV (aCons (eC (.str [110, 101, 118, 101, 114])) (aNil)))) (eCutV (eVar 3) (pSo (eC (.int 4))) (pNo))) (aCons (eVar 8) (aNil)))))) rfl
  have st9 := S4.put (o := .lst (([P1, P2, P3] ++ [P4]).map prV)) st8 n4 (bel_prs _ _)
  obtain ⟨k3, ek3⟩ : ∃ g, g = k2.set n (MO.lst (([P1, P2, P3] ++ [P4]).map prV)) := ⟨_, rfl⟩
  have o5 : k3[n]? = some (.lst ([P1, P2, P3, P4].map prV)) := by rw [ek3]; exact List.getElem?_set_self (nl o4)
  rw [← ek3] at s6 st9
  have s7 := step (l := [P1, P2, P3, P4]) (x := P5) o5 (by simp) (E := (eTup (aCons (eOp mAddV (eOp mAddV (eCutV (eVar 3) (pNo) (pSo (eC (.int 4)))) (eLstV (aCons (eC (.str [111, 119, 110])) (aNil)))) (eCutV (eVar 3) (pSo (eC (.int 5))) (pNo))) (aCons (eOp mAddV (eOp mAddV (eCutV (eVar 3) (pNo) (pSo (eC (.int 4)))) (eLstV (aCons (eC (.str [111, 110, 101])) (aNil)))) (eCutV (eVar 3) (pSo (eC (.int 5))) (pNo))) (aCons (eVar 8) (aNil)))))) rfl
  have st10 := S4.put (o := .lst (([P1, P2, P3, P4] ++ [P5]).map prV)) st9 n4 (bel_prs _ _)
  obtain ⟨k4, ek4⟩ : ∃ g, g = k3.set n (MO.lst (([P1, P2, P3, P4] ++ [P5]).map prV)) := ⟨_, rfl⟩
  have o6 : k4[n]? = some (.lst ([P1, P2, P3, P4, P5].map prV)) := by rw [ek4]; exact List.getElem?_set_self (nl o5)
  rw [← ek4] at s7 st10
  have als : ∀ x ∈ [P1, P2, P3, P4, P5], Alike x.1 x.2.1 x.2.2 bb := fun x hx => by
    simp only [List.mem_cons, List.not_mem_nil, or_false] at hx
    rcases hx with rfl | rfl | rfl | rfl | rfl
    · exact al1 bo hw2 bb
    · exact al2 bo hw3 bb
    · exact al3 bo ss bb
    · exact al4 bo ss bb
    · exact al5 bo ss bb
  obtain ⟨y9, y10, y11, y12, y13, y14, s8⟩ : ∃ y9 y10 y11 y12 y13 y14, b_law_1_b_8 (L15 ns x2 (some (bkL (bare0 B))) (some (.ref n)) (some (bkL { B with d := w3 })) (some (bkL B)) (some (.bl bb)) (some (.bl ss)) none none none none none none) k4 = .nx (L15 ns x2 (some (bkL (bare0 B))) (some (.ref n)) (some (bkL { B with d := w3 })) (some (bkL B)) (some (.bl bb)) (some (.bl ss)) y9 y10 y11 y12 y13 y14) k4 := by
    have it : jSeq (eVar 4) (L15 ns x2 (some (bkL (bare0 B))) (some (.ref n)) (some (bkL { B with d := w3 })) (some (bkL B)) (some (.bl bb)) (some (.bl ss)) none none none none none none) k4 = .ok (.lst n) k4 := by
      have e4 : eVar 4 (L15 ns x2 (some (bkL (bare0 B))) (some (.ref n)) (some (bkL { B with d := w3 })) (some (bkL B)) (some (.bl bb)) (some (.bl ss)) none none none none none none) k4 = .ok (.ref n) k4 := rfl
      have la : lstAt k4 n = some ([P1, P2, P3, P4, P5].map prV) := by simp [lstAt, o6]
      unfold jSeq
      rw [e4, bind_ok]
      simp only [la]
    have fu : (MIt.lst n).fuel k4 = 5 := by
      have la : lstAt k4 n = some ([P1, P2, P3, P4, P5].map prV) := by simp [lstAt, o6]
      simp [MIt.fuel, la]
    obtain ⟨s', h', ef, ⟨⟨y9, y10, y11, y12, y13, y14, es⟩, eh⟩, _⟩ := Lm.forM_lst (g := (gTp 3 (gC (gNm 9) (gC (gNm 10) (gC (gNm 11) (gN)))))) (b := sSeq (b_law_1_b_8_b_0) (b_law_1_b_8_b_1)) (l := n) (xs := [P1, P2, P3, P4, P5].map prV)
      (fun r s h => ((∃ y9 y10 y11 y12 y13 y14, s = L15 ns x2 (some (bkL (bare0 B))) (some (.ref n)) (some (bkL { B with d := w3 })) (some (bkL B)) (some (.bl bb)) (some (.bl ss)) y9 y10 y11 y12 y13 y14) ∧ h = k4) ∧ ∀ v ∈ r, v ∈ [P1, P2, P3, P4, P5].map prV)
      (fun r s h p => by rw [p.1.2]; exact o6)
      (fun v r s h p => by
        obtain ⟨⟨⟨y9, y10, y11, y12, y13, y14, es⟩, eh⟩, hv⟩ := p
        obtain ⟨x, hx, rfl⟩ := List.mem_map.mp (hv v List.mem_cons_self)
        subst es eh
        obtain ⟨z9, z10, z11, z12, z13, z14, ea⟩ := ask_ok (ns := ns) (x2 := x2) (x3 := some (bkL (bare0 B))) (x4 := some (.ref n)) (x5 := some (bkL { B with d := w3 })) (x6 := some (bkL B)) (x8 := some (.bl ss)) (x12 := y12) (x13 := y13) (x14 := y14) (als x hx) _
        exact ⟨_, _, _, _, rfl, ea, ⟨⟨z9, z10, z11, z12, z13, z14, rfl⟩, rfl⟩, fun u hu => hv u (List.mem_cons_of_mem _ hu)⟩)
      5 0 (L15 ns x2 (some (bkL (bare0 B))) (some (.ref n)) (some (bkL { B with d := w3 })) (some (bkL B)) (some (.bl bb)) (some (.bl ss)) none none none none none none) k4 rfl ⟨⟨⟨_, _, _, _, _, _, rfl⟩, rfl⟩, fun v hv => hv⟩
    subst es eh
    refine ⟨y9, y10, y11, y12, y13, y14, ?_⟩
    unfold b_law_1_b_8
    rw [sFor_ap, it, bindS_ok, fu]
    exact ef
  obtain ⟨B2, h6, bo2, st11, e2⟩ := Q3.book_ok (show S4 (6 + b) _ k4 from st10)
  rw [← book_eq] at e2
  have s9 : b_law_1_b_9 (L15 ns x2 (some (bkL (bare0 B))) (some (.ref n)) (some (bkL { B with d := w3 })) (some (bkL B)) (some (.bl bb)) (some (.bl ss)) y9 y10 y11 y12 y13 y14) k4 = .nx (L15 ns x2 (some (bkL (bare0 B))) (some (.ref n)) (some (bkL { B with d := w3 })) (some (bkL B)) (some (.bl bb)) (some (.bl ss)) y9 y10 y11 (some (bare0 B).v) (some (bare0 B2).v) y14) h6 := by
    have q1 : (eBlt mTuple (aCons (eVar 3) (aNil))) (L15 ns x2 (some (bkL (bare0 B))) (some (.ref n)) (some (bkL { B with d := w3 })) (some (bkL B)) (some (.bl bb)) (some (.bl ss)) y9 y10 y11 y12 y13 y14) k4 = .ok (bare0 B).v k4 := rfl
    have ca : (eCall 1 m_law_book (aCons (eVar 1) (aNil))) (L15 ns x2 (some (bkL (bare0 B))) (some (.ref n)) (some (bkL { B with d := w3 })) (some (bkL B)) (some (.bl bb)) (some (.bl ss)) y9 y10 y11 y12 y13 y14) k4 = .ok B2.v h6 := e2
    have q2 : (eTup (aCons (eC (.str [110, 101, 118, 101, 114])) (aCons (eC (.str [110, 101, 118, 101, 114])) (aNil)))) (L15 ns x2 (some (bkL (bare0 B))) (some (.ref n)) (some (bkL { B with d := w3 })) (some (bkL B)) (some (.bl bb)) (some (.bl ss)) y9 y10 y11 y12 y13 y14) k4 = .ok (.tup [.str wNever, .str wNever]) k4 := rfl
    unfold b_law_1_b_9
    rw [sPar_ap, aCons_ap, q1, bind_ok, aCons_ap, eOp_ap, q2, bind_ok, eCutV_ap, ca]
    rfl
  have pe := p_alike (cl_empty (B := bare0 B) (C := bare0 B2) ss rfl rfl rfl rfl) (bare_okB bo) (bare_okB bo2) h6
  have s10 : b_law_1_b_10 (L15 ns x2 (some (bkL (bare0 B))) (some (.ref n)) (some (bkL { B with d := w3 })) (some (bkL B)) (some (.bl bb)) (some (.bl ss)) y9 y10 y11 (some (bare0 B).v) (some (bare0 B2).v) y14) h6 = .nx (L15 ns x2 (some (bkL (bare0 B))) (some (.ref n)) (some (bkL { B with d := w3 })) (some (bkL B)) (some (.bl bb)) (some (.bl ss)) y9 y10 y11 (some (bare0 B).v) (some (bare0 B2).v) y14) h6 := by
    have ca : (eCall 3 p_are_alike (aCons (eVar 12) (aCons (eVar 13) (aCons (eTup (aCons (eVar 8) (aCons (eC (.bl false)) (aNil)))) (aNil))))) (L15 ns x2 (some (bkL (bare0 B))) (some (.ref n)) (some (bkL { B with d := w3 })) (some (bkL B)) (some (.bl bb)) (some (.bl ss)) y9 y10 y11 (some (bare0 B).v) (some (bare0 B2).v) y14) h6 = .ok (.bl true) h6 := pe
    unfold b_law_1_b_10
    rw [if_f (g := h6) (by rw [tCmp_ap, ca]; rfl)]
    rfl
  let Ba : Bk := { B with a := wAlways }
  let Bf : Bk := { B with a := wFree }
  have oa : Ba.Ok := ⟨by simp [Ba], bo.b, bo.c, bo.d, bo.e, bo.f⟩
  have of : Bf.Ok := ⟨by simp [Bf], bo.b, bo.c, bo.d, bo.e, bo.f⟩
  have s11 : b_law_1_b_11 (L15 ns x2 (some (bkL (bare0 B))) (some (.ref n)) (some (bkL { B with d := w3 })) (some (bkL B)) (some (.bl bb)) (some (.bl ss)) y9 y10 y11 (some (bare0 B).v) (some (bare0 B2).v) y14) h6 = .nx (L15 ns x2 (some (bkL (bare0 B))) (some (.ref n)) (some (bkL { B with d := w3 })) (some (bkL B)) (some (.bl bb)) (some (.bl ss)) y9 y10 y11 (some Ba.v) (some Bf.v) y14) h6 := rfl
  have pf := p_alike (cl_free (B := Ba) (C := Bf) ss rfl rfl rfl rfl rfl rfl rfl) oa of h6
  have s12 : b_law_1_b_12 (L15 ns x2 (some (bkL (bare0 B))) (some (.ref n)) (some (bkL { B with d := w3 })) (some (bkL B)) (some (.bl bb)) (some (.bl ss)) y9 y10 y11 (some Ba.v) (some Bf.v) y14) h6 = .nx (L15 ns x2 (some (bkL (bare0 B))) (some (.ref n)) (some (bkL { B with d := w3 })) (some (bkL B)) (some (.bl bb)) (some (.bl ss)) y9 y10 y11 (some Ba.v) (some Bf.v) y14) h6 := by
    have ca : (eCall 3 p_are_alike (aCons (eVar 12) (aCons (eVar 13) (aCons (eTup (aCons (eVar 8) (aCons (eC (.bl false)) (aNil)))) (aNil))))) (L15 ns x2 (some (bkL (bare0 B))) (some (.ref n)) (some (bkL { B with d := w3 })) (some (bkL B)) (some (.bl bb)) (some (.bl ss)) y9 y10 y11 (some Ba.v) (some Bf.v) y14) h6 = .ok (.bl true) h6 := pf
    unfold b_law_1_b_12
    rw [if_f (g := h6) (by rw [tCmp_ap, ca]; rfl)]
    rfl
  refine ⟨L15 ns x2 (some (bkL (bare0 B))) (some (.ref n)) (some (bkL { B with d := w3 })) (some (bkL B)) (some (.bl bb)) (some (.bl ss)) y9 y10 y11 (some Ba.v) (some Bf.v) y14, h6, ?_⟩
  unfold b_law_1_b
  rw [seq_nx s0, seq_nx s1, seq_nx s2, seq_nx s3]
  unfold b_law_1_b_4 b_law_1_b_5 b_law_1_b_6 b_law_1_b_7
  rw [seq_nx s4, seq_nx s5, seq_nx s6, seq_nx s7, seq_nx s8, seq_nx s9, seq_nx s10, seq_nx s11]
  exact s12
theorem pure (ns : List Int) (hns : ns.length ≤ 63) : ∃ h', m_law [.ro (ns.map MV.int)] [] = .ok (.bl true) h' := by
  obtain ⟨cs, gs0, kc, _, e0⟩ := Cm.begun_ok ns hns
  rw [← begun_eq] at e0
  have st0 : S4 (16 + 4) [] (Cm.st cs gs0 0 []) := ⟨⟨cs, gs0, 0, kc, by omega, by simp, rfl⟩, rfl⟩
  have s0 : b_law_0 [some (.ro (ns.map .int)), none, none, none, none, none, none, none, none, none, none, none, none, none, none] [] = .nx (L15 ns none none none none none none none none none none none none none) (Cm.st cs gs0 0 []) := by
    simp [b_law_0, e0]
  obtain ⟨s', h', e1⟩ := turn_ok (ns := ns) (x2 := some (.int 0)) st0
  have s1 : b_law_1 (L15 ns none none none none none none none none none none none none none) (Cm.st cs gs0 0 []) = .nx s' h' := by
    have it : jRng1 (aCons (eC (.int 1)) (aNil)) (L15 ns none none none none none none none none none none none none none) (Cm.st cs gs0 0 []) = .ok (.items [.int 0]) (Cm.st cs gs0 0 []) := rfl
    unfold b_law_1
    rw [for_it it, N1.forL_nx (s1 := L15 ns (some (.int 0)) none none none none none none none none none none none none) rfl e1]
    rfl
  refine ⟨h', ?_⟩
  show (match b_law [some (.ro (ns.map .int)), none, none, none, none, none, none, none, none, none, none, none, none, none, none] [] with
    | .rt v h' => R.ok v h'
    | .nx _ h' => .ok .non h'
    | .err e _ h' => .err e h'
    | _ => .stuck) = _
  unfold b_law
  rw [seq_nx s0, seq_nx s1]
  rfl
end
end GXk22

end
theorem PySem.Challenge.cw_ownclosers_k22_whole_choices_without_eff_holds : PySem.Challenge.rw_ownclosers_k22_whole_choices_without_eff.Holds := by
  exact GXk22.end_ GXk22.pure

