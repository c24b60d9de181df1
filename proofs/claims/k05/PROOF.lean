import PyProof.Rows.All
import Wide.All
import OpenK.AllK
import Wide.FinOn
import HandS.ForMost
import HandS.ForExc
import HandS.Walk
import HandS.CallSlots
import HandS.IsInst
import HandS.Zip
import HandS.StrMore
import HandS.TupLe
import HandS.TupAny
import HandS.Style
import HandS.Flow
import HandS.Lambda
import HandS.TupMul
import HandS.Defaults
import HandS.HeadEnd
import HandS.Replace
import HandS.Codes
import KE.GoesEnum
import HandS.Head0
import HandS.Head1
import HandS.Head2
import HandS.HeadHook1
import HandS.HeadHook2
import HandS.HeadHook3
import HandS.HeadHook4
import PyProof.ReprRoads
import PyProof.ListStr
import PyProof.TupleOfStr
import PyProof.StrBlock2
import HandS.Conv
import HandS.Star
import PyProof.Rows.Range3
import HandS.ExcInit
import KE.KExcSuper
import HandS.ExcValue
import KE.KExcIs
import HandS.ExcIs
import PyProof.ReprLen
import PySem.Challenge.RW_ownclosers_k05_whole_meant_texts
set_option Elab.async false
set_option linter.all false
set_option maxRecDepth 100000
set_option maxHeartbeats 8000000
namespace MP
open PySem PySem.Spec PyProof.Rows L2

/-! ### values, objects, heaps of the mirror -/
abbrev CP := List Nat
def S (l : CP) : Str := ⟨l.toArray⟩
inductive Ty where
  | int | str | bool | tuple | list | dict | none | valErr | ovfErr
  deriving DecidableEq
def Ty.nm : Ty → String
  | .int => "int" | .str => "str" | .bool => "bool" | .tuple => "tuple" | .list => "list" | .dict => "dict" | .none => "NoneType" | .valErr => "ValueError" | .ovfErr => "OverflowError"
inductive MV where
  | non | bl (b : Bool) | int (i : Int) | str (l : CP) | tup (xs : List MV) | ref (n : Nat) | ty (n : Ty) | glo (x : CP) | ro (xs : List MV) | lv (xs : List MV) | exc (c : CP) (ns : List CP) (vs : List MV) | clo (a c : Addr) (q : Str) (ws : List V) (vs : List MV)
abbrev MK := Sum Int CP
def mk : MK → Key
  | .inl i => .inl i
  | .inr l => .inr (S l)
inductive MO where
  | lst (xs : List MV) | dK (kvs : List (MK × MV)) | dZ (kvs : List (MK × MV)) | dT (kvs : List (List MK × MV)) | ins (c : CP) (fs : List (CP × MV))
abbrev MH := List MO
structure MX where
  c : CP
  fs : List (CP × MV)
inductive R (α : Type) where
  | ok (a : α) (h : MH) | err (x : MX) (h : MH) | stuck
abbrev Sl := List (Option MV)
inductive SR where
  | nx (s : Sl) (h : MH) | rt (v : MV) (h : MH) | bk (s : Sl) (h : MH) | ct (s : Sl) (h : MH) | err (x : MX) (s : Sl) (h : MH) | stuck
abbrev ME := Sl → MH → R MV
abbrev MT := Sl → MH → R Bool
abbrev MA := Sl → MH → R (List MV)
abbrev MS := Sl → MH → SR
def R.bind {α β : Type} (x : R α) (f : α → MH → R β) : R β := match x with
  | .ok a h => f a h
  | .err e h => .err e h
  | .stuck => .stuck
def R.bindS {α : Type} (x : R α) (s : Sl) (f : α → MH → SR) : SR := match x with
  | .ok a h => f a h
  | .err e h => .err e s h
  | .stuck => .stuck

/-! ### how a value stands for a value -/
/-- a list that is only read: the script, a list of the module's top -/
def RoL (K : PySem.W.Frag) (H : Hp) (a : Addr) (xs : List V) : Prop := (∃ o, H a = some (.frz o (.lst xs))) ∨
  ∃ (o : Obj) (its : Array Value) (n : Nat), K.lookup a = some o ∧ o.cls = .type "list" ∧ o.dict = none ∧ o.data = .seq its n ∧ its.size ≤ sizeLine ∧ Vals xs its.toList
theorem RoL.sq {K : PySem.W.Frag} {H : Hp} {a : Addr} {xs : List V} (h : RoL K H a xs) : SqL K H a xs := by
  rcases h with ⟨o, h⟩ | h
  · exact .inl (.inr ⟨o, h⟩)
  · exact .inr h
/-- a list that nobody changes any more: a value -/
def FzL (H : Hp) (a : Addr) (xs : List V) : Prop := ∃ o, H a = some (.frz o (.lst xs))
theorem FzL.sq {K : PySem.W.Frag} {H : Hp} {a : Addr} {xs : List V} (h : FzL H a xs) : SqL K H a xs := .inl (.inr h)
theorem FzL.rd {H : Hp} {a : Addr} {xs : List V} (h : FzL H a xs) : Rd H a (.lst xs) := .inr h
/-- an exception of the class at C, its dict at d, that nobody changes -/
def exV (a C d : Addr) : HO := .ext fun h => ∃ (oe : Obj) (vs : Array Value), h.get? a = some oe ∧ oe.cls = .ref C ∧ oe.dict = some d ∧ oe.data = .fields vs
/-- what is read only is kept -/
structure Kp (K : PySem.W.Frag) (H H' : Hp) : Prop where
  t : ∀ a xs, SqT K H a xs → SqT K H' a xs
  l : ∀ a xs, RoL K H a xs → RoL K H' a xs
  z : ∀ a xs, FzL H a xs → FzL H' a xs
  x : ∀ a φ, H a = some (.ext φ) → H' a = some (.ext φ)
  d : ∀ a fs, H a = some (.xd fs) → H' a = some (.xd fs)
theorem Kp.refl {K : PySem.W.Frag} {H : Hp} : Kp K H H := ⟨fun _ _ z => z, fun _ _ z => z, fun _ _ z => z, fun _ _ z => z, fun _ _ z => z⟩
def plainO : HO → Prop
  | .tup _ => False
  | .frz _ (.lst _) => False
  | .frz _ (.tup _) => False
  | .ext _ => False
  | .xd _ => False
  | .tbl _ => False
  | _ => True
theorem Kp.upd {K : PySem.W.Frag} {H : Hp} {p : Addr} {u : HO} (h : ∀ o, H p = some o → plainO o) : Kp K H (L2.upd H p u) := by
  have key : ∀ {b : Addr} {o : HO}, H b = some o → ¬ plainO o → L2.upd H p u b = some o := fun {b o} e n => by
    rw [upd_ne (fun z => n (h o (by rw [← z]; exact e)))]
    exact e
  refine ⟨fun a xs q => ?_, fun a xs q => ?_, fun a xs ⟨o, q⟩ => ⟨o, key q fun z => z⟩, fun a φ q => key q fun z => z, fun a fs q => key q fun z => z⟩
  · rcases q with (q | ⟨o, q⟩) | q
    · exact .inl (.inl (key q fun z => z))
    · exact .inl (.inr ⟨o, key q fun z => z⟩)
    · exact .inr q
  · rcases q with ⟨o, q⟩ | q
    · exact .inl ⟨o, key q fun z => z⟩
    · exact .inr q
mutual
inductive Rep (K : PySem.W.Frag) (mg : Str → Option Value) (r : List Addr) (H : Hp) : MV → V → Prop
  | non : Rep K mg r H .non .non
  | bl (b : Bool) : Rep K mg r H (.bl b) (.bl b)
  | int (i : Int) : Rep K mg r H (.int i) (.int i)
  | str (l : CP) : Rep K mg r H (.str l) (.str (S l))
  | tup {a : Addr} {xs : List MV} {ys : List V} : SqT K H a ys → RepL K mg r H xs ys → Rep K mg r H (.tup xs) (.ref a)
  | ref {n : Nat} {a : Addr} : r[n]? = some a → Rep K mg r H (.ref n) (.ref a)
  | ty (n : Ty) : Rep K mg r H (.ty n) (.ty n.nm)
  | glo {x : CP} {a : Addr} : mg (S x) = some (.ref a) → Rep K mg r H (.glo x) (.ref a)
  | ro {a : Addr} {xs : List MV} {ys : List V} : RoL K H a ys → RepL K mg r H xs ys → Rep K mg r H (.ro xs) (.ref a)
  | lv {a : Addr} {xs : List MV} {ys : List V} : FzL H a ys → RepL K mg r H xs ys → Rep K mg r H (.lv xs) (.ref a)
  | exc {a C d : Addr} {c : CP} {ns : List CP} {vs : List MV} {ys : List V} : mg (S c) = some (.ref C) → H a = some (exV a C d) → H d = some (.xd ((ns.map S).zip ys)) → ns.length = ys.length → RepL K mg r H vs ys → Rep K mg r H (.exc c ns vs) (.ref a)
  | clo {a c : Addr} {q : Str} {ws : List V} {vs : List MV} : H c = some (LamX.CodeO c q) → RepL K mg r H vs ws → Rep K mg r H (.clo a c q ws vs) (.ref a)
inductive RepL (K : PySem.W.Frag) (mg : Str → Option Value) (r : List Addr) (H : Hp) : List MV → List V → Prop
  | nil : RepL K mg r H [] []
  | cons {v : MV} {x : V} {vs : List MV} {xs : List V} : Rep K mg r H v x → RepL K mg r H vs xs → RepL K mg r H (v :: vs) (x :: xs)
end
section
variable {K : PySem.W.Frag} {mg : Str → Option Value} {r r' : List Addr} {H H' : Hp}
theorem RepL.length : ∀ {vs : List MV} {xs : List V}, RepL K mg r H vs xs → vs.length = xs.length
  | _, _, .nil => rfl
  | _, _, .cons _ t => by rw [List.length_cons, List.length_cons, RepL.length t]
theorem RepL.get : ∀ {vs : List MV} {xs : List V} {i : Nat} {v : MV}, RepL K mg r H vs xs → vs[i]? = some v → ∃ x, xs[i]? = some x ∧ Rep K mg r H v x
  | _, _, _, _, .nil, e => by simp at e
  | _, _, 0, _, .cons a _, e => by simp at e; subst e; exact ⟨_, rfl, a⟩
  | _, _, i + 1, v, .cons _ t, e => by
    obtain ⟨u, h1, h2⟩ := RepL.get (i := i) (v := v) t (by simpa using e)
    exact ⟨u, by simpa using h1, h2⟩
theorem RepL.append : ∀ {vs ws : List MV} {xs ys : List V}, RepL K mg r H vs xs → RepL K mg r H ws ys → RepL K mg r H (vs ++ ws) (xs ++ ys)
  | _, _, _, _, .nil, s => s
  | _, _, _, _, .cons a t, s => .cons a (RepL.append t s)
theorem RepL.take : ∀ {vs : List MV} {xs : List V} (n : Nat), RepL K mg r H vs xs → RepL K mg r H (vs.take n) (xs.take n)
  | _, _, 0, _ => .nil
  | _, _, _ + 1, .nil => .nil
  | _, _, n + 1, .cons a t => .cons a (RepL.take n t)
theorem RepL.drop : ∀ {vs : List MV} {xs : List V} (n : Nat), RepL K mg r H vs xs → RepL K mg r H (vs.drop n) (xs.drop n)
  | _, _, 0, a => a
  | _, _, _ + 1, .nil => .nil
  | _, _, n + 1, .cons _ t => RepL.drop n t
theorem RepL.set {v : MV} {x : V} (a : Rep K mg r H v x) : ∀ {vs : List MV} {xs : List V} (i : Nat), RepL K mg r H vs xs → RepL K mg r H (vs.set i v) (xs.set i x)
  | _, _, _, .nil => .nil
  | _, _, 0, .cons _ t => .cons a t
  | _, _, i + 1, .cons q t => .cons q (RepL.set a i t)
theorem RepL.reverse {vs : List MV} {xs : List V} (h : RepL K mg r H vs xs) : RepL K mg r H vs.reverse xs.reverse := by
  have : ∀ {vs : List MV} {xs : List V} {a : List MV} {b : List V}, RepL K mg r H vs xs → RepL K mg r H a b → RepL K mg r H (vs.reverseAux a) (xs.reverseAux b) := by
    intro vs
    induction vs with
    | nil => intro xs a b h1 h2; cases h1; exact h2
    | cons v vs ih => intro xs a b h1 h2; cases h1 with | cons p q => have z := ih q (.cons p h2); exact z
  exact this h .nil
theorem RepL.mem {x : V} : ∀ {vs : List MV} {xs : List V}, RepL K mg r H vs xs → x ∈ xs → ∃ v ∈ vs, Rep K mg r H v x
  | _, _, .nil, hx => nomatch hx
  | _, _, .cons p q, hx => by
    rcases List.mem_cons.mp hx with e | e
    · subst e; exact ⟨_, List.mem_cons_self, p⟩
    · obtain ⟨u, hu, q2⟩ := RepL.mem q e
      exact ⟨u, List.mem_cons_of_mem _ hu, q2⟩
mutual
theorem Rep.mono (ht : Kp K H H') (hr : ∀ (n : Nat) (a : Addr), r[n]? = some a → r'[n]? = some a) : ∀ (v : MV) (x : V), Rep K mg r H v x → Rep K mg r' H' v x
  | .non, _, h => by cases h; exact .non
  | .bl _, _, h => by cases h; exact .bl _
  | .int _, _, h => by cases h; exact .int _
  | .str _, _, h => by cases h; exact .str _
  | .tup xs, _, h => by
    cases h with
    | tup s q => exact .tup (ht.t _ _ s) (RepL.mono ht hr xs _ q)
  | .ref _, _, h => by cases h with | ref e => exact .ref (hr _ _ e)
  | .ty _, _, h => by cases h; exact .ty _
  | .glo _, _, h => by cases h with | glo e => exact .glo e
  | .ro xs, _, h => by
    cases h with
    | ro s q => exact .ro (ht.l _ _ s) (RepL.mono ht hr xs _ q)
  | .lv xs, _, h => by
    cases h with
    | lv s q => exact .lv (ht.z _ _ s) (RepL.mono ht hr xs _ q)
  | .exc _ _ vs, _, h => by
    cases h with
    | exc m e1 e2 l q => exact .exc m (ht.x _ _ e1) (ht.d _ _ e2) l (RepL.mono ht hr vs _ q)
  | .clo _ _ _ ws vs, _, h => by
    cases h with
    | clo e q => exact .clo (ht.x _ _ e) (RepL.mono ht hr vs ws q)
theorem RepL.mono (ht : Kp K H H') (hr : ∀ (n : Nat) (a : Addr), r[n]? = some a → r'[n]? = some a) : ∀ (vs : List MV) (xs : List V), RepL K mg r H vs xs → RepL K mg r' H' vs xs
  | [], _, h => by cases h; exact .nil
  | v :: vs, _, h => by cases h with | cons p q => exact .cons (Rep.mono ht hr v _ p) (RepL.mono ht hr vs _ q)
end
end

/-! ### how a heap stands for a heap -/
abbrev RepF (K : PySem.W.Frag) (mg : Str → Option Value) (r : List Addr) (H : Hp) : List (CP × MV) → List (Str × V) → Prop := Paired fun p q => q.1 = S p.1 ∧ Rep K mg r H p.2 q.2
abbrev RepK (K : PySem.W.Frag) (mg : Str → Option Value) (r : List Addr) (H : Hp) : List (MK × MV) → List (Key × V) → Prop := Paired fun p q => q.1 = mk p.1 ∧ Rep K mg r H p.2 q.2
abbrev RepT (K : PySem.W.Frag) (mg : Str → Option Value) (r : List Addr) (H : Hp) : List (List MK × MV) → List (List Key × V) → Prop := Paired fun p q => q.1 = p.1.map mk ∧ Rep K mg r H p.2 q.2
def RepO (K : PySem.W.Frag) (mg : Str → Option Value) (r : List Addr) (H : Hp) (o : MO) (u : Option HO) : Prop := match o with
  | .lst xs => ∃ ys, u = some (.lst ys) ∧ RepL K mg r H xs ys
  | .dK kvs => ∃ ys, u = some (.dK ys) ∧ RepK K mg r H kvs ys
  | .dZ kvs => ∃ o ys, u = some (.frz o (.dK ys)) ∧ RepK K mg r H kvs ys
  | .dT kvs => ∃ ys, u = some (.dT ys) ∧ RepT K mg r H kvs ys
  | .ins c fs => ∃ C dx ys, mg (S c) = some (.ref C) ∧ u = some (.ins C dx ys) ∧ RepF K mg r H fs ys
/-- the table of a code object, and the name of a lambda that its def makes -/
def codeTab : Obj → Option (Addr × Str)
  | ⟨.type "code", _, .fields vs, _⟩ => match (vs[11]? : Option Value), (vs[1]? : Option Value) with
    | some (.ref P), some (.str n _) => some (P, n ++ ".<locals>." ++ "<lambda>")
    | _, _ => none
  | _ => none
/-- the code objects of the written part whose tables are not written yet: the code object, its table, the name -/
def tabs3 (K : PySem.W.Frag) : List (Addr × Addr × Str) := K.filterMap fun p => match codeTab p.2 with
  | some q => if (K.lookup q.1).isNone && PySem.W.codeHdIn K p.1 q.1 then some (p.1, q) else none
  | none => none
def tabsK (K : PySem.W.Frag) : List (Addr × Str) := (tabs3 K).map (·.2)
/-- the tables of the written part, which are not written yet -/
abbrev tabA (K : PySem.W.Frag) : List Addr := (tabs3 K).map (·.2.1)
def noTbl (o : HO) : Prop := ∀ ps, o ≠ .tbl ps
/-- a thing that a step keeps: no table, or one of the written part -/
def OkT (K : PySem.W.Frag) (b : Addr) (o : HO) : Prop := noTbl o ∨ b ∈ tabA K
theorem RepO.noTbl {K : PySem.W.Frag} {mg : Str → Option Value} {r : List Addr} {H : Hp} {o : MO} {u : HO} (q : RepO K mg r H o (some u)) : noTbl u := fun ps z => by
  subst z
  cases o with
  | lst xs => obtain ⟨ys, e, _⟩ := q; cases e
  | dK xs => obtain ⟨ys, e, _⟩ := q; cases e
  | dZ xs => obtain ⟨o, ys, e, _⟩ := q; cases e
  | dT xs => obtain ⟨ys, e, _⟩ := q; cases e
  | ins c fs => obtain ⟨C, dx, ys, _, e, _⟩ := q; cases e
structure HS (K : PySem.W.Frag) (mg : Str → Option Value) (r : List Addr) (h : MH) (H : Hp) : Prop where
  len : r.length = h.length
  nd : r.Nodup
  at_ : ∀ (n : Nat) (o : MO) (a : Addr), h[n]? = some o → r[n]? = some a → RepO K mg r H o (H a)
  tb : LamX.Tabs (tabsK K) H
/-- a thing is there still; it is the same one, but for a table -/
def HK (o : HO) (u : Option HO) : Prop := ∃ o', u = some o' ∧ (noTbl o → o' = o)
theorem HK.of {o : HO} {u : Option HO} (e : u = some o) : HK o u := ⟨o, e, fun _ => rfl⟩
structure Post (K : PySem.W.Frag) (mg : Str → Option Value) (r : List Addr) (H : Hp) (r' : List Addr) (h' : MH) (H' : Hp) : Prop where
  pre : ∃ t, r' = r ++ t
  hs : HS K mg r' h' H'
  fr : ∀ b o, b ∉ r → H b = some o → OkT K b o → b ∉ r' ∧ HK o (H' b)
  fz : ∀ b o u, H b = some (.frz o u) → H' b = some (.frz o u)
section
variable {K : PySem.W.Frag} {mg : Str → Option Value} {r r' r2 : List Addr} {h h' h2 : MH} {H H' H2 : Hp}
theorem HS.plain (x : HS K mg r h H) {a : Addr} (hm : a ∈ r) : ∃ o, H a = some o ∧ plainO o := by
  obtain ⟨n, hn, e1⟩ := List.getElem_of_mem hm
  have hl : n < h.length := by rw [← x.len]; exact hn
  have q := x.at_ n h[n] a (by simp [hl]) (by simp [hn, e1])
  cases ho : h[n] with
  | lst xs => rw [ho] at q; obtain ⟨ys, e, _⟩ := q; exact ⟨_, e, trivial⟩
  | dK xs => rw [ho] at q; obtain ⟨ys, e, _⟩ := q; exact ⟨_, e, trivial⟩
  | dZ xs => rw [ho] at q; obtain ⟨o, ys, e, _⟩ := q; exact ⟨_, e, trivial⟩
  | dT xs => rw [ho] at q; obtain ⟨ys, e, _⟩ := q; exact ⟨_, e, trivial⟩
  | ins c fs => rw [ho] at q; obtain ⟨C, dx, ys, _, e, _⟩ := q; exact ⟨_, e, trivial⟩
theorem HS.notPlain (x : HS K mg r h H) {a : Addr} {o : HO} (e : H a = some o) (n : ¬ plainO o) : a ∉ r := fun hm => by
  obtain ⟨o', e', p⟩ := x.plain hm
  rw [e] at e'
  cases e'
  exact n p
theorem HS.notNone (x : HS K mg r h H) {a : Addr} (e : H a = none) : a ∉ r := fun hm => by
  obtain ⟨o', e', p⟩ := x.plain hm
  rw [e] at e'
  cases e'
theorem Post.keep (p : Post K mg r H r' h' H') {b : Addr} {o : HO} (n : b ∉ r) (e : H b = some o) (t : noTbl o) : H' b = some o := by
  obtain ⟨o', e', q⟩ := (p.fr b o n e (.inl t)).2
  rw [e', q t]
theorem Post.kp (p : Post K mg r H r' h' H') (x : HS K mg r h H) : Kp K H H' := by
  refine ⟨fun a xs q => ?_, fun a xs q => ?_, fun a xs ⟨o, q⟩ => ⟨o, p.fz a o _ q⟩, fun a φ q => (p.keep (x.notPlain q fun z => z) q (fun _ z => by cases z)), fun a fs q => (p.keep (x.notPlain q fun z => z) q (fun _ z => by cases z))⟩
  · rcases q with (q | ⟨o, q⟩) | q
    · exact .inl (.inl (p.keep (x.notPlain q fun z => z) q (fun _ z => by cases z)))
    · exact .inl (.inr ⟨o, (p.keep (x.notPlain q fun z => z) q (fun _ z => by cases z))⟩)
    · exact .inr q
  · rcases q with ⟨o, q⟩ | q
    · exact .inl ⟨o, (p.keep (x.notPlain q fun z => z) q (fun _ z => by cases z))⟩
    · exact .inr q
theorem Post.sqT (p : Post K mg r H r' h' H') (x : HS K mg r h H) : ∀ a xs, SqT K H a xs → SqT K H' a xs := (p.kp x).t
theorem Post.ix (p : Post K mg r H r' h' H') : ∀ (n : Nat) (a : Addr), r[n]? = some a → r'[n]? = some a := fun n a e => by
  obtain ⟨t, rfl⟩ := p.pre
  rw [List.getElem?_append_left (List.getElem?_eq_some_iff.mp e).1]
  exact e
theorem Post.rep (p : Post K mg r H r' h' H') (x : HS K mg r h H) {v : MV} {y : V} (q : Rep K mg r H v y) : Rep K mg r' H' v y := Rep.mono (p.kp x) p.ix _ _ q
theorem Post.repL (p : Post K mg r H r' h' H') (x : HS K mg r h H) {v : List MV} {y : List V} (q : RepL K mg r H v y) : RepL K mg r' H' v y := RepL.mono (p.kp x) p.ix _ _ q
theorem Post.refl (x : HS K mg r h H) : Post K mg r H r h H := ⟨⟨[], by simp⟩, x, fun _ _ n e _ => ⟨n, HK.of e⟩, fun _ _ _ e => e⟩
theorem Post.trans (a : Post K mg r H r' h' H') (b : Post K mg r' H' r2 h2 H2) : Post K mg r H r2 h2 H2 := by
  refine ⟨?_, b.hs, fun c o n e t => ?_, fun c o u e => b.fz c o u (a.fz c o u e)⟩
  · obtain ⟨t, rfl⟩ := a.pre
    obtain ⟨u, rfl⟩ := b.pre
    exact ⟨t ++ u, by simp⟩
  · obtain ⟨n1, o1, e1, q1⟩ := a.fr c o n e t
    obtain ⟨n2, o2, e2, q2⟩ := b.fr c o1 n1 e1 (t.imp (fun t => by rw [q1 t]; exact t) fun z => z)
    exact ⟨n2, o2, e2, fun t => by
      have z := q1 t
      rw [z] at q2
      exact q2 t⟩
theorem paired_mono {α β : Type} {F G : α → β → Prop} (fg : ∀ a b, F a b → G a b) : ∀ {l : List α} {l' : List β}, Paired F l l' → Paired G l l'
  | _, _, .nil => .nil
  | _, _, .cons q t => .cons (fg _ _ q) (paired_mono fg t)
theorem RepO.mono (ht : Kp K H H') (hr : ∀ (n : Nat) (a : Addr), r[n]? = some a → r'[n]? = some a) {o : MO} {u : Option HO} (q : RepO K mg r H o u) : RepO K mg r' H' o u := by
  cases o with
  | lst xs => obtain ⟨ys, e, p⟩ := q; exact ⟨ys, e, RepL.mono ht hr _ _ p⟩
  | dK kvs => obtain ⟨ys, e, p⟩ := q; exact ⟨ys, e, paired_mono (fun _ _ z => ⟨z.1, Rep.mono ht hr _ _ z.2⟩) p⟩
  | dZ kvs => obtain ⟨o, ys, e, p⟩ := q; exact ⟨o, ys, e, paired_mono (fun _ _ z => ⟨z.1, Rep.mono ht hr _ _ z.2⟩) p⟩
  | dT kvs => obtain ⟨ys, e, p⟩ := q; exact ⟨ys, e, paired_mono (fun _ _ z => ⟨z.1, Rep.mono ht hr _ _ z.2⟩) p⟩
  | ins c fs => obtain ⟨C, dx, ys, m, e, p⟩ := q; exact ⟨C, dx, ys, m, e, paired_mono (fun _ _ z => ⟨z.1, Rep.mono ht hr _ _ z.2⟩) p⟩
/-- tables stay where a plain thing, or nothing, is written over -/
theorem tabs_upd {H : Hp} {p : Addr} {u : HO} (h : ∀ o, H p = some o → plainO o) {T : List (Addr × Str)} (t : LamX.Tabs T H) : LamX.Tabs T (upd H p u) := fun q hq => by
  obtain ⟨ps, h1, h2, h3⟩ := t q hq
  have key : ∀ {b : Addr} {o : HO}, H b = some o → ¬ plainO o → upd H p u b = some o := fun {b o} e n => by
    rw [upd_ne (fun z => n (h o (by rw [← z]; exact e)))]
    exact e
  refine ⟨ps, key h1 fun z => z, h2, fun pos cv hc => ?_⟩
  obtain ⟨c, e1, e2⟩ := h3 pos cv hc
  exact ⟨c, e1, key e2 fun z => z⟩
theorem plain_none {H : Hp} {p : Addr} (hp : H p = none) : ∀ o, H p = some o → plainO o := fun o e => by rw [hp] at e; cases e
/-- a new tuple (or another thing that is no object of the mirror's heap) -/
theorem HS.extra (x : HS K mg r h H) {p : Addr} {u : HO} (hp : H p = none) : Post K mg r H r h (upd H p u) := by
  have hnot : ∀ (n : Nat) (a : Addr), r[n]? = some a → a ≠ p := fun n a e z => x.notNone hp (z ▸ List.mem_of_getElem? e)
  have ht : Kp K H (upd H p u) := Kp.upd fun o e => by rw [hp] at e; cases e
  refine ⟨⟨[], by simp⟩, ⟨x.len, x.nd, fun n o a e1 e2 => ?_, tabs_upd (plain_none hp) x.tb⟩, fun b o n e _ => ⟨n, HK.of (by rw [upd_ne (ne_of_none e hp)]; exact e)⟩, fun b o u e => by rw [upd_ne (ne_of_none e hp)]; exact e⟩
  rw [upd_ne (hnot n a e2)]
  exact (x.at_ n o a e1 e2).mono ht fun _ _ z => z
/-- a new object of the mirror's heap -/
theorem HS.new (x : HS K mg r h H) {p : Addr} {u : HO} {o : MO} (hp : H p = none) (hu : RepO K mg (r ++ [p]) (upd H p u) o (some u)) : Post K mg r H (r ++ [p]) (h ++ [o]) (upd H p u) := by
  have hnot : ∀ (n : Nat) (a : Addr), r[n]? = some a → a ≠ p := fun n a e z => x.notNone hp (z ▸ List.mem_of_getElem? e)
  have hpr : p ∉ r := fun hm => by
    obtain ⟨n, hn, e1⟩ := List.getElem_of_mem hm
    exact hnot n p (by simp [hn, e1]) rfl
  have ht : Kp K H (upd H p u) := Kp.upd fun o e => by rw [hp] at e; cases e
  have hr : ∀ (n : Nat) (a : Addr), r[n]? = some a → (r ++ [p])[n]? = some a := fun n a e => by
    rw [List.getElem?_append_left (List.getElem?_eq_some_iff.mp e).1]
    exact e
  refine ⟨⟨[p], rfl⟩, ⟨by simp [x.len], ?_, fun n o' a e1 e2 => ?_, tabs_upd (plain_none hp) x.tb⟩, fun b o' n e _ => ⟨?_, HK.of (by rw [upd_ne (ne_of_none e hp)]; exact e)⟩, fun b o u e => by rw [upd_ne (ne_of_none e hp)]; exact e⟩
  · rw [List.nodup_append]
    refine ⟨x.nd, by simp, fun a ha b hb z => ?_⟩
    have : b = p := by simpa using hb
    subst this
    subst z
    exact hpr ha
  · by_cases hn : n < r.length
    · have hl : n < h.length := by rw [← x.len]; exact hn
      rw [List.getElem?_append_left hn] at e2
      rw [List.getElem?_append_left hl] at e1
      rw [upd_ne (hnot n a e2)]
      exact (x.at_ n o' a e1 e2).mono ht hr
    · have hn' : r.length ≤ n := by omega
      have hl' : h.length ≤ n := by rw [← x.len]; exact hn'
      rw [List.getElem?_append_right hn'] at e2
      rw [List.getElem?_append_right hl'] at e1
      have z : n - r.length = 0 := by
        have := (List.getElem?_eq_some_iff.mp e2).1
        simp at this
        omega
      rw [z] at e2
      rw [← x.len, z] at e1
      simp at e1 e2
      subst e1 e2
      rw [upd_same]
      exact hu
  · intro hm
    rcases List.mem_append.mp hm with z | z
    · exact n z
    · have : b = p := by simpa using z
      subst this
      rw [hp] at e; cases e
/-- an object of the mirror's heap is changed -/
theorem HS.put (x : HS K mg r h H) {n : Nat} {p : Addr} {u : HO} {o : MO} (hp : r[n]? = some p) (hu : RepO K mg r (upd H p u) o (some u)) (hz : ∀ o' u', H p ≠ some (.frz o' u')) : Post K mg r H r (h.set n o) (upd H p u) := by
  have hpr : p ∈ r := List.mem_of_getElem? hp
  have hpl : ∀ o, H p = some o → plainO o := fun o e => by
    obtain ⟨o', e', q⟩ := x.plain hpr
    rw [e] at e'
    cases e'
    exact q
  have ht : Kp K H (upd H p u) := Kp.upd hpl
  refine ⟨⟨[], by simp⟩, ⟨by simp [x.len], x.nd, fun m o' a e1 e2 => ?_, tabs_upd hpl x.tb⟩, fun b o' n e _ => ⟨n, HK.of (by rw [upd_ne (fun (z : b = p) => n (by rw [z]; exact hpr))]; exact e)⟩, fun b o u e => by rw [upd_ne (fun (z : b = p) => hz o u (by rw [← z]; exact e))]; exact e⟩
  have hnl : n < r.length := (List.getElem?_eq_some_iff.mp hp).1
  by_cases hm : m = n
  · subst hm
    rw [hp] at e2
    cases e2
    rw [List.getElem?_set_self (by rw [← x.len]; exact hnl)] at e1
    cases e1
    rw [upd_same]
    exact hu
  · rw [List.getElem?_set_ne (Ne.symm hm)] at e1
    have hne : a ≠ p := fun z => by
      subst z
      obtain ⟨h1, q1⟩ := List.getElem?_eq_some_iff.mp e2
      obtain ⟨h2, q2⟩ := List.getElem?_eq_some_iff.mp hp
      exact hm ((List.getElem_inj x.nd).mp (q1.trans q2.symm))
    rw [upd_ne hne]
    exact (x.at_ m o' a e1 e2).mono ht fun _ _ z => z
theorem HS.lookup (x : HS K mg r h H) {n : Nat} {p : Addr} (hp : r[n]? = some p) {o : MO} (ho : h[n]? = some o) : RepO K mg r H o (H p) := x.at_ n o p ho hp
end

/-! ### slots -/
structure SS (K : PySem.W.Frag) (mg : Str → Option Value) (r : List Addr) (H : Hp) (m : Sl) (s : L2.St) : Prop where
  len : m.length = s.length
  at_ : ∀ (i : Nat) (v : MV), m[i]? = some (some v) → ∃ x, s[i]? = some (some x) ∧ Rep K mg r H v x
section
variable {K : PySem.W.Frag} {mg : Str → Option Value} {r r' : List Addr} {h h' : MH} {H H' : Hp} {m : Sl} {s : L2.St}
theorem SS.post (y : SS K mg r H m s) (x : HS K mg r h H) (p : Post K mg r H r' h' H') : SS K mg r' H' m s :=
  ⟨y.len, fun i v e => let ⟨z, e1, q⟩ := y.at_ i v e; ⟨z, e1, p.rep x q⟩⟩
theorem SS.set (y : SS K mg r H m s) {v : MV} {x : V} (q : Rep K mg r H v x) (i : Nat) : SS K mg r H (m.set i (some v)) (s.set i (some x)) := by
  refine ⟨by simp [y.len], fun j w e => ?_⟩
  by_cases hj : i = j
  · subst hj
    have hl : i < m.length := by
      have := (List.getElem?_eq_some_iff.mp e).1
      simpa using this
    rw [List.getElem?_set_self hl] at e
    cases e
    rw [List.getElem?_set_self (by rw [← y.len]; exact hl)]
    exact ⟨x, rfl, q⟩
  · rw [List.getElem?_set_ne hj] at e
    rw [List.getElem?_set_ne hj]
    exact y.at_ j w e
end

/-! ### readings -/
def RepX (K : PySem.W.Frag) (mg : Str → Option Value) (r : List Addr) (H : Hp) (x : MX) (cls : Value) (d : Option Addr) : Prop :=
  ∃ C dd ys, mg (S x.c) = some (.ref C) ∧ cls = .ref C ∧ d = some dd ∧ dd ∉ r ∧ H dd = some (.xd ys) ∧ RepF K mg r H x.fs ys
section
variable (K : PySem.W.Frag) (mg : Str → Option Value) (W : WX)
/-- what is wanted behind a mirrored step that begins at r, H -/
def Wt {α β : Type} (rel : List Addr → Hp → α → β → Prop) (r : List Addr) (H : Hp) (E : XK) (Q : β → Hp → Prop) (x : R α) : Prop := match x with
  | .ok v h' => ∀ r' H' y, Post K mg r H r' h' H' → rel r' H' v y → Q y H'
  | .err e h' => ∀ r' H' cls d, Post K mg r H r' h' H' → RepX K mg r' H' e cls d → E cls d H'
  | .stuck => False
def tM (m : ME) : TE := fun s H Q => ∃ r sm h, HS K mg r h H ∧ SS K mg r H sm s ∧ Wt K mg (Rep K mg) r H (fun c d H' => W c d s H') Q (m sm h)
def tMT (m : MT) : TT := fun s H Q => ∃ r sm h, HS K mg r h H ∧ SS K mg r H sm s ∧ Wt K mg (fun _ _ a b => a = b) r H (fun c d H' => W c d s H') Q (m sm h)
def tMA (m : MA) : TA := fun s H Q => ∃ r sm h, HS K mg r h H ∧ SS K mg r H sm s ∧ Wt K mg (RepL K mg) r H (fun c d H' => W c d s H') Q (m sm h)
def WtS (r : List Addr) (H : Hp) (D : Ends) (x : SR) : Prop := match x with
  | .nx sm h' => ∀ r' s' H', Post K mg r H r' h' H' → SS K mg r' H' sm s' → D.nx s' H'
  | .rt v h' => ∀ r' H' y, Post K mg r H r' h' H' → Rep K mg r' H' v y → D.rt y H'
  | .bk sm h' => ∀ r' s' H', Post K mg r H r' h' H' → SS K mg r' H' sm s' → D.bk s' H'
  | .ct sm h' => ∀ r' s' H', Post K mg r H r' h' H' → SS K mg r' H' sm s' → D.ct s' H'
  | .err e sm h' => ∀ r' s' H' cls d, Post K mg r H r' h' H' → SS K mg r' H' sm s' → RepX K mg r' H' e cls d → W cls d s' H'
  | .stuck => False
def tMS (m : MS) : TS := fun D s H => ∃ r sm h, HS K mg r h H ∧ SS K mg r H sm s ∧ WtS K mg W r H D (m sm h)
end
section
variable {K : PySem.W.Frag} {mg : Str → Option Value} {W : WX}
theorem Wt.bind {α α' β β' : Type} {rel : List Addr → Hp → α → β → Prop} {rel' : List Addr → Hp → α' → β' → Prop} {r : List Addr} {H : Hp} {E : XK} {Q : β' → Hp → Prop} {x : R α} {f : α → MH → R α'}
    (h : Wt K mg rel' r H E Q (x.bind f)) : Wt K mg rel r H E (fun y H1 => ∃ r1 h1 v, Post K mg r H r1 h1 H1 ∧ rel r1 H1 v y ∧ Wt K mg rel' r1 H1 E Q (f v h1)) x := by
  cases x with
  | stuck => exact h
  | err e h' => exact h
  | ok v h' =>
    intro r1 H1 y p q
    refine ⟨r1, h', v, p, q, ?_⟩
    have h : Wt K mg rel' r H E Q (f v h') := h
    cases e : f v h' with
    | stuck => rw [e] at h; exact h
    | err z h2 => rw [e] at h; exact fun r' H' cls d p2 q2 => h r' H' cls d (p.trans p2) q2
    | ok z h2 => rw [e] at h; exact fun r' H' y p2 q2 => h r' H' y (p.trans p2) q2
theorem WtS.bind {α β : Type} {rel : List Addr → Hp → α → β → Prop} {r : List Addr} {H : Hp} {s : L2.St} {D : Ends} {x : R α} {sm : Sl} {h0 : MH} {f : α → MH → SR} (hs : HS K mg r h0 H) (ss : SS K mg r H sm s)
    (h : WtS K mg W r H D (x.bindS sm f)) : Wt K mg rel r H (fun c d H' => W c d s H') (fun y H1 => ∃ r1 h1 v, Post K mg r H r1 h1 H1 ∧ rel r1 H1 v y ∧ WtS K mg W r1 H1 D (f v h1)) x := by
  cases x with
  | stuck => exact h
  | err e h' => exact fun r' H' cls d p q => h r' s H' cls d p (ss.post hs p) q
  | ok v h' =>
    intro r1 H1 y p q
    refine ⟨r1, h', v, p, q, ?_⟩
    have h : WtS K mg W r H D (f v h') := h
    cases e : f v h' with
    | stuck => rw [e] at h; exact h
    | nx z h2 => rw [e] at h; exact fun r' s' H' p2 q2 => h r' s' H' (p.trans p2) q2
    | bk z h2 => rw [e] at h; exact fun r' s' H' p2 q2 => h r' s' H' (p.trans p2) q2
    | ct z h2 => rw [e] at h; exact fun r' s' H' p2 q2 => h r' s' H' (p.trans p2) q2
    | rt z h2 => rw [e] at h; exact fun r' H' y p2 q2 => h r' H' y (p.trans p2) q2
    | err z sm' h2 => rw [e] at h; exact fun r' s' H' cls d p2 q2 => h r' s' H' cls d (p.trans p2) q2
/-- what is wanted may be weakened -/
theorem Wt.imp {α β : Type} {rel : List Addr → Hp → α → β → Prop} {r : List Addr} {H : Hp} {E E' : XK} {Q Q' : β → Hp → Prop} {x : R α} (h : Wt K mg rel r H E Q x) (hE : ∀ c d H', E c d H' → E' c d H') (hQ : ∀ y H', Q y H' → Q' y H') : Wt K mg rel r H E' Q' x := by
  cases x with
  | stuck => exact h
  | err e h' => exact fun r' H' cls d p q => hE _ _ _ (h r' H' cls d p q)
  | ok v h' => exact fun r' H' y p q => hQ _ _ (h r' H' y p q)
end
end MP

namespace MP
open PySem PySem.Spec PyProof.Rows L2

/-! ### texts -/
theorem S_length (l : CP) : (S l).length = l.length := by simp [S, Str.length]
theorem S_toList (l : CP) : (S l).cps.toList = l := by simp [S]
theorem S_append (a b : CP) : S a ++ S b = S (a ++ b) := by
  show Str.append (S a) (S b) = S (a ++ b)
  simp [Str.append, S]
theorem S_inj {a b : CP} (h : S a = S b) : a = b := by
  have := congrArg (fun z => z.cps.toList) h
  simpa [S] using this
theorem S_dec (a b : CP) : decide (V.str (S a) = V.str (S b)) = (a == b) := by
  by_cases e : a = b
  · subst e; simp
  · have h : ¬ V.str (S a) = V.str (S b) := fun q => e (S_inj (V.str.inj q))
    rw [decide_eq_false h]
    exact (beq_eq_false_iff_ne.mpr e).symm
/-- y stands somewhere in x -/
def inS (y : CP) : CP → Bool
  | [] => y.isEmpty
  | c :: t => y.isPrefixOf (c :: t) || inS y t
theorem inS_iff (y : CP) : ∀ x : CP, inS y x = true ↔ ∃ i, i + y.length ≤ x.length ∧ (x.drop i).take y.length = y
  | [] => by
    constructor
    · intro h
      have : y = [] := by simpa [inS] using h
      subst this
      exact ⟨0, by simp, by simp⟩
    · rintro ⟨i, h1, _⟩
      have : y = [] := List.length_eq_zero_iff.mp (by simp only [List.length_nil] at h1; omega)
      simp [inS, this]
  | c :: t => by
    simp only [inS, Bool.or_eq_true]
    constructor
    · rintro (h | h)
      · obtain ⟨u, hu⟩ := List.isPrefixOf_iff_prefix.mp h
        refine ⟨0, ?_, ?_⟩
        · have := congrArg List.length hu
          simp at this ⊢
          omega
        · rw [List.drop_zero, ← hu]
          simp
      · obtain ⟨i, h1, h2⟩ := (inS_iff y t).mp h
        exact ⟨i + 1, by simp; omega, by simpa using h2⟩
    · rintro ⟨i, h1, h2⟩
      cases i with
      | zero =>
        left
        rw [List.isPrefixOf_iff_prefix]
        refine ⟨(c :: t).drop y.length, ?_⟩
        have e : (c :: t).take y.length = y := by simpa using h2
        rw [← e]
        simp only [List.length_take]
        rw [e]
        have : min y.length (c :: t).length = y.length := by simp at h1 ⊢; omega
        rw [this]
        conv => lhs; lhs; rw [← e]
        exact List.take_append_drop _ _
      | succ i =>
        right
        exact (inS_iff y t).mpr ⟨i, by simp at h1; omega, by simpa using h2⟩
theorem inS_occ (y x : CP) : (!(Builtin.Str.occurrences (S x) (S y) 0 (S x).length 1).isEmpty) = inS y x := by
  rw [Bool.eq_iff_iff, StrLaws.found_iff, inS_iff]
  have key : ∀ i, i + y.length ≤ x.length → (Builtin.Str.subAt (S x) (S y) i = true ↔ (x.drop i).take y.length = y) := fun i hi => by
    unfold Builtin.Str.subAt
    rw [beq_iff_eq, S_length]
    constructor
    · intro h
      have := congrArg Array.toList h
      simpa [S, List.extract_eq_take_drop] using this
    · intro h
      apply Array.ext'
      simpa [S, List.extract_eq_take_drop] using h
  simp only [S_length]
  constructor
  · rintro ⟨i, h1, h2⟩
    exact ⟨i, h1, (key i h1).mp h2⟩
  · rintro ⟨i, h1, h2⟩
    exact ⟨i, h1, (key i h1).mpr h2⟩

/-! ### two-place operations by values -/
def ofO (o : Option (MV × MH)) : R MV := match o with
  | some (v, h) => .ok v h
  | none => .stuck
abbrev F2 := MV → MV → MH → Option (MV × MH)
def rM (K : PySem.W.Frag) (mg : Str → Option Value) (f : F2) : R2 := fun x y H Q => ∃ r h a b, HS K mg r h H ∧ Rep K mg r H a x ∧ Rep K mg r H b y ∧ Wt K mg (Rep K mg) r H (fun _ _ _ => False) Q (ofO (f a b h))
theorem Wt.anyE {K : PySem.W.Frag} {mg : Str → Option Value} {β : Type} {rel : List Addr → Hp → MV → β → Prop} {r : List Addr} {H : Hp} {E E' : XK} {Q : β → Hp → Prop} {o : Option (MV × MH)} (h : Wt K mg rel r H E Q (ofO o)) : Wt K mg rel r H E' Q (ofO o) := by
  cases o with
  | none => exact h
  | some p => exact h
theorem _root_.L2.PE.mimp {X : Cx} {e : Expr} {t t' : TE} (h : PE X e t) (i : ∀ s H Q, t' s H Q → t s H Q) : PE X e t' := ⟨fun pins s σ H Q I q => h.run pins s σ H Q I (i _ _ _ q)⟩
theorem _root_.L2.PT.mimp {X : Cx} {e : Expr} {t t' : TT} (h : PT X e t) (i : ∀ s H Q, t' s H Q → t s H Q) : PT X e t' := ⟨fun pins s σ H Q I q => h.run pins s σ H Q I (i _ _ _ q)⟩
theorem _root_.L2.PA.mimp {X : Cx} {e : List Expr} {t t' : TA} (h : PA X e t) (i : ∀ s H Q, t' s H Q → t s H Q) : PA X e t' := ⟨fun pos pins s σ H Q I q => h.run pos pins s σ H Q I (i _ _ _ q)⟩
theorem _root_.L2.PS.mimp {X : Cx} {e : Stmt} {t t' : TS} (h : PS X e t) (i : ∀ D s H, t' D s H → t D s H) : PS X e t' := ⟨fun pins s σ H D I q => h.run pins s σ H D I (i _ _ _ q)⟩
theorem _root_.L2.PSs.mimp {X : Cx} {e : List Stmt} {t t' : TS} (h : PSs X e t) (i : ∀ D s H, t' D s H → t D s H) : PSs X e t' := ⟨fun pins s σ H D I q => h.run pins s σ H D I (i _ _ _ q)⟩
/-- a result that is a plain value, the heap as it was -/
theorem Wt.plain {K : PySem.W.Frag} {mg : Str → Option Value} {r : List Addr} {h : MH} {H : Hp} {E : XK} {Q : VK} {v : MV} {x : V} (hs : HS K mg r h H) (w : Wt K mg (Rep K mg) r H E Q (.ok v h)) (q : Rep K mg r H v x) : Q x H := w r H x (Post.refl hs) q

/-! #### numbers -/
def mAdd : F2
  | .int i, .int j, h => some (.int (i + j), h)
  | .str a, .str b, h => if a.length + b.length ≤ sizeLine then some (.str (a ++ b), h) else none
  | .tup a, .tup b, h => if a.length + b.length ≤ sizeLine then some (.tup (a ++ b), h) else none
  | .ref m, .ref n, h => match h[m]?, h[n]? with
    | some (.lst a), some (.lst b) => if a.length + b.length ≤ sizeLine then some (.ref h.length, h ++ [.lst (a ++ b)]) else none
    | _, _ => none
  | _, _, _ => none
section
variable {X : Cx}
theorem om_add : OpR X (binaryOp .Add) (rM X.K X.mg mAdd) := by
  intro pins s σ H x y v u Q I rx ry hh
  obtain ⟨r, h, a, b, hs, ra, rb, w⟩ := hh
  cases a <;> cases b <;> first | exact w.elim | skip
  case int.int i j =>
    cases ra; cases rb
    exact op_add pins s σ H _ _ v u Q I rx ry ⟨i, j, rfl, rfl, w.plain hs (.int _)⟩
  case str.str i j =>
    cases ra; cases rb
    simp only [mAdd] at w
    split at w
    · rename_i hl
      refine op_add_str pins s σ H _ _ v u Q I rx ry ⟨S i, S j, rfl, rfl, by simpa [S_length] using hl, ?_⟩
      rw [S_append]
      exact w.plain hs (.str _)
    · exact w.elim
  case tup.tup i j =>
    cases ra with | tup sa qa => cases rb with | tup sb qb =>
    rename_i pa xs pb ys
    simp only [mAdd] at w
    split at w
    · rename_i hl
      have hla := qa.length
      have hlb := qb.length
      refine op_catA pins s σ H _ _ v u Q I rx ry ⟨pa, pb, xs, ys, rfl, rfl, sa, sb, by omega, fun ex => ?_, fun ex ey => ?_, fun ex ey p hp => ?_⟩
      · subst ex
        cases qa
        exact w.plain hs (.tup sb qb)
      · subst ey
        cases qb
        exact w.plain hs (by rw [List.append_nil]; exact .tup sa qa)
      · have po := hs.extra (u := .tup (xs ++ ys)) hp
        exact w r _ _ po (.tup (SqT.of upd_same) ((po.repL hs qa).append (po.repL hs qb)))
    · exact w.elim
  case ref.ref i j =>
    cases ra with | ref ea => cases rb with | ref eb =>
    simp only [mAdd] at w
    split at w
    · rename_i xa xb h1 h2
      split at w
      · rename_i hl
        obtain ⟨ya, e1, q1⟩ := hs.lookup ea h1
        obtain ⟨yb, e2, q2⟩ := hs.lookup eb h2
        have hla := q1.length
        have hlb := q2.length
        refine op_cat pins s σ H _ _ v u Q I rx ry ⟨_, _, ya, yb, rfl, rfl, e1, e2, by omega, fun p hp => ?_⟩
        have po := hs.extra (u := .lst (ya ++ yb)) hp
        have hm : ∀ (n : Nat) (z : Addr), r[n]? = some z → (r ++ [p])[n]? = some z := fun n z e => by
          rw [List.getElem?_append_left (List.getElem?_eq_some_iff.mp e).1]; exact e
        refine w (r ++ [p]) _ _ (hs.new hp ⟨_, rfl, ?_⟩) (.ref (by rw [← hs.len]; simp))
        exact RepL.mono Kp.refl hm _ _ ((po.repL hs q1).append (po.repL hs q2))
      · exact w.elim
    · exact w.elim

/-- a new list -/
theorem HS.newL {K : PySem.W.Frag} {mg : Str → Option Value} {r : List Addr} {h : MH} {H : Hp} (hs : HS K mg r h H) {p : Addr} (hp : H p = none) {xs : List MV} {ys : List V} (q : RepL K mg r H xs ys) :
    Post K mg r H (r ++ [p]) (h ++ [.lst xs]) (upd H p (.lst ys)) ∧ Rep K mg (r ++ [p]) (upd H p (.lst ys)) (.ref h.length) (.ref p) := by
  have po := hs.extra (u := .lst ys) hp
  have hm : ∀ (n : Nat) (z : Addr), r[n]? = some z → (r ++ [p])[n]? = some z := fun n z e => by
    rw [List.getElem?_append_left (List.getElem?_eq_some_iff.mp e).1]; exact e
  exact ⟨hs.new hp ⟨_, rfl, RepL.mono Kp.refl hm _ _ (po.repL hs q)⟩, .ref (by rw [← hs.len]; simp)⟩
/-- a new tuple -/
theorem HS.newT {K : PySem.W.Frag} {mg : Str → Option Value} {r : List Addr} {h : MH} {H : Hp} (hs : HS K mg r h H) {p : Addr} (hp : H p = none) {xs : List MV} {ys : List V} (q : RepL K mg r H xs ys) :
    Post K mg r H r h (upd H p (.tup ys)) ∧ Rep K mg r (upd H p (.tup ys)) (.tup xs) (.ref p) := by
  have po := hs.extra (u := .tup ys) hp
  exact ⟨po, .tup (SqT.of upd_same) (po.repL hs q)⟩
/-- a list that is read -/
def lstAt (h : MH) (n : Nat) : Option (List MV) := match h[n]? with
  | some (.lst xs) => some xs
  | _ => none
theorem HS.list {K : PySem.W.Frag} {mg : Str → Option Value} {r : List Addr} {h : MH} {H : Hp} (hs : HS K mg r h H) {n : Nat} {p : Addr} {xs : List MV} (e : r[n]? = some p) (l : lstAt h n = some xs) : ∃ ys, SqL K H p ys ∧ RepL K mg r H xs ys := by
  unfold lstAt at l
  split at l
  · rename_i zs hz
    cases l
    obtain ⟨ys, e1, q⟩ := hs.lookup e hz
    exact ⟨ys, SqL.of e1, q⟩
  · cases l

/-- a list, by value or in the heap, that is read -/
def lstV (h : MH) : MV → Option (List MV)
  | .ref n => lstAt h n
  | .lv xs => some xs
  | .ro xs => some xs
  | _ => none
theorem HS.listV {K : PySem.W.Frag} {mg : Str → Option Value} {r : List Addr} {h : MH} {H : Hp} (hs : HS K mg r h H) {v : MV} {x : V} {xs : List MV} (q : Rep K mg r H v x) (l : lstV h v = some xs) : ∃ p ys, x = .ref p ∧ SqL K H p ys ∧ RepL K mg r H xs ys := by
  cases v with
  | ref n =>
    cases q with
    | ref en =>
      obtain ⟨ys, sq, ql⟩ := hs.list en l
      exact ⟨_, ys, rfl, sq, ql⟩
  | lv ys =>
    cases q with
    | lv s ql => cases l; exact ⟨_, _, rfl, s.sq, ql⟩
  | ro ys =>
    cases q with
    | ro s ql => cases l; exact ⟨_, _, rfl, s.sq, ql⟩
  | _ => cases l
/-- .. that is an object of its own -/
def lstR (h : MH) : MV → Option (List MV)
  | .ref n => lstAt h n
  | .lv xs => some xs
  | _ => none
theorem HS.listR {K : PySem.W.Frag} {mg : Str → Option Value} {r : List Addr} {h : MH} {H : Hp} (hs : HS K mg r h H) {v : MV} {x : V} {xs : List MV} (q : Rep K mg r H v x) (l : lstR h v = some xs) : ∃ p ys, x = .ref p ∧ Rd H p (.lst ys) ∧ RepL K mg r H xs ys := by
  cases v with
  | ref n =>
    cases q with
    | ref en =>
      simp only [lstR, lstAt] at l
      split at l
      · rename_i zs hz
        cases l
        obtain ⟨ys, e1, q⟩ := hs.lookup en hz
        exact ⟨_, ys, rfl, .inl e1, q⟩
      · cases l
  | lv ys =>
    cases q with
    | lv s ql => cases l; exact ⟨_, _, rfl, s.rd, ql⟩
  | _ => cases l

def mSub : F2
  | .int i, .int j, h => some (.int (i - j), h)
  | _, _, _ => none
theorem om_sub : OpR X (binaryOp .Sub) (rM X.K X.mg mSub) := by
  intro pins s σ H x y v u Q I rx ry hh
  obtain ⟨r, h, a, b, hs, ra, rb, w⟩ := hh
  cases a <;> cases b <;> first | exact w.elim | skip
  cases ra; cases rb
  exact op_sub pins s σ H _ _ v u Q I rx ry ⟨_, _, rfl, rfl, w.plain hs (.int _)⟩
def mMul : F2
  | .int i, .int j, h => if (-(2 ^ 64) < i ∧ i < 2 ^ 64) ∨ (-(2 ^ 64) < j ∧ j < 2 ^ 64) then some (.int (i * j), h) else none
  | .ref n, .int k, h => match h[n]? with
    | some (.lst xs) => if -(2 ^ 63) ≤ k ∧ k < 2 ^ 63 ∧ xs.length * k.toNat ≤ sizeLine then some (.ref h.length, h ++ [.lst (List.replicate k.toNat xs).flatten]) else none
    | _ => none
  | .tup xs, .int k, h => if xs ≠ [] ∧ 2 ≤ k ∧ k ≤ 1000 ∧ xs.length ≤ 1000 then some (.tup (List.replicate k.toNat xs).flatten, h) else none
  | _, _, _ => none
theorem RepL.rep {K : PySem.W.Frag} {mg : Str → Option Value} {r : List Addr} {H : Hp} {xs : List MV} {ys : List V} (q : RepL K mg r H xs ys) : ∀ n : Nat, RepL K mg r H (List.replicate n xs).flatten (List.replicate n ys).flatten
  | 0 => .nil
  | n + 1 => by
    rw [List.replicate_succ, List.replicate_succ, List.flatten_cons, List.flatten_cons]
    exact q.append (RepL.rep q n)
theorem om_mul : OpR X (binaryOp .Mult) (rM X.K X.mg mMul) := by
  intro pins s σ H x y v u Q I rx ry hh
  obtain ⟨r, h, a, b, hs, ra, rb, w⟩ := hh
  cases a <;> cases b <;> first | exact w.elim | skip
  case int.int i j =>
    cases ra; cases rb
    simp only [mMul] at w
    split at w
    · rename_i hc
      exact op_mul pins s σ H _ _ v u Q I rx ry ⟨_, _, rfl, rfl, hc, w.plain hs (.int _)⟩
    · exact w.elim
  case ref.int n k =>
    cases rb
    cases ra with | ref ea =>
    simp only [mMul] at w
    split at w
    · rename_i xs h1
      split at w
      · rename_i hc
        obtain ⟨ys, e1, q1⟩ := hs.lookup ea h1
        refine op_rep pins s σ H _ _ v u Q I rx ry ⟨_, _, ys, rfl, rfl, e1, hc.1, hc.2.1, by rw [← q1.length]; exact hc.2.2, fun p hp => ?_⟩
        obtain ⟨po, re⟩ := hs.newL hp (q1.rep k.toNat)
        exact w _ _ _ po re
      · exact w.elim
    · exact w.elim
  case tup.int xs k =>
    cases rb
    cases ra with | tup sa qa =>
    rename_i pa ys
    simp only [mMul] at w
    split at w
    · rename_i hc
      refine op_repT pins s σ H _ _ v u Q I rx ry ⟨pa, k, ys, rfl, rfl, sa, ?_, hc.2.1, hc.2.2.1, by rw [← qa.length]; exact hc.2.2.2, fun p hp => ?_⟩
      · intro e
        subst e
        cases qa
        exact hc.1 rfl
      · obtain ⟨po, re⟩ := hs.newT hp (qa.rep k.toNat)
        exact w _ _ _ po re
    · exact w.elim
def mFdiv : F2
  | .int i, .int j, h => if 0 < j ∧ j < 1073741824 then some (.int (i / j), h) else none
  | _, _, _ => none
theorem om_fdiv : OpR X (binaryOp .FloorDiv) (rM X.K X.mg mFdiv) := by
  intro pins s σ H x y v u Q I rx ry hh
  obtain ⟨r, h, a, b, hs, ra, rb, w⟩ := hh
  cases a <;> cases b <;> first | exact w.elim | skip
  cases ra; cases rb
  simp only [mFdiv] at w
  split at w
  · rename_i hc
    exact op_fdiv pins s σ H _ _ v u Q I rx ry ⟨_, _, rfl, rfl, hc, w.plain hs (.int _)⟩
  · exact w.elim
def mMod : F2
  | .int i, .int j, h => if 0 < j then some (.int (i % j), h) else none
  | _, _, _ => none
theorem om_mod : OpR X (binaryOp .Mod) (rM X.K X.mg mMod) := by
  intro pins s σ H x y v u Q I rx ry hh
  obtain ⟨r, h, a, b, hs, ra, rb, w⟩ := hh
  cases a <;> cases b <;> first | exact w.elim | skip
  cases ra; cases rb
  simp only [mMod] at w
  split at w
  · rename_i hc
    exact op_mod pins s σ H _ _ v u Q I rx ry ⟨_, _, rfl, rfl, hc, w.plain hs (.int _)⟩
  · exact w.elim
def mPow : F2
  | .int i, .int j, h => if 0 ≤ j ∧ j ≤ 1000000 ∧ i.natAbs < 2 ^ 64 then some (.int (i ^ j.toNat), h) else none
  | _, _, _ => none
theorem om_pow : OpR X (binaryOp .Pow) (rM X.K X.mg mPow) := by
  intro pins s σ H x y v u Q I rx ry hh
  obtain ⟨r, h, a, b, hs, ra, rb, w⟩ := hh
  cases a <;> cases b <;> first | exact w.elim | skip
  cases ra; cases rb
  simp only [mPow] at w
  split at w
  · rename_i hc
    exact op_pow pins s σ H _ _ v u Q I rx ry ⟨_, _, rfl, rfl, hc, w.plain hs (.int _)⟩
  · exact w.elim

/-! #### comparisons -/
def mapO {α β : Type} (f : α → Option β) : List α → Option (List β)
  | [] => some []
  | x :: xs => match f x, mapO f xs with
    | some y, some ys => some (y :: ys)
    | _, _ => none
def toD : Nat → MH → MV → Option PyData
  | 0, _, _ => none
  | n + 1, h, v => match v with
    | .non => some .none
    | .bl b => some (.bool b)
    | .int i => some (.int i)
    | .str l => some (.str (S l))
    | .tup xs => (mapO (toD n h) xs).map .tuple
    | .ref k => match lstAt h k with
      | some xs => (mapO (toD n h) xs).map .list
      | none => none
    | .lv xs => (mapO (toD n h) xs).map .list
    | _ => none
theorem toD_all {K : PySem.W.Frag} {mg : Str → Option Value} {r : List Addr} {H : Hp} {f : MV → Option PyData} (hf : ∀ v x d, f v = some d → Rep K mg r H v x → Dp K H x d) : ∀ (vs : List MV) (xs : List V) (ds : List PyData), mapO f vs = some ds → RepL K mg r H vs xs → DpAll K H xs ds
  | [], _, ds, e, q => by cases q; simp only [mapO, Option.some.injEq] at e; subst e; exact .nil
  | v :: vs, _, ds, e, q => by
    cases q with
    | cons q1 q2 =>
      simp only [mapO] at e
      split at e
      · rename_i y ys h1 h2
        cases e
        exact .cons (hf _ _ _ h1 q1) (toD_all hf vs _ ys h2 q2)
      · cases e
theorem toD_ok {K : PySem.W.Frag} {mg : Str → Option Value} {r : List Addr} {h : MH} {H : Hp} (hs : HS K mg r h H) : ∀ (n : Nat) (v : MV) (x : V) (d : PyData), toD n h v = some d → Rep K mg r H v x → Dp K H x d
  | 0, _, _, _, e, _ => by cases e
  | n + 1, v, x, d, e, q => by
    cases v with
    | non => cases q; cases e; exact .non
    | bl b => cases q; cases e; exact .bl b
    | int i => cases q; cases e; exact .int i
    | str l => cases q; cases e; exact .str _
    | tup xs =>
      cases q with
      | tup s q =>
        simp only [toD, Option.map_eq_some_iff] at e
        obtain ⟨ds, e1, rfl⟩ := e
        exact .tup s (toD_all (toD_ok hs n) _ _ _ e1 q)
    | ref k =>
      cases q with
      | ref ek =>
        simp only [toD] at e
        split at e
        · rename_i xs hl
          simp only [Option.map_eq_some_iff] at e
          obtain ⟨ds, e1, rfl⟩ := e
          obtain ⟨ys, sq, q⟩ := hs.list ek hl
          exact .lst sq (toD_all (toD_ok hs n) _ _ _ e1 q)
        · cases e
    | ty _ => cases e
    | glo _ => cases e
    | exc _ _ _ => cases e
    | clo _ _ _ _ _ => cases e
    | ro _ => cases e
    | lv xs =>
      cases q with
      | lv s q =>
        simp only [toD, Option.map_eq_some_iff] at e
        obtain ⟨ds, e1, rfl⟩ := e
        exact .lst s.sq (toD_all (toD_ok hs n) _ _ _ e1 q)
def mEqv0 (a b : MV) (h : MH) : Option Bool := match a, b with
  | .int i, .int j => some (i == j)
  | .str x, .str y => some (x == y)
  | .bl x, .bl y => some (x == y)
  | .non, .non => some true
  | .non, .int _ => some false
  | .int _, .non => some false
  | .non, .str _ => some false
  | .str _, .non => some false
  | .non, .bl _ => some false
  | .bl _, .non => some false
  | .int _, .str _ => some false
  | .str _, .int _ => some false
  | .bl _, .str _ => some false
  | .str _, .bl _ => some false
  | a, b => match toD 64 h a, toD 64 h b with
    | some d, some e => if SeqAt.shaped d && SeqAt.shaped e then some (PyData.eqv d e) else none
    | _, _ => none
/-- a list or a tuple beside an empty one, whatever it holds -/
def eqE (a b : MV) (h : MH) : Option Bool := match b with
  | .lv [] => (lstV h a).map (·.isEmpty)
  | .tup [] => (match a with
    | .tup xs => some xs.isEmpty
    | _ => none)
  | _ => none
def mEqv (a b : MV) (h : MH) : Option Bool := match eqE a b h with
  | some k => some k
  | none => mEqv0 a b h
def mEq : F2 := fun a b h => (mEqv a b h).map fun k => (.bl k, h)
def mNe : F2 := fun a b h => (mEqv a b h).map fun k => (.bl (!k), h)
theorem Wt.boolO {K : PySem.W.Frag} {mg : Str → Option Value} {r : List Addr} {h : MH} {H : Hp} {E : XK} {Q : VK} {o : Option Bool} {g : Bool → Bool} (hs : HS K mg r h H) (w : Wt K mg (Rep K mg) r H E Q (ofO (o.map fun k => (.bl (g k), h)))) : ∃ k, o = some k ∧ Q (.bl (g k)) H := by
  cases o with
  | none => exact w.elim
  | some k => exact ⟨k, rfl, w.plain hs (.bl _)⟩
theorem eqv_scal {K : PySem.W.Frag} {mg : Str → Option Value} {r : List Addr} {h : MH} {H : Hp} (hs : HS K mg r h H) {a b : MV} {x y : V} {k : Bool} (ra : Rep K mg r H a x) (rb : Rep K mg r H b y) (e : mEqv0 a b h = some k) :
    (scal x y = true ∧ decide (x = y) = k) ∨ ∃ d e, Dp K H x d ∧ Dp K H y e ∧ SeqAt.shaped d = true ∧ SeqAt.shaped e = true ∧ PyData.eqv d e = k := by
  have deep : ∀ {a b : MV} {x y : V}, Rep K mg r H a x → Rep K mg r H b y → (match toD 64 h a, toD 64 h b with
      | some d, some e => if SeqAt.shaped d && SeqAt.shaped e then some (PyData.eqv d e) else none
      | _, _ => none) = some k → ∃ d e, Dp K H x d ∧ Dp K H y e ∧ SeqAt.shaped d = true ∧ SeqAt.shaped e = true ∧ PyData.eqv d e = k := by
    intro a b x y ra rb e
    split at e
    · rename_i d1 d2 h1 h2
      split at e
      · rename_i hc
        rw [Bool.and_eq_true] at hc
        cases e
        exact ⟨d1, d2, toD_ok hs _ _ _ _ h1 ra, toD_ok hs _ _ _ _ h2 rb, hc.1, hc.2, rfl⟩
      · cases e
    · cases e
  cases a <;> cases b <;> first
    | exact .inr (deep ra rb e)
    | (cases ra; cases rb; cases e; exact .inl ⟨rfl, by first | rfl | exact dec_int | exact dec_bl | exact S_dec _ _ | decide | simp⟩)
theorem sqL_is {pins : List (Addr × Obj)} {σ : L2.St} {s : Shared} {H : Hp} {a : Addr} {xs : List V} (I : L2.Inv X pins σ H s) (q : SqL X.K H a xs) : ∃ its : List Value, Vals xs its ∧ s.heap.IsList a its.toArray := by
  rcases q with q | ⟨o, its, n, h1, h2, h3, h4, h5, h6⟩
  · obtain ⟨z, its, n, r, e⟩ := Rd.ok q I.hok
    exact ⟨its, r, _, e, rfl, n, rfl⟩
  · exact ⟨its.toList, h6, o, I.kIn a o h1, h2, n, by simpa using h4⟩
theorem sqT_is {pins : List (Addr × Obj)} {σ : L2.St} {s : Shared} {H : Hp} {a : Addr} {xs : List V} (I : L2.Inv X pins σ H s) (q : SqT X.K H a xs) : ∃ its : List Value, Vals xs its ∧ s.heap.IsTuple a its.toArray := by
  rcases q with q | ⟨o, its, n, h1, h2, h3, h4, h5⟩
  · obtain ⟨z, its, r, e⟩ := Rd.ok q I.hok
    exact ⟨its, r, e⟩
  · exact ⟨its.toList, h5, o, I.kIn a o h1, h2, n, by simpa using h3⟩
theorem eqE_ok {pins : List (Addr × Obj)} {σ : L2.St} {s : Shared} {r : List Addr} {h : MH} {H : Hp} {a b : MV} {x y : V} {u v : Value} {k : Bool} (I : L2.Inv X pins σ H s) (hs : HS X.K X.mg r h H) (ra : Rep X.K X.mg r H a x) (rb : Rep X.K X.mg r H b y) (rx : RelV x u) (ry : RelV y v) (e : eqE a b h = some k) :
    ∃ p q items, u = .ref p ∧ v = .ref q ∧ k = items.isEmpty ∧ ((s.heap.IsList p items ∧ s.heap.IsList q #[]) ∨ (s.heap.IsTuple p items ∧ s.heap.IsTuple q #[])) := by
  unfold eqE at e
  split at e
  · simp only [Option.map_eq_some_iff] at e
    obtain ⟨xs, e1, e2⟩ := e
    obtain ⟨p, zs, rfl, sq, ql⟩ := hs.listV ra e1
    cases rb with
    | lv s2 q2 =>
      cases q2
      obtain rfl := (show u = Value.ref _ from rx)
      obtain rfl := (show v = Value.ref _ from ry)
      obtain ⟨its, rv, hl⟩ := sqL_is I sq
      obtain ⟨its2, rv2, hl2⟩ := sqL_is I (s2.sq (K := X.K))
      cases rv2
      refine ⟨_, _, its.toArray, rfl, rfl, ?_, .inl ⟨hl, hl2⟩⟩
      rw [← e2]
      cases ql <;> cases rv <;> simp
  · split at e
    · cases ra with
      | tup sa qa =>
        cases rb with
        | tup sb qb =>
          cases qb
          obtain rfl := (show u = Value.ref _ from rx)
          obtain rfl := (show v = Value.ref _ from ry)
          obtain ⟨its, rv, hl⟩ := sqT_is I sa
          obtain ⟨its2, rv2, hl2⟩ := sqT_is I sb
          cases rv2
          refine ⟨_, _, its.toArray, rfl, rfl, ?_, .inr ⟨hl, hl2⟩⟩
          cases e
          cases qa <;> cases rv <;> simp
    · cases e
  · cases e
theorem om_eq (hu : X.A.units + 64 < cLine) : OpR X (compareOp .Eq) (rM X.K X.mg mEq) := by
  intro pins s σ H x y v u Q I rx ry hh
  obtain ⟨r, h, a, b, hs, ra, rb, w⟩ := hh
  obtain ⟨k, e, q⟩ := Wt.boolO (g := fun k => k) hs w
  unfold mEqv at e
  split at e
  · rename_i k' e'
    cases e
    obtain ⟨p, q', items, rfl, rfl, rfl, ⟨h1, h2⟩ | ⟨h1, h2⟩⟩ := eqE_ok I hs ra rb rx ry e'
    · by_cases hz : items.size = 0
      · refine SeqAt.eq_listAt (e := fun _ => true) h1 h2 (by simpa using hz) (by omega) (fun j a b => by simp at b) ⟨.bl true, H, I, by rw [hz]; rfl, ?_⟩
        have : items.isEmpty = true := decide_eq_true hz
        rw [this] at q; exact q
      · refine SeqAt.eq_list_lengthsAt h1 h2 (by simpa using hz) (by omega) ⟨.bl false, H, I, rfl, ?_⟩
        have : items.isEmpty = false := by simpa using hz
        rw [this] at q; exact q
    · refine SeqAt.eq_tupleAt (e := fun _ => true) h1 h2 (by omega) (fun j a b => by simp at b) ⟨.bl items.isEmpty, H, I, ?_, q⟩
      show Value.bool _ = Value.bool _
      congr 1
      obtain ⟨l⟩ := items
      cases l <;> simp
  · rcases eqv_scal hs ra rb e with ⟨h1, h2⟩ | ⟨d, e, h1, h2, h3, h4, h5⟩
    · exact op_eq pins s σ H _ _ v u Q I rx ry ⟨h1, by rw [h2]; exact q⟩
    · exact op_eqD hu pins s σ H _ _ v u Q I rx ry ⟨d, e, h1, h2, h3, h4, by rw [h5]; exact q⟩
theorem om_ne (hu : X.A.units + 64 < cLine) : OpR X (compareOp .NotEq) (rM X.K X.mg mNe) := by
  intro pins s σ H x y v u Q I rx ry hh
  obtain ⟨r, h, a, b, hs, ra, rb, w⟩ := hh
  obtain ⟨k, e, q⟩ := Wt.boolO (g := fun k => !k) hs w
  unfold mEqv at e
  split at e
  · rename_i k' e'
    cases e
    obtain ⟨p, q', items, rfl, rfl, rfl, ⟨h1, h2⟩ | ⟨h1, h2⟩⟩ := eqE_ok I hs ra rb rx ry e'
    · by_cases hz : items.size = 0
      · refine SeqAt.RcNeAt.lists (e := fun _ => true) h1 h2 (by simpa using hz) (by omega) (fun j a b => by simp at b) _ _ _ _ ⟨.bl false, H, I, by rw [hz]; rfl, ?_⟩
        have : items.isEmpty = true := decide_eq_true hz
        rw [this] at q; exact q
      · refine SeqAt.RcNeAt.lists_lengths h1 h2 (by simpa using hz) (by omega) _ _ _ _ ⟨.bl true, H, I, rfl, ?_⟩
        have : items.isEmpty = false := by simpa using hz
        rw [this] at q; exact q
    · refine SeqAt.RcNeAt.tuples (e := fun _ => true) h1 h2 (by omega) (fun j a b => by simp at b) _ _ _ _ ⟨.bl (!items.isEmpty), H, I, ?_, q⟩
      show Value.bool _ = Value.bool _
      congr 1
      obtain ⟨l⟩ := items
      cases l <;> simp
  · rcases eqv_scal hs ra rb e with ⟨h1, h2⟩ | ⟨d, e, h1, h2, h3, h4, h5⟩
    · exact op_ne pins s σ H _ _ v u Q I rx ry ⟨h1, by rw [h2]; exact q⟩
    · exact op_neD hu pins s σ H _ _ v u Q I rx ry ⟨d, e, h1, h2, h3, h4, by rw [h5]; exact q⟩
def mLt : F2
  | .int i, .int j, h => some (.bl (decide (i < j)), h)
  | .str a, .str b, h => some (.bl (decide (a < b)), h)
  | _, _, _ => none
def mGt : F2
  | .int i, .int j, h => some (.bl (decide (j < i)), h)
  | _, _, _ => none
def mLe : F2
  | .int i, .int j, h => some (.bl (decide (i ≤ j)), h)
  | .str a, .str b, h => some (.bl (!decide (b < a)), h)
  | _, _, _ => none
def mGe : F2
  | .int i, .int j, h => some (.bl (decide (j ≤ i)), h)
  | _, _, _ => none
theorem om_lt : OpR X (compareOp .Lt) (rM X.K X.mg mLt) := by
  intro pins s σ H x y v u Q I rx ry hh
  obtain ⟨r, h, a, b, hs, ra, rb, w⟩ := hh
  cases a <;> cases b <;> first | exact w.elim | skip
  · cases ra; cases rb
    exact op_lt pins s σ H _ _ v u Q I rx ry ⟨_, _, rfl, rfl, w.plain hs (.bl _)⟩
  · cases ra; cases rb
    refine op_lt_str pins s σ H _ _ v u Q I rx ry ⟨_, _, rfl, rfl, ?_⟩
    rw [S_toList, S_toList]
    exact w.plain hs (.bl _)
theorem om_gt : OpR X (compareOp .Gt) (rM X.K X.mg mGt) := by
  intro pins s σ H x y v u Q I rx ry hh
  obtain ⟨r, h, a, b, hs, ra, rb, w⟩ := hh
  cases a <;> cases b <;> first | exact w.elim | skip
  cases ra; cases rb
  exact op_gt pins s σ H _ _ v u Q I rx ry ⟨_, _, rfl, rfl, w.plain hs (.bl _)⟩
theorem om_le : OpR X (compareOp .LtE) (rM X.K X.mg mLe) := by
  intro pins s σ H x y v u Q I rx ry hh
  obtain ⟨r, h, a, b, hs, ra, rb, w⟩ := hh
  cases a <;> cases b <;> first | exact w.elim | skip
  · cases ra; cases rb
    exact op_le pins s σ H _ _ v u Q I rx ry ⟨_, _, rfl, rfl, w.plain hs (.bl _)⟩
  · cases ra; cases rb
    refine op_le_str pins s σ H _ _ v u Q I rx ry ⟨_, _, rfl, rfl, ?_⟩
    rw [S_toList, S_toList]
    exact w.plain hs (.bl _)
theorem om_ge : OpR X (compareOp .GtE) (rM X.K X.mg mGe) := by
  intro pins s σ H x y v u Q I rx ry hh
  obtain ⟨r, h, a, b, hs, ra, rb, w⟩ := hh
  cases a <;> cases b <;> first | exact w.elim | skip
  cases ra; cases rb
  exact op_ge pins s σ H _ _ v u Q I rx ry ⟨_, _, rfl, rfl, w.plain hs (.bl _)⟩
end
end MP

namespace MP
open PySem PySem.Spec PyProof.Rows L2

abbrev PEm (X : Cx) (W : WX) (e : Expr) (m : ME) : Prop := PE X e (tM X.K X.mg W m)
abbrev PTm (X : Cx) (W : WX) (e : Expr) (m : MT) : Prop := PT X e (tMT X.K X.mg W m)
abbrev PWm (X : Cx) (W : WX) (e : Expr) (m : MT) : Prop := PW X e (tMT X.K X.mg W m)
abbrev PAm (X : Cx) (W : WX) (e : List Expr) (m : MA) : Prop := PA X e (tMA X.K X.mg W m)
theorem _root_.L2.PW.mimp {X : Cx} {e : Expr} {t t' : TT} (h : PW X e t) (i : ∀ s H Q, t' s H Q → t s H Q) : PW X e t' := ⟨fun wh pins s σ H Q I q => h.run wh pins s σ H Q I (i _ _ _ q)⟩

/-! ### a step behind a step -/
section
variable {K : PySem.W.Frag} {mg : Str → Option Value} {W : WX} {r : List Addr} {sm : Sl} {h : MH} {s : L2.St} {H : Hp}
theorem tM_bind {α β : Type} {rel : List Addr → Hp → α → β → Prop} {m : ME} {f : MV → MH → R α} {Q : β → Hp → Prop} {Q' : VK} (hs : HS K mg r h H) (ss : SS K mg r H sm s)
    (w : Wt K mg rel r H (fun c d H' => W c d s H') Q ((m sm h).bind f))
    (k : ∀ r1 h1 v x H1, HS K mg r1 h1 H1 → SS K mg r1 H1 sm s → Post K mg r H r1 h1 H1 → Rep K mg r1 H1 v x → Wt K mg rel r1 H1 (fun c d H' => W c d s H') Q (f v h1) → Q' x H1) : tM K mg W m s H Q' :=
  ⟨r, sm, h, hs, ss, (Wt.bind (rel := Rep K mg) w).imp (fun _ _ _ z => z) fun x H1 ⟨r1, h1, v, p, q, w1⟩ => k r1 h1 v x H1 p.hs (ss.post hs p) p q w1⟩
theorem tMT_bind {α β : Type} {rel : List Addr → Hp → α → β → Prop} {m : MT} {f : Bool → MH → R α} {Q : β → Hp → Prop} {Q' : Bool → Hp → Prop} (hs : HS K mg r h H) (ss : SS K mg r H sm s)
    (w : Wt K mg rel r H (fun c d H' => W c d s H') Q ((m sm h).bind f))
    (k : ∀ r1 h1 v H1, HS K mg r1 h1 H1 → SS K mg r1 H1 sm s → Post K mg r H r1 h1 H1 → Wt K mg rel r1 H1 (fun c d H' => W c d s H') Q (f v h1) → Q' v H1) : tMT K mg W m s H Q' :=
  ⟨r, sm, h, hs, ss, (Wt.bind (rel := fun _ _ a b => a = b) w).imp (fun _ _ _ z => z) fun x H1 ⟨r1, h1, v, p, q, w1⟩ => by subst q; exact k r1 h1 v H1 p.hs (ss.post hs p) p w1⟩
theorem tMA_bind {α β : Type} {rel : List Addr → Hp → α → β → Prop} {m : MA} {f : List MV → MH → R α} {Q : β → Hp → Prop} {Q' : List V → Hp → Prop} (hs : HS K mg r h H) (ss : SS K mg r H sm s)
    (w : Wt K mg rel r H (fun c d H' => W c d s H') Q ((m sm h).bind f))
    (k : ∀ r1 h1 v x H1, HS K mg r1 h1 H1 → SS K mg r1 H1 sm s → Post K mg r H r1 h1 H1 → RepL K mg r1 H1 v x → Wt K mg rel r1 H1 (fun c d H' => W c d s H') Q (f v h1) → Q' x H1) : tMA K mg W m s H Q' :=
  ⟨r, sm, h, hs, ss, (Wt.bind (rel := RepL K mg) w).imp (fun _ _ _ z => z) fun x H1 ⟨r1, h1, v, p, q, w1⟩ => k r1 h1 v x H1 p.hs (ss.post hs p) p q w1⟩
theorem tM_bindS {m : ME} {f : MV → MH → SR} {D : Ends} {Q' : VK} (hs : HS K mg r h H) (ss : SS K mg r H sm s) (w : WtS K mg W r H D ((m sm h).bindS sm f))
    (k : ∀ r1 h1 v x H1, HS K mg r1 h1 H1 → SS K mg r1 H1 sm s → Post K mg r H r1 h1 H1 → Rep K mg r1 H1 v x → WtS K mg W r1 H1 D (f v h1) → Q' x H1) : tM K mg W m s H Q' :=
  ⟨r, sm, h, hs, ss, (WtS.bind (rel := Rep K mg) hs ss w).imp (fun _ _ _ z => z) fun x H1 ⟨r1, h1, v, p, q, w1⟩ => k r1 h1 v x H1 p.hs (ss.post hs p) p q w1⟩
theorem tMT_bindS {m : MT} {f : Bool → MH → SR} {D : Ends} {Q' : Bool → Hp → Prop} (hs : HS K mg r h H) (ss : SS K mg r H sm s) (w : WtS K mg W r H D ((m sm h).bindS sm f))
    (k : ∀ r1 h1 v H1, HS K mg r1 h1 H1 → SS K mg r1 H1 sm s → Post K mg r H r1 h1 H1 → WtS K mg W r1 H1 D (f v h1) → Q' v H1) : tMT K mg W m s H Q' :=
  ⟨r, sm, h, hs, ss, (WtS.bind (rel := fun _ _ a b => a = b) hs ss w).imp (fun _ _ _ z => z) fun x H1 ⟨r1, h1, v, p, q, w1⟩ => by subst q; exact k r1 h1 v H1 p.hs (ss.post hs p) p w1⟩
theorem tMA_bindS {m : MA} {f : List MV → MH → SR} {D : Ends} {Q' : List V → Hp → Prop} (hs : HS K mg r h H) (ss : SS K mg r H sm s) (w : WtS K mg W r H D ((m sm h).bindS sm f))
    (k : ∀ r1 h1 v x H1, HS K mg r1 h1 H1 → SS K mg r1 H1 sm s → Post K mg r H r1 h1 H1 → RepL K mg r1 H1 v x → WtS K mg W r1 H1 D (f v h1) → Q' x H1) : tMA K mg W m s H Q' :=
  ⟨r, sm, h, hs, ss, (WtS.bind (rel := RepL K mg) hs ss w).imp (fun _ _ _ z => z) fun x H1 ⟨r1, h1, v, p, q, w1⟩ => k r1 h1 v x H1 p.hs (ss.post hs p) p q w1⟩
/-- the end of a step is the end of the whole -/
theorem tM_end {m : ME} {Q : VK} (hs : HS K mg r h H) (ss : SS K mg r H sm s) (w : Wt K mg (Rep K mg) r H (fun c d H' => W c d s H') Q (m sm h)) : tM K mg W m s H Q := ⟨r, sm, h, hs, ss, w⟩
theorem tMT_end {m : MT} {Q : Bool → Hp → Prop} (hs : HS K mg r h H) (ss : SS K mg r H sm s) (w : Wt K mg (fun _ _ a b => a = b) r H (fun c d H' => W c d s H') Q (m sm h)) : tMT K mg W m s H Q := ⟨r, sm, h, hs, ss, w⟩
theorem tMA_end {m : MA} {Q : List V → Hp → Prop} (hs : HS K mg r h H) (ss : SS K mg r H sm s) (w : Wt K mg (RepL K mg) r H (fun c d H' => W c d s H') Q (m sm h)) : tMA K mg W m s H Q := ⟨r, sm, h, hs, ss, w⟩
theorem tMS_end {m : MS} {D : Ends} (hs : HS K mg r h H) (ss : SS K mg r H sm s) (w : WtS K mg W r H D (m sm h)) : tMS K mg W m D s H := ⟨r, sm, h, hs, ss, w⟩
theorem Wt.plainB {E : XK} {Q : Bool → Hp → Prop} {b : Bool} (hs : HS K mg r h H) (w : Wt K mg (fun _ _ a b => a = b) r H E Q (.ok b h)) : Q b H := w r H b (Post.refl hs) rfl
end

/-! ### expressions -/
def eVar (i : Nat) : ME := fun s h => match s[i]? with
  | some (some v) => .ok v h
  | _ => .stuck
def eC (v : MV) : ME := fun _ h => .ok v h
def eOp (f : F2) (a b : ME) : ME := fun s h => (a s h).bind fun x h1 => (b s h1).bind fun y h2 => ofO (f x y h2)
def eChain (f g : F2) (a b c : ME) : ME := fun s h => (a s h).bind fun x h1 => (b s h1).bind fun y h2 => (ofO (f x y h2)).bind fun z h3 => match z with
  | .bl true => (c s h3).bind fun w h4 => ofO (g y w h4)
  | .bl false => .ok (.bl false) h3
  | _ => .stuck
def eAnd (a b : ME) : ME := fun s h => (a s h).bind fun x h1 => match x with
  | .bl true => b s h1
  | .bl false => .ok (.bl false) h1
  | _ => .stuck
def eOr (a b : ME) : ME := fun s h => (a s h).bind fun x h1 => match x with
  | .bl false => b s h1
  | .bl true => .ok (.bl true) h1
  | _ => .stuck
def eIf (t : MT) (a b : ME) : ME := fun s h => (t s h).bind fun c h1 => if c then a s h1 else b s h1
def mTruth (x : MV) (h : MH) : Option Bool := match x with
  | .non => some false
  | .bl b => some b
  | .int i => some (i != 0)
  | .str l => if l.length ≤ sizeLine then some (!l.isEmpty) else none
  | .tup xs => some (!xs.isEmpty)
  | .ref n => match h[n]? with
    | some (.lst xs) => some (!xs.isEmpty)
    | some (.dK kvs) => some (!kvs.isEmpty)
    | _ => none
  | .lv xs => some (!xs.isEmpty)
  | _ => none
def ofB (o : Option Bool) (h : MH) : R Bool := match o with
  | some b => .ok b h
  | none => .stuck
def tVal (a : ME) : MT := fun s h => (a s h).bind fun x h1 => ofB (mTruth x h1) h1
def tCmp (f : F2) (a b : ME) : MT := fun s h => (a s h).bind fun x h1 => (b s h1).bind fun y h2 => match f x y h2 with
  | some (.bl k, h3) => .ok k h3
  | _ => .stuck
def tNotM (t : MT) : MT := fun s h => (t s h).bind fun c h1 => .ok (!c) h1
def tAndM (t u : MT) : MT := fun s h => (t s h).bind fun c h1 => if c then u s h1 else .ok false h1
def tOrM (t u : MT) : MT := fun s h => (t s h).bind fun c h1 => if c then .ok true h1 else u s h1
def eNot (a : ME) : ME := fun s h => (a s h).bind fun x h1 => (ofB (mTruth x h1) h1).bind fun c h2 => .ok (.bl (!c)) h2
def aNil : MA := fun _ h => .ok [] h
def aCons (a : ME) (b : MA) : MA := fun s h => (a s h).bind fun x h1 => (b s h1).bind fun xs h2 => .ok (x :: xs) h2
def eTup (a : MA) : ME := fun s h => (a s h).bind fun xs h1 => if xs.length ≤ sizeLine then .ok (.tup xs) h1 else .stuck
def eLst (a : MA) : ME := fun s h => (a s h).bind fun xs h1 => if xs.length ≤ sizeLine then .ok (.ref h1.length) (h1 ++ [.lst xs]) else .stuck
section
variable {X : Cx} {W : WX} {a b c e : Expr} {es : List Expr} {ma mb mc : ME} {mt mu : MT} {ms : MA} {pos : Pos}
theorem me_var (i : Nat) {x : Str} (hN : X.N[i]? = some x := by rfl) (hv : Vis X.env.scope x := by first | exact Or.inl rfl | exact Or.inr (Or.inl rfl) | exact Or.inr (Or.inr rfl)) (hd : (x == ("__debug__" : Str)) = false := by decide)
    (hcd : (x == ("__classdict__" : Str)) = false := by decide) : PEm X W (.Name x pos) (eVar i) := (pe_var hN hv hd hcd).mimp fun s H Q ⟨r, sm, h, hs, ss, w⟩ => by
  unfold eVar at w
  split at w
  · rename_i v e
    obtain ⟨y, e1, q⟩ := ss.at_ i v e
    exact ⟨y, e1, w.plain hs q⟩
  · exact w.elim
theorem me_int {i j} : PEm X W (.Constant (.int i) j pos) (eC (.int i)) := pe_int.mimp fun s H Q ⟨r, sm, h, hs, ss, w⟩ => Wt.plain hs w (.int i)
theorem me_bl {b j} : PEm X W (.Constant (.bool b) j pos) (eC (.bl b)) := pe_bl.mimp fun s H Q ⟨r, sm, h, hs, ss, w⟩ => Wt.plain hs w (.bl b)
theorem me_non {j} : PEm X W (.Constant .none j pos) (eC .non) := pe_non.mimp fun s H Q ⟨r, sm, h, hs, ss, w⟩ => Wt.plain hs w .non
theorem me_str (l : CP) {x : Str} {j} (hx : x = S l := by decide +kernel) : PEm X W (.Constant (.str x) j pos) (eC (.str l)) := pe_str.mimp fun s H Q ⟨r, sm, h, hs, ss, w⟩ => by subst hx; exact Wt.plain hs w (.str l)
/-- a constant of the module, as the top has left it -/
def GloV (X : Cx) (x : Str) (v : MV) : Prop := ∃ u y, X.mg x = some u ∧ RelV y u ∧ ∀ r H, Rep X.K X.mg r H v y
theorem me_glob {x : Str} {v : MV} (hg : Gl X x) (hm : GloV X x v) (hd : (x == ("__debug__" : Str)) = false := by decide) : PEm X W (.Name x pos) (eC v) := by
  obtain ⟨u, y, e, ry, q⟩ := hm
  exact (pe_glob hg e ry hd).mimp fun s H Q ⟨r, sm, h, hs, ss, w⟩ => Wt.plain hs w (q r H)
theorem me_op {op : Operator} {f : F2} (ho : OpR X (binaryOp op) (rM X.K X.mg f)) (ha : PEm X W a ma) (hb : PEm X W b mb) : PEm X W (.BinOp a op b pos) (eOp f ma mb) := (pe_op ho ha hb).mimp fun s H Q ⟨r, sm, h, hs, ss, w⟩ =>
  tM_bind hs ss w fun r1 h1 v x H1 hs1 ss1 p1 q1 w1 => tM_bind hs1 ss1 w1 fun r2 h2 u y H2 hs2 ss2 p2 q2 w2 => ⟨r2, h2, v, u, hs2, p2.rep hs1 q1, q2, w2.anyE⟩
theorem me_cmp {op : CmpOp} {f : F2} (ho : OpR X (compareOp op) (rM X.K X.mg f)) (ha : PEm X W a ma) (hb : PEm X W b mb) (hm : behindInMarks op b = false := by first | exact nomark _ | rfl | with_unfolding_all rfl) : PEm X W (.Compare a [op] [b] pos) (eOp f ma mb) := (pe_cmpR ho ha hb hm).mimp fun s H Q ⟨r, sm, h, hs, ss, w⟩ =>
  tM_bind hs ss w fun r1 h1 v x H1 hs1 ss1 p1 q1 w1 => tM_bind hs1 ss1 w1 fun r2 h2 u y H2 hs2 ss2 p2 q2 w2 => ⟨r2, h2, v, u, hs2, p2.rep hs1 q1, q2, w2.anyE⟩
theorem me_chain {op op' : CmpOp} {f g : F2} (ho : OpR X (compareOp op) (rM X.K X.mg f)) (ho' : OpR X (compareOp op') (rM X.K X.mg g)) (ha : PEm X W a ma) (hb : PEm X W b mb) (hc : PEm X W c mc) (hm : lastMarks [op, op'] [b, c] = false := by with_unfolding_all rfl) :
    PEm X W (.Compare a [op, op'] [b, c] pos) (eChain f g ma mb mc) := (pe_chain ho ho' ha hb hc hm).mimp fun s H Q ⟨r, sm, h, hs, ss, w⟩ =>
  tM_bind hs ss w fun r1 h1 v x H1 hs1 ss1 p1 q1 w1 => tM_bind hs1 ss1 w1 fun r2 h2 u y H2 hs2 ss2 p2 q2 w2 => by
    refine ⟨r2, h2, v, u, hs2, p2.rep hs1 q1, q2, ?_⟩
    have w3 := Wt.bind (rel := Rep X.K X.mg) w2
    cases e : f v u h2 with
    | none => rw [e] at w3; exact w3.elim
    | some p =>
      rw [e] at w3
      obtain ⟨z, h3⟩ := p
      intro r3 H3 z' p3 q3
      obtain ⟨r3', h3', z3, p3', q3', w4⟩ := w3 r3 H3 z' p3 q3
      cases z3 with
      | bl k =>
        cases q3'
        refine ⟨k, rfl, ?_⟩
        cases k with
        | true =>
          refine iteT (tM_bind p3'.hs (ss2.post hs2 p3') w4 fun r4 h4 v4 x4 H4 hs4 ss4 p4 q4 w5 => ?_)
          exact ⟨r4, h4, u, v4, hs4, p4.rep p3'.hs (p3'.rep hs2 q2), q4, w5.anyE⟩
        | false => exact iteF (Wt.plain p3'.hs w4 (.bl false))
      | _ => exact w4.elim
theorem me_one {op} (h : PEm X W a ma) : PEm X W (.BoolOp op [a] pos) ma := pe_one h
theorem me_and {rest : List Expr} (ha : PEm X W a ma) (hb : PEm X W (.BoolOp .And (b :: rest) pos) mb) : PEm X W (.BoolOp .And (a :: b :: rest) pos) (eAnd ma mb) := (pe_and ha hb).mimp fun s H Q ⟨r, sm, h, hs, ss, w⟩ =>
  tM_bind hs ss w fun r1 h1 v x H1 hs1 ss1 p1 q1 w1 => by
    cases v with
    | bl k =>
      cases q1
      refine ⟨k, rfl, ?_⟩
      cases k with
      | true => exact iteT (tM_end hs1 ss1 w1)
      | false => exact iteF (Wt.plain hs1 w1 (.bl false))
    | _ => exact w1.elim
theorem me_or {rest : List Expr} (ha : PEm X W a ma) (hb : PEm X W (.BoolOp .Or (b :: rest) pos) mb) : PEm X W (.BoolOp .Or (a :: b :: rest) pos) (eOr ma mb) := (pe_or ha hb).mimp fun s H Q ⟨r, sm, h, hs, ss, w⟩ =>
  tM_bind hs ss w fun r1 h1 v x H1 hs1 ss1 p1 q1 w1 => by
    cases v with
    | bl k =>
      cases q1
      refine ⟨k, rfl, ?_⟩
      cases k with
      | false => exact iteF (tM_end hs1 ss1 w1)
      | true => exact iteT (Wt.plain hs1 w1 (.bl true))
    | _ => exact w1.elim
theorem me_if (ht : PTm X W c mt) (ha : PEm X W a ma) (hb : PEm X W b mb) : PEm X W (.IfExp c a b pos) (eIf mt ma mb) := (pe_ifExp ht ha hb).mimp fun s H Q ⟨r, sm, h, hs, ss, w⟩ =>
  tMT_bind hs ss w fun r1 h1 v H1 hs1 ss1 p1 w1 => by
    cases v with
    | true => exact iteT (tM_end hs1 ss1 w1)
    | false => exact iteF (tM_end hs1 ss1 w1)
theorem truth_ok {r : List Addr} {h : MH} {H : Hp} {v : MV} {x : V} {k : Bool} (hs : HS X.K X.mg r h H) (q : Rep X.K X.mg r H v x) (e : mTruth v h = some k) : TruV X.K x H k := by
  cases v with
  | non => cases q; cases e; rfl
  | bl b => cases q; cases e; rfl
  | int i => cases q; cases e; rfl
  | str l =>
    cases q
    simp only [mTruth] at e
    split at e
    · rename_i hl
      cases e
      refine ⟨by rw [S_length]; exact hl, ?_⟩
      rw [S_length]
      cases l with
      | nil => rfl
      | cons c t => simp; omega
    · cases e
  | tup xs =>
    cases q with
    | tup sq ql =>
      cases e
      refine .inr (.inl ⟨_, sq, ?_⟩)
      cases ql <;> rfl
  | ref n =>
    cases q with
    | ref en =>
      simp only [mTruth] at e
      split at e
      · rename_i xs h1
        cases e
        obtain ⟨ys, e1, ql⟩ := hs.lookup en h1
        refine .inl ⟨_, SqL.of e1, ?_⟩
        cases ql <;> rfl
      · rename_i xs h1
        cases e
        obtain ⟨ys, e1, ql⟩ := hs.lookup en h1
        refine .inr (.inr ⟨_, e1, ?_⟩)
        cases ql <;> rfl
      · cases e
  | ty _ => cases e
  | glo _ => cases e
  | exc _ _ _ => cases e
  | clo _ _ _ _ _ => cases e
  | ro _ => cases e
  | lv xs =>
    cases q with
    | lv s ql =>
      cases e
      refine .inl ⟨_, s.sq, ?_⟩
      cases ql <;> rfl
theorem mt_val (ha : PEm X W a ma) (he : ∀ whole, isTrue a X.env whole = (do let v ← whole; standAt a.pos; holding [v] (truthy v)) := by intro _; rfl) : PTm X W a (tVal ma) := (pt_truth ha he).mimp fun s H Q ⟨r, sm, h, hs, ss, w⟩ =>
  tM_bind hs ss w fun r1 h1 v x H1 hs1 ss1 p1 q1 w1 => by
    cases e : mTruth v h1 with
    | none => rw [e] at w1; exact w1.elim
    | some k =>
      rw [e] at w1
      exact ⟨k, truth_ok hs1 q1 e, Wt.plainB hs1 w1⟩
theorem mt_cmp {op : CmpOp} {f : F2} (ho : OpR X (compareOp op) (rM X.K X.mg f)) (ha : PEm X W a ma) (hb : PEm X W b mb) (hm : behindInMarks op b = false := by first | exact nomark _ | rfl | with_unfolding_all rfl) : PTm X W (.Compare a [op] [b] pos) (tCmp f ma mb) := (pt_cmpR ho ha hb hm).mimp fun s H Q ⟨r, sm, h, hs, ss, w⟩ =>
  tM_bind hs ss w fun r1 h1 v x H1 hs1 ss1 p1 q1 w1 => tM_bind hs1 ss1 w1 fun r2 h2 u y H2 hs2 ss2 p2 q2 w2 => by
    refine ⟨r2, h2, v, u, hs2, p2.rep hs1 q1, q2, ?_⟩
    revert w2
    cases f v u h2 with
    | none => intro w2; exact w2.elim
    | some p =>
      obtain ⟨z, h3⟩ := p
      cases z with
      | bl k =>
        intro w2 r3 H3 z p3 q3
        cases q3
        exact ⟨k, rfl, w2 r3 H3 k p3 rfl⟩
      | _ => intro w2; exact w2.elim
theorem mt_chain {op op' : CmpOp} {f g : F2} (ho : OpR X (compareOp op) (rM X.K X.mg f)) (ho' : OpR X (compareOp op') (rM X.K X.mg g)) (ha : PEm X W a ma) (hb : PEm X W b mb) (hc : PEm X W c mc) (hm : lastMarks [op, op'] [b, c] = false := by with_unfolding_all rfl)
    (he : ∀ whole, isTrue (.Compare a [op, op'] [b, c] pos) X.env whole = (do let v ← whole; standAt (Expr.pos (.Compare a [op, op'] [b, c] pos)); holding [v] (truthy v)) := by intro _; rfl) :
    PTm X W (.Compare a [op, op'] [b, c] pos) (tVal (eChain f g ma mb mc)) := mt_val (me_chain ho ho' ha hb hc hm) he
theorem mt_not (ha : PTm X W a mt) : PTm X W (.UnaryOp .Not a pos) (tNotM mt) := (pt_not ha).mimp fun s H Q ⟨r, sm, h, hs, ss, w⟩ =>
  tMT_bind hs ss w fun r1 h1 v H1 hs1 ss1 p1 w1 => Wt.plainB hs1 w1
theorem mw_and1 (ha : PTm X W a mt) : PWm X W (.BoolOp .And [a] pos) mt := pw_and1 ha
theorem mw_or1 (ha : PTm X W a mt) : PWm X W (.BoolOp .Or [a] pos) mt := pw_or1 ha
theorem mw_and {rest : List Expr} (ha : PTm X W a mt) (hb : PWm X W (.BoolOp .And (b :: rest) pos) mu) : PWm X W (.BoolOp .And (a :: b :: rest) pos) (tAndM mt mu) := (pw_and ha hb).mimp fun s H Q ⟨r, sm, h, hs, ss, w⟩ =>
  tMT_bind hs ss w fun r1 h1 v H1 hs1 ss1 p1 w1 => by
    cases v with
    | true => exact iteT (tMT_end hs1 ss1 w1)
    | false => exact iteF (Wt.plainB hs1 w1)
theorem mw_or {rest : List Expr} (ha : PTm X W a mt) (hb : PWm X W (.BoolOp .Or (b :: rest) pos) mu) : PWm X W (.BoolOp .Or (a :: b :: rest) pos) (tOrM mt mu) := (pw_or ha hb).mimp fun s H Q ⟨r, sm, h, hs, ss, w⟩ =>
  tMT_bind hs ss w fun r1 h1 v H1 hs1 ss1 p1 w1 => by
    cases v with
    | true => exact iteT (Wt.plainB hs1 w1)
    | false => exact iteF (tMT_end hs1 ss1 w1)
theorem mt_w (h : PWm X W a mt) : PTm X W a mt := h.pt
theorem me_not (ha : PEm X W a ma) : PEm X W (.UnaryOp .Not a pos) (eNot ma) := (pe_notT ha).mimp fun s H Q ⟨r, sm, h, hs, ss, w⟩ =>
  tM_bind hs ss w fun r1 h1 v x H1 hs1 ss1 p1 q1 w1 => by
    cases e : mTruth v h1 with
    | none => rw [e] at w1; exact w1.elim
    | some k =>
      rw [e] at w1
      exact ⟨k, truth_ok hs1 q1 e, Wt.plain hs1 w1 (.bl _)⟩
theorem ma_nil : PAm X W [] aNil := pa_nil.mimp fun s H Q ⟨r, sm, h, hs, ss, w⟩ => w r H [] (Post.refl hs) .nil
theorem ma_cons (ha : PEm X W e ma) (hr : PAm X W es ms) (hst : starEach (e :: es) X.env = (false, eval e X.env) :: starEach es X.env := by rfl) : PAm X W (e :: es) (aCons ma ms) := (pa_cons ha hr hst).mimp fun s H Q ⟨r, sm, h, hs, ss, w⟩ =>
  tM_bind hs ss w fun r1 h1 v x H1 hs1 ss1 p1 q1 w1 => tMA_bind hs1 ss1 w1 fun r2 h2 vs xs H2 hs2 ss2 p2 q2 w2 => w2 r2 H2 _ (Post.refl hs2) (.cons (p2.rep hs1 q1) q2)
theorem me_tup {k} (h : PAm X W es ms) : PEm X W (.Tuple es k pos) (eTup ms) := (pe_tup h).mimp fun s H Q ⟨r, sm, h, hs, ss, w⟩ =>
  tMA_bind hs ss w fun r1 h1 vs xs H1 hs1 ss1 p1 q1 w1 => by
    split at w1
    · rename_i hl
      refine ⟨by rw [← q1.length]; exact hl, fun p hp => ?_⟩
      obtain ⟨po, re⟩ := hs1.newT hp q1
      exact w1 _ _ _ po re
    · exact w1.elim
theorem me_lst (h : PAm X W es ms) : PEm X W (.List es pos) (eLst ms) := (pe_lst h).mimp fun s H Q ⟨r, sm, h, hs, ss, w⟩ =>
  tMA_bind hs ss w fun r1 h1 vs xs H1 hs1 ss1 p1 q1 w1 => by
    split at w1
    · rename_i hl
      refine ⟨by rw [← q1.length]; exact hl, fun p hp => ?_⟩
      obtain ⟨po, re⟩ := hs1.newL hp q1
      exact w1 _ _ _ po re
    · exact w1.elim
end
end MP

namespace MP
open PySem PySem.Spec PyProof.Rows L2

abbrev PSm (X : Cx) (W : WX) (e : Stmt) (m : MS) : Prop := PS X e (tMS X.K X.mg W m)
abbrev PSsm (X : Cx) (W : WX) (e : List Stmt) (m : MS) : Prop := PSs X e (tMS X.K X.mg W m)
abbrev MG := MV → Sl → MH → R Sl
abbrev MGs := List MV → Sl → MH → R Sl
def tMG (K : PySem.W.Frag) (mg : Str → Option Value) (g : MG) : TG := fun v s H Q => ∃ r sm h a, HS K mg r h H ∧ SS K mg r H sm s ∧ Rep K mg r H a v ∧ Wt K mg (fun r' H' => SS K mg r' H') r H (fun _ _ _ => False) Q (g a sm h)
def tMGs (K : PySem.W.Frag) (mg : Str → Option Value) (g : MGs) : TGs := fun v s H Q => ∃ r sm h a, HS K mg r h H ∧ SS K mg r H sm s ∧ RepL K mg r H a v ∧ Wt K mg (fun r' H' => SS K mg r' H') r H (fun _ _ _ => False) Q (g a sm h)
abbrev PGm (X : Cx) (e : Expr) (m : MG) : Prop := PG X e (tMG X.K X.mg m)
abbrev PGsm (X : Cx) (e : List Expr) (m : MGs) : Prop := PGs X e (tMGs X.K X.mg m)
theorem _root_.L2.PG.mimp {X : Cx} {e : Expr} {t t' : TG} (h : PG X e t) (i : ∀ v s H Q, t' v s H Q → t v s H Q) : PG X e t' := ⟨fun pins s σ H v u Q I r q => h.run pins s σ H v u Q I r (i _ _ _ _ q)⟩
theorem _root_.L2.PGs.mimp {X : Cx} {e : List Expr} {t t' : TGs} (h : PGs X e t) (i : ∀ v s H Q, t' v s H Q → t v s H Q) : PGs X e t' := ⟨fun pins s σ H v u Q I r q => h.run pins s σ H v u Q I r (i _ _ _ _ q)⟩

/-! ### statements -/
def sNil : MS := fun s h => .nx s h
def sSeq (a b : MS) : MS := fun s h => match a s h with
  | .nx s1 h1 => b s1 h1
  | o => o
def sExpr (e : ME) : MS := fun s h => (e s h).bindS s fun _ h1 => .nx s h1
def sRet (e : ME) : MS := fun s h => (e s h).bindS s fun v h1 => .rt v h1
def sRetN : MS := fun _ h => .rt .non h
def sBrk : MS := fun s h => .bk s h
def sCnt : MS := fun s h => .ct s h
def sNever : MS := fun _ _ => .stuck
def sIf (t : MT) (a b : MS) : MS := fun s h => (t s h).bindS s fun c h1 => if c then a s h1 else b s h1
def R.go (x : R Sl) (f : Sl → MH → SR) : SR := match x with
  | .ok s h => f s h
  | _ => .stuck
def sAsg (e : ME) (g : MG) : MS := fun s h => (e s h).bindS s fun v h1 => (g v s h1).go fun s' h2 => .nx s' h2
def gNm (i : Nat) : MG := fun v s h => .ok (s.set i (some v)) h
def gN : MGs := fun vs s h => match vs with
  | [] => .ok s h
  | _ => .stuck
def gC (g : MG) (gs : MGs) : MGs := fun vs s h => match vs with
  | v :: r => (g v s h).bind fun s1 h1 => gs r s1 h1
  | [] => .stuck
def gTp (n : Nat) (gs : MGs) : MG := fun v s h => match v with
  | .tup xs => if xs.length = n then gs xs s h else .stuck
  | _ => .stuck
def sPar (i j : Nat) (a : MA) : MS := fun s h => (a s h).bindS s fun vs h1 => match vs with
  | [v, w] => .nx ((s.set i (some v)).set j (some w)) h1
  | _ => .stuck
section
variable {K : PySem.W.Frag} {mg : Str → Option Value} {W : WX} {r : List Addr} {h : MH} {H : Hp}
theorem WtS.nx {D : Ends} {sm : Sl} {s : L2.St} (hs : HS K mg r h H) (ss : SS K mg r H sm s) (w : WtS K mg W r H D (.nx sm h)) : D.nx s H := w r s H (Post.refl hs) ss
theorem WtS.rt {D : Ends} {v : MV} {x : V} (hs : HS K mg r h H) (q : Rep K mg r H v x) (w : WtS K mg W r H D (.rt v h)) : D.rt x H := w r H x (Post.refl hs) q
/-- from where a run goes on -/
theorem WtS.post {D : Ends} {x : SR} {r1 : List Addr} {h1 : MH} {H1 : Hp} (p : Post K mg r H r1 h1 H1) (w : WtS K mg W r H D x) : WtS K mg W r1 H1 D x := by
  cases x with
  | stuck => exact w
  | nx z h2 => exact fun r' s' H' p2 q2 => w r' s' H' (p.trans p2) q2
  | bk z h2 => exact fun r' s' H' p2 q2 => w r' s' H' (p.trans p2) q2
  | ct z h2 => exact fun r' s' H' p2 q2 => w r' s' H' (p.trans p2) q2
  | rt z h2 => exact fun r' H' y p2 q2 => w r' H' y (p.trans p2) q2
  | err z sm' h2 => exact fun r' s' H' cls d p2 q2 => w r' s' H' cls d (p.trans p2) q2
theorem Wt.post {α β : Type} {rel : List Addr → Hp → α → β → Prop} {E : XK} {Q : β → Hp → Prop} {x : R α} {r1 : List Addr} {h1 : MH} {H1 : Hp} (p : Post K mg r H r1 h1 H1) (w : Wt K mg rel r H E Q x) : Wt K mg rel r1 H1 E Q x := by
  cases x with
  | stuck => exact w
  | ok z h2 => exact fun r' H' y p2 q2 => w r' H' y (p.trans p2) q2
  | err z h2 => exact fun r' H' cls d p2 q2 => w r' H' cls d (p.trans p2) q2
end
section
variable {X : Cx} {W : WX} {a b c e tg : Expr} {es : List Expr} {st : Stmt} {sts sa sb : List Stmt} {ma mb mc : ME} {mt : MT} {m1 m2 : MS} {ms : MA} {g : MG} {gs : MGs} {pos : Pos}
theorem ms_nil : PSsm X W [] sNil := pss_nil.mimp fun D s H ⟨r, sm, h, hs, ss, w⟩ => WtS.nx hs ss w
theorem ms_cons (h1 : PSm X W st m1) (h2 : PSsm X W sts m2) : PSsm X W (st :: sts) (sSeq m1 m2) := (pss_cons h1 h2).mimp fun D s H ⟨r, sm, h, hs, ss, w⟩ => by
  refine ⟨r, sm, h, hs, ss, ?_⟩
  unfold sSeq at w
  cases e : m1 sm h with
  | nx s1 h1 => rw [e] at w; exact fun r' s' H' p q => ⟨r', s1, h1, p.hs, q, w.post p⟩
  | rt v h1 => rw [e] at w; exact w
  | bk v h1 => rw [e] at w; exact w
  | ct v h1 => rw [e] at w; exact w
  | err x v h1 => rw [e] at w; exact w
  | stuck => rw [e] at w; exact w
theorem ms_one (h1 : PSm X W st m1) : PSsm X W [st] m1 := pss_one h1
theorem ms_pass : PSm X W (.Pass pos) sNil := ps_pass.mimp fun D s H ⟨r, sm, h, hs, ss, w⟩ => WtS.nx hs ss w
theorem ms_break : PSm X W (.Break pos) sBrk := ps_break.mimp fun D s H ⟨r, sm, h, hs, ss, w⟩ => w r s H (Post.refl hs) ss
theorem ms_continue : PSm X W (.Continue pos) sCnt := ps_continue.mimp fun D s H ⟨r, sm, h, hs, ss, w⟩ => w r s H (Post.refl hs) ss
theorem ms_doc {x j pos'} : PSm X W (.Expr (.Constant (.str x) j pos) pos') sNil := ps_doc.mimp fun D s H ⟨r, sm, h, hs, ss, w⟩ => WtS.nx hs ss w
theorem ms_never : PSm X W st sNever := ps_never.mimp fun D s H ⟨r, sm, h, hs, ss, w⟩ => w
theorem mss_never : PSsm X W sts sNever := pss_never.mimp fun D s H ⟨r, sm, h, hs, ss, w⟩ => w
theorem ms_expr (he : PEm X W e ma) (hsw : swapsWith e none pos.line X.env = pure false := by rfl) : PSm X W (.Expr e pos) (sExpr ma) := (ps_expr he hsw).mimp fun D s H ⟨r, sm, h, hs, ss, w⟩ =>
  tM_bindS hs ss w fun r1 h1 v x H1 hs1 ss1 p1 q1 w1 => WtS.nx hs1 ss1 w1
theorem ms_ret (he : PEm X W e ma) : PSm X W (.Return (some e) pos) (sRet ma) := (ps_ret he).mimp fun D s H ⟨r, sm, h, hs, ss, w⟩ =>
  tM_bindS hs ss w fun r1 h1 v x H1 hs1 ss1 p1 q1 w1 => WtS.rt hs1 q1 w1
theorem ms_retN : PSm X W (.Return none pos) sRetN := ps_retN.mimp fun D s H ⟨r, sm, h, hs, ss, w⟩ => WtS.rt hs .non w
theorem ms_if (hc : PTm X W c mt) (ha : PSsm X W sa m1) (hb : PSsm X W sb m2) : PSm X W (.If c sa sb pos) (sIf mt m1 m2) := (ps_if hc ha hb).mimp fun D s H ⟨r, sm, h, hs, ss, w⟩ =>
  tMT_bindS hs ss w fun r1 h1 v H1 hs1 ss1 p1 w1 => by
    cases v with
    | true => exact iteT (tMS_end hs1 ss1 w1)
    | false => exact iteF (tMS_end hs1 ss1 w1)
/-! targets -/
theorem mg_name {i : Nat} {x : Str} (hN : X.N.Nodup) (hi : X.N[i]? = some x) (hx : Loc X.env.scope x) (hf : X.fn x = true ∨ X.env.scope.names.lookup x = some .local := by first | exact .inl rfl | exact .inr rfl | assumption) : PGm X (.Name x pos) (gNm i) :=
  (pg_name hN hi hx hf).mimp fun v s H Q ⟨r, sm, h, a, hs, ss, q, w⟩ => w r H _ (Post.refl hs) (ss.set q i)
theorem mgs_nil : PGsm X [] gN := pgs_nil.mimp fun v s H Q ⟨r, sm, h, a, hs, ss, q, w⟩ => by
  cases a with
  | nil => cases q; exact ⟨rfl, w r H s (Post.refl hs) ss⟩
  | cons _ _ => exact w.elim
theorem mgs_cons (h1 : PGm X e g) (h2 : PGsm X es gs) (hst : (assignEach (e :: es) X.env).map (·.2) = assign e X.env :: (assignEach es X.env).map (·.2) := by rfl) : PGsm X (e :: es) (gC g gs) := (pgs_cons h1 h2 hst).mimp fun v s H Q ⟨r, sm, h, a, hs, ss, q, w⟩ => by
  cases a with
  | nil => exact w.elim
  | cons a as =>
    cases q with
    | cons q1 q2 =>
      refine ⟨_, _, rfl, r, sm, h, a, hs, ss, q1, (Wt.bind (rel := fun r' H' => SS X.K X.mg r' H') w).imp (fun _ _ _ z => z) fun s1 H1 ⟨r1, h1, sm1, p1, ss1, w2⟩ => ?_⟩
      exact ⟨r1, sm1, h1, as, p1.hs, ss1, p1.repL hs q2, w2⟩
theorem mg_tup {k n : Nat} (hc : X.calm = true) (hg : PGsm X es gs) (hn : es.length = n := by rfl) (ht : X.calm = true → PGs X es (tMGs X.K X.mg gs) → PG X (.Tuple es k pos) (gTup X.K n (tMGs X.K X.mg gs)) := by exact fun a b => pg_tup a b) : PGm X (.Tuple es k pos) (gTp n gs) := (ht hc hg).mimp fun v s H Q ⟨r, sm, h, a, hs, ss, q, w⟩ => by
  cases a with
  | tup xs =>
    cases q with
    | tup sq ql =>
      simp only [gTp] at w
      split at w
      · rename_i hl
        exact ⟨_, _, rfl, sq, by rw [← ql.length]; exact hl, r, sm, h, xs, hs, ss, ql, w⟩
      · exact w.elim
  | _ => exact w.elim
theorem WtS.goes {D : Ends} {x : R Sl} {f : Sl → MH → SR} {r : List Addr} {H : Hp} {K : PySem.W.Frag} {mg : Str → Option Value} (w : WtS K mg W r H D (x.go f)) :
    Wt K mg (fun r' H' => SS K mg r' H') r H (fun _ _ _ => False) (fun s' H' => ∃ r1 h1 sm1, Post K mg r H r1 h1 H' ∧ SS K mg r1 H' sm1 s' ∧ WtS K mg W r1 H' D (f sm1 h1)) x := by
  cases x with
  | ok sm h' => exact fun r' H' y p q => ⟨r', h', sm, p, q, WtS.post p w⟩
  | err _ _ => exact w.elim
  | stuck => exact w.elim
theorem ms_asg (he : PEm X W e ma) (hg : PGm X tg g) (hsw : swapsWithSole [tg] e pos.line X.env = pure false := by rfl) (hw : swappedStores [tg] e X.env = pure none := by rfl)
    (hps : PE X e (tM X.K X.mg W ma) → PG X tg (tMG X.K X.mg g) → PS X (.Assign [tg] e pos) (tAsg (tM X.K X.mg W ma) (tMG X.K X.mg g)) := by exact fun a b => ps_asg a b) : PSm X W (.Assign [tg] e pos) (sAsg ma g) := (hps he hg).mimp fun D s H ⟨r, sm, h, hs, ss, w⟩ =>
  tM_bindS hs ss w fun r1 h1 v x H1 hs1 ss1 p1 q1 w1 => ⟨r1, sm, h1, v, hs1, ss1, q1, (WtS.goes w1).imp (fun _ _ _ z => z) fun s' H' ⟨r2, h2, sm2, p2, ss2, w2⟩ => WtS.nx p2.hs ss2 w2⟩
theorem ms_set {i : Nat} {x : Str} {pos' : Pos} (hN : X.N.Nodup) (hi : X.N[i]? = some x) (hx : Loc X.env.scope x) (he : PEm X W e ma) (hsw : swapsWith e (some (.Name x pos')) pos.line X.env = pure false := by rfl) (hf : X.fn x = true ∨ X.env.scope.names.lookup x = some .local := by first | exact .inl rfl | exact .inr rfl | assumption) :
    PSm X W (.Assign [.Name x pos'] e pos) (sAsg ma (gNm i)) := (ps_set hN hi hx he hsw hf).mimp fun D s H ⟨r, sm, h, hs, ss, w⟩ =>
  tM_bindS hs ss w fun r1 h1 v x H1 hs1 ss1 p1 q1 w1 => WtS.nx hs1 (ss1.set q1 i) w1
theorem ms_par {i j : Nat} {x y : Str} {px py pt : Pos} {kt k2 pt2} (hc : X.calm = true) (hN : X.N.Nodup) (hi : X.N[i]? = some x) (hj : X.N[j]? = some y) (hij : i ≠ j)
    (hx : X.env.scope.names.lookup x = some .local) (hy : X.env.scope.names.lookup y = some .local) (ha : PAm X W [a, b] ms)
    (hps : PA X [a, b] (tMA X.K X.mg W ms) → PS X (.Assign [.Tuple [.Name x px, .Name y py] kt pt] (.Tuple [a, b] k2 pt2) pos) (tPar i j (tMA X.K X.mg W ms))) : PSm X W (.Assign [.Tuple [.Name x px, .Name y py] kt pt] (.Tuple [a, b] k2 pt2) pos) (sPar i j ms) := (hps ha).mimp fun D s H ⟨r, sm, h, hs, ss, w⟩ =>
  tMA_bindS hs ss w fun r1 h1 v x H1 hs1 ss1 p1 q1 w1 => by
    match v, q1, w1 with
    | [v1, v2], .cons q1 (.cons q2 .nil), w1 => exact ⟨_, _, rfl, WtS.nx hs1 ((ss1.set q1 i).set q2 j) w1⟩
    | [], _, w1 => exact w1.elim
    | [_], _, w1 => exact w1.elim
    | _ :: _ :: _ :: _, _, w1 => exact w1.elim
end
end MP

namespace MP
open PySem PySem.Spec PyProof.Rows L2

/-! ### what is walked -/
inductive MIt where
  | items (xs : List MV)
  | lst (n : Nat)
  | enumL (n : Nat)
  | zipL (n m : Nat)
  | keyZ (n : Nat)
  | itemZ (n : Nat)
def keyV : MK → MV
  | .inl i => .int i
  | .inr l => .str l
def pairs : List MV → List MV → List MV
  | x :: xs, y :: ys => .tup [x, y] :: pairs xs ys
  | _, _ => []
def enumFrom : Nat → List MV → List MV
  | _, [] => []
  | i, x :: xs => .tup [.int i, x] :: enumFrom (i + 1) xs
def MIt.at (it : MIt) (h : MH) (i : Nat) : Option (Option MV) := match it with
  | .items xs => some xs[i]?
  | .lst n => (lstAt h n).map fun xs => xs[i]?
  | .enumL n => (lstAt h n).map fun xs => xs[i]?.map fun x => .tup [.int i, x]
  | .zipL n m => match lstAt h n, lstAt h m with
    | some xs, some ys => some (match xs[i]?, ys[i]? with
      | some x, some y => some (.tup [x, y])
      | _, _ => none)
    | _, _ => none
  | .keyZ n => match h[n]? with
    | some (.dZ kvs) => some (kvs[i]?.map fun p => keyV p.1)
    | _ => none
  | .itemZ n => match h[n]? with
    | some (.dZ kvs) => some (kvs[i]?.map fun p => .tup [keyV p.1, p.2])
    | _ => none
def MIt.fuel (it : MIt) (h : MH) : Nat := match it with
  | .items xs => xs.length
  | .lst n => ((lstAt h n).getD []).length
  | .enumL n => ((lstAt h n).getD []).length
  | .zipL n _ => ((lstAt h n).getD []).length
  | .keyZ n => match h[n]? with
    | some (.dZ kvs) => kvs.length
    | _ => 0
  | .itemZ n => match h[n]? with
    | some (.dZ kvs) => kvs.length
    | _ => 0
abbrev MI := Sl → MH → R MIt
/-- J goes as it goes, whatever comes behind r0, H0 -/
def IR (K : PySem.W.Frag) (mg : Str → Option Value) (r0 : List Addr) (H0 : Hp) (it : MIt) (J : It) : Prop := ∀ r h H (i : Nat), Post K mg r0 H0 r h H →
  (it.at h i = some none → J.stop i H) ∧ ∀ v, it.at h i = some (some v) → J.go i H ∧ ∀ x H', J.yld i H x H' → Post K mg r H r h H' ∧ Rep K mg r H' v x
def tMI (K : PySem.W.Frag) (mg : Str → Option Value) (W : WX) (m : MI) : TI := fun s H R => ∃ r sm h, HS K mg r h H ∧ SS K mg r H sm s ∧ Wt K mg (IR K mg) r H (fun c d H' => W c d s H') R (m sm h)
abbrev PIm (X : Cx) (W : WX) (tg iter : Expr) (m : MI) : Prop := PI X tg iter (tMI X.K X.mg W m)
theorem _root_.L2.PI.mimp {X : Cx} {tg e : Expr} {t t' : TI} (h : PI X tg e t) (i : ∀ s H R, t' s H R → t s H R) : PI X tg e t' := ⟨fun pins s σ H R I q => h.run pins s σ H R I (i _ _ _ q)⟩

/-! ### for, while -/
def forM (it : MIt) (g : MG) (b : MS) (n : Nat) : Nat → Sl → MH → SR :=
  Nat.rec (fun i s h => match it.at h i with
    | some none => .nx s h
    | _ => .stuck)
  (fun _ go i s h => match it.at h i with
    | some none => .nx s h
    | some (some v) => (g v s h).go fun s1 h1 => match b s1 h1 with
      | .nx s2 h2 => go (i + 1) s2 h2
      | .ct s2 h2 => go (i + 1) s2 h2
      | .bk s2 h2 => .nx s2 h2
      | o => o
    | none => .stuck) n
theorem forM_zero (it : MIt) (g : MG) (b : MS) (i : Nat) (s : Sl) (h : MH) : forM it g b 0 i s h = match it.at h i with
    | some none => .nx s h
    | _ => .stuck := rfl
theorem forM_succ (it : MIt) (g : MG) (b : MS) (n i : Nat) (s : Sl) (h : MH) : forM it g b (n + 1) i s h = match it.at h i with
    | some none => .nx s h
    | some (some v) => (g v s h).go fun s1 h1 => match b s1 h1 with
      | .nx s2 h2 => forM it g b n (i + 1) s2 h2
      | .ct s2 h2 => forM it g b n (i + 1) s2 h2
      | .bk s2 h2 => .nx s2 h2
      | o => o
    | none => .stuck := rfl
def sFor (mi : MI) (g : MG) (b : MS) : MS := fun s h => (mi s h).bindS s fun it h1 => forM it g b (it.fuel h1) 0 s h1
def whileM (t : MT) (b : MS) (n : Nat) : Sl → MH → SR :=
  Nat.rec (fun _ _ => .stuck) (fun _ go s h => (t s h).bindS s fun c h1 => if c then (match b s h1 with
      | .nx s2 h2 => go s2 h2
      | .ct s2 h2 => go s2 h2
      | .bk s2 h2 => .nx s2 h2
      | o => o) else .nx s h1) n
theorem whileM_zero (t : MT) (b : MS) (s : Sl) (h : MH) : whileM t b 0 s h = .stuck := rfl
theorem whileM_succ (t : MT) (b : MS) (n : Nat) (s : Sl) (h : MH) : whileM t b (n + 1) s h = (t s h).bindS s fun c h1 => if c then (match b s h1 with
      | .nx s2 h2 => whileM t b n s2 h2
      | .ct s2 h2 => whileM t b n s2 h2
      | .bk s2 h2 => .nx s2 h2
      | o => o) else .nx s h1 := rfl
def bigF : Nat := 1000000000
def sWhile (t : MT) (b : MS) : MS := fun s h => whileM t b bigF s h
section
variable {X : Cx} {W : WX} {a b c e tg iter : Expr} {es : List Expr} {body : List Stmt} {mt : MT} {mb : MS} {mi : MI} {g : MG} {pos : Pos}
theorem ms_for (hp : PassesOwn (model X.prog X.w) X.A X.env X.xe) (hc : X.calm = true) (hi : PIm X W tg iter mi) (hg : PGm X tg g) (hb : PSsm X W body mb) (hfs : ∀ x, foldedSetIterable iter X.env x = pure x := by intro _; rfl) :
    PSm X W (.For tg iter body [] pos) (sFor mi g mb) := (ps_for hp hc hi hg hb hfs).mimp fun D s H ⟨r, sm, h, hs, ss, w⟩ => by
  refine ⟨r, sm, h, hs, ss, (WtS.bind (rel := IR X.K X.mg) hs ss w).imp (fun _ _ _ z => z) fun J H1 ⟨r1, h1, it, p1, ir, w1⟩ => ?_⟩
  refine ⟨fun i m σ H' => ∃ r' sm' h', Post X.K X.mg r1 H1 r' h' H' ∧ SS X.K X.mg r' H' sm' σ ∧ WtS X.K X.mg W r' H' D (forM it g mb m i sm' h'), ⟨it.fuel h1, r1, sm, h1, Post.refl p1.hs, ss.post hs p1, w1⟩, ?_⟩
  rintro i m σ H' ⟨r', sm', h', p', ss', w'⟩
  obtain ⟨st, gs⟩ := ir r' h' H' i p'
  cases m with
  | zero =>
    rw [forM_zero] at w'
    split at w'
    · rename_i e
      exact .inl ⟨st e, WtS.nx p'.hs ss' w'⟩
    · exact w'.elim
  | succ m =>
    rw [forM_succ] at w'
    split at w'
    · rename_i e
      exact .inl ⟨st e, WtS.nx p'.hs ss' w'⟩
    · rename_i v e
      obtain ⟨go, yl⟩ := gs v e
      refine .inr ⟨go, fun σ2 H2 => ∃ r' sm' h', Post X.K X.mg r1 H1 r' h' H2 ∧ SS X.K X.mg r' H2 sm' σ2 ∧ WtS X.K X.mg W r' H2 D (forM it g mb m (i + 1) sm' h'), fun σ2 H2 z => ⟨m, Nat.lt_succ_self m, z⟩, fun x H2 y => ?_⟩
      obtain ⟨p2, q2⟩ := yl x H2 y
      refine ⟨r', sm', h', v, p2.hs, ss'.post p'.hs p2, q2, (WtS.goes (w'.post p2)).imp (fun _ _ _ z => z) fun s3 H3 ⟨r3, h3, sm3, p3, ss3, w3⟩ => ?_⟩
      refine ⟨r3, sm3, h3, p3.hs, ss3, ?_⟩
      have pp : Post X.K X.mg r1 H1 r3 h3 H3 := (p'.trans p2).trans p3
      cases e4 : mb sm3 h3 with
      | nx s4 h4 => rw [e4] at w3; exact fun r4 s5 H4 p4 q4 => ⟨r4, s4, h4, pp.trans p4, q4, w3.post p4⟩
      | ct s4 h4 => rw [e4] at w3; exact fun r4 s5 H4 p4 q4 => ⟨r4, s4, h4, pp.trans p4, q4, w3.post p4⟩
      | bk s4 h4 => rw [e4] at w3; exact w3
      | rt v4 h4 => rw [e4] at w3; exact w3
      | err x4 s4 h4 => rw [e4] at w3; exact w3
      | stuck => rw [e4] at w3; exact w3
    · exact w'.elim
theorem ms_while (hp : PassesOwn (model X.prog X.w) X.A X.env X.xe) (hc : PTm X W c mt) (hb : PSsm X W body mb) : PSm X W (.While c body [] pos) (sWhile mt mb) := (ps_while hp hc hb).mimp fun D s H ⟨r, sm, h, hs, ss, w⟩ => by
  refine ⟨fun m σ H' => ∃ r' sm' h', HS X.K X.mg r' h' H' ∧ SS X.K X.mg r' H' sm' σ ∧ WtS X.K X.mg W r' H' D (whileM mt mb m sm' h'), ⟨bigF, r, sm, h, hs, ss, w⟩, ?_⟩
  rintro m σ H' ⟨r', sm', h', hs', ss', w'⟩
  cases m with
  | zero => exact w'.elim
  | succ m =>
    rw [whileM_succ] at w'
    refine tMT_bindS hs' ss' w' fun r1 h1 v H1 hs1 ss1 p1 w1 => ?_
    cases v with
    | false => exact iteF (WtS.nx hs1 ss1 w1)
    | true =>
      refine iteT ⟨fun σ2 H2 => ∃ r' sm' h', HS X.K X.mg r' h' H2 ∧ SS X.K X.mg r' H2 sm' σ2 ∧ WtS X.K X.mg W r' H2 D (whileM mt mb m sm' h'), fun σ2 H2 z => ⟨m, Nat.lt_succ_self m, z⟩, r1, sm', h1, hs1, ss1, ?_⟩
      cases e4 : mb sm' h1 with
      | nx s4 h4 => simp only [e4] at w1; exact fun r4 s5 H4 p4 q4 => ⟨r4, s4, h4, p4.hs, q4, WtS.post p4 w1⟩
      | ct s4 h4 => simp only [e4] at w1; exact fun r4 s5 H4 p4 q4 => ⟨r4, s4, h4, p4.hs, q4, WtS.post p4 w1⟩
      | bk s4 h4 => simp only [e4] at w1; exact w1
      | rt v4 h4 => simp only [e4] at w1; exact w1
      | err x4 s4 h4 => simp only [e4] at w1; exact w1
      | stuck => simp only [e4] at w1; exact w1
/-! ### what may be walked -/
theorem ir_items {K : PySem.W.Frag} {mg : Str → Option Value} {r0 : List Addr} {h0 : MH} {H0 : Hp} {vs : List MV} {J : It} {n : Nat} {ys : Nat → Option V} (hs : HS K mg r0 h0 H0) (hn : vs.length = n)
    (hgo : ∀ (i : Nat) H, i < n → Kp K H0 H → J.go i H) (hst : ∀ (i : Nat) H, n ≤ i → Kp K H0 H → J.stop i H)
    (hy : ∀ (i : Nat) H x H' v, Kp K H0 H → J.yld i H x H' → vs[i]? = some v → H' = H ∧ Rep K mg r0 H0 v x) : IR K mg r0 H0 (.items vs) J := fun r h H i p => by
  refine ⟨fun e => hst i H ?_ (p.kp hs), fun v e => ?_⟩
  · have : vs[i]? = none := by simpa [MIt.at] using e
    rw [← hn]
    exact List.getElem?_eq_none_iff.mp this
  · have e' : vs[i]? = some v := by simpa [MIt.at] using e
    refine ⟨hgo i H (by rw [← hn]; exact (List.getElem?_eq_some_iff.mp e').1) (p.kp hs), fun x H' y => ?_⟩
    obtain ⟨rfl, q⟩ := hy i H x H' v (p.kp hs) y e'
    exact ⟨Post.refl p.hs, p.rep hs q⟩
def jSeq (a : ME) : MI := fun s h => (a s h).bind fun x h1 => match x with
  | .ref n => match lstAt h1 n with
    | some _ => .ok (.lst n) h1
    | none => .stuck
  | .tup xs => .ok (.items xs) h1
  | .str l => .ok (.items (l.map fun c => .str [c])) h1
  | .ro xs => .ok (.items xs) h1
  | .lv xs => .ok (.items xs) h1
  | _ => .stuck
theorem post_list {K : PySem.W.Frag} {mg : Str → Option Value} {r0 r : List Addr} {h : MH} {H0 H : Hp} {n : Nat} {p : Addr} {xs : List MV} (po : Post K mg r0 H0 r h H) (e : r0[n]? = some p) (l : lstAt h n = some xs) : ∃ ys, SqL K H p ys ∧ RepL K mg r H xs ys :=
  po.hs.list (po.ix _ _ e) l
theorem ir_lst {K : PySem.W.Frag} {mg : Str → Option Value} {r0 : List Addr} {H0 : Hp} {n : Nat} {p : Addr} (e : r0[n]? = some p) : IR K mg r0 H0 (.lst n) (Itl K p) := fun r h H i po => by
  refine ⟨fun q => ?_, fun v q => ?_⟩
  · simp only [MIt.at, Option.map_eq_some_iff] at q
    obtain ⟨xs, l, q⟩ := q
    obtain ⟨ys, sq, ql⟩ := post_list po e l
    exact ⟨ys, sq, by rw [← ql.length]; exact List.getElem?_eq_none_iff.mp q⟩
  · simp only [MIt.at, Option.map_eq_some_iff] at q
    obtain ⟨xs, l, q⟩ := q
    obtain ⟨ys, sq, ql⟩ := post_list po e l
    obtain ⟨y, e1, q1⟩ := ql.get q
    refine ⟨⟨ys, y, sq, e1⟩, fun x H' yl => ?_⟩
    obtain ⟨rfl, yl⟩ := yl
    have := yl ys sq
    rw [e1] at this
    cases this
    exact ⟨Post.refl po.hs, q1⟩
theorem mi_seq {ma : ME} (ha : PEm X W e ma) : PIm X W tg e (jSeq ma) := by
  refine ⟨fun pins s0 σ H Rr I hh => ?_⟩
  obtain ⟨r, sm, h, hs, ss, w⟩ := hh
  cases ea : ma sm h with
  | stuck => simp only [jSeq, ea, R.bind] at w; exact w.elim
  | err x h1 =>
    refine (pi_list ha).run pins s0 σ H Rr I ⟨r, sm, h, hs, ss, ?_⟩
    simp only [jSeq, ea, R.bind] at w
    rw [ea]
    exact w
  | ok v h1 =>
    simp only [jSeq, ea, R.bind] at w
    cases v with
    | ref n =>
      refine (pi_list ha).run pins s0 σ H Rr I ⟨r, sm, h, hs, ss, ?_⟩
      rw [ea]
      intro r1 H1 x p1 q1
      dsimp only at w
      split at w
      · rename_i xs l
        cases q1 with
        | ref en =>
          obtain ⟨ys, sq, ql⟩ := p1.hs.list en l
          exact ⟨_, rfl, ⟨ys, sq⟩, w r1 H1 _ p1 (ir_lst en)⟩
      · exact w.elim
    | tup xs =>
      refine (pi_tup ha).run pins s0 σ H Rr I ⟨r, sm, h, hs, ss, ?_⟩
      rw [ea]
      intro r1 H1 x p1 q1
      cases q1 with
      | tup sq ql =>
        rename_i a ys
        refine ⟨_, rfl, ⟨ys, sq⟩, w r1 H1 _ p1 (ir_items (n := ys.length) (ys := fun i => ys[i]?) p1.hs ql.length (fun i H' hi st => ⟨ys, ys[i], st.t _ _ sq, by simp [hi]⟩) (fun i H' hi st => ⟨ys, st.t _ _ sq, hi⟩) fun i H' x H2 v st yl e => ?_)⟩
        obtain ⟨rfl, yl⟩ := yl
        obtain ⟨y, e1, q2⟩ := ql.get e
        have := yl ys (st.t _ _ sq)
        rw [e1] at this
        cases this
        exact ⟨rfl, q2⟩
    | str l =>
      refine (pi_str ha).run pins s0 σ H Rr I ⟨r, sm, h, hs, ss, ?_⟩
      rw [ea]
      intro r1 H1 x p1 q1
      cases q1
      refine ⟨_, rfl, w r1 H1 _ p1 (ir_items (n := l.length) (ys := fun _ => none) p1.hs (by simp) (fun i H' hi st => (by simpa [S] using hi : i < (S l).cps.size)) (fun i H' hi st => (by simpa [S] using hi : (S l).cps.size ≤ i)) fun i H' x H2 v st yl e => ?_)⟩
      obtain ⟨rfl, c, e1, rfl⟩ := yl
      refine ⟨rfl, ?_⟩
      rw [List.getElem?_map] at e
      have e2 : l[i]? = some c := by simpa [S] using e1
      rw [e2] at e
      cases e
      exact .str [c]
    | ro xs =>
      refine (pi_list ha).run pins s0 σ H Rr I ⟨r, sm, h, hs, ss, ?_⟩
      rw [ea]
      intro r1 H1 x p1 q1
      cases q1 with
      | ro sq ql =>
        rename_i a ys
        refine ⟨_, rfl, ⟨ys, sq.sq⟩, w r1 H1 _ p1 (ir_items (n := ys.length) (ys := fun i => ys[i]?) p1.hs ql.length (fun i H' hi st => ⟨ys, ys[i], (st.l _ _ sq).sq, by simp [hi]⟩) (fun i H' hi st => ⟨ys, (st.l _ _ sq).sq, hi⟩) fun i H' x H2 v st yl e => ?_)⟩
        obtain ⟨rfl, yl⟩ := yl
        obtain ⟨y, e1, q2⟩ := ql.get e
        have := yl ys (st.l _ _ sq).sq
        rw [e1] at this
        cases this
        exact ⟨rfl, q2⟩
    | lv xs =>
      refine (pi_list ha).run pins s0 σ H Rr I ⟨r, sm, h, hs, ss, ?_⟩
      rw [ea]
      intro r1 H1 x p1 q1
      cases q1 with
      | lv sq ql =>
        rename_i a ys
        refine ⟨_, rfl, ⟨ys, sq.sq⟩, w r1 H1 _ p1 (ir_items (n := ys.length) (ys := fun i => ys[i]?) p1.hs ql.length (fun i H' hi st => ⟨ys, ys[i], (st.z _ _ sq).sq, by simp [hi]⟩) (fun i H' hi st => ⟨ys, (st.z _ _ sq).sq, hi⟩) fun i H' x H2 v st yl e => ?_)⟩
        obtain ⟨rfl, yl⟩ := yl
        obtain ⟨y, e1, q2⟩ := ql.get e
        have := yl ys (st.z _ _ sq).sq
        rw [e1] at this
        cases this
        exact ⟨rfl, q2⟩
    | _ => exact w.elim
def upTo (lo : Int) (n : Nat) : List MV := (List.range n).map fun (i : Nat) => .int (lo + (i : Int))
def jRng1 (a : MA) : MI := fun s h => (a s h).bind fun xs h1 => match xs with
  | [.int j] => if -(2 ^ 62) ≤ j ∧ j < 2 ^ 62 then .ok (.items (upTo 0 j.toNat)) h1 else .stuck
  | _ => .stuck
def jRng2 (a : MA) : MI := fun s h => (a s h).bind fun xs h1 => match xs with
  | [.int i, .int j] => if -(2 ^ 62) ≤ i ∧ i < 2 ^ 62 ∧ -(2 ^ 62) ≤ j ∧ j < 2 ^ 62 then .ok (.items (upTo i (j - i).toNat)) h1 else .stuck
  | _ => .stuck
theorem upTo_get {lo : Int} {n i : Nat} {v : MV} (h : (upTo lo n)[i]? = some v) : v = .int (lo + (i : Int)) := by
  unfold upTo at h
  rw [List.getElem?_map] at h
  cases e : (List.range n)[i]? with
  | none => rw [e] at h; cases h
  | some k =>
    rw [e] at h
    have : k = i := by
      have := List.getElem?_eq_some_iff.mp e
      obtain ⟨_, q⟩ := this
      simpa using q.symm
    subst this
    exact (Option.some.inj h).symm
theorem ir_rng {K : PySem.W.Frag} {mg : Str → Option Value} {r0 : List Addr} {h0 : MH} {H0 : Hp} {lo : Int} {n : Nat} (hs : HS K mg r0 h0 H0) : IR K mg r0 H0 (.items (upTo lo n)) (Itr lo n) :=
  ir_items (n := n) (ys := fun _ => none) hs (by simp [upTo]) (fun i H hi _ => hi) (fun i H hi _ => hi) fun i H x H' v _ yl e => by
    obtain ⟨rfl, rfl⟩ := yl
    rw [upTo_get e]
    exact ⟨rfl, .int _⟩
theorem mi_range1 {ms : MA} {p : Pos} (hg : Gl X "range") (hm : X.mg "range" = none) (ha : PAm X W [a] ms) (hst : starEach [a] X.env = [(false, eval a X.env)] := by rfl) : PIm X W tg (.Call (.Name "range" p) [a] [] pos) (jRng1 ms) := (pi_range1 hg hm ha hst).mimp fun s H Rr ⟨r, sm, h, hs, ss, w⟩ =>
  tMA_bind hs ss w fun r1 h1 vs xs H1 hs1 ss1 p1 q1 w1 => by
    split at w1
    · rename_i j
      split at w1
      · rename_i hl
        match xs, q1 with
        | [_], .cons q .nil => cases q; exact ⟨j, rfl, hl.1, hl.2, w1 r1 H1 _ (Post.refl hs1) (ir_rng hs1)⟩
      · exact w1.elim
    · exact w1.elim
theorem mi_range2 {ms : MA} {p : Pos} (hg : Gl X "range") (hm : X.mg "range" = none) (ha : PAm X W [a, b] ms) (hst : starEach [a, b] X.env = [(false, eval a X.env), (false, eval b X.env)] := by rfl) (hst2 : starEach [b] X.env = [(false, eval b X.env)] := by rfl) : PIm X W tg (.Call (.Name "range" p) [a, b] [] pos) (jRng2 ms) := (pi_range2 hg hm ha hst hst2).mimp fun s H Rr ⟨r, sm, h, hs, ss, w⟩ =>
  tMA_bind hs ss w fun r1 h1 vs xs H1 hs1 ss1 p1 q1 w1 => by
    split at w1
    · rename_i i j
      split at w1
      · rename_i hl
        match xs, q1 with
        | [_, _], .cons q (.cons q' .nil) => cases q; cases q'; exact ⟨i, j, rfl, hl, w1 r1 H1 _ (Post.refl hs1) (ir_rng hs1)⟩
      · exact w1.elim
    · exact w1.elim
end
end MP

/-! The promise of a def where no list or tuple is being written out (the stack's guards are none): what repr needs. -/
namespace MP
open PySem PySem.Spec PyProof.Rows L2
structure RoomG (k : Nat) (A : Around) : Prop extends Room k A where
  gd : A.guards = some []
theorem RoomG.mono {j k : Nat} {A : Around} (r : RoomG k A) (h : j ≤ k) : RoomG j A := ⟨r.toRoom.mono h, r.gd⟩
theorem RoomG.deeper {k : Nat} {A : Around} (r : RoomG (k + 1) A) (env : Env) : RoomG k (A.deeper env) := ⟨r.toRoom.deeper env, r.gd⟩
theorem RoomG.units {k : Nat} {A : Around} (r : RoomG k A) : A.units + 64 < cLine := r.toRoom.units
theorem noGuard_make (C : Addr) (us : List Value) (kw : List (Str × Value)) : (Code.builtin "type.__call__" ⟨.ref C :: us, kw⟩).isGuard = false := by
  show guardIds.contains "type.__call__" = false
  decide +kernel
theorem RoomG.make {k : Nat} {A : Around} (r : RoomG (k + 1) A) (C : Addr) (us : List Value) (kw : List (Str × Value)) : RoomG k (A.under (.builtin "type.__call__" ⟨.ref C :: us, kw⟩)) :=
  ⟨r.toRoom.make C us kw, by simp [Around.under, Code.guards, noGuard_make, pushGuards, r.gd]⟩
structure FnG (P : Program) (w : World) (K : PySem.W.Frag) (mg : Str → Option Value) (base : Heap) (C : CXT) (k : Nat) (f : Addr) (fd : FuncData) (ps : List Str) (sp : Sp) : Prop where
  len : ∀ vs H Q E, sp vs H Q E → vs.length = ps.length
  run : ∀ (A : Around) (outer : List Env) (s : Shared) (H : Hp) (args : Args) (us : List Value) (vs : List V) (Q : VK) (E : XK), RoomG k A → Env0 P w K mg base A outer s H → BindsTo s fd args (ps.zip us) → Vals vs us → sp vs H Q E → codeAny (model P w) A (.call (.ref f) args) (CR C outer P w H s Q E) s
section
variable {P : Program} {w : World} {K : PySem.W.Frag} {mg : Str → Option Value} {base : Heap} {C : CXT} {j k : Nat} {f : Addr} {fd : FuncData} {ps : List Str} {sp sp' : Sp}
theorem FnG.imp (F : FnG P w K mg base C k f fd ps sp) (h : ∀ vs H Q E, sp' vs H Q E → sp vs H Q E) : FnG P w K mg base C k f fd ps sp' :=
  ⟨fun vs H Q E q => F.len vs H Q E (h vs H Q E q), fun A outer s H args us vs Q E r e b v q => F.run A outer s H args us vs Q E r e b v (h vs H Q E q)⟩
theorem FnG.mono (F : FnG P w K mg base C j f fd ps sp) (h : j ≤ k) : FnG P w K mg base C k f fd ps sp := ⟨F.len, fun A outer s H args us vs Q E r => F.run A outer s H args us vs Q E (r.mono h)⟩
/-- a def whose body keeps its promise -/
theorem fnG_of {x qual : Str} {params : Arguments} {body : List Stmt} {scope : Scope} {dvs : List V} {kws : List (Str × V)} {N : List Str} (F : FunD K x qual params body scope dvs kws f fd) (sc : FnScope N ps scope) (len : ∀ vs H Q E, sp vs H Q E → vs.length = ps.length)
    (hb : ∀ (cdv : Value) (hcd : fd.code = cdv) (A : Around) (outer : List Env) (s : Shared) (H : Hp) (vs : List V) (Q : VK) (E : XK), RoomG k (A.deeper (envOfC qual scope s.heap.objs.size f cdv)) → sp vs H Q E →
      ∃ t, PSs (cxOf C P w K mg base N qual scope f cdv A outer s H E) body t ∧ t { nx := fun _ H' => Q .non H', rt := Q } (L2.start N vs) H) : FnG P w K mg base C (k + 1) f fd ps sp := by
  obtain ⟨oc, od, dV, kV, doc, pm, an, cdv, ct, osl, rfl, lk, hcd, _, _⟩ := F.ex
  refine ⟨len, fun A outer s H args us vs Q E hr e0 bd rv hsp => ?_⟩
  have keep : ∀ b o, base.get? b = some o → s.heap.get? b = some o := fun b o e => (e0.bs b o e).1
  have kin := e0.mod.kin.keeps keep
  refine codeAny_call_function hr.toRoom.depth (kin _ _ lk) rfl sc.co sc.gen rfl (PySem.W.codeRec_of kin hcd) (bd _ _ _ _ ?_)
  refine wpAny_newFunctionEnv_cells sc.kind (fun y hy => ?_) fun env he s1 x => ?_
  · obtain ⟨n, v⟩ := y
    cases sc.par n (List.of_mem_zip hy).1 with
    | inl q => exact .inl q
    | inr q => exact .inr ⟨q, PySem.W.cellsFrom_some _ _ _ (.inl q)⟩
  · subst he
    refine ⟨(e0.mod.nolimit.keeps keep).keeps x.toInCall.keep, codeAny_func ?_⟩
    obtain ⟨t, ht, hq⟩ := hb cdv rfl A outer s H vs Q E (hr.deeper _) hsp
    refine wpAny_mono (ht.run [] s1 _ H _ (inv_start sc hr.hd e0 (len _ _ _ _ hsp) rv x) hq) (fun fl s' z => ?_) fun _ _ z => z
    cases fl with
    | ret u => obtain ⟨v, σ', H', J, ru, q⟩ := z; exact ⟨v, H', J.os, J.bare, J.base, J.hok, ru, q⟩
    | next => obtain ⟨σ', H', J, q⟩ := z; exact ⟨V.non, H', J.os, J.bare, J.base, J.hok, rfl, q⟩
    | brk => exact z.elim fun _ z => z.elim fun _ z => z.2.elim
    | cont => exact z.elim fun _ z => z.elim fun _ z => z.2.elim
end
section
variable {X : Cx} {C : CXT} {k : Nat} {f : Addr} {fd : FuncData} {ps : List Str} {sp : Sp} {E : XK} {pins : List (Addr × Obj)} {σ : L2.St} {H : Hp} {s : Shared} {Q : VK} {us : List Value} {vs : List V}
theorem runG (F : FnG X.prog X.w X.K X.mg X.base C k f fd ps sp) (hr : RoomG k X.A) (hb : Binds X.K fd ps []) (hx : PassesAt C X σ E) (I : L2.Inv X pins σ H s) (r : Vals vs us) (h : sp vs H Q E) : wpAny (model X.prog X.w) X.A (call (.ref f) us) (EP X pins σ Q) X.xe s := by
  have bd := hb s us I.kIn (by rw [List.append_nil, ← r.length]; exact F.len _ _ _ _ h)
  rw [List.append_nil] at bd
  refine wpAny_call (codeAny_mono (F.run X.A X.stack s H ⟨us, []⟩ us vs Q E hr I.env0 bd r h) fun z s' q => ?_)
  cases z with
  | error e => exact hx pins H s e s' I q
  | ok fl => cases fl with
    | ret u => exact I.after q
    | _ => exact False.elim q
end
/-- what `tabs3` tells of the written part -/
theorem tabs3_mem {K : PySem.W.Frag} {p : Addr × Addr × Str} (h : p ∈ tabs3 K) : K.lookup p.2.1 = none ∧ PySem.W.codeHdIn K p.1 p.2.1 = true := by
  obtain ⟨z, _, e⟩ := List.mem_filterMap.mp h
  split at e
  · split at e
    · rename_i c
      cases e
      rw [Bool.and_eq_true, Option.isNone_iff_eq_none] at c
      exact c
    · cases e
  · cases e
abbrev tabO : Obj := { cls := .none, data := .fields #[] }
/-- the heap at the law's call: the tables, and the script if it is new -/
def hp0 (K : PySem.W.Frag) (a : Addr) (u : HO) : Hp := fun b => if b ∈ tabA K then some (.tbl #[]) else if b = a ∧ K.lookup a = none then some u else none
theorem hp0_cases (K : PySem.W.Frag) (a : Addr) (u : HO) (b : Addr) : hp0 K a u b = none ∨ (b ∈ tabA K ∧ hp0 K a u b = some (.tbl #[])) ∨ (b = a ∧ K.lookup a = none ∧ hp0 K a u b = some u) := by
  unfold hp0
  split
  · exact .inr (.inl ⟨‹_›, rfl⟩)
  · split
    · rename_i z; exact .inr (.inr ⟨z.1, z.2, rfl⟩)
    · exact .inl rfl
theorem hp0_tabs {K : PySem.W.Frag} {a : Addr} {u : HO} : LamX.Tabs (tabsK K) (hp0 K a u) := fun p hp => by
  obtain ⟨t, ht, rfl⟩ := List.mem_map.mp hp
  exact LamX.TabS.nil (if_pos (List.mem_map.mpr ⟨t, ht, rfl⟩))
/-- the module's builtins, as the making of a lambda looks for them -/
abbrev BMain (mg : Str → Option Value) (h : Heap) : Prop := ∃ (bm : Addr) (ob : Obj), mg "__builtins__" = some (.ref bm) ∧ bm ≠ builtinsNs ∧ h.get? bm = some ob ∧ ob.cls = .type "module" ∧ ob.dict = some builtinsNs ∧ ob.data = .plain
/-- all tables of the written part, as a lambda's maker wants them -/
abbrev TabsB (K : PySem.W.Frag) (mg : Str → Option Value) (base : Heap) : Prop := ∀ p ∈ tabs3 K, LamX.TabB base mg p.1 p.2.1
/-- the law's def is called on the script -/
theorem law_callG {P : Program} {w : World} {K : PySem.W.Frag} {mg mb : Str → Option Value} {C : CXT} {k : Nat} {fa a : Addr} {fd : FuncData} {x : Str} {sp : Sp} {s : Shared} {vs : List Value} {ns : List Int}
    (kin : K.In s.heap) (glob : s.heap.Ns mainGlobals mg) (blt : s.heap.Ns builtinsNs mb) (boot : ∀ x : Str, x ≠ "__name__" → mb x = bootBuiltins x) (lim : s.heap.NoLimit) (gens : s.gens = #[])
    (tE : ∀ b ∈ tabA K, s.heap.get? b = some tabO) (bmn : BMain mg s.heap)
    (ha : s.heap.get? a = some { cls := .type "list", data := .seq vs.toArray }) (hi : IntsAre vs ns) (hl : ns.length ≤ sizeLine) (hr : RoomG k callerA)
    (F : ∀ base : Heap, K.In base → base.Ns mainGlobals mg → TabsB K mg base → FnG P w K mg base C k fa fd [x] sp) (bind : ∀ (s : Shared) (u : Value), BindsTo s fd ⟨[u], []⟩ [(x, u)])
    (hsp : ∀ H : Hp, LamX.Tabs (tabsK K) H → RoL K H a (ns.map V.int) → sp [.ref a] H (fun v _ => v = .bl true) fun _ _ _ => False) (hC : ∀ H e s', C [] H s (fun _ _ _ => False) e s' → False) :
    codeAny (model P w) callerA (.call (.ref fa) ⟨[.ref a], []⟩) (fun r s' => r = .ok (.ret (.bool true)) ∧ OldK s.heap s'.heap ∧ s'.os = s.os ∧ AllBare s'.gens) s := by
  have rv := vals_ints hi
  obtain ⟨u, hu⟩ : ∃ u : HO, u = .frz { cls := .type "list", data := .seq vs.toArray } (.lst (ns.map V.int)) := ⟨_, rfl⟩
  have ro : RoL K (hp0 K a u) a (ns.map V.int) := by
    have na : a ∉ tabA K := fun z => by have q := tE a z; rw [ha] at q; cases q
    cases hk : K.lookup a with
    | some o =>
      have e := kin a o hk
      rw [ha] at e
      cases e
      exact .inr ⟨_, vs.toArray, _, hk, rfl, rfl, rfl, by rw [List.size_toArray, hi.length]; exact hl, by simpa using rv⟩
    | none => exact .inl ⟨_, by unfold hp0; rw [if_neg na, if_pos ⟨rfl, hk⟩, hu]⟩
  -- what is no list and no table is not tracked
  have free {b : Addr} {o : Obj} (e : s.heap.get? b = some o) (n1 : ∀ xs n, o.data ≠ .seq xs n) (n2 : o.data ≠ .fields #[]) : hp0 K a u b = none := by
    rcases hp0_cases K a u b with z | ⟨z, _⟩ | ⟨z, _⟩
    · exact z
    · rw [tE b z] at e; cases e; exact absurd rfl n2
    · rw [z, ha] at e; cases e; exact absurd rfl (n1 _ _)
  have ns' {b : Addr} {m : Str → Option Value} : s.heap.Ns b m → (hidT s.heap (hp0 K a u)).Ns b m := fun ⟨o, es, ep, e, d, r⟩ =>
    ⟨o, es, ep, hidT_get e (free e (fun _ _ z => by rw [d] at z; cases z) fun z => by rw [d] at z; cases z), d, r⟩
  have kin' : K.In (hidT s.heap (hp0 K a u)) := fun b o e => hidT_get (kin b o e) (by
    rcases hp0_cases K a u b with z | ⟨z, _⟩ | ⟨z, y, _⟩
    · exact z
    · obtain ⟨t, ht, rfl⟩ := List.mem_map.mp z; rw [(tabs3_mem ht).1] at e; cases e
    · rw [z, y] at e; cases e)
  have apart {b : Addr} (hb : b ∈ tabA K) {c : Addr} {o : Obj} (e : s.heap.get? c = some o) (n2 : o.data ≠ .fields #[]) : c ≠ b := fun z => by
    rw [z, tE b hb] at e; cases e; exact n2 rfl
  have tabs : TabsB K mg (hidT s.heap (hp0 K a u)) := fun p hp => by
    have hb : p.2.1 ∈ tabA K := List.mem_map.mpr ⟨p, hp, rfl⟩
    obtain ⟨bm, ob, b1, b2, b3, b4, b5, b6⟩ := bmn
    obtain ⟨og, es, ep, eg, dg, _⟩ := id glob
    have nd : ob.data ≠ .fields #[] := fun z => by rw [b6] at z; cases z
    refine ⟨PySem.W.codeHd_of_K kin' (tabs3_mem hp).2, ⟨bm, ob, b1, b2, fun z => ?_, apart hb b3 nd, hidT_get b3 (free b3 (fun _ _ z => by rw [b6] at z; cases z) nd), b4, b5, b6⟩, apart hb eg fun z => by rw [dg] at z; cases z⟩
    rw [z, eg] at b3
    cases b3
    rw [dg] at b6
    cases b6
  have ok : HOk P w (hp0 K a u) s.heap := fun b v e => by
    rcases hp0_cases K a u b with z | ⟨z, y⟩ | ⟨z, _, y⟩
    · rw [z] at e; cases e
    · rw [y] at e; cases e; exact tE b z
    · rw [y, hu] at e; cases e; rw [z]; exact ⟨ha, by rw [List.length_map]; exact hl, vs, _, rv, ha⟩
  obtain ⟨mc, l1, l2⟩ := lim
  have e0 : Env0 P w K mg (hidT s.heap (hp0 K a u)) callerA [] s (hp0 K a u) := ⟨rfl, ⟨kin', ns' glob, ⟨mb, ns' blt, boot⟩, ⟨mc, ns' l1, l2⟩⟩, fun b o e => of_hidT e, Nat.le_of_eq (hidT_size _ _), trivial, (fun b hb => nomatch (show b ∈ ([] : List Addr) from hb)), ok, .of_eq gens⟩
  refine codeAny_mono ((F _ kin' (ns' glob) tabs).run callerA [] s _ ⟨[.ref a], []⟩ [.ref a] [.ref a] _ _ hr e0 (bind s (.ref a)) (.cons rfl .nil) (hsp _ hp0_tabs ro)) fun r s' z => ?_
  rcases r with e | fl
  · exact (hC _ e s' z).elim
  cases fl
  case ret v =>
    obtain ⟨_, H', os, bare, un, ok', rv', rfl⟩ := z
    cases (show v = Value.bool true from rv')
    have was (b : Addr) (o : Obj) (e : s.heap.get? b = some o) : s'.heap.get? b = some o ∨ (b ∈ tabA K ∧ o = tabO ∧ ∃ more, s'.heap.get? b = some { cls := .none, data := .fields more }) := by
      rcases hp0_cases K a u b with z | ⟨z, y⟩ | ⟨z, _, y⟩
      · exact .inl (un.keep b o e z (fun m => nomatch (show b ∈ ([] : List Addr) from m)) (fun m => nomatch m))
      · obtain ⟨more, q⟩ := un.tbls b #[] y
        rw [tE b z] at e
        cases e
        exact .inr ⟨z, rfl, _, ok' b _ q⟩
      · rw [z, ha] at e
        cases e
        rw [z] at y ⊢
        exact .inl (ok' a _ (un.frzs a _ _ (y.trans (congrArg some hu)))).1
    refine ⟨rfl, ⟨fun b o e => ?_, fun b o e => ?_⟩, os, bare⟩
    · rcases was b o e with q | ⟨hb, rfl, more, q⟩
      · exact .inl q
      · obtain ⟨t, ht, rfl⟩ := List.mem_map.mp hb
        exact .inr (.inl ⟨((PySem.W.codeHd_of_K kin (tabs3_mem ht).2).tab (tE _ hb)).isCodeTable, rfl, #[], more, rfl, by rw [Array.empty_append]; exact q⟩)
    · rcases was b o e with q | ⟨_, _, _, q⟩
      · exact ⟨_, q⟩
      · exact ⟨_, q⟩
  all_goals exact z.elim
end MP

namespace MP
open PySem PySem.Spec PyProof.Rows L2

/-! ### defs -/
def runFn (n : Nat) (b : MS) (as : List MV) (h : MH) : R MV := match b (as.map some ++ List.replicate (n - as.length) none) h with
  | .rt v h' => .ok v h'
  | .nx _ h' => .ok .non h'
  | .err e _ h' => .err e h'
  | _ => .stuck
abbrev MF := List MV → MH → R MV
def spM (K : PySem.W.Frag) (mg : Str → Option Value) (np : Nat) (m : MF) : Sp := fun vs H Q E => vs.length = np ∧ ∃ r h as, HS K mg r h H ∧ RepL K mg r H as vs ∧ Wt K mg (Rep K mg) r H E Q (m as h)
abbrev FnM (P : Program) (w : World) (K : PySem.W.Frag) (mg : Str → Option Value) (base : Heap) (k : Nat) (f : Addr) (fd : FuncData) (ps : List Str) (m : MF) : Prop := FnG P w K mg base (L2.CX P w) k f fd ps (spM K mg ps.length m)
/-- what an exception that leaves a def is wanted for -/
abbrev WF (E : XK) : WX := fun cls d _ H => E cls d H
section
variable {P : Program} {w : World} {K : PySem.W.Frag} {mg : Str → Option Value} {base : Heap}
theorem SS.start {r : List Addr} {H : Hp} {N : List Str} {as : List MV} {vs : List V} (q : RepL K mg r H as vs) : SS K mg r H (as.map some ++ List.replicate (N.length - as.length) none) (L2.start N vs) := by
  have hl := q.length
  refine ⟨by simp [L2.start, hl], fun i v e => ?_⟩
  by_cases hi : i < as.length
  · rw [List.getElem?_append_left (by simpa using hi), List.getElem?_map] at e
    cases e1 : as[i]? with
    | none => rw [e1] at e; cases e
    | some u =>
      rw [e1] at e
      cases e
      obtain ⟨x, e2, q2⟩ := q.get e1
      refine ⟨x, ?_, q2⟩
      unfold L2.start
      rw [List.getElem?_append_left (by simpa [← hl] using hi), List.getElem?_map, e2]
      rfl
  · rw [List.getElem?_append_right (by simpa using hi)] at e
    have := List.mem_of_getElem? e
    have := (List.mem_replicate.mp this).2
    cases this
end
/-- the def of the module's name x -/
structure Fn (P : Program) (w : World) (K : PySem.W.Frag) (mg : Str → Option Value) (base : Heap) (x : Str) (k np : Nat) (m : MF) : Prop where
  ex : ∃ f fd ps, ps.length = np ∧ FnM P w K mg base k f fd ps m ∧ mg x = some (.ref f) ∧ PySem.W.keepIn K (.ref f) = true ∧ Binds K fd ps []
/-- the method x of the class of the module's name c -/
structure Mt (P : Program) (w : World) (K : PySem.W.Frag) (mg : Str → Option Value) (base : Heap) (c x : Str) (k np : Nat) (m : MF) : Prop where
  ex : ∃ C f fd ps, ps.length = np ∧ FnM P w K mg base k f fd ps m ∧ mg c = some (.ref C) ∧ Cls K C ∧ Meth K C x f ∧ Binds K fd ps []
/-- the class of the module's name c, made by its __init__ -/
structure Mkr (P : Program) (w : World) (K : PySem.W.Frag) (mg : Str → Option Value) (base : Heap) (c : Str) (k np : Nat) (m : MF) : Prop where
  ex : ∃ C f fd ps, ps.length = np ∧ FnM P w K mg base k f fd ps m ∧ mg c = some (.ref C) ∧ Mk K C f ∧ Binds K fd ps []
def eCall (np : Nat) (m : MF) (a : MA) : ME := fun s h => (a s h).bind fun xs h1 => if xs.length = np then m xs h1 else .stuck
def noF (f : CP) : List (CP × MV) → Bool
  | [] => true
  | p :: r => p.1 != f && noF f r
def eMeth (c x : CP) (np : Nat) (m : MF) (o : ME) (a : MA) : ME := fun s h => (o s h).bind fun y h1 => match y with
  | .ref n => match h1[n]? with
    | some (.ins c' fs) => if c' == c && noF x fs then (a s h1).bind fun xs h2 => if xs.length + 1 = np then m (.ref n :: xs) h2 else .stuck else .stuck
    | _ => .stuck
  | _ => .stuck
def eMake (c : CP) (np : Nat) (m : MF) (a : MA) : ME := fun s h => (a s h).bind fun xs h1 => if xs.length + 1 = np then (m (.ref h1.length :: xs) (h1 ++ [.ins c []])).bind fun v h2 => (match v with
    | .non => .ok (.ref h1.length) h2
    | _ => .stuck) else .stuck
theorem RepF.noF {K : PySem.W.Frag} {mg : Str → Option Value} {r : List Addr} {H : Hp} {x : CP} : ∀ {fs : List (CP × MV)} {ys : List (Str × V)}, RepF K mg r H fs ys → noF x fs = true → ys.lookup (S x) = none
  | _, _, .nil, _ => rfl
  | _, _, .cons (a := p) (b := q) e t, h => by
    simp only [MP.noF, Bool.and_eq_true, bne_iff_ne, ne_eq] at h
    obtain ⟨y, z⟩ := q
    have e1 : y = S p.1 := e.1
    have hne : (S x == y) = false := by
      rw [beq_eq_false_iff_ne, e1]
      exact fun z => h.1 (S_inj z).symm
    rw [List.lookup_cons, hne]
    exact RepF.noF t h.2
section
variable {X : Cx} {W : WX} {e o : Expr} {es : List Expr} {mo : ME} {ms : MA} {k j np : Nat} {m : MF} {x c : Str} {p pos apos : Pos}
/-- no star among the arguments -/
abbrev PlainArgs (X : Cx) (e : Expr) (es : List Expr) (pos : Pos) : Prop := starEach (e :: es) X.env = (false, eval e X.env) :: starEach es X.env ∧ (backTo pos (starEach es X.env)).any Prod.fst = false
/-- how the call of a method is read: the object, its method, then the arguments -/
abbrev ReadsM (X : Cx) (o : Expr) (x : Str) (as : List Expr) (apos pos : Pos) (pl : Sem Bool) : Prop :=
  eval (.Call (.Attribute o x apos) as [] pos) X.env = (eval o X.env >>= fun ov => standAt apos.atName >>= fun _ => holding [ov] (getMethod ov x pl) >>= fun mf =>
    callWith pos mf.1 mf.2 (backTo pos (starEach as X.env)) (backToKw pos (keywordEach [] X.env)))
/-- a call by a global name that does not hide __debug__ -/
theorem by_name {pins : List (Addr × Obj)} {σ : L2.St} {H : Hp} {s : Shared} {Q : Value → Shared → Prop} {as : List Expr} {f : Addr} (I : L2.Inv X pins σ H s) (hg : Gl X x) (hm : X.mg x = some (.ref f)) (hdb : (x == ("__debug__" : Str)) = false)
    (h : wpAny (model X.prog X.w) X.A (callWith pos (.ref f) [] (backTo pos (starEach as X.env)) (backToKw pos (keywordEach [] X.env))) Q X.xe s) : wpAny (model X.prog X.w) X.A (eval (.Call (.Name x p) as [] pos) X.env) Q X.xe s := wpAny_Call_Name_kw (ld_glob I hg hm h hdb)
theorem me_call (F : Fn X.prog X.w X.K X.mg X.base x j np m) (tk : Takes X W) (hr : RoomG k X.A) (hg : Gl X x) (ha : PAm X W (e :: es) ms) (hjk : j ≤ k := by decide) (hdb : (x == ("__debug__" : Str)) = false := by decide)
    (he : starEach (e :: es) X.env = (false, eval e X.env) :: starEach es X.env := by rfl) (hpl : (backTo pos (starEach es X.env)).any (·.1) = false := by rfl) : PEm X W (.Call (.Name x p) (e :: es) [] pos) (eCall np m ms) := by
  obtain ⟨f, fd, ps, hn, F, hm, hk, hb⟩ := F.ex
  refine ⟨fun pins s σ H Q I hh => ?_⟩
  obtain ⟨r, sm, h, hs, ss, w⟩ := hh
  refine by_name I hg hm hdb ?_
  refine PySem.W.callWith_K (h₀ := X.base) I.ok.mod.kin hk (thn (ha.run pos pins s σ H _ I (tMA_bind (Q' := fun vs H2 => spM X.K X.mg ps.length m vs H2 Q (WE W σ)) hs ss w fun r1 h1 vs xs H1 hs1 ss1 p1 q1 w1 => ?_)) fun us s1 ⟨vs, H1, I1, rr, q⟩ => ⟨I1.kIn, ?_⟩) he hpl
  · split at w1
    · rename_i hl
      exact ⟨by rw [← q1.length, hl, hn], r1, h1, vs, hs1, q1, w1⟩
    · exact w1.elim
  · exact runG F (hr.mono hjk) hb (passAt tk σ) I1 rr q
theorem me_call0 (F : Fn X.prog X.w X.K X.mg X.base x j np m) (tk : Takes X W) (hr : RoomG k X.A) (hg : Gl X x) (hjk : j ≤ k := by decide) (hdb : (x == ("__debug__" : Str)) = false := by decide) : PEm X W (.Call (.Name x p) [] [] pos) (eCall np m aNil) := by
  obtain ⟨f, fd, ps, hn, F, hm, hk, hb⟩ := F.ex
  refine ⟨fun pins s σ H Q I hh => ?_⟩
  obtain ⟨r, sm, h, hs, ss, w⟩ := hh
  refine by_name I hg hm hdb ?_
  refine PySem.W.callWith_K0 I.kIn hk (runG (us := []) (vs := []) F (hr.mono hjk) hb (passAt tk σ) I .nil ?_)
  have w1 : Wt X.K X.mg (Rep X.K X.mg) r H (fun c d H' => W c d σ H') Q (if ([] : List MV).length = np then m [] h else .stuck) := w
  split at w1
  · rename_i hl
    exact ⟨hl.trans hn.symm, r, h, [], hs, .nil, w1⟩
  · exact w1.elim
theorem ins_of {r : List Addr} {h : MH} {H : Hp} {n : Nat} {a : Addr} {c : CP} {fs : List (CP × MV)} (hs : HS X.K X.mg r h H) (e : r[n]? = some a) (ho : h[n]? = some (.ins c fs)) {C : Addr} (hC : X.mg (S c) = some (.ref C)) :
    ∃ dx ys, H a = some (.ins C dx ys) ∧ RepF X.K X.mg r H fs ys := by
  obtain ⟨C', dx, ys, m, e1, q⟩ := hs.lookup e ho
  rw [hC] at m
  cases m
  exact ⟨dx, ys, e1, q⟩
theorem me_meth {cc xx : CP} {pl : Sem Bool} (F : Mt X.prog X.w X.K X.mg X.base (S cc) (S xx) j np m) (tk : Takes X W) (hr : RoomG k X.A) (ho : PEm X W o mo) (ha : PAm X W (e :: es) ms) (hxx : x = S xx := by decide +kernel) (hjk : j ≤ k := by decide)
    (pn : PlainArgs X e es pos := by exact ⟨rfl, rfl⟩) (ht : ReadsM X o x (e :: es) apos pos pl := by rfl) :
    PEm X W (.Call (.Attribute o x apos) (e :: es) [] pos) (eMeth cc xx np m mo ms) := by
  subst hxx
  obtain ⟨C, f, fd, ps, hn, F, hm, hc, hme, hb⟩ := F.ex
  refine ⟨fun pins s σ H Q I hh => ?_⟩
  obtain ⟨r, sm, h, hs, ss, w⟩ := hh
  refine PySem.W.methodCall_KW (pl := pl) (thn (ho.run pins s σ H _ I (tM_bind (Q' := fun y H1 => ∃ a dx fs r1 h1 n, y = V.ref a ∧ H1 a = some (.ins C dx fs) ∧ fs.lookup (S xx) = none ∧ HS X.K X.mg r1 h1 H1 ∧ SS X.K X.mg r1 H1 sm σ ∧ Rep X.K X.mg r1 H1 (.ref n) (.ref a) ∧
      Wt X.K X.mg (Rep X.K X.mg) r1 H1 (fun c d H' => W c d σ H') Q ((ms sm h1).bind fun xs h2 => if xs.length + 1 = np then m (.ref n :: xs) h2 else .stuck)) hs ss w fun r1 h1 v y H1 hs1 ss1 p1 q1 w1 => ?_)) fun u s1 ⟨y, H1, I1, rx, a, dx, fs, r1, h1, n, ey, ea, l, hs1, ss1, q1, w1⟩ => ?_) ht
  · split at w1
    · rename_i n
      cases q1 with
      | ref en =>
        split at w1
        · rename_i c' fs ho
          split at w1
          · rename_i hcc
            rw [Bool.and_eq_true, beq_iff_eq] at hcc
            obtain ⟨rfl, hnf⟩ := hcc
            obtain ⟨dx, ys, e1, q⟩ := ins_of hs1 en ho hm
            exact ⟨_, dx, ys, r1, h1, n, rfl, e1, q.noF hnf, hs1, ss1, .ref en, w1⟩
          · exact w1.elim
        · exact w1.elim
    · exact w1.elim
  · subst ey
    cases (rx : u = Value.ref a)
    refine getmeth_ok I1 ea hc hme l ?_
    refine PySem.W.callWith_K (first := [.ref a]) (h₀ := X.base) I.ok.mod.kin hme.kp (thn (ha.run pos pins s1 σ H1 _ I1 (tMA_bind (Q' := fun vs H2 => spM X.K X.mg ps.length m (.ref a :: vs) H2 Q (WE W σ)) hs1 ss1 w1 fun r2 h2 vs xs H2 hs2 ss2 p2 q2 w2 => ?_)) fun us s2 ⟨vs, H2, I2, rr, q2⟩ => ⟨I2.kIn, ?_⟩) pn.1 pn.2
    · split at w2
      · rename_i hl
        refine ⟨?_, r2, h2, .ref n :: vs, hs2, .cons (p2.rep hs1 q1) q2, w2⟩
        rw [List.length_cons, ← q2.length, hl, hn]
      · exact w2.elim
    · exact runG (us := .ref a :: us) (vs := .ref a :: vs) F (hr.mono hjk) hb (passAt tk σ) I2 (.cons rfl rr) q2
theorem me_meth0 {cc xx : CP} {pl : Sem Bool} (F : Mt X.prog X.w X.K X.mg X.base (S cc) (S xx) j np m) (tk : Takes X W) (hr : RoomG k X.A) (ho : PEm X W o mo) (hxx : x = S xx := by decide +kernel) (hjk : j ≤ k := by decide)
    (ht : ReadsM X o x [] apos pos pl := by rfl) :
    PEm X W (.Call (.Attribute o x apos) [] [] pos) (eMeth cc xx np m mo aNil) := by
  subst hxx
  obtain ⟨C, f, fd, ps, hn, F, hm, hc, hme, hb⟩ := F.ex
  refine ⟨fun pins s σ H Q I hh => ?_⟩
  obtain ⟨r, sm, h, hs, ss, w⟩ := hh
  refine PySem.W.methodCall_KW (pl := pl) (thn (ho.run pins s σ H _ I (tM_bind (Q' := fun y H1 => ∃ a dx fs, y = V.ref a ∧ H1 a = some (.ins C dx fs) ∧ fs.lookup (S xx) = none ∧ spM X.K X.mg ps.length m [.ref a] H1 Q (WE W σ)) hs ss w fun r1 h1 v y H1 hs1 ss1 p1 q1 w1 => ?_)) fun u s1 ⟨y, H1, I1, rx, a, dx, fs, ey, ea, l, q1⟩ => ?_) ht
  · split at w1
    · rename_i n
      cases q1 with
      | ref en =>
        split at w1
        · rename_i c' fs ho
          split at w1
          · rename_i hcc
            rw [Bool.and_eq_true, beq_iff_eq] at hcc
            obtain ⟨rfl, hnf⟩ := hcc
            obtain ⟨dx, ys, e1, q⟩ := ins_of hs1 en ho hm
            have w2 : Wt X.K X.mg (Rep X.K X.mg) r1 H1 (fun c d H' => W c d σ H') Q (if ([] : List MV).length + 1 = np then m (.ref n :: []) h1 else .stuck) := w1
            split at w2
            · rename_i hl
              exact ⟨_, dx, ys, rfl, e1, q.noF hnf, by rw [hn]; exact hl, r1, h1, [.ref n], hs1, .cons (.ref en) .nil, w2⟩
            · exact w2.elim
          · exact w1.elim
        · exact w1.elim
    · exact w1.elim
  · subst ey
    cases (rx : u = Value.ref a)
    refine getmeth_ok I1 ea hc hme l ?_
    exact PySem.W.callWith_K0 (first := [.ref a]) I1.kIn hme.kp (runG (us := [.ref a]) (vs := [.ref a]) F (hr.mono hjk) hb (passAt tk σ) I1 (.cons rfl .nil) q1)
theorem new_ins {r : List Addr} {h : MH} {H : Hp} {a dx C : Addr} {cc : CP} (hs : HS X.K X.mg r h H) (ha : H a = none) (hd : H dx = none) (hne : dx ≠ a) (hC : X.mg (S cc) = some (.ref C)) :
    Post X.K X.mg r H (r ++ [a]) (h ++ [.ins cc []]) (upd (upd H dx (.own a)) a (.ins C dx [])) := by
  have p1 := hs.extra (u := .own a) hd
  have ha' : upd H dx (.own a) a = none := by rw [upd_ne hne.symm]; exact ha
  exact p1.trans (p1.hs.new ha' ⟨C, dx, [], hC, rfl, .nil⟩)
theorem run_makeS {pins : List (Addr × Obj)} {σ : L2.St} {H : Hp} {s : Shared} {Q : VK} {us : List Value} {vs : List V} {C f : Addr} {fd : FuncData} {ps : List Str} {sp : Sp} {E : XK} {CX : CXT} (M : Mk X.K C f) (F : FnG X.prog X.w X.K X.mg X.base CX k f fd ps sp) (hr : RoomG (k + 1) X.A) (hb : Binds X.K fd ps [])
    (hx : PassesAt CX X σ E) (I : L2.Inv X pins σ H s) (r : Vals vs us)
    (h : ∀ x dx, H x = none → H dx = none → dx ≠ x → sp (.ref x :: vs) (upd (upd H dx (.own x)) x (.ins C dx [])) (fun v H2 => v = .non ∧ Q (.ref x) H2) E) : wpAny (model X.prog X.w) X.A (call (.ref C) us) (EP X pins σ Q) X.xe s := by
  have q := h _ _ (I.hok.fresh (Nat.le_succ s.heap.objs.size)) I.fresh (Nat.succ_ne_self _).symm
  have J := L2.Inv.made (C := C) I
  have rr : Vals (.ref (s.heap.objs.size + 1) :: vs) (.ref (s.heap.objs.size + 1) :: us) := .cons rfl r
  have bd := hb _ (.ref (s.heap.objs.size + 1) :: us) J.kIn (by rw [List.append_nil, ← rr.length]; exact F.len _ _ _ _ q)
  rw [List.append_nil] at bd
  apply wpAny_call
  apply make_map I.kIn M.makes M.init (beq_iff_eq.mp M.fn)
  refine codeAny_mono (F.run _ X.stack _ _ _ _ _ _ E (hr.make C us []) (J.env0.make C us []) bd rr q) ?_
  rintro (e | fl) s' z
  · exact hx pins _ _ e s' J z
  · cases fl
    case ret u =>
      obtain ⟨_, H3, J3, rv, rfl, q3⟩ := J.after z
      exact ⟨rv, .ref _, H3, J3, rfl, q3⟩
    all_goals exact z.elim
theorem make_sp {cc : CP} {C : Addr} {ps : List Str} {r : List Addr} {h : MH} {H : Hp} {vs : List MV} {xs : List V} {Q : VK} {E : XK} (hn : ps.length = np) (hC : X.mg (S cc) = some (.ref C)) (hs : HS X.K X.mg r h H) (q : RepL X.K X.mg r H vs xs)
    (w : Wt X.K X.mg (Rep X.K X.mg) r H E Q (if vs.length + 1 = np then (m (.ref h.length :: vs) (h ++ [.ins cc []])).bind fun v h2 => (match v with
      | .non => .ok (.ref h.length) h2
      | _ => .stuck) else .stuck)) :
    ∀ x dx, H x = none → H dx = none → dx ≠ x → spM X.K X.mg ps.length m (.ref x :: xs) (upd (upd H dx (.own x)) x (.ins C dx [])) (fun v H2 => v = .non ∧ Q (.ref x) H2) E := fun x dx hx hdx hne => by
  split at w
  · rename_i hl
    have po := new_ins (cc := cc) hs hx hdx hne hC
    have ix : (r ++ [x])[h.length]? = some x := by rw [← hs.len]; simp
    refine ⟨by rw [List.length_cons, ← q.length, hl, hn], _, _, .ref h.length :: vs, po.hs, .cons (.ref ix) (po.repL hs q), ?_⟩
    refine (Wt.bind (rel := Rep X.K X.mg) (w.post po)).imp (fun _ _ _ z => z) fun y H1 ⟨r1, h1, v, p1, q1, w1⟩ => ?_
    cases v with
    | non => cases q1; exact ⟨rfl, w1 r1 H1 _ (Post.refl p1.hs) (.ref (p1.ix _ _ ix))⟩
    | _ => exact w1.elim
  · exact w.elim
theorem me_make {cc : CP} (F : Mkr X.prog X.w X.K X.mg X.base (S cc) j np m) (tk : Takes X W) (hr : RoomG k X.A) (hg : Gl X x) (ha : PAm X W (e :: es) ms) (hxx : x = S cc := by decide +kernel) (hjk : j + 1 ≤ k := by decide) (hdb : (x == ("__debug__" : Str)) = false := by decide)
    (he : starEach (e :: es) X.env = (false, eval e X.env) :: starEach es X.env := by rfl) (hpl : (backTo pos (starEach es X.env)).any (·.1) = false := by rfl) : PEm X W (.Call (.Name x p) (e :: es) [] pos) (eMake cc np m ms) := by
  subst hxx
  obtain ⟨C, f, fd, ps, hn, F, hm, M, hb⟩ := F.ex
  refine ⟨fun pins s σ H Q I hh => ?_⟩
  obtain ⟨r, sm, h, hs, ss, w⟩ := hh
  refine by_name I hg hm hdb ?_
  refine PySem.W.callWith_K (h₀ := X.base) I.ok.mod.kin M.kp (thn (ha.run pos pins s σ H _ I (tMA_bind (Q' := fun vs H2 => ∀ x dx, H2 x = none → H2 dx = none → dx ≠ x → spM X.K X.mg ps.length m (.ref x :: vs) (upd (upd H2 dx (.own x)) x (.ins C dx [])) (fun v H3 => v = .non ∧ Q (.ref x) H3) (WE W σ)) hs ss w fun r2 h2 vs xs H2 hs2 ss2 p2 q2 w2 => ?_)) fun us s1 ⟨vs, H1, I1, rr, q⟩ => ⟨I1.kIn, ?_⟩) he hpl
  · exact make_sp hn hm hs2 q2 w2
  · exact run_makeS M F (hr.mono hjk) hb (passAt tk σ) I1 rr q
theorem me_make0 {cc : CP} (F : Mkr X.prog X.w X.K X.mg X.base (S cc) j np m) (tk : Takes X W) (hr : RoomG k X.A) (hg : Gl X x) (hxx : x = S cc := by decide +kernel) (hjk : j + 1 ≤ k := by decide) (hdb : (x == ("__debug__" : Str)) = false := by decide) : PEm X W (.Call (.Name x p) [] [] pos) (eMake cc np m aNil) := by
  subst hxx
  obtain ⟨C, f, fd, ps, hn, F, hm, M, hb⟩ := F.ex
  refine ⟨fun pins s σ H Q I hh => ?_⟩
  obtain ⟨r, sm, h, hs, ss, w⟩ := hh
  refine by_name I hg hm hdb ?_
  exact PySem.W.callWith_K0 I.kIn M.kp (run_makeS (us := []) (vs := []) M F (hr.mono hjk) hb (passAt tk σ) I .nil (make_sp hn hm hs .nil w))
/-! ### attributes -/
/-- instances of the classes cs may have the attribute f -/
def HasF (X : Cx) (cs : List CP) (f : Str) : Prop := ∀ c ∈ cs, ∃ C, X.mg (S c) = some (.ref C) ∧ Cls X.K C ∧ NoAttr X.K C f
def getF (f : CP) : List (CP × MV) → Option MV
  | [] => none
  | p :: r => if f == p.1 then some p.2 else getF f r
def setF (f : CP) (v : MV) : List (CP × MV) → List (CP × MV)
  | [] => [(f, v)]
  | p :: r => if p.1 == f then (f, v) :: r else p :: setF f v r
def eFld (cs : List CP) (f : CP) (o : ME) : ME := fun s h => (o s h).bind fun y h1 => match y with
  | .ref n => match h1[n]? with
    | some (.ins c fs) => if cs.contains c then (match getF f fs with
      | some v => .ok v h1
      | none => .stuck) else .stuck
    | _ => .stuck
  | _ => .stuck
theorem RepF.get {K : PySem.W.Frag} {mg : Str → Option Value} {r : List Addr} {H : Hp} {f : CP} {v : MV} : ∀ {fs : List (CP × MV)} {ys : List (Str × V)}, RepF K mg r H fs ys → getF f fs = some v → ∃ x, ys.lookup (S f) = some x ∧ Rep K mg r H v x
  | _, _, .nil, h => by cases h
  | _, _, .cons (a := p) (b := q) e t, h => by
    obtain ⟨y, z⟩ := q
    have e1 : y = S p.1 := e.1
    simp only [getF] at h
    split at h
    · rename_i hf
      rw [beq_iff_eq] at hf
      cases h
      refine ⟨z, ?_, e.2⟩
      rw [List.lookup_cons, e1, hf]
      simp
    · rename_i hf
      obtain ⟨w, e2, q2⟩ := RepF.get t h
      refine ⟨w, ?_, q2⟩
      have hne : (S f == y) = false := by
        rw [beq_eq_false_iff_ne, e1]
        exact fun z => hf (by rw [S_inj z]; exact beq_self_eq_true _)
      rw [List.lookup_cons, hne]
      exact e2
theorem RepF.set {K : PySem.W.Frag} {mg : Str → Option Value} {r : List Addr} {H : Hp} {f : CP} {v : MV} {x : V} (q : Rep K mg r H v x) : ∀ {fs : List (CP × MV)} {ys : List (Str × V)}, RepF K mg r H fs ys → RepF K mg r H (setF f v fs) (putF (S f) x ys)
  | _, _, .nil => .cons ⟨rfl, q⟩ .nil
  | _, _, .cons (a := p) (b := y) e t => by
    obtain ⟨y, z⟩ := y
    have e1 : y = S p.1 := e.1
    simp only [setF, putF]
    by_cases hf : p.1 = f
    · rw [if_pos (by rw [hf]; exact beq_self_eq_true _), if_pos (by rw [e1, hf])]
      exact .cons ⟨by first | rfl | (show y = S f; rw [e1, hf]), q⟩ t
    · rw [if_neg (by rw [beq_iff_eq]; exact hf), if_neg (by rw [e1]; exact fun z => hf (S_inj z))]
      exact .cons e (RepF.set q t)
theorem me_fld {cs : List CP} {f : CP} (hc : HasF X cs x) (ho : PEm X W o mo) (hxx : x = S f := by decide +kernel) (hb : attributeBase o x X.env (eval o X.env) = eval o X.env := by rfl) : PEm X W (.Attribute o x pos) (eFld cs f mo) := (pe_fld ho hb).mimp fun s H Q ⟨r, sm, h, hs, ss, w⟩ =>
  tM_bind hs ss w fun r1 h1 v y H1 hs1 ss1 p1 q1 w1 => by
    subst hxx
    split at w1
    · rename_i n
      cases q1 with
      | ref en =>
        split at w1
        · rename_i c' fs ho
          split at w1
          · rename_i hcc
            obtain ⟨C, hC, cl, na⟩ := hc c' (List.contains_iff_mem.mp hcc)
            split at w1
            · rename_i v hv
              obtain ⟨dx, ys, e1, q⟩ := ins_of hs1 en ho hC
              obtain ⟨z, e2, q2⟩ := q.get hv
              exact ⟨_, C, dx, ys, z, rfl, e1, cl, na, e2, Wt.plain hs1 w1 q2⟩
            · exact w1.elim
          · exact w1.elim
        · exact w1.elim
    · exact w1.elim
/-- o.f = e -/
def sFldM (cs : List CP) (f : CP) (o e : ME) : MS := fun s h => (e s h).bindS s fun v h1 => (o s h1).bindS s fun y h2 => match y with
  | .ref n => match h2[n]? with
    | some (.ins c fs) => if cs.contains c && decide (fs.length < 1000) then .nx s (h2.set n (.ins c (setF f v fs))) else .stuck
    | _ => .stuck
  | _ => .stuck
theorem paired_len {α β : Type} {F : α → β → Prop} : ∀ {l : List α} {l' : List β}, Paired F l l' → l.length = l'.length
  | _, _, .nil => rfl
  | _, _, .cons _ t => by rw [List.length_cons, List.length_cons, paired_len t]
theorem put_ins {r : List Addr} {h : MH} {H : Hp} {n : Nat} {a C dx : Addr} {c f : CP} {fs : List (CP × MV)} {ys : List (Str × V)} {v : MV} {y : V} (hs : HS X.K X.mg r h H) (en : r[n]? = some a) (hC : X.mg (S c) = some (.ref C)) (q : RepF X.K X.mg r H fs ys) (qv : Rep X.K X.mg r H v y) (hz : ∀ o' u', H a ≠ some (.frz o' u')) :
    Post X.K X.mg r H r (h.set n (.ins c (setF f v fs))) (upd H a (.ins C dx (putF (S f) y ys))) := by
  have hpr : a ∈ r := List.mem_of_getElem? en
  have ht : Kp X.K H (upd H a (.ins C dx (putF (S f) y ys))) := Kp.upd fun o e => by
    obtain ⟨o', e', q⟩ := hs.plain hpr
    rw [e] at e'
    cases e'
    exact q
  exact hs.put en ⟨C, dx, _, hC, rfl, paired_mono (fun _ _ z => ⟨z.1, Rep.mono ht (fun _ _ z => z) _ _ z.2⟩) (RepF.set qv q)⟩ hz
theorem ms_fld {cs : List CP} {f : CP} {me : ME} {pos' : Pos} (hc : HasF X cs x) (ho : PEm X W o mo) (hv : PEm X W e me) (hxx : x = S f := by decide +kernel) (hsw : swapsWith e (some (.Attribute o x pos')) pos.line X.env = pure false := by rfl) : PSm X W (.Assign [.Attribute o x pos'] e pos) (sFldM cs f mo me) := (ps_fld ho hv hsw).mimp fun D s H ⟨r, sm, h, hs, ss, w⟩ =>
  tM_bindS hs ss w fun r1 h1 v y H1 hs1 ss1 p1 q1 w1 => tM_bindS hs1 ss1 w1 fun r2 h2 u z H2 hs2 ss2 p2 q2 w2 => by
    subst hxx
    split at w2
    · rename_i n
      cases q2 with
      | ref en =>
        split at w2
        · rename_i c' fs ho
          split at w2
          · rename_i hcc
            rw [Bool.and_eq_true, decide_eq_true_eq] at hcc
            obtain ⟨C, hC, cl, na⟩ := hc c' (List.contains_iff_mem.mp hcc.1)
            obtain ⟨dx, ys, e1, q⟩ := ins_of hs2 en ho hC
            have po := put_ins (f := f) (dx := dx) hs2 en hC q (p2.rep hs1 q1) (fun _ _ z => by rw [e1] at z; cases z)
            exact ⟨_, C, dx, ys, rfl, e1, cl, na, by rw [← paired_len q]; exact hcc.2, w2 r2 s _ po (ss2.post hs2 po)⟩
          · exact w2.elim
        · exact w2.elim
    · exact w2.elim
end
end MP

namespace MP
open PySem PySem.Spec PyProof.Rows L2

/-! ### is, in -/
def mIs : F2
  | a, .non, h => some (.bl (match a with
    | .non => true
    | _ => false), h)
  | .bl a, .bl b, h => some (.bl (a == b), h)
  | _, _, _ => none
def mIsNot : F2
  | a, .non, h => some (.bl (match a with
    | .non => false
    | _ => true), h)
  | .bl a, .bl b, h => some (.bl (!(a == b)), h)
  | _, _, _ => none
def fEq : MV → MV → Option Bool
  | .non, .non => some true
  | .bl a, .bl b => some (a == b)
  | .bl a, .int b => some ((if a then 1 else 0) == b)
  | .int a, .bl b => some (a == (if b then 1 else 0))
  | .int a, .int b => some (a == b)
  | .str a, .str b => some (a == b)
  | .non, .bl _ => some false
  | .non, .int _ => some false
  | .non, .str _ => some false
  | .bl _, .non => some false
  | .bl _, .str _ => some false
  | .int _, .non => some false
  | .int _, .str _ => some false
  | .str _, .non => some false
  | .str _, .bl _ => some false
  | .str _, .int _ => some false
  | _, _ => none
def inF (x : MV) : List MV → Option Bool
  | [] => match x with
    | .non => some false
    | .bl _ => some false
    | .int _ => some false
    | .str _ => some false
    | _ => none
  | y :: ys => match fEq y x, inF x ys with
    | some b, some c => some (b || c)
    | _, _ => none
def keyOf : MV → Option MK
  | .int i => some (.inl i)
  | .str l => some (.inr l)
  | _ => none
def keysOf (xs : List MV) : Option (List MK) := mapO keyOf xs
def dGet {κ : Type} [DecidableEq κ] (k : κ) : List (κ × MV) → Option MV
  | [] => none
  | p :: r => if p.1 = k then some p.2 else dGet k r
/-- what a dict of the mirror has under a key (none: no such dict, no such kind of key) -/
def dLook (h : MH) (n : Nat) (y : MV) : Option (Option MV) := match h[n]? with
  | some (.dK kvs) => (keyOf y).map fun k => dGet k kvs
  | some (.dZ kvs) => (keyOf y).map fun k => dGet k kvs
  | _ => none
def mInB (x y : MV) (h : MH) : Option Bool := match x, y with
  | .str a, .str b => some (inS a b)
  | x, .tup ys => inF x ys
  | x, .ref n => match lstAt h n with
    | some ys => inF x ys
    | none => (dLook h n x).map (·.isSome)
  | x, .lv ys => inF x ys
  | _, _ => none
def mIn : F2 := fun x y h => (mInB x y h).map fun k => (.bl k, h)
def mNotIn : F2 := fun x y h => (mInB x y h).map fun k => (.bl (!k), h)
section
variable {X : Cx}
theorem rep_non {K : PySem.W.Frag} {mg : Str → Option Value} {r : List Addr} {H : Hp} {a : MV} {x : V} (q : Rep K mg r H a x) : decide (x = .non) = (match a with
    | .non => true
    | _ => false) := by
  cases q <;> first | rfl | simp
theorem om_is : OpR X (compareOp .Is) (rM X.K X.mg mIs) := by
  intro pins s σ H x y v u Q I rx ry hh
  obtain ⟨r, h, a, b, hs, ra, rb, w⟩ := hh
  cases b with
  | non =>
    cases rb
    refine op_isN pins s σ H _ _ v u Q I rx ry ⟨rfl, ?_⟩
    rw [rep_non ra]
    cases a <;> exact Wt.plain hs w (.bl _)
  | bl b =>
    cases a with
    | bl a =>
      cases ra; cases rb
      refine op_is_bl pins s σ H _ _ v u Q I rx ry ⟨a, b, rfl, rfl, ?_⟩
      have := Wt.plain hs w (.bl _)
      rw [Bool.beq_eq_decide_eq] at this
      exact this
    | _ => exact w.elim
  | _ => cases a <;> exact w.elim
theorem om_isnot : OpR X (compareOp .IsNot) (rM X.K X.mg mIsNot) := by
  intro pins s σ H x y v u Q I rx ry hh
  obtain ⟨r, h, a, b, hs, ra, rb, w⟩ := hh
  cases b with
  | non =>
    cases rb
    refine op_notN pins s σ H _ _ v u Q I rx ry ⟨rfl, ?_⟩
    rw [rep_non ra]
    cases a <;> exact Wt.plain hs w (.bl _)
  | bl b =>
    cases a with
    | bl a =>
      cases ra; cases rb
      refine op_isnot_bl pins s σ H _ _ v u Q I rx ry ⟨a, b, rfl, rfl, ?_⟩
      have := Wt.plain hs w (.bl _)
      rw [Bool.beq_eq_decide_eq] at this
      exact this
    | _ => exact w.elim
  | _ => cases a <;> exact w.elim
theorem S_beq (a b : CP) : (S a == S b) = (a == b) := by
  by_cases e : a = b
  · subst e; simp
  · have h : ¬ S a = S b := fun q => e (S_inj q)
    rw [beq_eq_false_iff_ne.mpr h, beq_eq_false_iff_ne.mpr e]
theorem fEq_ok {K : PySem.W.Frag} {mg : Str → Option Value} {r : List Addr} {H : Hp} {a b : MV} {x y : V} {k : Bool} (ra : Rep K mg r H a x) (rb : Rep K mg r H b y) (e : fEq a b = some k) : flatV x = true ∧ flatV y = true ∧ eqV x y = k := by
  cases a <;> cases b <;> first
    | (cases e; done)
    | (cases ra; cases rb; cases e; exact ⟨rfl, rfl, by first | rfl | exact S_beq _ _⟩)
theorem inF_ok {K : PySem.W.Frag} {mg : Str → Option Value} {r : List Addr} {H : Hp} {a : MV} {x : V} (ra : Rep K mg r H a x) : ∀ {ys : List MV} {zs : List V} {k : Bool}, RepL K mg r H ys zs → inF a ys = some k → flatV x = true ∧ zs.all flatV = true ∧ inV x zs = k
  | [], _, k, .nil, e => by
    cases a <;> first | (cases e; done) | (cases ra; cases e; exact ⟨rfl, rfl, rfl⟩)
  | b :: ys, _, k, .cons rb rs, e => by
    simp only [inF] at e
    split at e
    · rename_i b1 c1 h1 h2
      cases e
      obtain ⟨f1, f2, f3⟩ := fEq_ok rb ra h1
      obtain ⟨_, g2, g3⟩ := inF_ok ra rs h2
      refine ⟨f2, by rw [List.all_cons, f1, g2]; rfl, ?_⟩
      have : ∀ (z : V) (zs : List V), inV x (z :: zs) = (eqV z x || inV x zs) := fun z zs => rfl
      rw [this, f3, g3]
    · cases e
theorem keyOf_ok {K : PySem.W.Frag} {mg : Str → Option Value} {r : List Addr} {H : Hp} {a : MV} {x : V} {k : MK} (ra : Rep K mg r H a x) (e : keyOf a = some k) : x = kV (mk k) := by
  cases a <;> first | (cases e; done) | (cases ra; cases e; rfl)
theorem keysOf_ok {K : PySem.W.Frag} {mg : Str → Option Value} {r : List Addr} {H : Hp} : ∀ {as : List MV} {xs : List V} {ks : List MK}, RepL K mg r H as xs → keysOf as = some ks → xs = (ks.map mk).map kV
  | [], _, ks, .nil, e => by cases e; rfl
  | a :: as, _, ks, .cons ra rs, e => by
    simp only [keysOf, mapO] at e
    split at e
    · rename_i y ys h1 h2
      cases e
      rw [keyOf_ok ra h1, keysOf_ok rs h2]
      rfl
    · cases e
theorem mk_inj {a b : MK} (h : mk a = mk b) : a = b := by
  cases a <;> cases b <;> simp only [mk, Sum.inl.injEq, Sum.inr.injEq, reduceCtorEq] at h
  · rw [h]
  · rw [S_inj h]
theorem mks_inj : ∀ {a b : List MK}, a.map mk = b.map mk → a = b
  | [], [], _ => rfl
  | [], _ :: _, h => by cases h
  | _ :: _, [], h => by cases h
  | x :: a, y :: b, h => by
    simp only [List.map_cons, List.cons.injEq] at h
    rw [mk_inj h.1, mks_inj h.2]
/-- pairs by keys that go over one to one -/
theorem dGet_ok {K : PySem.W.Frag} {mg : Str → Option Value} {r : List Addr} {H : Hp} {κ κ' : Type} [DecidableEq κ] [DecidableEq κ'] {g : κ → κ'} (gi : ∀ a b, g a = g b → a = b) (k : κ) :
    ∀ {kvs : List (κ × MV)} {ys : List (κ' × V)}, Paired (fun p q => q.1 = g p.1 ∧ Rep K mg r H p.2 q.2) kvs ys → (∀ v, dGet k kvs = some v → ∃ x, valV ys (g k) = some x ∧ Rep K mg r H v x) ∧ (dGet k kvs = none → valV ys (g k) = none)
  | _, _, .nil => ⟨fun v e => (by cases e), fun _ => rfl⟩
  | _, _, .cons (a := p) (b := q) e t => by
    obtain ⟨i1, i2⟩ := dGet_ok gi k t
    by_cases hk : p.1 = k
    · refine ⟨fun v e' => ?_, fun e' => ?_⟩
      · simp only [dGet, if_pos hk, Option.some.injEq] at e'
        subst e'
        exact ⟨q.2, valV_pos (by rw [e.1, hk]), e.2⟩
      · simp only [dGet, if_pos hk] at e'
        cases e'
    · have hk' : ¬ q.1 = g k := fun z => hk (gi _ _ (e.1.symm.trans z))
      refine ⟨fun v e' => ?_, fun e' => ?_⟩
      · simp only [dGet, if_neg hk] at e'
        rw [valV_neg hk']
        exact i1 v e'
      · simp only [dGet, if_neg hk] at e'
        rw [valV_neg hk']
        exact i2 e'
theorem dLook_ok {r : List Addr} {h : MH} {H : Hp} {n : Nat} {p : Addr} {a : MV} {x : V} {o : Option MV} (hs : HS X.K X.mg r h H) (en : r[n]? = some p) (ra : Rep X.K X.mg r H a x) (e : dLook h n a = some o) :
    ∃ ov, DGet H p x ov ∧ (∀ v, o = some v → ∃ z, ov = some z ∧ Rep X.K X.mg r H v z) ∧ (o = none → ov = none) := by
  unfold dLook at e
  split at e
  · rename_i kvs hk
    obtain ⟨ys, e1, q⟩ := hs.lookup en hk
    simp only [Option.map_eq_some_iff] at e
    obtain ⟨k, e2, rfl⟩ := e
    obtain ⟨i1, i2⟩ := dGet_ok (g := mk) (fun _ _ => mk_inj) k q
    rw [keyOf_ok ra e2]
    exact ⟨_, DGet.k e1, i1, i2⟩
  · rename_i kvs hk
    obtain ⟨o, ys, e1, q⟩ := hs.lookup en hk
    simp only [Option.map_eq_some_iff] at e
    obtain ⟨k, e2, rfl⟩ := e
    obtain ⟨i1, i2⟩ := dGet_ok (g := mk) (fun _ _ => mk_inj) k q
    rw [keyOf_ok ra e2]
    exact ⟨_, .inl ⟨_, _, .inr ⟨_, e1⟩, rfl, rfl⟩, i1, i2⟩
  · cases e
theorem in_cases (hu : X.A.units + 64 < cLine) {r : List Addr} {h : MH} {H : Hp} {a b : MV} {x y : V} {k : Bool} (hs : HS X.K X.mg r h H) (ra : Rep X.K X.mg r H a x) (rb : Rep X.K X.mg r H b y) (e : mInB a b h = some k) :
    (∃ i j, x = .str (S i) ∧ y = .str (S j) ∧ inS i j = k) ∨ (∃ p xs, y = .ref p ∧ (SqL X.K H p xs ∨ SqT X.K H p xs) ∧ flatV x = true ∧ xs.all flatV = true ∧ inV x xs = k) ∨ ∃ p ov, y = .ref p ∧ DGet H p x ov ∧ ov.isSome = k := by
  unfold mInB at e
  split at e
  · cases ra; cases rb; cases e
    exact .inl ⟨_, _, rfl, rfl, rfl⟩
  · cases rb with
    | tup sq ql =>
      obtain ⟨h1, h2, h3⟩ := inF_ok ra ql e
      exact .inr (.inl ⟨_, _, rfl, .inr sq, h1, h2, h3⟩)
  · rename_i n _
    cases rb with
    | ref en =>
      split at e
      · rename_i ys hl
        obtain ⟨zs, sq, ql⟩ := hs.list en hl
        obtain ⟨h1, h2, h3⟩ := inF_ok ra ql e
        exact .inr (.inl ⟨_, _, rfl, .inl sq, h1, h2, h3⟩)
      · simp only [Option.map_eq_some_iff] at e
        obtain ⟨o, e1, e2⟩ := e
        obtain ⟨ov, g, h1, h2⟩ := dLook_ok hs en ra e1
        refine .inr (.inr ⟨_, ov, rfl, g, ?_⟩)
        cases o with
        | none => rw [h2 rfl]; exact e2
        | some v => obtain ⟨z, ez, _⟩ := h1 v rfl; rw [ez, ← e2]; rfl
  · cases rb with
    | lv sq ql =>
      obtain ⟨h1, h2, h3⟩ := inF_ok ra ql e
      exact .inr (.inl ⟨_, _, rfl, .inl sq.sq, h1, h2, h3⟩)
  · cases e
theorem om_in (hu : X.A.units + 64 < cLine) : OpR X (compareOp .In) (rM X.K X.mg mIn) := by
  intro pins s σ H x y v u Q I rx ry hh
  obtain ⟨r, h, a, b, hs, ra, rb, w⟩ := hh
  obtain ⟨k, e, q⟩ := Wt.boolO (g := fun k => k) hs w
  rcases in_cases hu hs ra rb e with ⟨i, j, rfl, rfl, h1⟩ | ⟨p, xs, rfl, h1, h2, h3, h4⟩ | ⟨p, ov, rfl, g, h1⟩
  · exact op_in_str pins s σ H _ _ v u Q I rx ry ⟨_, _, rfl, rfl, by rw [inS_occ, h1]; exact q⟩
  · exact op_in_seq pins s σ H _ _ v u Q I rx ry ⟨p, xs, rfl, h1, h2, h3, by rw [if_neg Bool.false_ne_true, h4]; exact q⟩
  · obtain rfl : u = Value.ref p := ry
    exact d_in (by omega) I g rx fun s3 I3 => ⟨.bl ov.isSome, H, I3, rfl, by rw [h1]; exact q⟩
theorem om_notin (hu : X.A.units + 64 < cLine) : OpR X (compareOp .NotIn) (rM X.K X.mg mNotIn) := by
  intro pins s σ H x y v u Q I rx ry hh
  obtain ⟨r, h, a, b, hs, ra, rb, w⟩ := hh
  obtain ⟨k, e, q⟩ := Wt.boolO (g := fun k => !k) hs w
  rcases in_cases hu hs ra rb e with ⟨i, j, rfl, rfl, h1⟩ | ⟨p, xs, rfl, h1, h2, h3, h4⟩ | ⟨p, ov, rfl, g, h1⟩
  · exact op_notIn_str pins s σ H _ _ v u Q I rx ry ⟨_, _, rfl, rfl, by rw [inS_occ, h1]; exact q⟩
  · exact op_notIn_seq pins s σ H _ _ v u Q I rx ry ⟨p, xs, rfl, h1, h2, h3, by rw [if_pos rfl, h4]; exact q⟩
  · obtain rfl : u = Value.ref p := ry
    exact d_notIn (by omega) I g rx fun s3 I3 => ⟨.bl (!ov.isSome), H, I3, rfl, by rw [h1]; exact q⟩

/-! ### subscripts -/
def mIx : F2
  | .tup xs, .int i, h => (atI xs i).map fun v => (v, h)
  | .str l, .int i, h => if l.length ≤ sizeLine then (atI l i).map fun c => (.str [c], h) else none
  | .ref n, y, h => match lstAt h n with
    | some xs => (match y with
      | .int i => (atI xs i).map fun v => (v, h)
      | _ => none)
    | none => (dLook h n y).bind fun o => o.map fun v => (v, h)
  | .lv xs, .int i, h => (atI xs i).map fun v => (v, h)
  | _, _, _ => none
theorem RepL.atI {K : PySem.W.Frag} {mg : Str → Option Value} {r : List Addr} {H : Hp} {vs : List MV} {xs : List V} {i : Int} {v : MV} (q : RepL K mg r H vs xs) (e : L2.atI vs i = some v) : ∃ x, L2.atI xs i = some x ∧ Rep K mg r H v x := by
  unfold L2.atI at e ⊢
  rw [q.length] at e
  cases e1 : ixN xs.length i with
  | none => rw [e1] at e; cases e
  | some j => rw [e1] at e; exact q.get e
theorem ix_dict (hu : X.A.units + 1 < cLine) : IxR X (fun x y H Q => ∃ a v, x = .ref a ∧ DGet H a y (some v) ∧ Q v H) := by
  intro value slice pins s σ H x y v u Q I rx ry hh hs
  obtain ⟨a, z, rfl, g, q⟩ := hh
  obtain rfl : v = Value.ref a := rx
  exact tail_any (dict_typeIs I g) PySem.F.slot_dict_getitem.lookup (d_getItem hu I g ry fun w' s3 I3 rw' => ⟨z, H, I3, rw', q⟩) hs
theorem ixm (hu : X.A.units + 64 < cLine) : IxR X (rM X.K X.mg mIx) := by
  intro value slice pins s σ H x y v u Q I rx ry hh hsl
  obtain ⟨r, h, a, b, hs, ra, rb, w⟩ := hh
  cases a with
  | tup xs =>
    cases b with
    | int i =>
      cases rb
      cases ra with
      | tup sq ql =>
        simp only [mIx] at w
        cases e : atI xs i with
        | none => rw [e] at w; exact w.elim
        | some v' =>
          rw [e] at w
          obtain ⟨z, e1, q1⟩ := ql.atI e
          exact ix_tup value slice pins s σ H _ _ v u Q I rx ry ⟨_, _, i, z, rfl, rfl, sq, e1, Wt.plain hs w q1⟩ hsl
    | _ => exact w.elim
  | str l =>
    cases b with
    | int i =>
      cases rb; cases ra
      simp only [mIx] at w
      split at w
      · rename_i hl
        cases e : atI l i with
        | none => rw [e] at w; exact w.elim
        | some c =>
          rw [e] at w
          exact ix_str value slice pins s σ H _ _ v u Q I rx ry ⟨S l, i, c, rfl, rfl, by rw [S_length]; exact hl, by rw [S_toList]; exact e, Wt.plain hs w (.str [c])⟩ hsl
      · exact w.elim
    | _ => exact w.elim
  | ref n =>
    cases ra with
    | ref en =>
      simp only [mIx] at w
      split at w
      · rename_i xs hl
        obtain ⟨zs, sq, ql⟩ := hs.list en hl
        cases b with
        | int i =>
          cases rb
          dsimp only at w
          cases e : atI xs i with
          | none => rw [e] at w; exact w.elim
          | some v' =>
            rw [e] at w
            obtain ⟨z, e1, q1⟩ := ql.atI e
            exact ix_list value slice pins s σ H _ _ v u Q I rx ry ⟨_, _, i, z, rfl, rfl, sq, e1, Wt.plain hs w q1⟩ hsl
        | _ => exact w.elim
      · cases e : dLook h n b with
        | none => rw [e] at w; exact w.elim
        | some o =>
          rw [e] at w
          cases o with
          | none => exact w.elim
          | some v' =>
            obtain ⟨ov, g, h1, h2⟩ := dLook_ok hs en rb e
            obtain ⟨z, ez, qz⟩ := h1 v' rfl
            rw [ez] at g
            exact ix_dict (by omega) value slice pins s σ H _ _ v u Q I rx ry ⟨_, z, rfl, g, Wt.plain hs w qz⟩ hsl
  | lv xs =>
    cases b with
    | int i =>
      cases rb
      cases ra with
      | lv sq ql =>
        simp only [mIx] at w
        cases e : atI xs i with
        | none => rw [e] at w; exact w.elim
        | some v' =>
          rw [e] at w
          obtain ⟨z, e1, q1⟩ := ql.atI e
          exact ix_list value slice pins s σ H _ _ v u Q I rx ry ⟨_, _, i, z, rfl, rfl, sq.sq, e1, Wt.plain hs w q1⟩ hsl
    | _ => exact w.elim
  | _ => cases b <;> exact w.elim
theorem me_ix (hu : X.A.units + 64 < cLine) {W : WX} {a b : Expr} {ma mb : ME} {pos : Pos} (ha : PEm X W a ma) (hb : PEm X W b mb) (hp : PlainIx b := by exact fun _ _ => rfl) : PEm X W (.Subscript a b pos) (eOp mIx ma mb) := (pe_ix (ixm hu) ha hb hp).mimp fun s H Q ⟨r, sm, h, hs, ss, w⟩ =>
  tM_bind hs ss w fun r1 h1 v x H1 hs1 ss1 p1 q1 w1 => tM_bind hs1 ss1 w1 fun r2 h2 u y H2 hs2 ss2 p2 q2 w2 => ⟨r2, h2, v, u, hs2, p2.rep hs1 q1, q2, w2.anyE⟩
/-! slices -/
def cutM {α : Type} (xs : List α) (lo hi : Option Int) : List α := (xs.drop (HT.sIx xs.length 0 lo)).take (HT.sIx xs.length xs.length hi - HT.sIx xs.length 0 lo)
def mCut (x : MV) (lo hi : Option Int) (h : MH) : Option (MV × MH) := match x with
  | .tup xs => some (.tup (cutM xs lo hi), h)
  | .str l => if l.length ≤ sizeLine then some (.str (cutM l lo hi), h) else none
  | x => match lstV h x with
    | some xs => some (.ref h.length, h ++ [.lst (cutM xs lo hi)])
    | none => none
abbrev MP_ := Sl → MH → R (Option Int)
def pNo : MP_ := fun _ h => .ok none h
def pSo (a : ME) : MP_ := fun s h => (a s h).bind fun x h1 => match x with
  | .int i => .ok (some i) h1
  | _ => .stuck
def eCut (a : ME) (lo hi : MP_) : ME := fun s h => (a s h).bind fun x h1 => (lo s h1).bind fun l h2 => (hi s h2).bind fun u h3 => ofO (mCut x l u h3)
def tMO (K : PySem.W.Frag) (mg : Str → Option Value) (W : WX) (m : MP_) : TO := fun s H Q => ∃ r sm h, HS K mg r h H ∧ SS K mg r H sm s ∧ Wt K mg (fun _ _ a b => a = b) r H (fun c d H' => W c d s H') Q (m sm h)
theorem _root_.L2.PO.mimp {X : Cx} {e : Option Expr} {t t' : TO} (h : PO X e t) (i : ∀ s H Q, t' s H Q → t s H Q) : PO X e t' := ⟨fun pins s σ H Q I q => h.run pins s σ H Q I (i _ _ _ q)⟩
abbrev POm (X : Cx) (W : WX) (e : Option Expr) (m : MP_) : Prop := PO X e (tMO X.K X.mg W m)
theorem mo_none {W : WX} : POm X W none pNo := po_none.mimp fun s H Q ⟨r, sm, h, hs, ss, w⟩ => w r H none (Post.refl hs) rfl
theorem mo_some {W : WX} {a : Expr} {ma : ME} (ha : PEm X W a ma) : POm X W (some a) (pSo ma) := (po_some ha).mimp fun s H Q ⟨r, sm, h, hs, ss, w⟩ =>
  tM_bind hs ss w fun r1 h1 v x H1 hs1 ss1 p1 q1 w1 => by
    cases v with
    | int i => cases q1; exact ⟨i, rfl, w1 r1 H1 _ (Post.refl hs1) rfl⟩
    | _ => exact w1.elim
theorem RepL.cut {K : PySem.W.Frag} {mg : Str → Option Value} {r : List Addr} {H : Hp} {vs : List MV} {xs : List V} (q : RepL K mg r H vs xs) (lo hi : Option Int) : RepL K mg r H (cutM vs lo hi) (cutV xs lo hi) := by
  unfold cutM cutV
  rw [q.length]
  exact (q.drop _).take _
def rCutM (X : Cx) : V → Option Int → Option Int → Hp → VK → Prop := fun x lo hi H Q => ∃ r h a, HS X.K X.mg r h H ∧ Rep X.K X.mg r H a x ∧ Wt X.K X.mg (Rep X.K X.mg) r H (fun _ _ _ => False) Q (ofO (mCut a lo hi h))
theorem slm : SlR X (rCutM X) := by
  intro pins s σ H x v vl vu lo hi sl Q I rx hsl pl pu hh
  obtain ⟨r, h, a, hs, ra, w⟩ := hh
  cases a with
  | tup xs =>
    cases ra with
    | tup sq ql =>
      refine sl_tupA pins s σ H _ v vl vu lo hi sl Q I rx hsl pl pu ⟨_, _, rfl, sq, fun hw => ?_, fun _ p hp => ?_⟩
      · have e : cutM xs lo hi = xs := by
          unfold cutM
          rw [ql.length, hw.1, hw.2]
          simp [← ql.length]
        simp only [mCut, e] at w
        exact Wt.plain hs w (.tup sq ql)
      · obtain ⟨po, re⟩ := hs.newT hp (ql.cut lo hi)
        exact w _ _ _ po re
  | str l =>
    cases ra
    simp only [mCut] at w
    split at w
    · rename_i hl
      refine sl_str pins s σ H _ v vl vu lo hi sl Q I rx hsl pl pu ⟨_, rfl, by rw [S_length]; exact hl, ?_⟩
      have e : cutS (S l) lo hi = S (cutM l lo hi) := by
        unfold cutS cutM
        rw [S_length, S_toList]
        rfl
      rw [e]
      exact Wt.plain hs w (.str _)
    · exact w.elim
  | _ =>
    simp only [mCut] at w
    split at w
    · rename_i xs hl
      obtain ⟨_, zs, rfl, sq, ql⟩ := hs.listV ra hl
      refine sl_list pins s σ H _ v vl vu lo hi sl Q I rx hsl pl pu ⟨_, _, rfl, sq, fun p hp => ?_⟩
      obtain ⟨po, re⟩ := hs.newL hp (ql.cut lo hi)
      exact w _ _ _ po re
    · exact w.elim
theorem me_cut {W : WX} {a : Expr} {lo hi : Option Expr} {ma : ME} {ml mh : MP_} {p2 pos : Pos} (ha : PEm X W a ma) (hl : POm X W lo ml) (hh : POm X W hi mh) : PEm X W (.Subscript a (.Slice lo hi none p2) pos) (eCut ma ml mh) := (pe_slice slm ha hl hh).mimp fun s H Q ⟨r, sm, h, hs, ss, w⟩ =>
  tM_bind hs ss w fun r1 h1 v x H1 hs1 ss1 p1 q1 w1 => by
    refine ⟨r1, sm, h1, hs1, ss1, (Wt.bind (rel := fun _ _ a b => a = b) w1).imp (fun _ _ _ z => z) fun l H2 ⟨r2, h2, l', p2, e2, w2⟩ => ?_⟩
    subst e2
    refine ⟨r2, sm, h2, p2.hs, ss1.post hs1 p2, (Wt.bind (rel := fun _ _ a b => a = b) w2).imp (fun _ _ _ z => z) fun u H3 ⟨r3, h3, u', p3, e3, w3⟩ => ?_⟩
    subst e3
    exact ⟨r3, h3, v, p3.hs, p3.rep p2.hs (p2.rep hs1 q1), w3.anyE⟩
end
end MP

namespace MP
open PySem PySem.Spec PyProof.Rows L2

/-! ### built-ins by values -/
abbrev FA := List MV → MH → Option (MV × MH)
def rMA (X : Cx) (f : FA) : List V → Hp → VK → Prop := fun xs H Q => ∃ r h as, HS X.K X.mg r h H ∧ RepL X.K X.mg r H as xs ∧ Wt X.K X.mg (Rep X.K X.mg) r H (fun _ _ _ => False) Q (ofO (f as h))
def eBlt (f : FA) (a : MA) : ME := fun s h => (a s h).bind fun xs h1 => ofO (f xs h1)
section
variable {X : Cx} {W : WX} {e o : Expr} {es : List Expr} {ms : MA} {mo : ME} {x : Str} {p pos apos : Pos} {f : FA}
theorem me_callB {id : String} (hc : CallR X (.builtin id) (rMA X f)) (hg : Gl X x) (hm : X.mg x = none) (hv : bootBuiltins x = some (.builtin id)) (ha : PAm X W (e :: es) ms) (hn : x ≠ "__name__" := by decide) (hdb : (x == ("__debug__" : Str)) = false := by decide)
    (he : starEach (e :: es) X.env = (false, eval e X.env) :: starEach es X.env := by rfl) (hpl : (backTo pos (starEach es X.env)).any (·.1) = false := by rfl) : PEm X W (.Call (.Name x p) (e :: es) [] pos) (eBlt f ms) := (pe_callB hc hg hm hv ha hn hdb he hpl).mimp fun s H Q ⟨r, sm, h, hs, ss, w⟩ =>
  tMA_bind hs ss w fun r1 h1 vs xs H1 hs1 ss1 p1 q1 w1 => ⟨r1, h1, vs, hs1, q1, w1.anyE⟩
theorem me_callTy {T : String} (hc : CallR X (.type T) (rMA X f)) (hg : Gl X x) (hm : X.mg x = none) (hv : bootBuiltins x = some (.type T)) (ha : PAm X W (e :: es) ms) (hn : x ≠ "__name__" := by decide) (hdb : (x == ("__debug__" : Str)) = false := by decide)
    (he : starEach (e :: es) X.env = (false, eval e X.env) :: starEach es X.env := by rfl) (hpl : (backTo pos (starEach es X.env)).any (·.1) = false := by rfl) : PEm X W (.Call (.Name x p) (e :: es) [] pos) (eBlt f ms) := (pe_callTy hc hg hm hv ha hn hdb he hpl).mimp fun s H Q ⟨r, sm, h, hs, ss, w⟩ =>
  tMA_bind hs ss w fun r1 h1 vs xs H1 hs1 ss1 p1 q1 w1 => ⟨r1, h1, vs, hs1, q1, w1.anyE⟩
/-- a built-in class as a value -/
theorem me_ty {t : Ty} (hg : Gl X x) (hm : X.mg x = none) (hv : bootBuiltins x = some (.type t.nm)) (hn : x ≠ "__name__" := by decide) (hdb : (x == ("__debug__" : Str)) = false := by decide) : PEm X W (.Name x pos) (eC (.ty t)) :=
  (pe_bltn (v := .ty t.nm) hg hm hv rfl hn hdb).mimp fun s H Q ⟨r, sm, h, hs, ss, w⟩ => Wt.plain hs w (.ty t)
theorem repL1 {K : PySem.W.Frag} {mg : Str → Option Value} {r : List Addr} {H : Hp} {a : MV} {xs : List V} (q : RepL K mg r H [a] xs) : ∃ x, xs = [x] ∧ Rep K mg r H a x := by
  cases q with | cons q1 q2 => cases q2; exact ⟨_, rfl, q1⟩
theorem repL2 {K : PySem.W.Frag} {mg : Str → Option Value} {r : List Addr} {H : Hp} {a b : MV} {xs : List V} (q : RepL K mg r H [a, b] xs) : ∃ x y, xs = [x, y] ∧ Rep K mg r H a x ∧ Rep K mg r H b y := by
  cases q with | cons q1 q2 => cases q2 with | cons q2 q3 => cases q3; exact ⟨_, _, rfl, q1, q2⟩
def mLen : FA
  | [.str l], h => if l.length ≤ sizeLine then some (.int l.length, h) else none
  | [.tup xs], h => some (.int xs.length, h)
  | [.ref n], h => match h[n]? with
    | some (.lst xs) => some (.int xs.length, h)
    | some (.dK kvs) => some (.int kvs.length, h)
    | _ => none
  | [.ro xs], h => some (.int xs.length, h)
  | [.lv xs], h => some (.int xs.length, h)
  | _, _ => none
theorem cm_len : CallR X (.builtin "len") (rMA X mLen) := by
  intro pins s σ H xs us Q I rv hh
  obtain ⟨r, h, as, hs, ra, w⟩ := hh
  unfold mLen at w
  split at w
  · obtain ⟨x, rfl, q⟩ := repL1 ra
    cases q
    split at w
    · rename_i hl
      exact call_len_str pins s σ H _ us Q I rv ⟨_, rfl, by rw [S_length]; exact hl, by rw [S_length]; exact Wt.plain hs w (.int _)⟩
    · exact w.elim
  · obtain ⟨x, rfl, q⟩ := repL1 ra
    cases q with
    | tup sq ql => exact call_len_seq pins s σ H _ us Q I rv ⟨_, _, rfl, .inr sq, by rw [← ql.length]; exact Wt.plain hs w (.int _)⟩
  · obtain ⟨x, rfl, q⟩ := repL1 ra
    cases q with
    | ref en =>
      split at w
      · rename_i ys h1
        obtain ⟨zs, e1, ql⟩ := hs.lookup en h1
        exact call_len_seq pins s σ H _ us Q I rv ⟨_, _, rfl, .inl (SqL.of e1), by rw [← ql.length]; exact Wt.plain hs w (.int _)⟩
      · rename_i ys h1
        obtain ⟨zs, e1, ql⟩ := hs.lookup en h1
        exact call_lenD pins s σ H _ us Q I rv ⟨_, _, rfl, e1, by rw [← paired_len ql]; exact Wt.plain hs w (.int _)⟩
      · exact w.elim
  · obtain ⟨x, rfl, q⟩ := repL1 ra
    cases q with
    | ro sq ql => exact call_len_seq pins s σ H _ us Q I rv ⟨_, _, rfl, .inl sq.sq, by rw [← ql.length]; exact Wt.plain hs w (.int _)⟩
  · obtain ⟨x, rfl, q⟩ := repL1 ra
    cases q with
    | lv sq ql => exact call_len_seq pins s σ H _ us Q I rv ⟨_, _, rfl, .inl sq.sq, by rw [← ql.length]; exact Wt.plain hs w (.int _)⟩
  · exact w.elim
def mInt : FA
  | [.int i], h => some (.int i, h)
  | [.bl b], h => some (.int (if b then 1 else 0), h)
  | _, _ => none
theorem cm_int : CallR X (.type "int") (rMA X mInt) := by
  intro pins s σ H xs us Q I rv hh
  obtain ⟨r, h, as, hs, ra, w⟩ := hh
  unfold mInt at w
  split at w
  · obtain ⟨x, rfl, q⟩ := repL1 ra
    cases q
    exact call_int1 pins s σ H _ us Q I rv (.inl ⟨_, rfl, Wt.plain hs w (.int _)⟩)
  · obtain ⟨x, rfl, q⟩ := repL1 ra
    cases q
    exact call_int1 pins s σ H _ us Q I rv (.inr ⟨_, rfl, Wt.plain hs w (.int _)⟩)
  · exact w.elim
def mList : FA
  | [.tup xs], h => some (.ref h.length, h ++ [.lst xs])
  | [v], h => match lstV h v with
    | some xs => some (.ref h.length, h ++ [.lst xs])
    | none => none
  | _, _ => none
theorem cm_list : CallR X (.type "list") (rMA X mList) := by
  intro pins s σ H xs us Q I rv hh
  obtain ⟨r, h, as, hs, ra, w⟩ := hh
  unfold mList at w
  split at w
  · obtain ⟨x, rfl, q⟩ := repL1 ra
    cases q with
    | tup sq ql =>
      refine call_list_of pins s σ H _ us Q I rv ⟨_, _, rfl, .inr sq, fun l hl => ?_⟩
      obtain ⟨po, re⟩ := hs.newL hl ql
      exact w _ _ _ po re
  · obtain ⟨x, rfl, q⟩ := repL1 ra
    split at w
    · rename_i ys hl
      obtain ⟨_, zs, rfl, sq, ql⟩ := hs.listV q hl
      refine call_list_of pins s σ H _ us Q I rv ⟨_, _, rfl, .inl sq, fun l hl => ?_⟩
      obtain ⟨po, re⟩ := hs.newL hl ql
      exact w _ _ _ po re
    · exact w.elim
  · exact w.elim
def mTuple : FA
  | [.tup xs], h => some (.tup xs, h)
  | [v], h => match lstV h v with
    | some xs => some (.tup xs, h)
    | none => none
  | _, _ => none
theorem cm_tuple : CallR X (.type "tuple") (rMA X mTuple) := by
  intro pins s σ H xs us Q I rv hh
  obtain ⟨r, h, as, hs, ra, w⟩ := hh
  unfold mTuple at w
  split at w
  · obtain ⟨x, rfl, q⟩ := repL1 ra
    cases q with
    | tup sq ql => exact call_tuple_of pins s σ H _ us Q I rv ⟨_, _, rfl, .inr ⟨sq, Wt.plain hs w (.tup sq ql)⟩⟩
  · obtain ⟨x, rfl, q⟩ := repL1 ra
    split at w
    · rename_i ys hl
      obtain ⟨_, zs, rfl, sq, ql⟩ := hs.listV q hl
      refine call_tuple_of pins s σ H _ us Q I rv ⟨_, _, rfl, .inl ⟨sq, fun l hl => ?_⟩⟩
      obtain ⟨po, re⟩ := hs.newT hl ql
      exact w _ _ _ po re
    · exact w.elim
  · exact w.elim
def mMin : FA
  | [.int i, .int j], h => some (.int (if j < i then j else i), h)
  | _, _ => none
theorem cm_min (hc : X.calm = true) : CallR X (.builtin "min") (rMA X mMin) := by
  intro pins s σ H xs us Q I rv hh
  obtain ⟨r, h, as, hs, ra, w⟩ := hh
  unfold mMin at w
  split at w
  · obtain ⟨x, y, rfl, q1, q2⟩ := repL2 ra
    cases q1; cases q2
    exact call_min2 hc pins s σ H _ us Q I rv ⟨_, _, rfl, Wt.plain hs w (.int _)⟩
  · exact w.elim
def boolsOf : List MV → Option (List Bool) := mapO fun v => match v with
  | .bl b => some b
  | _ => none
theorem boolsOf_ok {K : PySem.W.Frag} {mg : Str → Option Value} {r : List Addr} {H : Hp} : ∀ {vs : List MV} {xs : List V} {bs : List Bool}, RepL K mg r H vs xs → boolsOf vs = some bs → xs = bs.map V.bl
  | [], _, bs, .nil, e => by cases e; rfl
  | v :: vs, _, bs, .cons q t, e => by
    simp only [boolsOf, mapO] at e
    split at e
    · rename_i y ys h1 h2
      cases e
      cases v with
      | bl b => cases q; cases h1; rw [boolsOf_ok t h2]; rfl
      | _ => cases h1
    · cases e
def mAll : FA
  | [v], h => match lstV h v with
    | some xs => (boolsOf xs).map fun bs => (.bl (bs.all id), h)
    | none => none
  | _, _ => none
def mAny : FA
  | [v], h => match lstV h v with
    | some xs => (boolsOf xs).map fun bs => (.bl (bs.any id), h)
    | none => none
  | _, _ => none
theorem cm_all (hc : X.calm = true) : CallR X (.builtin "all") (rMA X mAll) := by
  intro pins s σ H xs us Q I rv hh
  obtain ⟨r, h, as, hs, ra, w⟩ := hh
  unfold mAll at w
  split at w
  · obtain ⟨x, rfl, q⟩ := repL1 ra
    split at w
    · rename_i ys hl
      obtain ⟨_, zs, rfl, sq, ql⟩ := hs.listV q hl
      cases e : boolsOf ys with
      | none => rw [e] at w; exact w.elim
      | some bs =>
        rw [e] at w
        rw [boolsOf_ok ql e] at sq
        exact cr_all hc pins s σ H _ us Q I rv ⟨_, bs, rfl, sq, Wt.plain hs w (.bl _)⟩
    · exact w.elim
  · exact w.elim
theorem cm_any (hc : X.calm = true) : CallR X (.builtin "any") (rMA X mAny) := by
  intro pins s σ H xs us Q I rv hh
  obtain ⟨r, h, as, hs, ra, w⟩ := hh
  unfold mAny at w
  split at w
  · obtain ⟨x, rfl, q⟩ := repL1 ra
    split at w
    · rename_i ys hl
      obtain ⟨_, zs, rfl, sq, ql⟩ := hs.listV q hl
      cases e : boolsOf ys with
      | none => rw [e] at w; exact w.elim
      | some bs =>
        rw [e] at w
        rw [boolsOf_ok ql e] at sq
        exact cr_any hc pins s σ H _ us Q I rv ⟨_, bs, rfl, sq, Wt.plain hs w (.bl _)⟩
    · exact w.elim
  · exact w.elim
/-! isinstance with a built-in class -/
def kindOf (v : MV) (h : MH) : Option Ty := match v with
  | .non => some .none
  | .bl _ => some .bool
  | .int _ => some .int
  | .str _ => some .str
  | .tup _ => some .tuple
  | .ref n => match h[n]? with
    | some (.lst _) => some .list
    | some (.dK _) => some .dict
    | some (.dT _) => some .dict
    | _ => none
  | .lv _ => some .list
  | _ => none
def isTy (k t : Ty) : Bool := match k, t with
  | .int, .int => true
  | .str, .str => true
  | .bool, .bool => true
  | .bool, .int => true
  | .tuple, .tuple => true
  | .list, .list => true
  | .dict, .dict => true
  | .none, .none => true
  | .valErr, .valErr => true
  | .ovfErr, .ovfErr => true
  | _, _ => false
def mIsi : FA
  | [v, .ty t], h => (kindOf v h).map fun k => (.bl (isTy k t), h)
  | _, _ => none
theorem isTy_ok {K : PySem.W.Frag} (k t : Ty) : PySem.W.kitOne K (.type k.nm) (.type t.nm) = some (isTy k t) := by
  cases k <;> cases t <;> exact kit_ty (by decide +kernel)
theorem kind_ok {r : List Addr} {h : MH} {H : Hp} {v : MV} {x : V} {k : Ty} (hs : HS X.K X.mg r h H) (q : Rep X.K X.mg r H v x) (e : kindOf v h = some k) : TyX X.K H x (.type k.nm) := by
  cases v with
  | non => cases q; cases e; exact .base .non
  | bl b => cases q; cases e; exact .base (.bl b)
  | int i => cases q; cases e; exact .base (.int i)
  | str l => cases q; cases e; exact .base (.str _)
  | tup xs =>
    cases q with
    | tup sq ql =>
      cases e
      rcases sq with (sq | ⟨o, sq⟩) | ⟨o, its, n, h1, h2, _⟩
      · exact .base (.tup sq)
      · exact .fTuple sq
      · exact .kTuple h1 h2
  | ref n =>
    cases q with
    | ref en =>
      simp only [kindOf] at e
      split at e
      · rename_i ys h1
        cases e
        obtain ⟨zs, e1, ql⟩ := hs.lookup en h1
        exact .base (.lst e1)
      · rename_i ys h1
        cases e
        obtain ⟨zs, e1, ql⟩ := hs.lookup en h1
        exact .base (.dK e1)
      · rename_i ys h1
        cases e
        obtain ⟨zs, e1, ql⟩ := hs.lookup en h1
        exact .base (.dT e1)
      · cases e
  | ty _ => cases e
  | glo _ => cases e
  | exc _ _ _ => cases e
  | clo _ _ _ _ _ => cases e
  | ro _ => cases e
  | lv xs =>
    cases q with
    | lv sq ql => cases e; obtain ⟨o, sq⟩ := sq; exact .base (.frz sq)
theorem cm_isi : CallR X (.builtin "isinstance") (rMA X mIsi) := by
  intro pins s σ H xs us Q I rv hh
  obtain ⟨r, h, as, hs, ra, w⟩ := hh
  unfold mIsi at w
  split at w
  · rename_i v t
    obtain ⟨x, y, rfl, q1, q2⟩ := repL2 ra
    cases q2
    cases e : kindOf v h with
    | none => rw [e] at w; exact w.elim
    | some k =>
      rw [e] at w
      exact call_isi pins s σ H _ us Q I rv ⟨x, _, _, _, _, rfl, .ty _, kind_ok hs q1 e, isTy_ok k t, Wt.plain hs w (.bl _)⟩
  · exact w.elim

/-! ### methods of built-in types -/
abbrev FM := MV → List MV → MH → Option (MV × MH)
def rMM (X : Cx) (f : FM) : V → List V → Hp → VK → Prop := fun x xs H Q => ∃ r h a as, HS X.K X.mg r h H ∧ Rep X.K X.mg r H a x ∧ RepL X.K X.mg r H as xs ∧ Wt X.K X.mg (Rep X.K X.mg) r H (fun _ _ _ => False) Q (ofO (f a as h))
/-- the receiver is a text, a list, a dict -/
def isRcv (t : Ty) (v : MV) (h : MH) : Bool := match t, v with
  | .str, .str _ => true
  | .list, .ref n => (lstAt h n).isSome
  | .list, .lv _ => true
  | .dict, .ref n => match h[n]? with
    | some (.dK _) => true
    | _ => false
  | _, _ => false
def eBm (t : Ty) (f : FM) (o : ME) (a : MA) : ME := fun s h => (o s h).bind fun x h1 => if isRcv t x h1 then (a s h1).bind fun xs h2 => ofO (f x xs h2) else .stuck
theorem rcv_ok {r : List Addr} {h : MH} {H : Hp} {v : MV} {x : V} {t : Ty} (hs : HS X.K X.mg r h H) (q : Rep X.K X.mg r H v x) (e : isRcv t v h = true) : tyV X.K t.nm x H := by
  unfold isRcv at e
  split at e
  · cases q; exact rfl
  · cases q with
    | ref en =>
      rw [Option.isSome_iff_exists] at e
      obtain ⟨xs, hl⟩ := e
      obtain ⟨zs, sq, ql⟩ := hs.list en hl
      exact .inl ⟨rfl, zs, sq⟩
  · cases q with
    | lv sq ql => exact .inl ⟨rfl, _, sq.sq⟩
  · cases q with
    | ref en =>
      split at e
      · rename_i kvs h1
        obtain ⟨zs, e1, ql⟩ := hs.lookup en h1
        exact .inr (.inr (.inl ⟨rfl, .inl ⟨zs, e1⟩⟩))
      · cases e
  · cases e
theorem me_bm {t : Ty} {f : FM} {id : String} (pa : PlainAttrs t.nm) (slot : Slot t.nm x id) (hty : typeOf (.builtin id) = pure (.type "method_descriptor")) (hm : MtR X id (rMM X f)) (ho : PEm X W o mo) (ha : PAm X W (e :: es) ms)
    (hbase : attributeBase o x X.env (eval o X.env) = eval o X.env := by rfl)
    (hfew : ((backTo pos (starEach (e :: es) X.env)).all (fun x => !x.1) && (backToKw pos (keywordEach [] X.env)).all (fun x => x.1.isSome)
      && decide ((e :: es).length + ([] : List Keyword).length + (if ([] : List Keyword).isEmpty then 0 else 1) < 30)) = true := by rfl)
    (hline : (apos.endLine == pos.line) = true := by rfl) (hst : starEach (e :: es) X.env = (false, eval e X.env) :: starEach es X.env := by rfl) (hplain : (backTo pos (starEach es X.env)).any (·.1) = false := by rfl) :
    PEm X W (.Call (.Attribute o x apos) (e :: es) [] pos) (eBm t f mo ms) := (pe_bm pa slot hty hm ho ha hbase hfew hline hst hplain).mimp fun s H Q ⟨r, sm, h, hs, ss, w⟩ =>
  tM_bind hs ss w fun r1 h1 v y H1 hs1 ss1 p1 q1 w1 => by
    split at w1
    · rename_i hr
      exact ⟨rcv_ok hs1 q1 hr, tMA_bind hs1 ss1 w1 fun r2 h2 vs xs H2 hs2 ss2 p2 q2 w2 => ⟨r2, h2, v, vs, hs2, p2.rep hs1 q1, q2, w2.anyE⟩⟩
    · exact w1.elim
theorem me_bm0 {t : Ty} {f : FM} {id : String} (pa : PlainAttrs t.nm) (slot : Slot t.nm x id) (hty : typeOf (.builtin id) = pure (.type "method_descriptor")) (hm : MtR X id (rMM X f)) (ho : PEm X W o mo)
    (hbase : attributeBase o x X.env (eval o X.env) = eval o X.env := by rfl) (hline : (apos.endLine == pos.line) = true := by rfl) :
    PEm X W (.Call (.Attribute o x apos) [] [] pos) (eBm t f mo aNil) := (pe_bm0 pa slot hty hm ho hbase hline).mimp fun s H Q ⟨r, sm, h, hs, ss, w⟩ =>
  tM_bind hs ss w fun r1 h1 v y H1 hs1 ss1 p1 q1 w1 => by
    split at w1
    · rename_i hr
      exact ⟨rcv_ok hs1 q1 hr, r1, h1, v, [], hs1, q1, .nil, Wt.anyE w1⟩
    · exact w1.elim
def mAppend : FM
  | .ref n, [v], h => match h[n]? with
    | some (.lst xs) => if xs.length < sizeLine then some (.non, h.set n (.lst (xs ++ [v]))) else none
    | _ => none
  | _, _, _ => none
/-- a list is written -/
theorem HS.putL {K : PySem.W.Frag} {mg : Str → Option Value} {r : List Addr} {h : MH} {H : Hp} (hs : HS K mg r h H) {n : Nat} {p : Addr} (en : r[n]? = some p) {xs : List MV} {ys : List V} (q : RepL K mg r H xs ys) {zs : List V} (e0 : H p = some (.lst zs)) :
    Post K mg r H r (h.set n (.lst xs)) (upd H p (.lst ys)) := by
  have hpr : p ∈ r := List.mem_of_getElem? en
  have ht : Kp K H (upd H p (.lst ys)) := Kp.upd fun o e => by
    obtain ⟨o', e', q⟩ := hs.plain hpr
    rw [e] at e'
    cases e'
    exact q
  exact hs.put en ⟨_, rfl, RepL.mono ht (fun _ _ z => z) _ _ q⟩ (fun _ _ z => by rw [e0] at z; cases z)
theorem mm_append : MtR X "list.append" (rMM X mAppend) := by
  intro pins s σ H x xs v us Q I rx rv hh
  obtain ⟨r, h, a, as, hs, ra, rs, w⟩ := hh
  unfold mAppend at w
  split at w
  · obtain ⟨y, rfl, q⟩ := repL1 rs
    cases ra with
    | ref en =>
      split at w
      · rename_i zs h1
        split at w
        · rename_i hl
          obtain ⟨ys, e1, ql⟩ := hs.lookup en h1
          refine mt_append pins s σ H _ _ v us Q I rx rv ⟨_, ys, y, rfl, rfl, e1, by rw [← ql.length]; exact hl, ?_⟩
          exact w _ _ _ (hs.putL en (ql.append (.cons q .nil)) e1) .non
        · exact w.elim
      · exact w.elim
  · exact w.elim
def mPop : FM
  | .ref n, [], h => match h[n]? with
    | some (.lst xs) => match xs[xs.length - 1]? with
      | some v => some (v, h.set n (.lst xs.dropLast))
      | none => none
    | _ => none
  | _, _, _ => none
theorem RepL.dropLast {K : PySem.W.Frag} {mg : Str → Option Value} {r : List Addr} {H : Hp} {vs : List MV} {xs : List V} (q : RepL K mg r H vs xs) : RepL K mg r H vs.dropLast xs.dropLast := by
  rw [List.dropLast_eq_take, List.dropLast_eq_take, q.length]
  exact q.take _
theorem mm_pop : MtR X "list.pop" (rMM X mPop) := by
  intro pins s σ H x xs v us Q I rx rv hh
  obtain ⟨r, h, a, as, hs, ra, rs, w⟩ := hh
  unfold mPop at w
  split at w
  · cases rs
    cases ra with
    | ref en =>
      split at w
      · rename_i zs h1
        split at w
        · rename_i v' hl
          obtain ⟨ys, e1, ql⟩ := hs.lookup en h1
          obtain ⟨y, e2, q2⟩ := ql.get hl
          rw [ql.length] at e2
          refine mt_pop pins s σ H _ _ v us Q I rx rv ⟨_, ys, y, rfl, rfl, e1, e2, ?_⟩
          have po := hs.putL en ql.dropLast e1
          exact w _ _ _ po (po.rep hs q2)
        · exact w.elim
      · exact w.elim
  · exact w.elim
def mExtend : FM
  | .ref n, [.ref m], h => match h[n]?, h[m]? with
    | some (.lst xs), some (.lst zs) => if xs.length + zs.length ≤ sizeLine then some (.non, h.set n (.lst (xs ++ zs))) else none
    | _, _ => none
  | _, _, _ => none
theorem mm_extend : MtR X "list.extend" (rMM X mExtend) := by
  intro pins s σ H x xs v us Q I rx rv hh
  obtain ⟨r, h, a, as, hs, ra, rs, w⟩ := hh
  unfold mExtend at w
  split at w
  · obtain ⟨y, rfl, q⟩ := repL1 rs
    cases ra with
    | ref en =>
      cases q with
      | ref em =>
        split at w
        · rename_i z1 z2 h1 h2
          split at w
          · rename_i hl
            obtain ⟨y1, e1, q1⟩ := hs.lookup en h1
            obtain ⟨y2, e2, q2⟩ := hs.lookup em h2
            refine mt_extend pins s σ H _ _ v us Q I rx rv ⟨_, _, y1, y2, rfl, rfl, e1, e2, by rw [← q1.length, ← q2.length]; exact hl, ?_⟩
            exact w _ _ _ (hs.putL en (q1.append q2) e1) .non
          · exact w.elim
        · exact w.elim
  · exact w.elim
def strsOf : List MV → Option (List CP) := mapO fun v => match v with
  | .str l => some l
  | _ => none
theorem strsOf_ok {K : PySem.W.Frag} {mg : Str → Option Value} {r : List Addr} {H : Hp} : ∀ {vs : List MV} {xs : List V} {ls : List CP}, RepL K mg r H vs xs → strsOf vs = some ls → xs = (ls.map S).map V.str
  | [], _, bs, .nil, e => by cases e; rfl
  | v :: vs, _, bs, .cons q t, e => by
    simp only [strsOf, mapO] at e
    split at e
    · rename_i y ys h1 h2
      cases e
      cases v with
      | str b => cases q; cases h1; rw [strsOf_ok t h2]; rfl
      | _ => cases h1
    · cases e
def joinL (a : CP) : List CP → CP
  | [] => []
  | [x] => x
  | x :: y :: r => x ++ a ++ joinL a (y :: r)
def lensum : List CP → Nat
  | [] => 0
  | x :: r => x.length + lensum r
def mJoinL (a : CP) (vs : List MV) (h : MH) : Option (MV × MH) := match strsOf vs with
  | some ls => if lensum ls + ls.length * a.length ≤ 16777216 then some (.str (joinL a ls), h) else none
  | none => none
def mJoin : FM
  | .str a, [.tup vs], h => mJoinL a vs h
  | .str a, [v], h => match lstV h v with
    | some vs => mJoinL a vs h
    | none => none
  | _, _, _ => none
end
end MP

namespace MP
open PySem PySem.Spec PyProof.Rows L2
section
variable {X : Cx} {W : WX} {e o : Expr} {es : List Expr} {ms : MA} {mo : ME} {x : Str} {p pos apos : Pos}
theorem lensum_eq : ∀ ls : List CP, lensum ls = ((ls.map S).map (·.length)).sum
  | [] => rfl
  | l :: ls => by rw [lensum, lensum_eq ls, List.map_cons, List.map_cons, List.sum_cons, S_length]
theorem join_eqS (a : CP) : ∀ ls : List CP, Txt.join (S a) (ls.map S) = S (joinL a ls) := fun ls => by
  rw [show Txt.join (S a) (ls.map S) = SX.S (TL.joinL a ls) from SX.join_S a ls]
  have : ∀ ls : List CP, TL.joinL a ls = joinL a ls := fun ls => by
    induction ls with
    | nil => rfl
    | cons x ls ih =>
      cases ls with
      | nil => rfl
      | cons y r => rw [TL.joinL, joinL, ih, List.append_assoc]
  rw [this]
  rfl
theorem mm_join : MtR X "str.join" (rMM X mJoin) := by
  intro pins s σ H x xs v us Q I rx rv hh
  obtain ⟨r, h, a, as, hs, ra, rs, w⟩ := hh
  have key : ∀ (a : CP) (vs : List MV) (zs : List V) (p : Addr), RepL X.K X.mg r H vs zs → (SqL X.K H p zs ∨ SqT X.K H p zs) → Wt X.K X.mg (Rep X.K X.mg) r H (fun _ _ _ => False) Q (ofO (mJoinL a vs h)) → ∃ (ys : List Str), (SqL X.K H p (ys.map V.str) ∨ SqT X.K H p (ys.map V.str)) ∧ (ys.map (·.length)).sum + ys.length * (S a).length ≤ 16777216 ∧ Q (.str (Txt.join (S a) ys)) H := by
    intro a vs zs p ql sq w
    unfold mJoinL at w
    split at w
    · rename_i ls hl
      split at w
      · rename_i hz
        rw [strsOf_ok ql hl] at sq
        refine ⟨ls.map S, sq, by rw [← lensum_eq, List.length_map, S_length]; exact hz, ?_⟩
        rw [join_eqS]
        exact Wt.plain hs w (.str _)
      · exact w.elim
    · exact w.elim
  unfold mJoin at w
  split at w
  · obtain ⟨y, rfl, q⟩ := repL1 rs
    cases ra
    cases q with
    | tup sq ql =>
      obtain ⟨ys, h1, h2, h3⟩ := key _ _ _ _ ql (.inr sq) w
      exact mt_join pins s σ H _ _ v us Q I rx rv ⟨_, _, ys, rfl, rfl, h1, h2, h3⟩
  · obtain ⟨y, rfl, q⟩ := repL1 rs
    cases ra
    split at w
    · rename_i ys hl
      obtain ⟨_, zs, rfl, sq, ql⟩ := hs.listV q hl
      obtain ⟨ys, h1, h2, h3⟩ := key _ _ zs _ ql (.inl sq) w
      exact mt_join pins s σ H _ _ v us Q I rx rv ⟨_, _, ys, rfl, rfl, h1, h2, h3⟩
    · exact w.elim
  · exact w.elim
def cntL (c : Nat) : CP → Int
  | [] => 0
  | d :: r => (if d = c then 1 else 0) + cntL c r
theorem cnt_eq (c : Nat) : ∀ l : CP, PyProof.Rows.cnt c l = cntL c l
  | [] => rfl
  | d :: r => by rw [PyProof.Rows.cnt_cons, cntL, cnt_eq c r]
def mCount : FM
  | .str l, [.str [c]], h => some (.int (cntL c l), h)
  | _, _, _ => none
theorem mm_count : MtR X "str.count" (rMM X mCount) := by
  intro pins s σ H x xs v us Q I rx rv hh
  obtain ⟨r, h, a, as, hs, ra, rs, w⟩ := hh
  unfold mCount at w
  split at w
  · rename_i l c
    obtain ⟨y, rfl, q⟩ := repL1 rs
    cases ra; cases q
    refine mt_count pins s σ H _ _ v us Q I rx rv ⟨_, _, rfl, rfl, ?_⟩
    have e : Txt.count (S l) (S [c]) = cntL c l := by
      rw [← cnt_eq]
      have := PyProof.Rows.count_cnt (S l) c
      rw [S_toList] at this
      exact this
    rw [e]
    exact Wt.plain hs w (.int _)
  · exact w.elim
/-- the last place of a sign, or -1 -/
def lastIx (c : Nat) : CP → Int
  | [] => -1
  | d :: r => if lastIx c r = -1 then (if d = c then 0 else -1) else lastIx c r + 1
theorem lastIx_spec (c : Nat) : ∀ l : CP, (lastIx c l = -1 ∧ ∀ i : Nat, l[i]? ≠ some c) ∨ ∃ i : Nat, lastIx c l = (i : Int) ∧ l[i]? = some c ∧ ∀ k, i < k → l[k]? ≠ some c
  | [] => .inl ⟨rfl, fun i => by simp⟩
  | d :: r => by
    rcases lastIx_spec c r with ⟨e, hn⟩ | ⟨i, e, hi, hn⟩
    · by_cases hd : d = c
      · refine .inr ⟨0, by simp [lastIx, e, hd], by simp [hd], fun k hk => ?_⟩
        cases k with
        | zero => omega
        | succ k => simpa using hn k
      · refine .inl ⟨by simp [lastIx, e, hd], fun i => ?_⟩
        cases i with
        | zero => simpa using hd
        | succ i => simpa using hn i
    · refine .inr ⟨i + 1, ?_, by simpa using hi, fun k hk => ?_⟩
      · rw [lastIx, e, if_neg (by omega)]; omega
      · cases k with
        | zero => omega
        | succ k => simpa using hn k (by omega)
theorem subAt_one (l : CP) (c i : Nat) : Builtin.Str.subAt (S l) (S [c]) i = true ↔ l[i]? = some c := by
  unfold Builtin.Str.subAt
  rw [beq_iff_eq]
  constructor
  · intro h
    have h2 := congrArg Array.toList h
    have h3 : (l.drop i).take 1 = [c] := by simpa [S, Str.length, List.extract_eq_take_drop] using h2
    have : (l.drop i)[0]? = some c := by
      have := congrArg (fun z => z[0]?) h3
      simpa using this
    simpa using this
  · intro h
    apply Array.ext'
    obtain ⟨h1, h2⟩ := List.getElem?_eq_some_iff.mp h
    have : (l.drop i).take 1 = [c] := by
      rw [List.drop_eq_getElem_cons h1, h2]
      simp
    simpa [S, Str.length, List.extract_eq_take_drop] using this
theorem rfind_eq (l : CP) (c : Nat) : Txt.rfind (S l) (S [c]) = lastIx c l := by
  have hat : ∀ i, StrLaws.At (S l) (S [c]) (S l).length i ↔ l[i]? = some c := fun i => by
    unfold StrLaws.At
    rw [subAt_one, S_length, S_length]
    constructor
    · exact fun h => h.2
    · intro h
      refine ⟨?_, h⟩
      have := (List.getElem?_eq_some_iff.mp h).1
      show i + 1 ≤ l.length
      omega
  rcases PyProof.Rows.rfind_whole (S l) (S [c]) with ⟨e, hn⟩ | ⟨i, e, hi, hn⟩ <;> rcases lastIx_spec c l with ⟨e', hn'⟩ | ⟨j, e', hj, hn'⟩
  · rw [e, e']
  · exact absurd ((hat j).mpr hj) (hn j)
  · exact absurd ((hat i).mp hi) (hn' i)
  · rw [e, e']
    have h1 : ¬ i < j := fun z => hn j z ((hat j).mpr hj)
    have h2 : ¬ j < i := fun z => hn' i z ((hat i).mp hi)
    have : i = j := by omega
    rw [this]
def mRfind : FM
  | .str l, [.str [c]], h => some (.int (lastIx c l), h)
  | _, _, _ => none
theorem mm_rfind : MtR X "str.rfind" (rMM X mRfind) := by
  intro pins s σ H x xs v us Q I rx rv hh
  obtain ⟨r, h, a, as, hs, ra, rs, w⟩ := hh
  unfold mRfind at w
  split at w
  · rename_i l c
    obtain ⟨y, rfl, q⟩ := repL1 rs
    cases ra; cases q
    refine mt_rfind pins s σ H _ _ v us Q I rx rv ⟨_, _, rfl, rfl, ?_⟩
    rw [rfind_eq]
    exact Wt.plain hs w (.int _)
  · exact w.elim
/-- the first place of a sign -/
def firstIx (c : Nat) : CP → Option Nat
  | [] => none
  | d :: r => if d = c then some 0 else (firstIx c r).map (· + 1)
def mIndexS : FM
  | .str l, [.str [c]], h => match firstIx c l with
    | some i => some (.int (i : Nat), h)
    | none => none
  | _, _, _ => none
theorem firstIx_spec (c : Nat) : ∀ {l : CP} {i : Nat}, firstIx c l = some i → l[i]? = some c ∧ ∀ k, k < i → l[k]? ≠ some c
  | [], i, e => by cases e
  | d :: r, i, e => by
    simp only [firstIx] at e
    split at e
    · rename_i hd
      cases e
      exact ⟨by simp [hd], fun k hk => by omega⟩
    · rename_i hd
      simp only [Option.map_eq_some_iff] at e
      obtain ⟨j, e1, rfl⟩ := e
      obtain ⟨h1, h2⟩ := firstIx_spec c e1
      refine ⟨by simpa using h1, fun k hk => ?_⟩
      cases k with
      | zero => simpa using hd
      | succ k => simpa using h2 k (by omega)
def mStarts : FM
  | .str l, [.str m], h => some (.bl (m.isPrefixOf l), h)
  | _, _, _ => none
def mSplit : FM
  | .str l, [.str [c]], h => if c < 256 ∧ l.length + 2 ≤ sizeLine then some (.ref h.length, h ++ [.lst ((TL.spl [c] 0 [] l).map .str)]) else none
  | _, _, _ => none
theorem repL_strs {K : PySem.W.Frag} {mg : Str → Option Value} {r : List Addr} {H : Hp} : ∀ ls : List CP, RepL K mg r H (ls.map .str) ((ls.map S).map V.str)
  | [] => .nil
  | l :: ls => .cons (.str l) (repL_strs ls)
theorem mm_split : MtR X "str.split" (rMM X mSplit) := by
  intro pins s σ H x xs v us Q I rx rv hh
  obtain ⟨r, h, a, as, hs, ra, rs, w⟩ := hh
  unfold mSplit at w
  split at w
  · rename_i l c
    split at w
    · rename_i hl
      obtain ⟨y, rfl, q⟩ := repL1 rs
      cases ra; cases q
      refine mt_split pins s σ H _ _ v us Q I rx rv ⟨_, _, rfl, rfl, rfl, by rw [S_length]; exact hl.2, fun p hp => ?_⟩
      have e : Txt.split (S l) (S [c]) = (TL.spl [c] 0 [] l).map S := SX.split_S (List.cons_ne_nil _ _) (by simp [hl.1])
      rw [e]
      obtain ⟨po, re⟩ := hs.newL hp (repL_strs (TL.spl [c] 0 [] l))
      exact w _ _ _ po re
    · exact w.elim
  · exact w.elim
/-! dicts -/
def mGetD : FM
  | .ref n, [y], h => (dLook h n y).map fun o => (o.getD .non, h)
  | .ref n, [y, d], h => (dLook h n y).map fun o => (o.getD d, h)
  | _, _, _ => none
theorem mm_get (hu : X.A.units + 64 < cLine) : MtR X "dict.get" (rMM X mGetD) := by
  intro pins s σ H x xs v us Q I rx rv hh
  obtain ⟨r, h, a, as, hs, ra, rs, w⟩ := hh
  unfold mGetD at w
  split at w
  · rename_i n y
    obtain ⟨z, rfl, q⟩ := repL1 rs
    cases ra with
    | ref en =>
      cases e : dLook h n y with
      | none => rw [e] at w; exact w.elim
      | some o =>
        rw [e] at w
        obtain ⟨ov, g, h1, h2⟩ := dLook_ok hs en q e
        obtain ⟨u, rfl, ru⟩ := vals1 rv
        obtain rfl := (show v = Value.ref _ from rx)
        refine d_get1 (by omega) I g ru fun w' s' I' rw' => ⟨ov.getD .non, H, I', rw', ?_⟩
        cases o with
        | none => rw [h2 rfl]; exact Wt.plain hs w .non
        | some v' => obtain ⟨z, ez, qz⟩ := h1 v' rfl; rw [ez]; exact Wt.plain hs w qz
  · rename_i n y d
    obtain ⟨z, z2, rfl, q, q2⟩ := repL2 rs
    cases ra with
    | ref en =>
      cases e : dLook h n y with
      | none => rw [e] at w; exact w.elim
      | some o =>
        rw [e] at w
        obtain ⟨ov, g, h1, h2⟩ := dLook_ok hs en q e
        obtain ⟨u, u2, rfl, ru, ru2⟩ := vals2 rv
        obtain rfl := (show v = Value.ref _ from rx)
        refine d_get2 (by omega) I g ru ru2 fun w' s' I' rw' => ⟨ov.getD z2, H, I', rw', ?_⟩
        cases o with
        | none => rw [h2 rfl]; exact Wt.plain hs w q2
        | some v' => obtain ⟨z, ez, qz⟩ := h1 v' rfl; rw [ez]; exact Wt.plain hs w qz
  · exact w.elim
/-! ### stores -/
def dHas {κ : Type} [DecidableEq κ] (k : κ) (kvs : List (κ × MV)) : Bool := kvs.any fun p => decide (p.1 = k)
def dPut {κ : Type} [DecidableEq κ] (k : κ) (v : MV) (kvs : List (κ × MV)) : List (κ × MV) := if dHas k kvs = true then kvs.map (fun p => if p.1 = k then (p.1, v) else p) else kvs ++ [(k, v)]
def mSet (o i v : MV) (h : MH) : Option MH := match o with
  | .ref n => match h[n]? with
    | some (.lst xs) => (match i with
      | .int k => (ixN xs.length k).map fun j => h.set n (.lst (xs.set j v))
      | _ => none)
    | some (.dK kvs) => (match keyOf i with
      | some k => if kvs.length < sizeLine then some (h.set n (.dK (dPut k v kvs))) else none
      | none => none)
    | _ => none
  | _ => none
theorem paired_append {α β : Type} {F : α → β → Prop} : ∀ {a : List α} {b : List β} {c : List α} {d : List β}, Paired F a b → Paired F c d → Paired F (a ++ c) (b ++ d)
  | _, _, _, _, .nil, s => s
  | _, _, _, _, .cons q t, s => .cons q (paired_append t s)
theorem dHas_ok {K : PySem.W.Frag} {mg : Str → Option Value} {r : List Addr} {H : Hp} {k : MK} : ∀ {kvs : List (MK × MV)} {ys : List (Key × V)}, RepK K mg r H kvs ys → (ys.any fun kv => decide (kv.1 = mk k)) = dHas k kvs
  | _, _, .nil => rfl
  | _, _, .cons (a := p) (b := y) e t => by
    unfold dHas
    rw [List.any_cons, List.any_cons, dHas_ok t, e.1]
    have : decide (mk p.1 = mk k) = decide (p.1 = k) := by
      by_cases h : p.1 = k
      · rw [decide_eq_true h, decide_eq_true (by rw [h])]
      · rw [decide_eq_false h, decide_eq_false (fun z => h (mk_inj z))]
    rw [this]
    rfl
theorem putK_ok {K : PySem.W.Frag} {mg : Str → Option Value} {r : List Addr} {H : Hp} {k : MK} {v : MV} {x : V} (q : Rep K mg r H v x) {kvs : List (MK × MV)} {ys : List (Key × V)} (h : RepK K mg r H kvs ys) : RepK K mg r H (dPut k v kvs) (putK ys (mk k) x) := by
  unfold dPut putK
  rw [dHas_ok h]
  split
  · have : ∀ {kvs : List (MK × MV)} {ys : List (Key × V)}, RepK K mg r H kvs ys → RepK K mg r H (kvs.map fun p => if p.1 = k then (p.1, v) else p) (ys.map fun kv => if kv.1 = mk k then (kv.1, x) else kv) := by
      intro kvs
      induction kvs with
      | nil => intro ys h; cases h; exact .nil
      | cons p kvs ih =>
        intro ys h
        cases h with
        | @cons _ y _ ys e t =>
          rw [List.map_cons, List.map_cons]
          refine .cons ?_ (ih t)
          by_cases hk : p.1 = k
          · rw [if_pos hk, if_pos (by rw [e.1, hk])]
            exact ⟨e.1, q⟩
          · rw [if_neg hk, if_neg (fun z => hk (mk_inj (e.1.symm.trans z)))]
            exact e
    exact this h
  · exact paired_append h (.cons ⟨rfl, q⟩ .nil)
/-- a dict is written -/
theorem HS.putD {K : PySem.W.Frag} {mg : Str → Option Value} {r : List Addr} {h : MH} {H : Hp} (hs : HS K mg r h H) {n : Nat} {p : Addr} (en : r[n]? = some p) {xs : List (MK × MV)} {ys : List (Key × V)} (q : RepK K mg r H xs ys) {zs : List (Key × V)} (e0 : H p = some (.dK zs)) :
    Post K mg r H r (h.set n (.dK xs)) (upd H p (.dK ys)) := by
  have hpr : p ∈ r := List.mem_of_getElem? en
  have ht : Kp K H (upd H p (.dK ys)) := Kp.upd fun o e => by
    obtain ⟨o', e', q⟩ := hs.plain hpr
    rw [e] at e'
    cases e'
    exact q
  exact hs.put en ⟨_, rfl, paired_mono (fun _ _ z => ⟨z.1, Rep.mono ht (fun _ _ z => z) _ _ z.2⟩) q⟩ (fun _ _ z => by rw [e0] at z; cases z)
def sSub (o i e : ME) : MS := fun s h => (e s h).bindS s fun v h1 => (o s h1).bindS s fun x h2 => (i s h2).bindS s fun y h3 => match mSet x y v h3 with
  | some h4 => .nx s h4
  | none => .stuck
theorem set_ok (hu : X.A.units + 64 < cLine) {r : List Addr} {h h' : MH} {H : Hp} {a b c : MV} {x y z : V} (hs : HS X.K X.mg r h H) (ra : Rep X.K X.mg r H a x) (rb : Rep X.K X.mg r H b y) (rc : Rep X.K X.mg r H c z) (e : mSet a b c h = some h')
    {pins : List (Addr × Obj)} {s : Shared} {σ : L2.St} {ov iv u : Value} (I : L2.Inv X pins σ H s) (ro : RelV x ov) (ri : RelV y iv) (rv : RelV z u) : wpAny (model X.prog X.w) X.A (setItem ov iv u) (fun _ s' => ∃ H', L2.Inv X pins σ H' s' ∧ Post X.K X.mg r H r h' H') X.xe s := by
  unfold mSet at e
  split at e
  · rename_i n
    cases ra with
    | ref en =>
      split at e
      · rename_i xs h1
        obtain ⟨ys, e1, ql⟩ := hs.lookup en h1
        split at e
        · rename_i k
          cases rb
          simp only [Option.map_eq_some_iff] at e
          obtain ⟨j, e2, rfl⟩ := e
          rw [ql.length] at e2
          exact set_list pins s σ H _ _ z ov iv u _ I ro ri rv ⟨_, ys, k, j, rfl, rfl, e1, e2, hs.putL en (ql.set rc j) e1⟩
        · cases e
      · rename_i kvs h1
        obtain ⟨ys, e1, ql⟩ := hs.lookup en h1
        split at e
        · rename_i k hk
          split at e
          · rename_i hl
            cases e
            obtain rfl := (show ov = Value.ref _ from ro)
            rw [keyOf_ok rb hk] at ri
            exact d_setItem (by omega) I (DPut.k e1 (by rw [← paired_len ql]; exact hl)) ri rv fun s' I' => ⟨_, I', hs.putD en (putK_ok rc ql) e1⟩
          · cases e
        · cases e
      · cases e
  · cases e
theorem ms_sub (hu : X.A.units + 64 < cLine) {i : Expr} {mi me : ME} {pos' : Pos} (ho : PEm X W o mo) (hi : PEm X W i mi) (hv : PEm X W e me) (hsw : swapsWith e (some (.Subscript o i pos')) pos.line X.env = pure false := by rfl) : PSm X W (.Assign [.Subscript o i pos'] e pos) (sSub mo mi me) := by
  refine ⟨fun pins s0 σ H D I hh => ?_⟩
  obtain ⟨r, sm, h, hs, ss, w⟩ := hh
  refine wpAny_Assign_Subscript (thn (hv.run pins s0 σ H (fun z H1 => ∃ r1 h1 v, HS X.K X.mg r1 h1 H1 ∧ SS X.K X.mg r1 H1 sm σ ∧ Rep X.K X.mg r1 H1 v z ∧ WtS X.K X.mg W r1 H1 D ((mo sm h1).bindS sm fun x h2 => (mi sm h2).bindS sm fun y h3 => match mSet x y v h3 with
    | some h4 => .nx sm h4
    | none => .stuck)) I (tM_bindS hs ss w fun r1 h1 v z H1 hs1 ss1 p1 q1 w1 => ⟨r1, h1, v, hs1, ss1, q1, w1⟩)) fun u s1 ⟨z, H1, I1, rz, r1, h1, v, hs1, ss1, q1, w1⟩ => ?_) hsw
  refine thn (ho.run pins s1 σ H1 (fun x H2 => ∃ r2 h2 a, HS X.K X.mg r2 h2 H2 ∧ SS X.K X.mg r2 H2 sm σ ∧ Rep X.K X.mg r2 H2 v z ∧ Rep X.K X.mg r2 H2 a x ∧ WtS X.K X.mg W r2 H2 D ((mi sm h2).bindS sm fun y h3 => match mSet a y v h3 with
    | some h4 => .nx sm h4
    | none => .stuck)) I1 (tM_bindS hs1 ss1 w1 fun r2 h2 a x H2 hs2 ss2 p2 q2 w2 => ⟨r2, h2, a, hs2, ss2, p2.rep hs1 q1, q2, w2⟩)) fun ov s2 ⟨x, H2, I2, rx, r2, h2, a, hs2, ss2, q1, q2, w2⟩ => ?_
  refine thn (hi.run pins s2 σ H2 (fun y H3 => ∃ r3 h3 b, HS X.K X.mg r3 h3 H3 ∧ SS X.K X.mg r3 H3 sm σ ∧ Rep X.K X.mg r3 H3 v z ∧ Rep X.K X.mg r3 H3 a x ∧ Rep X.K X.mg r3 H3 b y ∧ WtS X.K X.mg W r3 H3 D (match mSet a b v h3 with
    | some h4 => .nx sm h4
    | none => .stuck)) I2 (tM_bindS hs2 ss2 w2 fun r3 h3 b y H3 hs3 ss3 p3 q3 w3 => ⟨r3, h3, b, hs3, ss3, p3.rep hs2 q1, p3.rep hs2 q2, q3, w3⟩)) fun iv s3 ⟨y, H3, I3, ry, r3, h3, b, hs3, ss3, q1, q2, q3, w3⟩ => ?_
  cases em : mSet a b v h3 with
  | none => rw [em] at w3; exact w3.elim
  | some h4 =>
    rw [em] at w3
    exact thn (set_ok hu hs3 q2 q3 q1 em I3 rx ry rz) fun _ s4 ⟨H4, I4, p4⟩ => ⟨σ, H4, I4, w3 _ _ _ p4 (ss3.post hs3 p4)⟩
/-! ### op= -/
def mIAdd : F2
  | .int i, .int j, h => some (.int (i + j), h)
  | .str a, .str b, h => if a.length + b.length ≤ sizeLine then some (.str (a ++ b), h) else none
  | .ref m, .ref n, h => match h[m]?, h[n]? with
    | some (.lst a), some (.lst b) => if a.length + b.length ≤ sizeLine then some (.ref m, h.set m (.lst (a ++ b))) else none
    | _, _ => none
  | _, _, _ => none
theorem im_add : OpR X (inplaceOp .Add) (rM X.K X.mg mIAdd) := by
  intro pins s σ H x y v u Q I rx ry hh
  obtain ⟨r, h, a, b, hs, ra, rb, w⟩ := hh
  cases a <;> cases b <;> first | exact w.elim | skip
  case int.int i j =>
    cases ra; cases rb
    exact iop_add pins s σ H _ _ v u Q I rx ry ⟨i, j, rfl, rfl, w.plain hs (.int _)⟩
  case str.str i j =>
    cases ra; cases rb
    simp only [mIAdd] at w
    split at w
    · rename_i hl
      refine iop_add_str pins s σ H _ _ v u Q I rx ry ⟨S i, S j, rfl, rfl, by simpa [S_length] using hl, ?_⟩
      rw [S_append]
      exact w.plain hs (.str _)
    · exact w.elim
  case ref.ref i j =>
    cases ra with | ref ea => cases rb with | ref eb =>
    simp only [mIAdd] at w
    split at w
    · rename_i xa xb h1 h2
      split at w
      · rename_i hl
        obtain ⟨ya, e1, q1⟩ := hs.lookup ea h1
        obtain ⟨yb, e2, q2⟩ := hs.lookup eb h2
        refine iop_ext pins s σ H _ _ v u Q I rx ry ⟨_, _, ya, yb, rfl, rfl, e1, e2, by rw [← q1.length, ← q2.length]; exact hl, ?_⟩
        have po := hs.putL ea (q1.append q2) e1
        exact w _ _ _ po (.ref ea)
      · exact w.elim
    · exact w.elim
def mISub : F2
  | .int i, .int j, h => some (.int (i - j), h)
  | _, _, _ => none
theorem im_sub : OpR X (inplaceOp .Sub) (rM X.K X.mg mISub) := by
  intro pins s σ H x y v u Q I rx ry hh
  obtain ⟨r, h, a, b, hs, ra, rb, w⟩ := hh
  cases a <;> cases b <;> first | exact w.elim | skip
  cases ra; cases rb
  exact iop_sub pins s σ H _ _ v u Q I rx ry ⟨_, _, rfl, rfl, w.plain hs (.int _)⟩
def sAug (i : Nat) (f : F2) (e : ME) : MS := fun s h => match s[i]? with
  | some (some x) => (e s h).bindS s fun y h1 => match f x y h1 with
    | some (z, h2) => .nx (s.set i (some z)) h2
    | none => .stuck
  | _ => .stuck
theorem ms_aug {i : Nat} {f : F2} {op : Operator} {me : ME} {pos' : Pos} (hN : X.N.Nodup) (hi : X.N[i]? = some x) (hx : Loc X.env.scope x) (ho : OpR X (inplaceOp op) (rM X.K X.mg f)) (he : PEm X W e me) (hf : X.fn x = true ∨ X.env.scope.names.lookup x = some .local := by first | exact .inl rfl | exact .inr rfl | assumption) :
    PSm X W (.AugAssign (.Name x pos') op e pos) (sAug i f me) := (ps_aug (ti := rM X.K X.mg f) hN hi hx he ho hf).mimp fun D s H ⟨r, sm, h, hs, ss, w⟩ => by
  unfold sAug at w
  split at w
  · rename_i v ev
    obtain ⟨y, e1, q⟩ := ss.at_ i v ev
    refine ⟨y, e1, tM_bindS hs ss w fun r1 h1 u z H1 hs1 ss1 p1 q1 w1 => ⟨r1, h1, v, u, hs1, p1.rep hs q, q1, ?_⟩⟩
    revert w1
    cases f v u h1 with
    | none => intro w1; exact w1.elim
    | some pz =>
      obtain ⟨z, h2⟩ := pz
      intro w1 r2 H2 y2 p2 q2
      exact w1 r2 _ H2 p2 ((ss1.post hs1 p2).set q2 i)
  · exact w.elim
def sFldAug (cs : List CP) (f : CP) (g : F2) (o e : ME) : MS := fun s h => (o s h).bindS s fun y h1 => match y with
  | .ref n => match h1[n]? with
    | some (.ins c fs) => if cs.contains c then (match getF f fs with
      | some v => (e s h1).bindS s fun u h2 => match g v u h2 with
        | some (z, h3) => (match h3[n]? with
          | some (.ins c' fs') => if c' == c && decide (fs'.length < 1000) then .nx s (h3.set n (.ins c (setF f z fs'))) else .stuck
          | _ => .stuck)
        | none => .stuck
      | none => .stuck) else .stuck
    | _ => .stuck
  | _ => .stuck
theorem ms_fldaug {cs : List CP} {f : CP} {g : F2} {op : Operator} {me : ME} {tpos : Pos} (hc : HasF X cs x) (hop : OpR X (inplaceOp op) (rM X.K X.mg g)) (ho : PEm X W o mo) (hv : PEm X W e me) (hxx : x = S f := by decide +kernel) : PSm X W (.AugAssign (.Attribute o x tpos) op e pos) (sFldAug cs f g mo me) := (ps_fldaug (rd := rM X.K X.mg g) ho hv (fun pins s σ H x y u v Q I rx ry hh => hop pins s σ H x y u v Q I rx ry hh)).mimp fun D s H ⟨r, sm, h, hs, ss, w⟩ =>
  tM_bindS hs ss w fun r1 h1 v y H1 hs1 ss1 p1 q1 w1 => by
    subst hxx
    split at w1
    · rename_i n
      cases q1 with
      | ref en =>
        split at w1
        · rename_i c' fs ho
          split at w1
          · rename_i hcc
            obtain ⟨C, hC, cl, na⟩ := hc c' (List.contains_iff_mem.mp hcc)
            split at w1
            · rename_i v hv
              obtain ⟨dx, ys, e1, q⟩ := ins_of hs1 en ho hC
              obtain ⟨z, e2, q2⟩ := q.get hv
              refine ⟨_, C, dx, ys, z, rfl, e1, cl, na, e2, tM_bindS hs1 ss1 w1 fun r2 h2 u y2 H2 hs2 ss2 p2 q3 w2 => ⟨r2, h2, v, u, hs2, p2.rep hs1 q2, q3, ?_⟩⟩
              revert w2
              cases g v u h2 with
              | none => intro w2; exact w2.elim
              | some pz =>
                obtain ⟨z2, h3⟩ := pz
                intro w2 r3 H3 y3 p3 q4
                dsimp only at w2
                split at w2
                · rename_i c2 fs2 ho2
                  split at w2
                  · rename_i hcc2
                    rw [Bool.and_eq_true, beq_iff_eq, decide_eq_true_eq] at hcc2
                    obtain ⟨rfl, hl⟩ := hcc2
                    have en3 := p3.ix _ _ (p2.ix _ _ en)
                    obtain ⟨dx2, ys2, e5, q5⟩ := ins_of p3.hs en3 ho2 hC
                    have po := put_ins (f := f) (dx := dx2) p3.hs en3 hC q5 q4 (fun _ _ z => by rw [e5] at z; cases z)
                    exact ⟨dx2, ys2, e5, by rw [← paired_len q5]; exact hl, w2 r3 s _ (p3.trans po) ((ss2.post hs2 p3).post p3.hs po)⟩
                  · exact w2.elim
                · exact w2.elim
            · exact w1.elim
          · exact w1.elim
        · exact w1.elim
    · exact w1.elim
/-! ### [::-1] -/
def eRev (a : ME) : ME := fun s h => (a s h).bind fun x h1 => match x with
  | .str l => if l.length ≤ sizeLine then .ok (.str l.reverse) h1 else .stuck
  | x => match lstV h1 x with
    | some xs => .ok (.ref h1.length) (h1 ++ [.lst xs.reverse])
    | none => .stuck
end
end MP

namespace MP
open PySem PySem.Spec PyProof.Rows L2

/-- within a comprehension nothing is raised -/
abbrev W0 : WX := fun _ _ _ _ => False
/-! ### targets of a comprehension: a name, a row of names -/
inductive Tg where
  | one (i : Nat)
  | row (is : List Nat)
def setAll (s : Sl) : List Nat → List MV → Option Sl
  | [], [] => some s
  | i :: is, v :: vs => setAll (s.set i (some v)) is vs
  | _, _ => none
def Tg.run (t : Tg) (v : MV) (s : Sl) : Option Sl := match t with
  | .one i => some (s.set i (some v))
  | .row is => match v with
    | .tup xs => setAll s is xs
    | _ => none
def tgs : List Nat → TGs
  | [] => gNil
  | i :: is => gCons (gName i) (tgs is)
def Tg.tg (K : PySem.W.Frag) (t : Tg) : TG := match t with
  | .one i => gName i
  | .row is => gTup K is.length (tgs is)
def Tg.own (t : Tg) : List Nat := match t with
  | .one i => [i]
  | .row is => is
def wipeM (s : Sl) : List Nat → Sl
  | [] => s
  | v :: vs => (wipeM s vs).set v none
theorem wipe_set {σ : L2.St} {i : Nat} {x : Option V} : ∀ {vs : List Nat}, i ∈ vs → wipe (σ.set i x) vs = wipe σ vs
  | [], h => nomatch h
  | v :: vs, h => by
    unfold wipe
    by_cases hv : i ∈ vs
    · rw [wipe_set hv]
    · have e : i = v := by
        rcases List.mem_cons.mp h with e | e
        · exact e
        · exact absurd e hv
      subst e
      -- i is not wiped by vs: the set passes through, and is overwritten
      have pass : ∀ {us : List Nat}, i ∉ us → wipe (σ.set i x) us = (wipe σ us).set i x := by
        intro us
        induction us with
        | nil => intro _; rfl
        | cons u us ih =>
          intro hu
          unfold wipe
          rw [ih (fun z => hu (List.mem_cons_of_mem _ z))]
          have hne : i ≠ u := fun z => hu (by rw [z]; exact List.mem_cons_self)
          rw [List.set_comm _ _ hne]
      rw [pass hv, List.set_set]
theorem wipe_wipe (σ : L2.St) (vs : List Nat) : L2.wipe (L2.wipe σ vs) vs = L2.wipe σ vs := by
  have : ∀ (us : List Nat), (∀ u ∈ us, u ∈ vs) → L2.wipe (L2.wipe σ us) vs = L2.wipe σ vs := by
    intro us
    induction us with
    | nil => intro _; rfl
    | cons u us ih =>
      intro hu
      show L2.wipe ((L2.wipe σ us).set u none) vs = L2.wipe σ vs
      rw [wipe_set (hu u List.mem_cons_self)]
      exact ih fun x hx => hu x (List.mem_cons_of_mem _ hx)
  exact this vs fun _ z => z
theorem SS.wipe {K : PySem.W.Frag} {mg : Str → Option Value} {r : List Addr} {H : Hp} {m : Sl} {s : L2.St} (y : SS K mg r H m s) : ∀ vs : List Nat, SS K mg r H (wipeM m vs) (L2.wipe s vs)
  | [] => y
  | v :: vs => by
    have ih := SS.wipe y vs
    refine ⟨by simp only [wipeM, L2.wipe, List.length_set, ih.len], fun i w e => ?_⟩
    unfold wipeM at e
    unfold L2.wipe
    by_cases hi : v = i
    · subst hi
      by_cases hv : v < (wipeM m vs).length
      · rw [List.getElem?_set_self hv] at e; cases e
      · rw [List.getElem?_eq_none (by simpa using hv)] at e; cases e
    · rw [List.getElem?_set_ne hi] at e
      rw [List.getElem?_set_ne hi]
      exact ih.at_ i w e
theorem tgs_ok {K : PySem.W.Frag} {mg : Str → Option Value} {r : List Addr} {H : Hp} {ws : List Nat} : ∀ {is : List Nat} {m m2 : Sl} {s : L2.St} {vs : List MV} {xs : List V} {Q : L2.St → Hp → Prop}, SS K mg r H m s → RepL K mg r H vs xs → setAll m is vs = some m2 → (∀ i ∈ is, i ∈ ws) →
    (∀ s2, SS K mg r H m2 s2 → L2.wipe s2 ws = L2.wipe s ws → s2.length = s.length → Q s2 H) → xs.length = is.length ∧ tgs is xs s H Q
  | [], m, m2, s, [], _, Q, ss, .nil, e, _, k => by cases e; exact ⟨rfl, rfl, k s ss rfl rfl⟩
  | i :: is, m, m2, s, v :: vs, _, Q, ss, .cons q qs, e, hw, k => by
    obtain ⟨hl, h⟩ := tgs_ok (ws := ws) (Q := Q) (ss.set q i) qs e (fun j hj => hw j (List.mem_cons_of_mem _ hj)) fun s2 ss2 e2 l2 => k s2 ss2 (e2.trans (wipe_set (hw i List.mem_cons_self))) (by rw [l2, List.length_set])
    exact ⟨by rw [List.length_cons, List.length_cons, hl], _, _, rfl, h⟩
  | [], _, _, _, _ :: _, _, _, _, _, e, _, _ => by cases e
  | _ :: _, _, _, _, [], _, _, _, _, e, _, _ => by cases e
theorem tg_ok {K : PySem.W.Frag} {mg : Str → Option Value} {r : List Addr} {H : Hp} {ws : List Nat} {t : Tg} {m m2 : Sl} {s : L2.St} {v : MV} {x : V} {Q : L2.St → Hp → Prop} (ss : SS K mg r H m s) (q : Rep K mg r H v x) (e : t.run v m = some m2) (hw : ∀ i ∈ t.own, i ∈ ws)
    (k : ∀ s2, SS K mg r H m2 s2 → L2.wipe s2 ws = L2.wipe s ws → s2.length = s.length → Q s2 H) : t.tg K x s H Q := by
  cases t with
  | one i =>
    cases e
    exact k _ (ss.set q i) (wipe_set (hw i (by simp [Tg.own]))) (by rw [List.length_set])
  | row is =>
    cases v with
    | tup xs =>
      cases q with
      | tup sq ql =>
        obtain ⟨hl, h⟩ := tgs_ok ss ql e hw k
        exact ⟨_, _, rfl, sq, hl, h⟩
    | _ => cases e
/-! ### a comprehension of one for -/
def tYesM : MT := fun _ h => .ok true h
def lcM (it : MIt) (t : Tg) (tt : MT) (te : ME) (sw : Sl) (n : Nat) : Nat → List MV → MH → R MV :=
  Nat.rec (fun i acc h => match it.at h i with
    | some none => .ok (.ref h.length) (h ++ [.lst acc])
    | _ => .stuck)
  (fun _ go i acc h => match it.at h i with
    | some none => .ok (.ref h.length) (h ++ [.lst acc])
    | some (some v) => match t.run v sw with
      | some s2 => match tt s2 h with
        | .ok true h3 => (match te s2 h3 with
          | .ok y h4 => if acc.length < sizeLine then go (i + 1) (acc ++ [y]) h4 else .stuck
          | _ => .stuck)
        | .ok false h3 => go (i + 1) acc h3
        | _ => .stuck
      | none => .stuck
    | none => .stuck) n
theorem lcM_zero (it : MIt) (t : Tg) (tt : MT) (te : ME) (sw : Sl) (i : Nat) (acc : List MV) (h : MH) : lcM it t tt te sw 0 i acc h = match it.at h i with
    | some none => .ok (.ref h.length) (h ++ [.lst acc])
    | _ => .stuck := rfl
theorem lcM_succ (it : MIt) (t : Tg) (tt : MT) (te : ME) (sw : Sl) (n i : Nat) (acc : List MV) (h : MH) : lcM it t tt te sw (n + 1) i acc h = match it.at h i with
    | some none => .ok (.ref h.length) (h ++ [.lst acc])
    | some (some v) => match t.run v sw with
      | some s2 => match tt s2 h with
        | .ok true h3 => (match te s2 h3 with
          | .ok y h4 => if acc.length < sizeLine then lcM it t tt te sw n (i + 1) (acc ++ [y]) h4 else .stuck
          | _ => .stuck)
        | .ok false h3 => lcM it t tt te sw n (i + 1) acc h3
        | _ => .stuck
      | none => .stuck
    | none => .stuck := rfl
def eLc (mi : MI) (ws : List Nat) (t : Tg) (tt : MT) (te : ME) : ME := fun s h => (mi s h).bind fun it h1 => lcM it t tt te (wipeM s ws) (it.fuel h1) 0 [] h1
section
variable {X : Cx} {W : WX} {elt tg iter c : Expr} {ifs : List Expr} {scope : Scope} {own : List (Str × Nat)} {pos : Pos} {mi : MI} {t : Tg} {tt : MT} {te : ME}
theorem mts_nil {W : WX} : PTs X [] (tMT X.K X.mg W tYesM) := ⟨fun pins s σ H Q I hh => by
  obtain ⟨r, sm, h, hs, ss, w⟩ := hh
  exact pts_nil.run pins s σ H Q I (Wt.plainB hs w)⟩
theorem mts_one {W : WX} {mt : MT} (h : PTm X W c mt) : PTs X [c] (tMT X.K X.mg W mt) := pts_one h
/-- what is kept by a step that knows nothing of D -/
theorem Post.at_ {K : PySem.W.Frag} {mg : Str → Option Value} {r r' : List Addr} {h' : MH} {H H' : Hp} (p : Post K mg r H r' h' H') {D : Addr} {o : HO} (hD : H D = some o) (hn : D ∉ r) (nt : noTbl o := by intro _ z; cases z) : H' D = some o ∧ D ∉ r' := ⟨p.keep hn hD nt, (p.fr D o hn hD (.inl nt)).1⟩
/-- the list that grows: an object beside the mirror's heap -/
theorem HS.side {K : PySem.W.Frag} {mg : Str → Option Value} {r : List Addr} {h : MH} {H : Hp} (hs : HS K mg r h H) {D : Addr} {o u : HO} (hn : D ∉ r) (ho : H D = some o) (hnt : plainO o) : HS K mg r h (upd H D u) ∧ Kp K H (upd H D u) := by
  have hpl : ∀ o', H D = some o' → plainO o' := fun o' e => by
    rw [ho] at e
    cases e
    exact hnt
  have ht : Kp K H (upd H D u) := Kp.upd hpl
  refine ⟨⟨hs.len, hs.nd, fun n o a e1 e2 => ?_, tabs_upd hpl hs.tb⟩, ht⟩
  have hne : a ≠ D := fun z => hn (z ▸ List.mem_of_getElem? e2)
  rw [upd_ne hne]
  exact (hs.at_ n o a e1 e2).mono ht fun _ _ z => z
theorem tLc_of (hw : ∀ i ∈ t.own, i ∈ own.map (·.2)) : ∀ (s : L2.St) (H : Hp) (Q : VK), tM X.K X.mg W (eLc mi (own.map (·.2)) t tt te) s H Q → tLc (tMI X.K X.mg W mi) (t.tg X.K) (tMT X.K X.mg W0 tt) (tM X.K X.mg W0 te) (own.map (·.2)) s H Q := fun s H Q ⟨r, sm, h, hs, ss, w⟩ => by
  refine ⟨r, sm, h, hs, ss, (Wt.bind (rel := IR X.K X.mg) w).imp (fun _ _ _ z => z) fun J H1 ⟨r1, h1, it, p1, ir, w1⟩ D hD => ?_⟩
  have ss1 := ss.post hs p1
  -- the mirror's heap beside D
  have pD := p1.hs.extra (u := .lst []) hD
  have hDr1 : D ∉ r1 := p1.hs.notNone hD
  refine ⟨fun i m H' => ∃ r' h' acc ys, Post X.K X.mg r1 H1 r' h' H' ∧ D ∉ r' ∧ H' D = some (.lst ys) ∧ RepL X.K X.mg r' H' acc ys ∧ Wt X.K X.mg (Rep X.K X.mg) r1 H1 (fun c d H2 => W c d s H2) Q (lcM it t tt te (wipeM sm (own.map (·.2))) m i acc h'),
    ⟨it.fuel h1, r1, h1, [], [], pD, hDr1, upd_same, .nil, w1⟩, ?_⟩
  rintro i m H' ⟨r', h', acc, ys, p', hDr, eD, ql, w'⟩
  obtain ⟨st, gs⟩ := ir r' h' H' i p'
  have fin : Wt X.K X.mg (Rep X.K X.mg) r1 H1 (fun c d H2 => W c d s H2) Q (.ok (.ref h'.length) (h' ++ [.lst acc])) → Q (.ref D) H' := fun w2 => by
    have hm : ∀ (n : Nat) (z : Addr), r'[n]? = some z → (r' ++ [D])[n]? = some z := fun n z e => by
      rw [List.getElem?_append_left (List.getElem?_eq_some_iff.mp e).1]; exact e
    refine w2 (r' ++ [D]) H' (.ref D) ⟨?_, ⟨by simp [p'.hs.len], ?_, fun n o a e1 e2 => ?_, p'.hs.tb⟩, fun b o hb e t => ⟨?_, (p'.fr b o hb e t).2⟩, p'.fz⟩ (.ref (by rw [← p'.hs.len]; simp))
    · obtain ⟨u, hu⟩ := p'.pre
      exact ⟨u ++ [D], by rw [hu, List.append_assoc]⟩
    · rw [List.nodup_append]
      refine ⟨p'.hs.nd, by simp, fun a ha b hb z => ?_⟩
      have : b = D := by simpa using hb
      subst this
      subst z
      exact hDr ha
    · by_cases hn : n < r'.length
      · have hl : n < h'.length := by rw [← p'.hs.len]; exact hn
        rw [List.getElem?_append_left hn] at e2
        rw [List.getElem?_append_left hl] at e1
        exact (p'.hs.at_ n o a e1 e2).mono Kp.refl hm
      · have hn' : r'.length ≤ n := by omega
        have hl' : h'.length ≤ n := by rw [← p'.hs.len]; exact hn'
        rw [List.getElem?_append_right hn'] at e2
        rw [List.getElem?_append_right hl'] at e1
        have z : n - r'.length = 0 := by
          have := (List.getElem?_eq_some_iff.mp e2).1
          simp at this
          omega
        rw [z] at e2
        rw [← p'.hs.len, z] at e1
        simp at e1 e2
        subst e1 e2
        rw [eD]
        exact ⟨ys, rfl, RepL.mono Kp.refl hm _ _ ql⟩
    · intro hm'
      rcases List.mem_append.mp hm' with z | z
      · exact (p'.fr b o hb e t).1 z
      · have : b = D := by simpa using z
        subst this
        rw [hD] at e; cases e
  cases m with
  | zero =>
    rw [lcM_zero] at w'
    split at w'
    · rename_i e
      exact .inl ⟨st e, fin w'⟩
    · exact w'.elim
  | succ m =>
    rw [lcM_succ] at w'
    split at w'
    · rename_i e
      exact .inl ⟨st e, fin w'⟩
    · rename_i v e
      obtain ⟨go, yl⟩ := gs v e
      split at w'
      · rename_i s2 es2
        refine .inr ⟨go, fun H2 => ∃ r' h' acc ys, Post X.K X.mg r1 H1 r' h' H2 ∧ D ∉ r' ∧ H2 D = some (.lst ys) ∧ RepL X.K X.mg r' H2 acc ys ∧ Wt X.K X.mg (Rep X.K X.mg) r1 H1 (fun c d H3 => W c d s H3) Q (lcM it t tt te (wipeM sm (own.map (·.2))) m (i + 1) acc h'), fun H2 z => ⟨m, Nat.lt_succ_self m, z⟩, fun x H2 y => ?_⟩
        obtain ⟨p2, q2⟩ := yl x H2 y
        have eD2 := p2.at_ eD hDr
        have ql2 := p2.repL p'.hs ql
        have pp := p'.trans p2
        have ssw : SS X.K X.mg r' H2 (wipeM sm (own.map (·.2))) (L2.wipe s (own.map (·.2))) := (((ss1.post p1.hs p').post p'.hs p2)).wipe _
        refine tg_ok (ws := own.map (·.2)) ssw q2 es2 hw fun σ2 ss2 ew hlen => ⟨ew.trans ?_, ?_⟩
        · -- wiping twice is wiping once
          exact wipe_wipe _ _
        · refine ⟨r', s2, h', p2.hs, ss2, ?_⟩
          cases et : tt s2 h' with
          | stuck => rw [et] at w'; exact w'.elim
          | err x h3 => rw [et] at w'; exact w'.elim
          | ok b h3 =>
            rw [et] at w'
            intro r3 H3 b' p3 eb
            subst eb
            have eD3 := p3.at_ eD2.1 eD2.2
            cases b with
            | false => exact iteF ⟨r3, h3, acc, ys, pp.trans p3, eD3.2, eD3.1, p3.repL p2.hs ql2, w'⟩
            | true =>
              refine iteT ⟨r3, s2, h3, p3.hs, ss2.post p2.hs p3, ?_⟩
              dsimp only at w'
              cases ee : te s2 h3 with
              | stuck => rw [ee] at w'; exact w'.elim
              | err x h4 => rw [ee] at w'; exact w'.elim
              | ok y4 h4 =>
                rw [ee] at w'
                dsimp only at w'
                split at w'
                · rename_i hz
                  intro r4 H4 z4 p4 q4
                  have eD4 := p4.at_ eD3.1 eD3.2
                  have ql4 := p4.repL p3.hs (p3.repL p2.hs ql2)
                  refine ⟨ys, eD4.1, by rw [← ql4.length]; exact hz, ?_⟩
                  obtain ⟨hs5, ht5⟩ := p4.hs.side (u := .lst (ys ++ [z4])) eD4.2 eD4.1 trivial
                  have p5 := (pp.trans p3).trans p4
                  refine ⟨r4, h4, acc ++ [y4], ys ++ [z4], ⟨p5.pre, hs5, fun b o hb eb t => ⟨(p5.fr b o hb eb t).1, ?_⟩, fun b o u eb => by rw [upd_ne (fun (z : b = D) => by rw [z, hD] at eb; cases eb)]; exact p5.fz b o u eb⟩, eD4.2, upd_same, ?_, w'⟩
                  · have hne : b ≠ D := fun z => by rw [z, hD] at eb; cases eb
                    rw [upd_ne hne]
                    exact (p5.fr b o hb eb t).2
                  · exact (RepL.mono ht5 (fun _ _ z => z) _ _ ql4).append (.cons (Rep.mono ht5 (fun _ _ z => z) _ _ q4) .nil)
                · exact w'.elim
      · exact w'.elim
    · exact w'.elim
theorem me_lc (hc : X.calm = true) (hN : X.N.Nodup) (hi : PIm X W tg iter mi) (ok : BlkOk X.N X.env.scope scope own) (hw : ∀ i ∈ t.own, i ∈ own.map (·.2))
    (hg : ∀ (s : Shared) (H : Hp) (C : Addr) (cl : List (Str × Addr)) (fp : List Addr), PG (X.blk s H scope (compEnvC scope cl C X.env) fp) tg (t.tg X.K))
    (ht : ∀ (s : Shared) (H : Hp) (C : Addr) (cl : List (Str × Addr)) (fp : List Addr), PTs (X.blk s H scope (compEnvC scope cl C X.env) fp) ifs (tMT X.K X.mg W0 tt))
    (he : ∀ (s : Shared) (H : Hp) (C : Addr) (cl : List (Str × Addr)) (fp : List Addr), PEm (X.blk s H scope (compEnvC scope cl C X.env) fp) W0 elt te) (hfs : ∀ x, foldedSetIterable iter X.env x = pure x := by intro _; rfl) :
    PEm X W (.ListComp elt [⟨tg, iter, ifs, 0⟩] scope pos) (eLc mi (own.map (·.2)) t tt te) := (pe_lc hc hN hi ok hg ht he hfs).mimp (tLc_of hw)
theorem ms_setLc {i : Nat} {y : Str} {py spos : Pos} (hc : X.calm = true) (hN : X.N.Nodup) (hy : X.N[i]? = some y) (hyl : X.env.scope.names.lookup y = some .local)
    (hsw : swapsWith (.ListComp elt [⟨tg, iter, ifs, 0⟩] scope pos) (some (.Name y py)) spos.line X.env = pure true) (hi : PIm X W tg iter mi) (ok : BlkOk X.N X.env.scope scope own) (hw : ∀ i ∈ t.own, i ∈ own.map (·.2))
    (hg : ∀ (s : Shared) (H : Hp) (C : Addr) (cl : List (Str × Addr)) (fp : List Addr), PG (X.blk s H scope (compEnvC scope cl C X.env) fp) tg (t.tg X.K))
    (ht : ∀ (s : Shared) (H : Hp) (C : Addr) (cl : List (Str × Addr)) (fp : List Addr), PTs (X.blk s H scope (compEnvC scope cl C X.env) fp) ifs (tMT X.K X.mg W0 tt))
    (he : ∀ (s : Shared) (H : Hp) (C : Addr) (cl : List (Str × Addr)) (fp : List Addr), PEm (X.blk s H scope (compEnvC scope cl C X.env) fp) W0 elt te) (hfs : ∀ x, foldedSetIterable iter X.env x = pure x := by intro _; rfl) :
    PSm X W (.Assign [.Name y py] (.ListComp elt [⟨tg, iter, ifs, 0⟩] scope pos) spos) (sAsg (eLc mi (own.map (·.2)) t tt te) (gNm i)) := (ps_setLc hc hN hy hyl hsw hi ok hg ht he hfs).mimp fun D s H ⟨r, sm, h, hs, ss, w⟩ =>
  tLc_of hw s H _ (tM_bindS hs ss w fun r1 h1 v x H1 hs1 ss1 p1 q1 w1 => WtS.nx hs1 (ss1.set q1 i) w1)
end
end MP

namespace MP
open PySem PySem.Spec PyProof.Rows L2
/-! ### enumerate of what stands still: a text or a tuple

One proof for all that draws (PySem.Draws): WalksT.enumerateD tells the walk, here it is turned into L2's Turn. -/
def ItE (K : PySem.W.Frag) (H0 : Hp) (n : Nat) (ys : Nat → Option V) : It :=
  ⟨fun i H => i < n ∧ ∀ a xs, SqT K H0 a xs → SqT K H a xs, fun i H v H' => ∃ T x, v = .ref T ∧ H T = none ∧ H' = upd H T (.tup [.int (i : Nat), x]) ∧ ys i = some x, fun i H => n ≤ i ∧ ∀ a xs, SqT K H0 a xs → SqT K H a xs⟩
/-- how far the enumerate at e, over the iterator at it, has come: j turns, at most n -/
def EnAt (n : Nat) (e it : Addr) (At : Nat → Heap → Prop) (j : Nat) (h : Heap) : Prop := j ≤ n ∧ (∃ old, IsEnum h e it (j : Int) old) ∧ At j h
/-- what one must know of the things gone through: their iterator draws, wherever the walk stands, what ys says -/
structure Still (P : Program) (w : World) (K : PySem.W.Frag) (H0 : Hp) (n : Nat) (ys : Nat → Option V) (e it : Addr) (At : Nat → Heap → Prop) : Prop where
  ne : e ≠ it
  cell : ∀ j h, At j h → ∃ o, h.get? it = some o ∧ ∀ v, o.data ≠ .cell v
  move : ∀ j h h', At j h → (∀ o, h.get? it = some o → h'.get? it = some o) → At j h'
  draw : ∀ (X : Cx) (pins : List (Addr × Obj)) (σ : L2.St) (H : Hp) (s : Shared) (j : Nat), X.prog = P → X.w = w → X.K = K → X.calm = true → L2.Inv X pins σ H s → (∀ a xs, SqT K H0 a xs → SqT K H a xs) → At j s.heap →
    ∃ (fp : List Addr) (Pv : Nat → Value → Prop) (S : Nat → Heap → Prop), Draws P w X.A.in1 it fp n Pv S ∧ it ∈ fp ∧ e ∉ fp ∧ S j s.heap ∧ (∀ k h, S k h → At k h) ∧ ∀ k v, Pv k v → ∃ x, ys k = some x ∧ RelV x v
section
variable {P : Program} {w : World} {K : PySem.W.Frag} {elts : List Expr} {kk : Nat} {tpos : Pos} {H0 : Hp} {n : Nat} {ys : Nat → Option V} {e it : Addr} {At : Nat → Heap → Prop}
theorem two_mem {b : Addr} (hb : b ∈ [e, it]) : b = e ∨ b = it := by
  cases hb with
  | head => exact .inl rfl
  | tail _ q => exact .inr (List.mem_singleton.mp q)
theorem Still.turn (S : Still P w K H0 n ys e it At) : Turn P w K (.Tuple elts kk tpos) (ItE K H0 n ys) [e, it] e (EnAt n e it At) where
  mem := List.mem_cons_self ..
  obj j h st b hb := by
    cases two_mem hb with
    | inl q =>
      obtain ⟨old, he⟩ := st.2.1
      exact q ▸ ⟨_, he, fun v z => by cases z⟩
    | inr q => exact q ▸ S.cell j h st.2.2
  keep j h h' st k := ⟨st.1, st.2.1.imp fun old he => k e (List.mem_cons_self ..) _ he, S.move j h h' st.2.2 fun o q => k it (List.mem_cons_of_mem _ (List.mem_cons_self ..)) o q⟩
  item X hP hw hK hc j pins s σ H E I hf st hg := by
    obtain ⟨fp, Pv, Sd, D, hif, hef, hS, hAt, hv⟩ := S.draw X pins σ H s j hP hw hK hc I hg.2 st.2.2
    cases hP
    cases hw
    cases hK
    have W := WalksT.enumerateD D e S.ne hef hif
    apply W.item j s _ E hg.1 ⟨st.2.1, hS⟩
    intro T vals h1 tk pt hT hv1 mid k1
    refine ⟨_, rfl, W.go elts kk tpos j T { s with heap := h1, toks := tk } _ E mid fun h2 st2 k2 => ?_⟩
    obtain ⟨t, v, pv, rfl⟩ := pt
    obtain ⟨x, ex, rx⟩ := hv j v pv
    have hT2 : IsTup h2 T #[.int (j : Int) t, v] := hv1.at fun o q => k2 T o (W.apart j T h1 mid) q
    have I2 := I.turnedNew (t' := tk) (h' := h2) (ch := [e, it]) (ob := .tup [.int (j : Nat), x]) (fun b o hb q => k2 b o hb (k1 b o hb q)) hf hT ⟨(by decide : 2 ≤ sizeLine), _, .cons ⟨t, rfl⟩ (.cons rx .nil), hT2⟩
    refine ⟨.ref T, _, I2, rfl, ⟨T, x, rfl, I.hok.fresh hT, rfl, ex⟩, ⟨hg.1, st2.1, hAt _ _ st2.2⟩, fun b hb => ?_⟩
    have hbT : b ≠ T := fun q => W.apart j T h1 mid (q ▸ hb)
    exact (upd_ne hbT).trans (hf b hb).1
  done X hP hw hK hc j pins s σ H E I hf st hg := by
    obtain ⟨fp, Pv, Sd, D, hif, hef, hS, hAt, hv⟩ := S.draw X pins σ H s j hP hw hK hc I hg.2 st.2.2
    cases hP
    cases hw
    cases hK
    obtain rfl : j = n := Nat.le_antisymm st.1 hg.1
    exact (WalksT.enumerateD D e S.ne hef hif).done s _ E ⟨st.2.1, hS⟩ fun h1 tk k => ⟨rfl, I.turnedL k hf⟩
  self A j s Q E st h := by
    obtain ⟨old, he⟩ := st.2.1
    exact wpAny_pyIter_enum he h
theorem still_text (x : Str) (t : Tok) (hne : e ≠ it) : Still P w K H0 x.cps.size (fun i => x.cps[i]?.map fun c => .str ⟨#[c]⟩) e it (fun j h => h.IsStrIter it (strIterType x) x t j) where
  ne := hne
  cell j h st := by
    obtain ⟨o, ho, _, hd⟩ := st
    exact ⟨o, ho, fun v q => by cases hd.symm.trans q⟩
  move j h h' st k := by
    obtain ⟨o, ho, r⟩ := st
    exact ⟨o, k o ho, r⟩
  draw X pins σ H s j hP hw hK hc I hq st := by
    refine ⟨_, _, _, Draws.text (A := X.A.in1) (I.ok.hd hc) it x t, List.mem_singleton.mpr rfl, fun q => hne (List.mem_singleton.mp q), st, fun _ _ q => q, fun k v hv => ?_⟩
    obtain ⟨c, u, ec, rfl⟩ := hv
    exact ⟨.str ⟨#[c]⟩, by simp only [ec, Option.map_some], u, rfl⟩
theorem still_tuple (a : Addr) (xs : List V) (hq0 : SqT K H0 a xs) (hne : e ≠ it) (hea : e ≠ a) (hai : a ≠ it) : Still P w K H0 xs.length (fun i => xs[i]?) e it (fun j h => h.IsTupleIter it a j) where
  ne := hne
  cell j h st := by
    obtain ⟨o, ho, _, hd⟩ := st
    exact ⟨o, ho, fun v q => by cases hd.symm.trans q⟩
  move j h h' st k := st.at k
  draw X pins σ H s j hP hw hK hc I hq st := by
    cases hK
    obtain ⟨its, rv, p, _⟩ := I.tuple (hq a xs hq0)
    have D : Draws P w X.A.in1 it [it, a] its.toArray.size _ _ := Draws.tuple (A := X.A.in1) (I.ok.hd hc) it a hai its.toArray
    rw [List.size_toArray, ← rv.length] at D
    refine ⟨_, _, _, D, List.mem_cons_self .., fun q => ?_, ⟨st, p⟩, fun _ _ q => q.1, fun k v hv => ?_⟩
    · exact (two_mem q).elim hne hea
    · rw [List.getElem?_toArray] at hv
      have hk : k < xs.length := by rw [rv.length]; exact (List.getElem?_eq_some_iff.mp hv).1
      obtain ⟨v', e1, r1⟩ := rv.get (List.getElem?_eq_getElem hk)
      exact ⟨_, List.getElem?_eq_getElem hk, Option.some.inj (e1.symm.trans hv) ▸ r1⟩
end
/-- the two cells that enumerate of a tuple lays -/
abbrev enIt (a : Addr) : Obj := { cls := .type "tuple_iterator", data := .fields #[.ref a, .int 0 0] }
abbrev enOb (it : Addr) : Obj := { cls := .type "enumerate", data := .fields #[.none, .bool false, .ref it, rawInt 0, .none, .none] }
theorem new_enumT (a : Addr) (its : Array Value) : Meets (Builtin.«enumerate.__new__» ⟨[.type "enumerate", .ref a], []⟩) fun _ R s =>
    s.heap.IsTuple a its ∧ R (.ok (.ret (.ref (s.heap.push (enIt a)).objs.size))) { s with heap := (s.heap.push (enIt a)).push (enOb s.heap.objs.size) } := by
  refine .of_wp fun P w A R s hs => ?_
  obtain ⟨ht, hr⟩ := hs
  cases s with
  | mk hp g d tk os =>
    have sub := sub_enumerate
    have go {A' : Around} {E Q : Value → Shared → Prop} (q : Q (.ref hp.objs.size) ⟨hp.push (enIt a), g, d, tk, os⟩) : wpAny (model P w) A' (pyIter (.ref a)) Q E ⟨hp, g, d, tk, os⟩ := wpAny_pyIter_tuple ht q
    wp_walk using go
    apply wpAny_stack_any
    intro top
    apply wpAny_pure
    split
    case h_1 => generalize (_ == Value.type "enumerate") = b; cases b <;> (wp_walk using go; exact ⟨_, rfl, hr⟩)
    all_goals (wp_walk using go; exact ⟨_, rfl, hr⟩)
theorem call_enumT {P : Program} {w : World} {A : Around} {E : Value → Shared → Prop} {s : Shared} {a : Addr} {its : Array Value} {Q : Value → Shared → Prop} (ht : s.heap.IsTuple a its)
    (q : Q (.ref (s.heap.objs.size + 1)) { s with heap := (s.heap.push (enIt a)).push (enOb s.heap.objs.size) }) : wpAny (model P w) A (call (.type "enumerate") [.ref a]) Q E s := by
  have sz : (s.heap.push (enIt a)).objs.size = s.heap.objs.size + 1 := Heap.size_push ..
  have at1 := Heap.get?_push_size (s.heap.push (enIt a)) (o := enOb s.heap.objs.size) rfl
  exact callType_new F.called_enumerate (by decide) (F.typeCall_enumerate_1 _) (F.newCall_enumerate_1 _) (fun o => F.args_object_init_2 o _) F.entry_enumerate_new (new_enumT a its) ⟨ht, ⟨_, at1, rfl⟩, sz.symm ▸ q⟩
def iEnumX (K : PySem.W.Frag) (ta : TA) : TI := fun σ H R => ta σ H fun vs H1 => (∃ x, vs = [.str x] ∧ R (ItE K H1 x.cps.size fun i => x.cps[i]?.map fun c => .str ⟨#[c]⟩) H1) ∨ ∃ a ys, vs = [.ref a] ∧ SqT K H1 a ys ∧ R (ItE K H1 ys.length fun i => ys[i]?) H1
theorem pi_enumX {X : Cx} {e : Expr} {ta : TA} {p pos tpos : Pos} {elts : List Expr} {kk : Nat} (hg : Gl X "enumerate") (hm : X.mg "enumerate" = none) (ha : PA X [e] ta) (hs : starEach [e] X.env = [(false, eval e X.env)] := by rfl) :
    PI X (.Tuple elts kk tpos) (.Call (.Name "enumerate" p) [e] [] pos) (iEnumX X.K ta) := by
  constructor
  intro pins s σ H Rr I h
  refine Call_ ?_
  apply ld_blt I hg hm boot_enumerate
  refine PyProof.Rows.callWith_type1 (thn (ha.run pos pins s σ H _ I h) ?_) hs rfl
  rintro us s1 ⟨vs, H1, I1, r1, q1⟩
  have new (b : Addr) (hb : b ∈ [s1.heap.objs.size + 1, s1.heap.objs.size]) : FpOk X pins H1 b := by
    have le : s1.heap.objs.size ≤ b := (two_mem hb).elim (fun z => z ▸ Nat.le_succ _) fun z => Nat.le_of_eq z.symm
    exact I1.fpOk le (I1.hok.fresh le)
  cases q1 with
  | inl q =>
    obtain ⟨x, rfl, q⟩ := q
    obtain ⟨u, rfl, t, rfl⟩ := vals1 r1
    apply call_enumerate_str
    intro h' he hit _ hk
    exact wpAny_pyIter_enum he ⟨_, _, _, _, H1, rfl, I1.kept (t' := s1.toks) hk, (still_text x t (Nat.succ_ne_self _)).turn, ⟨Nat.zero_le _, ⟨_, he⟩, hit⟩, new, q⟩
  | inr q =>
    obtain ⟨a, ys, rfl, hq, q⟩ := q
    obtain ⟨u, rfl, ru⟩ := vals1 r1
    cases (show u = Value.ref a from ru)
    obtain ⟨its, _, tp, _⟩ := I1.tuple hq
    have lt : a < s1.heap.objs.size := tp.lt
    apply call_enumT tp
    have sz : (s1.heap.push (enIt a)).objs.size = s1.heap.objs.size + 1 := Heap.size_push ..
    have he : IsEnum ((s1.heap.push (enIt a)).push (enOb s1.heap.objs.size)) (s1.heap.objs.size + 1) s1.heap.objs.size 0 .none := sz ▸ Heap.get?_push_size (s1.heap.push (enIt a)) rfl
    have hit : ((s1.heap.push (enIt a)).push (enOb s1.heap.objs.size)).IsTupleIter s1.heap.objs.size a 0 := ⟨_, Heap.get?_push_of_some _ (Heap.get?_push_size s1.heap (o := enIt a) rfl), rfl, rfl⟩
    exact wpAny_pyIter_enum he ⟨_, _, _, _, H1, rfl, I1.kept (t' := s1.toks) fun b o z => Heap.get?_push_of_some _ (Heap.get?_push_of_some _ z), (still_tuple a ys hq (Nat.succ_ne_self _) (Nat.ne_of_gt (Nat.lt_succ_of_lt lt)) (Nat.ne_of_lt lt)).turn, ⟨Nat.zero_le _, ⟨_, he⟩, hit⟩, new, q⟩
/-! ### enumerate in the mirror -/
def enumL (i : Nat) : List MV → List MV
  | [] => []
  | x :: xs => .tup [.int (i : Nat), x] :: enumL (i + 1) xs
theorem enumL_get : ∀ (xs : List MV) (k i : Nat), (enumL k xs)[i]? = xs[i]?.map fun x => .tup [.int ((k + i : Nat) : Int), x]
  | [], _, i => by simp [enumL]
  | x :: xs, k, 0 => by simp [enumL]
  | x :: xs, k, i + 1 => by
    simp only [enumL, List.getElem?_cons_succ]
    rw [enumL_get xs (k + 1) i]
    have : k + 1 + i = k + (i + 1) := by omega
    rw [this]
def jEnum (a : MA) : MI := fun s h => (a s h).bind fun xs h1 => match xs with
  | [.str l] => .ok (.items (enumL 0 (l.map fun c => .str [c]))) h1
  | [.tup xs] => .ok (.items (enumL 0 xs)) h1
  | [.ro xs] => .ok (.items (enumL 0 xs)) h1
  | [.lv xs] => .ok (.items (enumL 0 xs)) h1
  | [.ref n] => (match lstAt h1 n with
    | some _ => .ok (.enumL n) h1
    | none => .stuck)
  | _ => .stuck
section
variable {X : Cx} {W : WX} {e : Expr} {ms : MA} {p pos tpos : Pos} {elts : List Expr} {kk : Nat}
theorem ir_itE {K : PySem.W.Frag} {mg : Str → Option Value} {r0 : List Addr} {h0 : MH} {H0 : Hp} {vs : List MV} {ys : List V} (hs : HS K mg r0 h0 H0) (q : RepL K mg r0 H0 vs ys) : IR K mg r0 H0 (.items (enumL 0 vs)) (ItE K H0 ys.length fun i => ys[i]?) := fun r h H i po => by
  have hl := q.length
  have hat : MIt.at (.items (enumL 0 vs)) h i = some (vs[i]?.map fun x => .tup [.int (i : Int), x]) := by
    simp only [MIt.at, enumL_get, Nat.zero_add]
  refine ⟨fun e => ⟨?_, po.sqT hs⟩, fun v e => ?_⟩
  · rw [hat] at e
    have : vs[i]? = none := by simpa using e
    rw [← hl]
    exact List.getElem?_eq_none_iff.mp this
  · rw [hat] at e
    cases ev : vs[i]? with
    | none => rw [ev] at e; cases e
    | some u =>
      rw [ev] at e
      have ee : MV.tup [.int (i : Int), u] = v := by simpa using e
      obtain ⟨y, ey, qy⟩ := q.get ev
      refine ⟨⟨by rw [← hl]; exact (List.getElem?_eq_some_iff.mp ev).1, po.sqT hs⟩, fun x H' yl => ?_⟩
      obtain ⟨T, z, rfl, hT, rfl, ez⟩ := yl
      have ez : ys[i]? = some z := ez
      rw [ey] at ez
      cases ez
      rw [← ee]
      exact po.hs.newT hT (.cons (.int _) (.cons (po.rep hs qy) .nil))
theorem ir_enumL {K : PySem.W.Frag} {mg : Str → Option Value} {r0 : List Addr} {H0 : Hp} {n : Nat} {p : Addr} (e : r0[n]? = some p) : IR K mg r0 H0 (.enumL n) (Ite K p) := fun r h H i po => by
  refine ⟨fun q => ?_, fun v q => ?_⟩
  · simp only [MIt.at, Option.map_eq_some_iff] at q
    obtain ⟨xs, l, q⟩ := q
    obtain ⟨ys, sq, ql⟩ := post_list po e l
    exact ⟨ys, sq, by rw [← ql.length]; exact List.getElem?_eq_none_iff.mp (by simpa using q)⟩
  · simp only [MIt.at, Option.map_eq_some_iff] at q
    obtain ⟨xs, l, u, q, rfl⟩ := q
    obtain ⟨ys, sq, ql⟩ := post_list po e l
    obtain ⟨y, e1, q1⟩ := ql.get q
    refine ⟨⟨ys, y, sq, e1⟩, fun x H' yl => ?_⟩
    obtain ⟨T, z, rfl, hT, rfl, yl⟩ := yl
    have := yl ys sq
    rw [e1] at this
    cases this
    exact po.hs.newT hT (.cons (.int _) (.cons q1 .nil))
theorem ir_roE {K : PySem.W.Frag} {mg : Str → Option Value} {r0 : List Addr} {h0 : MH} {H0 : Hp} {vs : List MV} {ys : List V} {a : Addr} (hs : HS K mg r0 h0 H0) (sq : ∀ H, Kp K H0 H → SqL K H a ys) (q : RepL K mg r0 H0 vs ys) : IR K mg r0 H0 (.items (enumL 0 vs)) (Ite K a) := fun r h H i po => by
  have hl := q.length
  have st := sq H (po.kp hs)
  have hat : MIt.at (.items (enumL 0 vs)) h i = some (vs[i]?.map fun x => .tup [.int (i : Int), x]) := by
    simp only [MIt.at, enumL_get, Nat.zero_add]
  refine ⟨fun e => ⟨ys, st, ?_⟩, fun v e => ?_⟩
  · rw [hat] at e
    have : vs[i]? = none := by simpa using e
    rw [← hl]
    exact List.getElem?_eq_none_iff.mp this
  · rw [hat] at e
    cases ev : vs[i]? with
    | none => rw [ev] at e; cases e
    | some u =>
      rw [ev] at e
      have ee : MV.tup [.int (i : Int), u] = v := by simpa using e
      obtain ⟨y, ey, qy⟩ := q.get ev
      refine ⟨⟨ys, y, st, ey⟩, fun x H' yl => ?_⟩
      obtain ⟨T, z, rfl, hT, rfl, ez⟩ := yl
      have ez := ez ys st
      rw [ey] at ez
      cases ez
      rw [← ee]
      exact po.hs.newT hT (.cons (.int _) (.cons (po.rep hs qy) .nil))
theorem mi_enum (hg : Gl X "enumerate") (hm : X.mg "enumerate" = none) (ha : PAm X W [e] ms) (hst : starEach [e] X.env = [(false, eval e X.env)] := by rfl) : PIm X W (.Tuple elts kk tpos) (.Call (.Name "enumerate" p) [e] [] pos) (jEnum ms) := by
  refine ⟨fun pins s0 σ H Rr I hh => ?_⟩
  obtain ⟨r, sm, h, hs, ss, w⟩ := hh
  cases ea : ms sm h with
  | stuck => simp only [jEnum, ea, R.bind] at w; exact w.elim
  | err x h1 =>
    refine (pi_enum hg hm ha hst).run pins s0 σ H Rr I ⟨r, sm, h, hs, ss, ?_⟩
    simp only [jEnum, ea, R.bind] at w
    rw [ea]
    exact w
  | ok vs h1 =>
    simp only [jEnum, ea, R.bind] at w
    split at w
    · rename_i l
      refine (pi_enumX hg hm ha hst).run pins s0 σ H Rr I ⟨r, sm, h, hs, ss, ?_⟩
      rw [ea]
      intro r1 H1 x p1 q1
      obtain ⟨y, rfl, q⟩ := repL1 q1
      cases q
      refine .inl ⟨_, rfl, ?_⟩
      have key : RepL X.K X.mg r1 H1 (l.map fun c => MV.str [c]) (l.map fun c => V.str ⟨#[c]⟩) := by
        clear w ea q1
        induction l with
        | nil => exact .nil
        | cons c l ih => exact .cons (.str [c]) ih
      have ir := ir_itE p1.hs key
      have e1 : (S l).cps.size = (l.map fun c => V.str ⟨#[c]⟩).length := by simp [S]
      have e2 : (fun i => (S l).cps[i]?.map fun c => V.str ⟨#[c]⟩) = fun (i : Nat) => (l.map fun c => V.str ⟨#[c]⟩)[i]? := by
        funext i
        simp [S]
      rw [e1, e2]
      exact w r1 H1 _ p1 ir
    · rename_i zs
      refine (pi_enumX hg hm ha hst).run pins s0 σ H Rr I ⟨r, sm, h, hs, ss, ?_⟩
      rw [ea]
      intro r1 H1 x p1 q1
      obtain ⟨y, rfl, q⟩ := repL1 q1
      cases q with
      | tup sq ql => exact .inr ⟨_, _, rfl, sq, w r1 H1 _ p1 (ir_itE p1.hs ql)⟩
    · rename_i zs
      refine (pi_enum hg hm ha hst).run pins s0 σ H Rr I ⟨r, sm, h, hs, ss, ?_⟩
      rw [ea]
      intro r1 H1 x p1 q1
      obtain ⟨y, rfl, q⟩ := repL1 q1
      cases q with
      | ro sq ql => exact ⟨_, _, rfl, sq.sq, w r1 H1 _ p1 (ir_roE p1.hs (fun H kp => (kp.l _ _ sq).sq) ql)⟩
    · rename_i zs
      refine (pi_enum hg hm ha hst).run pins s0 σ H Rr I ⟨r, sm, h, hs, ss, ?_⟩
      rw [ea]
      intro r1 H1 x p1 q1
      obtain ⟨y, rfl, q⟩ := repL1 q1
      cases q with
      | lv sq ql => exact ⟨_, _, rfl, sq.sq, w r1 H1 _ p1 (ir_roE p1.hs (fun H kp => (kp.z _ _ sq).sq) ql)⟩
    · rename_i n
      refine (pi_enum hg hm ha hst).run pins s0 σ H Rr I ⟨r, sm, h, hs, ss, ?_⟩
      rw [ea]
      intro r1 H1 x p1 q1
      obtain ⟨y, rfl, q⟩ := repL1 q1
      split at w
      · rename_i xs l
        cases q with
        | ref en =>
          obtain ⟨ys, sq, ql⟩ := p1.hs.list en l
          exact ⟨_, ys, rfl, sq, w r1 H1 _ p1 (ir_enumL en)⟩
      · exact w.elim
    · exact w.elim
end
end MP

namespace MP
open PySem PySem.Spec PyProof.Rows L2
section
variable {X : Cx} {W : WX} {a b c e e2 : Expr} {es : List Expr} {ma mb mc : ME} {ms : MA} {p pos tpos : Pos} {elts : List Expr} {kk : Nat}
/-! ### - -/
def eNeg (a : ME) : ME := fun s h => (a s h).bind fun x h1 => match x with
  | .int i => .ok (.int (-i)) h1
  | _ => .stuck
theorem me_neg (ha : PEm X W a ma) : PEm X W (.UnaryOp .USub a pos) (eNeg ma) := (pe_un un_neg ha).mimp fun s H Q ⟨r, sm, h, hs, ss, w⟩ =>
  tM_bind hs ss w fun r1 h1 v x H1 hs1 ss1 p1 q1 w1 => by
    cases v with
    | int i => cases q1; exact ⟨i, rfl, Wt.plain hs1 w1 (.int _)⟩
    | _ => exact w1.elim
/-! ### [::-1] -/
theorem rev_S (l : CP) (u : Tok) : Txt.sliceBy (S l) none none (-1, u) = S l.reverse := by
  have h := PyProof.Rows.step_rev_list (S l) u
  have e : (Txt.sliceBy (S l) none none (-1, u)).cps.toList = l.reverse := by
    rw [h, S_length]
    apply List.ext_getElem
    · simp
    · intro i h1 h2
      simp only [List.length_map, List.length_range] at h1
      simp only [S, Array.getD, List.getElem_reverse, List.getElem_map, List.getElem_range, List.size_toArray]
      rw [dif_pos (by omega)]
      rfl
  have : Txt.sliceBy (S l) none none (-1, u) = ⟨l.reverse.toArray⟩ := by
    cases hx : Txt.sliceBy (S l) none none (-1, u) with
    | mk cps =>
      rw [hx] at e
      simp only at e
      rw [← e]
  exact this
theorem me_rev {k : Nat} {pa p2 p3 : Pos} (he : PEm X W e ma) : PEm X W (.Subscript e (.Slice none none (some (.UnaryOp .USub (.Constant (.int 1) k pa) p2)) p3) pos) (eRev ma) := by
  refine ⟨fun pins s0 σ H Q I hh => ?_⟩
  obtain ⟨r, sm, h, hs, ss, w⟩ := hh
  cases ea : ma sm h with
  | stuck => simp only [eRev, ea, R.bind] at w; exact w.elim
  | err x h1 =>
    refine (pe_revL he).run pins s0 σ H Q I ⟨r, sm, h, hs, ss, ?_⟩
    simp only [eRev, ea, R.bind] at w
    rw [ea]
    exact w
  | ok v h1 =>
    simp only [eRev, ea, R.bind] at w
    cases v with
    | str l =>
      dsimp only at w
      split at w
      · rename_i hl
        refine Subscript_ (thn (he.run pins s0 σ H (fun y H1 => ∃ r1, y = .str (S l) ∧ Post X.K X.mg r H r1 h1 H1) I ⟨r, sm, h, hs, ss, by rw [ea]; intro r1 H1 x p1 q1; cases q1; exact ⟨r1, rfl, p1⟩⟩) fun v s1 ⟨x, H1, I1, rx, r1, ex, p1⟩ => ?_)
        subst ex
        obtain ⟨tx, rfl⟩ := rx
        have hst : PO X (some (.UnaryOp .USub (.Constant (.int 1) k pa) p2)) (tPart (tUn (rU fun i => .int (-i)) (tC (.int 1)))) := po_some (pe_un un_neg pe_int)
        have left (t : Shared) (G : Hp) (J : L2.Inv X pins σ G t) := po_none.run pins t σ G (fun o G' => o = none ∧ G' = G) J ⟨rfl, rfl⟩
        refine wpAny_Slice (thn (left s1 H1 I1) fun vl s2 ⟨l2, H2, I2, pl, el, e2⟩ => ?_)
        subst el e2
        refine thn (left s2 H2 I2) fun vu s3 ⟨u, H3, I3, pu, eu, e3⟩ => ?_
        subst eu e3
        have back := hst.run pins s3 σ H3 (fun o G' => o = some (-1) ∧ G' = H3) I3 ⟨1, rfl, -1, rfl, rfl, rfl⟩
        refine thn back fun vs s4 ⟨o, H4, I4, ps, eo, e4⟩ => ?_
        subst eo e4
        have I5 : L2.Inv X pins σ H4 { s4 with heap := s4.heap.push { cls := .type "slice", data := .fields #[vl, vu, vs] } } := I4.kept (t' := s4.toks) fun b ob q => Heap.get?_push_of_some _ q
        show wpAny (model X.prog X.w) X.A (subscriptTail e (.Slice none none (some (.UnaryOp .USub (.Constant (.int 1) k pa) p2)) p3) (.str (S l) tx) (.ref s4.heap.objs.size)) (EP X pins σ Q) X.xe { s4 with heap := s4.heap.push { cls := .type "slice", data := .fields #[vl, vu, vs] } }
        obtain ⟨l0, rfl, hl0⟩ := IsPart.raw pl
        obtain ⟨u0, rfl, hu0⟩ := IsPart.raw pu
        obtain ⟨s0', rfl, hs0⟩ := IsPart.raw ps
        cases l0 with
        | some z => cases hl0
        | none =>
        cases u0 with
        | some z => cases hu0
        | none =>
        cases s0' with
        | none => cases hs0
        | some st =>
        obtain ⟨st1, st2⟩ := st
        have hst1 : st1 = -1 := by simpa using hs0
        subst hst1
        refine tail_any (ops := [.str (S l) tx, .ref s4.heap.objs.size]) (typeIs_str _ _ _) (F.slot_str_getitem.lookup) ?_ (by with_unfolding_all rfl)
        refine wpAny_getItem_str_slice (l := none) (u := none) (st := some (-1, st2)) ⟨_, Heap.get?_push_size _ rfl, rfl, rfl⟩ rfl ?_
        have hres : Q (.str (S l.reverse)) H4 := w r1 H4 _ p1 (.str _)
        rw [← rev_S l st2] at hres
        have hlen : (Txt.sliceBy (S l) none none (-1, st2)).length ≤ sizeLine := by
          rw [rev_S, S_length, List.length_reverse]; exact hl
        unfold Txt.sliceBy at hres hlen
        show Made.post (if ((((some ((-1 : Int), st2)).map (·.1)).getD 1 == 1 && (slicePicked (S l) none none (some (-1, st2))).length == (S l).length) = true) then Made.val (.str (S l) tx)
          else Made.str ⟨((slicePicked (S l) none none (some (-1, st2))).filterMap ((S l).cps[·]?)).toArray⟩) (EP X pins σ Q) _
        split
        · rename_i hcnd
          rw [if_pos hcnd] at hres
          exact ⟨.str (S l), H4, I5, ⟨tx, rfl⟩, hres⟩
        · rename_i hcnd
          rw [if_neg hcnd] at hres hlen
          exact ⟨hlen, .str _, H4, I5.tok _, ⟨_, rfl⟩, hres⟩
      · exact w.elim
    | _ =>
      refine (pe_revL he).run pins s0 σ H Q I ⟨r, sm, h, hs, ss, ?_⟩
      rw [ea]
      intro r1 H1 x p1 q1
      dsimp only at w
      split at w
      · rename_i xs l
        obtain ⟨_, ys, rfl, sq, ql⟩ := p1.hs.listV q1 l
        refine ⟨_, ys, rfl, sq, fun p hp => ?_⟩
        obtain ⟨po, re⟩ := p1.hs.newL hp ql.reverse
        exact w _ _ _ (p1.trans po) re
      · exact w.elim
/-! ### zip -/
def jZip (a : MA) : MI := fun s h => (a s h).bind fun xs h1 => match xs with
  | [.tup xs, .tup ys] => .ok (.items (pairs xs ys)) h1
  | [.ref n, .ref m] => (match lstAt h1 n, lstAt h1 m with
    | some _, some _ => .ok (.zipL n m) h1
    | _, _ => .stuck)
  | [.lv xs, .lv ys] => .ok (.items (pairs xs ys)) h1
  | _ => .stuck
theorem pairs_get : ∀ (xs ys : List MV) (i : Nat), (pairs xs ys)[i]? = (match xs[i]?, ys[i]? with
    | some x, some y => some (.tup [x, y])
    | _, _ => none)
  | [], _, i => by simp [pairs]
  | x :: xs, [], i => by cases h : (x :: xs)[i]? <;> simp [pairs]
  | x :: xs, y :: ys, 0 => by simp [pairs]
  | x :: xs, y :: ys, i + 1 => by simp only [pairs, List.getElem?_cons_succ]; exact pairs_get xs ys i
theorem ir_zipL {K : PySem.W.Frag} {mg : Str → Option Value} {r0 : List Addr} {H0 : Hp} {n m : Nat} {p q : Addr} (e : r0[n]? = some p) (e' : r0[m]? = some q) : IR K mg r0 H0 (.zipL n m) (Itz K p q) := fun r h H i po => by
  have key : ∀ o, MIt.at (.zipL n m) h i = some o → ∃ xs ys, lstAt h n = some xs ∧ lstAt h m = some ys ∧ o = (match xs[i]?, ys[i]? with
      | some x, some y => some (.tup [x, y])
      | _, _ => none) := by
    intro o ho
    simp only [MIt.at] at ho
    split at ho
    · rename_i xs ys h1 h2
      cases ho
      exact ⟨xs, ys, h1, h2, rfl⟩
    · cases ho
  refine ⟨fun q => ?_, fun v q => ?_⟩
  · obtain ⟨xs, ys, l1, l2, q⟩ := key _ q
    obtain ⟨zs, sq, ql⟩ := post_list po e l1
    obtain ⟨zs', sq', ql'⟩ := post_list po e' l2
    refine ⟨zs, zs', sq, sq', ?_⟩
    rw [← ql.length, ← ql'.length]
    split at q
    · cases q
    · rename_i hno
      cases ex : xs[i]? with
      | none => exact .inl (List.getElem?_eq_none_iff.mp ex)
      | some x =>
        cases ey : ys[i]? with
        | none => exact .inr (List.getElem?_eq_none_iff.mp ey)
        | some y => exact absurd ey (hno x y ex)
  · obtain ⟨xs, ys, l1, l2, q⟩ := key _ q
    obtain ⟨zs, sq, ql⟩ := post_list po e l1
    obtain ⟨zs', sq', ql'⟩ := post_list po e' l2
    split at q
    · rename_i x y ex ey
      cases q
      obtain ⟨z1, e1, q1⟩ := ql.get ex
      obtain ⟨z2, e2, q2⟩ := ql'.get ey
      refine ⟨⟨zs, zs', z1, z2, sq, sq', e1, e2⟩, fun x H' yl => ?_⟩
      obtain ⟨T, u1, u2, rfl, hT, rfl, y1, y2⟩ := yl
      have h1 := y1 zs sq
      have h2 := y2 zs' sq'
      rw [e1] at h1
      rw [e2] at h2
      cases h1; cases h2
      exact po.hs.newT hT (.cons q1 (.cons q2 .nil))
    · cases q
theorem ir_zipT {K : PySem.W.Frag} {mg : Str → Option Value} {r0 : List Addr} {h0 : MH} {H0 : Hp} {xs ys : List MV} {zs zs' : List V} {p q : Addr} (hs : HS K mg r0 h0 H0) (sq : SqT K H0 p zs) (ql : RepL K mg r0 H0 xs zs) (sq' : SqT K H0 q zs') (ql' : RepL K mg r0 H0 ys zs') : IR K mg r0 H0 (.items (pairs xs ys)) (RZ.ItzT K p q) := fun r h H i po => by
  have st := po.sqT hs _ _ sq
  have st' := po.sqT hs _ _ sq'
  refine ⟨fun e => ?_, fun v e => ?_⟩
  · simp only [MIt.at, pairs_get, Option.some.injEq] at e
    refine ⟨zs, zs', st, st', ?_⟩
    rw [← ql.length, ← ql'.length]
    split at e
    · cases e
    · rename_i hno
      cases ex : xs[i]? with
      | none => exact .inl (List.getElem?_eq_none_iff.mp ex)
      | some x =>
        cases ey : ys[i]? with
        | none => exact .inr (List.getElem?_eq_none_iff.mp ey)
        | some y => exact absurd ey (hno x y ex)
  · simp only [MIt.at, pairs_get, Option.some.injEq] at e
    split at e
    · rename_i x y ex ey
      cases e
      obtain ⟨z1, e1, q1⟩ := ql.get ex
      obtain ⟨z2, e2, q2⟩ := ql'.get ey
      refine ⟨⟨zs, zs', z1, z2, st, st', e1, e2⟩, fun x H' yl => ?_⟩
      obtain ⟨T, u1, u2, rfl, hT, rfl, y1, y2⟩ := yl
      have h1 := y1 zs st
      have h2 := y2 zs' st'
      rw [e1] at h1
      rw [e2] at h2
      cases h1; cases h2
      exact po.hs.newT hT (.cons (po.rep hs q1) (.cons (po.rep hs q2) .nil))
    · cases e
theorem ir_zipV {K : PySem.W.Frag} {mg : Str → Option Value} {r0 : List Addr} {h0 : MH} {H0 : Hp} {xs ys : List MV} {zs zs' : List V} {p q : Addr} (hs : HS K mg r0 h0 H0) (sq : FzL H0 p zs) (ql : RepL K mg r0 H0 xs zs) (sq' : FzL H0 q zs') (ql' : RepL K mg r0 H0 ys zs') : IR K mg r0 H0 (.items (pairs xs ys)) (Itz K p q) := fun r h H i po => by
  have st : SqL K H p zs := ((po.kp hs).z _ _ sq).sq
  have st' : SqL K H q zs' := ((po.kp hs).z _ _ sq').sq
  refine ⟨fun e => ?_, fun v e => ?_⟩
  · simp only [MIt.at, pairs_get, Option.some.injEq] at e
    refine ⟨zs, zs', st, st', ?_⟩
    rw [← ql.length, ← ql'.length]
    split at e
    · cases e
    · rename_i hno
      cases ex : xs[i]? with
      | none => exact .inl (List.getElem?_eq_none_iff.mp ex)
      | some x =>
        cases ey : ys[i]? with
        | none => exact .inr (List.getElem?_eq_none_iff.mp ey)
        | some y => exact absurd ey (hno x y ex)
  · simp only [MIt.at, pairs_get, Option.some.injEq] at e
    split at e
    · rename_i x y ex ey
      cases e
      obtain ⟨z1, e1, q1⟩ := ql.get ex
      obtain ⟨z2, e2, q2⟩ := ql'.get ey
      refine ⟨⟨zs, zs', z1, z2, st, st', e1, e2⟩, fun x H' yl => ?_⟩
      obtain ⟨T, u1, u2, rfl, hT, rfl, y1, y2⟩ := yl
      have h1 := y1 zs st
      have h2 := y2 zs' st'
      rw [e1] at h1
      rw [e2] at h2
      cases h1; cases h2
      exact po.hs.newT hT (.cons (po.rep hs q1) (.cons (po.rep hs q2) .nil))
    · cases e
theorem mi_zip (hg : Gl X "zip") (hm : X.mg "zip" = none) (ha : PAm X W [e, e2] ms) (hst : starEach [e, e2] X.env = (false, eval e X.env) :: starEach [e2] X.env := by rfl) (hpl : (backTo pos (starEach [e2] X.env)).any (·.1) = false := by rfl) :
    PIm X W (.Tuple elts kk tpos) (.Call (.Name "zip" p) [e, e2] [] pos) (jZip ms) := (RZ.pi_zipA hg hm ha hst hpl).mimp fun s H Rr ⟨r, sm, h, hs, ss, w⟩ =>
  tMA_bind hs ss w fun r1 h1 vs xs H1 hs1 ss1 p1 q1 w1 => by
    split at w1
    · obtain ⟨x, y, rfl, qa, qb⟩ := repL2 q1
      cases qa with
      | tup sa la => cases qb with
        | tup sb lb => exact ⟨_, _, _, _, rfl, .inr ⟨sa, sb, w1 r1 H1 _ (Post.refl hs1) (ir_zipT hs1 sa la sb lb)⟩⟩
    · obtain ⟨x, y, rfl, qa, qb⟩ := repL2 q1
      split at w1
      · rename_i l1 l2
        cases qa with
        | ref ea => cases qb with
          | ref eb =>
            obtain ⟨ys, sq, ql⟩ := hs1.list ea l1
            obtain ⟨zs, sq', ql'⟩ := hs1.list eb l2
            exact ⟨_, _, ys, zs, rfl, .inl ⟨sq, sq', w1 r1 H1 _ (Post.refl hs1) (ir_zipL ea eb)⟩⟩
      · exact w1.elim
    · obtain ⟨x, y, rfl, qa, qb⟩ := repL2 q1
      cases qa with
      | lv sa la => cases qb with
        | lv sb lb => exact ⟨_, _, _, _, rfl, .inl ⟨sa.sq, sb.sq, w1 r1 H1 _ (Post.refl hs1) (ir_zipV hs1 sa la sb lb)⟩⟩
    · exact w1.elim
/-! ### a, b = x, y -/
theorem ms_par2 {i j : Nat} {x y : Str} {px py pt : Pos} {kt k2 pt2} (hc : X.calm = true) (hN : X.N.Nodup) (hi : X.N[i]? = some x) (hj : X.N[j]? = some y) (hij : i ≠ j)
    (hx : X.env.scope.names.lookup x = some .local) (hy : X.env.scope.names.lookup y = some .local) (ha : PAm X W [a, b] ms)
    (hw : swappedStores [.Tuple [.Name x px, .Name y py] kt pt] (.Tuple [a, b] k2 pt2) X.env = pure (some [x, y]) := by rfl)
    (hsw : swapsWithSole [.Tuple [.Name x px, .Name y py] kt pt] (.Tuple [a, b] k2 pt2) pos.line X.env = pure false := by rfl) : PSm X W (.Assign [.Tuple [.Name x px, .Name y py] kt pt] (.Tuple [a, b] k2 pt2) pos) (sPar i j ms) := (ps_par hc hN hi hj hij hx hy ha hw hsw).mimp fun D s H ⟨r, sm, h, hs, ss, w⟩ =>
  tMA_bindS hs ss w fun r1 h1 v x H1 hs1 ss1 p1 q1 w1 => by
    match v, q1, w1 with
    | [v1, v2], .cons q1 (.cons q2 .nil), w1 => exact ⟨_, _, rfl, WtS.nx hs1 ((ss1.set q1 i).set q2 j) w1⟩
    | [], _, w1 => exact w1.elim
    | [_], _, w1 => exact w1.elim
    | _ :: _ :: _ :: _, _, w1 => exact w1.elim
def sPar3 (i j l : Nat) (a : MA) : MS := fun s h => (a s h).bindS s fun vs h1 => match vs with
  | [u, v, w] => .nx (((s.set i (some u)).set j (some v)).set l (some w)) h1
  | _ => .stuck
theorem ms_par3 {i j l : Nat} {x y z : Str} {px py pz pt : Pos} {kt k2 pt2} (hc : X.calm = true) (hN : X.N.Nodup) (hi : X.N[i]? = some x) (hj : X.N[j]? = some y) (hl : X.N[l]? = some z) (hij : i ≠ j) (hil : i ≠ l) (hjl : j ≠ l)
    (hx : X.env.scope.names.lookup x = some .local) (hy : X.env.scope.names.lookup y = some .local) (hz : X.env.scope.names.lookup z = some .local) (ha : PAm X W [a, b, c] ms)
    (hw : swappedStores [.Tuple [.Name x px, .Name y py, .Name z pz] kt pt] (.Tuple [a, b, c] k2 pt2) X.env = pure (some [x, y, z]) := by rfl)
    (hsw : swapsWithSole [.Tuple [.Name x px, .Name y py, .Name z pz] kt pt] (.Tuple [a, b, c] k2 pt2) pos.line X.env = pure false := by rfl) : PSm X W (.Assign [.Tuple [.Name x px, .Name y py, .Name z pz] kt pt] (.Tuple [a, b, c] k2 pt2) pos) (sPar3 i j l ms) := (ps_par3 hc hN hi hj hl hij hil hjl hx hy hz ha hw hsw).mimp fun D s H ⟨r, sm, h, hs, ss, w⟩ =>
  tMA_bindS hs ss w fun r1 h1 v x H1 hs1 ss1 p1 q1 w1 => by
    match v, q1, w1 with
    | [v1, v2, v3], .cons q1 (.cons q2 (.cons q3 .nil)), w1 => exact ⟨_, _, _, rfl, WtS.nx hs1 (((ss1.set q1 i).set q2 j).set q3 l) w1⟩
    | [], _, w1 => exact w1.elim
    | [_], _, w1 => exact w1.elim
    | [_, _], _, w1 => exact w1.elim
    | _ :: _ :: _ :: _ :: _, _, w1 => exact w1.elim
/-! ### dict displays -/
def eDict0 : ME := fun _ h => .ok (.ref h.length) (h ++ [.dK []])
theorem HS.newD {K : PySem.W.Frag} {mg : Str → Option Value} {r : List Addr} {h : MH} {H : Hp} (hs : HS K mg r h H) {p : Addr} (hp : H p = none) {xs : List (MK × MV)} {ys : List (Key × V)} (q : RepK K mg r H xs ys) :
    Post K mg r H (r ++ [p]) (h ++ [.dK xs]) (upd H p (.dK ys)) ∧ Rep K mg (r ++ [p]) (upd H p (.dK ys)) (.ref h.length) (.ref p) := by
  have po := hs.extra (u := .dK ys) hp
  have hm : ∀ (n : Nat) (z : Addr), r[n]? = some z → (r ++ [p])[n]? = some z := fun n z e => by
    rw [List.getElem?_append_left (List.getElem?_eq_some_iff.mp e).1]; exact e
  exact ⟨hs.new hp ⟨_, rfl, paired_mono (fun _ _ z => ⟨z.1, Rep.mono Kp.refl hm _ _ (po.rep hs z.2)⟩) q⟩, .ref (by rw [← hs.len]; simp)⟩
theorem me_dict0 : PEm X W (.Dict [] [] pos) eDict0 := pe_dnewK.mimp fun s H Q ⟨r, sm, h, hs, ss, w⟩ p hp => by
  obtain ⟨po, re⟩ := hs.newD (xs := []) (ys := []) hp .nil
  exact w _ _ _ po re
def pairsM : List (ME × ME) → Sl → MH → R (List (MK × MV))
  | [], _, h => .ok [] h
  | (k, v) :: r, s, h => (k s h).bind fun x h1 => (v s h1).bind fun y h2 => (pairsM r s h2).bind fun ps h3 => match keyOf x with
    | some kk => .ok ((kk, y) :: ps) h3
    | none => .stuck
def merge (ps : List (MK × MV)) : List (MK × MV) := ps.foldl (fun acc kv => dPut kv.1 kv.2 acc) []
def eDisp (prs : List (ME × ME)) : ME := fun s h => (pairsM prs s h).bind fun ps h1 => if ps.length ≤ 15 then .ok (.ref h1.length) (h1 ++ [.dK (merge ps)]) else .stuck
/-- a step, what is wanted being told from where all began -/
theorem tM_anch {K : PySem.W.Frag} {mg : Str → Option Value} {W : WX} {r0 r : List Addr} {sm : Sl} {h : MH} {s : L2.St} {H0 H : Hp} {α β : Type} {rel : List Addr → Hp → α → β → Prop} {m : ME} {f : MV → MH → R α} {Q : β → Hp → Prop} {Q' : VK} (p0 : Post K mg r0 H0 r h H) (ss : SS K mg r H sm s)
    (w : Wt K mg rel r0 H0 (fun c d H' => W c d s H') Q ((m sm h).bind f))
    (k : ∀ r1 h1 v x H1, Post K mg r0 H0 r1 h1 H1 → Post K mg r H r1 h1 H1 → Rep K mg r1 H1 v x → Wt K mg rel r0 H0 (fun c d H' => W c d s H') Q (f v h1) → Q' x H1) : tM K mg W m s H Q' := by
  refine ⟨r, sm, h, p0.hs, ss, ?_⟩
  cases e : m sm h with
  | stuck => rw [e] at w; exact w
  | err x h1 => rw [e] at w; exact fun r1 H1 cls d p q => w r1 H1 cls d (p0.trans p) q
  | ok v h1 => rw [e] at w; exact fun r1 H1 x p q => k r1 h1 v x H1 (p0.trans p) p q w
abbrev RepP (K : PySem.W.Frag) (mg : Str → Option Value) (r : List Addr) (H : Hp) : List (MK × MV) → List (V × V) → Prop := Paired fun p q => q.1 = kV (mk p.1) ∧ Rep K mg r H p.2 q.2
theorem pairs_of {K : PySem.W.Frag} {mg : Str → Option Value} {W : WX} {r0 : List Addr} {H0 : Hp} {sm : Sl} {s : L2.St} {α β : Type} {rel : List Addr → Hp → α → β → Prop} {Q : β → Hp → Prop} : ∀ (prs : List (ME × ME)) {f : List (MK × MV) → MH → R α} {Q' : List (V × V) → Hp → Prop} {r : List Addr} {h : MH} {H : Hp}, Post K mg r0 H0 r h H → SS K mg r H sm s →
    Wt K mg rel r0 H0 (fun c d H' => W c d s H') Q ((pairsM prs sm h).bind f) →
    (∀ r1 h1 ps xs H1, Post K mg r0 H0 r1 h1 H1 → Post K mg r H r1 h1 H1 → RepP K mg r1 H1 ps xs → Wt K mg rel r0 H0 (fun c d H' => W c d s H') Q (f ps h1) → Q' xs H1) → tPairs (prs.map fun p => (tM K mg W p.1, tM K mg W p.2)) s H Q'
  | [], f, Q', r, h, H, p0, ss, w, k => k r h [] [] H p0 (Post.refl p0.hs) .nil w
  | (kx, vx) :: prs, f, Q', r, h, H, p0, ss, w, k => by
    have w' : Wt K mg rel r0 H0 (fun c d H' => W c d s H') Q ((kx sm h).bind fun x h1 => (vx sm h1).bind fun y h2 => (pairsM prs sm h2).bind fun ps h3 => (match keyOf x with
      | some kk => .ok ((kk, y) :: ps) h3
      | none => .stuck : R (List (MK × MV))).bind f) := by
      have e : (pairsM ((kx, vx) :: prs) sm h).bind f = ((kx sm h).bind fun x h1 => (vx sm h1).bind fun y h2 => (pairsM prs sm h2).bind fun ps h3 => (match keyOf x with
        | some kk => .ok ((kk, y) :: ps) h3
        | none => .stuck : R (List (MK × MV))).bind f) := by
        simp only [pairsM]
        cases kx sm h with
        | ok v h1 =>
          simp only [R.bind]
          cases vx sm h1 with
          | ok v2 h2 =>
            simp only [R.bind]
            cases pairsM prs sm h2 <;> rfl
          | err _ _ => rfl
          | stuck => rfl
        | err _ _ => rfl
        | stuck => rfl
      rw [← e]
      exact w
    refine tM_anch p0 ss w' fun r1 h1 v x H1 pa pb q1 w1 => ?_
    refine tM_anch pa (ss.post p0.hs pb) w1 fun r2 h2 u y H2 pa2 pb2 q2 w2 => ?_
    refine pairs_of prs pa2 ((ss.post p0.hs pb).post pa.hs pb2) w2 fun r3 h3 ps xs H3 pa3 pb3 q3 w3 => ?_
    cases ek : keyOf v with
    | none => rw [ek] at w3; exact w3.elim
    | some kk =>
      rw [ek] at w3
      exact k r3 h3 ((kk, u) :: ps) _ H3 pa3 ((pb.trans pb2).trans pb3) (.cons ⟨keyOf_ok q1 ek, pb3.rep pa2.hs q2⟩ q3) w3
theorem merge_ok {K : PySem.W.Frag} {mg : Str → Option Value} {r : List Addr} {H : Hp} : ∀ {ps : List (MK × MV)} {kvs : List (Key × V)} {acc : List (MK × MV)} {acc' : List (Key × V)}, RepK K mg r H ps kvs → RepK K mg r H acc acc' → RepK K mg r H (ps.foldl (fun acc kv => dPut kv.1 kv.2 acc) acc) (mergeK acc' kvs)
  | _, _, _, _, .nil, q => q
  | _, _, _, _, .cons (a := p) (b := y) e t, q => by
    obtain ⟨y1, y2⟩ := y
    have e1 : y1 = mk p.1 := e.1
    subst e1
    have z := merge_ok t (putK_ok (k := p.1) e.2 q)
    exact z
theorem repP_keys {K : PySem.W.Frag} {mg : Str → Option Value} {r : List Addr} {H : Hp} : ∀ {ps : List (MK × MV)} {xs : List (V × V)}, RepP K mg r H ps xs → ∃ kvs : List (Key × V), xs = kvs.map (fun kv => (kV kv.1, kv.2)) ∧ RepK K mg r H ps kvs
  | _, _, .nil => ⟨[], rfl, .nil⟩
  | _, _, .cons (a := p) (b := y) e t => by
    obtain ⟨kvs, e1, q⟩ := repP_keys t
    obtain ⟨y1, y2⟩ := y
    have e2 : y1 = kV (mk p.1) := e.1
    exact ⟨(mk p.1, y2) :: kvs, by rw [List.map_cons, e1, e2], .cons ⟨rfl, e.2⟩ q⟩
theorem me_disp {keys : List (Option Expr)} {values : List Expr} {prs : List (ME × ME)} (hp : PPs X pos keys values (prs.map fun p => (tM X.K X.mg W p.1, tM X.K X.mg W p.2))) (hall : keys.all (·.isSome) = true := by rfl) (hl : keys.length = values.length := by rfl) (h0 : keys ≠ [] := by exact fun z => by cases z)
    (h15 : keys.length ≤ 15 := by decide) : PEm X W (.Dict keys values pos) (eDisp prs) := (pe_disp hp hall hl h0 h15).mimp fun s H Q ⟨r, sm, h, hs, ss, w⟩ p hp => by
  have po := hs.extra (u := .dK []) hp
  have hpr : p ∉ r := hs.notNone hp
  refine pairs_of prs (r0 := r) (H0 := H) po (ss.post hs po) w fun r1 h1 ps xs H1 pa pb q w1 => ?_
  have eD := pb.at_ (D := p) upd_same hpr
  split at w1
  · rename_i h15
    obtain ⟨kvs, e1, qk⟩ := repP_keys q
    refine ⟨eD.1, kvs, e1, by rw [← paired_len qk]; exact h15, ?_⟩
    obtain ⟨hs5, ht5⟩ := pa.hs.side (u := .dK (mergeK [] kvs)) eD.2 eD.1 trivial
    have hm : ∀ (n : Nat) (z : Addr), r1[n]? = some z → (r1 ++ [p])[n]? = some z := fun n z e => by
      rw [List.getElem?_append_left (List.getElem?_eq_some_iff.mp e).1]; exact e
    refine w1 (r1 ++ [p]) _ (.ref p) ⟨?_, ⟨by simp [pa.hs.len], ?_, fun n o a e1 e2 => ?_, hs5.tb⟩, fun b o hb e t => ⟨?_, ?_⟩, fun b o u e => by rw [upd_ne (ne_of_none e hp)]; exact pa.fz b o u e⟩ (.ref (by rw [← pa.hs.len]; simp))
    · obtain ⟨u, hu⟩ := pa.pre
      exact ⟨u ++ [p], by rw [hu, List.append_assoc]⟩
    · rw [List.nodup_append]
      refine ⟨pa.hs.nd, by simp, fun a ha b hb z => ?_⟩
      have : b = p := by simpa using hb
      subst this
      subst z
      exact eD.2 ha
    · by_cases hn : n < r1.length
      · have hl : n < h1.length := by rw [← pa.hs.len]; exact hn
        rw [List.getElem?_append_left hn] at e2
        rw [List.getElem?_append_left hl] at e1
        exact (hs5.at_ n o a e1 e2).mono Kp.refl hm
      · have hn' : r1.length ≤ n := by omega
        have hl' : h1.length ≤ n := by rw [← pa.hs.len]; exact hn'
        rw [List.getElem?_append_right hn'] at e2
        rw [List.getElem?_append_right hl'] at e1
        have z : n - r1.length = 0 := by
          have := (List.getElem?_eq_some_iff.mp e2).1
          simp at this
          omega
        rw [z] at e2
        rw [← pa.hs.len, z] at e1
        simp at e1 e2
        subst e1 e2
        rw [upd_same]
        exact ⟨_, rfl, merge_ok (paired_mono (fun _ _ z => ⟨z.1, Rep.mono ht5 hm _ _ z.2⟩) qk) .nil⟩
    · intro hm'
      rcases List.mem_append.mp hm' with z | z
      · exact (pa.fr b o hb e t).1 z
      · have : b = p := by simpa using z
        subst this
        rw [hp] at e; cases e
    · have hne : b ≠ p := fun z => by rw [z, hp] at e; cases e
      rw [upd_ne hne]
      exact (pa.fr b o hb e t).2
  · exact w1.elim
end
end MP

namespace MP
open PySem PySem.Spec PyProof.Rows L2
/-! ### constants of the module -/
def repB (K : PySem.W.Frag) : Nat → MV → Value → Bool
  | 0, _, _ => false
  | n + 1, v, u => match v, u with
    | .non, .none => true
    | .bl b, .bool c => b == c
    | .int i, .int j _ => decide (i = j)
    | .str l, .str x _ => decide (x = S l)
    | .tup xs, .ref a => match K.lookup a with
      | some ⟨.type "tuple", _, .seq its _, _⟩ => decide (its.size ≤ sizeLine) && (its.toList.length == xs.length) && (xs.zip its.toList).all fun p => repB K n p.1 p.2
      | _ => false
    | _, _ => false
theorem repB_all {K : PySem.W.Frag} {mg : Str → Option Value} {f : MV → Value → Bool} (hf : ∀ v u, f v u = true → ∃ y, RelV y u ∧ ∀ r H, Rep K mg r H v y) : ∀ (xs : List MV) (us : List Value), us.length = xs.length → ((xs.zip us).all fun p => f p.1 p.2) = true → ∃ ys, Vals ys us ∧ ∀ r H, RepL K mg r H xs ys
  | [], [], _, _ => ⟨[], .nil, fun _ _ => .nil⟩
  | x :: xs, u :: us, hl, h => by
    rw [List.zip_cons_cons, List.all_cons, Bool.and_eq_true] at h
    obtain ⟨y, r1, q1⟩ := hf x u h.1
    obtain ⟨ys, r2, q2⟩ := repB_all hf xs us (by simpa using hl) h.2
    exact ⟨y :: ys, .cons r1 r2, fun r H => .cons (q1 r H) (q2 r H)⟩
  | [], _ :: _, hl, _ => by simp at hl
  | _ :: _, [], hl, _ => by simp at hl
theorem repB_ok {K : PySem.W.Frag} {mg : Str → Option Value} : ∀ (n : Nat) (v : MV) (u : Value), repB K n v u = true → ∃ y, RelV y u ∧ ∀ r H, Rep K mg r H v y
  | 0, _, _, h => by cases h
  | n + 1, v, u, h => by
    unfold repB at h
    split at h
    · exact ⟨.non, rfl, fun _ _ => .non⟩
    · rw [beq_iff_eq] at h; subst h; exact ⟨.bl _, rfl, fun _ _ => .bl _⟩
    · have := of_decide_eq_true h; subst this; exact ⟨.int _, ⟨_, rfl⟩, fun _ _ => .int _⟩
    · have := of_decide_eq_true h; subst this; exact ⟨.str _, ⟨_, rfl⟩, fun _ _ => .str _⟩
    · split at h
      · rename_i xs a _ dc its m sl hk
        rw [Bool.and_eq_true, Bool.and_eq_true, decide_eq_true_eq, beq_iff_eq] at h
        obtain ⟨ys, r1, q1⟩ := repB_all (repB_ok n) xs its.toList h.1.2 h.2
        exact ⟨.ref a, rfl, fun r H => .tup (.inr ⟨_, its, m, hk, rfl, rfl, h.1.1, r1⟩) (q1 r H)⟩
      · cases h
    · cases h
def gloB (K : PySem.W.Frag) (x : Str) (v : MV) : Bool := match PySem.W.nsIn K mainGlobals x with
  | some (some u) => repB K 8 v u
  | _ => false
/-- a constant of the module as the mirror has it -/
def GloM (K : PySem.W.Frag) (mg : Str → Option Value) (x : Str) (v : MV) : Prop := ∃ u y, mg x = some u ∧ RelV y u ∧ ∀ r H, Rep K mg r H v y
theorem gloB_ok {K : PySem.W.Frag} {mg : Str → Option Value} {h : Heap} (X : K.In h) (G : h.Ns mainGlobals mg) {x : Str} {v : MV} (c : gloB K x v = true) : GloM K mg x v := by
  unfold gloB at c
  split at c
  · rename_i u e
    obtain ⟨y, r, q⟩ := repB_ok (mg := mg) 8 v u c
    exact ⟨u, y, PySem.W.mg_of X G e, r, q⟩
  · cases c
/-! ### a def by its facts -/
section
variable {P : Program} {w : World} {K : PySem.W.Frag} {mg : Str → Option Value} {base : Heap}
theorem fn_okD {x qual : Str} {params : Arguments} {body : List Stmt} {scope : Scope} {dvs : List V} {kws : List (Str × V)} {f : Addr} {fd : FuncData} {N ps : List Str} {k : Nat} {b : MS} (F : FunD K x qual params body scope dvs kws f fd) (S : FnScope N ps scope)
    (hb : ∀ (cdv : Value) (hcd : fd.code = cdv) (A : Around) (outer : List Env) (s : Shared) (H : Hp) (E : XK), RoomG k (A.deeper (envOfC qual scope s.heap.objs.size f cdv)) →
      Takes (cxOf (L2.CX P w) P w K mg base N qual scope f cdv A outer s H E) (WF E) →
      PassesOwn (model P w) (A.deeper (envOfC qual scope s.heap.objs.size f cdv)) (envOfC qual scope s.heap.objs.size f cdv) (cxOf (L2.CX P w) P w K mg base N qual scope f cdv A outer s H E).xe →
      PSsm (cxOf (L2.CX P w) P w K mg base N qual scope f cdv A outer s H E) (WF E) body b) : FnM P w K mg base (k + 1) f fd ps (runFn N.length b) := by
  refine fnG_of (C := L2.CX P w) F S (fun vs H Q E h => h.1) fun cdv hcd A outer s H vs Q E hr h => ?_
  refine ⟨_, hb cdv hcd A outer s H E hr (takes_of rfl rfl rfl rfl) (passes_of rfl), ?_⟩
  obtain ⟨hl, r, h0, as, hs, q, wt⟩ := h
  refine ⟨r, _, h0, hs, SS.start q, ?_⟩
  unfold runFn at wt
  show WtS K mg (WF E) r H _ (b (as.map some ++ List.replicate (N.length - as.length) none) h0)
  cases e : b (as.map some ++ List.replicate (N.length - as.length) none) h0 with
  | nx s' h' => rw [e] at wt; exact fun r' s2 H' p _ => wt r' H' .non p .non
  | rt v h' => rw [e] at wt; exact fun r' H' y p q => wt r' H' y p q
  | bk s' h' => rw [e] at wt; exact wt.elim
  | ct s' h' => rw [e] at wt; exact wt.elim
  | err x s' h' => rw [e] at wt; exact fun r' s2 H' cls d p _ q => wt r' H' cls d p q
  | stuck => rw [e] at wt; exact wt.elim
/-- the law's promise from its mirror -/
theorem law_sp {m : MF} {ns : List Int} {H : Hp} {a : Addr} (hT : LamX.Tabs (tabsK K) H) (hro : RoL K H a (ns.map V.int)) (hm : ∃ h', m [.ro (ns.map MV.int)] [] = .ok (.bl true) h') : spM K mg 1 m [.ref a] H (fun v _ => v = .bl true) fun _ _ _ => False := by
  have hs : HS K mg [] [] H := ⟨rfl, .nil, (fun n o a e _ => by cases e), hT⟩
  have hl : ∀ ns : List Int, RepL K mg [] H (ns.map MV.int) (ns.map V.int) := fun ns => by
    induction ns with
    | nil => exact .nil
    | cons n ns ih => exact .cons (.int n) ih
  obtain ⟨h', e⟩ := hm
  refine ⟨rfl, [], [], [.ro (ns.map MV.int)], hs, .cons (.ro hro (hl ns)) .nil, ?_⟩
  rw [e]
  intro r' H' y p q
  cases q
  rfl
theorem cx_none (P : Program) (w : World) : ∀ (H : Hp) (s : Shared) (e : Value) (s' : Shared), L2.CX P w [] H s (fun _ _ _ => False) e s' → False := fun H s e s' z => by
  obtain ⟨_, _, _, _, _, _, _, _, _, _, _, _, z⟩ := z
  exact z
end
end MP

namespace MP
open PySem PySem.Spec PyProof.Rows L2
def tB (a : ME) : MT := fun s h => (a s h).bind fun v h1 => match v with
  | .bl k => .ok k h1
  | _ => .stuck
section
variable {X : Cx} {W : WX} {a b c : Expr} {pos : Pos} {ma mb mc : ME}
theorem chain_of {f g : F2} {s : L2.St} {H : Hp} {Q : VK} : tM X.K X.mg W (eChain f g ma mb mc) s H Q → tChain (rM X.K X.mg f) (rM X.K X.mg g) (tM X.K X.mg W ma) (tM X.K X.mg W mb) (tM X.K X.mg W mc) s H Q := fun ⟨r, sm, h, hs, ss, w⟩ =>
  tM_bind hs ss w fun r1 h1 v x H1 hs1 ss1 p1 q1 w1 => tM_bind hs1 ss1 w1 fun r2 h2 u y H2 hs2 ss2 p2 q2 w2 => by
    refine ⟨r2, h2, v, u, hs2, p2.rep hs1 q1, q2, ?_⟩
    have w3 := Wt.bind (rel := Rep X.K X.mg) w2
    cases e : f v u h2 with
    | none => rw [e] at w3; exact w3.elim
    | some p =>
      rw [e] at w3
      obtain ⟨z, h3⟩ := p
      intro r3 H3 z' p3 q3
      obtain ⟨r3', h3', z3, p3', q3', w4⟩ := w3 r3 H3 z' p3 q3
      cases z3 with
      | bl k =>
        cases q3'
        refine ⟨k, rfl, ?_⟩
        cases k with
        | true =>
          refine iteT (tM_bind p3'.hs (ss2.post hs2 p3') w4 fun r4 h4 v4 x4 H4 hs4 ss4 p4 q4 w5 => ?_)
          exact ⟨r4, h4, u, v4, hs4, p4.rep p3'.hs (p3'.rep hs2 q2), q4, w5.anyE⟩
        | false => exact iteF (Wt.plain p3'.hs w4 (.bl false))
      | _ => exact w4.elim
theorem mt_chn {op op' : CmpOp} {f g : F2} (ho : OpR X (compareOp op) (rM X.K X.mg f)) (ho' : OpR X (compareOp op') (rM X.K X.mg g)) (ha : PEm X W a ma) (hb : PEm X W b mb) (hc : PEm X W c mc) (hm : lastMarks [op, op'] [b, c] = false := by with_unfolding_all rfl) :
    PTm X W (.Compare a [op, op'] [b, c] pos) (tB (eChain f g ma mb mc)) := (pt_chain ho ho' ha hb hc hm).mimp fun s H Q ⟨r, sm, h, hs, ss, w⟩ =>
  chain_of (tM_bind hs ss w fun r1 h1 v x H1 hs1 ss1 p1 q1 w1 => by
    cases v with
    | bl k => cases q1; exact ⟨k, rfl, Wt.plainB hs1 w1⟩
    | _ => exact w1.elim)
theorem find_at (l : CP) (c i : Nat) : StrLaws.At (S l) (S [c]) (S l).length i ↔ l[i]? = some c := by
  unfold StrLaws.At
  rw [subAt_one, S_length, S_length]
  constructor
  · exact fun h => h.2
  · intro h
    refine ⟨?_, h⟩
    have := (List.getElem?_eq_some_iff.mp h).1
    show i + 1 ≤ l.length
    omega
theorem mm_index : MtR X "str.index" (rMM X mIndexS) := by
  intro pins s σ H x xs v us Q I rx rv hh
  obtain ⟨r, h, a, as, hs, ra, rs, w⟩ := hh
  unfold mIndexS at w
  split at w
  · rename_i l c
    split at w
    · rename_i i e
      obtain ⟨y, rfl, q⟩ := repL1 rs
      cases ra; cases q
      obtain ⟨h1, h2⟩ := firstIx_spec c e
      rcases StrLaws.occ_head (S l) (S [c]) 1 (Nat.le_refl 1) with ⟨h0, hn⟩ | ⟨j, rest, h0, hj, hn⟩
      · exact absurd ((find_at l c i).mpr h1) (hn i)
      · have h3 := (find_at l c j).mp hj
        have h4 : ¬ i < j := fun z => hn i z ((find_at l c i).mpr h1)
        have h5 : ¬ j < i := fun z => h2 j z h3
        have : i = j := by omega
        subst this
        exact mt_sindex pins s σ H _ _ v us Q I rx rv ⟨_, _, i, rest, rfl, rfl, h0, Wt.plain hs w (.int _)⟩
    · exact w.elim
  · exact w.elim
theorem starts_eq (l m : CP) : Txt.startswith (S l) (S m) = m.isPrefixOf l := by
  unfold Txt.startswith
  rw [Bool.eq_iff_iff]
  simp only [Bool.and_eq_true, decide_eq_true_eq, List.isPrefixOf_iff_prefix, S_length]
  unfold Builtin.Str.subAt
  rw [beq_iff_eq]
  have e : ((S l).cps.extract 0 (0 + (S m).length) = (S m).cps) ↔ l.take m.length = m := by
    constructor
    · intro h
      have h2 := congrArg Array.toList h
      simpa [S, Str.length] using h2
    · intro h
      apply Array.ext'
      simpa [S, Str.length] using h
  rw [e, List.prefix_iff_eq_take]
  constructor
  · exact fun h => h.2.symm
  · intro h
    refine ⟨?_, h.symm⟩
    have := congrArg List.length h
    simp at this
    omega
theorem mm_starts : MtR X "str.startswith" (rMM X mStarts) := by
  intro pins s σ H x xs v us Q I rx rv hh
  obtain ⟨r, h, a, as, hs, ra, rs, w⟩ := hh
  unfold mStarts at w
  split at w
  · rename_i l m
    obtain ⟨y, rfl, q⟩ := repL1 rs
    cases ra; cases q
    refine mt_startswith pins s σ H _ _ v us Q I rx rv ⟨_, _, rfl, rfl, ?_⟩
    rw [starts_eq]
    exact Wt.plain hs w (.bl _)
  · exact w.elim
end
/-- the law's promise, from its mirror -/
theorem walk_mir {l : PySem.W.OpenLaw} {k : Nat} {q : Program} {loose : List Str} {XP : (Str → Option Value) → Heap → Prop} {YP : World → Heap → Prop} {d : DefRec} {x : Str} {m : MF} (hn : l.most = some 63) (hdf : d.params.defaults = []) (hr : RoomG k callerA)
    (pu : ∀ ns : List Int, ns.length ≤ 63 → ∃ h', m [.ro (ns.map MV.int)] [] = .ok (.bl true) h')
    (F : ∀ (w : World) (mg : Str → Option Value) (fa : Addr) (h : Heap), YP w h → h.Ns mainGlobals mg → mg d.name = some (.ref fa) →
      ∃ (K : PySem.W.Frag) (fd : FuncData), K.In h ∧ (∀ b ∈ tabA K, h.get? b = some tabO) ∧ (∀ (s : Shared) (u : Value), BindsTo s fd ⟨[u], []⟩ [(x, u)]) ∧ ∀ base : Heap, K.In base → base.Ns mainGlobals mg → TabsB K mg base → FnM l.prog w K mg base k fa fd [x] m) :
    PySem.W.WalkO q loose XP YP l.row.toRowW d [] (fun f vs => PySem.call f vs) :=
  Att.attach_call hn hdf fun w s₀ s₁ mg mb fa o pm cd doc a vs ns G Y ho hd hcd hmg hobj hints hlen hg => by
    obtain ⟨K, fd, KX, hT, hb, hF⟩ := F w mg fa _ Y G.T.g hmg
    exact law_callG KX G.T.g G.T.b G.T.builtins G.T.nolimit hg hT G.T.bmain hobj hints (Nat.le_trans hlen (by decide)) hr hF hb (fun H hT hS => law_sp hT hS (pu ns hlen)) fun H e s' => cx_none l.prog w H s₁ e s'
end MP

namespace MP
open PySem PySem.Spec PyProof.Rows L2
/-! ### calls that leave the mirror's heap as it was, or cut off what is new -/
mutual
/-- all objects that a value names are the first n -/
def below (n : Nat) : MV → Bool
  | .ref m => Nat.blt m n
  | .tup xs => belowL n xs
  | .ro xs => belowL n xs
  | .lv xs => belowL n xs
  | .exc _ _ xs => belowL n xs
  | .clo _ _ _ _ xs => belowL n xs
  | _ => true
def belowL (n : Nat) : List MV → Bool
  | [] => true
  | x :: xs => below n x && belowL n xs
end
def belowF {α : Type} (n : Nat) : List (α × MV) → Bool
  | [] => true
  | x :: xs => below n x.2 && belowF n xs
def belowO (n : Nat) : MO → Bool
  | .lst xs => belowL n xs
  | .dK kvs => belowF n kvs
  | .dZ kvs => belowF n kvs
  | .dT kvs => belowF n kvs
  | .ins _ fs => belowF n fs
def belowH (n : Nat) : MH → Bool
  | [] => true
  | o :: os => belowO n o && belowH n os
def belowS (n : Nat) : Sl → Bool
  | [] => true
  | some v :: r => below n v && belowS n r
  | none :: r => belowS n r
def trimR (n : Nat) : R MV → R MV
  | .ok v h => if below n v && belowH n (h.take n) then .ok v (h.take n) else .stuck
  | .err x h => if belowF n x.fs && belowH n (h.take n) then .err x (h.take n) else .stuck
  | .stuck => .stuck
def trimF (m : MF) : MF := fun as h => trimR h.length (m as h)
def pureR (h : MH) : R MV → R MV
  | .ok v _ => if below 0 v then .ok v h else .stuck
  | .err x _ => if belowF 0 x.fs then .err x h else .stuck
  | .stuck => .stuck
def pureF (m : MF) : MF := fun as h => if belowL 0 as then pureR h (m as []) else .stuck
section
variable {K : PySem.W.Frag} {mg : Str → Option Value} {r r' t : List Addr} {H H' : Hp} {h h' : MH}
mutual
theorem Rep.bel {n : Nat} (hr : ∀ (i : Nat) (a : Addr), i < n → r[i]? = some a → r'[i]? = some a) : ∀ (v : MV) (x : V), MP.below n v = true → Rep K mg r H v x → Rep K mg r' H v x
  | .non, _, _, h => by cases h; exact .non
  | .bl _, _, _, h => by cases h; exact .bl _
  | .int _, _, _, h => by cases h; exact .int _
  | .str _, _, _, h => by cases h; exact .str _
  | .tup xs, _, b, h => by
    cases h with
    | tup s q => exact .tup s (RepL.bel hr xs _ (by simpa [MP.below] using b) q)
  | .ref _, _, b, h => by cases h with | ref e => exact .ref (hr _ _ (by simpa [MP.below, Nat.blt_eq] using b) e)
  | .ty _, _, _, h => by cases h; exact .ty _
  | .glo _, _, _, h => by cases h with | glo e => exact .glo e
  | .exc _ _ vs, _, hb, h => by
    cases h with
    | exc m e1 e2 l q => exact .exc m e1 e2 l (RepL.bel hr vs _ (by simpa [MP.below] using hb) q)
  | .clo _ _ _ ws vs, _, hb, h => by
    cases h with
    | clo e q => exact .clo e (RepL.bel hr vs ws (by simpa [MP.below] using hb) q)
  | .ro xs, _, b, h => by
    cases h with
    | ro s q => exact .ro s (RepL.bel hr xs _ (by simpa [MP.below] using b) q)
  | .lv xs, _, b, h => by
    cases h with
    | lv s q => exact .lv s (RepL.bel hr xs _ (by simpa [MP.below] using b) q)
theorem RepL.bel {n : Nat} (hr : ∀ (i : Nat) (a : Addr), i < n → r[i]? = some a → r'[i]? = some a) : ∀ (vs : List MV) (xs : List V), MP.belowL n vs = true → RepL K mg r H vs xs → RepL K mg r' H vs xs
  | [], _, _, h => by cases h; exact .nil
  | v :: vs, _, b, h => by
    have b : MP.below n v = true ∧ MP.belowL n vs = true := by simpa [MP.belowL] using b
    cases h with | cons p q => exact .cons (Rep.bel hr v _ b.1 p) (RepL.bel hr vs _ b.2 q)
end
theorem RepF.bel {n : Nat} (hr : ∀ (i : Nat) (a : Addr), i < n → r[i]? = some a → r'[i]? = some a) {α β : Type} {g : α → β} : ∀ {l : List (α × MV)} {l' : List (β × V)}, belowF n l = true → Paired (fun p q => q.1 = g p.1 ∧ Rep K mg r H p.2 q.2) l l' → Paired (fun p q => q.1 = g p.1 ∧ Rep K mg r' H p.2 q.2) l l'
  | [], _, _, t => by cases t; exact .nil
  | p :: ps, _, b, t => by
    cases t with
    | cons z s =>
    have b := (Bool.and_eq_true _ _).mp b
    exact .cons ⟨z.1, Rep.bel hr _ _ b.1 z.2⟩ (RepF.bel hr b.2 s)
theorem RepO.bel {n : Nat} (hr : ∀ (i : Nat) (a : Addr), i < n → r[i]? = some a → r'[i]? = some a) {o : MO} {u : Option HO} (b : belowO n o = true) (q : RepO K mg r H o u) : RepO K mg r' H o u := by
  cases o with
  | lst xs => obtain ⟨ys, e, p⟩ := q; exact ⟨ys, e, RepL.bel hr _ _ (by simpa [belowO] using b) p⟩
  | dK kvs => obtain ⟨ys, e, p⟩ := q; exact ⟨ys, e, RepF.bel hr (by simpa [belowO] using b) p⟩
  | dZ kvs => obtain ⟨o, ys, e, p⟩ := q; exact ⟨o, ys, e, RepF.bel hr (by simpa [belowO] using b) p⟩
  | dT kvs => obtain ⟨ys, e, p⟩ := q; exact ⟨ys, e, RepF.bel (g := fun (z : List MK) => z.map mk) hr (by simpa [belowO] using b) p⟩
  | ins c fs => obtain ⟨C, dx, ys, m, e, p⟩ := q; exact ⟨C, dx, ys, m, e, RepF.bel hr (by simpa [belowO] using b) p⟩
theorem belowH_get {n : Nat} : ∀ {h : MH} {i : Nat} {o : MO}, belowH n h = true → h[i]? = some o → belowO n o = true
  | [], i, o, _, e => by simp at e
  | p :: ps, 0, o, b, e => by
    simp at e; subst e
    have b : belowO n p = true ∧ belowH n ps = true := by simpa [belowH] using b
    exact b.1
  | p :: ps, i + 1, o, b, e => by
    have b : belowO n p = true ∧ belowH n ps = true := by simpa [belowH] using b
    exact belowH_get (i := i) b.2 (by simpa using e)
/-- what is new is cut off -/
theorem Post.trim (p : Post K mg r H r' h' H') (b : belowH r.length (h'.take r.length) = true) : Post K mg r H r (h'.take r.length) H' := by
  obtain ⟨t, rfl⟩ := p.pre
  have hl : (r ++ t).length = h'.length := p.hs.len
  rw [List.length_append] at hl
  refine ⟨⟨[], by simp⟩, ⟨by rw [List.length_take]; omega, (List.nodup_append.mp p.hs.nd).1, fun n o a e1 e2 => ?_, p.hs.tb⟩, fun c o n e t => ⟨n, (p.fr c o n e t).2⟩, p.fz⟩
  have hn : n < r.length := (List.getElem?_eq_some_iff.mp e2).1
  have e1' : h'[n]? = some o := by rw [List.getElem?_take_of_lt hn] at e1; exact e1
  have q := p.hs.at_ n o a e1' (by rw [List.getElem?_append_left hn]; exact e2)
  exact q.bel (fun i a hi e => by rw [List.getElem?_append_left hi] at e; exact e) (belowH_get b e1)
theorem Post.ixb (p : Post K mg r H r' h' H') : ∀ (i : Nat) (a : Addr), i < r.length → r'[i]? = some a → r[i]? = some a := fun i a hi e => by
  obtain ⟨t, rfl⟩ := p.pre
  rw [List.getElem?_append_left hi] at e
  exact e
/-- a call that saw nothing of the mirror's heap leaves all of it -/
theorem Post.pure (x : HS K mg r h H) (p : Post K mg [] H r' h' H') : Post K mg r H r h H' := by
  have kp : Kp K H H' := p.kp (h := []) ⟨rfl, .nil, (fun n o a e _ => by cases e), x.tb⟩
  refine ⟨⟨[], by simp⟩, ⟨x.len, x.nd, fun n o a e1 e2 => ?_, p.hs.tb⟩, fun c o n e t => ⟨n, (p.fr c o (by simp) e t).2⟩, p.fz⟩
  obtain ⟨u, e3, pl⟩ := x.plain (List.mem_of_getElem? e2)
  rw [p.keep (by simp) e3 (fun ps z => by rw [z] at pl; exact pl), ← e3]
  exact (x.at_ n o a e1 e2).mono kp fun _ _ z => z
theorem noXd {o : MO} {u : Option HO} {ys : List (Str × V)} (q : RepO K mg r H o u) : u ≠ some (.xd ys) := fun z => by
  subst z
  cases o with
  | lst xs => obtain ⟨_, e, _⟩ := q; cases e
  | dK xs => obtain ⟨_, e, _⟩ := q; cases e
  | dZ xs => obtain ⟨_, _, e, _⟩ := q; cases e
  | dT xs => obtain ⟨_, e, _⟩ := q; cases e
  | ins c fs => obtain ⟨_, _, _, _, e, _⟩ := q; cases e
theorem HS.notXd (x : HS K mg r h H) {a : Addr} {ys : List (Str × V)} (e : H a = some (.xd ys)) : a ∉ r := fun hm => by
  obtain ⟨n, hn, e1⟩ := List.getElem_of_mem hm
  have hl : n < h.length := by rw [← x.len]; exact hn
  have q := x.at_ n h[n] a (by simp [hl]) (by simp [hn, e1])
  exact noXd q e
theorem RepX.to {x : MX} {cls : Value} {d : Option Addr} (hs : HS K mg r h' H) {n : Nat} (hr : ∀ (i : Nat) (a : Addr), i < n → r'[i]? = some a → r[i]? = some a) (b : belowF n x.fs = true) (q : RepX K mg r' H x cls d) : RepX K mg r H x cls d := by
  obtain ⟨C, dd, ys, e1, e2, e3, e4, e5, q⟩ := q
  exact ⟨C, dd, ys, e1, e2, e3, hs.notXd e5, e5, RepF.bel hr b q⟩
theorem Wt.trim {E : XK} {Q : VK} {x : R MV} (hs : HS K mg r h H) (w : Wt K mg (Rep K mg) r H E Q (trimR h.length x)) : Wt K mg (Rep K mg) r H E Q x := by
  rw [← hs.len] at w
  cases x with
  | stuck => exact w
  | ok v h' =>
    simp only [trimR] at w
    split at w
    · rename_i b
      rw [Bool.and_eq_true] at b
      exact fun r' H' y p q => w r H' y (p.trim b.2) (Rep.bel p.ixb _ _ b.1 q)
    · exact w.elim
  | err e h' =>
    simp only [trimR] at w
    split at w
    · rename_i b
      rw [Bool.and_eq_true] at b
      exact fun r' H' c d p q => w r H' c d (p.trim b.2) (q.to (p.trim b.2).hs p.ixb b.1)
    · exact w.elim
theorem Wt.pure {E : XK} {Q : VK} {x : R MV} (hs : HS K mg r h H) (w : Wt K mg (Rep K mg) r H E Q (pureR h x)) : Wt K mg (Rep K mg) [] H E Q x := by
  cases x with
  | stuck => exact w
  | ok v h' =>
    simp only [pureR] at w
    split at w
    · rename_i b
      exact fun r' H' y p q => w r H' y (p.pure hs) (Rep.bel (n := 0) (fun i a hi _ => by omega) _ _ b q)
    · exact w.elim
  | err e h' =>
    simp only [pureR] at w
    split at w
    · rename_i b
      exact fun r' H' c d p q => w r H' c d (p.pure hs) (q.to (p.pure hs).hs (n := 0) (fun i a hi _ => by omega) b)
    · exact w.elim
end
section
variable {P : Program} {w : World} {K : PySem.W.Frag} {mg : Str → Option Value} {base : Heap} {k : Nat} {f : Addr} {fd : FuncData} {ps : List Str} {m : MF}
theorem FnM.trim (F : FnM P w K mg base k f fd ps m) : FnM P w K mg base k f fd ps (trimF m) := F.imp fun vs H Q E ⟨hl, r, h, as, hs, q, w⟩ => ⟨hl, r, h, as, hs, q, w.trim hs⟩
theorem FnM.pure (F : FnM P w K mg base k f fd ps m) : FnM P w K mg base k f fd ps (pureF m) := F.imp fun vs H Q E ⟨hl, r, h, as, hs, q, w⟩ => by
  unfold pureF at w
  split at w
  · rename_i b
    exact ⟨hl, [], [], as, ⟨rfl, .nil, (fun n o a e _ => by cases e), hs.tb⟩, RepL.bel (n := 0) (fun i a hi _ => by omega) _ _ b q, w.pure hs⟩
  · exact w.elim
theorem Fn.pure {x : Str} {np : Nat} (F : Fn P w K mg base x k np m) : Fn P w K mg base x k np (pureF m) := by
  obtain ⟨f, fd, ps, h1, F, h2, h3, h4⟩ := F.ex
  exact ⟨f, fd, ps, h1, FnM.pure F, h2, h3, h4⟩
/-- a mirror may be put in the place of another one that answers the same wherever it answers -/
theorem FnM.as {m' : MF} (F : FnM P w K mg base k f fd ps m) (e : ∀ as h, m' as h = .stuck ∨ m' as h = m as h) : FnM P w K mg base k f fd ps m' := F.imp fun vs H Q E ⟨hl, r, h, as, hs, q, w⟩ => ⟨hl, r, h, as, hs, q, by
  rcases e as h with z | z
  · rw [z] at w; exact w.elim
  · rw [← z]; exact w⟩
end
/-! ### slots forgotten, new objects cut off behind a statement -/
def keepS (ks : List Nat) : Nat → Sl → Sl
  | _, [] => []
  | i, v :: r => (if ks.contains i then v else none) :: keepS ks (i + 1) r
def sTrim (ks : List Nat) (b : MS) : MS := fun s h => match b s h with
  | .nx s' h' => if belowS h.length (keepS ks 0 s') && belowH h.length (h'.take h.length) then .nx (keepS ks 0 s') (h'.take h.length) else .stuck
  | .ct s' h' => if belowS h.length (keepS ks 0 s') && belowH h.length (h'.take h.length) then .ct (keepS ks 0 s') (h'.take h.length) else .stuck
  | x => x
section
variable {K : PySem.W.Frag} {mg : Str → Option Value} {r r' : List Addr} {H : Hp}
theorem keepS_len (ks : List Nat) : ∀ (s : Sl) (i : Nat), (keepS ks i s).length = s.length
  | [], _ => rfl
  | v :: r, i => by simp [keepS, keepS_len ks r]
theorem keepS_get (ks : List Nat) : ∀ (s : Sl) (i j : Nat) (v : MV), (keepS ks i s)[j]? = some (some v) → s[j]? = some (some v)
  | [], _, _, _, e => by simp [keepS] at e
  | u :: r, i, 0, v, e => by
    simp only [keepS, List.getElem?_cons_zero, Option.some.injEq] at e
    split at e
    · simp [e]
    · cases e
  | u :: r, i, j + 1, v, e => by
    simp only [keepS, List.getElem?_cons_succ] at e
    simpa using keepS_get ks r (i + 1) j v e
theorem belowS_get {n : Nat} : ∀ {s : Sl} {i : Nat} {v : MV}, belowS n s = true → s[i]? = some (some v) → below n v = true
  | [], i, v, _, e => by simp at e
  | some u :: r, 0, v, b, e => by
    simp at e; subst e
    have b : below n u = true ∧ belowS n r = true := by simpa [belowS] using b
    exact b.1
  | none :: r, 0, v, b, e => by simp at e
  | some u :: r, i + 1, v, b, e => by
    have b : below n u = true ∧ belowS n r = true := by simpa [belowS] using b
    exact belowS_get (i := i) b.2 (by simpa using e)
  | none :: r, i + 1, v, b, e => belowS_get (i := i) (s := r) (by simpa [belowS] using b) (by simpa using e)
theorem SS.keep {ks : List Nat} {m : Sl} {s : L2.St} {n : Nat} (hr : ∀ (i : Nat) (a : Addr), i < n → r'[i]? = some a → r[i]? = some a) (b : belowS n (keepS ks 0 m) = true) (y : SS K mg r' H m s) : SS K mg r H (keepS ks 0 m) s :=
  ⟨by rw [keepS_len]; exact y.len, fun i v e => by
    obtain ⟨x, e1, q⟩ := y.at_ i v (keepS_get ks m 0 i v e)
    exact ⟨x, e1, Rep.bel hr _ _ (belowS_get b e) q⟩⟩
end
section
variable {X : Cx} {W : WX}
theorem trim_of {ks : List Nat} {b : MS} {D : Ends} {s : L2.St} {H : Hp} : tMS X.K X.mg W (sTrim ks b) D s H → tMS X.K X.mg W b D s H := fun ⟨r, sm, h, hs, ss, w⟩ => by
  refine ⟨r, sm, h, hs, ss, ?_⟩
  unfold sTrim at w
  rw [← hs.len] at w
  cases e : b sm h with
  | nx s' h' =>
    rw [e] at w
    simp only at w
    split at w
    · rename_i bb
      rw [Bool.and_eq_true] at bb
      exact fun r' s2 H' p q => w r s2 H' (p.trim bb.2) (q.keep p.ixb bb.1)
    · exact w.elim
  | ct s' h' =>
    rw [e] at w
    simp only at w
    split at w
    · rename_i bb
      rw [Bool.and_eq_true] at bb
      exact fun r' s2 H' p q => w r s2 H' (p.trim bb.2) (q.keep p.ixb bb.1)
    · exact w.elim
  | rt v h' => rw [e] at w; exact w
  | bk s' h' => rw [e] at w; exact w
  | err x s' h' => rw [e] at w; exact w
  | stuck => rw [e] at w; exact w
theorem ms_trim {ks : List Nat} {b : MS} {st : List Stmt} (h : PSsm X W st b) : PSsm X W st (sTrim ks b) := h.mimp fun D s H w => trim_of w
end
end MP

namespace MP
open PySem PySem.Spec PyProof.Rows L2
/-! ### repr(data) -/
def okRepr (d : PyData) : Bool := d.showable && !d.hasDict && Nat.ble d.depth 60 && Nat.ble d.shown.length sizeLine
def mRepr : FA
  | [v], h => match toD 64 h v with
    | some d => if okRepr d then some (.str d.shown.cps.toList, h) else none
    | none => none
  | _, _ => none
theorem S_cps (x : Str) : S x.cps.toList = x := by
  obtain ⟨c⟩ := x
  simp [S]
section
variable {X : Cx}
theorem cm_repr {k : Nat} (hr : RoomG k X.A) : CallR X (.builtin "repr") (rMA X mRepr) := by
  intro pins s σ H xs us Q I rv hh
  obtain ⟨r, h, as, hs, ra, w⟩ := hh
  unfold mRepr at w
  split at w
  · rename_i v
    obtain ⟨x, rfl, q⟩ := repL1 ra
    split at w
    · rename_i d hd
      split at w
      · rename_i hok
        simp only [okRepr, Bool.and_eq_true, Bool.not_eq_true', Nat.ble_eq] at hok
        obtain ⟨⟨⟨h1, h2⟩, h3⟩, h4⟩ := hok
        have dp := toD_ok hs _ _ _ _ hd q
        have fin : Q (.str d.shown) H := by
          have := Wt.plain hs w (.str d.shown.cps.toList)
          rw [S_cps] at this
          exact this
        cases rv with
        | cons rv rv2 =>
          cases rv2
          have hu := hr.units
          cases dp with
          | non =>
            cases (show _ = Value.none from rv)
            refine PySem.P.repr_of_none ⟨.str "None", H, I.tok _, ⟨_, rfl⟩, ?_⟩
            simpa only [PyData.shown] using fin
          | bl b =>
            cases (show _ = Value.bool b from rv)
            refine PySem.P.repr_of_bool ⟨.str _, H, I.tok _, ⟨_, rfl⟩, ?_⟩
            simpa only [PyData.shown] using fin
          | int i =>
            obtain ⟨t, rfl⟩ := rv
            refine PySem.P.repr_of_int (by simpa [PyData.showable] using h1) ⟨.str _, H, I.tok _, ⟨_, rfl⟩, ?_⟩
            simpa only [PyData.shown] using fin
          | str y =>
            obtain ⟨t, rfl⟩ := rv
            refine PySem.P.repr_of_str ⟨.str _, H, I.tok _, ⟨_, rfl⟩, ?_⟩ (by simpa only [PyData.shown] using h4)
            simpa only [PyData.shown] using fin
          | lst sq al =>
            rename_i u a ys ds
            cases (show u = Value.ref a from rv)
            obtain ⟨as, rd⟩ := Dp.reads I _ _ _ (.lst sq al) (show RelV (.ref a) (.ref a) from rfl)
            exact repr_of_reads' rd h1 (fun z => by rw [h2] at z; cases z) hr.gd (by omega) (fun _ _ e => e) (fun h' u tk kp => ⟨.str _, H, I.kept kp, ⟨_, rfl⟩, fin⟩) h4
          | tup sq al =>
            rename_i u a ys ds
            cases (show u = Value.ref a from rv)
            obtain ⟨as, rd⟩ := Dp.reads I _ _ _ (.tup sq al) (show RelV (.ref a) (.ref a) from rfl)
            exact repr_of_reads' rd h1 (fun z => by rw [h2] at z; cases z) hr.gd (by omega) (fun _ _ e => e) (fun h' u tk kp => ⟨.str _, H, I.kept kp, ⟨_, rfl⟩, fin⟩) h4
      · exact w.elim
    · exact w.elim
  · exact w.elim
end
end MP

namespace MP
open PySem PySem.Spec PyProof.Rows L2
/-! ### a dict is locked while a statement walks it -/
def unlS (n : Nat) : SR → SR
  | .nx s h => match h[n]? with
    | some (.dZ kvs) => .nx s (h.set n (.dK kvs))
    | _ => .stuck
  | .rt v h => match h[n]? with
    | some (.dZ kvs) => .rt v (h.set n (.dK kvs))
    | _ => .stuck
  | .bk s h => match h[n]? with
    | some (.dZ kvs) => .bk s (h.set n (.dK kvs))
    | _ => .stuck
  | .ct s h => match h[n]? with
    | some (.dZ kvs) => .ct s (h.set n (.dK kvs))
    | _ => .stuck
  | x => x
/-- the statement b runs while the dict in slot i is locked -/
def sLock (i : Nat) (b : MS) : MS := fun s h => match s[i]? with
  | some (some (.ref n)) => match h[n]? with
    | some (.dK kvs) => unlS n (b s (h.set n (.dZ kvs)))
    | _ => .stuck
  | _ => .stuck
section
variable {K : PySem.W.Frag} {mg : Str → Option Value} {r r' : List Addr} {H H' : Hp} {h h' : MH}
/-- one object of the mirror is put in another way, what is frozen elsewhere stays -/
theorem HS.swap (x : HS K mg r h H) {n : Nat} {p : Addr} {u : HO} {o : MO} (hp : r[n]? = some p) (ht : Kp K H (upd H p u)) (hu : RepO K mg r (upd H p u) o (some u)) : HS K mg r (h.set n o) (upd H p u) := by
  refine ⟨by simp [x.len], x.nd, fun m o' a e1 e2 => ?_, tabs_upd (fun o e => by
    obtain ⟨o', e', q⟩ := x.plain (List.mem_of_getElem? hp)
    rw [e] at e'
    cases e'
    exact q) x.tb⟩
  have hnl : n < r.length := (List.getElem?_eq_some_iff.mp hp).1
  by_cases hm : m = n
  · subst hm
    rw [hp] at e2
    cases e2
    rw [List.getElem?_set_self (by rw [← x.len]; exact hnl)] at e1
    cases e1
    rw [upd_same]
    exact hu
  · rw [List.getElem?_set_ne (Ne.symm hm)] at e1
    have hne : a ≠ p := fun z => by
      subst z
      obtain ⟨h1, q1⟩ := List.getElem?_eq_some_iff.mp e2
      obtain ⟨h2, q2⟩ := List.getElem?_eq_some_iff.mp hp
      exact hm ((List.getElem_inj x.nd).mp (q1.trans q2.symm))
    rw [upd_ne hne]
    exact (x.at_ m o' a e1 e2).mono ht fun _ _ z => z
theorem HS.kpAt (x : HS K mg r h H) {p : Addr} {u : HO} (hp : p ∈ r) : Kp K H (upd H p u) := Kp.upd fun o e => by
  obtain ⟨o', e', q⟩ := x.plain hp
  rw [e] at e'
  cases e'
  exact q
/-- behind the lock -/
theorem Post.unlock {n : Nat} {p : Addr} {od : Obj} {ys : List (Key × V)} {kvs : List (MK × MV)} (x : HS K mg r h H) (hp : r[n]? = some p) (e0 : H p = some (.dK ys)) (q : Post K mg r (upd H p (.frz od (.dK ys))) r' h' H') (hk : h'[n]? = some (.dZ kvs)) :
    H' p = some (.frz od (.dK ys)) ∧ Post K mg r H r' (h'.set n (.dK kvs)) (upd H' p (.dK ys)) ∧ Kp K H' (upd H' p (.dK ys)) := by
  have e1 : H' p = some (.frz od (.dK ys)) := q.fz p od _ upd_same
  have hp' := q.ix n p hp
  have kp : Kp K H' (upd H' p (.dK ys)) := q.hs.kpAt (List.mem_of_getElem? hp')
  obtain ⟨o2, y2, e2, qk⟩ := q.hs.lookup hp' hk
  rw [e1] at e2
  cases e2
  refine ⟨e1, ⟨q.pre, q.hs.swap hp' kp ⟨_, rfl, paired_mono (fun _ _ z => ⟨z.1, Rep.mono kp (fun _ _ y => y) _ _ z.2⟩) qk⟩, fun b o n e t => ?_, fun b o u e => ?_⟩, kp⟩
  · have hb : b ≠ p := fun z => n (by rw [z]; exact List.mem_of_getElem? hp)
    have w := q.fr b o n (by rw [upd_ne hb]; exact e) t
    exact ⟨w.1, by rw [upd_ne hb]; exact w.2⟩
  · have hb : b ≠ p := fun z => by rw [z, e0] at e; cases e
    rw [upd_ne hb]
    exact q.fz b o u (by rw [upd_ne hb]; exact e)
end
section
variable {X : Cx} {W : WX} {tg e : Expr} {me : ME}
theorem ms_lock {st : Stmt} {b : MS} (i : Nat) (hb : PSm X W st b) : PSm X W st (sLock i b) := (ps_lock hb).mimp fun D s H ⟨r, sm, h, hs, ss, w⟩ => by
  unfold sLock at w
  split at w
  · rename_i n hi
    split at w
    · rename_i kvs hk
      obtain ⟨x, e1, q⟩ := ss.at_ i _ hi
      cases q with
      | ref en =>
        rename_i p
        obtain ⟨ys, e2, qk⟩ := hs.lookup en hk
        refine ⟨p, .dK ys, e2, trivial, fun od => ?_⟩
        have kp : Kp X.K H (upd H p (.frz od (.dK ys))) := hs.kpAt (List.mem_of_getElem? en)
        have hs1 : HS X.K X.mg r (h.set n (.dZ kvs)) (upd H p (.frz od (.dK ys))) := hs.swap en kp ⟨od, ys, rfl, paired_mono (fun _ _ z => ⟨z.1, Rep.mono kp (fun _ _ y => y) _ _ z.2⟩) qk⟩
        have ss1 : SS X.K X.mg r (upd H p (.frz od (.dK ys))) sm s := ⟨ss.len, fun j v z => let ⟨y, a, b⟩ := ss.at_ j v z; ⟨y, a, Rep.mono kp (fun _ _ y => y) _ _ b⟩⟩
        refine ⟨r, sm, _, hs1, ss1, ?_⟩
        cases eb : b sm (h.set n (.dZ kvs)) with
        | nx s' h' =>
          rw [eb] at w
          simp only [unlS] at w
          split at w
          · rename_i kv hk'
            intro r' s2 H' p' q'
            obtain ⟨z1, z2, z3⟩ := Post.unlock hs en e2 p' hk'
            exact ⟨z1, w r' s2 _ z2 ⟨q'.len, fun j v z => let ⟨y, a, b⟩ := q'.at_ j v z; ⟨y, a, Rep.mono z3 (fun _ _ y => y) _ _ b⟩⟩⟩
          · exact w.elim
        | bk s' h' =>
          rw [eb] at w
          simp only [unlS] at w
          split at w
          · rename_i kv hk'
            intro r' s2 H' p' q'
            obtain ⟨z1, z2, z3⟩ := Post.unlock hs en e2 p' hk'
            exact ⟨z1, w r' s2 _ z2 ⟨q'.len, fun j v z => let ⟨y, a, b⟩ := q'.at_ j v z; ⟨y, a, Rep.mono z3 (fun _ _ y => y) _ _ b⟩⟩⟩
          · exact w.elim
        | ct s' h' =>
          rw [eb] at w
          simp only [unlS] at w
          split at w
          · rename_i kv hk'
            intro r' s2 H' p' q'
            obtain ⟨z1, z2, z3⟩ := Post.unlock hs en e2 p' hk'
            exact ⟨z1, w r' s2 _ z2 ⟨q'.len, fun j v z => let ⟨y, a, b⟩ := q'.at_ j v z; ⟨y, a, Rep.mono z3 (fun _ _ y => y) _ _ b⟩⟩⟩
          · exact w.elim
        | rt v h' =>
          rw [eb] at w
          simp only [unlS] at w
          split at w
          · rename_i kv hk'
            intro r' H' y p' q'
            obtain ⟨z1, z2, z3⟩ := Post.unlock hs en e2 p' hk'
            exact ⟨z1, w r' _ y z2 (Rep.mono z3 (fun _ _ y => y) _ _ q')⟩
          · exact w.elim
        | err x s' h' =>
          rw [eb] at w
          intro r' s2 H' cls d p' q' q2
          refine w r' s2 H' cls d ⟨p'.pre, p'.hs, fun b o hb e t => ?_, fun b o u e => ?_⟩ q' q2
          · have hne : b ≠ p := fun z => hb (by rw [z]; exact List.mem_of_getElem? en)
            exact p'.fr b o hb (by rw [upd_ne hne]; exact e) t
          · have hne : b ≠ p := fun z => by rw [z, e2] at e; cases e
            exact p'.fz b o u (by rw [upd_ne hne]; exact e)
        | stuck => rw [eb] at w; exact w
    · exact w.elim
  · exact w.elim
def jKeyZ (a : ME) : MI := fun s h => (a s h).bind fun v h1 => match v with
  | .ref n => match h1[n]? with
    | some (.dZ _) => .ok (.keyZ n) h1
    | _ => .stuck
  | _ => .stuck
def jItemZ (a : ME) : MI := fun s h => (a s h).bind fun v h1 => match v with
  | .ref n => match h1[n]? with
    | some (.dZ _) => .ok (.itemZ n) h1
    | _ => .stuck
  | _ => .stuck
theorem rep_key {K : PySem.W.Frag} {mg : Str → Option Value} {r : List Addr} {H : Hp} : ∀ k : MK, Rep K mg r H (keyV k) (kV (mk k))
  | .inl i => .int i
  | .inr l => .str l
/-- while it is locked -/
theorem lockedAt {K : PySem.W.Frag} {mg : Str → Option Value} {r0 r : List Addr} {H0 H : Hp} {h : MH} {n : Nat} {p : Addr} {o : Obj} {ys : List (Key × V)} {kvs : List (MK × MV)} (hp : r0[n]? = some p) (e0 : H0 p = some (.frz o (.dK ys))) (q : Post K mg r0 H0 r h H) (hk : h[n]? = some (.dZ kvs)) :
    H p = some (.frz o (.dK ys)) ∧ RepK K mg r H kvs ys := by
  have e1 := q.fz p o _ e0
  obtain ⟨o2, y2, e2, qk⟩ := q.hs.lookup (q.ix n p hp) hk
  rw [e1] at e2
  cases e2
  exact ⟨e1, qk⟩
theorem paired_at {α β : Type} {F : α → β → Prop} : ∀ {l : List α} {l' : List β} {i : Nat} {a : α} {b : β}, Paired F l l' → l[i]? = some a → l'[i]? = some b → F a b
  | _, _, _, _, _, .nil, e, _ => by simp at e
  | _, _, 0, _, _, .cons p _, e, e' => by simp at e e'; subst e e'; exact p
  | _, _, i + 1, _, _, .cons _ t, e, e' => paired_at (i := i) t (by simpa using e) (by simpa using e')
theorem ir_keyZ {K : PySem.W.Frag} {mg : Str → Option Value} {r0 : List Addr} {H0 : Hp} {n : Nat} {p : Addr} {o : Obj} {ys : List (Key × V)} (hp : r0[n]? = some p) (e0 : H0 p = some (.frz o (.dK ys))) : IR K mg r0 H0 (.keyZ n) (Itk p o ys) := fun r h H i q => by
  refine ⟨fun e => ?_, fun v e => ?_⟩
  · simp only [MIt.at] at e
    split at e
    · rename_i kvs hk
      obtain ⟨e1, qk⟩ := lockedAt hp e0 q hk
      simp only [Option.some.injEq, Option.map_eq_none_iff, List.getElem?_eq_none_iff] at e
      exact ⟨e1, by rw [← paired_len qk]; exact e⟩
    · cases e
  · simp only [MIt.at] at e
    split at e
    · rename_i kvs hk
      obtain ⟨e1, qk⟩ := lockedAt hp e0 q hk
      simp only [Option.some.injEq, Option.map_eq_some_iff] at e
      obtain ⟨kv, e2, rfl⟩ := e
      refine ⟨⟨e1, by rw [← paired_len qk]; exact (List.getElem?_eq_some_iff.mp e2).1⟩, fun x H' y => ?_⟩
      obtain ⟨rfl, k, v, e3, rfl⟩ := y
      refine ⟨Post.refl q.hs, ?_⟩
      have z := (paired_at qk e2 e3).1
      simp only at z
      rw [z]
      exact rep_key kv.1
    · cases e
theorem ir_itemZ {K : PySem.W.Frag} {mg : Str → Option Value} {r0 : List Addr} {H0 : Hp} {n : Nat} {p : Addr} {o : Obj} {ys : List (Key × V)} (hp : r0[n]? = some p) (e0 : H0 p = some (.frz o (.dK ys))) : IR K mg r0 H0 (.itemZ n) (Iti p o ys) := fun r h H i q => by
  refine ⟨fun e => ?_, fun v e => ?_⟩
  · simp only [MIt.at] at e
    split at e
    · rename_i kvs hk
      obtain ⟨e1, qk⟩ := lockedAt hp e0 q hk
      simp only [Option.some.injEq, Option.map_eq_none_iff, List.getElem?_eq_none_iff] at e
      exact ⟨e1, by rw [← paired_len qk]; exact e⟩
    · cases e
  · simp only [MIt.at] at e
    split at e
    · rename_i kvs hk
      obtain ⟨e1, qk⟩ := lockedAt hp e0 q hk
      simp only [Option.some.injEq, Option.map_eq_some_iff] at e
      obtain ⟨kv, e2, rfl⟩ := e
      refine ⟨⟨e1, by rw [← paired_len qk]; exact (List.getElem?_eq_some_iff.mp e2).1⟩, fun x H' y => ?_⟩
      obtain ⟨T, k, v, e3, rfl, hT, rfl⟩ := y
      have po := q.hs.extra (u := .tup [kV k, v]) hT
      refine ⟨po, ?_⟩
      have z := paired_at qk e2 e3
      have z1 : k = mk kv.1 := z.1
      refine .tup (.inl (.inl upd_same)) (.cons ?_ (.cons (po.rep q.hs z.2) .nil))
      rw [z1]
      exact rep_key kv.1
    · cases e
theorem mi_keyZ (he : PEm X W e me) : PIm X W tg e (jKeyZ me) := (pi_keys he).mimp fun s H Rr ⟨r, sm, h, hs, ss, w⟩ =>
  tM_bind hs ss w fun r1 h1 v x H1 hs1 ss1 p1 q1 w1 => by
    split at w1
    · split at w1
      · rename_i n kvs hk
        cases q1 with
        | ref en =>
          obtain ⟨o, ys, e1, qk⟩ := hs1.lookup en hk
          exact ⟨_, o, rfl, .inl ⟨ys, e1, w1 r1 H1 _ (Post.refl hs1) (ir_keyZ en e1)⟩⟩
      · exact w1.elim
    · exact w1.elim
theorem mi_itemZ {elts : List Expr} {kk : Nat} {tpos apos cpos : Pos} (he : PEm X W e me) (hbase : attributeBase e "items" X.env (eval e X.env) = eval e X.env := by rfl) (hline : (apos.endLine == cpos.line) = true := by rfl) : PIm X W (.Tuple elts kk tpos) (.Call (.Attribute e "items" apos) [] [] cpos) (jItemZ me) := (pi_items he hbase hline).mimp fun s H Rr ⟨r, sm, h, hs, ss, w⟩ =>
  tM_bind hs ss w fun r1 h1 v x H1 hs1 ss1 p1 q1 w1 => by
    split at w1
    · split at w1
      · rename_i n kvs hk
        cases q1 with
        | ref en =>
          obtain ⟨o, ys, e1, qk⟩ := hs1.lookup en hk
          exact ⟨_, o, ys, rfl, e1, w1 r1 H1 _ (Post.refl hs1) (ir_itemZ en e1)⟩
      · exact w1.elim
    · exact w1.elim
end
end MP

/-! lists as values: a new list that nobody changes is locked at once -/
namespace MP
open PySem PySem.Spec PyProof.Rows L2
section
variable {X : Cx} {pins : List (Addr × Obj)} {σ : L2.St} {H : Hp} {s : Shared}
theorem inv_freeze {p : Addr} {xs : List V} (I : L2.Inv X pins σ H s) (hp : H p = some (.lst xs)) : ∃ o, L2.Inv X pins σ (upd H p (.frz o (.lst xs))) s := by
  obtain ⟨z, its, n, r, e⟩ := I.hok p _ hp
  refine ⟨{ cls := .type "list", data := .seq its.toArray n }, ?_⟩
  have hne : ∀ {b : Addr} {o : HO}, H b = some o → (∀ ys, o ≠ .lst ys) → b ≠ p := fun {b o} q n z => by
    subst z; rw [hp] at q; cases q; exact n _ rfl
  refine I.un (h' := s.heap) (t' := s.toks) ⟨fun b o q _ _ _ => q, fun b o q _ _ _ => ⟨o.slots, q⟩, fun b o q n _ => ?_, fun b o q _ => ⟨o, q⟩, fun b xs q => ?_, fun b o u q => ?_, fun b ps q => ?_⟩ fun b o q => ?_
  · rw [upd_ne (fun z => by subst z; rw [hp] at n; cases n)]; exact n
  · rw [upd_ne (hne q fun _ z => by cases z)]; exact q
  · rw [upd_ne (hne q fun _ z => by cases z)]; exact q
  · rw [upd_ne (hne q fun _ z => by cases z)]; exact ⟨#[], by rw [q]; simp⟩
  · by_cases hb : b = p
    · subst hb
      rw [upd_same] at q
      cases q
      exact ⟨e, z, its, n, r, e⟩
    · rw [upd_ne hb] at q
      refine (I.hok b o q).stay (fun c v _ q => q) (fun c q => ?_) fun c xs q => ?_
      · rw [upd_ne (hne q fun _ z => by cases z)]; exact q
      · rw [upd_ne (hne q fun _ z => by cases z)]; exact q
/-- what is wanted, of a value that is a new list perhaps locked -/
def FzQ (Q : VK) : VK := fun v H1 => Q v H1 ∨ ∃ p xs, v = .ref p ∧ H1 p = some (.lst xs) ∧ ∀ o, Q v (upd H1 p (.frz o (.lst xs)))
theorem ep_frz {Q : VK} {u : Value} {s' : Shared} (h : EP X pins σ (FzQ Q) u s') : EP X pins σ Q u s' := by
  obtain ⟨v, H', I, r, q | ⟨p, xs, e, hp, q⟩⟩ := h
  · exact ⟨v, H', I, r, q⟩
  · obtain ⟨o, I2⟩ := inv_freeze I hp
    exact ⟨v, _, I2, r, q o⟩
theorem _root_.L2.PE.frz {e : Expr} {t : TE} (h : PE X e t) : PE X e (fun σ H Q => t σ H (FzQ Q)) := ⟨fun pins s σ H Q I q => thn (h.run pins s σ H _ I q) fun _ _ z => ep_frz z⟩
def FzN (Q : L2.St → Hp → Prop) : L2.St → Hp → Prop := fun σ H1 => Q σ H1 ∨ ∃ p xs, H1 p = some (.lst xs) ∧ ∀ o, Q σ (upd H1 p (.frz o (.lst xs)))
theorem _root_.L2.PS.frz {e : Stmt} {t : TS} (h : PS X e t) : PS X e (fun D σ H => t { D with nx := FzN D.nx } σ H) := ⟨fun pins s σ H D I q => thn (h.run pins s σ H _ I q) fun f s' z => by
  cases f with
  | next =>
    obtain ⟨σ', H', I', q | ⟨p, xs, hp, q⟩⟩ := z
    · exact ⟨σ', H', I', q⟩
    · obtain ⟨o, I2⟩ := inv_freeze I' hp
      exact ⟨σ', _, I2, q o⟩
  | brk => exact z
  | cont => exact z
  | ret u => exact z⟩
/-- a new list as a value -/
theorem Wt.lv {K : PySem.W.Frag} {mg : Str → Option Value} {r : List Addr} {h : MH} {E : XK} {Q : VK} {p : Addr} {xs : List MV} {ys : List V} (hs : HS K mg r h H) (hp : H p = none) (q : RepL K mg r H xs ys) (w : Wt K mg (Rep K mg) r H E Q (.ok (.lv xs) h)) :
    FzQ Q (.ref p) (upd H p (.lst ys)) := .inr ⟨p, ys, rfl, upd_same, fun o => by
  rw [upd_upd]
  have po := hs.extra (u := .frz o (.lst ys)) hp
  exact w r _ _ po (.lv ⟨o, upd_same⟩ (po.repL hs q))⟩
end
section
variable {X : Cx} {W : WX} {a b c e : Expr} {es : List Expr} {ma mb : ME} {ms : MA} {pos : Pos}
def eLstV (a : MA) : ME := fun s h => (a s h).bind fun xs h1 => if xs.length ≤ sizeLine then .ok (.lv xs) h1 else .stuck
theorem me_lstV (h : PAm X W es ms) : PEm X W (.List es pos) (eLstV ms) := (pe_lst h).frz.mimp fun s H Q ⟨r, sm, h, hs, ss, w⟩ =>
  tMA_bind hs ss w fun r1 h1 vs xs H1 hs1 ss1 p1 q1 w1 => by
    split at w1
    · rename_i hl
      exact ⟨by rw [← q1.length]; exact hl, fun p hp => Wt.lv hs1 hp q1 w1⟩
    · exact w1.elim
/-! ### + and * -/
/-- two lists, tracked or locked, added: a new list, perhaps locked -/
theorem cat_lists {pins : List (Addr × Obj)} {σ : L2.St} {H : Hp} {s : Shared} {l b : Addr} {xs zs : List V} {Q : VK} (I : L2.Inv X pins σ H s) (hl : Rd H l (.lst xs)) (hb : Rd H b (.lst zs)) (hz : xs.length + zs.length ≤ sizeLine) (q : ∀ p, H p = none → FzQ Q (.ref p) (upd H p (.lst (xs ++ zs)))) :
    wpAny (model X.prog X.w) X.A (binaryOp .Add (.ref l) (.ref b)) (EP X pins σ Q) X.xe s := by
  obtain ⟨_, ls, n, rl, el⟩ := hl.ok I.hok
  obtain ⟨_, bs, m, rb, eb⟩ := hb.ok I.hok
  have both := rl.append rb
  have room : ls.toArray.size + bs.toArray.size ≤ sizeLine := by
    rw [List.size_toArray, List.size_toArray, ← rl.length, ← rb.length]
    exact hz
  have I2 := I.lnew (t' := s.toks) both (by rw [List.length_append]; exact hz)
  rw [← List.append_toArray] at I2
  exact PySem.P.add_list el eb (ep_frz ⟨.ref _, _, I2, rfl, q _ I.fresh⟩) room
def rCatR : R2 := fun x y H Q => ∃ l b xs zs, x = .ref l ∧ y = .ref b ∧ Rd H l (.lst xs) ∧ Rd H b (.lst zs) ∧ xs.length + zs.length ≤ sizeLine ∧ ∀ p, H p = none → FzQ Q (.ref p) (upd H p (.lst (xs ++ zs)))
theorem op_catR : OpR X (binaryOp .Add) rCatR := fun pins s σ H x y v u Q I rx ry ⟨l, b, xs, zs, ex, ey, dl, db, hz, q⟩ => by
  cases ex
  cases ey
  cases rx
  cases ry
  exact cat_lists I dl db hz q
/-- + whose new list is a value -/
def mAddV : F2 := fun a b h => match lstR h a, lstR h b with
  | some xs, some ys => if xs.length + ys.length ≤ sizeLine then some (.lv (xs ++ ys), h) else none
  | _, _ => mAdd a b h
theorem om_addV : OpR X (binaryOp .Add) (rM X.K X.mg mAddV) := by
  intro pins s σ H x y v u Q I rx ry hh
  obtain ⟨r, h, a, b, hs, ra, rb, w⟩ := hh
  unfold mAddV at w
  split at w
  · rename_i xs ys h1 h2
    split at w
    · rename_i hl
      obtain ⟨p, zs, rfl, d1, q1⟩ := hs.listR ra h1
      obtain ⟨p2, zs2, rfl, d2, q2⟩ := hs.listR rb h2
      exact op_catR pins s σ H _ _ v u Q I rx ry ⟨p, p2, zs, zs2, rfl, rfl, d1, d2, by rw [← q1.length, ← q2.length]; exact hl, fun p hp => Wt.lv hs hp (q1.append q2) w⟩
    · exact w.elim
  · exact om_add pins s σ H _ _ v u Q I rx ry ⟨r, h, a, b, hs, ra, rb, w⟩
def rCatN : R2 := fun x y H Q => ∃ l b xs zs, x = .ref l ∧ y = .ref b ∧ Rd H l (.lst xs) ∧ Rd H b (.lst zs) ∧ xs.length + zs.length ≤ sizeLine ∧ ∀ p, H p = none → Q (.ref p) (upd H p (.lst (xs ++ zs)))
theorem op_catN : OpR X (binaryOp .Add) rCatN := fun pins s σ H x y v u Q I rx ry ⟨l, b, xs, zs, ex, ey, dl, db, hz, q⟩ =>
  op_catR pins s σ H x y v u Q I rx ry ⟨l, b, xs, zs, ex, ey, dl, db, hz, fun p hp => .inl (q p hp)⟩
/-- + whose new list is an object -/
def mAddR : F2 := fun a b h => match lstR h a, lstR h b with
  | some xs, some ys => if xs.length + ys.length ≤ sizeLine then some (.ref h.length, h ++ [.lst (xs ++ ys)]) else none
  | _, _ => mAdd a b h
theorem om_addR : OpR X (binaryOp .Add) (rM X.K X.mg mAddR) := by
  intro pins s σ H x y v u Q I rx ry hh
  obtain ⟨r, h, a, b, hs, ra, rb, w⟩ := hh
  unfold mAddR at w
  split at w
  · rename_i xs ys h1 h2
    split at w
    · rename_i hl
      obtain ⟨p, zs, rfl, d1, q1⟩ := hs.listR ra h1
      obtain ⟨p2, zs2, rfl, d2, q2⟩ := hs.listR rb h2
      refine op_catN pins s σ H _ _ v u Q I rx ry ⟨p, p2, zs, zs2, rfl, rfl, d1, d2, by rw [← q1.length, ← q2.length]; exact hl, fun p hp => ?_⟩
      obtain ⟨po, re⟩ := hs.newL hp (q1.append q2)
      exact w _ _ _ po re
    · exact w.elim
  · exact om_add pins s σ H _ _ v u Q I rx ry ⟨r, h, a, b, hs, ra, rb, w⟩
/-- * whose new list is a value -/
def mMulV : F2 := fun a b h => match a, b with
  | .ref n, .int k => (match h[n]? with
    | some (.lst xs) => if -(2 ^ 63) ≤ k ∧ k < 2 ^ 63 ∧ xs.length * k.toNat ≤ sizeLine then some (.lv (List.replicate k.toNat xs).flatten, h) else none
    | _ => none)
  | _, _ => mMul a b h
theorem om_mulV : OpR X (binaryOp .Mult) (rM X.K X.mg mMulV) := by
  intro pins s σ H x y v u Q I rx ry hh
  obtain ⟨r, h, a, b, hs, ra, rb, w⟩ := hh
  unfold mMulV at w
  split at w
  · rename_i n k
    split at w
    · rename_i xs h1
      split at w
      · rename_i hc
        cases rb
        cases ra with | ref ea =>
        obtain ⟨ys, e1, q1⟩ := hs.lookup ea h1
        exact thn (op_rep pins s σ H _ _ v u (FzQ Q) I rx ry ⟨_, k, ys, rfl, rfl, e1, hc.1, hc.2.1, by rw [← q1.length]; exact hc.2.2, fun p hp => Wt.lv hs hp (q1.rep k.toNat) w⟩) fun _ _ z => ep_frz z
      · exact w.elim
    · exact w.elim
  · exact om_mul pins s σ H _ _ v u Q I rx ry ⟨r, h, a, b, hs, ra, rb, w⟩
/-! ### slices -/
def mCutV (x : MV) (lo hi : Option Int) (h : MH) : Option (MV × MH) := match lstV h x with
  | some xs => some (.lv (cutM xs lo hi), h)
  | none => mCut x lo hi h
def eCutV (a : ME) (lo hi : MP_) : ME := fun s h => (a s h).bind fun x h1 => (lo s h1).bind fun l h2 => (hi s h2).bind fun u h3 => ofO (mCutV x l u h3)
def rCutV (X : Cx) : V → Option Int → Option Int → Hp → VK → Prop := fun x lo hi H Q => ∃ r h a, HS X.K X.mg r h H ∧ Rep X.K X.mg r H a x ∧ Wt X.K X.mg (Rep X.K X.mg) r H (fun _ _ _ => False) Q (ofO (mCutV a lo hi h))
theorem slmV : SlR X (rCutV X) := by
  intro pins s σ H x v vl vu lo hi sl Q I rx hsl pl pu hh
  obtain ⟨r, h, a, hs, ra, w⟩ := hh
  unfold mCutV at w
  split at w
  · rename_i xs h1
    obtain ⟨p, zs, rfl, sq, ql⟩ := hs.listV ra h1
    obtain ⟨T, id, t1, t2, t3⟩ := sl_list pins s σ H _ v vl vu lo hi sl (FzQ Q) I rx hsl pl pu ⟨_, _, rfl, sq, fun p hp => Wt.lv hs hp (ql.cut lo hi) w⟩
    exact ⟨T, id, t1, t2, thn t3 fun _ _ z => ep_frz z⟩
  · exact slm pins s σ H _ v vl vu lo hi sl Q I rx hsl pl pu ⟨r, h, a, hs, ra, w⟩
theorem me_cutV {lo hi : Option Expr} {ml mh : MP_} {p2 : Pos} (ha : PEm X W a ma) (hl : POm X W lo ml) (hh : POm X W hi mh) : PEm X W (.Subscript a (.Slice lo hi none p2) pos) (eCutV ma ml mh) := (pe_slice slmV ha hl hh).mimp fun s H Q ⟨r, sm, h, hs, ss, w⟩ =>
  tM_bind hs ss w fun r1 h1 v x H1 hs1 ss1 p1 q1 w1 => by
    refine ⟨r1, sm, h1, hs1, ss1, (Wt.bind (rel := fun _ _ a b => a = b) w1).imp (fun _ _ _ z => z) fun l H2 ⟨r2, h2, l', p2, e2, w2⟩ => ?_⟩
    subst e2
    refine ⟨r2, sm, h2, p2.hs, ss1.post hs1 p2, (Wt.bind (rel := fun _ _ a b => a = b) w2).imp (fun _ _ _ z => z) fun u H3 ⟨r3, h3, u', p3, e3, w3⟩ => ?_⟩
    subst e3
    exact ⟨r3, h3, v, p3.hs, p3.rep p2.hs (p2.rep hs1 q1), w3.anyE⟩
def eRevV (a : ME) : ME := fun s h => (a s h).bind fun x h1 => match lstV h1 x with
  | some xs => .ok (.lv xs.reverse) h1
  | none => eRev (fun _ h2 => .ok x h2) s h1
theorem me_revV {k : Nat} {pa p2 p3 : Pos} (he : PEm X W e ma) : PEm X W (.Subscript e (.Slice none none (some (.UnaryOp .USub (.Constant (.int 1) k pa) p2)) p3) pos) (eRevV ma) := by
  refine ⟨fun pins s0 σ H Q I hh => ?_⟩
  obtain ⟨r, sm, h, hs, ss, w⟩ := hh
  cases ea : ma sm h with
  | stuck => simp only [eRevV, ea, R.bind] at w; exact w.elim
  | err x h1 =>
    refine (pe_revL he).run pins s0 σ H Q I ⟨r, sm, h, hs, ss, ?_⟩
    simp only [eRevV, ea, R.bind] at w
    rw [ea]
    exact w
  | ok v h1 =>
    simp only [eRevV, ea, R.bind] at w
    split at w
    · rename_i xs h2
      refine (pe_revL he).frz.run pins s0 σ H Q I ⟨r, sm, h, hs, ss, ?_⟩
      rw [ea]
      intro r1 H1 x p1 q1
      obtain ⟨p, zs, rfl, sq, ql⟩ := p1.hs.listV q1 h2
      exact ⟨_, zs, rfl, sq, fun p hp => Wt.lv p1.hs hp ql.reverse (w.post p1)⟩
    · rename_i hn
      refine (me_rev (W := W) he).run pins s0 σ H Q I ⟨r, sm, h, hs, ss, ?_⟩
      have : eRev ma sm h = eRev (fun _ h2 => .ok v h2) sm h1 := by simp only [eRev, ea, R.bind]
      rw [this]
      exact w
/-! ### list(), split() -/
def mListV : FA
  | [.tup xs], h => some (.lv xs, h)
  | [v], h => match lstV h v with
    | some xs => some (.lv xs, h)
    | none => none
  | _, _ => none
theorem cm_listV : CallR X (.type "list") (rMA X mListV) := by
  intro pins s σ H xs us Q I rv hh
  obtain ⟨r, h, as, hs, ra, w⟩ := hh
  unfold mListV at w
  split at w
  · obtain ⟨x, rfl, q⟩ := repL1 ra
    cases q with
    | tup sq ql => exact thn (call_list_of pins s σ H _ us (FzQ Q) I rv ⟨_, _, rfl, .inr sq, fun l hl => Wt.lv hs hl ql w⟩) fun _ _ z => ep_frz z
  · obtain ⟨x, rfl, q⟩ := repL1 ra
    split at w
    · rename_i ys hl
      obtain ⟨_, zs, rfl, sq, ql⟩ := hs.listV q hl
      exact thn (call_list_of pins s σ H _ us (FzQ Q) I rv ⟨_, _, rfl, .inl sq, fun l hl => Wt.lv hs hl ql w⟩) fun _ _ z => ep_frz z
    · exact w.elim
  · exact w.elim
def mSplitV : FM
  | .str l, [.str [c]], h => if c < 256 ∧ l.length + 2 ≤ sizeLine then some (.lv ((TL.spl [c] 0 [] l).map .str), h) else none
  | _, _, _ => none
theorem mm_splitV : MtR X "str.split" (rMM X mSplitV) := by
  intro pins s σ H x xs v us Q I rx rv hh
  obtain ⟨r, h, a, as, hs, ra, rs, w⟩ := hh
  unfold mSplitV at w
  split at w
  · rename_i l c
    split at w
    · rename_i hl
      obtain ⟨y, rfl, q⟩ := repL1 rs
      cases ra; cases q
      refine thn (mt_split pins s σ H _ _ v us (FzQ Q) I rx rv ⟨_, _, rfl, rfl, rfl, by rw [S_length]; exact hl.2, fun p hp => ?_⟩) fun _ _ z => ep_frz z
      have e : Txt.split (S l) (S [c]) = (TL.spl [c] 0 [] l).map S := SX.split_S (List.cons_ne_nil _ _) (by simp [hl.1])
      rw [e]
      exact Wt.lv hs hp (repL_strs (TL.spl [c] 0 [] l)) w
    · exact w.elim
  · exact w.elim
end
/-! ### comprehensions -/
def lcW (it : MIt) (t : Tg) (tt : MT) (te : ME) (sw : Sl) (n : Nat) : Nat → List MV → MH → R MV :=
  Nat.rec (fun i acc h => match it.at h i with
    | some none => .ok (.lv acc) h
    | _ => .stuck)
  (fun _ go i acc h => match it.at h i with
    | some none => .ok (.lv acc) h
    | some (some v) => match t.run v sw with
      | some s2 => match tt s2 h with
        | .ok true h3 => (match te s2 h3 with
          | .ok y h4 => if acc.length < sizeLine then go (i + 1) (acc ++ [y]) h4 else .stuck
          | _ => .stuck)
        | .ok false h3 => go (i + 1) acc h3
        | _ => .stuck
      | none => .stuck
    | none => .stuck) n
theorem lcW_zero (it : MIt) (t : Tg) (tt : MT) (te : ME) (sw : Sl) (i : Nat) (acc : List MV) (h : MH) : lcW it t tt te sw 0 i acc h = match it.at h i with
    | some none => .ok (.lv acc) h
    | _ => .stuck := rfl
theorem lcW_succ (it : MIt) (t : Tg) (tt : MT) (te : ME) (sw : Sl) (n i : Nat) (acc : List MV) (h : MH) : lcW it t tt te sw (n + 1) i acc h = match it.at h i with
    | some none => .ok (.lv acc) h
    | some (some v) => match t.run v sw with
      | some s2 => match tt s2 h with
        | .ok true h3 => (match te s2 h3 with
          | .ok y h4 => if acc.length < sizeLine then lcW it t tt te sw n (i + 1) (acc ++ [y]) h4 else .stuck
          | _ => .stuck)
        | .ok false h3 => lcW it t tt te sw n (i + 1) acc h3
        | _ => .stuck
      | none => .stuck
    | none => .stuck := rfl
def eLv (mi : MI) (ws : List Nat) (t : Tg) (tt : MT) (te : ME) : ME := fun s h => (mi s h).bind fun it h1 => lcW it t tt te (wipeM s ws) (it.fuel h1) 0 [] h1
section
variable {X : Cx} {W : WX} {elt tg iter c : Expr} {ifs : List Expr} {scope : Scope} {own : List (Str × Nat)} {pos : Pos} {mi : MI} {t : Tg} {tt : MT} {te : ME}
theorem tLv_of (hw : ∀ i ∈ t.own, i ∈ own.map (·.2)) : ∀ (s : L2.St) (H : Hp) (Q : VK), tM X.K X.mg W (eLv mi (own.map (·.2)) t tt te) s H Q → tLc (tMI X.K X.mg W mi) (t.tg X.K) (tMT X.K X.mg W0 tt) (tM X.K X.mg W0 te) (own.map (·.2)) s H (FzQ Q) := fun s H Q ⟨r, sm, h, hs, ss, w⟩ => by
  refine ⟨r, sm, h, hs, ss, (Wt.bind (rel := IR X.K X.mg) w).imp (fun _ _ _ z => z) fun J H1 ⟨r1, h1, it, p1, ir, w1⟩ D hD => ?_⟩
  have ss1 := ss.post hs p1
  -- the mirror's heap beside D
  have pD := p1.hs.extra (u := .lst []) hD
  have hDr1 : D ∉ r1 := p1.hs.notNone hD
  refine ⟨fun i m H' => ∃ r' h' acc ys, Post X.K X.mg r1 H1 r' h' H' ∧ D ∉ r' ∧ H' D = some (.lst ys) ∧ RepL X.K X.mg r' H' acc ys ∧ Wt X.K X.mg (Rep X.K X.mg) r1 H1 (fun c d H2 => W c d s H2) Q (lcW it t tt te (wipeM sm (own.map (·.2))) m i acc h'),
    ⟨it.fuel h1, r1, h1, [], [], pD, hDr1, upd_same, .nil, w1⟩, ?_⟩
  rintro i m H' ⟨r', h', acc, ys, p', hDr, eD, ql, w'⟩
  obtain ⟨st, gs⟩ := ir r' h' H' i p'
  have fin : Wt X.K X.mg (Rep X.K X.mg) r1 H1 (fun c d H2 => W c d s H2) Q (.ok (.lv acc) h') → FzQ Q (.ref D) H' := fun w2 => by
    refine .inr ⟨D, ys, rfl, eD, fun o => ?_⟩
    obtain ⟨hs5, ht5⟩ := p'.hs.side (u := .frz o (.lst ys)) hDr eD trivial
    refine w2 r' _ (.ref D) ⟨p'.pre, hs5, fun b o hb eb t => ⟨(p'.fr b o hb eb t).1, ?_⟩, fun b o u eb => by rw [upd_ne (fun (z : b = D) => by rw [z, hD] at eb; cases eb)]; exact p'.fz b o u eb⟩ (.lv ⟨o, upd_same⟩ (RepL.mono ht5 (fun _ _ z => z) _ _ ql))
    have hne : b ≠ D := fun z => by rw [z, hD] at eb; cases eb
    rw [upd_ne hne]
    exact (p'.fr b o hb eb t).2
  cases m with
  | zero =>
    rw [lcW_zero] at w'
    split at w'
    · rename_i e
      exact .inl ⟨st e, fin w'⟩
    · exact w'.elim
  | succ m =>
    rw [lcW_succ] at w'
    split at w'
    · rename_i e
      exact .inl ⟨st e, fin w'⟩
    · rename_i v e
      obtain ⟨go, yl⟩ := gs v e
      split at w'
      · rename_i s2 es2
        refine .inr ⟨go, fun H2 => ∃ r' h' acc ys, Post X.K X.mg r1 H1 r' h' H2 ∧ D ∉ r' ∧ H2 D = some (.lst ys) ∧ RepL X.K X.mg r' H2 acc ys ∧ Wt X.K X.mg (Rep X.K X.mg) r1 H1 (fun c d H3 => W c d s H3) Q (lcW it t tt te (wipeM sm (own.map (·.2))) m (i + 1) acc h'), fun H2 z => ⟨m, Nat.lt_succ_self m, z⟩, fun x H2 y => ?_⟩
        obtain ⟨p2, q2⟩ := yl x H2 y
        have eD2 := p2.at_ eD hDr
        have ql2 := p2.repL p'.hs ql
        have pp := p'.trans p2
        have ssw : SS X.K X.mg r' H2 (wipeM sm (own.map (·.2))) (L2.wipe s (own.map (·.2))) := (((ss1.post p1.hs p').post p'.hs p2)).wipe _
        refine tg_ok (ws := own.map (·.2)) ssw q2 es2 hw fun σ2 ss2 ew hlen => ⟨ew.trans ?_, ?_⟩
        · -- wiping twice is wiping once
          exact wipe_wipe _ _
        · refine ⟨r', s2, h', p2.hs, ss2, ?_⟩
          cases et : tt s2 h' with
          | stuck => rw [et] at w'; exact w'.elim
          | err x h3 => rw [et] at w'; exact w'.elim
          | ok b h3 =>
            rw [et] at w'
            intro r3 H3 b' p3 eb
            subst eb
            have eD3 := p3.at_ eD2.1 eD2.2
            cases b with
            | false => exact iteF ⟨r3, h3, acc, ys, pp.trans p3, eD3.2, eD3.1, p3.repL p2.hs ql2, w'⟩
            | true =>
              refine iteT ⟨r3, s2, h3, p3.hs, ss2.post p2.hs p3, ?_⟩
              dsimp only at w'
              cases ee : te s2 h3 with
              | stuck => rw [ee] at w'; exact w'.elim
              | err x h4 => rw [ee] at w'; exact w'.elim
              | ok y4 h4 =>
                rw [ee] at w'
                dsimp only at w'
                split at w'
                · rename_i hz
                  intro r4 H4 z4 p4 q4
                  have eD4 := p4.at_ eD3.1 eD3.2
                  have ql4 := p4.repL p3.hs (p3.repL p2.hs ql2)
                  refine ⟨ys, eD4.1, by rw [← ql4.length]; exact hz, ?_⟩
                  obtain ⟨hs5, ht5⟩ := p4.hs.side (u := .lst (ys ++ [z4])) eD4.2 eD4.1 trivial
                  have p5 := (pp.trans p3).trans p4
                  refine ⟨r4, h4, acc ++ [y4], ys ++ [z4], ⟨p5.pre, hs5, fun b o hb eb t => ⟨(p5.fr b o hb eb t).1, ?_⟩, fun b o u eb => by rw [upd_ne (fun (z : b = D) => by rw [z, hD] at eb; cases eb)]; exact p5.fz b o u eb⟩, eD4.2, upd_same, ?_, w'⟩
                  · have hne : b ≠ D := fun z => by rw [z, hD] at eb; cases eb
                    rw [upd_ne hne]
                    exact (p5.fr b o hb eb t).2
                  · exact (RepL.mono ht5 (fun _ _ z => z) _ _ ql4).append (.cons (Rep.mono ht5 (fun _ _ z => z) _ _ q4) .nil)
                · exact w'.elim
      · exact w'.elim
    · exact w'.elim
theorem tMI_mono {K : PySem.W.Frag} {mg : Str → Option Value} {m : MI} (s : L2.St) (H : Hp) (R R' : It → Hp → Prop) (h : ∀ J H1, R J H1 → R' J H1) (w : tMI K mg W m s H R) : tMI K mg W m s H R' := by
  obtain ⟨r, sm, h0, hs, ss, w⟩ := w
  exact ⟨r, sm, h0, hs, ss, w.imp (fun _ _ _ z => z) h⟩
theorem tLc_mono {wi : TI} {g : TG} {tt' : TT} {te' : TE} {vs : List Nat} {s : L2.St} {H : Hp} {Q Q' : VK} (hw : ∀ s H R R', (∀ J H1, R J H1 → R' J H1) → wi s H R → wi s H R') (hq : ∀ v H, Q v H → Q' v H) (h : tLc wi g tt' te' vs s H Q) : tLc wi g tt' te' vs s H Q' := by
  refine hw _ _ _ _ (fun J H1 z D hD => ?_) h
  obtain ⟨Wv, h0, st⟩ := z D hD
  exact ⟨Wv, h0, fun i m H w => (st i m H w).imp (fun ⟨a, b⟩ => ⟨a, hq _ _ b⟩) id⟩
theorem me_lcV (hc : X.calm = true) (hN : X.N.Nodup) (hi : PIm X W tg iter mi) (ok : BlkOk X.N X.env.scope scope own) (hw : ∀ i ∈ t.own, i ∈ own.map (·.2))
    (hg : ∀ (s : Shared) (H : Hp) (C : Addr) (cl : List (Str × Addr)) (fp : List Addr), PG (X.blk s H scope (compEnvC scope cl C X.env) fp) tg (t.tg X.K))
    (ht : ∀ (s : Shared) (H : Hp) (C : Addr) (cl : List (Str × Addr)) (fp : List Addr), PTs (X.blk s H scope (compEnvC scope cl C X.env) fp) ifs (tMT X.K X.mg W0 tt))
    (he : ∀ (s : Shared) (H : Hp) (C : Addr) (cl : List (Str × Addr)) (fp : List Addr), PEm (X.blk s H scope (compEnvC scope cl C X.env) fp) W0 elt te) (hfs : ∀ x, foldedSetIterable iter X.env x = pure x := by intro _; rfl) :
    PEm X W (.ListComp elt [⟨tg, iter, ifs, 0⟩] scope pos) (eLv mi (own.map (·.2)) t tt te) := (pe_lc hc hN hi ok hg ht he hfs).frz.mimp (tLv_of hw)
theorem ms_setLcV {i : Nat} {y : Str} {py spos : Pos} (hc : X.calm = true) (hN : X.N.Nodup) (hy : X.N[i]? = some y) (hyl : X.env.scope.names.lookup y = some .local)
    (hsw : swapsWith (.ListComp elt [⟨tg, iter, ifs, 0⟩] scope pos) (some (.Name y py)) spos.line X.env = pure true) (hi : PIm X W tg iter mi) (ok : BlkOk X.N X.env.scope scope own) (hw : ∀ i ∈ t.own, i ∈ own.map (·.2))
    (hg : ∀ (s : Shared) (H : Hp) (C : Addr) (cl : List (Str × Addr)) (fp : List Addr), PG (X.blk s H scope (compEnvC scope cl C X.env) fp) tg (t.tg X.K))
    (ht : ∀ (s : Shared) (H : Hp) (C : Addr) (cl : List (Str × Addr)) (fp : List Addr), PTs (X.blk s H scope (compEnvC scope cl C X.env) fp) ifs (tMT X.K X.mg W0 tt))
    (he : ∀ (s : Shared) (H : Hp) (C : Addr) (cl : List (Str × Addr)) (fp : List Addr), PEm (X.blk s H scope (compEnvC scope cl C X.env) fp) W0 elt te) (hfs : ∀ x, foldedSetIterable iter X.env x = pure x := by intro _; rfl) :
    PSm X W (.Assign [.Name y py] (.ListComp elt [⟨tg, iter, ifs, 0⟩] scope pos) spos) (sAsg (eLv mi (own.map (·.2)) t tt te) (gNm i)) := (ps_setLc hc hN hy hyl hsw hi ok hg ht he hfs).frz.mimp fun D s H ⟨r, sm, h, hs, ss, w⟩ =>
  tLc_mono tMI_mono (fun v H1 z => z.imp id fun ⟨p, xs, _, a, b⟩ => ⟨p, xs, a, b⟩) (tLv_of hw s H (fun v H1 => D.nx (s.set i (some v)) H1) (tM_bindS hs ss w fun r1 h1 v x H1 hs1 ss1 p1 q1 w1 => WtS.nx hs1 (ss1.set q1 i) w1))
end
end MP

/-! a def's new list as a value; a dict display that is read at once -/
namespace MP
open PySem PySem.Spec PyProof.Rows L2
section
variable {P : Program} {w : World} {K : PySem.W.Frag} {mg : Str → Option Value} {base : Heap} {C : CXT} {k : Nat} {f : Addr} {fd : FuncData} {ps : List Str} {sp : Sp} {m : MF}
theorem ce_frz {outer : List Env} {H : Hp} {s : Shared} {Q : VK} {u : Value} {s' : Shared} (h : CE outer P w H s (FzQ Q) u s') : CE outer P w H s Q u s' := by
  obtain ⟨v, H', os, bare, un, hok, ru, q | ⟨p, xs, e, hp, q⟩⟩ := h
  · exact ⟨v, H', os, bare, un, hok, ru, q⟩
  · obtain ⟨z, its, n, r, eo⟩ := hok p _ hp
    have hne : ∀ {b : Addr} {o : HO}, H' b = some o → (∀ ys, o ≠ .lst ys) → b ≠ p := fun {b o} q' n' z => by
      subst z; rw [hp] at q'; cases q'; exact n' _ rfl
    refine ⟨v, _, os, bare, ⟨un.keep, un.slot, fun b o a c d => ?_, un.there, fun b ys a => ?_, fun b o u a => ?_, fun b ys a => ?_⟩, fun b o a => ?_, ru, q { cls := .type "list", data := .seq its.toArray n }⟩
    · have := un.free b o a c d
      rw [upd_ne (fun z => by subst z; rw [hp] at this; cases this)]
      exact this
    · have := un.tups b ys a
      rw [upd_ne (hne this fun _ z => by cases z)]
      exact this
    · have := un.frzs b o u a
      rw [upd_ne (hne this fun _ z => by cases z)]
      exact this
    · obtain ⟨more, e2⟩ := un.tbls b ys a
      exact ⟨more, by rw [upd_ne (hne e2 fun _ z => by cases z)]; exact e2⟩
    · by_cases hb : b = p
      · subst hb
        rw [upd_same] at a
        cases a
        exact ⟨eo, z, its, n, r, eo⟩
      · rw [upd_ne hb] at a
        refine (hok b o a).stay (fun c v _ q => q) (fun c q => ?_) fun c xs q => ?_
        · rw [upd_ne (hne q fun _ z => by cases z)]; exact q
        · rw [upd_ne (hne q fun _ z => by cases z)]; exact q
theorem FnG.frz (F : FnG P w K mg base C k f fd ps sp) : FnG P w K mg base C k f fd ps (fun vs H Q E => sp vs H (FzQ Q) E) :=
  ⟨fun vs H Q E q => F.len vs H _ E q, fun A outer s H args us vs Q E r e b v q => codeAny_mono (F.run A outer s H args us vs _ E r e b v q) fun x s' z => by
    cases x with
    | error e => exact z
    | ok fl => cases fl with
      | ret u => exact ce_frz z
      | _ => exact z⟩
/-- behind a call: new objects cut off, a new list that is returned a value -/
def trimRV (n : Nat) : R MV → R MV
  | .ok (.ref j) h => if n ≤ j then (match h[j]? with
    | some (.lst xs) => if belowL n xs && belowH n (h.take n) then .ok (.lv xs) (h.take n) else .stuck
    | _ => .stuck) else trimR n (.ok (.ref j) h)
  | x => trimR n x
def trimV (m : MF) : MF := fun as h => trimRV h.length (m as h)
def pureRV (h : MH) : R MV → R MV
  | .ok (.ref j) h1 => match h1[j]? with
    | some (.lst xs) => if belowL 0 xs then .ok (.lv xs) h else .stuck
    | _ => .stuck
  | x => pureR h x
def pureV (m : MF) : MF := fun as h => if belowL 0 as then pureRV h (m as []) else .stuck
theorem Wt.frz {r : List Addr} {H : Hp} {E : XK} {Q : VK} {x : R MV} (w : Wt K mg (Rep K mg) r H E Q x) : Wt K mg (Rep K mg) r H E (FzQ Q) x := w.imp (fun _ _ _ z => z) fun _ _ z => .inl z
/-- the list at a is locked, a being none of the mirror's objects -/
theorem Post.lock {r : List Addr} {h : MH} {H H' : Hp} {a : Addr} {ys : List V} (p : Post K mg r H r h H') (ha : a ∉ r) (hn : ∀ o, OkT K a o → H a ≠ some o) (e : H' a = some (.lst ys)) (o : Obj) : Post K mg r H r h (upd H' a (.frz o (.lst ys))) ∧ Kp K H' (upd H' a (.frz o (.lst ys))) := by
  obtain ⟨hs5, ht5⟩ := p.hs.side (u := .frz o (.lst ys)) ha e trivial
  refine ⟨⟨p.pre, hs5, fun b o hb eb t => ⟨(p.fr b o hb eb t).1, ?_⟩, fun b o u eb => ?_⟩, ht5⟩
  · rw [upd_ne (fun z => hn o (by rw [← z]; exact t) (by rw [← z]; exact eb))]
    exact (p.fr b o hb eb t).2
  · rw [upd_ne (fun z => hn (.frz o u) (.inl fun _ q => by cases q) (by rw [← z]; exact eb))]
    exact p.fz b o u eb
theorem Wt.trimV {r : List Addr} {h : MH} {H : Hp} {E : XK} {Q : VK} {x : R MV} (hs : HS K mg r h H) (w : Wt K mg (Rep K mg) r H E Q (trimRV h.length x)) : Wt K mg (Rep K mg) r H E (FzQ Q) x := by
  unfold trimRV at w
  split at w
  · rename_i j h'
    split at w
    · rename_i hj
      split at w
      · rename_i xs hx
        split at w
        · rename_i b
          rw [Bool.and_eq_true] at b
          rw [← hs.len] at b w hj
          intro r' H' y p q
          cases q with
          | ref ea =>
            rename_i a
            obtain ⟨ys, e1, ql⟩ := p.hs.lookup ea hx
            have har' : a ∈ r' := List.mem_of_getElem? ea
            have har : a ∉ r := fun z => by
              obtain ⟨t, rfl⟩ := p.pre
              rw [List.getElem?_append_right hj] at ea
              exact (List.nodup_append.mp p.hs.nd).2.2 a z a (List.mem_of_getElem? ea) rfl
            refine .inr ⟨a, ys, rfl, e1, fun o => ?_⟩
            obtain ⟨po, kp⟩ := (p.trim b.2).lock har (fun o t z => (p.fr a o har z t).1 har') e1 o
            exact w r _ (.ref a) po (.lv ⟨o, upd_same⟩ (RepL.mono kp (fun _ _ z => z) _ _ (RepL.bel p.ixb _ _ b.1 ql)))
        · exact w.elim
      · exact w.elim
    · exact (Wt.trim hs w).frz
  · exact (Wt.trim hs w).frz
theorem Wt.pureV {r : List Addr} {h : MH} {H : Hp} {E : XK} {Q : VK} {x : R MV} (hs : HS K mg r h H) (w : Wt K mg (Rep K mg) r H E Q (pureRV h x)) : Wt K mg (Rep K mg) [] H E (FzQ Q) x := by
  unfold pureRV at w
  split at w
  · rename_i j h'
    split at w
    · rename_i xs hx
      split at w
      · rename_i b
        intro r' H' y p q
        cases q with
        | ref ea =>
          rename_i a
          obtain ⟨ys, e1, ql⟩ := p.hs.lookup ea hx
          have har' : a ∈ r' := List.mem_of_getElem? ea
          have hno : ∀ o, OkT K a o → H a ≠ some o := fun o t z => (p.fr a o (by simp) z t).1 har'
          have har : a ∉ r := fun z => by
            obtain ⟨o, e, pl⟩ := hs.plain z
            exact hno o (.inl fun ps q => by rw [q] at pl; exact pl) e
          refine .inr ⟨a, ys, rfl, e1, fun o => ?_⟩
          obtain ⟨po, kp⟩ := (p.pure hs).lock har hno e1 o
          exact w r _ (.ref a) po (.lv ⟨o, upd_same⟩ (RepL.mono kp (fun _ _ z => z) _ _ (RepL.bel (n := 0) (fun i a hi _ => by omega) _ _ b ql)))
      · exact w.elim
    · exact w.elim
  · exact (Wt.pure hs w).frz
theorem FnM.trimV (F : FnM P w K mg base k f fd ps m) : FnM P w K mg base k f fd ps (trimV m) := F.frz.imp fun vs H Q E ⟨hl, r, h, as, hs, q, w⟩ => ⟨hl, r, h, as, hs, q, Wt.trimV hs w⟩
theorem FnM.pureV (F : FnM P w K mg base k f fd ps m) : FnM P w K mg base k f fd ps (pureV m) := F.frz.imp fun vs H Q E ⟨hl, r, h, as, hs, q, w⟩ => by
  unfold MP.pureV at w
  split at w
  · rename_i b
    exact ⟨hl, [], [], as, ⟨rfl, .nil, (fun n o a e _ => by cases e), hs.tb⟩, RepL.bel (n := 0) (fun i a hi _ => by omega) _ _ b q, Wt.pureV hs w⟩
  · exact w.elim
theorem Fn.pureV {x : Str} {np : Nat} (F : Fn P w K mg base x k np m) : Fn P w K mg base x k np (MP.pureV m) := by
  obtain ⟨f, fd, ps, h1, F, h2, h3, h4⟩ := F.ex
  exact ⟨f, fd, ps, h1, FnM.pureV F, h2, h3, h4⟩
end
/-! ### {..}[k], {..}.get(k, d) -/
def ifs15 {α : Type} (f : List (MK × MV) → MH → R α) (ps : List (MK × MV)) (h : MH) : R α := if ps.length ≤ 15 then f ps h else .stuck
section
variable {X : Cx} {W : WX} {a b c e : Expr} {es : List Expr} {ma mb : ME} {ms : MA} {pos : Pos}
theorem disp_of {K : PySem.W.Frag} {mg : Str → Option Value} {prs : List (ME × ME)} {α β : Type} {rel : List Addr → Hp → α → β → Prop} {Q : β → Hp → Prop} {f : List (MK × MV) → MH → R α} {Q' : VK} {r : List Addr} {sm : Sl} {h : MH} {s : L2.St} {H : Hp} (hs : HS K mg r h H) (ss : SS K mg r H sm s)
    (w : Wt K mg rel r H (fun c d H' => W c d s H') Q ((pairsM prs sm h).bind (ifs15 f)))
    (k : ∀ r1 h1 ps H1 p kvs, Post K mg r H r1 h1 H1 → SS K mg r1 H1 sm s → p ∉ r1 → H1 p = some (.dK kvs) → RepK K mg r1 H1 (merge ps) kvs → Wt K mg rel r H (fun c d H' => W c d s H') Q (f ps h1) → Q' (.ref p) H1) :
    tDisp (prs.map fun p => (tM K mg W p.1, tM K mg W p.2)) s H Q' := fun p hp => by
  have po := hs.extra (u := .dK []) hp
  have hpr : p ∉ r := hs.notNone hp
  refine pairs_of prs (r0 := r) (H0 := H) po (ss.post hs po) w fun r1 h1 ps xs H1 pa pb q w1 => ?_
  have eD := pb.at_ (D := p) upd_same hpr
  unfold ifs15 at w1
  split at w1
  · rename_i h15
    obtain ⟨kvs, e1, qk⟩ := repP_keys q
    refine ⟨eD.1, kvs, e1, by rw [← paired_len qk]; exact h15, ?_⟩
    obtain ⟨hs5, ht5⟩ := pa.hs.side (u := .dK (mergeK [] kvs)) eD.2 eD.1 trivial
    have po5 : Post K mg r H r1 h1 (upd H1 p (.dK (mergeK [] kvs))) := ⟨pa.pre, hs5, fun b o hb eb t => ⟨(pa.fr b o hb eb t).1, by
      rw [upd_ne (ne_of_none eb hp)]; exact (pa.fr b o hb eb t).2⟩, fun b o u eb => by rw [upd_ne (ne_of_none eb hp)]; exact pa.fz b o u eb⟩
    exact k r1 h1 ps _ p _ po5 (ss.post hs po5) eD.2 upd_same (merge_ok (paired_mono (fun _ _ z => ⟨z.1, Rep.mono ht5 (fun _ _ z => z) _ _ z.2⟩) qk) .nil) w1
  · exact w1.elim
def eDg (prs : List (ME × ME)) (k : ME) : ME := fun s h => (pairsM prs s h).bind (ifs15 fun ps h1 => (k s h1).bind fun y h2 => match keyOf y with
  | some kk => (match dGet kk (merge ps) with
    | some v => .ok v h2
    | none => .stuck)
  | none => .stuck)
theorem me_dg (hu : X.A.units + 64 < cLine) {keys : List (Option Expr)} {values : List Expr} {prs : List (ME × ME)} {p2 : Pos} (hp : PPs X p2 keys values (prs.map fun p => (tM X.K X.mg W p.1, tM X.K X.mg W p.2))) (hb : PEm X W b mb) (hall : keys.all (·.isSome) = true := by rfl) (hl : keys.length = values.length := by rfl) (h0 : keys ≠ [] := by exact fun z => by cases z)
    (h15 : keys.length ≤ 15 := by decide) (hpx : PlainIx b := by exact fun _ _ => rfl) : PEm X W (.Subscript (.Dict keys values p2) b pos) (eDg prs mb) := (pe_ix (ix_dict (by omega)) (pe_disp hp hall hl h0 h15) hb hpx).mimp fun s H Q ⟨r, sm, h, hs, ss, w⟩ =>
  disp_of hs ss w fun r1 h1 ps H1 p kvs po ss1 hn e q w1 => tM_anch po ss1 w1 fun r2 h2 v x H2 pa pb q2 w2 => by
    have eD := pb.at_ e hn
    split at w2
    · rename_i kk ek
      split at w2
      · rename_i v' ev
        obtain ⟨i1, _⟩ := dGet_ok (g := mk) (fun _ _ => mk_inj) kk (paired_mono (fun _ _ z => ⟨z.1, pb.rep po.hs z.2⟩) q)
        obtain ⟨z, ez, qz⟩ := i1 v' ev
        rw [keyOf_ok q2 ek]
        refine ⟨p, z, rfl, ?_, w2 r2 H2 _ pa qz⟩
        rw [← ez]
        exact DGet.k eD.1
      · exact w2.elim
    · exact w2.elim
def eDgd (prs : List (ME × ME)) (a : MA) : ME := fun s h => (pairsM prs s h).bind (ifs15 fun ps h1 => (a s h1).bind fun xs h3 => match xs with
  | [y, z] => (match keyOf y with
    | some kk => .ok ((dGet kk (merge ps)).getD z) h3
    | none => .stuck)
  | _ => .stuck)
theorem mt_get2 (hu : X.A.units + 1 < cLine) : MtR X "dict.get" (fun x xs H Q => ∃ a y d ov, x = .ref a ∧ xs = [y, d] ∧ DGet H a y ov ∧ Q (ov.getD d) H) := by
  intro pins s σ H x xs v us Q I rx rv hh
  obtain ⟨a, y, d, ov, rfl, rfl, g, q⟩ := hh
  obtain ⟨u, u2, rfl, ru, ru2⟩ := vals2 rv
  obtain rfl := (show v = Value.ref _ from rx)
  exact d_get2 hu I g ru ru2 fun w' s' I' rw' => ⟨ov.getD d, H, I', rw', q⟩
theorem me_dgd (hu : X.A.units + 64 < cLine) {keys : List (Option Expr)} {values : List Expr} {prs : List (ME × ME)} {p2 apos : Pos} (hp : PPs X p2 keys values (prs.map fun p => (tM X.K X.mg W p.1, tM X.K X.mg W p.2))) (ha : PAm X W (a :: es) ms) (hall : keys.all (·.isSome) = true := by rfl) (hl : keys.length = values.length := by rfl) (h0 : keys ≠ [] := by exact fun z => by cases z)
    (h15 : keys.length ≤ 15 := by decide) (hbase : attributeBase (.Dict keys values p2) "get" X.env (eval (.Dict keys values p2) X.env) = eval (.Dict keys values p2) X.env := by rfl)
    (hfew : ((backTo pos (starEach (a :: es) X.env)).all (fun x => !x.1) && (backToKw pos (keywordEach [] X.env)).all (fun x => x.1.isSome)
      && decide ((a :: es).length + ([] : List Keyword).length + (if ([] : List Keyword).isEmpty then 0 else 1) < 30)) = true := by rfl)
    (hline : (apos.endLine == pos.line) = true := by rfl) (hst : starEach (a :: es) X.env = (false, eval a X.env) :: starEach es X.env := by rfl) (hplain : (backTo pos (starEach es X.env)).any (·.1) = false := by rfl) :
    PEm X W (.Call (.Attribute (.Dict keys values p2) "get" apos) (a :: es) [] pos) (eDgd prs ms) := (pe_bm PySem.F.plainAttrs_dict PySem.F.slot_dict_get PySem.F.type_dict_get (mt_get2 (by omega)) (pe_disp hp hall hl h0 h15) ha hbase hfew hline hst hplain).mimp fun s H Q ⟨r, sm, h, hs, ss, w⟩ =>
  disp_of hs ss w fun r1 h1 ps H1 p kvs po ss1 hn e q w1 => by
    refine ⟨.inr (.inr (.inl ⟨rfl, .inl ⟨_, e⟩⟩)), r1, sm, h1, po.hs, ss1, ?_⟩
    refine (Wt.bind (rel := RepL X.K X.mg) (Wt.post po w1)).imp (fun _ _ _ z => z) fun xs H2 ⟨r2, h2, vs, pb, q2, w2⟩ => ?_
    split at w2
    · rename_i y z
      obtain ⟨y', z', rfl, qa, qb⟩ := repL2 q2
      split at w2
      · rename_i kk ek
        obtain ⟨i1, i2⟩ := dGet_ok (g := mk) (fun _ _ => mk_inj) kk (paired_mono (fun _ _ z => ⟨z.1, pb.rep po.hs z.2⟩) q)
        refine ⟨p, y', z', valV kvs (mk kk), rfl, rfl, ?_, ?_⟩
        · rw [keyOf_ok qa ek]
          exact DGet.k (pb.at_ e hn).1
        · cases ed : dGet kk (merge ps) with
          | none => rw [ed] at w2; rw [i2 ed]; exact w2 r2 H2 _ (Post.refl pb.hs) qb
          | some v' => rw [ed] at w2; obtain ⟨u, eu, qu⟩ := i1 v' ed; rw [eu]; exact w2 r2 H2 _ (Post.refl pb.hs) qu
      · exact w2.elim
    · exact w2.elim
end
end MP

/-! a text taken apart: list(text), tuple(text); a text many times -/
namespace MP
open PySem PySem.Spec PyProof.Rows L2
section
variable {X : Cx}
def sgsV (l : CP) : List MV := l.map fun c => .str [c]
theorem sgsV_eq (l : CP) : sgsV l = (l.map fun c => [c]).map .str := by simp [sgsV]
theorem vals_sgs {l : CP} {acc : Array Value} (q : ItemsOf (SignAt (S l)) acc (S l).cps.size) : Vals (((l.map fun c => [c]).map S).map V.str) acc.toList := by
  have hlen : acc.toList.length = l.length := by rw [Array.length_toList, q.1]; simp [S]
  have e : ((l.map fun c => [c]).map S).map V.str = (List.range acc.toList.length).map fun i => V.str (S [l.getD i 0]) := by
    rw [hlen]
    refine List.ext_getElem? fun i => ?_
    simp only [List.getElem?_map, List.getElem?_range']
    by_cases hi : i < l.length
    · simp [hi]
    · simp [hi]
  rw [e]
  apply vals_of_get
  intro j u hj
  obtain ⟨c, t, hc, rfl⟩ := q.2 j u (by rw [← hj, Array.getElem?_toList])
  have hcc : l[j]? = some c := by simpa [S] using hc
  refine ⟨t, ?_⟩
  simp [S, List.getD, hcc]
def mListS : FA
  | [.str l], h => if l.length ≤ sizeLine then some (.lv (sgsV l), h) else none
  | as, h => mListV as h
theorem cm_listS (hc : X.calm = true) : CallR X (.type "list") (rMA X mListS) := by
  intro pins s σ H xs us Q I rv hh
  obtain ⟨r, h, as, hs, ra, w⟩ := hh
  unfold mListS at w
  split at w
  · rename_i l
    obtain ⟨x, rfl, q⟩ := repL1 ra
    cases q
    split at w
    · rename_i hl
      obtain ⟨_, rfl, t, rfl⟩ := vals1 rv
      refine thn (call_list_str (Q := EP X pins σ (FzQ Q)) (I.ok.hd hc) (S l) t (fun h' tk acc c' kp eo it => ?_) (by simpa [S] using hl)) fun _ _ z => ep_frz z
      have hv := vals_sgs it
      have hz : (((l.map fun c => [c]).map S).map V.str).length ≤ sizeLine := by simpa using hl
      refine ⟨.ref s.heap.objs.size, _, I.laid (t' := tk) kp (Nat.le_refl _) (show ObjOk X.prog X.w _ h' _ (.lst _) from ⟨hz, acc.toList, c', hv, by simpa using eo⟩), rfl, ?_⟩
      rw [sgsV_eq] at w
      exact Wt.lv hs (I.hok.fresh (Nat.le_refl _)) (repL_strs _) w
    · exact w.elim
  · exact cm_listV pins s σ H xs us Q I rv ⟨r, h, as, hs, ra, w⟩
def mTupleS : FA
  | [.str l], h => if l.length ≤ sizeLine then some (.tup (sgsV l), h) else none
  | as, h => mTuple as h
theorem cm_tupleS (hc : X.calm = true) : CallR X (.type "tuple") (rMA X mTupleS) := by
  intro pins s σ H xs us Q I rv hh
  obtain ⟨r, h, as, hs, ra, w⟩ := hh
  unfold mTupleS at w
  split at w
  · rename_i l
    obtain ⟨x, rfl, q⟩ := repL1 ra
    cases q
    split at w
    · rename_i hl
      obtain ⟨_, rfl, t, rfl⟩ := vals1 rv
      refine call_tuple_str (I.ok.hd hc) (S l) t (fun h' tk acc kp it => ?_) (by simpa [S] using hl)
      have hv := vals_sgs it
      have hz : (((l.map fun c => [c]).map S).map V.str).length ≤ sizeLine := by simpa using hl
      have J : L2.Inv X pins σ H { s with heap := h', toks := tk } := I.kept kp
      have J2 := J.laid (h' := h'.push { cls := .type "tuple", data := .seq acc }) (t' := tk) (fun b o z => Heap.get?_push_of_some _ z) (Nat.le_refl _)
        (show ObjOk X.prog X.w _ _ _ (.tup (((l.map fun c => [c]).map S).map V.str)) from ⟨hz, acc.toList, hv, by simpa using IsTup.new h' acc⟩)
      refine ⟨.ref h'.objs.size, _, J2, rfl, ?_⟩
      rw [sgsV_eq] at w
      obtain ⟨po, re⟩ := hs.newT (J.hok.fresh (Nat.le_refl _)) (repL_strs _)
      exact w _ _ _ po re
    · exact w.elim
  · exact cm_tuple pins s σ H xs us Q I rv ⟨r, h, as, hs, ra, w⟩
def mMulS : F2 := fun a b h => match a, b with
  | .str l, .int k => if 2 ≤ k ∧ k ≤ 1000 ∧ 0 < l.length ∧ l.length ≤ 1000 then some (.str (List.replicate k.toNat l).flatten, h) else none
  | _, _ => mMulV a b h
theorem fold_reps (l : CP) : ∀ (n : Nat) (z : CP), (List.replicate n l.toArray).foldl (· ++ ·) z.toArray = (z ++ (List.replicate n l).flatten).toArray
  | 0, z => by simp
  | n + 1, z => by
    rw [List.replicate_succ, List.foldl_cons, List.append_toArray, fold_reps l n, List.replicate_succ, List.flatten_cons, List.append_assoc]
theorem om_mulS : OpR X (binaryOp .Mult) (rM X.K X.mg mMulS) := by
  intro pins s σ H x y v u Q I rx ry hh
  obtain ⟨r, h, a, b, hs, ra, rb, w⟩ := hh
  unfold mMulS at w
  split at w
  · rename_i l k
    split at w
    · rename_i hk
      obtain ⟨k2, k1, l0, l1⟩ := hk
      cases ra; cases rb
      obtain ⟨t, rfl⟩ := rx
      obtain ⟨t2, rfl⟩ := ry
      have e0 : (S l).length = l.length := S_length l
      have hm : l.length * k.toNat ≤ 1000000 := by
        have : l.length * k.toNat ≤ 1000 * 1000 := Nat.mul_le_mul l1 (by omega)
        omega
      have hsz : (sizeLine : Nat) = 16777216 := by decide
      have tl : Builtin.Str.tooLong ((S l).length * k.toNat) = false := by
        unfold Builtin.Str.tooLong
        rw [e0, decide_eq_false]
        omega
      refine PySem.P.mul_str (by simp; omega) (fun _ _ => ?_) (fun _ _ => tl) ?_
      · rw [e0]
        have : (1000 : Int) ≤ (2 ^ 63 - 1) / k := by
          rw [Int.le_ediv_iff_mul_le (by omega)]
          omega
        omega
      · have nc : ¬ ((k == 1 || (S l).length == 0) = true) := by
          rw [e0, Bool.or_eq_true, beq_iff_eq, beq_iff_eq]
          omega
        rw [if_neg (by omega), if_neg nc]
        refine ⟨fits_reps tl, ?_⟩
        have ef : (Str.mk ((List.replicate k.toNat (S l).cps).foldl (· ++ ·) #[])) = S (List.replicate k.toNat l).flatten := by
          have := fold_reps l k.toNat []
          rw [List.nil_append] at this
          unfold S
          exact congrArg Str.mk this
        rw [ef]
        exact ⟨.str _, H, I.tok _, ⟨_, rfl⟩, Wt.plain hs w (.str _)⟩
    · exact w.elim
  · exact om_mulV pins s σ H x y v u Q I rx ry ⟨r, h, a, b, hs, ra, rb, w⟩
end
end MP

/-! stars in displays, list(range(a, b, c)), str.islower -/
namespace MP
open PySem PySem.Spec PyProof.Rows L2
section
variable {X : Cx} {W : WX} {a b c e : Expr} {es : List Expr} {ma mb : ME} {ms : MA} {pos : Pos}
def seqS (h : MH) : MV → Option (List MV)
  | .tup xs => some xs
  | x => lstV h x
theorem HS.seqS {K : PySem.W.Frag} {mg : Str → Option Value} {r : List Addr} {h : MH} {H : Hp} (hs : HS K mg r h H) {v : MV} {x : V} {xs : List MV} (q : Rep K mg r H v x) (l : MP.seqS h v = some xs) : ∃ p ys, x = .ref p ∧ (SqT K H p ys ∨ SqL K H p ys) ∧ RepL K mg r H xs ys := by
  unfold MP.seqS at l
  split at l
  · cases l
    cases q with
    | tup sq ql => exact ⟨_, _, rfl, .inl sq, ql⟩
  · obtain ⟨p, ys, e1, e2, e3⟩ := hs.listV q l
    exact ⟨p, ys, e1, .inr e2, e3⟩
def aStar (a : ME) (b : MA) : MA := fun s h => (a s h).bind fun x h1 => match seqS h1 x with
  | some xs => (b s h1).bind fun ys h2 => .ok (xs ++ ys) h2
  | none => .stuck
theorem ma_star {p : Pos} (ha : PEm X W e ma) (hr : PAm X W es ms) (hst : starEach (.Starred e p :: es) X.env = (true, eval e X.env) :: starEach es X.env := by rfl) : PAm X W (.Starred e p :: es) (aStar ma ms) := (StX.pa_star ha hr hst).mimp fun s H Q ⟨r, sm, h, hs, ss, w⟩ =>
  tM_bind hs ss w fun r1 h1 v x H1 hs1 ss1 p1 q1 w1 => by
    cases e : seqS h1 v with
    | none => rw [e] at w1; exact w1.elim
    | some xs =>
      rw [e] at w1
      obtain ⟨p, zs, e1, sq, ql⟩ := hs1.seqS q1 e
      refine ⟨p, zs, e1, sq, ?_⟩
      exact tMA_bind hs1 ss1 w1 fun r2 h2 vs ys H2 hs2 ss2 p2 q2 w2 => w2 r2 H2 _ (Post.refl hs2) ((p2.repL hs1 ql).append q2)
/-! ### list(range(i, j, k)) -/
def rgI (i k : Int) (n : Nat) : List V := (List.range n).map fun m => V.int (i + (m : Nat) * k)
theorem vals_rgI {i k : Int} {n : Nat} {acc : Array Value} (h : ItemsOf (fun m v => ∃ t, v = .int (i + m * k) t) acc n) : Vals (rgI i k n) acc.toList := by
  have e : acc.toList.length = n := by rw [Array.length_toList]; exact h.1
  unfold rgI
  rw [← e]
  exact vals_of_get acc.toList (fun m => V.int (i + (m : Nat) * k)) fun j u hj => h.2 j u (Array.getElem?_toList.symm.trans hj)
def tLrg3 (ta : TA) : TE := fun σ H Q => ta σ H fun vs H1 => ∃ (i j k : Int) (n : Nat), vs = [.int i, .int j, .int k] ∧ RgC i j k n ∧ n ≤ 2 ^ 24 ∧ ∀ q, H1 q = none → Q (.ref q) (upd H1 q (.lst (rgI i k n)))
theorem pe_lrg3 {ta : TA} {p p' pos' : Pos} (hc : X.calm = true) (hgl : Gl X "list") (hml : X.mg "list" = none) (hgr : Gl X "range") (hmr : X.mg "range" = none) (ha : PA X [a, b, c] ta)
    (hs : starEach [a, b, c] X.env = (false, eval a X.env) :: starEach [b, c] X.env := by rfl) (hpl : (backTo pos' (starEach [b, c] X.env)).any (·.1) = false := by rfl)
    (na : starEach [.Call (.Name "range" p') [a, b, c] [] pos'] X.env = (false, eval (.Call (.Name "range" p') [a, b, c] [] pos') X.env) :: starEach [] X.env := by rfl) :
    PE X (.Call (.Name "list" p) [.Call (.Name "range" p') [a, b, c] [] pos'] [] pos) (tLrg3 ta) := by
  constructor
  intro pins s σ H Q I h
  refine Call_ (ld_blt I hgl hml boot_list (PyProof.Rows.callWith_type1 (args_cons ?_ na) na))
  refine Call_ (ld_blt I hgr hmr boot_range (PyProof.Rows.callWith_type1 (thn (ha.run pos' pins s σ H _ I h) fun us s1 ⟨vs, H1, I1, r1, q1⟩ => ?_) hs hpl))
  obtain ⟨i, j, k, n, e, ⟨c0, c1, c2, c3⟩, c4, q⟩ := q1
  subst e
  cases r1 with
  | cons r rr =>
    cases rr with
    | cons r' rr =>
      cases rr with
      | cons r'' rr =>
        cases rr
        obtain ⟨t, rfl⟩ := r
        obtain ⟨t', rfl⟩ := r'
        obtain ⟨t'', rfl⟩ := r''
        refine call_range_3 c0 (hp := .inl (PyProof.noPylong_small c1)) ?_
        refine args_nil ?_
        have I2 : L2.Inv X pins σ H1 { s1 with heap := s1.heap.push { cls := .type "range", data := .fields #[.int i t, .int j t', .int k t''] } } := I1.kept (t' := s1.toks) fun b o e => Heap.get?_push_of_some _ e
        refine call_list_range (n := n) (I2.ok.hd hc) (IsRange.new _ _ _ _ _ _ _) c2 c3 c4 fun h' tk acc c' hk e' hi => ?_
        refine ⟨.ref _, upd H1 _ (.lst (rgI i k n)), I2.laid hk (Nat.le_refl _) (show ObjOk X.prog X.w _ _ _ (.lst (rgI i k n)) from ⟨?_, acc.toList, c', vals_rgI hi, ?_⟩), rfl, q _ (I2.hok.fresh (Nat.le_refl _))⟩
        · simp only [rgI, List.length_map, List.length_range, sizeLine_eq]; omega
        · exact (Array.toArray_toList (xs := acc)).symm ▸ e'
def rgM (i k : Int) (n : Nat) : List MV := (List.range n).map fun m => MV.int (i + (m : Nat) * k)
theorem repL_rgM {K : PySem.W.Frag} {mg : Str → Option Value} {r : List Addr} {H : Hp} (i k : Int) (n : Nat) : RepL K mg r H (rgM i k n) (rgI i k n) := by
  unfold rgM rgI
  generalize List.range n = l
  induction l with
  | nil => exact .nil
  | cons x l ih => exact .cons (.int _) ih
def eLrg3 (a : MA) : ME := fun s h => (a s h).bind fun xs h1 => match xs with
  | [.int i, .int j, .int k] => if k ≠ 0 ∧ k.natAbs < 1073741824 ∧ Builtin.Range.small i j k = true ∧ 0 ≤ Builtin.Range.rangeSize i j k ∧ Builtin.Range.rangeSize i j k ≤ 16777216 then .ok (.lv (rgM i k (Builtin.Range.rangeSize i j k).toNat)) h1 else .stuck
  | _ => .stuck
theorem me_lrg3 {p p' pos' : Pos} (hc : X.calm = true) (hgl : Gl X "list") (hml : X.mg "list" = none) (hgr : Gl X "range") (hmr : X.mg "range" = none) (ha : PAm X W [a, b, c] ms)
    (hst : starEach [a, b, c] X.env = (false, eval a X.env) :: starEach [b, c] X.env := by rfl) (hpl : (backTo pos' (starEach [b, c] X.env)).any (·.1) = false := by rfl)
    (na : starEach [.Call (.Name "range" p') [a, b, c] [] pos'] X.env = (false, eval (.Call (.Name "range" p') [a, b, c] [] pos') X.env) :: starEach [] X.env := by rfl) :
    PEm X W (.Call (.Name "list" p) [.Call (.Name "range" p') [a, b, c] [] pos'] [] pos) (eLrg3 ms) := (pe_lrg3 hc hgl hml hgr hmr ha hst hpl na).frz.mimp fun s H Q ⟨r, sm, h, hs, ss, w⟩ =>
  tMA_bind hs ss w fun r1 h1 vs xs H1 hs1 ss1 p1 q1 w1 => by
    split at w1
    · rename_i i j k
      split at w1
      · rename_i hk
        obtain ⟨k0, k1, k2, k3, k4⟩ := hk
        cases q1 with | cons a1 q1 => cases q1 with | cons a2 q1 => cases q1 with | cons a3 q1 =>
        cases q1; cases a1; cases a2; cases a3
        refine ⟨i, j, k, (Builtin.Range.rangeSize i j k).toNat, rfl, ⟨k0, k1, k2, by omega⟩, by omega, fun q hq => ?_⟩
        exact Wt.lv hs1 hq (repL_rgM i k _) w1
      · exact w1.elim
    · exact w1.elim
/-! ### islower -/
def lowS (l : CP) : Bool := l.any Unicode.isLower && !l.any fun c => Unicode.isUpper c || Unicode.isTitle c
theorem low_eq (l : CP) : Txt.islower (S l) = lowS l := by
  unfold Txt.islower lowS S
  simp
def mIslow : FM
  | .str l, [], h => some (.bl (lowS l), h)
  | _, _, _ => none
theorem mm_islow : MtR X "str.islower" (rMM X mIslow) := by
  intro pins s σ H x xs v us Q I rx rv hh
  obtain ⟨r, h, a, as, hs, ra, rs, w⟩ := hh
  unfold mIslow at w
  split at w
  · rename_i l
    cases ra
    cases rs
    refine mt_islower pins s σ H _ _ v us Q I rx rv ⟨_, rfl, rfl, trivial, ?_⟩
    rw [low_eq]
    exact Wt.plain hs w (.bl _)
  · exact w.elim
end
/-- a mirror that never answers keeps every promise -/
theorem FnM.never {P : Program} {w : World} {K : PySem.W.Frag} {mg : Str → Option Value} {base : Heap} {k : Nat} {f : Addr} {fd : FuncData} {ps : List Str} : FnM P w K mg base k f fd ps (fun _ _ => .stuck) :=
  ⟨fun vs H Q E h => h.1, fun A outer s H args us vs Q E _ _ _ _ hsp => by
    obtain ⟨_, r, h, as, _, _, w⟩ := hsp
    exact w.elim⟩
end MP

/-! an own exception class over ValueError whose __init__(self, f) says super().__init__(text); self.f = f: made, as a value and to be raised -/
namespace MP
open PySem PySem.Spec PyProof.Rows L2
/-- the two statements of such an __init__ -/
def initBody (f msg : Str) (j : Nat) (p0 p1 p2 p3 p4 p5 q0 q1 q2 q3 : Pos) : List Stmt :=
  [.Expr (.Call (.Attribute (.Call (.Name "super" p0) [] [] p1) "__init__" p2) [.Constant (.str msg) j p3] [] p4) p5,
   .Assign [.Attribute (.Name "self" q0) f q1] (.Name f q2) q3]
/-- what the written part says of such a class -/
structure XcC (P : Program) (K : PySem.W.Frag) (C : Addr) (f : Str) : Prop where
  oex : OexC K C
  fld : PySem.W.findIn K (.ref C) f = some none
  sup : PySem.W.nsIn K mainGlobals "super" = some none
  opq : PySem.W.nsIn K PySem.cStatics "thirdparty.any" = some none
  xin : PySem.W.excInitIn K C [.type "ValueError", .type "Exception", .type "BaseException", .type "object"] "ValueError.__new__" = true
  ini : ∃ (fI cc cda : Addr) (oc ccl cl : Value) (od cdd cld : Option Addr) (osl ccs csl : Array (Option Value)) (name qual msg : Str) (params : Arguments) (scope : Scope) (dV kV doc pm ct : Value) (an : Option Addr) (j : Nat) (p0 p1 p2 p3 p4 p5 q0 q1 q2 q3 : Pos) (vs : Array Value) (tf : Tok) (ar : Arg) (cdC : ClassData),
    PySem.W.findIn K (.ref C) "__init__" = some (some (.ref fI)) ∧ PySem.W.typeIn K (.ref fI) = some (.type "function") ∧
    K.lookup fI = some ⟨oc, od, .func (PySem.W.ksFn name qual params (initBody f msg j p0 p1 p2 p3 p4 p5 q0 q1 q2 q3) scope dV kV doc pm an (.ref cda) ct cc), osl⟩ ∧
    K.lookup cda = some ⟨ccl, cdd, .fields vs, ccs⟩ ∧ PySem.W.codeIn K (.ref cda) qual = true ∧ vs[2]? = some (.str P.main.file tf) ∧
    K.lookup cc = some ⟨cl, cld, .cell (some (.ref C)), csl⟩ ∧ PySem.W.clsIn K C = some cdC ∧ PySem.W.mroIn K C (.ref C) = some true ∧
    (params.posonlyargs ++ params.args).head? = some ar ∧ ar.arg = "self" ∧ PySem.W.ks_superIn K C C "__init__" = some (some (.builtin "ValueError.__init__")) ∧ PySem.W.subIn K (.ref C) (.type "ValueError") = some true ∧
    L2.Binds K (PySem.W.ksFn name qual params (initBody f msg j p0 p1 p2 p3 p4 p5 q0 q1 q2 q3) scope dV kV doc pm an (.ref cda) ct cc) ["self", f] [] ∧
    (∀ (s : Shared) (a b : Value), BindsTo s (PySem.W.ksFn name qual params (initBody f msg j p0 p1 p2 p3 p4 p5 q0 q1 q2 q3) scope dV kV doc pm an (.ref cda) ct cc) ⟨[a], [(f, b)]⟩ [("self", a), (f, b)]) ∧
    (∀ x ∈ scope.names, x.2 ≠ .cell) ∧ scope.names.lookup ("self" : Str) = some .local ∧ scope.names.lookup f = some .local ∧ scope.names.lookup ("super" : Str) = some .globalImplicit ∧ scope.names.lookup ("__class__" : Str) = some .free ∧
    scope.kind = .function ∧ scope.isCoroutine = false ∧ scope.isGenerator = false ∧ (P.main.scope.names.lookup ("super" : Str)).isSome = false ∧ f ≠ "self" ∧ (p2.endLine == p4.line) = true ∧ (f == ("__debug__" : Str)) = false
theorem super_call (env : Env) (msg : Str) (j : Nat) (p0 p1 p2 p3 p4 : Pos) (hp : (p2.endLine == p4.line) = true) : ∃ pl, eval (.Call (.Attribute (.Call (.Name "super" p0) [] [] p1) "__init__" p2) [.Constant (.str msg) j p3] [] p4) env = (do
      let ov ← attributeBase (.Call (.Name "super" p0) [] [] p1) "__init__" env (eval (.Call (.Name "super" p0) [] [] p1) env)
      standAt p2.atName
      let (f, first) ← holding [ov] (getMethod ov "__init__" pl)
      callWith p4 f first (backTo p4 (starEach [.Constant (.str msg) j p3] env)) []) := by
  refine ⟨(do return (← importBound (.Call (.Name "super" p0) [] [] p1) env).getD true), ?_⟩
  show (do
      let ov ← attributeBase (.Call (.Name "super" p0) [] [] p1) "__init__" env (eval (.Call (.Name "super" p0) [] [] p1) env)
      standAt p2.atName
      methodCall (.Call (.Name "super" p0) [] [] p1) "__init__" p2 p4 env ov 1 (backTo p4 (starEach [.Constant (.str msg) j p3] env)) (backToKw p4 (keywordEach [] env))) = _
  have hm : ∀ ov, methodCall (.Call (.Name "super" p0) [] [] p1) "__init__" p2 p4 env ov 1 (backTo p4 (starEach [.Constant (.str msg) j p3] env)) (backToKw p4 (keywordEach [] env)) = (do
      let (f, first) ← holding [ov] (getMethod ov "__init__" (do return (← importBound (.Call (.Name "super" p0) [] [] p1) env).getD true))
      callWith p4 f first (backTo p4 (starEach [.Constant (.str msg) j p3] env)) []) := fun ov => by
    unfold methodCall
    have hf : methodCallForm 1 (backTo p4 (starEach [.Constant (.str msg) j p3] env)) (backToKw p4 (keywordEach [] env)) = true := rfl
    rw [hf]
    unfold methodCallPos calleeOf
    simp only [hp, Bool.or_true, if_true, pure_bind]
    rfl
  simp only [hm]
section
variable {P : Program} {w : World} {K : PySem.W.Frag} {mg : Str → Option Value} {C : Addr} {f : Str}
/-- the run of such an __init__: the exception at e gets its dict -/
theorem XcC.run (X : XcC P K C f) : ∃ fI, PySem.W.findIn K (.ref C) "__init__" = some (some (.ref fI)) ∧ PySem.W.typeIn K (.ref fI) = some (.type "function") ∧
    ∀ (A : Around) (s : Shared) (mb : Str → Option Value) (e t0 : Addr) (u : Value) (args : Args) (R : Result → Shared → Prop), (args = ⟨[.ref e, u], []⟩ ∨ args = ⟨[.ref e], [(f, u)]⟩) → A.depth < recursionLimit → K.In s.heap → s.heap.NoLimit → s.heap.Ns mainGlobals mg → s.heap.Ns builtinsNs mb → mb "super" = some (.type "super") →
      s.heap.get? e = some (PySem.HandSPX.excO C t0) → K.lookup e = none →
      (∀ h' tk dx t1, (∀ b o, b ≠ e → s.heap.get? b = some o → h'.get? b = some o) → s.heap.objs.size ≤ dx → dx ≠ e → h'.get? e = some { cls := .ref C, dict := some dx, data := .fields #[.ref t1, .none, .none, .none, .bool false, .none] } →
        h'.Ns1 dx (fun y => if y = f then some u else none) → R (.ok (.ret .none)) { s with heap := h', toks := tk }) →
      codeAny (model P w) A (.call (.ref fI) args) R s := by
  obtain ⟨fI, cc, cda, oc, ccl, cl, od, cdd, cld, osl, ccs, csl, name, qual, msg, params, scope, dV, kV, doc, pm, ct, an, j, p0, p1, p2, p3, p4, p5, q0, q1, q2, q3, vs, tf, ar, cdC, i1, i2, i3, i4, i5, i6, i7, i8, i9, i10, i11, i12, i13, i14, iK, i15, i16, i17, i18, i19, i20, i21, i22, i23, i24, i25, i26⟩ := X.ini
  refine ⟨fI, i1, i2, fun A s mb e t0 u args R ha hroom kin lim glob blt boot he ke hR => ?_⟩
  obtain ⟨nm, qn, N, bs, bm, sn, sub, ab, col, dd, k0, k1, k2, k3, k5, hC, hbm⟩ := X.oex.cls
  have hcl : PySem.W.clsIn K C = some { name := nm, bases := bs, mro := .ref C :: bm, ns := N, qualname := qn, hasDict := true, slotNames := sn, subclasses := sub, abstract := ab, collection := col, hasDel := false } := by unfold PySem.W.clsIn; rw [hC] <;> rfl
  have bd : BindsTo s (PySem.W.ksFn name qual params (initBody f msg j p0 p1 p2 p3 p4 p5 q0 q1 q2 q3) scope dV kV doc pm an (.ref cda) ct cc) args [("self", .ref e), (f, u)] := by
    cases ha with
    | inl z => rw [z]; exact i14 s [.ref e, u] kin rfl
    | inr z => rw [z]; exact iK s _ _
  refine PySem.ks_codeAny_call_defAt (fd := PySem.W.ksFn name qual params (initBody f msg j p0 p1 p2 p3 p4 p5 q0 q1 q2 q3) scope dV kV doc pm an (.ref cda) ct cc) (binds := [("self", .ref e), (f, u)]) hroom (kin _ _ i3) rfl lim (PySem.W.codeRec_of kin i5) rfl bd i15 (fun x hx => ?_) (fun h1 ns1 k1 => ?_) i21 i22 i20
  · simp only [List.mem_cons, List.not_mem_nil, or_false] at hx
    rcases hx with rfl | rfl
    · exact i16
    · exact i17
  have kin1 : K.In h1 := kin.keeps k1
  have he1 : h1.get? e = some (PySem.HandSPX.excO C t0) := k1 _ _ he
  have hnc : ∀ c, (PySem.HandSPX.excO C t0).data ≠ .cls c := fun c z => by cases z
  obtain ⟨oD, hD1, hD2⟩ : ∃ oD, h1.get? C = some oD ∧ oD.data = .cls { name := nm, bases := bs, mro := .ref C :: bm, ns := N, qualname := qn, hasDict := true, slotNames := sn, subclasses := sub, abstract := ab, collection := col, hasDel := false } := ⟨_, kin1 _ _ hC, rfl⟩
  have msup : mg "super" = none := PySem.W.mg_none_of kin glob X.sup
  obtain ⟨pl, hev⟩ := super_call (callEnv (PySem.W.ksFn name qual params (initBody f msg j p0 p1 p2 p3 p4 p5 q0 q1 q2 q3) scope dV kV doc pm an (.ref cda) ct cc) s.heap.objs.size fI) msg j p0 p1 p2 p3 p4 i25
  refine ks_wpAt_execs_cons (ks_wpAt_Expr_any (ks_wpAt_MethodCall (pl := pl) ?_ hev) (by unfold interactive; show (scope.kind == .module && _) = false; rw [i20]; rfl))
  refine ks_wpAt_super_base (ar := ar) i18 i19 (by decide) rfl (kin1 _ _ i3) rfl i10 rfl (kin1 _ _ i4) rfl i6 (by simp) i23 ?_
  refine PySem.W.ks_loadName_global i20 i18 (Calls.loadGlobal_builtin (glob.keeps k1) msup (blt.keeps k1) boot ⟨rfl, ?_⟩)
  refine wpAny_loadName_free i20 i19 rfl ⟨_, kin1 _ _ i7, rfl⟩ ?_
  rw [i11]
  have hself : ([((f : Str), u), ("self", Value.ref e)] : List (Str × Value)).lookup ("self" : Str) = some (Value.ref e) := by
    have : (("self" : Str) == f) = false := by rw [beq_eq_false_iff_ne]; exact fun z => i24 z.symm
    simp [List.lookup, this]
  refine wpAny_loadName_local i20 i16 ns1 hself ?_
  refine ks_wpAny_isType_cls hD1 hD2 ⟨rfl, ?_⟩
  refine ks_wpAny_call_super hD1 hD2 he1 rfl hnc (PySem.W.looks_mroIn kin1 i9) (fun h2 so2 k2 => ?_)
  have kin2 : K.In h2 := kin1.keeps k2
  have he2 : h2.get? e = some (PySem.HandSPX.excO C t0) := k2 _ _ he1
  have I2 : PySem.W.InstAt h2 e (PySem.HandSPX.excO C t0) C none := ⟨he2, rfl, rfl, trivial⟩
  refine PySem.W.kxs_getMethod PySem.W.kxs_ValueError so2 (PySem.W.looks_opaque kin2 X.opq) (l₀ := .ref C :: bm) (fun A Q E s k q => wpAny_bind ((PySem.W.looks_clsIn kin2 hcl) A _ E s k (wpAny_pure q))) rfl kin2 ?_ (I2.type.andThen (PySem.W.looks_subIn kin2 i13)) ?_ (by decide) ?_
  · have z := i12
    unfold PySem.W.ks_superIn at z
    rw [hcl] at z
    exact z
  · intro z
    have q := k2 _ _ hD1
    rw [← z, he2] at q
    have q2 := Option.some.inj q
    rw [← q2] at hD2
    cases hD2
  refine PySem.W.kxs_callWith (i := "ValueError.__init__") (x := e) rfl (Calls.evalArgs_plain (Calls.spliced_cons (Calls.Constant_str (k := j) (pos := p3) (Calls.spliced_nil ⟨Heap.get?_push_size _ rfl, ?_⟩))))
  have k3' : ∀ b o, h2.get? b = some o → (h2.push (PySem.W.kxs_mw "ValueError.__init__" e)).get? b = some o := fun b o z => Heap.get?_push_of_some _ z
  have hmw : (h2.push (PySem.W.kxs_mw "ValueError.__init__" e)).get? h2.objs.size = some (PySem.W.kxs_mw "ValueError.__init__" e) := Heap.get?_push_size _ rfl
  have kin3 : K.In (h2.push (PySem.W.kxs_mw "ValueError.__init__" e)) := kin2.keeps k3'
  have he3 : (h2.push (PySem.W.kxs_mw "ValueError.__init__" e)).get? e = some (PySem.HandSPX.excO C t0) := k3' _ _ he2
  generalize h2.push (PySem.W.kxs_mw "ValueError.__init__" e) = h3 at k3' hmw kin3 he3 ⊢
  -- the base without the exception: there the call of super().__init__ is told
  have up (b : Addr) (o : Obj) (z : s.heap.get? b = some o) : h3.get? b = some o := k3' _ _ (k2 _ _ (k1 _ _ z))
  have eL : e ≠ s.heap.objs.size := Nat.ne_of_lt (Heap.lt_size he)
  have ns3 : h3.Ns s.heap.objs.size (fun x => ([("self", Value.ref e), (f, u)] : List (Str × Value)).reverse.lookup x) := (ns1.keeps k2).keeps k3'
  have sz2 : s.heap.objs.size < h2.objs.size := (ns1.keeps k2).lt
  have Fr3 : Fr (PySem.W.hideAll s.heap [e]) s.heap.objs.size h3 _ := ⟨ns3, fun b o z => up b o (PySem.W.of_hideAll [e] z), Nat.le_of_eq (PySem.W.hideAll_size _ _)⟩
  have kin0 : K.In (PySem.W.hideAll s.heap [e]) := fun b o z => PySem.W.hideAll_get [e] (kin b o z) fun m => by rw [List.mem_singleton.mp m, ke] at z; cases z
  have N3 : News (PySem.W.hideAll s.heap [e]) s.heap.objs.size h3 [(h2.objs.size, PySem.W.kxs_mw "ValueError.__init__" e), (e, PySem.W.excObj C t0 none .none)] := fun q hq => by
    cases hq with
    | head => exact ⟨hmw, Nat.ne_of_gt sz2, Heap.get?_none_of_le (by rw [PySem.W.hideAll_size]; exact Nat.le_of_lt sz2)⟩
    | tail _ hq => cases List.mem_singleton.mp hq; exact ⟨he3, eL, PySem.W.hideAll_none [e] (List.mem_singleton.mpr rfl)⟩
  refine PySem.W.kxs_call Fr3 kin0 N3 F.excBase_ValueError X.xin (List.mem_cons_self ..) (.tail (Nat.ne_of_gt (Nat.lt_of_lt_of_le (Heap.lt_size he) (Nat.le_of_lt sz2))) (.head fun _ q => nomatch q)) (by show 1 ≤ sizeLine; decide) fun t1 h4 Fr4 N4 _ => ?_
  have he4 : h4.get? e = some (PySem.W.excObj C t1 none .none) := (N4 (e, _) (by simp)).1
  have all4 (b : Addr) (o : Obj) (hb : b ≠ e) (z : s.heap.get? b = some o) : h4.get? b = some o := Fr4.keep b o (PySem.W.hideAll_get [e] z fun m => hb (List.mem_singleton.mp m))
  have ns4 := Fr4.ns
  have kin4 : K.In h4 := kin0.keeps Fr4.keep
  have hfl : ([((f : Str), u), ("self", Value.ref e)] : List (Str × Value)).lookup f = some u := by simp [List.lookup]
  refine wpAt_of_wpAny (wpAny_execs_cons ?_)
  refine plainObj_wpAny_Assign_Attribute (wpAny_Name (wpAny_loadName_local i20 i17 ns4 (v := u) hfl (wpAny_Name (wpAny_loadName_local i20 i16 ns4 (v := .ref e) hself ?_) (by decide))) i26)
  refine PySem.W.set_plain kin4 (ox := PySem.W.excObj C t1 none .none) (od := none) ⟨he4, rfl, rfl, trivial⟩ X.oex.sa ?_
  refine PySem.HandSPX.exc_osa kin4 he4 hcl (show PySem.HandSPX.refsVE (.ref C :: bm) = true from hbm) rfl X.fld (fun h5 tk5 dx k5' dn dne hx hn => ?_)
  refine wpAny_execs_nil ?_
  refine hR h5 tk5 dx t1 (fun b o hb z => k5' b o hb (all4 b o hb z)) ?_ dne hx hn
  exact Nat.le_trans (Nat.le_of_lt ns4.lt) dn
end
end MP

/-! exceptions made as values, and raised -/
namespace MP
open PySem PySem.Spec PyProof.Rows L2
section
variable {X : Cx} {C : Addr} {f : Str} {k : Nat} {pins : List (Addr × Obj)} {σ : L2.St} {H : Hp} {s : Shared}
theorem make_run (XC : XcC X.prog X.K C f) (I : L2.Inv X pins σ H s) (hr : RoomG (k + 1) X.A) {u : Value} {Q : Value → Shared → Prop}
    (h : ∀ (e dx t1 : Addr) (h' : Heap) (tk : Nat), s.heap.objs.size ≤ e → s.heap.objs.size ≤ dx → dx ≠ e → (∀ b o, s.heap.get? b = some o → h'.get? b = some o) →
      h'.get? e = some (PySem.W.excObj C t1 (some dx) .none) → h'.Ns1 dx (fun y => if y = f then some u else none) → Q (.ref e) { s with heap := h', toks := tk }) :
    wpAny (model X.prog X.w) X.A (call (.ref C) [u]) Q X.xe s := by
  obtain ⟨nm, qn, N, bs, bm, sn, sub, ab, col, dd, k0, k1, k2, k3, k5, hC, hbm⟩ := XC.oex.cls
  obtain ⟨fI, i1, i2, run⟩ := XC.run (w := X.w) (mg := X.mg)
  obtain ⟨mb, b1, b2⟩ := I.ok.mod.blt
  have kin := I.kIn
  have lim := I.nolimit
  have glob : s.heap.Ns mainGlobals X.mg := I.mod.glob.keeps I.bk
  have blt : s.heap.Ns builtinsNs mb := b1.keeps I.bk
  cases s with | mk hp g dr tk os => ?_
  have kk : ∀ b o, hp.get? b = some o → ((hp.push (PySem.W.kdv_tup [u])).push (PySem.HandSPX.excO C hp.objs.size)).get? b = some o := fun b o e => Heap.get?_push_of_some _ (Heap.get?_push_of_some _ e)
  have hget : ((hp.push (PySem.W.kdv_tup [u])).push (PySem.HandSPX.excO C hp.objs.size)).get? (hp.objs.size + 1) = some (PySem.HandSPX.excO C hp.objs.size) := by heap_get
  have ke : X.K.lookup (hp.objs.size + 1) = none := by
    cases z : X.K.lookup (hp.objs.size + 1) with
    | none => rfl
    | some o => exact absurd (Heap.lt_size (kin _ _ z)) (Nat.not_lt.mpr (Nat.le_succ _))
  refine wpAny_call (PySem.HandSPX.call_own F.excBase_ValueError (fun Y => PySem.HandSPX.refsVE_contains Y bm hbm) (kin _ _ hC) (PySem.W.looks_findIn kin i1) (fun self => PySem.W.bind_fn kin self i2) (by show 1 ≤ sizeLine; rw [sizeLine_eq]; omega) ?_)
  refine run _ ⟨(hp.push (PySem.W.kdv_tup [u])).push (PySem.HandSPX.excO C hp.objs.size), g, dr, tk, os⟩ mb (hp.objs.size + 1) hp.objs.size u _ _ (.inl rfl) (hr.make C [u] []).toRoom.depth (kin.keeps kk) (lim.keeps kk) (glob.keeps kk) (blt.keeps kk) (b2 "super" (by decide)) hget ke (fun h' tk' dx t1 kp dn dne hx hn => ?_)
  have hs2 : ((hp.push (PySem.W.kdv_tup [u])).push (PySem.HandSPX.excO C hp.objs.size)).objs.size = hp.objs.size + 2 := by simp [Heap.size_push]
  refine ⟨rfl, h (hp.objs.size + 1) dx t1 h' tk' (Nat.le_succ _) ?_ dne (fun b o z => kp b o (fun y => ?_) (kk b o z)) hx hn⟩
  · rw [hs2] at dn
    exact Nat.le_trans (Nat.le_add_right _ 2) dn
  · have := Heap.lt_size z
    rw [y] at this
    exact absurd this (Nat.not_lt.mpr (Nat.le_succ _))
/-- at e: an exception as a value; at dx: its dict -/
theorem exV_ok {P : Program} {w : World} {H : Hp} {h : Heap} {e C dx : Addr} {oe : Obj} {vs : Array Value} (he : h.get? e = some oe) (h1 : oe.cls = .ref C) (h2 : oe.dict = some dx) (h3 : oe.data = .fields vs) : ObjOk P w H h e (exV e C dx) :=
  ⟨⟨oe, vs, he, h1, h2, h3⟩, ⟨_, he⟩, fun g1 g2 ⟨o, v, q1, q2⟩ st => ⟨o, v, st _ q1, q2⟩⟩
section
variable {e dx t1 : Addr} {y : V} {u : Value} {h' : Heap} {tk : Nat} (I : L2.Inv X pins σ H s) (he : s.heap.objs.size ≤ e) (hd : s.heap.objs.size ≤ dx) (hne : dx ≠ e) (kp : ∀ b o, s.heap.get? b = some o → h'.get? b = some o)
  (hx : h'.get? e = some (PySem.W.excObj C t1 (some dx) .none)) (hn : h'.Ns1 dx (fun y => if y = f then some u else none)) (ry : RelV y u)
include I he hd hne kp hn ry in
/-- its dict alone, the exception itself not looked at -/
theorem made_dict : L2.Inv X pins σ (upd H dx (.xd [(f, y)])) { s with heap := PySem.W.hideAll h' [e], toks := tk } := by
  obtain ⟨od, es, ep, hod, r1, r2⟩ := hn
  have other {b : Addr} (hb : b ≠ e) : b ∉ [e] := fun m => hb (List.mem_singleton.mp m)
  refine I.laidN (fun b o z => PySem.W.hideAll_get [e] (kp b o z) (other fun y => ?_)) (Heap.get?_none_of_le hd) (I.hok.fresh hd) ⟨_, ⟨od, es, ep, PySem.W.hideAll_get [e] hod (other hne), r1, r2⟩, relO_put (fs := []) ry fun g => True.intro⟩
  exact absurd (Heap.lt_size z) (Nat.not_lt.mpr (y ▸ he))
include I he hd hne kp hx hn ry in
theorem made_value : L2.Inv X pins σ (upd (upd H dx (.xd [(f, y)])) e (exV e C dx)) { s with heap := h', toks := tk } := by
  have J := made_dict (tk := tk) I he hd hne kp hn ry
  refine J.laidN (t' := tk) (fun b o z => PySem.W.of_hideAll [e] z) (PySem.W.hideAll_none [e] (List.mem_singleton.mpr rfl)) ?_ (exV_ok hx rfl rfl rfl)
  rw [upd_ne (Ne.symm hne)]
  exact I.hok.fresh he
include I he hd hne kp hx hn ry in
theorem made_air (T : Raises X (.ref C)) {Q : XK} (q : Q (.ref C) (some dx) (upd H dx (.xd [(f, y)]))) : MkP X pins σ Q (.ref e) { s with heap := h', toks := tk } :=
  ⟨e, _, _, { s with heap := PySem.W.hideAll h' [e], toks := tk }, _, .ref C, some dx, rfl, made_dict I he hd hne kp hn ry, fun b o z => PySem.W.of_hideAll [e] z, PySem.W.hideAll_none [e] (List.mem_singleton.mpr rfl), hx, ⟨rfl, rfl⟩, rfl, rfl,
    (upd_ne (Ne.symm hne)).trans (I.hok.fresh he), rfl, I.bare, T, q⟩
end
end
section
variable {X : Cx} {W : WX} {C : Addr} {f : Str} {k : Nat} {x : Str} {e : Expr} {ta : TA} {ms : MA} {p pos : Pos}
def tExc (C : Addr) (f : Str) (ta : TA) : TE := fun σ H Q => ta σ H fun vs H1 => ∃ y, vs = [y] ∧ ∀ a d, H1 a = none → H1 d = none → d ≠ a → Q (.ref a) (upd (upd H1 d (.xd [(f, y)])) a (exV a C d))
def tExcR (C : Addr) (f : Str) (ta : TA) : L2.St → Hp → XK → Prop := fun σ H Q => ta σ H fun vs H1 => ∃ y, vs = [y] ∧ ∀ d, H1 d = none → Q (.ref C) (some d) (upd H1 d (.xd [(f, y)]))
theorem pe_excv (XC : XcC X.prog X.K C f) (hm : X.mg x = some (.ref C)) (hg : Gl X x) (hr : RoomG (k + 1) X.A) (ha : PA X [e] ta) (hdb : (x == ("__debug__" : Str)) = false := by decide)
    (he : starEach [e] X.env = (false, eval e X.env) :: starEach [] X.env := by rfl) : PE X (.Call (.Name x p) [e] [] pos) (tExc C f ta) := by
  constructor
  intro pins s σ H Q I h
  refine by_name I hg hm hdb ?_
  refine PySem.W.callWith_K (h₀ := X.base) I.ok.mod.kin XC.oex.kC (thn (ha.run pos pins s σ H _ I h) fun us s1 ⟨vs, H1, I1, r1, y, ev, q⟩ => ⟨I1.kIn, ?_⟩) he (by rfl)
  subst ev
  cases r1 with
  | cons ry rr =>
    cases rr
    refine make_run XC I1 hr fun e dx t1 h' tk he hd hne kp hx hn => ?_
    exact ⟨.ref e, _, made_value I1 he hd hne kp hx hn ry, rfl, q e dx (I1.hok.fresh he) (I1.hok.fresh hd) hne⟩
theorem pmk_excv (XC : XcC X.prog X.K C f) (hm : X.mg x = some (.ref C)) (hg : Gl X x) (hr : RoomG (k + 1) X.A) (ha : PA X [e] ta) (hdb : (x == ("__debug__" : Str)) = false := by decide)
    (he : starEach [e] X.env = (false, eval e X.env) :: starEach [] X.env := by rfl) : PMk X (.Call (.Name x p) [e] [] pos) (tExcR C f ta) := by
  intro pins s σ H Q I h
  refine by_name I hg hm hdb ?_
  refine PySem.W.callWith_K (h₀ := X.base) I.ok.mod.kin XC.oex.kC (thn (ha.run pos pins s σ H _ I h) fun us s1 ⟨vs, H1, I1, r1, y, ev, q⟩ => ⟨I1.kIn, ?_⟩) he (by rfl)
  subst ev
  cases r1 with
  | cons ry rr =>
    cases rr
    refine make_run XC I1 hr fun e dx t1 h' tk he hd hne kp hx hn => ?_
    exact made_air I1 he hd hne kp hx hn ry (raises_own XC.oex.exC XC.oex.tyC) (q dx (I1.hok.fresh hd))
/-- what the module says of the own exception class c with the field f -/
structure Xcs (P : Program) (K : PySem.W.Frag) (mg : Str → Option Value) (c f : CP) : Prop where
  ex : ∃ C, mg (S c) = some (.ref C) ∧ XcC P K C (S f)
def eExc (c f : CP) (a : MA) : ME := fun s h => (a s h).bind fun xs h1 => match xs with
  | [v] => .ok (.exc c [f] [v]) h1
  | _ => .stuck
def sRaise (c f : CP) (a : MA) : MS := fun s h => (a s h).bindS s fun xs h1 => match xs with
  | [v] => .err ⟨c, [(f, v)]⟩ s h1
  | _ => .stuck
theorem exc_sp {c ff : CP} {C : Addr} {ta : MA} (hm : X.mg (S c) = some (.ref C)) (s : L2.St) (H : Hp) (Q : VK) (hh : tM X.K X.mg W (eExc c ff ta) s H Q) : tExc C (S ff) (tMA X.K X.mg W ta) s H Q := by
  obtain ⟨r, sm, h, hs, ss, w⟩ := hh
  refine tMA_bind hs ss w fun r1 h1 vs xs H1 hs1 ss1 p1 q1 w1 => ?_
  split at w1
  · rename_i v
    obtain ⟨y, rfl, qv⟩ := repL1 q1
    refine ⟨y, rfl, fun a d na nd hne => ?_⟩
    have po1 := hs1.extra (u := .xd [(S ff, y)]) nd
    have na' : upd H1 d (.xd [(S ff, y)]) a = none := by rw [upd_ne (Ne.symm hne)]; exact na
    have po2 := po1.hs.extra (u := exV a C d) na'
    have po := po1.trans po2
    refine w1 _ _ _ po (.exc hm upd_same (by rw [upd_ne hne, upd_same]; rfl) rfl (.cons (po.rep hs1 qv) .nil))
  · exact w1.elim
theorem me_exc {c ff : CP} (T : Xcs X.prog X.K X.mg c ff) (hr : RoomG k X.A) (hg : Gl X x) (ha : PAm X W [e] ms) (hk : 1 ≤ k := by decide) (hx : x = S c := by decide +kernel) (hdb : (x == ("__debug__" : Str)) = false := by decide)
    (he : starEach [e] X.env = (false, eval e X.env) :: starEach [] X.env := by rfl) : PEm X W (.Call (.Name x p) [e] [] pos) (eExc c ff ms) := by
  obtain ⟨C, hm, XC⟩ := T.ex
  subst hx
  obtain ⟨k', rfl⟩ : ∃ k', k = k' + 1 := ⟨k - 1, by omega⟩
  exact (pe_excv XC hm hg hr ha hdb he).mimp (exc_sp hm)
theorem ms_raise {c ff : CP} {rpos : Pos} (T : Xcs X.prog X.K X.mg c ff) (tk : Takes X W) (hr : RoomG k X.A) (hg : Gl X x) (ha : PAm X W [e] ms) (hc : X.calm = true := by rfl) (hk : 1 ≤ k := by decide) (hx : x = S c := by decide +kernel) (hdb : (x == ("__debug__" : Str)) = false := by decide)
    (he : starEach [e] X.env = (false, eval e X.env) :: starEach [] X.env := by rfl) : PSm X W (.Raise (some (.Call (.Name x p) [e] [] pos)) none rpos) (sRaise c ff ms) := by
  obtain ⟨C, hm, XC⟩ := T.ex
  subst hx
  obtain ⟨k', rfl⟩ : ∃ k', k = k' + 1 := ⟨k - 1, by omega⟩
  exact (ps_raise hc tk (pmk_excv XC hm hg hr ha hdb he)).mimp fun D s H ⟨r, sm, h, hs, ss, w⟩ =>
    tMA_bindS hs ss w fun r1 h1 vs xs H1 hs1 ss1 p1 q1 w1 => by
      split at w1
      · rename_i v
        obtain ⟨y, rfl, qv⟩ := repL1 q1
        refine ⟨y, rfl, fun d nd => ?_⟩
        have po := hs1.extra (u := .xd [(S ff, y)]) nd
        exact w1 _ _ _ _ _ po (ss1.post hs1 po) ⟨C, d, _, hm, rfl, rfl, hs1.notNone nd, upd_same, .cons ⟨rfl, po.rep hs1 qv⟩ .nil⟩
      · exact w1.elim
end
end MP

/-! what an exception, held as a value, answers: its field, isinstance -/
namespace MP
open PySem PySem.Spec PyProof.Rows L2
section
variable {X : Cx} {W : WX} {pins : List (Addr × Obj)} {σ : L2.St} {H : Hp} {s : Shared}
/-- the exception in the real heap, with its dict -/
theorem exc_at {a C d : Addr} {fs : List (Str × V)} (I : L2.Inv X pins σ H s) (ha : H a = some (exV a C d)) (hd : H d = some (.xd fs)) :
    ∃ (oe od : Obj) (mA : Str → Option Value), PySem.W.InstAt s.heap a oe C (some od) ∧ (∀ n, PySem.W.lookIn n od = some (mA n)) ∧ ∀ n, RelO (fs.lookup n) (mA n) := by
  obtain ⟨⟨oe, vs, h1, h2, h3, h4⟩, _⟩ : ObjOk X.prog X.w H s.heap a (exV a C d) := I.hok a _ ha
  obtain ⟨mA, ns, rel⟩ : ObjOk X.prog X.w H s.heap d (.xd fs) := I.hok d _ hd
  obtain ⟨od, ho, hl⟩ := lookIn_ns ns
  refine ⟨oe, od, mA, ⟨h1, h2, ?_, ?_⟩, hl, rel⟩
  · simp only [PySem.W.notCls, h4]
  · simp only [h3]
    exact ho
/-! ### the field -/
def tXv (Cs : Addr → Prop) (n : Str) (te : TE) : TE := fun σ H Q => te σ H fun x H1 => ∃ a C d fs v, x = .ref a ∧ Cs C ∧ H1 a = some (exV a C d) ∧ H1 d = some (.xd fs) ∧ fs.lookup n = some v ∧ Q v H1
theorem pe_xv {Cs : Addr → Prop} {e : Expr} {te : TE} {pos : Pos} {n : Str} (T : ∀ C, Cs C → ExcC X.K C ∧ PySem.W.findIn X.K (.ref C) n = some none) (he : PE X e te) (hb : attributeBase e n X.env (eval e X.env) = eval e X.env := by rfl) :
    PE X (.Attribute e n pos) (tXv Cs n te) := by
  constructor
  intro pins s σ H Q I h
  refine attr_of hb (thn (he.run pins s σ H _ I h) ?_)
  rintro u s1 ⟨x, H1, I1, rx, a, C, d, fs, v, rfl, hC, ha, hd, hl, q⟩
  cases (rx : u = Value.ref a)
  obtain ⟨t, no⟩ := T C hC
  obtain ⟨oe, od, mA, at_, look, rel⟩ := exc_at I1 ha hd
  have rn := rel n
  rw [hl] at rn
  obtain ⟨y, ey, ry⟩ := RelO.some_of rn
  exact HandSPX.exc_get I1.kIn at_ t.hg t.hk t.hs (PySem.W.findObj_own t.hd no rfl ((look n).trans (congrArg some ey))) (handed_of ry) ⟨v, H1, I1.tok _, ry, q⟩
/-! ### isinstance -/
def rIsX (K : PySem.W.Frag) : List V → Hp → VK → Prop := fun xs H Q => ∃ a D d fs c cv b, xs = [.ref a, c] ∧ H a = some (exV a D d) ∧ H d = some (.xd fs) ∧ (∀ u, RelV c u → u = cv) ∧ ExcC K D ∧ PySem.W.kitOne K (.ref D) cv = some b ∧ Q (.bl b) H
theorem cr_isX : CallR X (.builtin "isinstance") (rIsX X.K) := by
  rintro pins s σ H xs us Q I r ⟨a, D, d, fs, c, cv, b, rfl, ha, hd, hcv, t, e, q⟩
  obtain ⟨u1, u2, rfl, r1, r2⟩ : ∃ u1 u2, us = [u1, u2] ∧ RelV (.ref a) u1 ∧ RelV c u2 := by
    cases r with
    | cons r1 r => cases r with
      | cons r2 r => cases r; exact ⟨_, _, rfl, r1, r2⟩
  cases (r1 : u1 = Value.ref a)
  cases hcv u2 r2
  obtain ⟨oe, od, mA, at_, _⟩ := exc_at I ha hd
  have known : (PySem.W.clsIn X.K D).isSome = true := by
    obtain ⟨cd, hc, _⟩ := PySem.W.any_some t.hd
    rw [hc]
    rfl
  exact PySem.W.kia_one (PySem.W.kitx_exc known t.hg t.hk t.hs t.ha t.hn t.ht t.hm) I.kIn at_ e (fun z => nomatch z) fun tk => ⟨.bl b, H, I.tok tk, rfl, q⟩
/-! ### the mirror -/
def getX (f : CP) : List CP → List MV → Option MV
  | n :: ns, v :: vs => if n == f then some v else getX f ns vs
  | _, _ => none
def eXf (cs : List CP) (f : CP) (o : ME) : ME := fun s h => (o s h).bind fun y h1 => match y with
  | .exc c ns vs => if cs.contains c then (match getX f ns vs with
    | some v => .ok v h1
    | none => .stuck) else .stuck
  | _ => .stuck
theorem getX_ok {K : PySem.W.Frag} {mg : Str → Option Value} {r : List Addr} {H : Hp} {f : CP} {v : MV} : ∀ {ns : List CP} {vs : List MV} {ys : List V}, RepL K mg r H vs ys → getX f ns vs = some v → ∃ y, ((ns.map S).zip ys).lookup (S f) = some y ∧ Rep K mg r H v y
  | [], _, _, _, e => by simp [getX] at e
  | n :: ns, _, _, .nil, e => by simp [getX] at e
  | n :: ns, _, _, .cons (x := y) q t, e => by
    simp only [getX] at e
    by_cases hn : n = f
    · subst hn
      simp only [BEq.rfl, if_true] at e
      cases e
      exact ⟨y, by simp [List.lookup], q⟩
    · have e1 : (n == f) = false := beq_eq_false_iff_ne.mpr hn
      have e2 : (S f == S n) = false := beq_eq_false_iff_ne.mpr fun z => hn (S_inj z).symm
      rw [e1] at e
      obtain ⟨z, h1, h2⟩ := getX_ok t (by simpa using e)
      exact ⟨z, by simpa [List.lookup, e2] using h1, h2⟩
/-- the classes cs have the field f -/
def HasX (K : PySem.W.Frag) (mg : Str → Option Value) (cs : List CP) (f : CP) : Prop := ∀ c ∈ cs, ∃ C, mg (S c) = some (.ref C) ∧ ExcC K C ∧ PySem.W.findIn K (.ref C) (S f) = some none
theorem me_xf {e : Expr} {mo : ME} {pos : Pos} {n : Str} {cs : List CP} {f : CP} (T : HasX X.K X.mg cs f) (he : PEm X W e mo) (hn : n = S f := by decide +kernel) (hb : attributeBase e n X.env (eval e X.env) = eval e X.env := by rfl) : PEm X W (.Attribute e n pos) (eXf cs f mo) := by
  subst hn
  exact (pe_xv (Cs := fun C => ExcC X.K C ∧ PySem.W.findIn X.K (.ref C) (S f) = some none) (fun _ t => t) he hb).mimp fun s H Q ⟨r, sm, h, hs, ss, w⟩ =>
    tM_bind hs ss w fun r1 h1 v y H1 hs1 ss1 p1 q1 w1 => by
      cases q1 with
      | exc hm ha hd hl ql =>
        rename_i a C d c ns vs ys
        simp only at w1
        by_cases hc : cs.contains c = true
        · rw [if_pos hc] at w1
          cases eg : getX f ns vs with
          | none => rw [eg] at w1; exact w1.elim
          | some v =>
            rw [eg] at w1
            obtain ⟨z, e1, qz⟩ := getX_ok (ns := ns) ql eg
            obtain ⟨C', hm', t⟩ := T c (by simpa using hc)
            cases hm.symm.trans hm'
            exact ⟨a, C, d, _, z, rfl, t, ha, hd, e1, w1 r1 H1 _ (Post.refl hs1) qz⟩
        · rw [if_neg hc] at w1
          exact w1.elim
      | _ => exact w1.elim
/-- isinstance of exceptions: own classes, built-in classes -/
def isLook {β : Type} [BEq β] (c : CP) (k : β) : List (CP × β × Bool) → Option Bool
  | [] => none
  | p :: r => if p.1 == c && p.2.1 == k then some p.2.2 else isLook c k r
theorem isLook_mem {β : Type} [BEq β] [LawfulBEq β] {c : CP} {k : β} {b : Bool} : ∀ {l : List (CP × β × Bool)}, isLook c k l = some b → (c, k, b) ∈ l
  | [], e => by cases e
  | p :: r, e => by
    simp only [isLook] at e
    split at e
    · rename_i hc
      rw [Bool.and_eq_true, beq_iff_eq, beq_iff_eq] at hc
      obtain ⟨p1, p2, p3⟩ := p
      obtain ⟨rfl, rfl⟩ := hc
      cases e
      exact List.mem_cons_self ..
    · exact List.mem_cons_of_mem _ (isLook_mem e)
def mIsX (tb : List (CP × CP × Bool)) (tt : List (CP × Ty × Bool)) : FA
  | [.exc c _ _, .glo k], h => (isLook c k tb).map fun b => (.bl b, h)
  | [.exc c _ _, .ty k], h => (isLook c k tt).map fun b => (.bl b, h)
  | as, h => mIsi as h
structure IsX (K : PySem.W.Frag) (mg : Str → Option Value) (tb : List (CP × CP × Bool)) (tt : List (CP × Ty × Bool)) : Prop where
  own : ∀ p ∈ tb, ∃ D E, mg (S p.1) = some (.ref D) ∧ mg (S p.2.1) = some (.ref E) ∧ ExcC K D ∧ PySem.W.kitOne K (.ref D) (.ref E) = some p.2.2
  blt : ∀ p ∈ tt, ∃ D, mg (S p.1) = some (.ref D) ∧ ExcC K D ∧ PySem.W.kitOne K (.ref D) (.type p.2.1.nm) = some p.2.2
theorem cm_isX {tb : List (CP × CP × Bool)} {tt : List (CP × Ty × Bool)} (T : IsX X.K X.mg tb tt) : CallR X (.builtin "isinstance") (rMA X (mIsX tb tt)) := by
  intro pins s σ H xs us Q I rv hh
  obtain ⟨r, h, as, hs, ra, w⟩ := hh
  unfold mIsX at w
  split at w
  · rename_i c ns vs k
    obtain ⟨x, y, rfl, q1, q2⟩ := repL2 ra
    cases e : isLook c k tb with
    | none => rw [e] at w; exact w.elim
    | some b =>
      rw [e] at w
      obtain ⟨D, E, m1, m2, t, ko⟩ := T.own _ (isLook_mem e)
      cases q1 with
      | exc hm ha hd hl ql =>
        cases hm.symm.trans m1
        cases q2 with
        | glo g =>
          cases g.symm.trans m2
          exact cr_isX pins s σ H _ us Q I rv ⟨_, D, _, _, _, .ref E, b, rfl, ha, hd, fun u z => z, t, ko, Wt.plain hs w (.bl _)⟩
  · rename_i c ns vs k
    obtain ⟨x, y, rfl, q1, q2⟩ := repL2 ra
    cases e : isLook c k tt with
    | none => rw [e] at w; exact w.elim
    | some b =>
      rw [e] at w
      obtain ⟨D, m1, t, ko⟩ := T.blt _ (isLook_mem e)
      cases q1 with
      | exc hm ha hd hl ql =>
        cases hm.symm.trans m1
        cases q2
        exact cr_isX pins s σ H _ us Q I rv ⟨_, D, _, _, _, .type k.nm, b, rfl, ha, hd, fun u z => z, t, ko, Wt.plain hs w (.bl _)⟩
  · exact cm_isi pins s σ H xs us Q I rv ⟨r, h, as, hs, ra, w⟩
end
end MP

/-! the own exception classes, recognised in the written part -/
namespace MP
open PySem PySem.Spec PyProof.Rows L2
/-- the two statements of the __init__, by their shape -/
def isBody (f : Str) : List Stmt → Bool
  | [.Expr (.Call (.Attribute (.Call (.Name su _) [] [] _) ini p2) [.Constant (.str _) _ _] [] p4) _, .Assign [.Attribute (.Name se _) g _] (.Name g' _) _] => su == "super" && (ini == "__init__" && (se == "self" && (g == f && (g' == f && p2.endLine == p4.line))))
  | _ => false
theorem isBody_ok {f : Str} {b : List Stmt} (h : isBody f b = true) : ∃ msg j p0 p1 p2 p3 p4 p5 q0 q1 q2 q3, b = initBody f msg j p0 p1 p2 p3 p4 p5 q0 q1 q2 q3 ∧ (p2.endLine == p4.line) = true := by
  unfold isBody at h
  split at h
  · simp only [Bool.and_eq_true] at h
    obtain ⟨h1, h2, h3, h4, h5, h6⟩ := h
    cases eq_of_beq h1
    cases eq_of_beq h2
    cases eq_of_beq h3
    cases eq_of_beq h4
    cases eq_of_beq h5
    exact ⟨_, _, _, _, _, _, _, _, _, _, _, _, rfl, h6⟩
  · cases h
/-- the parameters self and f, plain -/
def isPars (f : Str) : Arguments → Bool
  | ⟨[], [a, b], none, [], [], none, []⟩ => a.arg == "self" && b.arg == f
  | _ => false
def isNames (f : Str) (sc : Scope) : Bool := sc.names.all (fun x => decide (x.2 ≠ .cell)) && (decide (sc.names.lookup ("self" : Str) = some .local) && (decide (sc.names.lookup f = some .local) && (decide (sc.names.lookup ("super" : Str) = some .globalImplicit) && (decide (sc.names.lookup ("__class__" : Str) = some .free) &&
  (decide (sc.kind = .function) && (!sc.isCoroutine && !sc.isGenerator))))))
def isFun (file : Str) (K : PySem.W.Frag) (C : Addr) (f : Str) (fd : FuncData) : Bool := match fd.body, fd.closure, fd.code, fd.defaults, fd.kwdefaults with
  | .stmts b, [(n, cc)], .ref cda, .none, .none => isBody f b && (isPars f fd.params && (isNames f fd.scope && (n == "__class__" && (fd.globals == mainGlobals && (fd.builtins == builtinsNs && (PySem.W.codeIn K (.ref cda) fd.qualname && ((match K.lookup cda with
      | some ⟨_, _, .fields vs, _⟩ => (match (vs[2]? : Option Value) with
        | some (.str x _) => x == file
        | _ => false)
      | _ => false) && (match K.lookup cc with
      | some ⟨_, _, .cell (some (.ref D)), _⟩ => D == C
      | _ => false))))))))
  | _, _, _, _, _ => false
def oexB (K : PySem.W.Frag) (C : Addr) : Bool := match K.lookup C with
  | some ⟨t, _, .cls cd, sl⟩ => (match cd.mro, sl.toList with
    | .ref D :: bm, [_, _, _, _, some (.builtin n), _] => t == .type "type" && (D == C && (n == "ValueError.__new__" && (!cd.hasDel && (cd.hasDict && PySem.HandSPX.refsVE bm))))
    | _, _ => false)
  | _ => false
def iniB (file : Str) (K : PySem.W.Frag) (C : Addr) (f : Str) : Bool := match PySem.W.findIn K (.ref C) "__init__" with
  | some (some (.ref fI)) => decide (PySem.W.typeIn K (.ref fI) = some (.type "function")) && (match K.lookup fI with
    | some ⟨_, _, .func fd, _⟩ => isFun file K C f fd
    | _ => false)
  | _ => false
def saB (K : PySem.W.Frag) (C : Addr) (f : Str) : Bool := decide (PySem.W.findIn K (.ref C) "__setattr__" = some (some (.builtin "object.__setattr__"))) && (decide (PySem.W.subIn K (.ref C) (.type "BaseException") = some true) && (decide (PySem.W.typeIn K (.ref C) = some (.type "type")) && (PySem.W.keepIn K (.ref C) &&
  (decide (PySem.W.findIn K (.ref C) f = some none) && (decide (PySem.W.nsIn K mainGlobals "super" = some none) && (decide (PySem.W.nsIn K PySem.cStatics "thirdparty.any" = some none) &&
  (PySem.W.excInitIn K C [.type "ValueError", .type "Exception", .type "BaseException", .type "object"] "ValueError.__new__" && ((PySem.W.clsIn K C).isSome && (decide (PySem.W.mroIn K C (.ref C) = some true) &&
  (decide (PySem.W.ks_superIn K C C "__init__" = some (some (.builtin "ValueError.__init__"))) && decide (PySem.W.subIn K (.ref C) (.type "ValueError") = some true)))))))))))
def gaB (K : PySem.W.Frag) (C : Addr) : Bool := decide (PySem.W.findIn K (.ref C) "__getattribute__" = some (some (.builtin "BaseException.__getattribute__"))) && (decide (PySem.W.findIn K (.ref C) "__getattr__" = some none) && (decide (PySem.W.subIn K (.ref C) (.type "BaseException") = some true) && (PySem.W.hasDictIn K C &&
  (decide (PySem.W.findIn K (.ref C) "__class__" = some (some (.builtin "object.__class__"))) && (decide (PySem.W.specialIn K (.builtin "object.__class__") "__get__" = some (some (.builtin "getset_descriptor.__get__"))) && (decide (PySem.W.takesIn K (.builtin "object.__class__") = some true) && decide (PySem.W.mroIn K C (.type "object") = some true)))))))
theorem gaB_ok {K : PySem.W.Frag} {C : Addr} (h : gaB K C = true) : ExcC K C := by
  unfold gaB at h
  simp only [Bool.and_eq_true, decide_eq_true_eq] at h
  obtain ⟨h1, h2, h3, h4, h5, h6, h7, h8⟩ := h
  exact ⟨h1, h2, h3, h4, h5, h6, h7, h8⟩
theorem oexB_ok {K : PySem.W.Frag} {C : Addr} (h : oexB K C = true) : ∃ nm q N bs bm sn sub ab col dd k0 k1 k2 k3 k5, K.lookup C = some (excClassObj nm q C N bs bm true sn sub ab col dd k0 k1 k2 k3 k5 "ValueError.__new__") ∧ PySem.HandSPX.refsVE bm = true := by
  unfold oexB at h
  split at h
  · rename_i t dd cd sl hk
    split at h
    · rename_i D bm k0 k1 k2 k3 n k5 hm hs
      simp only [Bool.and_eq_true, Bool.not_eq_true'] at h
      obtain ⟨h1, h2, h3, h4, h5, h6⟩ := h
      cases eq_of_beq h1
      cases eq_of_beq h2
      cases eq_of_beq h3
      obtain ⟨nm, bs, mro, ns, qn, hd, sn, sub, ab, col, del⟩ := cd
      cases (hm : mro = _)
      cases (h4 : del = _)
      cases (h5 : hd = _)
      have es : sl = #[k0, k1, k2, k3, some (.builtin "ValueError.__new__"), k5] := by
        rw [← Array.toArray_toList (xs := sl), hs]
      rw [es] at hk
      exact ⟨nm, qn, ns, bs, bm, sn, sub, ab, col, dd, k0, k1, k2, k3, k5, hk, h6⟩
    · cases h
  · cases h
/-- the field's name: these are all that the program has -/
def isFld (f : Str) : Bool := f == "place" || (f == "value" || f == "word")
theorem binds2 {K : PySem.W.Frag} {name qual f : Str} {params : Arguments} {body : List Stmt} {scope : Scope} {cl : List (Str × Addr)} {doc pm cdv ct : Value} {an : Option Addr} (hf : isFld f = true) (hp : isPars f params = true) :
    Binds K (PySem.W.fnX name qual params body scope cl .none .none doc pm an cdv ct) ["self", f] [] ∧ (∀ (s : Shared) (a b : Value), BindsTo s (PySem.W.fnX name qual params body scope cl .none .none doc pm an cdv ct) ⟨[a], [(f, b)]⟩ [("self", a), (f, b)]) ∧ ∃ ar, (params.posonlyargs ++ params.args).head? = some ar ∧ ar.arg = "self" := by
  unfold isPars at hp
  split at hp
  · rename_i a b
    rw [Bool.and_eq_true] at hp
    obtain ⟨a1, a2, a3⟩ := a
    obtain ⟨b1, b2, b3⟩ := b
    cases eq_of_beq hp.1
    cases eq_of_beq hp.2
    simp only [isFld, Bool.or_eq_true] at hf
    refine ⟨Binds.all fun us hl => ?_, fun s u v => ?_, _, rfl, rfl⟩
    · match us, hl with
      | [u, v], _ => rcases hf with hf | hf | hf <;> cases eq_of_beq hf <;> rfl
    · refine BindsTo.of_eq ?_
      rcases hf with hf | hf | hf <;> cases eq_of_beq hf <;> rfl
  · cases hp
theorem isNames_ok {f : Str} {sc : Scope} (h : isNames f sc = true) : (∀ x ∈ sc.names, x.2 ≠ .cell) ∧ sc.names.lookup ("self" : Str) = some .local ∧ sc.names.lookup f = some .local ∧ sc.names.lookup ("super" : Str) = some .globalImplicit ∧ sc.names.lookup ("__class__" : Str) = some .free ∧
    sc.kind = .function ∧ sc.isCoroutine = false ∧ sc.isGenerator = false := by
  unfold isNames at h
  simp only [Bool.and_eq_true, decide_eq_true_eq, List.all_eq_true, Bool.not_eq_true'] at h
  exact h
theorem isFun_ok {P : Program} {K : PySem.W.Frag} {C fI : Addr} {f : Str} {fd : FuncData} {oc : Value} {od : Option Addr} {osl : Array (Option Value)} (hk : K.lookup fI = some ⟨oc, od, .func fd, osl⟩) (h : isFun P.main.file K C f fd = true) (hf : isFld f = true) :
    ∃ (cc cda : Addr) (ccl cl : Value) (cdd cld : Option Addr) (ccs csl : Array (Option Value)) (name qual msg : Str) (params : Arguments) (scope : Scope) (dV kV doc pm ct : Value) (an : Option Addr) (j : Nat) (p0 p1 p2 p3 p4 p5 q0 q1 q2 q3 : Pos) (vs : Array Value) (tf : Tok) (ar : Arg),
      K.lookup fI = some ⟨oc, od, .func (PySem.W.ksFn name qual params (initBody f msg j p0 p1 p2 p3 p4 p5 q0 q1 q2 q3) scope dV kV doc pm an (.ref cda) ct cc), osl⟩ ∧
      K.lookup cda = some ⟨ccl, cdd, .fields vs, ccs⟩ ∧ PySem.W.codeIn K (.ref cda) qual = true ∧ vs[2]? = some (.str P.main.file tf) ∧ K.lookup cc = some ⟨cl, cld, .cell (some (.ref C)), csl⟩ ∧
      (params.posonlyargs ++ params.args).head? = some ar ∧ ar.arg = "self" ∧ L2.Binds K (PySem.W.ksFn name qual params (initBody f msg j p0 p1 p2 p3 p4 p5 q0 q1 q2 q3) scope dV kV doc pm an (.ref cda) ct cc) ["self", f] [] ∧ (∀ (s : Shared) (a b : Value), BindsTo s (PySem.W.ksFn name qual params (initBody f msg j p0 p1 p2 p3 p4 p5 q0 q1 q2 q3) scope dV kV doc pm an (.ref cda) ct cc) ⟨[a], [(f, b)]⟩ [("self", a), (f, b)]) ∧ isNames f scope = true ∧ (p2.endLine == p4.line) = true := by
  obtain ⟨name, qual, params, body, scope, gl, cls, df, kd, doc, pm, an, code, ct, bl⟩ := fd
  unfold isFun at h
  split at h
  · rename_i b n cc cda e1 e2 e3 e4 e5
    cases (e1 : body = _)
    cases (e2 : cls = _)
    cases (e3 : code = _)
    cases (e4 : df = _)
    cases (e5 : kd = _)
    simp only [Bool.and_eq_true] at h
    obtain ⟨h1, h2, h3, h4, h5, h6, h7, h8, h9⟩ := h
    cases eq_of_beq h4
    cases (eq_of_beq h5 : gl = _)
    cases (eq_of_beq h6 : bl = _)
    obtain ⟨msg, j, p0, p1, p2, p3, p4, p5, q0, q1, q2, q3, rfl, hp⟩ := isBody_ok h1
    obtain ⟨bd, bk, ar, ha, hs⟩ := binds2 (K := K) (name := name) (qual := qual) (body := initBody f msg j p0 p1 p2 p3 p4 p5 q0 q1 q2 q3) (scope := scope) (cl := [("__class__", cc)]) (doc := doc) (pm := pm) (an := an) (cdv := .ref cda) (ct := ct) hf h2
    split at h8
    · rename_i ccl cdd vs ccs hc
      split at h8
      · rename_i x tf hx
        cases (eq_of_beq h8 : x = _)
        split at h9
        · rename_i cl cld D csl hcc
          cases (eq_of_beq h9 : D = _)
          exact ⟨cc, cda, ccl, cl, cdd, cld, ccs, csl, name, qual, msg, params, scope, .none, .none, doc, pm, ct, an, j, p0, p1, p2, p3, p4, p5, q0, q1, q2, q3, vs, tf, ar, hk, hc, h7, hx, hcc, ha, hs, bd, bk, h3, hp⟩
        · cases h9
      · cases h8
    · cases h8
  · cases h
/-- the module's own exception class c with the field f -/
def xcB (file : Str) (K : PySem.W.Frag) (c f : CP) : Bool := match PySem.W.nsIn K mainGlobals (S c) with
  | some (some (.ref C)) => isFld (S f) && (oexB K C && (iniB file K C (S f) && (saB K C (S f) && gaB K C)))
  | _ => false
theorem fld_ne {f : Str} (h : isFld f = true) : f ≠ "self" ∧ (f == ("__debug__" : Str)) = false := by
  simp only [isFld, Bool.or_eq_true] at h
  rcases h with h | h | h <;> cases eq_of_beq h <;> exact ⟨by decide, by decide⟩
theorem xcB_ok {P : Program} {K : PySem.W.Frag} {mg : Str → Option Value} {h : Heap} (X : K.In h) (G : h.Ns mainGlobals mg) (ns : (P.main.scope.names.lookup ("super" : Str)).isSome = false) {c f : CP} (b : xcB P.main.file K c f = true) :
    ∃ C, mg (S c) = some (.ref C) ∧ XcC P K C (S f) ∧ ExcC K C := by
  unfold xcB at b
  split at b
  · rename_i C hC
    simp only [Bool.and_eq_true] at b
    obtain ⟨b1, b2, b3, b4, b5⟩ := b
    refine ⟨C, PySem.W.mg_of X G hC, ?_, gaB_ok b5⟩
    unfold saB at b4
    simp only [Bool.and_eq_true, decide_eq_true_eq] at b4
    obtain ⟨a1, a2, a3, a4, a5, a6, a7, a8, a9, a10, a11, a12⟩ := b4
    obtain ⟨cdC, a9⟩ := Option.isSome_iff_exists.mp a9
    obtain ⟨n1, n2⟩ := fld_ne b1
    refine ⟨⟨oexB_ok b2, a1, a2, a3, a4⟩, a5, a6, a7, a8, ?_⟩
    unfold iniB at b3
    split at b3
    · rename_i fI hi
      rw [Bool.and_eq_true, decide_eq_true_eq] at b3
      split at b3
      · rename_i oc od fd osl hk
        obtain ⟨cc, cda, ccl, cl, cdd, cld, ccs, csl, name, qual, msg, params, scope, dV, kV, doc, pm, ct, an, j, p0, p1, p2, p3, p4, p5, q0, q1, q2, q3, vs, tf, ar, z1, z2, z3, z4, z5, z6, z7, z8, zK, z9, z10⟩ := isFun_ok hk b3.2 b1
        obtain ⟨y1, y2, y3, y4, y5, y6, y7, y8⟩ := isNames_ok z9
        exact ⟨fI, cc, cda, oc, ccl, cl, od, cdd, cld, osl, ccs, csl, name, qual, msg, params, scope, dV, kV, doc, pm, ct, an, j, p0, p1, p2, p3, p4, p5, q0, q1, q2, q3, vs, tf, ar, cdC, hi, b3.1, z1, z2, z3, z4, z5, a9, a10, z6, z7, a11, a12, z8, zK, y1, y2, y3, y4, y5, y6, y7, y8, ns, n1, z10, n2⟩
      · cases b3.2
    · cases b3
  · cases b
/-! ### all that a law asks of its exceptions, in one look -/
def clsAt (K : PySem.W.Frag) (c : CP) : Option Addr := match PySem.W.nsIn K mainGlobals (S c) with
  | some (some (.ref C)) => some C
  | _ => none
theorem clsAt_ok {K : PySem.W.Frag} {mg : Str → Option Value} {h : Heap} (X : K.In h) (G : h.Ns mainGlobals mg) {c : CP} {C : Addr} (e : clsAt K c = some C) : mg (S c) = some (.ref C) := by
  unfold clsAt at e
  split at e
  · rename_i D hD
    cases e
    exact PySem.W.mg_of X G hD
  · cases e
def isOB (K : PySem.W.Frag) (p : CP × CP × Bool) : Bool := match clsAt K p.1, clsAt K p.2.1 with
  | some D, some E => gaB K D && decide (PySem.W.kitOne K (.ref D) (.ref E) = some p.2.2)
  | _, _ => false
def isTB (K : PySem.W.Frag) (p : CP × Ty × Bool) : Bool := match clsAt K p.1 with
  | some D => gaB K D && decide (PySem.W.kitOne K (.ref D) (.type p.2.1.nm) = some p.2.2)
  | _ => false
def exX (file : Str) (xs : List (CP × CP)) (tb : List (CP × CP × Bool)) (tt : List (CP × Ty × Bool)) (K : PySem.W.Frag) : Bool := xs.all (fun p => xcB file K p.1 p.2) && (tb.all (isOB K) && tt.all (isTB K))
structure ExX (P : Program) (K : PySem.W.Frag) (mg : Str → Option Value) (xs : List (CP × CP)) (tb : List (CP × CP × Bool)) (tt : List (CP × Ty × Bool)) : Prop where
  made : ∀ p ∈ xs, ∃ C, mg (S p.1) = some (.ref C) ∧ XcC P K C (S p.2) ∧ ExcC K C
  isx : IsX K mg tb tt
theorem exX_ok {P : Program} {K : PySem.W.Frag} {mg : Str → Option Value} {h : Heap} {xs : List (CP × CP)} {tb : List (CP × CP × Bool)} {tt : List (CP × Ty × Bool)} (X : K.In h) (G : h.Ns mainGlobals mg) (ns : (P.main.scope.names.lookup ("super" : Str)).isSome = false) (b : exX P.main.file xs tb tt K = true) : ExX P K mg xs tb tt := by
  unfold exX at b
  rw [Bool.and_eq_true, Bool.and_eq_true] at b
  refine ⟨fun p hp => xcB_ok X G ns (List.all_eq_true.mp b.1 p hp), fun p hp => ?_, fun p hp => ?_⟩
  · have z := List.all_eq_true.mp b.2.1 p hp
    unfold isOB at z
    split at z
    · rename_i D E h1 h2
      rw [Bool.and_eq_true, decide_eq_true_eq] at z
      exact ⟨D, E, clsAt_ok X G h1, clsAt_ok X G h2, gaB_ok z.1, z.2⟩
    · cases z
  · have z := List.all_eq_true.mp b.2.2 p hp
    unfold isTB at z
    split at z
    · rename_i D h1
      rw [Bool.and_eq_true, decide_eq_true_eq] at z
      exact ⟨D, clsAt_ok X G h1, gaB_ok z.1, z.2⟩
    · cases z
section
variable {P : Program} {K : PySem.W.Frag} {mg : Str → Option Value} {xs : List (CP × CP)} {tb : List (CP × CP × Bool)} {tt : List (CP × Ty × Bool)}
theorem ExX.xcs (T : ExX P K mg xs tb tt) {c f : CP} (h : (c, f) ∈ xs) : Xcs P K mg c f := by
  obtain ⟨C, h1, h2, _⟩ := T.made _ h
  exact ⟨C, h1, h2⟩
theorem ExX.has (T : ExX P K mg xs tb tt) {cs : List CP} {f : CP} (h : (cs.all fun c => xs.contains (c, f)) = true) : HasX K mg cs f := fun c hc => by
  obtain ⟨C, h1, h2, h3⟩ := T.made (c, f) (by simpa using List.all_eq_true.mp h c hc)
  exact ⟨C, h1, h3, h2.fld⟩
end
end MP

/-! an own exception made with its field by name -/
namespace MP
open PySem PySem.Spec PyProof.Rows L2
section
variable {P : Program} {w : World} {A : Around} {E : Value → Shared → Prop} {hp : Heap} {g : Array GenState} {dr : Drawn} {tk : Nat} {os : OsState} {f : Str} {u : Value}
variable {nm qn : Str} {C N : Addr} {bs bm : List Value} {sn : List Str} {sub : List Value} {ab : Bool} {col : Option Bool} {dd : Option Addr} {k0 k1 k2 k3 k5 : Option Value}
/-- what the class's tail holds of the built-in classes -/
theorem tail_has (hbm : PySem.HandSPX.refsVE bm = true) (T : String) : (Value.ref C :: bm).contains (.type T) = ([.type "ValueError", .type "Exception", .type "BaseException", .type "object"] : List Value).contains (.type T) := by
  rw [List.contains_cons, PySem.HandSPX.refsVE_contains T bm hbm]
  rfl
theorem kw_check {Q : Unit → Shared → Prop} (hbm : PySem.HandSPX.refsVE bm = true) (hC : hp.get? C = some (excClassObj nm qn C N bs bm true sn sub ab col dd k0 k1 k2 k3 k5 "ValueError.__new__")) (q : Q () ⟨hp, g, dr, tk, os⟩) :
    wpAny (model P w) A (checkBuiltinCall "ValueError.__new__" ⟨[.ref C], [(f, u)]⟩) Q E ⟨hp, g, dr, tk, os⟩ := by
  have ve := tail_has (C := C) hbm "ValueError"
  have V := F.excBase_ValueError
  simp only [checkBuiltinCall, V.newKind, V.newSplit, V.newRow]
  repeat' first
    | exact q
    | refine wpAny_loadPart_at hC ?_
    | (refine wpAny_isSubtype_exc hC ?_; rw [ve])
    | refine wpAny_staticBase_exc hC ?_
    | refine wpAny_madeBy_exc hC ?_
    | simp only [bne_self_eq_false, Bool.false_eq_true, if_false]
    | wp_step
/-- BaseException.__new__ does not look at the names -/
theorem kw_new {R : Result → Shared → Prop} (hbm : PySem.HandSPX.refsVE bm = true) (hC : hp.get? C = some (excClassObj nm qn C N bs bm true sn sub ab col dd k0 k1 k2 k3 k5 "ValueError.__new__"))
    (q : R (.ok (.ret (.ref (hp.objs.size + 1)))) ⟨(hp.push (PySem.W.excTup [])).push (PySem.W.excObj C hp.objs.size none .none), g, dr, tk, os⟩) :
    codeAny (model P w) A (.builtin "ValueError.__new__" ⟨[.ref C], [(f, u)]⟩) R ⟨hp, g, dr, tk, os⟩ := by
  have ve := tail_has (C := C) hbm "ValueError"
  have ae := tail_has (C := C) hbm "AttributeError"
  have ne := tail_has (C := C) hbm "NameError"
  have V := F.excBase_ValueError
  have ends := V.ends
  apply codeAny_builtinAt V.entry
  unfold Builtin.«BaseException.__new__»
  apply PySem.wpAt_bind
  show PySem.wpAt _ _ _ (stack >>= _) _ _ _
  apply PySem.wpAt_bind
  apply PySem.wpAt_stack
  intro below above
  apply PySem.wpAt_of_wpAny
  wp_walk
  apply PySem.wpAt_of_wpAny
  rw [V.owner]
  repeat' first
    | with_reducible refine wpAny_madeHere_exc V.canon hC ?_
    | with_reducible refine wpAny_loadPart_at hC ?_
    | (with_reducible refine wpAny_isSubtype_exc hC ?_; first | rw [ve] | rw [ae] | rw [ne])
    | wp_step
  have sz : (hp.push (PySem.W.excTup [])).objs.size = hp.objs.size + 1 := Heap.size_push ..
  exact sz.symm ▸ q
/-- the heap when the bare exception is laid -/
abbrev bareH (C : Addr) (hp : Heap) : Heap := (hp.push (PySem.W.excTup [])).push (PySem.W.excObj C hp.objs.size none .none)
theorem kw_type {Q : Fin → Shared → Prop} {fI : Addr} (hbm : PySem.HandSPX.refsVE bm = true) (hC : hp.get? C = some (excClassObj nm qn C N bs bm true sn sub ab col dd k0 k1 k2 k3 k5 "ValueError.__new__"))
    (find : PySem.W.Looks (model P w) hp (typeLookup (.ref C) "__init__") (some (.ref fI))) (bind : ∀ self, PySem.W.Looks (model P w) hp (bindSpecial (.ref fI) self) (.ref fI, [self]))
    (init : codeAny (model P w) A (.call (.ref fI) ⟨[.ref (hp.objs.size + 1)], [(f, u)]⟩) (fun r s' => match r with
      | .ok (.ret v) => v = .none ∧ Q (.done (.ret (.ref (hp.objs.size + 1)))) s'
      | .ok _ => False
      | .error e => E e s') ⟨bareH C hp, g, dr, tk, os⟩) : wpAny (model P w) A (Builtin.«type.__call__» ⟨[.ref C], [(f, u)]⟩) Q E ⟨hp, g, dr, tk, os⟩ := by
  have V := F.excBase_ValueError
  have keep (b : Addr) (o : Obj) (z : hp.get? b = some o) : (bareH C hp).get? b = some o := Heap.get?_push_of_some _ (Heap.get?_push_of_some _ z)
  have atE : (bareH C hp).get? (hp.objs.size + 1) = some (PySem.W.excObj C hp.objs.size none .none) := by heap_get
  have atC := keep _ _ hC
  have own : (Value.ref C :: bm).contains (.ref C) = true := by simp
  have find' := find.keeps keep
  have bind' := (bind (.ref (hp.objs.size + 1))).keeps keep
  repeat' first
    | with_reducible refine wpAny_loadPart_at hC ?_
    | with_reducible refine wpAny_madeBy_exc hC ?_
    | wp_step
  apply codeAny_call_builtin_code (Code.quiet_builtin _ V.quiet)
  apply kw_check hbm hC
  apply kw_new hbm hC
  show wpAny _ _ _ _ _ _
  unfold isInstance
  repeat' first
    | with_reducible refine wpAny_loadPart_at atE ?_
    | (with_reducible refine wpAny_isSubtype_exc atC ?_; rw [own])
    | wp_step
  show wpAny _ _ (typeLookup (.ref C) "__init__") _ _ _
  apply find'.at
  apply wpAny_holding
  apply wpAny_bind
  apply bind'.at
  apply wpAny_bind
  apply wpAny_call
  refine codeAny_mono init ?_
  rintro (e | fl) s' z
  · exact z
  · cases fl
    case ret v =>
      cases z.1
      exact wpAny_pure (wpAny_pure z.2)
    all_goals exact z.elim
theorem kw_checkT {Q : Unit → Shared → Prop} (hC : hp.get? C = some (excClassObj nm qn C N bs bm true sn sub ab col dd k0 k1 k2 k3 k5 "ValueError.__new__")) (q : Q () ⟨hp, g, dr, tk, os⟩) :
    wpAny (model P w) A (checkBuiltinCall "type.__call__" ⟨[.ref C], [(f, u)]⟩) Q E ⟨hp, g, dr, tk, os⟩ := by
  have su := tc_sub
  have ty : (⟨hp, g, dr, tk, os⟩ : Shared).TypeIs (.ref C) "type" := ⟨_, hC, rfl⟩
  simp only [checkBuiltinCall, tc_kind, tc_split]
  repeat' first
    | assumption
    | with_reducible refine wpAny_loadPart_at hC ?_
    | with_reducible refine wpAny_map ?_
    | with_reducible refine wpAny_onRaise ?_
    | wp_step
theorem kw_call {R : Result → Shared → Prop} {fI : Addr} (hbm : PySem.HandSPX.refsVE bm = true) (hC : hp.get? C = some (excClassObj nm qn C N bs bm true sn sub ab col dd k0 k1 k2 k3 k5 "ValueError.__new__"))
    (find : PySem.W.Looks (model P w) hp (typeLookup (.ref C) "__init__") (some (.ref fI))) (bind : ∀ self, PySem.W.Looks (model P w) hp (bindSpecial (.ref fI) self) (.ref fI, [self]))
    (init : codeAny (model P w) (A.under (.builtin "type.__call__" ⟨[.ref C], [(f, u)]⟩)) (.call (.ref fI) ⟨[.ref (hp.objs.size + 1)], [(f, u)]⟩) (PySem.W.InitBack (hp.objs.size + 1) R) ⟨bareH C hp, g, dr, tk, os⟩) :
    codeAny (model P w) A (.call (.ref C) ⟨[], [(f, u)]⟩) R ⟨hp, g, dr, tk, os⟩ := by
  have t1 := PySem.tc_lookup
  have t2 := PySem.tc_bind (.ref C)
  have ty : (⟨hp, g, dr, tk, os⟩ : Shared).TypeIs (.ref C) "type" := ⟨_, hC, rfl⟩
  apply codeAny_of_tree
  show wpAny _ _ (callAny (.ref C) _) _ _ _
  repeat' first
    | assumption
    | with_reducible refine wpAny_loadPart_at hC ?_
    | wp_step
  refine ⟨rfl, ?_⟩
  apply codeAny_call_builtin_at (Code.quiet_builtin _ (by decide +kernel)) entry_typeCall
  apply kw_checkT hC
  refine kw_type hbm hC find bind (codeAny_mono init ?_)
  rintro (e | fl) s' z
  · exact z
  · cases fl <;> exact z
end
section
variable {X : Cx} {C : Addr} {f : Str} {k : Nat} {pins : List (Addr × Obj)} {σ : L2.St} {H : Hp} {s : Shared}
theorem make_runK (XC : XcC X.prog X.K C f) (I : L2.Inv X pins σ H s) (hr : RoomG (k + 1) X.A) {u : Value} {Q : Value → Shared → Prop}
    (h : ∀ (e dx t1 : Addr) (h' : Heap) (tk : Nat), s.heap.objs.size ≤ e → s.heap.objs.size ≤ dx → dx ≠ e → (∀ b o, s.heap.get? b = some o → h'.get? b = some o) →
      h'.get? e = some (PySem.W.excObj C t1 (some dx) .none) → h'.Ns1 dx (fun y => if y = f then some u else none) → Q (.ref e) { s with heap := h', toks := tk }) :
    wpAny (model X.prog X.w) X.A (call (.ref C) [] [(f, u)]) Q X.xe s := by
  obtain ⟨nm, qn, N, bs, bm, sn, sub, ab, col, dd, k0, k1, k2, k3, k5, hC, hbm⟩ := XC.oex.cls
  obtain ⟨fI, i1, i2, run⟩ := XC.run (w := X.w) (mg := X.mg)
  obtain ⟨mb, b1, b2⟩ := I.ok.mod.blt
  have kin := I.kIn
  have lim := I.nolimit
  have glob : s.heap.Ns mainGlobals X.mg := I.mod.glob.keeps I.bk
  have blt : s.heap.Ns builtinsNs mb := b1.keeps I.bk
  cases s with | mk hp g dr tk os => ?_
  have keep (b : Addr) (o : Obj) (z : hp.get? b = some o) : (bareH C hp).get? b = some o := Heap.get?_push_of_some _ (Heap.get?_push_of_some _ z)
  have atE : (bareH C hp).get? (hp.objs.size + 1) = some (PySem.HandSPX.excO C hp.objs.size) := by heap_get
  have sz : (bareH C hp).objs.size = hp.objs.size + 2 := by simp [Heap.size_push]
  have old {b : Addr} {o : Obj} (z : hp.get? b = some o) : b ≠ hp.objs.size + 1 := Nat.ne_of_lt (Nat.lt_succ_of_lt (Heap.lt_size z))
  have ke : X.K.lookup (hp.objs.size + 1) = none := by
    cases z : X.K.lookup (hp.objs.size + 1) with
    | none => rfl
    | some o => exact absurd rfl (old (kin _ _ z))
  apply wpAny_call
  apply kw_call hbm (kin _ _ hC) (PySem.W.looks_findIn kin i1) (fun self => PySem.W.bind_fn kin self i2)
  refine run _ ⟨bareH C hp, g, dr, tk, os⟩ mb (hp.objs.size + 1) hp.objs.size u _ _ (.inr rfl) (hr.make C [] [(f, u)]).toRoom.depth (kin.keeps keep) (lim.keeps keep) (glob.keeps keep) (blt.keeps keep) (b2 "super" (by decide)) atE ke ?_
  intro h' tk' dx t1 kp dn dne hx hn
  refine ⟨rfl, h (hp.objs.size + 1) dx t1 h' tk' (Nat.le_succ _) ?_ dne (fun b o z => kp b o (old z) (keep b o z)) hx hn⟩
  have dn : (bareH C hp).objs.size ≤ dx := dn
  rw [sz] at dn
  exact Nat.le_trans (Nat.le_add_right _ 2) dn
end
section
variable {X : Cx} {W : WX} {C : Addr} {f : Str} {k : Nat} {x : Str} {e : Expr} {m : ME} {p pos kpos : Pos}
theorem pk_one (h : PEm X W e m) : PK X [⟨some f, e, kpos⟩] (tMA X.K X.mg W (aCons m aNil)) := by
  constructor
  intro pos pins s σ H Q I q
  refine (pk_cons h pk_nil).run pos pins s σ H Q I ?_
  obtain ⟨r, sm, hh, hs, ss, w⟩ := q
  exact tM_bind hs ss w fun r1 h1 v y H1 hs1 ss1 p1 q1 w1 => w1 r1 H1 [y] (Post.refl hs1) (.cons q1 .nil)
theorem pe_excK {ta : TA} (XC : XcC X.prog X.K C f) (hm : X.mg x = some (.ref C)) (hg : Gl X x) (hr : RoomG (k + 1) X.A) (ha : PK X [⟨some f, e, kpos⟩] ta) (hdb : (x == ("__debug__" : Str)) = false := by decide) :
    PE X (.Call (.Name x p) [] [⟨some f, e, kpos⟩] pos) (tExc C f ta) := by
  constructor
  intro pins s σ H Q I h
  refine wpAny_Call_Name_kw (ld_glob I hg hm ?_ hdb)
  refine PySem.W.callWith_KW0 (h₀ := X.base) I.ok.mod.kin XC.oex.kC rfl (thn (ha.run pos pins s σ H _ I h) fun us s1 ⟨vs, H1, I1, r1, y, ev, q⟩ => ⟨I1.kIn, ?_⟩) rfl
  subst ev
  obtain ⟨u, rfl, ry⟩ := vals1 r1
  exact make_runK XC I1 hr fun e dx t1 h' tk he hd hne kp hx hn => ⟨.ref e, _, made_value I1 he hd hne kp hx hn ry, rfl, q e dx (I1.hok.fresh he) (I1.hok.fresh hd) hne⟩
theorem me_excK {c ff : CP} (T : Xcs X.prog X.K X.mg c ff) (hr : RoomG k X.A) (hg : Gl X x) (ha : PEm X W e m) (hk : 1 ≤ k := by decide) (hx : x = S c := by decide +kernel) (hf : f = S ff := by decide +kernel) (hdb : (x == ("__debug__" : Str)) = false := by decide) :
    PEm X W (.Call (.Name x p) [] [⟨some f, e, kpos⟩] pos) (eExc c ff (aCons m aNil)) := by
  obtain ⟨C, hm, XC⟩ := T.ex
  subst hx hf
  obtain ⟨k', rfl⟩ : ∃ k', k = k' + 1 := ⟨k - 1, by omega⟩
  exact (pe_excK XC hm hg hr (pk_one ha) hdb).mimp (exc_sp hm)
end
end MP

/-! repr of data in which {} stands -/
namespace MP
open PySem PySem.Spec PyProof.Rows L2
/-- data without lists: plain values, tuples, {} -/
def toE : Nat → MH → MV → Option PyData
  | 0, _, _ => none
  | n + 1, h, v => match v with
    | .non => some .none
    | .bl b => some (.bool b)
    | .int i => some (.int i)
    | .str l => some (.str (S l))
    | .tup xs => (mapO (toE n h) xs).map .tuple
    | .ref k => match h[k]? with
      | some (.dK []) => some (.dict [])
      | _ => none
    | _ => none
def mReprE : FA
  | [v], h => match toE 64 h v with
    | some d => if d.showable && Nat.ble d.depth 60 && Nat.ble d.shown.length sizeLine then some (.str d.shown.cps.toList, h) else none
    | none => mRepr [v] h
  | as, h => mRepr as h
section
variable {X : Cx} {pins : List (Addr × Obj)} {σ : L2.St} {H : Hp} {s : Shared} {r : List Addr} {h : MH}
abbrev RdE (s : Shared) (d : PyData) (u : Value) : Prop := ∃ as, Reads s.heap u d as ∧ sysModules ∉ as
theorem rdE_all {g : MV → Option PyData} (hg : ∀ v x u d, g v = some d → Rep X.K X.mg r H v x → RelV x u → RdE s d u) : ∀ (vs : List MV) (xs : List V) (us : List Value) (ds : List PyData), mapO g vs = some ds → RepL X.K X.mg r H vs xs → Vals xs us → ∃ as, ReadsAll s.heap us ds as ∧ sysModules ∉ as
  | [], _, _, ds, e, q, rv => by
    cases q
    cases rv
    cases (e : some [] = some ds)
    exact ⟨[], .nil, fun z => nomatch z⟩
  | v :: vs, _, _, ds, e, q, rv => by
    cases q with
    | cons q1 q2 => cases rv with
      | cons r1 r2 =>
        simp only [mapO] at e
        split at e
        · rename_i d ds' e1 e2
          cases e
          obtain ⟨as, h1, h2⟩ := hg _ _ _ _ e1 q1 r1
          obtain ⟨bs, h3, h4⟩ := rdE_all hg vs _ _ _ e2 q2 r2
          exact ⟨as ++ bs, .cons h1 h3, fun z => (List.mem_append.mp z).elim h2 h4⟩
        · cases e
theorem toE_reads (I : L2.Inv X pins σ H s) (hs : HS X.K X.mg r h H) : ∀ (n : Nat) (v : MV) (x : V) (u : Value) (d : PyData), toE n h v = some d → Rep X.K X.mg r H v x → RelV x u → RdE s d u
  | 0, _, _, _, _, e, _, _ => by cases e
  | n + 1, v, x, u, d, e, q, rv => by
    cases q with
    | non => cases e; cases (rv : u = Value.none); exact ⟨[], .none, fun z => nomatch z⟩
    | bl b => cases e; cases (rv : u = Value.bool b); exact ⟨[], .bool b, fun z => nomatch z⟩
    | int i => cases e; obtain ⟨t, rfl⟩ := rv; exact ⟨[], .int i t, fun z => nomatch z⟩
    | str l => cases e; obtain ⟨t, rfl⟩ := rv; exact ⟨[], .str _ t, fun z => nomatch z⟩
    | tup sq ql =>
      rename_i a xs ys
      cases (rv : u = Value.ref a)
      simp only [toE, Option.map_eq_some_iff] at e
      obtain ⟨ds, e1, rfl⟩ := e
      obtain ⟨its, rl, ⟨o, ho, hc, m, hd⟩, _⟩ := I.tuple sq
      obtain ⟨as, h1, h2⟩ := rdE_all (toE_reads I hs n) xs ys its ds e1 ql rl
      exact ⟨as, .tuple ho hc hd (by simpa using h1), h2⟩
    | ref en =>
      rename_i k a
      cases (rv : u = Value.ref a)
      simp only [toE] at e
      split at e
      · rename_i hk
        cases e
        obtain ⟨ys, e1, qk⟩ := hs.lookup en hk
        cases qk
        obtain ⟨_, ne, vs, kv, o, es, ep, ho, ex, hd, _, pr, _⟩ := I.hok a _ e1
        cases kv
        have none : es.toList = [] := by
          cases hl : es.toList with
          | nil => rfl
          | cons y l => rw [hl] at pr; cases pr
        refine ⟨[a], .dict (as := []) (bs := []) ho ex.1 hd ?_ ?_, fun z => ?_⟩
        · rw [none]; exact .nil
        · rw [none]; exact .nil
        · have := List.mem_singleton.mp z
          rw [← this] at ne
          simp at ne
      · cases e
    | _ => cases e
theorem cm_reprE {k : Nat} (hr : RoomG k X.A) : CallR X (.builtin "repr") (rMA X mReprE) := by
  intro pins s σ H xs us Q I rv hh
  obtain ⟨r, h, as, hs, ra, w⟩ := hh
  unfold mReprE at w
  split at w
  · rename_i v
    split at w
    · rename_i d hd
      obtain ⟨x, rfl, q⟩ := repL1 ra
      obtain ⟨u, rfl, ru⟩ := vals1 rv
      split at w
      · rename_i hok
        simp only [Bool.and_eq_true, Nat.ble_eq] at hok
        obtain ⟨⟨h1, h3⟩, h4⟩ := hok
        have fin : Q (.str d.shown) H := by
          have := Wt.plain hs w (.str d.shown.cps.toList)
          rwa [S_cps] at this
        obtain ⟨as, rd, no⟩ := toE_reads I hs 64 v x u d hd q ru
        have hu := hr.units
        cases rd with
        | none => exact PySem.P.repr_of_none ⟨.str "None", H, I.tok _, ⟨_, rfl⟩, by simpa only [PyData.shown] using fin⟩
        | bool b => exact PySem.P.repr_of_bool ⟨.str _, H, I.tok _, ⟨_, rfl⟩, by simpa only [PyData.shown] using fin⟩
        | int i t => exact PySem.P.repr_of_int (by simpa [PyData.showable] using h1) ⟨.str _, H, I.tok _, ⟨_, rfl⟩, by simpa only [PyData.shown] using fin⟩
        | str y t => exact PySem.P.repr_of_str ⟨.str _, H, I.tok _, ⟨_, rfl⟩, by simpa only [PyData.shown] using fin⟩ (by simpa only [PyData.shown] using h4)
        | list z1 z2 z3 z4 => exact repr_of_reads' (.list z1 z2 z3 z4) h1 (fun _ => no) hr.gd (by omega) (fun _ _ e => e) (fun h' u tk kp => ⟨.str _, H, I.kept kp, ⟨_, rfl⟩, fin⟩) h4
        | tuple z1 z2 z3 z4 => exact repr_of_reads' (.tuple z1 z2 z3 z4) h1 (fun _ => no) hr.gd (by omega) (fun _ _ e => e) (fun h' u tk kp => ⟨.str _, H, I.kept kp, ⟨_, rfl⟩, fin⟩) h4
        | dict z1 z2 z3 z4 z5 => exact repr_of_reads' (.dict z1 z2 z3 z4 z5) h1 (fun _ => no) hr.gd (by omega) (fun _ _ e => e) (fun h' u tk kp => ⟨.str _, H, I.kept kp, ⟨_, rfl⟩, fin⟩) h4
      · exact w.elim
    · exact cm_repr hr pins s σ H xs us Q I rv ⟨r, h, _, hs, ra, w⟩
  · exact cm_repr hr pins s σ H xs us Q I rv ⟨r, h, as, hs, ra, w⟩
end
end MP

/-! the look at the written part, the interpreter's statics among it -/
namespace MP
open PySem PySem.Spec PyProof.Rows L2
def frC (n : Nat) (g : Addr → Option Obj) : PySem.W.Frag := He.frT g (He.asD g n ++ [cStatics])
structure SaysC (fa : List He.Fa) (fn : List He.DefD) (ex : PySem.W.Frag → Bool) (w : World) (K : PySem.W.Frag) : Prop where
  t : He.SaysT fa fn [] w K
  more : ex K = true
abbrev AlC : Type := He.AlT × Bool
def obsC (n : Nat) (fa : List He.Fa) (fn : List He.DefD) (ex : PySem.W.Frag → Bool) (g : Addr → Option Obj) : AlC := (He.obsT fa fn [] (frC n g), ex (frC n g))
def hookC (n : Nat) (fa : List He.Fa) (fn : List He.DefD) (ex : PySem.W.Frag → Bool) : PySem.W.Hook where
  α := AlC
  obs s := obsC n fa fn ex s.heap.get?
  val w := (He.valT fn [] w, true)
  says w h := ∃ K : PySem.W.Frag, K.In h ∧ SaysC fa fn ex w K
  of _ _ e := ⟨_, He.frT_in, congrArg Prod.fst e, congrArg Prod.snd e⟩
  keeps _ _ _ z k := z.elim fun K c => ⟨K, c.1.keeps k, c.2⟩
theorem obsC_eq {n : Nat} {fa : List He.Fa} {fn : List He.DefD} {ex : PySem.W.Frag → Bool} {g : Addr → Option Obj} {s : Shared} (h : ∀ a, g a = s.heap.get? a) : obsC n fa fn ex g = (hookC n fa fn ex).obs s := by
  cases (funext h : g = s.heap.get?)
  rfl
end MP

/-! try .. except C as e: the caught exception is taken up as a value -/
namespace MP
open PySem PySem.Spec PyProof.Rows L2
/-- an exception that has come down in X's own frame: sI is the state without it, B the ground -/
structure Down (X : Cx) (pins : List (Addr × Obj)) (a : Addr) (cls : Value) (d : Option Addr) (σ : L2.St) (H : Hp) (B : Heap) (sI s' : Shared) : Prop where
  inv : L2.Inv X pins σ H sI
  ground : ∀ b o, sI.heap.get? b = some o → b ∉ frs X.stack → B.get? b = some o
  fly : HandSPX.FlyingZ B X.stack a (Zc cls d) s'.heap
  same : sI.heap.UpToSlots s'.heap
  na : H a = none
  os : s'.os = sI.os
  bare : AllBare s'.gens
section
variable {X : Cx} {pins : List (Addr × Obj)} {a : Addr} {cls : Value} {d : Option Addr} {σ : L2.St} {H : Hp} {B : Heap} {sI s' : Shared}
theorem Down.here (D : Down X pins a cls d σ H B sI s') : L2.Inv X pins σ H s' := D.inv.landed D.ground D.fly.1 D.same D.os D.bare
theorem Down.frame (D : Down X pins a cls d σ H B sI s') : a ∉ frs X.stack := fun m => by
  obtain ⟨oe, vs, he, _, hd⟩ := D.fly.there
  obtain ⟨_, o, ho, no⟩ := D.fly.2.2.1.mem m
  cases he.symm.trans ho
  exact no _ hd
theorem Down.new (D : Down X pins a cls d σ H B sI s') : sI.heap.get? a = none := by
  cases z : sI.heap.get? a with
  | none => rfl
  | some o => exact absurd (D.ground a o z D.frame) (by rw [D.fly.2.1]; exact fun q => nomatch q)
/-- it is taken up: from now on it is tracked as a value -/
theorem Down.take {C dd : Addr} (D : Down X pins a (.ref C) (some dd) σ H B sI s') : L2.Inv X pins σ (upd H a (exV a C dd)) s' := by
  obtain ⟨oe, vs, he, hz, hd⟩ := D.fly.there
  have other {b : Addr} (hb : b ≠ a) : b ∉ [a] := fun m => hb (List.mem_singleton.mp m)
  have J : L2.Inv X pins σ H { s' with heap := PySem.W.hideAll s'.heap [a] } := by
    refine D.inv.landed D.ground ?_ ?_ D.os D.bare
    · exact fun b o z => PySem.W.hideAll_get [a] (D.fly.1 b o z) (other fun y => by rw [y, D.fly.2.1] at z; cases z)
    · intro b o z nf
      obtain ⟨sl, q⟩ := D.same b o z nf
      exact ⟨sl, PySem.W.hideAll_get [a] q (other fun y => by rw [y, D.new] at z; cases z)⟩
  exact J.laidN (t' := s'.toks) (fun b o z => PySem.W.of_hideAll [a] z) (PySem.W.hideAll_none [a] (List.mem_singleton.mpr rfl)) D.na (exV_ok he hz.1 hz.2 hd)
/-- .. and stays down -/
theorem Down.step {h' : Heap} (D : Down X pins a cls d σ H B sI s') (f : HandSPX.FlyingZ B X.stack a (Zc cls d) h') (u : s'.heap.UpToSlots h') : Down X pins a cls d σ H B sI { s' with heap := h' } :=
  ⟨D.inv, D.ground, f, D.same.trans u, D.na, D.os, D.bare⟩
theorem held (I : L2.Inv X pins σ H s') (a : Addr) : L2.Inv (X.suite a (X.pn ++ pins)) [] σ H s' :=
  ⟨I.ok.suite _ _, I.os, I.bare, I.base, I.loc, I.cell, I.free, I.freeC, fun p hp => I.pin p (by simpa using hp), I.hok, I.len⟩
theorem unheld (ok : X.Ok) (I : L2.Inv (X.suite a (X.pn ++ pins)) [] σ H s') : L2.Inv X pins σ H s' :=
  ⟨ok, I.os, I.bare, I.base, I.loc, I.cell, I.free, I.freeC, fun p hp => I.pin p (by simpa using hp), I.hok, I.len⟩
end
def cutD (i : Nat) (D : Ends) : Ends := { nx := fun σ H => D.nx (σ.set i none) H, rt := D.rt, bk := fun σ H => D.bk (σ.set i none) H, ct := fun σ H => D.ct (σ.set i none) H }
/-- the clause's expression: fit tells whether an exception of a class is caught -/
structure Fits (X : Cx) (he : Expr) (fit : Value → Option Bool) : Prop where
  run : ∀ {pins : List (Addr × Obj)} {a : Addr} {cls : Value} {d : Option Addr} {σ : L2.St} {H : Hp} {B : Heap} {sI s : Shared} {b : Bool} {Q : Value → Shared → Prop} {E : Value → Shared → Prop}, Down X pins a cls d σ H B sI s → fit cls = some b →
    (∀ c s', Down X pins a cls d σ H B sI s' → PySem.W.Looks (model X.prog X.w) s'.heap (excMatches (.ref a) c) b → Q c s') → wpAny (model X.prog X.w) (X.A.mark (some (.ref a))) (eval he X.env) Q E s
section
variable {X : Cx} {pins : List (Addr × Obj)} {a : Addr} {cls : Value} {d : Option Addr} {σ : L2.St} {H : Hp} {B : Heap} {sI s : Shared}
theorem Down.type (Dn : Down X pins a cls d σ H B sI s) : PySem.W.Looks (model X.prog X.w) s.heap (typeOf (.ref a)) cls := by
  obtain ⟨oe, vs, he, hz, hd⟩ := Dn.fly.there
  exact fun A Q E s k q => wpAny_typeOf_ref (k _ _ he) (hz.1.symm ▸ q)
theorem Down.name (Dn : Down X pins a cls d σ H B sI s) {x : Str} {c : Value} {np : Pos} (hc : Names X x c) {Q : Value → Shared → Prop} {E : Value → Shared → Prop} (q : Q c s) : wpAny (model X.prog X.w) (X.A.mark (some (.ref a))) (eval (.Name x np) X.env) Q E s := by
  have I1 := held Dn.here a
  obtain ⟨hg, hdb, hm⟩ := hc
  cases hm with
  | inl hm => exact ld_glob (X := X.suite a (X.pn ++ pins)) I1 hg hm q hdb
  | inr hm => exact ld_blt (X := X.suite a (X.pn ++ pins)) I1 hg hm.1 hm.2.1 q hm.2.2 hdb
/-- a new thing is laid -/
theorem Down.push (Dn : Down X pins a cls d σ H B sI s) (o : Obj) : Down X pins a cls d σ H B sI { s with heap := s.heap.push o } := by
  have k : ∀ b u, s.heap.get? b = some u → (s.heap.push o).get? b = some u := fun b u e => Heap.get?_push_of_some _ e
  obtain ⟨f1, f2, f3, oe, vs, T, oT, ts, t1, t2, t3, t4, t5, t6, t7, t8⟩ := Dn.fly
  exact Dn.step ⟨fun b u e => k _ _ (f1 b u e), f2, f3.of_keeps fun b u e _ => ⟨u, k _ _ e, rfl⟩, oe, vs, T, oT, ts, k _ _ t1, t2, t3, t4, t5, t6, k _ _ t7, t8⟩ fun b u e _ => ⟨u.slots, k _ _ e⟩
end
theorem Fits.one {X : Cx} {x : Str} {c : Value} {np : Pos} (hc : Names X x c) : Fits X (.Name x np) (fun cls => PySem.W.exmOne X.K cls c) :=
  ⟨fun Dn hb k => Dn.name hc (k _ _ Dn (PySem.W.exm_one Dn.here.kIn Dn.type hb))⟩
theorem Fits.two {X : Cx} {x y : Str} {c e : Value} {np mp tp : Pos} {ctx : Nat} (hc : Names X x c) (hd : Names X y e) : Fits X (.Tuple [.Name x np, .Name y mp] ctx tp) (fun cls => PySem.W.exmAny X.K cls [c, e]) := by
  refine ⟨fun {pins a cls d σ H B sI s b Q E} Dn hb k => wpAny_Tuple_spliced ?_⟩
  show wpAny _ _ (spliced ((false, eval (.Name x np) X.env) :: backTo tp (starEach [.Name y mp] X.env))) _ _ s
  refine Calls.spliced_cons (Dn.name hc ?_)
  show wpAny _ _ (spliced ((false, eval (.Name y mp) X.env) :: backTo tp (starEach [] X.env))) _ _ s
  refine Calls.spliced_cons (Dn.name hd (Calls.spliced_nil ⟨show 2 ≤ sizeLine by decide, ?_⟩))
  have D2 := Dn.push { cls := .type "tuple", data := .seq [c, e].toArray }
  exact k _ _ D2 (PySem.W.exm_tup2 D2.here.kIn D2.type (Heap.get?_push_size _ rfl) hb)
/-- what `except .. as n` wishes of what the body lets out: i is n's slot -/
def wEx (fit : Value → Option Bool) (i : Nat) (ts : TS) (Wout : WX) (D : Ends) : WX := fun cls d σ H =>
  ∃ b, fit cls = some b ∧ (b = true → ∃ C dd, cls = .ref C ∧ d = some dd ∧ ∀ a, H a = none → ts (cutD i D) (σ.set i (some (.ref a))) (upd H a (exV a C dd))) ∧ (b = false → Wout cls d σ H)
section
variable {X : Cx} {pins : List (Addr × Obj)} {a : Addr} {cls : Value} {d : Option Addr} {σ : L2.St} {H : Hp} {B : Heap} {sI s : Shared} {n : Str} {he : Expr} {fit : Value → Option Bool} {i : Nat} {suite : List Stmt} {b₀ : Stmt} {pos pos' : Pos} {ts : TS} {E : Ends}
/-- the suite, run with the exception as a value, and the name gone behind it -/
theorem suite_as {C dd : Addr} (hN : X.N.Nodup) (hi : X.N[i]? = some n) (hl : X.env.kindOf n = some .local) (hsu : PSs (X.suite a (X.pn ++ pins)) (b₀ :: suite) ts) (Dn : Down X pins a (.ref C) (some dd) σ H B sI s)
    (w : ts (cutD i E) (σ.set i (some (.ref a))) (upd H a (exV a C dd))) {R : PySem.Result → Shared → Prop} (hR : ∀ f s2, wpAny (model X.prog X.w) X.A (do bindName X.env n .none; unbindBehindTheSuite X.env n pos') (fun _ s3 => SP X pins E f s3) X.xe s2 → R (.ok f) s2) :
    codeAny (model X.prog X.w) (X.A.mark (some (.ref a))) (.handlers (.ref a) [.ExceptHandler none (some n) (b₀ :: suite) pos'] X.env) R s := by
  apply codeAny_handlers_suite_as
  apply HandSPX.lands_againZ Dn.fly
  intro h4 f4 u4
  have D4 := Dn.step f4 u4
  have ok := D4.here.ok
  refine store_ok (X := X.suite a (X.pn ++ pins)) (v := .ref a) (held D4.take a) hN hi (.inl hl) rfl (fun s5 I5 => ?_) (.inr hl)
  refine wpAny_mono (hsu.run [] s5 _ _ (cutD i E) I5 w) (fun f s6 q => hR f s6 ?_) fun _ _ z => z.elim
  cases f with
  | next => obtain ⟨σ6, H6, I6, q6⟩ := q; exact gone_ok (unheld ok I6) hN hi hl fun s7 J => ⟨_, _, J, q6⟩
  | brk => obtain ⟨σ6, H6, I6, q6⟩ := q; exact gone_ok (unheld ok I6) hN hi hl fun s7 J => ⟨_, _, J, q6⟩
  | cont => obtain ⟨σ6, H6, I6, q6⟩ := q; exact gone_ok (unheld ok I6) hN hi hl fun s7 J => ⟨_, _, J, q6⟩
  | ret u => obtain ⟨v6, σ6, H6, I6, r6, q6⟩ := q; exact gone_ok (unheld ok I6) hN hi hl fun s7 J => ⟨v6, _, _, J, r6, q6⟩
/-- no clause: the exception goes on -/
theorem goes_on {Wout : WX} (hs : X.stack = X.env :: X.outer) (hf : X.env.frame = some X.env.locals) (tk : Takes X Wout) (Dn : Down X pins a cls d σ H B sI s) (w : Wout cls d σ H) : wpAny (model X.prog X.w) X.A (handleBy (.ref a) X.env []) (SP X pins E) X.xe s := by
  apply wpAny_handleBy_nil
  obtain ⟨oe, vs, T, oT, tv, he, _, hd, h1, _⟩ := Dn.fly.2.2.2
  unfold PySem.passOn
  refine wpAny_bind (wpAny_field he hd h1 ?_)
  rw [if_neg (by simp : ¬ ((Value.ref T == Value.none) = true))]
  have up : wpAny (model X.prog X.w) X.A (setFlight (.ref a) X.env.frame) (fun _ s4 => wpAny (model X.prog X.w) X.A (throw (.ref a) : Sem Flow) (SP X pins E) X.xe s4) X.xe s := by
    rw [hf]
    apply HandSPX.setFlight_upZ Dn.fly
    intro h4 hh u4
    apply wpAny_throw
    exact tk _ _ ⟨a, B, sI, pins, σ, H, cls, d, rfl, Dn.inv, Dn.ground, Dn.same.trans u4, .inr (.inr hh), Dn.na, Dn.os, Dn.bare, w⟩
  first
    | exact wpAny_bind up
    | exact wpAny_bind (wpAny_pure (wpAny_bind up))
theorem handled {Wout : WX} (hs : X.stack = X.env :: X.outer) (hf : X.env.frame = some X.env.locals) (hN : X.N.Nodup) (hi : X.N[i]? = some n) (hl : X.env.kindOf n = some .local) (hc : Fits X he fit) (tk : Takes X Wout)
    (hsu : PSs (X.suite a (X.pn ++ pins)) (b₀ :: suite) ts) (Dn : Down X pins a cls d σ H B sI s) (w : wEx fit i ts Wout E cls d σ H) :
    wpAny (model X.prog X.w) X.A (handleBy (.ref a) X.env [.ExceptHandler (some he) (some n) (b₀ :: suite) pos']) (SP X pins E) X.xe s := by
  obtain ⟨b, hb, yes, no⟩ := w
  refine wpAny_handleBy_cons (codeAny_handlers_test ?_) (fun q => nomatch q)
  refine hc.run Dn hb fun c s' Dn fits => ?_
  apply fits.here
  cases b with
  | true =>
    obtain ⟨C, dd, rfl, rfl, w⟩ := yes rfl
    exact suite_as hN hi hl hsu Dn (w a Dn.na) fun f s2 q => q
  | false => exact goes_on hs hf tk Dn (no rfl)
theorem ps_tryV {body : List Stmt} {tb : WX → TS} {Wout : WX} (hs : X.stack = X.env :: X.outer) (hf : X.env.frame = some X.env.locals) (hN : X.N.Nodup) (hi : X.N[i]? = some n) (hl : X.env.kindOf n = some .local) (hc : Fits X he fit) (tk : Takes X Wout)
    (hb : ∀ (W : WX) (pn : List (Addr × Obj)) (xe : Value → Shared → Prop), Takes (X.tr pn xe) W → PassesOwn (model X.prog X.w) X.A X.env xe → PSs (X.tr pn xe) body (tb W)) (hsu : ∀ (a : Addr) (pn : List (Addr × Obj)), PSs (X.suite a pn) (b₀ :: suite) ts) :
    PS X (.Try body [.ExceptHandler (some he) (some n) (b₀ :: suite) pos'] [] [] pos) (fun D σ H => tb (wEx fit i ts Wout D) D σ H) := by
  constructor
  intro pins s σ H D I h
  have ok := I.ok
  have fr : X.A.frames = some (X.env :: X.outer) := ok.frames.trans (congrArg some hs)
  apply wpAny_Try_except
  refine wpAny_mono ((hb _ (X.pn ++ pins) _ ?_ PassesOwn.looking).run [] s σ H D (I.toTry _) h) ?_ fun e s1 z => z
  · rintro u s' ⟨a, B, sI, pins', σ', H', cls, d, rfl, J, nb, up, sky, na, os, ag, w⟩
    have J' : L2.Inv X pins σ' H' sI := J.ofTry ok
    have sky : Sky B (X.env :: X.outer) a (Zc cls d) X.env.locals s'.heap := hs ▸ sky
    refine Sky.land Zc.steady fr hf sky fun h3 f3 u3 => ?_
    exact handled hs hf hN hi hl hc tk (hsu a _) (B := B) (sI := sI) ⟨J', nb, hs.symm ▸ f3, up.trans u3, na, os, ag⟩ w
  · intro f s1 q
    cases f with
    | next => obtain ⟨σ', H', J, q⟩ := q; exact wpAny_execs_nil ⟨σ', H', J.ofTry ok, q⟩
    | brk => obtain ⟨σ', H', J, q⟩ := q; exact ⟨σ', H', J.ofTry ok, q⟩
    | cont => obtain ⟨σ', H', J, q⟩ := q; exact ⟨σ', H', J.ofTry ok, q⟩
    | ret u => obtain ⟨v, σ', H', J, r, q⟩ := q; exact ⟨v, σ', H', J.ofTry ok, r, q⟩
end
end MP

/-! try .. except C as e in the mirror -/
namespace MP
open PySem PySem.Spec PyProof.Rows L2
def excOf (e : MX) : MV := .exc e.c (e.fs.map (·.1)) (e.fs.map (·.2))
/-- ins: the classes that the clause catches; outs: those that it lets pass -/
def sTry (b : MS) (i : Nat) (ins outs : List CP) (su : MS) : MS := fun s h => match b s h with
  | .err e s1 h1 => if ins.contains e.c then (match su (s1.set i (some (excOf e))) h1 with
      | .nx s2 h2 => .nx (s2.set i none) h2
      | .rt v h2 => .rt v h2
      | .bk s2 h2 => .bk (s2.set i none) h2
      | .ct s2 h2 => .ct (s2.set i none) h2
      | _ => .stuck) else if outs.contains e.c then .err e s1 h1 else .stuck
  | o => o
theorem repF_zip {K : PySem.W.Frag} {mg : Str → Option Value} {r : List Addr} {H : Hp} : ∀ {fs : List (CP × MV)} {ys : List (Str × V)}, RepF K mg r H fs ys → ys = ((fs.map (·.1)).map S).zip (ys.map (·.2)) ∧ (fs.map (·.1)).length = (ys.map (·.2)).length ∧ RepL K mg r H (fs.map (·.2)) (ys.map (·.2))
  | _, _, .nil => ⟨rfl, rfl, .nil⟩
  | _, _, .cons (a := p) (b := q) e t => by
    obtain ⟨h1, h2, h3⟩ := repF_zip t
    obtain ⟨y, z⟩ := q
    have e1 : y = S p.1 := e.1
    subst e1
    refine ⟨?_, by simpa using h2, .cons e.2 h3⟩
    simp only [List.map_cons, List.zip_cons_cons]
    rw [← h1]
theorem SS.unset {K : PySem.W.Frag} {mg : Str → Option Value} {r : List Addr} {H : Hp} {m : Sl} {s : L2.St} (y : SS K mg r H m s) (i : Nat) : SS K mg r H (m.set i none) (s.set i none) := by
  refine ⟨by simp [y.len], fun j v e => ?_⟩
  by_cases hj : i = j
  · subst hj
    by_cases hl : i < m.length
    · rw [List.getElem?_set_self hl] at e; cases e
    · rw [List.getElem?_eq_none (by simpa using hl)] at e; cases e
  · rw [List.getElem?_set_ne hj] at e
    rw [List.getElem?_set_ne hj]
    exact y.at_ j v e
/-- which classes the clause catches -/
structure Catch (mg : Str → Option Value) (fit : Value → Option Bool) (ins outs : List CP) : Prop where
  yes : ∀ k ∈ ins, ∃ C, mg (S k) = some (.ref C) ∧ fit (.ref C) = some true
  no : ∀ k ∈ outs, ∃ C, mg (S k) = some (.ref C) ∧ fit (.ref C) = some false
section
variable {X : Cx} {W : WX} {n : Str} {he : Expr} {fit : Value → Option Bool} {i : Nat} {body suite : List Stmt} {b₀ : Stmt} {pos pos' : Pos} {mb su : MS} {ins outs : List CP}
theorem cut_ok {K : PySem.W.Frag} {mg : Str → Option Value} {r : List Addr} {H : Hp} {D : Ends} {o : SR} (w : WtS K mg W r H D (match o with
      | .nx s2 h2 => .nx (s2.set i none) h2
      | .rt v h2 => .rt v h2
      | .bk s2 h2 => .bk (s2.set i none) h2
      | .ct s2 h2 => .ct (s2.set i none) h2
      | _ => .stuck)) : WtS K mg (fun _ _ _ _ => False) r H (cutD i D) o := by
  cases o with
  | nx s2 h2 => exact fun r' s' H' p ss => w r' _ H' p (ss.unset i)
  | rt v h2 => exact fun r' H' y p q => w r' H' y p q
  | bk s2 h2 => exact fun r' s' H' p ss => w r' _ H' p (ss.unset i)
  | ct s2 h2 => exact fun r' s' H' p ss => w r' _ H' p (ss.unset i)
  | err e s2 h2 => exact w.elim
  | stuck => exact w.elim
theorem ms_try (hs : X.stack = X.env :: X.outer) (hf : X.env.frame = some X.env.locals) (hN : X.N.Nodup) (hi : X.N[i]? = some n) (hl : X.env.kindOf n = some .local) (hc : Fits X he fit) (tk : Takes X W) (T : Catch X.mg fit ins outs)
    (hb : ∀ (W : WX) (pn : List (Addr × Obj)) (xe : Value → Shared → Prop), Takes (X.tr pn xe) W → PassesOwn (model X.prog X.w) X.A X.env xe → PSsm (X.tr pn xe) W body mb)
    (hsu : ∀ (a : Addr) (pn : List (Addr × Obj)), PSsm (X.suite a pn) (fun _ _ _ _ => False) (b₀ :: suite) su) :
    PSm X W (.Try body [.ExceptHandler (some he) (some n) (b₀ :: suite) pos'] [] [] pos) (sTry mb i ins outs su) := by
  refine (ps_tryV hs hf hN hi hl hc tk (tb := fun W => tMS X.K X.mg W mb) (ts := tMS X.K X.mg (fun _ _ _ _ => False) su) hb hsu).mimp ?_
  rintro D s H ⟨r, sm, h, hh, ss, w⟩
  refine ⟨r, sm, h, hh, ss, ?_⟩
  unfold sTry at w
  cases eb : mb sm h with
  | nx s2 h2 => rw [eb] at w; exact w
  | rt v h2 => rw [eb] at w; exact w
  | bk s2 h2 => rw [eb] at w; exact w
  | ct s2 h2 => rw [eb] at w; exact w
  | stuck => rw [eb] at w; exact w
  | err e s1 h1 =>
    rw [eb] at w
    dsimp only at w
    intro r1 σ1 H1 cls d p1 ss1 q
    obtain ⟨C, dd, ys, hm, rfl, rfl, nd, hd, qf⟩ := q
    split at w
    · rename_i hin
      obtain ⟨C', hm', ex⟩ := T.yes e.c (by simpa using hin)
      cases hm.symm.trans hm'
      refine ⟨true, ex, fun _ => ⟨C, dd, rfl, rfl, fun a na => ?_⟩, fun z => nomatch z⟩
      obtain ⟨z1, z2, z3⟩ := repF_zip qf
      have po := p1.hs.extra (u := exV a C dd) na
      have hne : dd ≠ a := fun z => by rw [z, na] at hd; cases hd
      have q : Rep X.K X.mg r1 (upd H1 a (exV a C dd)) (excOf e) (.ref a) := .exc hm upd_same (by rw [upd_ne hne, hd, ← z1]) z2 (po.repL p1.hs z3)
      refine ⟨r1, s1.set i (some (excOf e)), h1, po.hs, (ss1.post p1.hs po).set q i, cut_ok (W := W) (WtS.post (p1.trans po) w)⟩
    · split at w
      · rename_i _ hout
        obtain ⟨C', hm', ex⟩ := T.no e.c (by simpa using hout)
        cases hm.symm.trans hm'
        exact ⟨false, ex, (fun z => by cases z), fun _ => w r1 σ1 H1 _ _ p1 ss1 ⟨C, dd, ys, hm, rfl, rfl, nd, hd, qf⟩⟩
      · exact w.elim
end
end MP

/-! a lambda without parameters, handed to a def that calls it -/
namespace MP
open PySem PySem.Spec PyProof.Rows L2
/-- the lambda at fl, made by the frames st in the state s, H: what its call does, while its maker stands still. c, q: its code object, its name; ws: what it has captured; g: its mirror -/
structure LamP (P : Program) (w : World) (K : PySem.W.Frag) (mg : Str → Option Value) (base : Heap) (st : List Env) (s : Shared) (H : Hp) (k : Nat) (fl c : Addr) (q : Str) (ws : List V) (g : List MV → MH → R MV) : Prop where
  at_ : ∀ (H1 : Hp) (s1 : Shared), Un (frs st) [] H H1 s.heap s1.heap → PySem.W.FnAt fl s1.heap
  run : ∀ (A : Around) (outer : List Env) (s1 : Shared) (H1 : Hp) (Q : VK) (E : XK) (r : List Addr) (h : MH) (vs : List MV), RoomG k A → Env0 P w K mg base A outer s1 H1 → Un (frs st) [] H H1 s.heap s1.heap →
    H1 c = some (LamX.CodeO c q) → HS K mg r h H1 → RepL K mg r H1 vs ws → Wt K mg (Rep K mg) r H1 E Q (g vs h) → codeAny (model P w) A (.call (.ref fl) ⟨[], []⟩) (CR (L2.CX P w) outer P w H1 s1 Q E) s1
open Classical in
/-- x(), the lambda being in slot i -/
noncomputable def eAct (i : Nat) (fl c : Addr) (q : Str) (ws : List V) (g : List MV → MH → R MV) : ME := fun s h => match s[i]? with
  | some (some (.clo a c' q' ws' vs)) => if a = fl ∧ c' = c ∧ q' = q ∧ ws' = ws then g vs h else .stuck
  | _ => .stuck
theorem me_act {X : Cx} {W : WX} {k j i : Nat} {fl c : Addr} {q a : Str} {ws : List V} {g : List MV → MH → R MV} {p1 p2 : Pos} (L : LamP X.prog X.w X.K X.mg X.base X.outer X.s_0 X.H_0 j fl c q ws g) (hex : X.ex = []) (tk : Takes X W) (hr : RoomG k X.A)
    (hN : X.N[i]? = some a) (hv : Vis X.env.scope a) (hjk : j ≤ k := by decide) (hd : (a == ("__debug__" : Str)) = false := by decide) (hcd : (a == ("__classdict__" : Str)) = false := by decide) : PEm X W (.Call (.Name a p1) [] [] p2) (eAct i fl c q ws g) := by
  constructor
  rintro pins s σ H Q I ⟨r, sm, h, hs, ss, wt⟩
  unfold eAct at wt
  split at wt
  · rename_i a' c' q' ws' vs es
    split at wt
    · rename_i z
      obtain ⟨rfl, rfl, rfl, rfl⟩ := z
      obtain ⟨x, ex, rx⟩ := ss.at_ i _ es
      cases rx with
      | clo hc rl =>
        have un : Un (frs X.outer) [] X.H_0 H X.s_0.heap s.heap := by
          have b := I.base
          rw [hex] at b
          exact b
        refine wpAny_Call_Name_kw (thn ((pe_var (pos := p1) (i := i) hN hv hd hcd).run pins s σ H (fun v H1 => v = .ref a' ∧ H1 = H) I ⟨_, ex, rfl, rfl⟩) ?_)
        rintro u s1 ⟨v, H1, I1, ru, ev, eH⟩
        subst ev
        rw [eH] at I1
        cases (ru : u = Value.ref a')
        have un1 : Un (frs X.outer) [] X.H_0 H X.s_0.heap s1.heap := by
          have b := I1.base
          rw [hex] at b
          exact b
        refine PySem.W.callWith_F0 (L.at_ _ _ un1) (wpAny_call (codeAny_mono (L.run X.A X.stack s1 H Q (fun c d H' => W c d σ H') r h vs (hr.mono hjk) I1.env0 un1 hc hs rl wt) ?_))
        rintro (e | fl) s' z
        · exact passAt tk σ pins H s1 e s' I1 z
        · cases fl
          case ret v => exact I1.after z
          all_goals exact z.elim
    · exact wt.elim
  · exact wt.elim
/-- the def of the module's name x, given a lambda; mh: its mirror, by what the lambda does -/
structure FnL (P : Program) (w : World) (K : PySem.W.Frag) (mg : Str → Option Value) (base : Heap) (x : Str) (k kl : Nat) (mh : (MH → R MV) → MH → R MV) : Prop where
  ex : ∃ (f : Addr) (fd : FuncData) (a : Str), mg x = some (.ref f) ∧ PySem.W.keepIn K (.ref f) = true ∧ Binds K fd [a] [] ∧
    ∀ (A : Around) (outer : List Env) (s : Shared) (H : Hp) (Q : VK) (E : XK) (fl c : Addr) (q : Str) (ws : List V) (g : List MV → MH → R MV) (vs : List MV) (r : List Addr) (h : MH), RoomG k A → Env0 P w K mg base A outer s H → LamP P w K mg base outer s H kl fl c q ws g →
      H c = some (LamX.CodeO c q) → HS K mg r h H → RepL K mg r H vs ws → Wt K mg (Rep K mg) r H E Q (mh (g vs) h) → BindsTo s fd ⟨[.ref fl], []⟩ [(a, .ref fl)] → codeAny (model P w) A (.call (.ref f) ⟨[.ref fl], []⟩) (CR (L2.CX P w) outer P w H s Q E) s
theorem fnL_of {P : Program} {w : World} {K : PySem.W.Frag} {mg : Str → Option Value} {base : Heap} {x qual : Str} {params : Arguments} {body : List Stmt} {scope : Scope} {dvs : List V} {kws : List (Str × V)} {f : Addr} {fd : FuncData} {N : List Str} {a : Str} {k kl : Nat} {b : MV → (MH → R MV) → MS} {mh : (MH → R MV) → MH → R MV}
    (F : FunD K x qual params body scope dvs kws f fd) (S : FnScope N [a] scope) (hm : mg x = some (.ref f)) (hb : Binds K fd [a] [])
    (hbody : ∀ (cdv : Value) (hcd : fd.code = cdv) (A : Around) (outer : List Env) (s : Shared) (H : Hp) (E : XK) (fl c : Addr) (q : Str) (ws : List V) (g : List MV → MH → R MV) (vs : List MV), RoomG k (A.deeper (envOfC qual scope s.heap.objs.size f cdv)) →
      Takes (cxOf (L2.CX P w) P w K mg base N qual scope f cdv A outer s H E) (WF E) →
      PassesOwn (model P w) (A.deeper (envOfC qual scope s.heap.objs.size f cdv)) (envOfC qual scope s.heap.objs.size f cdv) (cxOf (L2.CX P w) P w K mg base N qual scope f cdv A outer s H E).xe →
      LamP P w K mg base outer s H kl fl c q ws g → PSsm (cxOf (L2.CX P w) P w K mg base N qual scope f cdv A outer s H E) (WF E) body (b (.clo fl c q ws vs) (g vs)))
    (hi : ∀ (fl c : Addr) (q : Str) (ws : List V) (g : List MV → MH → R MV) (vs : List MV) (h : MH), mh (g vs) h = .stuck ∨ mh (g vs) h = runFn N.length (b (.clo fl c q ws vs) (g vs)) [.clo fl c q ws vs] h) : FnL P w K mg base x (k + 1) kl mh := by
  have kp := F.kp
  obtain ⟨oc, od, dV, kV, doc, pm, an, cdv, ct, osl, rfl, lk, hcd, _, _⟩ := F.ex
  refine ⟨f, _, a, hm, kp, hb, fun A outer s H Q E fl c q ws g vs r h hr e0 L hc hs rl wt bd => ?_⟩
  refine LamX.run_ofS (us := [.ref fl]) (vs := [.ref fl]) lk hcd S hr.toRoom e0 bd (.cons rfl .nil) rfl fun _ => ?_
  refine ⟨_, hbody cdv rfl A outer s H E fl c q ws g vs (hr.deeper _) (takes_of rfl rfl rfl rfl) (passes_of rfl) L, r, _, h, hs, SS.start (as := [.clo fl c q ws vs]) (.cons (.clo hc rl) .nil), ?_⟩
  rcases hi fl c q ws g vs h with z | z
  · rw [z] at wt; exact wt.elim
  rw [z] at wt
  unfold runFn at wt
  cases e : b (.clo fl c q ws vs) (g vs) ([MV.clo fl c q ws vs].map some ++ List.replicate (N.length - [MV.clo fl c q ws vs].length) none) h with
  | nx s' h' => rw [e] at wt; exact fun r' s2 H' p _ => wt r' H' .non p .non
  | rt v h' => rw [e] at wt; exact fun r' H' y p q => wt r' H' y p q
  | bk s' h' => rw [e] at wt; exact wt.elim
  | ct s' h' => rw [e] at wt; exact wt.elim
  | err x s' h' => rw [e] at wt; exact fun r' s2 H' cls d p _ q => wt r' H' cls d p q
  | stuck => rw [e] at wt; exact wt.elim
/-- where a lambda is made, what the mirror knows is kept -/
theorem kp_ext {K : PySem.W.Frag} {H H1 : Hp} (eN : LamX.ExtN H H1) : Kp K H H1 := by
  refine ⟨?_, ?_, fun b xs ⟨o, z⟩ => ⟨o, eN _ _ z (fun _ y => by cases y)⟩, fun b φ z => eN _ (.ext φ) z (fun _ y => by cases y), fun b fs z => eN _ (.xd fs) z (fun _ y => by cases y)⟩
  · rintro b xs ((z | ⟨o, z⟩) | z)
    · exact .inl (.inl (eN _ _ z fun _ y => by cases y))
    · exact .inl (.inr ⟨o, eN _ _ z fun _ y => by cases y⟩)
    · exact .inr z
  · rintro b xs (⟨o, z⟩ | z)
    · exact .inl ⟨o, eN _ _ z fun _ y => by cases y⟩
    · exact .inr z
theorem post_ext {K : PySem.W.Frag} {mg : Str → Option Value} {r : List Addr} {h : MH} {H H1 : Hp} (hs : HS K mg r h H) (eN : LamX.ExtN H H1) (T1 : LamX.Tabs (tabsK K) H1) : Post K mg r H r h H1 := by
  have hs1 : HS K mg r h H1 := by
    refine ⟨hs.len, hs.nd, fun n o b e1 e2 => ?_, T1⟩
    obtain ⟨u, hu', pl⟩ := hs.plain (List.mem_of_getElem? e2)
    rw [eN b u hu' (fun ps y => by rw [y] at pl; exact pl), ← hu']
    exact (hs.at_ n o b e1 e2).mono (kp_ext eN) fun _ _ z => z
  refine ⟨⟨[], by simp⟩, hs1, fun b o nb e t => ⟨nb, ?_⟩, fun b o u e => eN _ _ e fun _ y => by cases y⟩
  rcases t with t | t
  · exact HK.of (eN b o e t)
  · obtain ⟨t', ht, rfl⟩ := List.mem_map.mp t
    obtain ⟨qs, z, _⟩ := T1 t'.2 (List.mem_map.mpr ⟨t', ht, rfl⟩)
    exact ⟨_, z, fun nt => (Option.some.inj ((eN _ _ e nt).symm.trans z)).symm⟩
/-! ### the maker -/
def capt : List Nat → Sl → Option (List MV)
  | [], _ => some []
  | i :: is, s => match s[i]?, capt is s with
    | some (some v), some vs => some (v :: vs)
    | _, _ => none
def fillS : List Nat → List MV → Sl → Sl
  | i :: is, v :: vs, s => fillS is vs (s.set i (some v))
  | _, _, s => s
/-- x(lambda: ..), is: the slots that the lambda captures -/
def eLam (n : Nat) (is : List Nat) (mh : (MH → R MV) → MH → R MV) (mb : ME) : ME := fun s h => match capt is s with
  | some vs => mh (fun h1 => mb (fillS is vs (List.replicate n none)) h1) h
  | none => .stuck
section
variable {K : PySem.W.Frag} {mg : Str → Option Value} {r : List Addr} {H : Hp}
theorem capt_ok {m : Sl} {s : L2.St} (y : SS K mg r H m s) : ∀ {is : List Nat} {vs : List MV}, capt is m = some vs → ∃ ws, RepL K mg r H vs ws ∧ Paired (fun i x => s[i]? = some (some x)) is ws
  | [], vs, e => by cases e; exact ⟨[], .nil, .nil⟩
  | i :: is, vs, e => by
    unfold capt at e
    split at e
    · rename_i v us e1 e2
      cases e
      obtain ⟨ws, q, z⟩ := capt_ok y e2
      obtain ⟨x, ex, rx⟩ := y.at_ i v e1
      exact ⟨x :: ws, .cons rx q, .cons ex z⟩
    · cases e
theorem fill_ok {s : L2.St} : ∀ {is : List Nat} {vs : List MV} {ws : List V} {m : Sl}, Paired (fun i x => s[i]? = some (some x)) is ws → RepL K mg r H vs ws → SS K mg r H m s → SS K mg r H (fillS is vs m) s
  | _, _, _, _, .nil, .nil, y => y
  | i :: is, v :: vs, x :: ws, m, .cons e z, .cons p q, y => by
    refine fill_ok (is := is) z q ?_
    have w := y.set p i
    rwa [show s.set i (some x) = s from by
      obtain ⟨hl, e'⟩ := List.getElem?_eq_some_iff.mp e
      rw [← e']
      exact List.set_getElem_self hl] at w
end
section
variable {X : Cx} {W : WX}
theorem me_lam {mh : (MH → R MV) → MH → R MV} {mb : ME} {is : List Nat} {x q : Str} {c T : Addr} {k kl j n : Nat} {params : Arguments} {body : Expr} {scope : Scope} {p lpos pos : Pos} (F : FnL X.prog X.w X.K X.mg X.base x j (kl + 1) mh) (tk : Takes X W) (hr : RoomG k X.A) (hg : Gl X x)
    (hT : (c, T, q) ∈ tabs3 X.K) (TB : TabsB X.K X.mg X.base) (hu : ∀ p ∈ tabsK X.K, p.1 = T → p.2 = q) (hcode : X.env.code = .ref c) (hq : X.env.qual ++ "<lambda>" = q) (hn : X.N.length = n)
    (L : LamX.LamS X.env.scope scope) (hdef : defaultsOf params X.env = ([], []))
    (hbind : ∀ (q : Str) (cl : List (Str × Addr)) (pm cv ctv : Value), bindArgs (PySem.W.kla_fn "<lambda>" q params body scope cl pm cv ctv) ⟨[], []⟩ = pure [])
    (hbody : ∀ (A : Around) (outer : List Env) (s : Shared) (H : Hp) (E : XK) (f c' : Addr), RoomG kl (A.deeper (LamX.lamEnv X scope s.heap.objs.size f c')) → Takes (LamX.lamCx X A outer s H E scope f c') (WF E) →
      PassesOwn (model X.prog X.w) (A.deeper (LamX.lamEnv X scope s.heap.objs.size f c')) (LamX.lamEnv X scope s.heap.objs.size f c') (LamX.lamCx X A outer s H E scope f c').xe → PEm (LamX.lamCx X A outer s H E scope f c') (WF E) body mb)
    (hjk : j ≤ k := by decide) (hdb : (x == ("__debug__" : Str)) = false := by decide) : PEm X W (.Call (.Name x p) [.Lambda params body scope lpos] [] pos) (eLam n is mh mb) := by
  subst hq
  obtain ⟨g, fd, a, hm, hk, hb, run⟩ := F.ex
  constructor
  rintro pins s σ H Q I ⟨r, sm, h, hs, ss, wt⟩
  unfold eLam at wt
  split at wt
  case h_2 => exact wt.elim
  rename_i vs ec
  obtain ⟨ws, rl, pr⟩ := capt_ok ss ec
  refine wpAny_Call_Name_kw (ld_glob I hg hm ?_ hdb)
  refine PySem.W.callWith_K (h₀ := X.base) I.ok.mod.kin hk ?_ (by rfl) (by rfl)
  show wpAny _ _ (spliced ((false, eval (.Lambda params body scope lpos) X.env) :: backTo pos (starEach [] X.env))) _ _ s
  refine Calls.spliced_cons (LamX.lam_make2 I (TB _ hT) hcode (List.mem_map.mpr ⟨_, hT, rfl⟩) hu hs.tb hdef (L.has I.ok) fun f c' pm ctv H1 s1 I1 eN T1 hf hfn hfr hco => Calls.spliced_nil ⟨I1.kIn, ?_⟩)
  have kp := kp_ext (K := X.K) eN
  have po := post_ext hs eN T1
  have un {H2 : Hp} {s2 : Shared} (u : Un (frs X.stack) [] H1 H2 s1.heap s2.heap) : s2.heap.get? f = _ := u.keep f _ hf hfn hfr (fun z => nomatch z)
  have lp : LamP X.prog X.w X.K X.mg X.base X.stack s1 H1 (kl + 1) f c' (X.env.qual ++ "<lambda>") ws (fun vs h => mb (fillS is vs (List.replicate n none)) h) := by
    refine ⟨fun H2 s2 u => ⟨_, _, _, _, un u⟩, fun A outer s2 H2 Q2 E2 r2 h2 vs2 hr2 e2 u2 hc2 hs2 rl2 wt2 => ?_⟩
    obtain ⟨⟨oc, us, t, hoc, hdc, hvc⟩, _, _⟩ := e2.hok c' _ hc2
    refine PySem.W.kla_callFunE hr2.toRoom.depth (un u2) rfl L.co L.gen rfl ⟨c', oc, us, t, rfl, hoc, hdc, hvc⟩ ?_
    rw [hbind]
    refine wpAny_pure (wpAny_newFunctionEnv (fun y hy => (L.own y hy).2) (fun y hy => nomatch hy) (fun h₁ hns hsb => ?_) L.kind)
    have keep : ∀ b o, s2.heap.get? b = some o → h₁.get? b = some o := fun b o e => hsb.extBut b o (Nat.ne_of_lt (Heap.lt_size e)) (Heap.get?_push_of_some _ e)
    refine ⟨(e2.mod.nolimit.keeps fun b o e => (e2.bs b o e).1).fresh _ hsb, ?_⟩
    have J := LamX.lam_start2 (tk := s2.toks + ([] : List (Str × Value)).length) (E := E2) (f := f) (c' := c') I1 L e2 hr2.hd u2 hns keep
    have ssb : SS X.K X.mg r2 H2 (fillS is vs2 (List.replicate n none)) σ := fill_ok pr rl2 ⟨by rw [List.length_replicate, ← hn]; exact I.len.symm, fun i v e => by
      have := (List.mem_replicate.mp (List.mem_of_getElem? e)).2
      cases this⟩
    refine PySem.W.kla_codeExpr (wpAny_mono ((hbody A outer s2 H2 E2 f c' (hr2.deeper _) (takes_of rfl rfl rfl rfl) (passes_of rfl)).run [] _ σ H2 Q2 J ⟨r2, _, h2, hs2, ssb, wt2⟩) ?_ fun e s' z => z)
    rintro v s' ⟨y, H', J', ry, z⟩
    exact ⟨y, H', J'.os, J'.bare, J'.base, J'.hok, ry, z⟩
  refine wpAny_call (codeAny_mono (run X.A X.stack s1 H1 Q (fun c d H' => W c d σ H') f c' _ ws _ vs r h (hr.mono hjk) I1.env0 lp hco po.hs (RepL.mono kp (fun _ _ z => z) _ _ rl) ?_ (hb s1 [.ref f] I1.kIn rfl)) ?_)
  · exact Wt.post po wt
  · rintro (e | fl) s2 z
    · exact passAt tk σ pins H1 s1 e s2 I1 z
    · cases fl
      case ret v => exact I1.after z
      all_goals exact z.elim
end
end MP

/-! a def that tries what it got; what a law with lambdas asks of the written part -/
namespace MP
open PySem PySem.Spec PyProof.Rows L2
/-! ### try: x = a() / except C as e: y = e -/
/-- mk: what is made of a's answer, laid in slot j; i: the slot of y; l: that of e -/
def sTryL (mk : MV → MV) (act : MH → R MV) (j i l : Nat) (ins outs : List CP) : MS := fun s h => match act h with
  | .ok v h1 => .nx ((s.set 0 none).set j (some (mk v))) h1
  | .err e h1 => if ins.contains e.c then .nx ((((s.set 0 none).set l (some (excOf e))).set i (some (excOf e))).set l none) h1 else if outs.contains e.c then .err e (s.set 0 none) h1 else .stuck
  | .stuck => .stuck
open Classical in
/-- the statement runs if v is in slot 0 -/
noncomputable def guardS (v : MV) (m : MS) : MS := fun s h => if s[0]? = some (some v) then m s h else .stuck
theorem SS.forget {K : PySem.W.Frag} {mg : Str → Option Value} {r : List Addr} {H : Hp} {m : Sl} {s : L2.St} (y : SS K mg r H m s) (i : Nat) : SS K mg r H (m.set i none) s := by
  refine ⟨by rw [List.length_set]; exact y.len, fun j v e => ?_⟩
  by_cases hj : i = j
  · subst hj
    by_cases hl : i < m.length
    · rw [List.getElem?_set_self hl] at e; cases e
    · rw [List.getElem?_eq_none (by simpa using hl)] at e; cases e
  · rw [List.getElem?_set_ne hj] at e
    exact y.at_ j v e
section
variable {X : Cx} {W : WX}
theorem ms_tryL {st : Stmt} {mkE : ME → ME} {mk : MV → MV} {fl c : Addr} {q : Str} {ws : List V} {g : List MV → MH → R MV} {vs : List MV} {j i l : Nat} {ins outs : List CP} (h : PSm X W st (sTry (sAsg (mkE (eAct 0 fl c q ws g)) (gNm j)) l ins outs (sAsg (eVar l) (gNm i))))
    (hmk : ∀ (a : ME) (s : Sl) (h : MH), mkE a s h = (a s h).bind fun v h1 => .ok (mk v) h1) (hl : l < X.N.length) (hj : j ≠ 0 ∧ i ≠ 0 ∧ l ≠ 0 ∧ i ≠ l) : PSm X W st (guardS (.clo fl c q ws vs) (sTryL mk (g vs) j i l ins outs)) := by
  refine ⟨fun pins s σ H D I hh => h.run pins s σ H D I ?_⟩
  obtain ⟨r, sm, h0, hs, ss, w⟩ := hh
  have ll : l < sm.length := by rw [ss.len, I.len]; exact hl
  refine ⟨r, sm, h0, hs, ss, ?_⟩
  unfold guardS at w
  split at w
  case isFalse => exact w.elim
  rename_i e0
  have ea : eAct 0 fl c q ws g sm h0 = g vs h0 := by
    unfold eAct
    rw [e0]
    exact if_pos ⟨rfl, rfl, rfl, rfl⟩
  have eb : sAsg (mkE (eAct 0 fl c q ws g)) (gNm j) sm h0 = match g vs h0 with
      | .ok v h1 => .nx (sm.set j (some (mk v))) h1
      | .err e h1 => .err e sm h1
      | .stuck => .stuck := by
    unfold sAsg
    rw [hmk, ea]
    cases g vs h0 <;> rfl
  unfold sTry
  rw [eb]
  unfold sTryL at w
  cases eg : g vs h0 with
  | stuck => rw [eg] at w; exact w.elim
  | ok v h1 =>
    rw [eg] at w
    refine fun r' s' H' p y => w r' s' H' p ?_
    have z := y.forget 0
    rwa [List.set_comm _ _ hj.1] at z
  | err e h1 =>
    rw [eg] at w
    dsimp only at w ⊢
    have ev : sAsg (eVar l) (gNm i) (sm.set l (some (excOf e))) h1 = .nx ((sm.set l (some (excOf e))).set i (some (excOf e))) h1 := by
      unfold sAsg eVar
      rw [List.getElem?_set_self ll]
      rfl
    split at w
    · rename_i hin
      rw [if_pos hin, ev]
      refine fun r' s' H' p y => w r' s' H' p ?_
      have z := y.forget 0
      have hc : ((((sm.set 0 none).set l (some (excOf e))).set i (some (excOf e))).set l none) = ((((sm.set l (some (excOf e))).set i (some (excOf e))).set l none).set 0 none) := by
        rw [List.set_comm _ _ hj.2.2.1, List.set_comm _ _ hj.2.1, List.set_comm _ _ hj.2.2.1]
      rw [hc]
      exact z
    · rename_i hin
      rw [if_neg hin]
      split at w
      · rename_i hout
        rw [if_pos hout]
        exact fun r' s' H' cls d p y x => w r' s' H' cls d p (y.forget 0) x
      · exact w.elim
end
theorem mkL_ok (a : ME) (s : Sl) (h : MH) : eLstV (aCons a aNil) s h = (a s h).bind fun v h1 => .ok (.lv [v]) h1 := by
  unfold eLstV aCons aNil
  cases a s h <;> rfl
theorem mkI_ok (a : ME) (s : Sl) (h : MH) : a s h = (a s h).bind fun v h1 => .ok v h1 := by
  cases a s h <;> rfl
/-- the def's mirror does not hang on what the closure is -/
theorem hi_of {n : Nat} {s0 : MV → Sl} {a t rest : MS} {v : MV} (h : MH) (h0 : ∀ (x : MV) (h : MH), a (some x :: List.replicate (n - 1) none) h = .nx (s0 x) h) (hs : ∀ x, (s0 x)[0]? = some (some x)) (ht : ∀ (x x' : MV) (h : MH), t (s0 x) h = t (s0 x') h) :
    runFn n (sSeq a (sSeq t rest)) [.non] h = runFn n (sSeq a (sSeq (guardS v t) rest)) [v] h := by
  have e (m : MS) (x : MV) : sSeq a (sSeq m rest) ([x].map some ++ List.replicate (n - [x].length) none) h = sSeq m rest (s0 x) h := by
    show (match a (some x :: List.replicate (n - 1) none) h with | .nx s1 h1 => sSeq m rest s1 h1 | o => o) = _
    rw [h0]
  unfold runFn
  rw [e, e]
  have z : guardS v t (s0 v) h = t (s0 .non) h := by
    unfold guardS
    rw [if_pos (hs v)]
    exact ht _ _ _
  show (match (match t (s0 .non) h with | .nx s1 h1 => rest s1 h1 | o => o) with | .rt v h' => _ | .nx _ h' => _ | .err e _ h' => _ | _ => _) = match (match guardS v t (s0 v) h with | .nx s1 h1 => rest s1 h1 | o => o) with | .rt v h' => _ | .nx _ h' => _ | .err e _ h' => _ | _ => _
  rw [z]
/-! ### what is looked at in the written part -/
/-- the classes of the module that `except e` catches, and those that it lets pass -/
def caB (K : PySem.W.Frag) (p : CP × CP × Bool) : Bool := match clsAt K p.1, clsAt K p.2.1 with
  | some D, some E => decide (PySem.W.exmOne K (.ref D) (.ref E) = some p.2.2)
  | _, _ => false
structure CatX (K : PySem.W.Frag) (mg : Str → Option Value) (e : CP) (ins outs : List CP) : Prop where
  ex : ∃ D, mg (S e) = some (.ref D) ∧ Catch mg (fun cls => PySem.W.exmOne K cls (.ref D)) ins outs
/-- the same of `except (e, e2)` -/
structure CatX2 (K : PySem.W.Frag) (mg : Str → Option Value) (e e2 : CP) (ins outs : List CP) : Prop where
  ex : ∃ D D2, mg (S e) = some (.ref D) ∧ mg (S e2) = some (.ref D2) ∧ Catch mg (fun cls => PySem.W.exmAny K cls [.ref D, .ref D2]) ins outs
def caB2 (K : PySem.W.Frag) (e e2 : CP) (p : CP × Bool) : Bool := match clsAt K p.1, clsAt K e, clsAt K e2 with
  | some C, some D, some D2 => decide (PySem.W.exmAny K (.ref C) [.ref D, .ref D2] = some p.2)
  | _, _, _ => false
theorem caX2_ok {K : PySem.W.Frag} {mg : Str → Option Value} {h : Heap} (X : K.In h) (G : h.Ns mainGlobals mg) {e e2 : CP} {ins outs : List CP} (b : (clsAt K e).isSome = true) (b' : (clsAt K e2).isSome = true) (b1 : (ins.all fun k => caB2 K e e2 (k, true)) = true) (b2 : (outs.all fun k => caB2 K e e2 (k, false)) = true) : CatX2 K mg e e2 ins outs := by
  obtain ⟨D, hD⟩ := Option.isSome_iff_exists.mp b
  obtain ⟨D2, hD2⟩ := Option.isSome_iff_exists.mp b'
  have one {k : CP} {v : Bool} (z : caB2 K e e2 (k, v) = true) : ∃ C, mg (S k) = some (.ref C) ∧ PySem.W.exmAny K (.ref C) [.ref D, .ref D2] = some v := by
    unfold caB2 at z
    split at z
    · rename_i C E E2 h1 h2 h3
      cases (hD.symm.trans h2)
      cases (hD2.symm.trans h3)
      exact ⟨C, clsAt_ok X G h1, of_decide_eq_true z⟩
    · cases z
  exact ⟨D, D2, clsAt_ok X G hD, clsAt_ok X G hD2, fun k hk => one (List.all_eq_true.mp b1 k hk), fun k hk => one (List.all_eq_true.mp b2 k hk)⟩
theorem caX_ok {K : PySem.W.Frag} {mg : Str → Option Value} {h : Heap} (X : K.In h) (G : h.Ns mainGlobals mg) {e : CP} {ins outs : List CP} (b : (clsAt K e).isSome = true) (b1 : (ins.all fun k => caB K (k, e, true)) = true) (b2 : (outs.all fun k => caB K (k, e, false)) = true) : CatX K mg e ins outs := by
  obtain ⟨D, hD⟩ := Option.isSome_iff_exists.mp b
  have one {k : CP} {v : Bool} (z : caB K (k, e, v) = true) : ∃ C, mg (S k) = some (.ref C) ∧ PySem.W.exmOne K (.ref C) (.ref D) = some v := by
    unfold caB at z
    split at z
    · rename_i C E h1 h2
      cases (hD.symm.trans h2)
      exact ⟨C, clsAt_ok X G h1, of_decide_eq_true z⟩
    · cases z
  exact ⟨D, clsAt_ok X G hD, fun k hk => one (List.all_eq_true.mp b1 k hk), fun k hk => one (List.all_eq_true.mp b2 k hk)⟩
section
variable {X : Cx} {W : WX} {x n : Str} {i : Nat} {body suite : List Stmt} {b₀ : Stmt} {np pos pos' : Pos} {mb su : MS} {ins outs : List CP} {e : CP}
theorem ms_tryX (T : CatX X.K X.mg e ins outs) (hs : X.stack = X.env :: X.outer) (hf : X.env.frame = some X.env.locals) (hN : X.N.Nodup) (hi : X.N[i]? = some n) (hl : X.env.kindOf n = some .local) (hg : Gl X x) (tk : Takes X W)
    (hb : ∀ (W : WX) (pn : List (Addr × Obj)) (xe : Value → Shared → Prop), Takes (X.tr pn xe) W → PassesOwn (model X.prog X.w) X.A X.env xe → PSsm (X.tr pn xe) W body mb)
    (hsu : ∀ (a : Addr) (pn : List (Addr × Obj)), PSsm (X.suite a pn) (fun _ _ _ _ => False) (b₀ :: suite) su) (hx : x = S e := by decide +kernel) (hdb : (x == ("__debug__" : Str)) = false := by decide) :
    PSm X W (.Try body [.ExceptHandler (some (.Name x np)) (some n) (b₀ :: suite) pos'] [] [] pos) (sTry mb i ins outs su) := by
  obtain ⟨D, hm, C⟩ := T.ex
  subst hx
  exact ms_try hs hf hN hi hl (Fits.one ⟨hg, hdb, .inl hm⟩) tk C hb hsu
theorem ms_tryX2 {y : Str} {e2 : CP} {mp tp : Pos} {ctx : Nat} (T : CatX2 X.K X.mg e e2 ins outs) (hs : X.stack = X.env :: X.outer) (hf : X.env.frame = some X.env.locals) (hN : X.N.Nodup) (hi : X.N[i]? = some n) (hl : X.env.kindOf n = some .local) (hg : Gl X x) (hg2 : Gl X y) (tk : Takes X W)
    (hb : ∀ (W : WX) (pn : List (Addr × Obj)) (xe : Value → Shared → Prop), Takes (X.tr pn xe) W → PassesOwn (model X.prog X.w) X.A X.env xe → PSsm (X.tr pn xe) W body mb)
    (hsu : ∀ (a : Addr) (pn : List (Addr × Obj)), PSsm (X.suite a pn) (fun _ _ _ _ => False) (b₀ :: suite) su) (hx : x = S e := by decide +kernel) (hy : y = S e2 := by decide +kernel) (hdb : (x == ("__debug__" : Str)) = false := by decide) (hdb2 : (y == ("__debug__" : Str)) = false := by decide) :
    PSm X W (.Try body [.ExceptHandler (some (.Tuple [.Name x np, .Name y mp] ctx tp)) (some n) (b₀ :: suite) pos'] [] [] pos) (sTry mb i ins outs su) := by
  obtain ⟨D, D2, hm, hm2, C⟩ := T.ex
  subst hx hy
  exact ms_try hs hf hN hi hl (Fits.two ⟨hg, hdb, .inl hm⟩ ⟨hg2, hdb2, .inl hm2⟩) tk C hb hsu
end
/-- the makers of lambdas: a def, the name of its lambdas -/
def mkB (K : PySem.W.Frag) (p : He.Defn × Str) : Bool := ((tabs3 K).any fun z => z.1 == He.codeOf K p.1 && (z.2.1 == (He.cT K p.1).2 && decide (z.2.2 = p.2))) && (tabsK K).all fun z => z.1 != (He.cT K p.1).2 || decide (z.2 = p.2)
structure MkK (K : PySem.W.Frag) (p : He.Defn) (q : Str) : Prop where
  mem : (He.codeOf K p, (He.cT K p).2, q) ∈ tabs3 K
  uni : ∀ z ∈ tabsK K, z.1 = (He.cT K p).2 → z.2 = q
theorem mkB_ok {K : PySem.W.Frag} {p : He.Defn} {q : Str} (b : mkB K (p, q) = true) : MkK K p q := by
  unfold mkB at b
  rw [Bool.and_eq_true] at b
  refine ⟨?_, fun z hz e => ?_⟩
  · obtain ⟨z, hz, e⟩ := List.any_eq_true.mp b.1
    simp only [Bool.and_eq_true, beq_iff_eq, decide_eq_true_eq] at e
    obtain ⟨z1, z2, z3⟩ := z
    obtain ⟨rfl, rfl, rfl⟩ := e
    exact hz
  · have w := List.all_eq_true.mp b.2 z hz
    simp only [Bool.or_eq_true, bne_iff_ne, ne_eq, decide_eq_true_eq] at w
    exact w.resolve_left (fun n => n e)
theorem code_is {K : PySem.W.Frag} {x qual : Str} {params : Arguments} {body : List Stmt} {scope : Scope} {dvs : List V} {kws : List (Str × V)} {p : He.Defn} {fd : FuncData} {cdv : Value} (F : FunD K x qual params body scope dvs kws (He.fAd K p) fd) (e : fd.code = cdv) : cdv = .ref (He.codeOf K p) := by
  obtain ⟨oc, od, dV, kV, doc, pm, an, cd, ct, osl, rfl, lk, hcd, _, _⟩ := F.ex
  obtain ⟨c, rfl⟩ := He.codeIn_ref hcd
  rw [He.codeOf_eq lk rfl, ← e]
/-! ### the look, with the tables -/
def tabsD (g : Addr → Option Obj) (K : PySem.W.Frag) : Bool := (tabA K).all fun a => match g a with
  | some o => He.emptyTab o
  | none => false
theorem tabsD_ok {h : Heap} {K : PySem.W.Frag} (b : tabsD h.get? K = true) : ∀ a ∈ tabA K, h.get? a = some tabO := fun a ha => by
  have z := List.all_eq_true.mp b a ha
  split at z
  · rename_i o e
    rw [e, He.emptyTab_eq z]
  · cases z
structure SaysE (fa : List He.Fa) (fn : List He.DefD) (ex : PySem.W.Frag → Bool) (w : World) (h : Heap) (K : PySem.W.Frag) : Prop where
  t : He.SaysT fa fn [] w K
  more : ex K = true
  tabs : ∀ a ∈ tabA K, h.get? a = some tabO
def obsE (n : Nat) (fa : List He.Fa) (fn : List He.DefD) (ex : PySem.W.Frag → Bool) (g : Addr → Option Obj) : AlC := (He.obsT fa fn [] (frC n g), ex (frC n g) && tabsD g (frC n g))
def hookE (n : Nat) (fa : List He.Fa) (fn : List He.DefD) (ex : PySem.W.Frag → Bool) : PySem.W.Hook where
  α := AlC
  obs s := obsE n fa fn ex s.heap.get?
  val w := (He.valT fn [] w, true)
  says w h := ∃ K : PySem.W.Frag, K.In h ∧ SaysE fa fn ex w h K
  of _ _ e := by
    have b := (Bool.and_eq_true _ _).mp (congrArg Prod.snd e)
    exact ⟨_, He.frT_in, congrArg Prod.fst e, b.1, tabsD_ok b.2⟩
  keeps _ _ _ z k := z.elim fun K c => ⟨K, c.1.keeps k, c.2.t, c.2.more, fun a ha => k _ _ (c.2.tabs a ha)⟩
theorem obsE_eq {n : Nat} {fa : List He.Fa} {fn : List He.DefD} {ex : PySem.W.Frag → Bool} {g : Addr → Option Obj} {s : Shared} (h : ∀ a, g a = s.heap.get? a) : obsE n fa fn ex g = (hookE n fa fn ex).obs s := by
  cases (funext h : g = s.heap.get?)
  rfl
end MP

/-! the program's mirrors, as all laws have them -/
namespace MP.Pr
open MP
def v_ALWAYS : MV := (.str [97, 108, 119, 97, 121, 115])
def v_FREE : MV := (.str [102, 114, 101, 101])
def v_NEVER : MV := (.str [110, 101, 118, 101, 114])
def v_APART : MV := (.str [97, 112, 97, 114, 116])
def v_SAME : MV := (.str [115, 97, 109, 101])
def v_NONE : MV := (.str [110, 111, 110, 101])
def v_OWN : MV := (.str [111, 119, 110])
def v_ANY : MV := (.str [97, 110, 121])
def v_ONE : MV := (.str [111, 110, 101])
def v_AT_LINES : MV := (.str [108, 105, 110, 101])
def v_CHOICES : MV := (.tup [(.tup [(.str [97, 108, 119, 97, 121, 115]), (.str [102, 114, 101, 101]), (.str [110, 101, 118, 101, 114])]), (.tup [(.str [97, 108, 119, 97, 121, 115]), (.str [97, 112, 97, 114, 116]), (.str [110, 101, 118, 101, 114])]), (.tup [(.str [115, 97, 109, 101]), (.str [110, 111, 110, 101])]), (.tup [(.str [111, 119, 110]), (.str [97, 110, 121]), (.str [110, 101, 118, 101, 114])]), (.tup [(.str [111, 119, 110]), (.str [97, 110, 121]), (.str [111, 110, 101])]), (.tup [(.str [110, 101, 118, 101, 114]), (.str [108, 105, 110, 101])])])
def v_OPENERS : MV := (.str [40, 91])
def v_CLOSERS : MV := (.str [41, 93])
def v_QUOTE : MV := (.str [39])
def v_BLANK : MV := (.str [32])
def v_LINE : MV := (.str [47])
def v_LETTERS : MV := (.str [97, 98, 99, 100, 101, 102, 103, 104, 105, 106, 107, 108, 109, 110, 111, 112, 113, 114, 115, 116, 117, 118, 119, 120, 121, 122])
def v_SIGNS : MV := (.str [40, 91, 41, 93, 39, 32, 47, 97, 98, 99, 100, 101, 102, 103, 104, 105, 106, 107, 108, 109, 110, 111, 112, 113, 114, 115, 116, 117, 118, 119, 120, 121, 122])
def v_MOST_TEXT : MV := (.int 200)
def v_BACK : MV := (.str [98, 97, 99, 107])
def v_RIGHT : MV := (.str [114, 105, 103, 104, 116])
def v_END : MV := (.str [101, 110, 100])
def v_MOST_KEYS : MV := (.int 400)
abbrev n_Page : CP := [80, 97, 103, 101]
abbrev x___init__ : CP := [95, 95, 105, 110, 105, 116, 95, 95]
abbrev x_does_put : CP := [100, 111, 101, 115, 95, 112, 117, 116]
abbrev x_go_back : CP := [103, 111, 95, 98, 97, 99, 107]
abbrev x_go_over : CP := [103, 111, 95, 111, 118, 101, 114]
abbrev x_is_next_own : CP := [105, 115, 95, 110, 101, 120, 116, 95, 111, 119, 110]
abbrev x_next_sign : CP := [110, 101, 120, 116, 95, 115, 105, 103, 110]
abbrev x_press : CP := [112, 114, 101, 115, 115]
abbrev x_right_text : CP := [114, 105, 103, 104, 116, 95, 116, 101, 120, 116]
abbrev x_told : CP := [116, 111, 108, 100]
abbrev x_type_sign : CP := [116, 121, 112, 101, 95, 115, 105, 103, 110]
abbrev f_left : CP := [108, 101, 102, 116]
abbrev f_right : CP := [114, 105, 103, 104, 116]
def b_need_book : MS := sSeq (sIf (tOrM (tNotM (tVal (eBlt mIsi (aCons (eVar 0) (aCons (eC (.ty .tuple)) (aNil)))))) (tCmp mNe (eBlt mLen (aCons (eVar 0) (aNil))) (eBlt mLen (aCons (eC v_CHOICES) (aNil))))) (sNever) (sNil)) (sSeq (sFor (jEnum (aCons (eVar 0) (aNil))) (gTp 2 (gC (gNm 1) (gC (gNm 2) (gN)))) (sIf (tOrM (tNotM (tVal (eBlt mIsi (aCons (eVar 2) (aCons (eC (.ty .str)) (aNil)))))) (tCmp mNotIn (eVar 2) (eOp mIx (eC v_CHOICES) (eVar 1)))) (sNever) (sNil))) (sRet (eVar 0)))
def m_need_book : MF := runFn 3 b_need_book
def b_is_text : MS := sRet (eAnd (eBlt mIsi (aCons (eVar 0) (aCons (eC (.ty .str)) (aNil)))) (eAnd (eOp mLe (eBlt mLen (aCons (eVar 0) (aNil))) (eC v_MOST_TEXT)) (eBlt mAll (aCons (eLv (jSeq (eVar 0)) [1] (.one 1) (tYesM) (eOp mIn (eVar 1) (eC v_SIGNS))) (aNil)))))
def m_is_text : MF := runFn 2 b_is_text
def b_is_closing : MS := sRet (eAnd (eOp mNe (eVar 0) (eC (.str []))) (eOp mIn (eVar 0) (eOp mAddV (eC v_CLOSERS) (eC v_QUOTE))))
def m_is_closing : MF := runFn 1 b_is_closing
def b_is_place_in : MS := sSeq (sIf (tOrM (tNotM (tVal (eBlt mIsi (aCons (eVar 0) (aCons (eC (.ty .int)) (aNil)))))) (tOrM (tVal (eBlt mIsi (aCons (eVar 0) (aCons (eC (.ty .bool)) (aNil))))) (tNotM (tB (eChain mLe mLt (eC (.int 0)) (eVar 0) (eBlt mLen (aCons (eVar 1) (aNil)))))))) (sRet (eC (.bl false))) (sNil)) (sRet (eCall 1 m_is_closing (aCons (eOp mIx (eVar 1) (eVar 0)) (aNil))))
def m_is_place_in : MF := runFn 2 b_is_place_in
def b_is_page : MS := sSeq (sIf (tOrM (tNotM (tVal (eBlt mIsi (aCons (eVar 0) (aCons (eC (.ty .tuple)) (aNil)))))) (tOrM (tCmp mNe (eBlt mLen (aCons (eVar 0) (aNil))) (eC (.int 3))) (tOrM (tNotM (tVal (eCall 1 m_is_text (aCons (eOp mIx (eVar 0) (eC (.int 0))) (aNil))))) (tNotM (tVal (eCall 1 m_is_text (aCons (eOp mIx (eVar 0) (eC (.int 1))) (aNil)))))))) (sRet (eC (.bl false))) (sNil)) (sSeq (sIf (tOrM (tNotM (tVal (eBlt mIsi (aCons (eOp mIx (eVar 0) (eC (.int 2))) (aCons (eC (.ty .tuple)) (aNil)))))) (tNotM (tVal (eBlt mAll (aCons (eLv (jSeq (eOp mIx (eVar 0) (eC (.int 2)))) [3] (.one 3) (tYesM) (eCall 2 m_is_place_in (aCons (eVar 3) (aCons (eOp mIx (eVar 0) (eC (.int 1))) (aNil))))) (aNil)))))) (sRet (eC (.bl false))) (sNil)) (sRet (eBlt mAll (aCons (eLv (jZip (aCons (eOp mIx (eVar 0) (eC (.int 2))) (aCons (eCutV (eOp mIx (eVar 0) (eC (.int 2))) (pSo (eC (.int 1))) (pNo)) (aNil)))) [1, 2] (.row [1, 2]) (tYesM) (eOp mLt (eVar 1) (eVar 2))) (aNil)))))
def m_is_page : MF := runFn 4 b_is_page
def b_need_page : MS := sIf (tNotM (tVal (eCall 1 m_is_page (aCons (eVar 0) (aNil))))) (sNever) (sNil)
def m_need_page : MF := runFn 1 b_need_page
def b_is_sign : MS := sRet (eAnd (eBlt mIsi (aCons (eVar 0) (aCons (eC (.ty .str)) (aNil)))) (eAnd (eOp mEq (eBlt mLen (aCons (eVar 0) (aNil))) (eC (.int 1))) (eOp mIn (eVar 0) (eC v_SIGNS))))
def m_is_sign : MF := runFn 1 b_is_sign
def b_is_key : MS := sRet (eOr (eCall 1 m_is_sign (aCons (eVar 0) (aNil))) (eAnd (eBlt mIsi (aCons (eVar 0) (aCons (eC (.ty .str)) (aNil)))) (eOp mIn (eVar 0) (eTup (aCons (eC v_BACK) (aCons (eC v_RIGHT) (aCons (eC v_END) (aNil))))))))
def m_is_key : MF := runFn 1 b_is_key
def b_need_keys : MS := sSeq (sIf (tOrM (tNotM (tVal (eBlt mIsi (aCons (eVar 0) (aCons (eC (.ty .tuple)) (aNil)))))) (tCmp mGt (eBlt mLen (aCons (eVar 0) (aNil))) (eC v_MOST_KEYS))) (sNever) (sNil)) (sFor (jEnum (aCons (eVar 0) (aNil))) (gTp 2 (gC (gNm 1) (gC (gNm 2) (gN)))) (sIf (tNotM (tVal (eCall 1 m_is_key (aCons (eVar 2) (aNil))))) (sNever) (sNil)))
def m_need_keys : MF := runFn 3 b_need_keys
def b_closer_of : MS := sSeq (sIf (tCmp mEq (eVar 0) (eC v_QUOTE)) (sRet (eC v_QUOTE)) (sNil)) (sRet (eIf (tAndM (tCmp mNe (eVar 0) (eC (.str []))) (tCmp mIn (eVar 0) (eC v_OPENERS))) (eOp mIx (eC v_CLOSERS) (eBm .str mIndexS (eC v_OPENERS) (aCons (eVar 0) (aNil)))) (eC (.str []))))
def m_closer_of : MF := runFn 1 b_closer_of
def b_Page_next_sign : MS := sRet (eIf (tCmp mNe (eFld [n_Page] f_right (eVar 0)) (eLstV (aNil))) (eOp mIx (eOp mIx (eFld [n_Page] f_right (eVar 0)) (eNeg (eC (.int 1)))) (eC (.int 0))) (eC (.str [])))
def m_Page_next_sign : MF := runFn 1 b_Page_next_sign
def b_Page_is_next_own : MS := sRet (eAnd (eOp mNe (eFld [n_Page] f_right (eVar 0)) (eLstV (aNil))) (eOp mIx (eOp mIx (eFld [n_Page] f_right (eVar 0)) (eNeg (eC (.int 1)))) (eC (.int 1))))
def m_Page_is_next_own : MF := runFn 1 b_Page_is_next_own
def b_Page_go_back : MS := sIf (tCmp mNe (eFld [n_Page] f_left (eVar 0)) (eC (.str []))) (sSeq (sAsg (eCall 1 m_closer_of (aCons (eOp mIx (eFld [n_Page] f_left (eVar 0)) (eNeg (eC (.int 1)))) (aNil))) (gNm 2)) (sSeq (sFldM [n_Page] f_left (eVar 0) (eCutV (eFld [n_Page] f_left (eVar 0)) (pNo) (pSo (eNeg (eC (.int 1)))))) (sSeq (sAsg (eAnd (eOp mNe (eVar 2) (eC (.str []))) (eOp mEq (eMeth n_Page x_next_sign 1 m_Page_next_sign (eVar 0) aNil) (eVar 2))) (gNm 3)) (sIf (tAndM (tVal (eVar 3)) (tOrM (tCmp mEq (eOp mIx (eVar 1) (eC (.int 4))) (eC v_ANY)) (tAndM (tCmp mEq (eOp mIx (eVar 1) (eC (.int 4))) (eC v_OWN)) (tVal (eMeth n_Page x_is_next_own 1 m_Page_is_next_own (eVar 0) aNil))))) (sExpr (eBm .list mPop (eFld [n_Page] f_right (eVar 0)) aNil)) (sNil))))) (sNil)
def m_Page_go_back : MF := runFn 4 b_Page_go_back
def b_Page_go_over : MS := sIf (tCmp mNe (eFld [n_Page] f_right (eVar 0)) (eLstV (aNil))) (sFldAug [n_Page] f_left mIAdd (eVar 0) (eOp mIx (eBm .list mPop (eFld [n_Page] f_right (eVar 0)) aNil) (eC (.int 0)))) (sNil)
def m_Page_go_over : MF := runFn 1 b_Page_go_over
def b_is_within : MS := sSeq (sAsg (eBm .str mCount (eCutV (eVar 0) (pSo (eOp mAddV (eBm .str mRfind (eVar 0) (aCons (eC v_LINE) (aNil))) (eC (.int 1)))) (pNo)) (aCons (eC v_QUOTE) (aNil))) (gNm 1)) (sRet (eOp mEq (eOp mSub (eVar 1) (eOp mMulV (eC (.int 2)) (eOp mFdiv (eVar 1) (eC (.int 2))))) (eC (.int 1))))
def m_is_within : MF := runFn 2 b_is_within
def b_is_free : MS := sRet (eOr (eOp mEq (eVar 0) (eC (.str []))) (eOp mIn (eVar 0) (eOp mAddV (eOp mAddV (eOp mAddV (eC v_CLOSERS) (eC v_QUOTE)) (eC v_BLANK)) (eC v_LINE))))
def m_is_free : MF := runFn 1 b_is_free
def b_is_letter : MS := sRet (eAnd (eOp mNe (eVar 0) (eC (.str []))) (eOp mIn (eVar 0) (eC v_LETTERS)))
def m_is_letter : MF := runFn 1 b_is_letter
def b_Page_does_put : MS := sSeq (sIf (tAndM (tCmp mNe (eOp mIx (eVar 1) (eC (.int 2))) (eC v_SAME)) (tVal (eCall 1 m_is_within (aCons (eFld [n_Page] f_left (eVar 0)) (aNil))))) (sRet (eC (.bl false))) (sNil)) (sSeq (sIf (tCmp mIn (eVar 2) (eC v_OPENERS)) (sRet (eOr (eOp mEq (eOp mIx (eVar 1) (eC (.int 0))) (eC v_ALWAYS)) (eAnd (eOp mEq (eOp mIx (eVar 1) (eC (.int 0))) (eC v_FREE)) (eCall 1 m_is_free (aCons (eMeth n_Page x_next_sign 1 m_Page_next_sign (eVar 0) aNil) (aNil)))))) (sNil)) (sSeq (sIf (tCmp mNe (eOp mIx (eVar 1) (eC (.int 1))) (eC v_APART)) (sRet (eOp mEq (eOp mIx (eVar 1) (eC (.int 1))) (eC v_ALWAYS))) (sNil)) (sSeq (sAsg (eCutV (eFld [n_Page] f_left (eVar 0)) (pSo (eNeg (eC (.int 1)))) (pNo)) (gNm 3)) (sRet (eAnd (eCall 1 m_is_free (aCons (eMeth n_Page x_next_sign 1 m_Page_next_sign (eVar 0) aNil) (aNil))) (eAnd (eNot (eCall 1 m_is_letter (aCons (eVar 3) (aNil)))) (eOp mNe (eVar 3) (eC v_QUOTE))))))))
def m_Page_does_put : MF := runFn 4 b_Page_does_put
def b_Page_type_sign : MS := sSeq (sAsg (eAnd (eCall 1 m_is_closing (aCons (eVar 2) (aNil))) (eOp mEq (eMeth n_Page x_next_sign 1 m_Page_next_sign (eVar 0) aNil) (eVar 2))) (gNm 3)) (sSeq (sIf (tAndM (tVal (eVar 3)) (tOrM (tCmp mEq (eOp mIx (eVar 1) (eC (.int 3))) (eC v_ANY)) (tAndM (tCmp mEq (eOp mIx (eVar 1) (eC (.int 3))) (eC v_OWN)) (tVal (eMeth n_Page x_is_next_own 1 m_Page_is_next_own (eVar 0) aNil))))) (sSeq (sExpr (eMeth n_Page x_go_over 1 m_Page_go_over (eVar 0) aNil)) (sRetN)) (sNil)) (sSeq (sAsg (eCall 1 m_closer_of (aCons (eVar 2) (aNil))) (gNm 4)) (sSeq (sAsg (eAnd (eOp mNe (eVar 4) (eC (.str []))) (eMeth n_Page x_does_put 3 m_Page_does_put (eVar 0) (aCons (eVar 1) (aCons (eVar 2) (aNil))))) (gNm 5)) (sSeq (sFldAug [n_Page] f_left mIAdd (eVar 0) (eVar 2)) (sSeq (sIf (tVal (eVar 5)) (sExpr (eBm .list mAppend (eFld [n_Page] f_right (eVar 0)) (aCons (eTup (aCons (eVar 4) (aCons (eC (.bl true)) (aNil)))) (aNil)))) (sNil)) (sIf (tAndM (tCmp mEq (eVar 2) (eC v_LINE)) (tCmp mEq (eOp mIx (eVar 1) (eC (.int 5))) (eC v_AT_LINES))) (sFldM [n_Page] f_right (eVar 0) (eLc (jSeq (eFld [n_Page] f_right (eVar 0))) [6, 7] (.row [6, 7]) (tYesM) (eTup (aCons (eVar 6) (aCons (eC (.bl false)) (aNil)))))) (sNil)))))))
def m_Page_type_sign : MF := runFn 8 b_Page_type_sign
def b_Page_press : MS := sIf (tCmp mEq (eVar 2) (eC v_BACK)) (sExpr (eMeth n_Page x_go_back 2 m_Page_go_back (eVar 0) (aCons (eVar 1) (aNil)))) (sIf (tCmp mEq (eVar 2) (eC v_RIGHT)) (sExpr (eMeth n_Page x_go_over 1 m_Page_go_over (eVar 0) aNil)) (sIf (tCmp mEq (eVar 2) (eC v_END)) (sWhile (tVal (eMeth n_Page x_is_next_own 1 m_Page_is_next_own (eVar 0) aNil)) (sExpr (eMeth n_Page x_go_over 1 m_Page_go_over (eVar 0) aNil))) (sExpr (eMeth n_Page x_type_sign 3 m_Page_type_sign (eVar 0) (aCons (eVar 1) (aCons (eVar 2) (aNil)))))))
def m_Page_press : MF := runFn 3 b_Page_press
def b_Page_right_text : MS := sRet (eBm .str mJoin (eC (.str [])) (aCons (eLv (jSeq (eRevV (eFld [n_Page] f_right (eVar 0)))) [1, 2] (.row [1, 2]) (tYesM) (eVar 1)) (aNil)))
def m_Page_right_text : MF := runFn 3 b_Page_right_text
def b_Page_told : MS := sSeq (sAsg (eBlt mTuple (aCons (eLv (jEnum (aCons (eRevV (eFld [n_Page] f_right (eVar 0))) (aNil))) [2, 3] (.row [2, 3]) (tVal (eOp mIx (eVar 3) (eC (.int 1)))) (eVar 2)) (aNil))) (gNm 1)) (sRet (eTup (aCons (eFld [n_Page] f_left (eVar 0)) (aCons (eMeth n_Page x_right_text 1 m_Page_right_text (eVar 0) aNil) (aCons (eVar 1) (aNil))))))
def m_Page_told : MF := runFn 4 b_Page_told
def b_Page___init__ : MS := sSeq (sFldM [n_Page] f_left (eVar 0) (eOp mIx (eVar 1) (eC (.int 0)))) (sFldM [n_Page] f_right (eVar 0) (eRev (eLv (jEnum (aCons (eOp mIx (eVar 1) (eC (.int 1))) (aNil))) [2, 3] (.row [2, 3]) (tYesM) (eTup (aCons (eVar 3) (aCons (eOp mIn (eVar 2) (eOp mIx (eVar 1) (eC (.int 2)))) (aNil)))))))
def m_Page___init__ : MF := runFn 4 b_Page___init__
def b_pressed : MS := sSeq (sExpr (eCall 1 m_need_book (aCons (eVar 0) (aNil)))) (sSeq (sExpr (eCall 1 m_need_page (aCons (eVar 1) (aNil)))) (sSeq (sExpr (eCall 1 m_need_keys (aCons (eVar 2) (aNil)))) (sSeq (sAsg (eMake n_Page 2 m_Page___init__ (aCons (eVar 1) (aNil))) (gNm 3)) (sSeq (sFor (jSeq (eVar 2)) (gNm 4) (sExpr (eMeth n_Page x_press 3 m_Page_press (eVar 3) (aCons (eVar 0) (aCons (eVar 4) (aNil)))))) (sRet (eMeth n_Page x_told 1 m_Page_told (eVar 3) aNil))))))
def m_pressed : MF := runFn 5 b_pressed
abbrev n_Reading : CP := [82, 101, 97, 100, 105, 110, 103]
abbrev x_can_read : CP := [99, 97, 110, 95, 114, 101, 97, 100]
abbrev x_is_quoted : CP := [105, 115, 95, 113, 117, 111, 116, 101, 100]
abbrev x_read : CP := [114, 101, 97, 100]
abbrev f_before : CP := [98, 101, 102, 111, 114, 101]
abbrev f_has_words : CP := [104, 97, 115, 95, 119, 111, 114, 100, 115]
abbrev f_is_open : CP := [105, 115, 95, 111, 112, 101, 110]
abbrev f_needs : CP := [110, 101, 101, 100, 115]
def b_need_manner : MS := sSeq (sIf (tOrM (tNotM (tVal (eBlt mIsi (aCons (eVar 0) (aCons (eC (.ty .tuple)) (aNil)))))) (tOrM (tCmp mNe (eBlt mLen (aCons (eVar 0) (aNil))) (eC (.int 3))) (tNotM (tVal (eBlt mAll (aCons (eLv (jSeq (eVar 0)) [1] (.one 1) (tYesM) (eBlt mIsi (aCons (eVar 1) (aCons (eC (.ty .bool)) (aNil))))) (aNil))))))) (sNever) (sNil)) (sRet (eVar 0))
def m_need_manner : MF := runFn 2 b_need_manner
def b_need_text : MS := sSeq (sIf (tOrM (tNotM (tVal (eBlt mIsi (aCons (eVar 0) (aCons (eC (.ty .str)) (aNil)))))) (tCmp mGt (eBlt mLen (aCons (eVar 0) (aNil))) (eC v_MOST_TEXT))) (sNever) (sNil)) (sFor (jEnum (aCons (eVar 0) (aNil))) (gTp 2 (gC (gNm 1) (gC (gNm 2) (gN)))) (sIf (tCmp mNotIn (eVar 2) (eC v_SIGNS)) (sNever) (sNil)))
def m_need_text : MF := runFn 3 b_need_text
def b_need_behind : MS := sSeq (sExpr (eCall 1 m_need_text (aCons (eVar 1) (aNil)))) (sIf (tAndM (tCmp mNe (eVar 1) (eC (.str []))) (tNotM (tVal (eOp mIx (eVar 0) (eC (.int 2)))))) (sNever) (sNil))
def m_need_behind : MF := runFn 2 b_need_behind
def b_Reading_is_quoted : MS := sRet (eOp mEq (eCutV (eFld [n_Reading] f_needs (eVar 0)) (pSo (eNeg (eC (.int 1)))) (pNo)) (eC v_QUOTE))
def m_Reading_is_quoted : MF := runFn 1 b_Reading_is_quoted
def b_Reading_can_read : MS := sSeq (sIf (tVal (eMeth n_Reading x_is_quoted 1 m_Reading_is_quoted (eVar 0) aNil)) (sRet (eOp mNe (eVar 1) (eC v_LINE))) (sNil)) (sSeq (sIf (tVal (eFld [n_Reading] f_is_open (eVar 0))) (sRet (eCall 1 m_is_letter (aCons (eVar 1) (aNil)))) (sNil)) (sRet (eOr (eOp mNotIn (eVar 1) (eC v_CLOSERS)) (eOp mEq (eCutV (eFld [n_Reading] f_needs (eVar 0)) (pSo (eNeg (eC (.int 1)))) (pNo)) (eVar 1)))))
def m_Reading_can_read : MF := runFn 2 b_Reading_can_read
def b_Reading_read : MS := sSeq (sIf (tVal (eMeth n_Reading x_is_quoted 1 m_Reading_is_quoted (eVar 0) aNil)) (sIf (tCmp mEq (eVar 1) (eC v_QUOTE)) (sFldM [n_Reading] f_needs (eVar 0) (eCutV (eFld [n_Reading] f_needs (eVar 0)) (pNo) (pSo (eNeg (eC (.int 1)))))) (sNil)) (sIf (tAndM (tCmp mEq (eVar 1) (eC v_QUOTE)) (tAndM (tVal (eFld [n_Reading] f_has_words (eVar 0))) (tVal (eCall 1 m_is_letter (aCons (eFld [n_Reading] f_before (eVar 0)) (aNil)))))) (sFldM [n_Reading] f_is_open (eVar 0) (eC (.bl true))) (sSeq (sFldM [n_Reading] f_is_open (eVar 0) (eC (.bl false))) (sIf (tCmp mIn (eVar 1) (eOp mAddV (eC v_OPENERS) (eC v_QUOTE))) (sFldAug [n_Reading] f_needs mIAdd (eVar 0) (eCall 1 m_closer_of (aCons (eVar 1) (aNil)))) (sIf (tCmp mIn (eVar 1) (eC v_CLOSERS)) (sFldM [n_Reading] f_needs (eVar 0) (eCutV (eFld [n_Reading] f_needs (eVar 0)) (pNo) (pSo (eNeg (eC (.int 1)))))) (sNil)))))) (sFldM [n_Reading] f_before (eVar 0) (eVar 1))
def m_Reading_read : MF := runFn 2 b_Reading_read
def b_is_whole : MS := sRet (eAnd (eOp mEq (eFld [n_Reading] f_needs (eVar 0)) (eC (.str []))) (eNot (eFld [n_Reading] f_is_open (eVar 0))))
def m_is_whole : MF := runFn 1 b_is_whole
def b_Reading___init__ : MS := sSeq (sFldM [n_Reading] f_has_words (eVar 0) (eVar 1)) (sSeq (sFldM [n_Reading] f_needs (eVar 0) (eC (.str []))) (sSeq (sFldM [n_Reading] f_before (eVar 0) (eC (.str []))) (sFldM [n_Reading] f_is_open (eVar 0) (eC (.bl false)))))
def m_Reading___init__ : MF := runFn 2 b_Reading___init__
def b_typed_in : MS := sSeq (sPar3 2 3 4 (aCons (eMake n_Reading 2 m_Reading___init__ (aCons (eOp mIx (eVar 0) (eC (.int 1))) (aNil))) (aCons (eC (.str [])) (aCons (eC (.int 0)) (aNil))))) (sSeq (sWhile (tCmp mLt (eVar 4) (eBlt mLen (aCons (eVar 1) (aNil)))) (sSeq (sPar 5 6 (aCons (eOp mIx (eVar 1) (eVar 4)) (aCons (eOp mEq (eCutV (eVar 1) (pSo (eOp mAddV (eVar 4) (eC (.int 1)))) (pSo (eOp mAddV (eVar 4) (eC (.int 2))))) (eTup (aCons (eC v_BACK) (aNil)))) (aNil)))) (sSeq (sIf (tOrM (tNotM (tVal (eCall 1 m_is_sign (aCons (eVar 5) (aNil))))) (tAndM (tVal (eVar 6)) (tNotM (tVal (eOp mIx (eVar 0) (eC (.int 0))))))) (sRet (eTup (aCons (eVar 3) (aCons (eIf (tNotM (tVal (eCall 1 m_is_sign (aCons (eVar 5) (aNil))))) (eVar 4) (eOp mAddV (eVar 4) (eC (.int 1)))) (aNil))))) (sNil)) (sSeq (sIf (tAndM (tNotM (tVal (eVar 6))) (tNotM (tVal (eMeth n_Reading x_can_read 2 m_Reading_can_read (eVar 2) (aCons (eVar 5) (aNil)))))) (sRet (eTup (aCons (eVar 3) (aCons (eVar 4) (aNil))))) (sNil)) (sSeq (sIf (tNotM (tVal (eVar 6))) (sSeq (sExpr (eMeth n_Reading x_read 2 m_Reading_read (eVar 2) (aCons (eVar 5) (aNil)))) (sAug 3 mIAdd (eVar 5))) (sNil)) (sAug 4 mIAdd (eIf (tVal (eVar 6)) (eC (.int 2)) (eC (.int 1))))))))) (sRet (eTup (aCons (eVar 3) (aCons (eIf (tVal (eCall 1 m_is_whole (aCons (eVar 2) (aNil)))) (eC .non) (eBlt mLen (aCons (eVar 1) (aNil)))) (aNil))))))
def m_typed_in : MF := runFn 7 b_typed_in
def b_typed : MS := sSeq (sExpr (eCall 1 m_need_manner (aCons (eVar 0) (aNil)))) (sSeq (sExpr (eCall 1 m_need_keys (aCons (eVar 1) (aNil)))) (sSeq (sAsg (eCall 2 m_typed_in (aCons (eVar 0) (aCons (eVar 1) (aNil)))) (gTp 2 (gC (gNm 2) (gC (gNm 3) (gN))))) (sSeq (sIf (tCmp mIsNot (eVar 3) (eC .non)) (sNever) (sNil)) (sRet (eVar 2)))))
def m_typed : MF := runFn 4 b_typed
def b_behind_all : MS := sSeq (sAsg (eMake n_Page 2 m_Page___init__ (aCons (eTup (aCons (eC (.str [])) (aCons (eVar 1) (aCons (eTup (aNil)) (aNil))))) (aNil))) (gNm 3)) (sSeq (sFor (jSeq (eVar 2)) (gNm 4) (sExpr (eMeth n_Page x_press 3 m_Page_press (eVar 3) (aCons (eVar 0) (aCons (eVar 4) (aNil)))))) (sRet (eMeth n_Page x_right_text 1 m_Page_right_text (eVar 3) aNil)))
def m_behind_all : MF := runFn 5 b_behind_all
def b_left_over : MS := sSeq (sExpr (eCall 1 m_need_book (aCons (eVar 0) (aNil)))) (sSeq (sExpr (eCall 1 m_need_manner (aCons (eVar 1) (aNil)))) (sSeq (sExpr (eCall 2 m_need_behind (aCons (eVar 1) (aCons (eVar 2) (aNil))))) (sSeq (sExpr (eCall 2 m_typed (aCons (eVar 1) (aCons (eVar 3) (aNil))))) (sRet (eCall 3 m_behind_all (aCons (eVar 0) (aCons (eVar 2) (aCons (eVar 3) (aNil)))))))))
def m_left_over : MF := runFn 4 b_left_over
def b_harms : MS := sRet (eOp mNe (eCall 4 m_left_over (aCons (eVar 0) (aCons (eVar 1) (aCons (eVar 2) (aCons (eVar 3) (aNil)))))) (eVar 2))
def m_harms : MF := runFn 4 b_harms
end MP.Pr

/-! the program's mirrors with refusals, where MP.Pr has them otherwise or not at all -/
namespace MP.Px
open MP
open MP.Pr hiding b_need_manner m_need_manner b_need_text m_need_text b_need_book m_need_book b_need_behind m_need_behind b_need_keys m_need_keys b_need_page m_need_page b_pressed m_pressed b_typed m_typed
abbrev n_CloserError : CP := [67, 108, 111, 115, 101, 114, 69, 114, 114, 111, 114]
abbrev n_BadText : CP := [66, 97, 100, 84, 101, 120, 116]
abbrev n_BadPage : CP := [66, 97, 100, 80, 97, 103, 101]
abbrev n_BadKeys : CP := [66, 97, 100, 75, 101, 121, 115]
abbrev n_BadBook : CP := [66, 97, 100, 66, 111, 111, 107]
abbrev n_BadManner : CP := [66, 97, 100, 77, 97, 110, 110, 101, 114]
abbrev n_NotMeant : CP := [78, 111, 116, 77, 101, 97, 110, 116]
abbrev f_place : CP := [112, 108, 97, 99, 101]
abbrev f_value : CP := [118, 97, 108, 117, 101]
def b_need_manner : MS := sSeq (sIf (tOrM (tNotM (tVal (eBlt mIsi (aCons (eVar 0) (aCons (eC (.ty .tuple)) (aNil)))))) (tOrM (tCmp mNe (eBlt mLen (aCons (eVar 0) (aNil))) (eC (.int 3))) (tNotM (tVal (eBlt mAll (aCons (eLv (jSeq (eVar 0)) [1] (.one 1) (tYesM) (eBlt mIsi (aCons (eVar 1) (aCons (eC (.ty .bool)) (aNil))))) (aNil))))))) (sRaise n_BadManner f_value (aCons (eVar 0) (aNil))) (sNil)) (sRet (eVar 0))
def m_need_manner : MF := runFn 2 b_need_manner
def b_need_text : MS := sSeq (sIf (tOrM (tNotM (tVal (eBlt mIsi (aCons (eVar 0) (aCons (eC (.ty .str)) (aNil)))))) (tCmp mGt (eBlt mLen (aCons (eVar 0) (aNil))) (eC v_MOST_TEXT))) (sRaise n_BadText f_place (aCons (eC .non) (aNil))) (sNil)) (sFor (jEnum (aCons (eVar 0) (aNil))) (gTp 2 (gC (gNm 1) (gC (gNm 2) (gN)))) (sIf (tCmp mNotIn (eVar 2) (eC v_SIGNS)) (sRaise n_BadText f_place (aCons (eVar 1) (aNil))) (sNil)))
def m_need_text : MF := runFn 3 b_need_text
def b_read_all : MS := sSeq (sAsg (eMake n_Reading 2 m_Reading___init__ (aCons (eVar 1) (aNil))) (gNm 2)) (sSeq (sFor (jEnum (aCons (eVar 0) (aNil))) (gTp 2 (gC (gNm 3) (gC (gNm 4) (gN)))) (sSeq (sIf (tNotM (tVal (eMeth n_Reading x_can_read 2 m_Reading_can_read (eVar 2) (aCons (eVar 4) (aNil))))) (sRet (eTup (aCons (eVar 2) (aCons (eVar 3) (aNil))))) (sNil)) (sExpr (eMeth n_Reading x_read 2 m_Reading_read (eVar 2) (aCons (eVar 4) (aNil)))))) (sRet (eTup (aCons (eVar 2) (aCons (eC .non) (aNil))))))
def m_read_all : MF := runFn 5 b_read_all
def b_is_meant : MS := sSeq (sExpr (eCall 1 m_need_manner (aCons (eVar 0) (aNil)))) (sSeq (sExpr (eCall 1 m_need_text (aCons (eVar 1) (aNil)))) (sSeq (sAsg (eCall 2 m_read_all (aCons (eVar 1) (aCons (eOp mIx (eVar 0) (eC (.int 1))) (aNil)))) (gTp 2 (gC (gNm 2) (gC (gNm 3) (gN))))) (sRet (eAnd (eOp mIs (eVar 3) (eC .non)) (eCall 1 m_is_whole (aCons (eVar 2) (aNil)))))))
def m_is_meant : MF := runFn 4 b_is_meant
def b_needs : MS := sSeq (sExpr (eCall 1 m_need_manner (aCons (eVar 0) (aNil)))) (sSeq (sExpr (eCall 1 m_need_text (aCons (eVar 1) (aNil)))) (sSeq (sAsg (eCall 2 m_read_all (aCons (eVar 1) (aCons (eOp mIx (eVar 0) (eC (.int 1))) (aNil)))) (gTp 2 (gC (gNm 2) (gC (gNm 3) (gN))))) (sSeq (sIf (tCmp mIsNot (eVar 3) (eC .non)) (sRaise n_NotMeant f_place (aCons (eVar 3) (aNil))) (sNil)) (sRet (eRevV (eFld [n_Reading] f_needs (eVar 2)))))))
def m_needs : MF := runFn 4 b_needs
def b_need_meant : MS := sSeq (sExpr (eCall 1 m_need_manner (aCons (eVar 0) (aNil)))) (sSeq (sExpr (eCall 1 m_need_text (aCons (eVar 1) (aNil)))) (sSeq (sAsg (eCall 2 m_read_all (aCons (eVar 1) (aCons (eOp mIx (eVar 0) (eC (.int 1))) (aNil)))) (gTp 2 (gC (gNm 2) (gC (gNm 3) (gN))))) (sIf (tOrM (tCmp mIsNot (eVar 3) (eC .non)) (tNotM (tVal (eCall 1 m_is_whole (aCons (eVar 2) (aNil)))))) (sRaise n_NotMeant f_place (aCons (eIf (tCmp mIsNot (eVar 3) (eC .non)) (eVar 3) (eBlt mLen (aCons (eVar 1) (aNil)))) (aNil))) (sNil))))
def m_need_meant : MF := runFn 4 b_need_meant
def v_OUT : MV := (.str [111, 117, 116])
def v_IN : MV := (.str [105, 110])
def v_WORD : MV := (.str [119, 111, 114, 100])
def v_EVEN : MV := (.str [101, 118, 101, 110])
def v_ODD : MV := (.str [111, 100, 100])
def v_LETTER : MV := (.str [108, 101, 116, 116, 101, 114])
def v_QUOTED : MV := (.str [113, 117, 111, 116, 101])
def v_PLAIN : MV := (.str [111, 116, 104, 101, 114])
def v_CLOSER : MV := (.str [99, 108, 111, 115, 101, 114])
def v_REST : MV := (.str [114, 101, 115, 116])
def v_BLANK_SIGN : MV := (.str [98, 108, 97, 110, 107])
def v_NOTHING : MV := (.str [101, 110, 100])
def v_WALL : MV := (.str [119, 97, 108, 108])
abbrev n_BadNumber : CP := [66, 97, 100, 78, 117, 109, 98, 101, 114]
abbrev n_BadStand : CP := [66, 97, 100, 83, 116, 97, 110, 100]
abbrev n_BadPaper : CP := [66, 97, 100, 80, 97, 112, 101, 114]
abbrev f_word : CP := [119, 111, 114, 100]
def b_need_book : MS := sSeq (sIf (tOrM (tNotM (tVal (eBlt mIsi (aCons (eVar 0) (aCons (eC (.ty .tuple)) (aNil)))))) (tCmp mNe (eBlt mLen (aCons (eVar 0) (aNil))) (eBlt mLen (aCons (eC v_CHOICES) (aNil))))) (sRaise n_BadBook f_place (aCons (eC .non) (aNil))) (sNil)) (sSeq (sFor (jEnum (aCons (eVar 0) (aNil))) (gTp 2 (gC (gNm 1) (gC (gNm 2) (gN)))) (sIf (tOrM (tNotM (tVal (eBlt mIsi (aCons (eVar 2) (aCons (eC (.ty .str)) (aNil)))))) (tCmp mNotIn (eVar 2) (eOp mIx (eC v_CHOICES) (eVar 1)))) (sRaise n_BadBook f_place (aCons (eVar 1) (aNil))) (sNil))) (sRet (eVar 0)))
def m_need_book : MF := runFn 3 b_need_book
def b_need_behind : MS := sSeq (sExpr (eCall 1 m_need_text (aCons (eVar 1) (aNil)))) (sIf (tAndM (tCmp mNe (eVar 1) (eC (.str []))) (tNotM (tVal (eOp mIx (eVar 0) (eC (.int 2)))))) (sRaise n_BadText f_place (aCons (eC .non) (aNil))) (sNil))
def m_need_behind : MF := runFn 2 b_need_behind
def b_need_keys : MS := sSeq (sIf (tOrM (tNotM (tVal (eBlt mIsi (aCons (eVar 0) (aCons (eC (.ty .tuple)) (aNil)))))) (tCmp mGt (eBlt mLen (aCons (eVar 0) (aNil))) (eC v_MOST_KEYS))) (sRaise n_BadKeys f_place (aCons (eC .non) (aNil))) (sNil)) (sFor (jEnum (aCons (eVar 0) (aNil))) (gTp 2 (gC (gNm 1) (gC (gNm 2) (gN)))) (sIf (tNotM (tVal (eCall 1 m_is_key (aCons (eVar 2) (aNil))))) (sRaise n_BadKeys f_place (aCons (eVar 1) (aNil))) (sNil)))
def m_need_keys : MF := runFn 3 b_need_keys
def b_word_before : MS := sSeq (sIf (tVal (eCall 1 m_is_letter (aCons (eCutV (eVar 0) (pSo (eNeg (eC (.int 1)))) (pNo)) (aNil)))) (sRet (eC v_LETTER)) (sNil)) (sRet (eIf (tCmp mEq (eCutV (eVar 0) (pSo (eNeg (eC (.int 1)))) (pNo)) (eC v_QUOTE)) (eC v_QUOTED) (eC v_PLAIN)))
def m_word_before : MF := runFn 1 b_word_before
def b_kind_of : MS := sSeq (sIf (tCmp mEq (eVar 0) (eC (.str []))) (sRet (eC v_NOTHING)) (sNil)) (sSeq (sIf (tCmp mIn (eVar 0) (eC v_CLOSERS)) (sRet (eC v_CLOSER)) (sNil)) (sSeq (sIf (tCmp mEq (eVar 0) (eC v_QUOTE)) (sRet (eC v_QUOTED)) (sNil)) (sRet (eIf (tVal (eCall 1 m_is_free (aCons (eVar 0) (aNil)))) (eC v_BLANK_SIGN) (eC v_WALL)))))
def m_kind_of : MF := runFn 1 b_kind_of
def b_stand_in : MS := sSeq (sPar 8 9 (aCons (eMake n_Page 2 m_Page___init__ (aCons (eTup (aCons (eC (.str [])) (aCons (eVar 2) (aCons (eTup (aNil)) (aNil))))) (aNil))) (aCons (eOp mIx (eCall 2 m_read_all (aCons (eVar 4) (aCons (eOp mIx (eVar 1) (eC (.int 1))) (aNil)))) (eC (.int 0))) (aNil)))) (sSeq (sFor (jSeq (eVar 3)) (gNm 5) (sExpr (eMeth n_Page x_press 3 m_Page_press (eVar 8) (aCons (eVar 0) (aCons (eVar 5) (aNil)))))) (sSeq (sAsg (eIf (tVal (eMeth n_Reading x_is_quoted 1 m_Reading_is_quoted (eVar 9) aNil)) (eC v_IN) (eIf (tVal (eFld [n_Reading] f_is_open (eVar 9))) (eC v_WORD) (eC v_OUT))) (gNm 6)) (sSeq (sAsg (eC v_REST) (gNm 7)) (sSeq (sIf (tCmp mGt (eBlt mLen (aCons (eFld [n_Page] f_right (eVar 8)) (aNil))) (eBlt mLen (aCons (eVar 2) (aNil)))) (sAsg (eIf (tCmp mEq (eMeth n_Page x_next_sign 1 m_Page_next_sign (eVar 8) aNil) (eC v_QUOTE)) (eC v_QUOTED) (eC v_CLOSER)) (gNm 7)) (sNil)) (sRet (eTup (aCons (eVar 6) (aCons (eIf (tVal (eCall 1 m_is_within (aCons (eFld [n_Page] f_left (eVar 8)) (aNil)))) (eC v_ODD) (eC v_EVEN)) (aCons (eCall 1 m_word_before (aCons (eFld [n_Page] f_left (eVar 8)) (aNil))) (aCons (eVar 7) (aCons (eCall 1 m_kind_of (aCons (eCutV (eVar 2) (pNo) (pSo (eC (.int 1)))) (aNil))) (aNil))))))))))))
def m_stand_in : MF := runFn 10 b_stand_in
def b_stand_behind : MS := sSeq (sExpr (eCall 1 m_need_book (aCons (eVar 0) (aNil)))) (sSeq (sExpr (eCall 1 m_need_manner (aCons (eVar 1) (aNil)))) (sSeq (sExpr (eCall 2 m_need_behind (aCons (eVar 1) (aCons (eVar 2) (aNil))))) (sSeq (sExpr (eCall 1 m_need_keys (aCons (eVar 3) (aNil)))) (sSeq (sAsg (eCall 2 m_typed_in (aCons (eVar 1) (aCons (eVar 3) (aNil)))) (gTp 2 (gC (gNm 4) (gC (gNm 5) (gN))))) (sSeq (sIf (tAndM (tCmp mIsNot (eVar 5) (eC .non)) (tCmp mNe (eVar 5) (eBlt mLen (aCons (eVar 3) (aNil))))) (sRaise n_NotMeant f_place (aCons (eVar 5) (aNil))) (sNil)) (sRet (eCall 5 m_stand_in (aCons (eVar 0) (aCons (eVar 1) (aCons (eVar 2) (aCons (eVar 3) (aCons (eVar 4) (aNil)))))))))))))
def m_stand_behind : MF := runFn 6 b_stand_behind
def b_need_page : MS := sIf (tNotM (tVal (eCall 1 m_is_page (aCons (eVar 0) (aNil))))) (sRaise n_BadPage f_value (aCons (eVar 0) (aNil))) (sNil)
def m_need_page : MF := runFn 1 b_need_page
def b_pressed : MS := sSeq (sExpr (eCall 1 m_need_book (aCons (eVar 0) (aNil)))) (sSeq (sExpr (eCall 1 m_need_page (aCons (eVar 1) (aNil)))) (sSeq (sExpr (eCall 1 m_need_keys (aCons (eVar 2) (aNil)))) (sSeq (sAsg (eMake n_Page 2 m_Page___init__ (aCons (eVar 1) (aNil))) (gNm 3)) (sSeq (sFor (jSeq (eVar 2)) (gNm 4) (sExpr (eMeth n_Page x_press 3 m_Page_press (eVar 3) (aCons (eVar 0) (aCons (eVar 4) (aNil)))))) (sRet (eMeth n_Page x_told 1 m_Page_told (eVar 3) aNil))))))
def m_pressed : MF := runFn 5 b_pressed
def b_typed : MS := sSeq (sExpr (eCall 1 m_need_manner (aCons (eVar 0) (aNil)))) (sSeq (sExpr (eCall 1 m_need_keys (aCons (eVar 1) (aNil)))) (sSeq (sAsg (eCall 2 m_typed_in (aCons (eVar 0) (aCons (eVar 1) (aNil)))) (gTp 2 (gC (gNm 2) (gC (gNm 3) (gN))))) (sSeq (sIf (tCmp mIsNot (eVar 3) (eC .non)) (sRaise n_NotMeant f_place (aCons (eVar 3) (aNil))) (sNil)) (sRet (eVar 2)))))
def m_typed : MF := runFn 4 b_typed
def b_is_typing : MS := sSeq (sExpr (eCall 1 m_need_manner (aCons (eVar 0) (aNil)))) (sSeq (sExpr (eCall 1 m_need_keys (aCons (eVar 1) (aNil)))) (sRet (eOp mIs (eOp mIx (eCall 2 m_typed_in (aCons (eVar 0) (aCons (eVar 1) (aNil)))) (eC (.int 1))) (eC .non))))
def m_is_typing : MF := runFn 2 b_is_typing
def v_CURSOR : MV := (.str [124])
def v_MARK : MV := (.str [94])
abbrev n_TooMany : CP := [84, 111, 111, 77, 97, 110, 121]
abbrev f_most : CP := [109, 111, 115, 116]
def b_page_text : MS := sSeq (sExpr (eCall 1 m_need_page (aCons (eVar 0) (aNil)))) (sSeq (sAsg (eLv (jEnum (aCons (eOp mIx (eVar 0) (eC (.int 1))) (aNil))) [2, 3] (.row [2, 3]) (tYesM) (eIf (tCmp mIn (eVar 2) (eOp mIx (eVar 0) (eC (.int 2)))) (eOp mAddV (eVar 3) (eC v_MARK)) (eVar 3))) (gNm 1)) (sRet (eOp mAddV (eOp mAddV (eOp mIx (eVar 0) (eC (.int 0))) (eC v_CURSOR)) (eBm .str mJoin (eC (.str [])) (aCons (eVar 1) (aNil))))))
def m_page_text : MF := runFn 4 b_page_text
def b_need_string : MS := sIf (tNotM (tVal (eBlt mIsi (aCons (eVar 0) (aCons (eC (.ty .str)) (aNil)))))) (sRaise n_BadText f_place (aCons (eC .non) (aNil))) (sNil)
def m_need_string : MF := runFn 1 b_need_string
def b_read_page : MS := sSeq (sExpr (eCall 1 m_need_string (aCons (eVar 0) (aNil)))) (sSeq (sAsg (eTup (aCons (eC (.str [])) (aCons (eC (.str [])) (aCons (eTup (aNil)) (aCons (eC (.bl false)) (aCons (eC (.bl false)) (aNil))))))) (gTp 5 (gC (gNm 1) (gC (gNm 2) (gC (gNm 3) (gC (gNm 4) (gC (gNm 5) (gN)))))))) (sSeq (sFor (jEnum (aCons (eVar 0) (aNil))) (gTp 2 (gC (gNm 6) (gC (gNm 7) (gN)))) (sSeq (sIf (tAndM (tCmp mEq (eVar 7) (eC v_CURSOR)) (tNotM (tVal (eVar 4)))) (sAsg (eC (.bl true)) (gNm 4)) (sIf (tAndM (tCmp mEq (eVar 7) (eC v_MARK)) (tVal (eVar 5))) (sAsg (eOp mAddV (eVar 3) (eTup (aCons (eOp mSub (eBlt mLen (aCons (eVar 2) (aNil))) (eC (.int 1))) (aNil)))) (gNm 3)) (sIf (tOrM (tCmp mNotIn (eVar 7) (eC v_SIGNS)) (tCmp mEq (eBlt mLen (aCons (eIf (tVal (eVar 4)) (eVar 2) (eVar 1)) (aNil))) (eC v_MOST_TEXT))) (sRaise n_BadText f_place (aCons (eVar 6) (aNil))) (sIf (tVal (eVar 4)) (sAug 2 mIAdd (eVar 7)) (sAug 1 mIAdd (eVar 7)))))) (sAsg (eAnd (eVar 4) (eAnd (eOp mNe (eVar 7) (eC v_CURSOR)) (eCall 1 m_is_closing (aCons (eVar 7) (aNil))))) (gNm 5)))) (sSeq (sIf (tNotM (tVal (eVar 4))) (sRaise n_BadText f_place (aCons (eBlt mLen (aCons (eVar 0) (aNil))) (aNil))) (sNil)) (sRet (eTup (aCons (eVar 1) (aCons (eVar 2) (aCons (eVar 3) (aNil)))))))))
def m_read_page : MF := runFn 8 b_read_page
end MP.Px

/-! what all laws draw from: plain lemmas on the mirrors -/
namespace MP.Cm
open PySem L2
theorem szs : sizeLine = 16777216 := by rfl
def b_law_mixed : MS := sSeq (sAsg (eOp mAdd (eOp mAdd (eOp mMod (eBlt mInt (aCons (eOp mMul (eOp mMul (eVar 0) (eOp mAdd (eC (.int 1)) (eOp mMul (eC (.int 2)) (eVar 1)))) (eC (.int 48271))) (aNil))) (eC (.int 2147483647))) (eOp mMul (eOp mMul (eC (.int 7919)) (eVar 1)) (eVar 1))) (eOp mMul (eC (.int 104729)) (eVar 1))) (gNm 2)) (sRet (eOp mFdiv (eOp mMod (eBlt mInt (aCons (eOp mMul (eVar 2) (eC (.int 69621))) (aNil))) (eC (.int 2147483629))) (eC (.int 7))))
def m_law_mixed : MF := runFn 3 b_law_mixed
def b_law_folded : MS := sSeq (sAsg (eLc (jRng1 (aCons (eC (.int 64)) (aNil))) [2] (.one 2) (tYesM) (eOp mAdd (eC (.int 17)) (eVar 2))) (gNm 1)) (sSeq (sFor (jEnum (aCons (eVar 0) (aNil))) (gTp 2 (gC (gNm 2) (gC (gNm 3) (gN)))) (sSub (eVar 1) (eOp mMod (eBlt mInt (aCons (eVar 2) (aNil))) (eC (.int 64))) (eOp mMod (eBlt mInt (aCons (eOp mAdd (eOp mMul (eOp mIx (eVar 1) (eOp mMod (eBlt mInt (aCons (eVar 2) (aNil))) (eC (.int 64)))) (eC (.int 48271))) (eVar 3)) (aNil))) (eC (.int 2147483647))))) (sSeq (sFor (jRng2 (aCons (eC (.int 1)) (aCons (eC (.int 64)) (aNil)))) (gNm 2) (sSub (eVar 1) (eVar 2) (eOp mMod (eBlt mInt (aCons (eOp mAdd (eOp mIx (eVar 1) (eVar 2)) (eOp mMul (eOp mIx (eVar 1) (eOp mSub (eVar 2) (eC (.int 1)))) (eC (.int 16807)))) (aNil))) (eC (.int 2147483647))))) (sRet (eVar 1))))
def m_law_folded : MF := runFn 4 b_law_folded
def b_law_begun : MS := sSeq (sAsg (eDisp [(eC (.str [99, 101, 108, 108, 115]), eCall 1 m_law_folded (aCons (eVar 0) (aNil))), (eC (.str [103, 114, 101, 97, 116]), eLst (aNil)), (eC (.str [115, 112, 111, 116]), eC (.int 0))]) (gNm 1)) (sSeq (sSub (eVar 1) (eC (.str [103, 114, 101, 97, 116])) (eLc (jSeq (eVar 0)) [2] (.one 2) (tYesM) (eIf (tCmp mGe (eVar 2) (eOp mPow (eC (.int 10)) (eC (.int 18)))) (eVar 2) (eC (.int 0))))) (sRet (eVar 1)))
def m_law_begun : MF := runFn 3 b_law_begun
def b_law_draw : MS := sSeq (sAsg (eOp mIx (eVar 0) (eC (.str [115, 112, 111, 116]))) (gNm 2)) (sSeq (sSub (eVar 0) (eC (.str [115, 112, 111, 116])) (eOp mAdd (eVar 2) (eC (.int 1)))) (sSeq (sIf (tCmp mNe (eOp mIx (eVar 0) (eC (.str [103, 114, 101, 97, 116]))) (eLst (aNil))) (sSeq (sAsg (eOp mIx (eVar 0) (eC (.str [103, 114, 101, 97, 116]))) (gNm 3)) (sSeq (sAsg (eOp mMod (eBlt mInt (aCons (eVar 2) (aNil))) (eBlt mLen (aCons (eVar 3) (aNil)))) (gNm 4)) (sSeq (sAsg (eOp mIx (eVar 3) (eVar 4)) (gNm 5)) (sIf (tCmp mGt (eVar 5) (eC (.int 0))) (sSeq (sSub (eVar 3) (eVar 4) (eOp mFdiv (eVar 5) (eVar 1))) (sRet (eOp mMod (eBlt mInt (aCons (eVar 5) (aNil))) (eVar 1)))) (sNil))))) (sNil)) (sSeq (sAsg (eOp mIx (eVar 0) (eC (.str [99, 101, 108, 108, 115]))) (gNm 3)) (sRet (eOp mMod (eBlt mInt (aCons (eCall 2 m_law_mixed (aCons (eCall 2 m_law_mixed (aCons (eOp mAdd (eOp mIx (eVar 3) (eOp mMod (eBlt mInt (aCons (eVar 2) (aNil))) (eC (.int 64)))) (eOp mMul (eC (.int 31)) (eOp mFdiv (eVar 2) (eC (.int 64))))) (aCons (eVar 2) (aNil)))) (aCons (eOp mAdd (eVar 2) (eC (.int 7))) (aNil)))) (aNil))) (eVar 1))))))
def m_law_draw : MF := trimF (runFn 6 b_law_draw)
def mixed (c n : Int) : Int := (c * (1 + 2 * n) * 48271 % 2147483647 + 7919 * n * n + 104729 * n) * 69621 % 2147483629 / 7
theorem mixed_ok {c n : Int} (hc : -(2 ^ 64) < c ∧ c < 2 ^ 64) (hn : 0 ≤ n ∧ n < 2 ^ 63) (h : MH) : m_law_mixed [.int c, .int n] h = .ok (.int (mixed c n)) h := by
  have h4 : (-18446744073709551616 < n ∧ n < 18446744073709551616) := by omega
  have h3 : -18446744073709551616 < c ∧ c < 18446744073709551616 := by omega
  simp [sSeq, sExpr, sRet, sRetN, sNil, sBrk, sCnt, sIf, sAsg, gNm, gN, gC, gTp, eVar, eC, eOp, eBlt, eIf, eTup, eLst, eNot, tVal, tCmp, tNotM, tAndM, tOrM, aNil, aCons, ofO, R.bind, R.bindS, R.go, mInt, mMod, mFdiv, mAdd, mSub, mMul, mTruth, m_law_mixed, runFn, b_law_mixed, h3, h4, mixed]
theorem mixed_range (c n : Int) : 0 ≤ mixed c n ∧ mixed c n < 2 ^ 31 := by
  unfold mixed
  generalize (c * (1 + 2 * n) * 48271 % 2147483647 + 7919 * n * n + 104729 * n) * 69621 = x
  omega
/-- the state's objects: the cells, a list that is not used, the dict, the great cells -/
def st (cs gs : List Int) (n : Int) (t : MH) : MH := .lst (cs.map .int) :: .lst [] :: .dK [(.inr [99, 101, 108, 108, 115], .ref 0), (.inr [103, 114, 101, 97, 116], .ref 3), (.inr [115, 112, 111, 116], .int n)] :: .lst (gs.map .int) :: t
structure Ok (cs gs : List Int) (n : Int) : Prop where
  len : cs.length = 64
  cell : ∀ c ∈ cs, 0 ≤ c ∧ c < 2147483647
  spot : 0 ≤ n ∧ n < 2 ^ 62
theorem belowL_ints (k : Nat) : ∀ l : List Int, belowL k (l.map .int) = true
  | [] => rfl
  | _ :: l => by simp [belowL, below, belowL_ints k l]
theorem mapO_ints (n : Nat) (h : MH) : ∀ l : List Int, mapO (toD (n + 1) h) (l.map .int) = some (l.map .int)
  | [] => rfl
  | a :: l => by
    have e := mapO_ints n h l
    rw [List.map_cons, mapO, e]
    rfl
theorem canLay_ints : ∀ l : List Int, PyData.canLayAll0 (l.map .int) = true
  | [] => rfl
  | a :: l => by simp [PyData.canLayAll0, PyData.canLay0, canLay_ints l]
theorem depth_ints : ∀ l : List Int, PyData.depthAll (l.map .int) = 0
  | [] => rfl
  | a :: l => by simp [PyData.depthAll, PyData.depth, depth_ints l]
theorem shaped_ints (l : List Int) : SeqAt.shaped (.list (l.map .int)) = true := by
  simp [SeqAt.shaped, PyData.canLay0, PyData.depth, canLay_ints, depth_ints]
theorem eqv_nil : ∀ l : List Int, PyData.eqv (.list (l.map .int)) (.list []) = l.isEmpty
  | [] => by simp [PyData.eqv, PyData.eqvAll]
  | a :: l => by simp [PyData.eqv, PyData.eqvAll]
abbrev kC : CP := [99, 101, 108, 108, 115]
abbrev kG : CP := [103, 114, 101, 97, 116]
abbrev kS : CP := [115, 112, 111, 116]
section
variable {cs gs : List Int} {n : Int} {t : MH}
theorem st_app (x : MH) : st cs gs n t ++ x = st cs gs n (t ++ x) := rfl
theorem st_len : (st cs gs n t).length = t.length + 4 := rfl
theorem ix_spot : mIx (.ref 2) (.str [115, 112, 111, 116]) (st cs gs n t) = some (.int n, st cs gs n t) := rfl
theorem ix_great : mIx (.ref 2) (.str [103, 114, 101, 97, 116]) (st cs gs n t) = some (.ref 3, st cs gs n t) := rfl
theorem ix_cells : mIx (.ref 2) (.str [99, 101, 108, 108, 115]) (st cs gs n t) = some (.ref 0, st cs gs n t) := rfl
theorem set_spot (m : Int) : mSet (.ref 2) (.str [115, 112, 111, 116]) (.int m) (st cs gs n t) = some (st cs gs m t) := rfl
theorem ne_nil : mNe (.ref 3) (.ref (t.length + 4)) (st cs gs n (t ++ [MO.lst []])) = some (.bl (!gs.isEmpty), st cs gs n (t ++ [MO.lst []])) := by
  have e1 : toD 64 (st cs gs n (t ++ [MO.lst []])) (.ref 3) = some (.list (gs.map .int)) := by
    show (mapO (toD 63 _) (gs.map .int)).map PyData.list = _
    rw [mapO_ints 62]
    rfl
  have e2 : toD 64 (st cs gs n (t ++ [MO.lst []])) (.ref (t.length + 4)) = some (.list []) := by
    have : (st cs gs n (t ++ [MO.lst []]))[t.length + 4]? = some (.lst []) := by
      show (t ++ [MO.lst []])[t.length]? = _
      simp
    simp [toD, lstAt, this, mapO]
  have e3 : SeqAt.shaped (.list ([] : List PyData)) = true := by decide +kernel
  show (match toD 64 (st cs gs n (t ++ [MO.lst []])) (.ref 3), toD 64 (st cs gs n (t ++ [MO.lst []])) (.ref (t.length + 4)) with
    | some d, some e => if SeqAt.shaped d && SeqAt.shaped e then some (PyData.eqv d e) else none
    | _, _ => none).map (fun k => (MV.bl (!k), st cs gs n (t ++ [MO.lst []]))) = _
  rw [e1, e2]
  simp [shaped_ints, e3, eqv_nil]
theorem len_great : mLen [.ref 3] (st cs gs n t) = some (.int gs.length, st cs gs n t) := by
  show some (MV.int ((gs.map MV.int).length : Nat), _) = _
  rw [List.length_map]
theorem ixN_in {k : Nat} {i : Int} (h : 0 ≤ i ∧ i < k) : ixN k i = some i.toNat := by
  unfold ixN
  rw [if_pos h.1, if_pos h.2]
theorem ix_at {l : List Int} {i : Int} (h : 0 ≤ i ∧ i < l.length) : ∃ c, l[i.toNat]? = some c ∧ c ∈ l ∧ atI (l.map MV.int) i = some (.int c) := by
  have hi : i.toNat < l.length := by omega
  refine ⟨l[i.toNat], by simp [hi], List.getElem_mem hi, ?_⟩
  unfold atI
  rw [ixN_in (by simpa using h)]
  simp [hi]
theorem ix_gr {i : Int} {c : Int} (h : atI (gs.map MV.int) i = some (.int c)) : mIx (.ref 3) (.int i) (st cs gs n t) = some (.int c, st cs gs n t) := by
  show (atI (gs.map MV.int) i).map _ = _
  rw [h]
  rfl
theorem ix_ce {i : Int} {c : Int} (h : atI (cs.map MV.int) i = some (.int c)) : mIx (.ref 0) (.int i) (st cs gs n t) = some (.int c, st cs gs n t) := by
  show (atI (cs.map MV.int) i).map _ = _
  rw [h]
  rfl
theorem set_gr {i c : Int} (h : 0 ≤ i ∧ i < gs.length) : mSet (.ref 3) (.int i) (.int c) (st cs gs n t) = some (st cs (gs.set i.toNat c) n t) := by
  show (ixN (gs.map MV.int).length i).map _ = _
  rw [List.length_map, ixN_in h]
  simp [st, List.map_set]
end
theorem mixed_r (c n : Int) : -(2 ^ 64) < mixed c n ∧ mixed c n < 2 ^ 64 := by
  have := mixed_range c n
  omega
theorem draw_body {cs gs : List Int} {n lim : Int} {t : MH} (ok : Ok cs gs n) (hl : 0 < lim ∧ lim < 1073741824) :
    ∃ v gs' u, 0 ≤ v ∧ v < lim ∧ gs'.length = gs.length ∧ runFn 6 b_law_draw [.ref 2, .int lim] (st cs gs n t) = .ok (.int v) (st cs gs' (n + 1) (t ++ u)) := by
  obtain ⟨hlen, hcell, hspot⟩ := ok
  obtain ⟨c, _, hc, hci⟩ := ix_at (l := cs) (i := n % 64) (by omega)
  have hcc := hcell c hc
  have m1 := mixed_ok (c := c + 31 * (n / 64)) (n := n) (by omega) (by omega)
  have m2 := mixed_ok (c := mixed (c + 31 * (n / 64)) n) (n := n + 7) (mixed_r _ _) (by omega)
  have h31 : (-18446744073709551616 : Int) < 31 ∧ (31 : Int) < 18446744073709551616 := by decide
  have hm : ∀ x : Int, 0 ≤ x % lim ∧ x % lim < lim := fun x => ⟨Int.emod_nonneg _ (by omega), Int.emod_lt_of_pos _ hl.1⟩
  have hp : sizeLine ≠ 0 := by decide
  cases gs with
  | nil =>
    refine ⟨mixed (mixed (c + 31 * (n / 64)) n) (n + 7) % lim, [], [MO.lst []], (hm _).1, (hm _).2, rfl, ?_⟩
    simp [sSeq, sExpr, sRet, sRetN, sNil, sBrk, sCnt, sIf, sAsg, gNm, gN, gC, gTp, eVar, eC, eOp, eBlt, eIf, eTup, eLst, eNot, tVal, tCmp, tNotM, tAndM, tOrM, aNil, aCons, ofO, R.bind, R.bindS, R.go, mInt, mMod, mFdiv, mAdd, mSub, mMul, mTruth, runFn, b_law_draw, ix_spot, ix_great, set_spot, sSub, st_app, st_len, ne_nil, ix_cells, ix_ce hci, m1, m2, h31, hl.1, eCall]
  | cons g gs =>
    have hi : 0 ≤ n % ((gs.length : Int) + 1) ∧ n % ((gs.length : Int) + 1) < ((g :: gs).length : Nat) := by
      have h1 := Int.emod_nonneg n (b := (gs.length : Int) + 1) (by omega)
      have h2 := Int.emod_lt_of_pos n (b := (gs.length : Int) + 1) (by omega)
      simp only [List.length_cons]
      omega
    obtain ⟨d, _, _, hd⟩ := ix_at (l := g :: gs) (i := n % ((gs.length : Int) + 1)) hi
    have hlz : (0 : Int) < (gs.length : Int) + 1 := by omega
    by_cases hd0 : 0 < d
    · refine ⟨d % lim, (g :: gs).set (n % ((gs.length : Int) + 1)).toNat (d / lim), [MO.lst []], (hm _).1, (hm _).2, by simp, ?_⟩
      simp [sSeq, sExpr, sRet, sRetN, sNil, sBrk, sCnt, sIf, sAsg, gNm, gN, gC, gTp, eVar, eC, eOp, eBlt, eIf, eTup, eLst, eNot, tVal, tCmp, tNotM, tAndM, tOrM, aNil, aCons, ofO, R.bind, R.bindS, R.go, mInt, mMod, mFdiv, mAdd, mSub, mMul, mTruth, runFn, b_law_draw, ix_spot, ix_great, set_spot, sSub, st_app, st_len, ne_nil, len_great, ix_gr hd, set_gr hi, hd0, hlz, mGt, hl]
    · refine ⟨mixed (mixed (c + 31 * (n / 64)) n) (n + 7) % lim, g :: gs, [MO.lst []], (hm _).1, (hm _).2, rfl, ?_⟩
      simp [sSeq, sExpr, sRet, sRetN, sNil, sBrk, sCnt, sIf, sAsg, gNm, gN, gC, gTp, eVar, eC, eOp, eBlt, eIf, eTup, eLst, eNot, tVal, tCmp, tNotM, tAndM, tOrM, aNil, aCons, ofO, R.bind, R.bindS, R.go, mInt, mMod, mFdiv, mAdd, mSub, mMul, mTruth, runFn, b_law_draw, ix_spot, ix_great, set_spot, sSub, st_app, st_len, ne_nil, len_great, ix_gr hd, hd0, hlz, mGt, ix_cells, ix_ce hci, m1, m2, h31, hl.1, eCall]
theorem belowL_int {k : Nat} (l : List Int) : belowL k (l.map .int) = true := belowL_ints k l
theorem st_below {cs gs : List Int} {n : Int} {t : MH} {k : Nat} (hk : 4 ≤ k) (ht : belowH k t = true) : belowH k (st cs gs n t) = true := by
  have h0 : Nat.blt 0 k = true := by rw [Nat.blt_eq]; omega
  have h3 : Nat.blt 3 k = true := by rw [Nat.blt_eq]; omega
  simp [st, belowH, belowO, belowL_ints, belowL, belowF, below, ht, h0, h3]
theorem st_take {cs gs : List Int} {n : Int} {t u : MH} : (st cs gs n (t ++ u)).take (t.length + 4) = st cs gs n t := by
  simp [st, List.take_append]
theorem draw_ok {cs gs : List Int} {n lim : Int} {t : MH} (ok : Ok cs gs n) (hl : 0 < lim ∧ lim < 1073741824) (ht : belowH (t.length + 4) t = true) :
    ∃ v gs', 0 ≤ v ∧ v < lim ∧ gs'.length = gs.length ∧ m_law_draw [.ref 2, .int lim] (st cs gs n t) = .ok (.int v) (st cs gs' (n + 1) t) := by
  obtain ⟨v, gs', u, h1, h2, h3, e⟩ := draw_body (t := t) ok hl
  refine ⟨v, gs', h1, h2, h3, ?_⟩
  rw [m_law_draw, trimF, e, st_len, trimR, st_take, st_below (by omega) ht]
  rfl
theorem Ok.next {cs gs gs' : List Int} {n : Int} (ok : Ok cs gs n) (h : n + 1 < 2 ^ 62) : Ok cs gs' (n + 1) := ⟨ok.len, ok.cell, by have := ok.spot; omega⟩
/-- a walk over items -/
theorem forM_items {xs : List MV} {g : MG} {b : MS} {P : Nat → Sl → MH → Prop}
    (step : ∀ i v s h, xs[i]? = some v → P i s h → ∃ s1 h1 s2 h2, g v s h = .ok s1 h1 ∧ b s1 h1 = .nx s2 h2 ∧ P (i + 1) s2 h2) :
    ∀ (n i : Nat) (s : Sl) (h : MH), i + n = xs.length → P i s h → ∃ s' h', forM (.items xs) g b n i s h = .nx s' h' ∧ P xs.length s' h' := by
  intro n
  induction n with
  | zero =>
    intro i s h hi p
    have e : xs[i]? = none := List.getElem?_eq_none (by omega)
    refine ⟨s, h, ?_, by rw [← hi]; exact p⟩
    rw [forM_zero]
    simp [MIt.at, e]
  | succ n ih =>
    intro i s h hi p
    have e : xs[i]? = some xs[i] := List.getElem?_eq_getElem (by omega)
    obtain ⟨s1, h1, s2, h2, e1, e2, p2⟩ := step i _ s h e p
    obtain ⟨s', h', e3, p3⟩ := ih (i + 1) s2 h2 (by omega) p2
    refine ⟨s', h', ?_, p3⟩
    rw [forM_succ]
    simp only [MIt.at, e, e1, R.go, e2, e3]
def Cs (cs : List Int) : Prop := cs.length = 64 ∧ ∀ c ∈ cs, 0 ≤ c ∧ c < 2147483647
theorem Cs.set {cs : List Int} (h : Cs cs) (i : Nat) (x : Int) : Cs (cs.set i (x % 2147483647)) := by
  refine ⟨by simp [h.1], fun c hc => ?_⟩
  rcases List.mem_or_eq_of_mem_set hc with z | z
  · exact h.2 c z
  · subst z; omega
section
variable {cs : List Int} {h : MH}
theorem ix1 {i c : Int} {t : MH} (e : atI (cs.map MV.int) i = some (.int c)) : mIx (.ref 0) (.int i) (.lst (cs.map .int) :: t) = some (.int c, .lst (cs.map .int) :: t) := by
  show (atI (cs.map MV.int) i).map _ = _
  rw [e]
  rfl
theorem set1 {i c : Int} {t : MH} (e : 0 ≤ i ∧ i < cs.length) : mSet (.ref 0) (.int i) (.int c) (.lst (cs.map .int) :: t) = some (.lst ((cs.set i.toNat c).map .int) :: t) := by
  show (ixN (cs.map MV.int).length i).map _ = _
  rw [List.length_map, ixN_in e]
  simp [List.map_set]
end
def cells0 : List Int := (List.range 64).map fun (n : Nat) => 17 + (n : Int)
theorem folded_ok (ns : List Int) : ∃ cs, Cs cs ∧ m_law_folded [.ro (ns.map .int)] [] = .ok (.ref 0) [.lst (cs.map .int)] := by
  have hm1 : (-18446744073709551616 : Int) < 48271 ∧ (48271 : Int) < 18446744073709551616 := by decide
  have hm2 : (-18446744073709551616 : Int) < 16807 ∧ (16807 : Int) < 18446744073709551616 := by decide
  have hA : eLc (jRng1 (aCons (eC (.int 64)) (aNil))) [2] (.one 2) (tYesM) (eOp mAdd (eC (.int 17)) (eVar 2)) [some (.ro (ns.map .int)), none, none, none] [] = .ok (.ref 0) [.lst (cells0.map .int)] := by kernel_rfl
  have c0 : Cs cells0 := by unfold Cs; decide +kernel
  let P : Nat → Sl → MH → Prop := fun _ s h => ∃ cs x y, Cs cs ∧ s = [some (.ro (ns.map .int)), some (.ref 0), x, y] ∧ h = [.lst (cs.map .int)]
  obtain ⟨s1, h1, e1, cs1, x1, y1, k1, rfl, rfl⟩ := forM_items (P := P) (xs := enumL 0 (ns.map .int)) (g := gTp 2 (gC (gNm 2) (gC (gNm 3) (gN))))
    (b := sSub (eVar 1) (eOp mMod (eBlt mInt (aCons (eVar 2) (aNil))) (eC (.int 64))) (eOp mMod (eBlt mInt (aCons (eOp mAdd (eOp mMul (eOp mIx (eVar 1) (eOp mMod (eBlt mInt (aCons (eVar 2) (aNil))) (eC (.int 64)))) (eC (.int 48271))) (eVar 3)) (aNil))) (eC (.int 2147483647))))
    (fun i v s h hv p => by
      obtain ⟨cs, x, y, k, rfl, rfl⟩ := p
      rw [enumL_get, List.getElem?_map] at hv
      cases hn : ns[i]? with
      | none => rw [hn] at hv; cases hv
      | some c =>
        rw [hn] at hv
        cases hv
        have hr : 0 ≤ ((0 + i : Nat) : Int) % 64 ∧ ((0 + i : Nat) : Int) % 64 < cs.length := by rw [k.1]; omega
        obtain ⟨d, _, _, hd⟩ := ix_at hr
        refine ⟨_, _, _, _, rfl, ?_, cs.set (((0 + i : Nat) : Int) % 64).toNat ((d * 48271 + c) % 2147483647), some (.int ((0 + i : Nat) : Int)), some (.int c), k.set _ _, rfl, rfl⟩
        have e0 : ((0 + i : Nat) : Int) = (i : Int) := by omega
        simp only [e0] at hr hd ⊢
        simp [sSeq, sExpr, sRet, sRetN, sNil, sBrk, sCnt, sIf, sAsg, gNm, gN, gC, gTp, eVar, eC, eOp, eBlt, eIf, eTup, eLst, eNot, tVal, tCmp, tNotM, tAndM, tOrM, aNil, aCons, ofO, R.bind, R.bindS, R.go, mInt, mMod, mFdiv, mAdd, mSub, mMul, mTruth, sSub, ix1 hd, hm1, set1 hr])
    (enumL 0 (ns.map MV.int)).length 0 [some (.ro (ns.map .int)), some (.ref 0), none, none] [.lst (cells0.map .int)] (by omega) ⟨cells0, none, none, c0, rfl, rfl⟩
  obtain ⟨s2, h2, e2, cs2, x2, y2, k2, rfl, rfl⟩ := forM_items (P := P) (xs := upTo 1 63) (g := gNm 2)
    (b := sSub (eVar 1) (eVar 2) (eOp mMod (eBlt mInt (aCons (eOp mAdd (eOp mIx (eVar 1) (eVar 2)) (eOp mMul (eOp mIx (eVar 1) (eOp mSub (eVar 2) (eC (.int 1)))) (eC (.int 16807)))) (aNil))) (eC (.int 2147483647))))
    (fun i v s h hv p => by
      obtain ⟨cs, x, y, k, rfl, rfl⟩ := p
      have hi : i < 63 := by
        have := (List.getElem?_eq_some_iff.mp hv).1
        simpa [upTo] using this
      have := upTo_get hv
      subst this
      have hr : 0 ≤ 1 + (i : Int) ∧ 1 + (i : Int) < cs.length := by rw [k.1]; omega
      have hr2 : 0 ≤ 1 + (i : Int) - 1 ∧ 1 + (i : Int) - 1 < cs.length := by rw [k.1]; omega
      obtain ⟨d, _, _, hd⟩ := ix_at hr
      obtain ⟨d2, _, _, hd2⟩ := ix_at hr2
      refine ⟨_, _, _, _, rfl, ?_, cs.set (1 + (i : Int)).toNat ((d + d2 * 16807) % 2147483647), some (.int (1 + (i : Int))), y, k.set _ _, rfl, rfl⟩
      simp [sSeq, sExpr, sRet, sRetN, sNil, sBrk, sCnt, sIf, sAsg, gNm, gN, gC, gTp, eVar, eC, eOp, eBlt, eIf, eTup, eLst, eNot, tVal, tCmp, tNotM, tAndM, tOrM, aNil, aCons, ofO, R.bind, R.bindS, R.go, mInt, mMod, mFdiv, mAdd, mSub, mMul, mTruth, sSub, ix1 hd, ix1 hd2, hm2, set1 hr])
    63 0 [some (.ro (ns.map .int)), some (.ref 0), x1, y1] [.lst (cs1.map .int)] rfl ⟨cs1, x1, y1, k1, rfl, rfl⟩
  refine ⟨cs2, k2, ?_⟩
  have hf : (MIt.items (enumL 0 (ns.map MV.int))).fuel [.lst (cells0.map .int)] = (enumL 0 (ns.map MV.int)).length := rfl
  have hf2 : (MIt.items (upTo 1 63)).fuel [.lst (cs1.map .int)] = 63 := rfl
  have hr : ((63 : Int) - 0).toNat = 63 := rfl
  rw [m_law_folded, runFn, b_law_folded]
  simp only [List.map_cons, List.map_nil, List.length_cons, List.length_nil, List.cons_append, List.nil_append, List.replicate]
  simp only [sSeq, sAsg, hA, R.bindS, gNm, R.go, List.set, sFor, jEnum, jRng2, aCons, aNil, eVar, eC, R.bind, List.getElem?_cons_zero, hf, e1]
  have hif : (-(2 ^ 62) ≤ (1 : Int) ∧ (1 : Int) < 2 ^ 62 ∧ -(2 ^ 62) ≤ (64 : Int) ∧ (64 : Int) < 2 ^ 62) := by decide
  rw [if_pos hif]
  simp only [R.bindS, show ((64 : Int) - 1).toNat = 63 from rfl, hf2, e2]
  simp only [sRet, R.bindS, eVar, List.getElem?_cons_zero, List.getElem?_cons_succ]
/-- a comprehension over items whose element changes nothing -/
theorem lcM_items {xs : List MV} {t : Tg} {te : ME} {sw : Sl} {h : MH} {f : MV → MV} (hs : xs.length < sizeLine)
    (step : ∀ v ∈ xs, ∃ s2, t.run v sw = some s2 ∧ te s2 h = .ok (f v) h) :
    ∀ (n i : Nat) (acc : List MV), i + n = xs.length → acc.length = i → lcM (.items xs) t tYesM te sw n i acc h = .ok (.ref h.length) (h ++ [.lst (acc ++ (xs.drop i).map f)]) := by
  intro n
  induction n with
  | zero =>
    intro i acc hi ha
    have e : xs[i]? = none := List.getElem?_eq_none (by omega)
    show (match MIt.at (.items xs) h i with
      | some none => R.ok (MV.ref h.length) (h ++ [MO.lst acc])
      | _ => .stuck) = _
    simp [MIt.at, e, List.drop_of_length_le (show xs.length ≤ i by omega)]
  | succ n ih =>
    intro i acc hi ha
    have hil : i < xs.length := by omega
    have e : xs[i]? = some xs[i] := List.getElem?_eq_getElem hil
    obtain ⟨s2, e1, e2⟩ := step xs[i] (List.getElem_mem hil)
    have ih := ih (i + 1) (acc ++ [f xs[i]]) (by omega) (by simp [ha])
    have hd : xs.drop i = xs[i] :: xs.drop (i + 1) := List.drop_eq_getElem_cons hil
    show (match MIt.at (.items xs) h i with
      | some none => R.ok (MV.ref h.length) (h ++ [MO.lst acc])
      | some (some v) => match t.run v sw with
        | some s2 => match tYesM s2 h with
          | .ok true h3 => (match te s2 h3 with
            | .ok y h4 => if acc.length < sizeLine then lcM (.items xs) t tYesM te sw n (i + 1) (acc ++ [y]) h4 else .stuck
            | _ => .stuck)
          | .ok false h3 => lcM (.items xs) t tYesM te sw n (i + 1) acc h3
          | _ => .stuck
        | none => .stuck
      | none => .stuck) = _
    have hlt : acc.length < sizeLine := by omega
    simp only [MIt.at, e, e1, tYesM, e2, hlt, if_true, ih, hd, List.map_cons, List.append_assoc, List.cons_append, List.nil_append]
theorem begun_ok (ns : List Int) (hn : ns.length ≤ 63) : ∃ cs gs, Cs cs ∧ gs.length = ns.length ∧ m_law_begun [.ro (ns.map .int)] [] = .ok (.ref 2) (st cs gs 0 []) := by
  obtain ⟨cs, k, e⟩ := folded_ok ns
  have hsz : 63 < sizeLine := by decide
  let F : MV → MV := fun v => match v with
      | .int c => .int (if 1000000000000000000 ≤ c then c else 0)
      | v => v
  let h3 : MH := [.lst (cs.map .int), .lst [], .dK [(.inr [99, 101, 108, 108, 115], .ref 0), (.inr [103, 114, 101, 97, 116], .ref 1), (.inr [115, 112, 111, 116], .int 0)]]
  refine ⟨cs, ns.map (fun c => if 1000000000000000000 ≤ c then c else 0), k, by simp, ?_⟩
  have hl := lcM_items (xs := ns.map .int) (t := .one 2) (te := eIf (tCmp mGe (eVar 2) (eOp mPow (eC (.int 10)) (eC (.int 18)))) (eVar 2) (eC (.int 0))) (sw := [some (.ro (ns.map .int)), some (.ref 2), none]) (h := h3)
    (f := F) (by simp only [List.length_map]; omega) (fun v hv => by
      obtain ⟨c, _, rfl⟩ := List.mem_map.mp hv
      refine ⟨_, rfl, ?_⟩
      by_cases hc : 1000000000000000000 ≤ c
      · simp [sSeq, sExpr, sRet, sRetN, sNil, sBrk, sCnt, sIf, sAsg, gNm, gN, gC, gTp, eVar, eC, eOp, eBlt, eIf, eTup, eLst, eNot, tVal, tCmp, tNotM, tAndM, tOrM, aNil, aCons, ofO, R.bind, R.bindS, R.go, mInt, mMod, mFdiv, mAdd, mSub, mMul, mTruth, mPow, mGe, hc, F]
      · simp [sSeq, sExpr, sRet, sRetN, sNil, sBrk, sCnt, sIf, sAsg, gNm, gN, gC, gTp, eVar, eC, eOp, eBlt, eIf, eTup, eLst, eNot, tVal, tCmp, tNotM, tAndM, tOrM, aNil, aCons, ofO, R.bind, R.bindS, R.go, mInt, mMod, mFdiv, mAdd, mSub, mMul, mTruth, mPow, mGe, hc, F]) ns.length 0 [] (by simp) rfl
  have hF : (ns.map MV.int).map F = (ns.map (fun c => if 1000000000000000000 ≤ c then c else 0)).map MV.int := by simp [F]
  rw [List.drop_zero, List.nil_append, hF] at hl
  have hd : eDisp [(eC (.str [99, 101, 108, 108, 115]), eCall 1 m_law_folded (aCons (eVar 0) (aNil))), (eC (.str [103, 114, 101, 97, 116]), eLst (aNil)), (eC (.str [115, 112, 111, 116]), eC (.int 0))] [some (.ro (ns.map .int)), none, none] [] = .ok (.ref 2) h3 := by
    simp [sSeq, sExpr, sRet, sRetN, sNil, sBrk, sCnt, sIf, sAsg, gNm, gN, gC, gTp, eVar, eC, eOp, eBlt, eIf, eTup, eLst, eNot, tVal, tCmp, tNotM, tAndM, tOrM, aNil, aCons, ofO, R.bind, R.bindS, R.go, mInt, mMod, mFdiv, mAdd, mSub, mMul, mTruth, eDisp, pairsM, eCall, e, keyOf, h3]
    rfl
  rw [m_law_begun, runFn, b_law_begun]
  simp only [List.map_cons, List.map_nil, List.length_cons, List.length_nil, List.cons_append, List.nil_append, List.replicate]
  simp only [sSeq, sAsg, hd, R.bindS, gNm, R.go, List.set, sSub, eLc, jSeq, eVar, eC, R.bind, List.getElem?_cons_zero, List.getElem?_cons_succ, wipeM]
  rw [show (MIt.items (ns.map MV.int)).fuel h3 = ns.length from List.length_map ..]
  rw [hl]
  rfl
end MP.Cm

/-! the plain layer: how mirrors go, step by step -/
namespace MP
open PySem L2
section
variable {α β : Type} {s : Sl} {h : MH}
@[simp] theorem bind_ok (a : α) (h : MH) (f : α → MH → R β) : (R.ok a h).bind f = f a h := rfl
@[simp] theorem bind_err (x : MX) (h : MH) (f : α → MH → R β) : (R.err x h : R α).bind f = .err x h := rfl
@[simp] theorem bind_stuck (f : α → MH → R β) : (R.stuck : R α).bind f = .stuck := rfl
@[simp] theorem bindS_ok (a : α) (h : MH) (s : Sl) (f : α → MH → SR) : (R.ok a h).bindS s f = f a h := rfl
@[simp] theorem bindS_err (x : MX) (h : MH) (s : Sl) (f : α → MH → SR) : (R.err x h : R α).bindS s f = .err x s h := rfl
@[simp] theorem go_ok (s : Sl) (h : MH) (f : Sl → MH → SR) : (R.ok s h).go f = f s h := rfl
@[simp] theorem ofO_some (v : MV) (h : MH) : ofO (some (v, h)) = .ok v h := rfl
@[simp] theorem ofB_some (b : Bool) (h : MH) : ofB (some b) h = .ok b h := rfl
@[simp] theorem eVar_ap (i : Nat) (s : Sl) (h : MH) : eVar i s h = match s[i]? with
  | some (some v) => .ok v h
  | _ => .stuck := rfl
@[simp] theorem eC_ap (v : MV) (s : Sl) (h : MH) : eC v s h = .ok v h := rfl
@[simp] theorem eOp_ap (f : F2) (a b : ME) (s : Sl) (h : MH) : eOp f a b s h = (a s h).bind fun x h1 => (b s h1).bind fun y h2 => ofO (f x y h2) := rfl
@[simp] theorem eIf_ap (t : MT) (a b : ME) (s : Sl) (h : MH) : eIf t a b s h = (t s h).bind fun c h1 => if c then a s h1 else b s h1 := rfl
@[simp] theorem eTup_ap (a : MA) (s : Sl) (h : MH) : eTup a s h = (a s h).bind fun xs h1 => if xs.length ≤ sizeLine then .ok (.tup xs) h1 else .stuck := rfl
@[simp] theorem eLstV_ap (a : MA) (s : Sl) (h : MH) : eLstV a s h = (a s h).bind fun xs h1 => if xs.length ≤ sizeLine then .ok (.lv xs) h1 else .stuck := rfl
@[simp] theorem eLst_ap (a : MA) (s : Sl) (h : MH) : eLst a s h = (a s h).bind fun xs h1 => if xs.length ≤ sizeLine then .ok (.ref h1.length) (h1 ++ [.lst xs]) else .stuck := rfl
@[simp] theorem aNil_ap (s : Sl) (h : MH) : aNil s h = .ok [] h := rfl
@[simp] theorem aCons_ap (a : ME) (b : MA) (s : Sl) (h : MH) : aCons a b s h = (a s h).bind fun x h1 => (b s h1).bind fun xs h2 => .ok (x :: xs) h2 := rfl
@[simp] theorem eBlt_ap (f : FA) (a : MA) (s : Sl) (h : MH) : eBlt f a s h = (a s h).bind fun xs h1 => ofO (f xs h1) := rfl
@[simp] theorem eCall_ap (n : Nat) (m : MF) (a : MA) (s : Sl) (h : MH) : eCall n m a s h = (a s h).bind fun xs h1 => if xs.length = n then m xs h1 else .stuck := rfl
@[simp] theorem eBm_ap (t : Ty) (f : FM) (o : ME) (a : MA) (s : Sl) (h : MH) : eBm t f o a s h = (o s h).bind fun x h1 => if isRcv t x h1 then (a s h1).bind fun xs h2 => ofO (f x xs h2) else .stuck := rfl
@[simp] theorem eCutV_ap (a : ME) (lo hi : MP_) (s : Sl) (h : MH) : eCutV a lo hi s h = (a s h).bind fun x h1 => (lo s h1).bind fun l h2 => (hi s h2).bind fun u h3 => ofO (mCutV x l u h3) := rfl
@[simp] theorem pNo_ap (s : Sl) (h : MH) : pNo s h = .ok none h := rfl
@[simp] theorem pSo_ap (a : ME) (s : Sl) (h : MH) : pSo a s h = (a s h).bind fun x h1 => match x with
  | .int i => .ok (some i) h1
  | _ => .stuck := rfl
@[simp] theorem eNeg_ap (a : ME) (s : Sl) (h : MH) : eNeg a s h = (a s h).bind fun x h1 => match x with
  | .int i => .ok (.int (-i)) h1
  | _ => .stuck := rfl
@[simp] theorem eAnd_ap (a b : ME) (s : Sl) (h : MH) : eAnd a b s h = (a s h).bind fun x h1 => match x with
  | .bl true => b s h1
  | .bl false => .ok (.bl false) h1
  | _ => .stuck := rfl
@[simp] theorem eOr_ap (a b : ME) (s : Sl) (h : MH) : eOr a b s h = (a s h).bind fun x h1 => match x with
  | .bl false => b s h1
  | .bl true => .ok (.bl true) h1
  | _ => .stuck := rfl
@[simp] theorem eNot_ap (a : ME) (s : Sl) (h : MH) : eNot a s h = (a s h).bind fun x h1 => (ofB (mTruth x h1) h1).bind fun c h2 => .ok (.bl (!c)) h2 := rfl
@[simp] theorem eFld_ap (cs : List CP) (f : CP) (o : ME) (s : Sl) (h : MH) : eFld cs f o s h = (o s h).bind fun y h1 => match y with
  | .ref n => match h1[n]? with
    | some (.ins c fs) => if cs.contains c then (match getF f fs with
      | some v => .ok v h1
      | none => .stuck) else .stuck
    | _ => .stuck
  | _ => .stuck := rfl
@[simp] theorem tVal_ap (a : ME) (s : Sl) (h : MH) : tVal a s h = (a s h).bind fun x h1 => ofB (mTruth x h1) h1 := rfl
@[simp] theorem tCmp_ap (f : F2) (a b : ME) (s : Sl) (h : MH) : tCmp f a b s h = (a s h).bind fun x h1 => (b s h1).bind fun y h2 => match f x y h2 with
  | some (.bl k, h3) => .ok k h3
  | _ => .stuck := rfl
@[simp] theorem tNotM_ap (t : MT) (s : Sl) (h : MH) : tNotM t s h = (t s h).bind fun c h1 => .ok (!c) h1 := rfl
@[simp] theorem tAndM_ap (t u : MT) (s : Sl) (h : MH) : tAndM t u s h = (t s h).bind fun c h1 => if c then u s h1 else .ok false h1 := rfl
@[simp] theorem tOrM_ap (t u : MT) (s : Sl) (h : MH) : tOrM t u s h = (t s h).bind fun c h1 => if c then .ok true h1 else u s h1 := rfl
@[simp] theorem tYesM_ap (s : Sl) (h : MH) : tYesM s h = .ok true h := rfl
@[simp] theorem tB_ap (a : ME) (s : Sl) (h : MH) : tB a s h = (a s h).bind fun v h1 => match v with
  | .bl k => .ok k h1
  | _ => .stuck := rfl
@[simp] theorem eChain_ap (f g : F2) (a b c : ME) (s : Sl) (h : MH) : eChain f g a b c s h = (a s h).bind fun x h1 => (b s h1).bind fun y h2 => (ofO (f x y h2)).bind fun z h3 => match z with
  | .bl true => (c s h3).bind fun w h4 => ofO (g y w h4)
  | .bl false => .ok (.bl false) h3
  | _ => .stuck := rfl
@[simp] theorem sNil_ap (s : Sl) (h : MH) : sNil s h = .nx s h := rfl
@[simp] theorem sSeq_ap (a b : MS) (s : Sl) (h : MH) : sSeq a b s h = match a s h with
  | .nx s1 h1 => b s1 h1
  | o => o := rfl
@[simp] theorem sExpr_ap (e : ME) (s : Sl) (h : MH) : sExpr e s h = (e s h).bindS s fun _ h1 => .nx s h1 := rfl
@[simp] theorem sRet_ap (e : ME) (s : Sl) (h : MH) : sRet e s h = (e s h).bindS s fun v h1 => .rt v h1 := rfl
@[simp] theorem sRetN_ap (s : Sl) (h : MH) : sRetN s h = .rt .non h := rfl
@[simp] theorem sIf_ap (t : MT) (a b : MS) (s : Sl) (h : MH) : sIf t a b s h = (t s h).bindS s fun c h1 => if c then a s h1 else b s h1 := rfl
@[simp] theorem sAsg_ap (e : ME) (g : MG) (s : Sl) (h : MH) : sAsg e g s h = (e s h).bindS s fun v h1 => (g v s h1).go fun s' h2 => .nx s' h2 := rfl
@[simp] theorem gNm_ap (i : Nat) (v : MV) (s : Sl) (h : MH) : gNm i v s h = .ok (s.set i (some v)) h := rfl
@[simp] theorem gN_ap (s : Sl) (h : MH) : gN [] s h = .ok s h := rfl
@[simp] theorem gC_ap (g : MG) (gs : MGs) (v : MV) (r : List MV) (s : Sl) (h : MH) : gC g gs (v :: r) s h = (g v s h).bind fun s1 h1 => gs r s1 h1 := rfl
@[simp] theorem gTp_ap (n : Nat) (gs : MGs) (xs : List MV) (s : Sl) (h : MH) : gTp n gs (.tup xs) s h = if xs.length = n then gs xs s h else .stuck := rfl
@[simp] theorem sPar_ap (i j : Nat) (a : MA) (s : Sl) (h : MH) : sPar i j a s h = (a s h).bindS s fun vs h1 => match vs with
  | [v, w] => .nx ((s.set i (some v)).set j (some w)) h1
  | _ => .stuck := rfl
@[simp] theorem sPar3_ap (i j l : Nat) (a : MA) (s : Sl) (h : MH) : sPar3 i j l a s h = (a s h).bindS s fun vs h1 => match vs with
  | [v, w, u] => .nx (((s.set i (some v)).set j (some w)).set l (some u)) h1
  | _ => .stuck := rfl
@[simp] theorem sFldM_ap (cs : List CP) (f : CP) (o e : ME) (s : Sl) (h : MH) : sFldM cs f o e s h = (e s h).bindS s fun v h1 => (o s h1).bindS s fun y h2 => match y with
  | .ref n => match h2[n]? with
    | some (.ins c fs) => if cs.contains c && decide (fs.length < 1000) then .nx s (h2.set n (.ins c (setF f v fs))) else .stuck
    | _ => .stuck
  | _ => .stuck := rfl
@[simp] theorem runFn_ap (n : Nat) (b : MS) (as : List MV) (h : MH) : runFn n b as h = match b (as.map some ++ List.replicate (n - as.length) none) h with
  | .rt v h' => .ok v h'
  | .nx _ h' => .ok .non h'
  | .err e _ h' => .err e h'
  | _ => .stuck := rfl
@[simp] theorem eMeth_ap (c x : CP) (np : Nat) (m : MF) (o : ME) (a : MA) (s : Sl) (h : MH) : eMeth c x np m o a s h = (o s h).bind fun y h1 => match y with
  | .ref n => match h1[n]? with
    | some (.ins c' fs) => if c' == c && noF x fs then (a s h1).bind fun xs h2 => if xs.length + 1 = np then m (.ref n :: xs) h2 else .stuck else .stuck
    | _ => .stuck
  | _ => .stuck := rfl
@[simp] theorem eMake_ap (c : CP) (np : Nat) (m : MF) (a : MA) (s : Sl) (h : MH) : eMake c np m a s h = (a s h).bind fun xs h1 => if xs.length + 1 = np then (m (.ref h1.length :: xs) (h1 ++ [.ins c []])).bind fun v h2 => (match v with
    | .non => .ok (.ref h1.length) h2
    | _ => .stuck) else .stuck := rfl
@[simp] theorem sFldAug_ap (cs : List CP) (f : CP) (g : F2) (o e : ME) (s : Sl) (h : MH) : sFldAug cs f g o e s h = (o s h).bindS s fun y h1 => match y with
  | .ref n => match h1[n]? with
    | some (.ins c fs) => if cs.contains c then (match getF f fs with
      | some v => (e s h1).bindS s fun u h2 => match g v u h2 with
        | some (z, h3) => (match h3[n]? with
          | some (.ins c' fs') => if c' == c && decide (fs'.length < 1000) then .nx s (h3.set n (.ins c (setF f z fs'))) else .stuck
          | _ => .stuck)
        | none => .stuck
      | none => .stuck) else .stuck
    | _ => .stuck
  | _ => .stuck := rfl
@[simp] theorem sAug_ap (i : Nat) (f : F2) (e : ME) (s : Sl) (h : MH) : sAug i f e s h = match s[i]? with
  | some (some v) => (e s h).bindS s fun w h1 => (match f v w h1 with
    | some (z, h2) => .nx (s.set i (some z)) h2
    | none => .stuck)
  | _ => .stuck := by rfl
@[simp] theorem sSub_ap (o i e : ME) (s : Sl) (h : MH) : sSub o i e s h = (e s h).bindS s fun v h1 => (o s h1).bindS s fun x h2 => (i s h2).bindS s fun y h3 => match mSet x y v h3 with
  | some h4 => .nx s h4
  | none => .stuck := by rfl
@[simp] theorem jSeq_str (a : ME) (s : Sl) (h : MH) : jSeq a s h = (a s h).bind fun x h1 => match x with
  | .ref n => match lstAt h1 n with
    | some _ => .ok (.lst n) h1
    | none => .stuck
  | .tup xs => .ok (.items xs) h1
  | .str l => .ok (.items (l.map fun c => .str [c])) h1
  | .ro xs => .ok (.items xs) h1
  | .lv xs => .ok (.items xs) h1
  | _ => .stuck := rfl
@[simp] theorem jRng1_ap (a : MA) (s : Sl) (h : MH) : jRng1 a s h = (a s h).bind fun xs h1 => match xs with
  | [.int j] => if -(2 ^ 62) ≤ j ∧ j < 2 ^ 62 then .ok (.items (upTo 0 j.toNat)) h1 else .stuck
  | _ => .stuck := rfl
@[simp] theorem jRng2_ap (a : MA) (s : Sl) (h : MH) : jRng2 a s h = (a s h).bind fun xs h1 => match xs with
  | [.int i, .int j] => if -(2 ^ 62) ≤ i ∧ i < 2 ^ 62 ∧ -(2 ^ 62) ≤ j ∧ j < 2 ^ 62 then .ok (.items (upTo i (j - i).toNat)) h1 else .stuck
  | _ => .stuck := rfl
@[simp] theorem jEnum_ap (a : MA) (s : Sl) (h : MH) : jEnum a s h = (a s h).bind fun xs h1 => match xs with
  | [.str l] => .ok (.items (enumL 0 (l.map fun c => .str [c]))) h1
  | [.tup xs] => .ok (.items (enumL 0 xs)) h1
  | [.ro xs] => .ok (.items (enumL 0 xs)) h1
  | [.lv xs] => .ok (.items (enumL 0 xs)) h1
  | [.ref n] => (match lstAt h1 n with
    | some _ => .ok (.enumL n) h1
    | none => .stuck)
  | _ => .stuck := rfl
end
/-! ### loops over items -/
def forL (g : MG) (b : MS) : List MV → Sl → MH → SR
  | [], s, h => .nx s h
  | x :: xs, s, h => (g x s h).go fun s1 h1 => match b s1 h1 with
    | .nx s2 h2 => forL g b xs s2 h2
    | .ct s2 h2 => forL g b xs s2 h2
    | .bk s2 h2 => .nx s2 h2
    | o => o
theorem forM_L (g : MG) (b : MS) (xs : List MV) : ∀ (n i : Nat) (s : Sl) (h : MH), i + n = xs.length → forM (.items xs) g b n i s h = forL g b (xs.drop i) s h := by
  intro n
  induction n with
  | zero =>
    intro i s h hi
    have e : xs[i]? = none := List.getElem?_eq_none (by omega)
    rw [forM_zero, List.drop_of_length_le (by omega)]
    simp [MIt.at, e, forL]
  | succ n ih =>
    intro i s h hi
    have hl : i < xs.length := by omega
    have e : xs[i]? = some xs[i] := List.getElem?_eq_getElem hl
    rw [forM_succ, List.drop_eq_getElem_cons hl, forL]
    simp only [MIt.at, e]
    congr 1
    funext s1 h1
    cases b s1 h1 with
    | nx s2 h2 => exact ih (i + 1) s2 h2 (by omega)
    | ct s2 h2 => exact ih (i + 1) s2 h2 (by omega)
    | _ => rfl
@[simp] theorem for_items (xs : List MV) (g : MG) (b : MS) (s : Sl) (h : MH) : forM (.items xs) g b ((MIt.items xs).fuel h) 0 s h = forL g b xs s h := by
  have := forM_L g b xs xs.length 0 s h (by omega)
  rw [List.drop_zero] at this
  exact this
@[simp] theorem sFor_ap (mi : MI) (g : MG) (b : MS) (s : Sl) (h : MH) : sFor mi g b s h = (mi s h).bindS s fun it h1 => forM it g b (it.fuel h1) 0 s h1 := rfl
/-- a loop by an invariant over what is done and what is left -/
theorem forL_inv {g : MG} {b : MS} (P : List MV → Sl → MH → Prop)
    (step : ∀ x xs s h, P (x :: xs) s h → ∃ s1 h1 s2 h2, g x s h = .ok s1 h1 ∧ (b s1 h1 = .nx s2 h2 ∨ b s1 h1 = .ct s2 h2) ∧ P xs s2 h2) : ∀ xs s h, P xs s h → ∃ s' h', forL g b xs s h = .nx s' h' ∧ P [] s' h'
  | [], s, h, p => ⟨s, h, rfl, p⟩
  | x :: xs, s, h, p => by
    obtain ⟨s1, h1, s2, h2, e1, e2, p2⟩ := step x xs s h p
    obtain ⟨s', h', e3, p3⟩ := forL_inv P step xs s2 h2 p2
    refine ⟨s', h', ?_, p3⟩
    rcases e2 with e2 | e2 <;> simp [forL, e1, e2, e3]
/-- a comprehension over items -/
def lcL (t : Tg) (tt : MT) (te : ME) (sw : Sl) : List MV → List MV → MH → R MV
  | [], acc, h => .ok (.lv acc) h
  | x :: xs, acc, h => match t.run x sw with
    | some s2 => match tt s2 h with
      | .ok true h3 => (match te s2 h3 with
        | .ok y h4 => if acc.length < sizeLine then lcL t tt te sw xs (acc ++ [y]) h4 else .stuck
        | _ => .stuck)
      | .ok false h3 => lcL t tt te sw xs acc h3
      | _ => .stuck
    | none => .stuck
theorem lcW_L (t : Tg) (tt : MT) (te : ME) (sw : Sl) (xs : List MV) : ∀ (n i : Nat) (acc : List MV) (h : MH), i + n = xs.length → lcW (.items xs) t tt te sw n i acc h = lcL t tt te sw (xs.drop i) acc h := by
  intro n
  induction n with
  | zero =>
    intro i acc h hi
    have e : xs[i]? = none := List.getElem?_eq_none (by omega)
    rw [lcW_zero, List.drop_of_length_le (by omega)]
    simp [MIt.at, e, lcL]
  | succ n ih =>
    intro i acc h hi
    have hl : i < xs.length := by omega
    have e : xs[i]? = some xs[i] := List.getElem?_eq_getElem hl
    rw [lcW_succ, List.drop_eq_getElem_cons hl, lcL]
    simp only [MIt.at, e]
    cases t.run xs[i] sw with
    | none => rfl
    | some s2 =>
      dsimp only
      cases tt s2 h with
      | ok b h3 =>
        cases b with
        | false => exact ih (i + 1) acc h3 (by omega)
        | true =>
          dsimp only
          cases te s2 h3 with
          | ok y h4 =>
            dsimp only
            split
            · exact ih (i + 1) _ h4 (by omega)
            · rfl
          | _ => rfl
      | _ => rfl
@[simp] theorem lc_items (t : Tg) (tt : MT) (te : ME) (sw : Sl) (xs acc : List MV) (h : MH) : lcW (.items xs) t tt te sw ((MIt.items xs).fuel h) 0 acc h = lcL t tt te sw xs acc h := by
  have := lcW_L t tt te sw xs xs.length 0 acc h (by omega)
  rw [List.drop_zero] at this
  exact this
@[simp] theorem eLv_ap (mi : MI) (ws : List Nat) (t : Tg) (tt : MT) (te : ME) (s : Sl) (h : MH) : eLv mi ws t tt te s h = (mi s h).bind fun it h1 => lcW it t tt te (wipeM s ws) (it.fuel h1) 0 [] h1 := rfl
/-- a comprehension whose parts change nothing -/
theorem lcL_pure {t : Tg} {tt : MT} {te : ME} {sw : Sl} {h : MH} (p : MV → Bool) (f : MV → MV) : ∀ (xs acc : List MV), acc.length + xs.length ≤ sizeLine →
    (∀ x ∈ xs, ∃ s2, t.run x sw = some s2 ∧ tt s2 h = .ok (p x) h ∧ (p x = true → te s2 h = .ok (f x) h)) → lcL t tt te sw xs acc h = .ok (.lv (acc ++ (xs.filter p).map f)) h
  | [], acc, _, _ => by simp [lcL]
  | x :: xs, acc, hl, hx => by
    obtain ⟨s2, e1, e2, e3⟩ := hx x List.mem_cons_self
    simp only [List.length_cons] at hl
    cases hp : p x with
    | false =>
      rw [hp] at e2
      have ih := lcL_pure p f xs acc (by omega) fun y hy => hx y (List.mem_cons_of_mem _ hy)
      simp [lcL, e1, e2, ih, hp]
    | true =>
      rw [hp] at e2
      have ih := lcL_pure p f xs (acc ++ [f x]) (by simp; omega) fun y hy => hx y (List.mem_cons_of_mem _ hy)
      have hlt : acc.length < sizeLine := by omega
      simp [lcL, e1, e2, e3 hp, ih, hp, hlt]
theorem lcL_map {t : Tg} {te : ME} {sw : Sl} {h : MH} (f : MV → MV) (xs acc : List MV) (hl : acc.length + xs.length ≤ sizeLine)
    (hx : ∀ x ∈ xs, ∃ s2, t.run x sw = some s2 ∧ te s2 h = .ok (f x) h) : lcL t tYesM te sw xs acc h = .ok (.lv (acc ++ xs.map f)) h := by
  have := lcL_pure (tt := tYesM) (fun _ => true) f xs acc hl fun x hm => let ⟨s2, a, b⟩ := hx x hm; ⟨s2, a, rfl, fun _ => b⟩
  rw [this, List.filter_eq_self.mpr (fun _ _ => rfl)]
/-! ### data -/
/-- v is data of depth at most k and size at most w -/
structure Dat (k w : Nat) (v : MV) : Prop where
  bel : below 0 v = true
  d : ∃ d : PyData, (∀ n h, k < n → toD n h v = some d) ∧ d.showable = true ∧ d.hasDict = false ∧ d.depth ≤ k ∧ d.weight ≤ w ∧ d.leavesShort 640 = true ∧ d.canLay0 = true
structure DatL (k w : Nat) (vs : List MV) : Prop where
  bel : belowL 0 vs = true
  d : ∃ ds : List PyData, (∀ n h, k < n → mapO (toD n h) vs = some ds) ∧ PyData.showableAll ds = true ∧ PyData.hasDictAll ds = false ∧ PyData.depthAll ds ≤ k ∧ PyData.weightAll ds ≤ w ∧ PyData.leavesShortAll 640 ds = true ∧ PyData.canLayAll0 ds = true ∧ ds.length = vs.length
def okC (l : CP) : Prop := ∀ c ∈ l, c < 1114112
theorem Dat.non : Dat 0 0 .non := ⟨rfl, .none, fun n h hn => by cases n with | zero => omega | succ n => rfl, rfl, rfl, by decide, by decide, rfl, rfl⟩
theorem Dat.bl (b : Bool) : Dat 0 0 (.bl b) := ⟨rfl, .bool b, fun n h hn => by cases n with | zero => omega | succ n => rfl, rfl, rfl, by simp [PyData.depth], by simp [PyData.weight], rfl, rfl⟩
theorem Dat.str {l : CP} (hl : okC l) : Dat 0 l.length (.str l) := by
  refine ⟨rfl, .str (S l), fun n h hn => by cases n with | zero => omega | succ n => rfl, rfl, rfl, by simp [PyData.depth], by simp [PyData.weight, S], ?_, ?_⟩
  · simp only [PyData.leavesShort, S_toList, List.all_eq_true, decide_eq_true_eq]
    intro c hc
    have := hl c hc
    omega
  · simp only [PyData.canLay0, PyData.strOk, S]
    rw [Array.all_eq_true']
    intro c hc
    have := hl c (by simpa using hc)
    simpa using this
theorem Dat.mono {k w k' w' : Nat} {v : MV} (d : Dat k w v) (hk : k ≤ k') (hw : w ≤ w') : Dat k' w' v := by
  obtain ⟨b, x, h1, h2, h3, h4, h5, h6⟩ := d
  exact ⟨b, x, fun n h hn => h1 n h (by omega), h2, h3, by omega, by omega, h6⟩
theorem DatL.nil (k : Nat) : DatL k 0 [] := ⟨rfl, [], fun n h hn => rfl, rfl, rfl, by simp [PyData.depthAll], by simp [PyData.weightAll], rfl, rfl, rfl⟩
theorem DatL.cons {k w w' : Nat} {v : MV} {vs : List MV} (a : Dat k w v) (b : DatL k w' vs) : DatL k (w + 1 + w') (v :: vs) := by
  obtain ⟨b1, x, h1, h2, h3, h4, h5, h6, h7⟩ := a
  obtain ⟨b2, xs, g1, g2, g3, g4, g5, g6, g7, g8⟩ := b
  exact ⟨by simp [belowL, b1, b2], x :: xs, fun n h hn => by simp [mapO, h1 n h hn, g1 n h hn], by simp [PyData.showableAll, h2, g2], by simp [PyData.hasDictAll, h3, g3], by simp [PyData.depthAll]; omega, by simp only [PyData.weightAll]; omega, by simp [PyData.leavesShortAll, h6, g6], by simp [PyData.canLayAll0, h7, g7], by simp [g8]⟩
theorem DatL.of {k w : Nat} : ∀ {vs : List MV}, (∀ v ∈ vs, Dat k w v) → DatL k (vs.length * (w + 1)) vs
  | [], _ => by simpa using DatL.nil k
  | v :: vs, h => by
    have := DatL.cons (h v List.mem_cons_self) (DatL.of fun u hu => h u (List.mem_cons_of_mem _ hu))
    have e : (v :: vs).length * (w + 1) = w + 1 + vs.length * (w + 1) := by
      rw [List.length_cons, Nat.add_mul]; omega
    rw [e]
    exact this
theorem DatL.mono {k w k' w' : Nat} {v : List MV} (d : DatL k w v) (hk : k ≤ k') (hw : w ≤ w') : DatL k' w' v := by
  obtain ⟨b, x, h1, h2, h3, h4, h5, h6⟩ := d
  exact ⟨b, x, fun n h hn => h1 n h (by omega), h2, h3, by omega, by omega, h6⟩
theorem DatL.tup {k w : Nat} {vs : List MV} (a : DatL k w vs) : Dat (k + 1) w (.tup vs) := by
  obtain ⟨b2, xs, g1, g2, g3, g4, g5, g6, g7, g8⟩ := a
  refine ⟨by simpa [below] using b2, .tuple xs, fun n h hn => ?_, g2, g3, by simp only [PyData.depth]; omega, by simpa only [PyData.weight] using g5, g6, g7⟩
  cases n with
  | zero => omega
  | succ n => simp [toD, g1 n h (by omega)]
theorem DatL.lv {k w : Nat} {vs : List MV} (a : DatL k w vs) : Dat (k + 1) w (.lv vs) := by
  obtain ⟨b2, xs, g1, g2, g3, g4, g5, g6, g7, g8⟩ := a
  refine ⟨by simpa [below] using b2, .list xs, fun n h hn => ?_, g2, g3, by simp only [PyData.depth]; omega, by simpa only [PyData.weight] using g5, g6, g7⟩
  cases n with
  | zero => omega
  | succ n => simp [toD, g1 n h (by omega)]
theorem Dat.repr {k w : Nat} {v : MV} (a : Dat k w v) (hk : k ≤ 60) (hw : w ≤ 20000) : ∃ s, ∀ h, mRepr [v] h = some (.str s, h) := by
  obtain ⟨b, x, h1, h2, h3, h4, h5, h6, h7⟩ := a
  refine ⟨x.shown.cps.toList, fun h => ?_⟩
  have := PyData.shown_le 640 (by decide) x h6
  have hs : x.shown.length ≤ sizeLine := by
    have : (sizeLine : Nat) = 16777216 := by rfl
    omega
  have ok : okRepr x = true := by
    simp only [okRepr, h2, h3, Bool.not_false, Bool.and_self, Bool.true_and, Bool.and_eq_true, Nat.ble_eq]
    exact ⟨by omega, hs⟩
  simp [mRepr, h1 64 h (by omega), ok]
@[simp] theorem eqv_str (x y : CP) (h : MH) : mEqv (.str x) (.str y) h = some (x == y) := rfl
@[simp] theorem eqv_int (x y : Int) (h : MH) : mEqv (.int x) (.int y) h = some (x == y) := rfl
@[simp] theorem eqv_bl (x y : Bool) (h : MH) : mEqv (.bl x) (.bl y) h = some (x == y) := rfl
@[simp] theorem eqv_non (h : MH) : mEqv .non .non h = some true := rfl
@[simp] theorem eqv_nonI (y : Int) (h : MH) : mEqv .non (.int y) h = some false := rfl
@[simp] theorem eqv_lvN (xs : List MV) (h : MH) : mEqv (.lv xs) (.lv []) h = some xs.isEmpty := rfl
@[simp] theorem eqv_tupN (xs : List MV) (h : MH) : mEqv (.tup xs) (.tup []) h = some xs.isEmpty := rfl
theorem eqv_refN {n : Nat} {xs : List MV} {h : MH} (e : lstAt h n = some xs) : mEqv (.ref n) (.lv []) h = some xs.isEmpty := by
  simp [mEqv, eqE, lstV, e]
theorem Dat.eqv_self {k w : Nat} {v : MV} (a : Dat k w v) (hk : k ≤ 60) (h : MH) : mEqv v v h = some true := by
  obtain ⟨b, x, h1, h2, h3, h4, h5, h6, h7⟩ := a
  have sh : SeqAt.shaped x = true := by
    simp only [SeqAt.shaped, h7, Bool.true_and, decide_eq_true_eq]; omega
  have e := h1 64 h (by omega)
  have er : PyData.eqv x x = true := SeqAt.eqv_refl x h7
  have e0 : mEqv0 v v h = some true := by
    cases v <;> simp [mEqv0] <;> first | (simp only [e, sh, er]; simp) | skip
  unfold mEqv
  cases v with
  | lv xs => cases xs with
    | nil => rfl
    | cons y ys => simp only [eqE]; exact e0
  | tup xs => cases xs with
    | nil => rfl
    | cons y ys => simp only [eqE]; exact e0
  | _ => simp only [eqE]; exact e0
@[simp] theorem mEq_ap (a b : MV) (h : MH) : mEq a b h = (mEqv a b h).map fun k => (.bl k, h) := rfl
@[simp] theorem mNe_ap (a b : MV) (h : MH) : mNe a b h = (mEqv a b h).map fun k => (.bl (!k), h) := rfl
@[simp] theorem mIn_ap (a b : MV) (h : MH) : mIn a b h = (mInB a b h).map fun k => (.bl k, h) := rfl
@[simp] theorem mNotIn_ap (a b : MV) (h : MH) : mNotIn a b h = (mInB a b h).map fun k => (.bl (!k), h) := rfl
@[simp] theorem inB_str (a b : CP) (h : MH) : mInB (.str a) (.str b) h = some (inS a b) := rfl
@[simp] theorem truth_bl (b : Bool) (h : MH) : mTruth (.bl b) h = some b := rfl
@[simp] theorem rcv_str (l : CP) (h : MH) : isRcv .str (.str l) h = true := rfl
theorem Dat.int {i : Int} (hi : i.natAbs < 1000000000000) : Dat 0 64 (.int i) := by
  have hl : i.natAbs.log2 < 40 := by
    by_cases hz : i.natAbs = 0
    · rw [hz]; decide
    · rw [Nat.log2_lt hz]; omega
  refine ⟨rfl, .int i, fun n h hn => by cases n with | zero => omega | succ n => rfl, ?_, rfl, by simp [PyData.depth], ?_, ?_, rfl⟩
  · simp only [PyData.showable, decide_eq_true_eq]; omega
  · simp only [PyData.weight]; split <;> omega
  · simp only [PyData.leavesShort]
    apply decide_eq_true
    have := int_text_length_le (a := i) (k := 40) (by decide) hl
    show (Str.ofString (toString i)).length ≤ 640
    rw [ofString_length]
    omega
end MP

/-! plain summaries of the program's first part: signs, pages -/
namespace MP.Pg
open PySem L2 MP MP.Pr
theorem szs : sizeLine = 16777216 := rfl
theorem inS_one (c : Nat) : ∀ b : CP, inS [c] b = b.contains c
  | [] => by simp [inS]
  | d :: b => by
    simp only [inS, inS_one c b, List.isPrefixOf, List.contains_cons, Bool.and_true]
theorem inS_nil : ∀ b : CP, inS [] b = true
  | [] => rfl
  | _ :: _ => rfl
def oT : Option Nat → CP
  | none => []
  | some c => [c]
def opener (c : Nat) : Bool := c == 40 || c == 91
def closing (c : Nat) : Bool := c == 41 || c == 93 || c == 39
def letter (c : Nat) : Bool := decide (97 ≤ c ∧ c ≤ 122)
def free (c : Nat) : Bool := c == 41 || c == 93 || c == 39 || c == 32 || c == 47
def closerN (c : Nat) : Option Nat := if c = 39 then some 39 else if c = 40 then some 41 else if c = 91 then some 93 else none
theorem letters_eq (c : Nat) : ([97, 98, 99, 100, 101, 102, 103, 104, 105, 106, 107, 108, 109, 110, 111, 112, 113, 114, 115, 116, 117, 118, 119, 120, 121, 122] : CP).contains c = letter c := by
  rw [Bool.eq_iff_iff]
  simp [letter]
  omega
theorem closer_ok (o : Option Nat) (g : MH) : m_closer_of [.str (oT o)] g = .ok (.str (oT (o.bind closerN))) g := by
  cases o with
  | none => rfl
  | some c =>
    by_cases h1 : c = 39
    · subst h1; rfl
    by_cases h2 : c = 40
    · subst h2; rfl
    by_cases h3 : c = 91
    · subst h3; rfl
    simp [m_closer_of, b_closer_of, v_QUOTE, v_OPENERS, oT, inS_one, h1, h2, h3, closerN]
theorem letter_ok (o : Option Nat) (g : MH) : m_is_letter [.str (oT o)] g = .ok (.bl (o.elim false letter)) g := by
  cases o with
  | none => rfl
  | some c =>
    simp [m_is_letter, b_is_letter, v_LETTERS, oT, inS_one]
    rw [Bool.eq_iff_iff]
    simp [letter]
    omega
theorem closing_ok (o : Option Nat) (g : MH) : m_is_closing [.str (oT o)] g = .ok (.bl (o.elim false closing)) g := by
  cases o with
  | none => rfl
  | some c =>
    simp [m_is_closing, b_is_closing, v_CLOSERS, v_QUOTE, oT, inS_one, mAddV, lstR, mAdd, szs]
    rw [Bool.eq_iff_iff]
    simp [closing, or_assoc]
theorem free_ok (o : Option Nat) (g : MH) : m_is_free [.str (oT o)] g = .ok (.bl (o.elim true free)) g := by
  cases o with
  | none => rfl
  | some c =>
    simp [m_is_free, b_is_free, v_CLOSERS, v_QUOTE, v_BLANK, v_LINE, oT, inS_one, mAddV, lstR, mAdd, szs]
    rw [Bool.eq_iff_iff]
    simp [free, or_assoc]
/-! ### within quotes -/
def withinA : Bool → CP → Bool
  | b, [] => b
  | b, c :: t => withinA (if c = 47 then false else if c = 39 then !b else b) t
def within (l : CP) : Bool := withinA false l
theorem withinA_snoc (c : Nat) : ∀ (l : CP) (b : Bool), withinA b (l ++ [c]) = if c = 47 then false else if c = 39 then !withinA b l else withinA b l
  | [], b => by simp [withinA]
  | d :: l, b => by simp only [List.cons_append, withinA, withinA_snoc c l]
def after : CP → CP
  | [] => []
  | d :: r => if r.contains 47 then after r else if d = 47 then r else d :: r
def par (l : CP) : Bool := decide (cntL 39 l % 2 = 1)
theorem cnt_nn (c : Nat) : ∀ l : CP, 0 ≤ cntL c l ∧ cntL c l ≤ l.length
  | [] => by simp [cntL]
  | d :: l => by
    have := cnt_nn c l
    simp only [cntL, List.length_cons]
    split <;> omega
theorem par_cons (d : Nat) (l : CP) : par (d :: l) = if d = 39 then !par l else par l := by
  have := cnt_nn 39 l
  by_cases h : d = 39
  · simp only [par, cntL, h, if_true]
    rw [Bool.eq_iff_iff]
    simp
    omega
  · simp [par, cntL, h]
theorem within_after : ∀ (l : CP) (b : Bool), withinA b l = if l.contains 47 then par (after l) else (b != par l)
  | [], b => by simp [withinA, par, cntL]
  | d :: l, b => by
    rw [withinA, within_after l]
    by_cases h : l.contains 47 = true
    · have : (d :: l).contains 47 = true := by rw [List.contains_cons, h, Bool.or_true]
      rw [if_pos h, if_pos this, after, if_pos h]
    · rw [if_neg h]
      by_cases hd : d = 47
      · subst hd
        have : (47 :: l).contains 47 = true := by simp
        rw [if_pos rfl, if_pos this, after, if_neg h, if_pos rfl]
        cases par l <;> rfl
      · have : ¬ (d :: l).contains 47 = true := by rw [List.contains_cons]; simpa [Ne.symm hd] using h
        rw [if_neg hd, if_neg this, par_cons]
        by_cases h39 : d = 39
        · simp only [h39, if_true]; cases b <;> cases par l <;> rfl
        · simp only [h39, if_false]
theorem lastIx_after : ∀ l : CP, l.drop (lastIx 47 l + 1).toNat = after l ∧ (lastIx 47 l = -1 ↔ l.contains 47 = false) ∧ -1 ≤ lastIx 47 l ∧ lastIx 47 l < l.length
  | [] => by simp [lastIx, after]
  | d :: l => by
    obtain ⟨e, i1, i2, i3⟩ := lastIx_after l
    by_cases h : l.contains 47 = true
    · have hn : ¬ lastIx 47 l = -1 := fun z => by rw [i1.mp z] at h; cases h
      rw [lastIx, if_neg hn, after, if_pos h]
      refine ⟨?_, ?_, by omega, by simp only [List.length_cons]; omega⟩
      · have : (lastIx 47 l + 1 + 1).toNat = (lastIx 47 l + 1).toNat + 1 := by omega
        rw [this, List.drop_succ_cons, e]
      · rw [List.contains_cons, h, Bool.or_true]
        constructor
        · intro z; omega
        · intro z; cases z
    · have hf : l.contains 47 = false := by simpa using h
      have hn : lastIx 47 l = -1 := i1.mpr hf
      rw [lastIx, if_pos hn, after, if_neg h]
      by_cases hd : d = 47
      · subst hd
        simp
      · simp [hd, Ne.symm hd]
        constructor
        · simpa using hf
        · omega
theorem cut_from {l : CP} {k : Int} (h : 0 ≤ k) : cutM l (some k) none = l.drop k.toNat := by
  unfold cutM
  simp only [HT.sIx, if_neg (show ¬ k < 0 by omega)]
  by_cases hk : k.toNat ≤ l.length
  · rw [Nat.min_eq_left hk, List.take_of_length_le (by simp)]
  · rw [Nat.min_eq_right (by omega), List.drop_of_length_le (Nat.le_refl _), List.drop_of_length_le (by omega)]
    simp
theorem within_ok {l : CP} (hl : l.length ≤ 100000) (g : MH) : m_is_within [.str l] g = .ok (.bl (within l)) g := by
  obtain ⟨e, i1, i2, i3⟩ := lastIx_after l
  have hc := cnt_nn 39 (after l)
  have ha : (after l).length ≤ l.length := by rw [← e]; simp
  have ew : within l = par (after l) := by
    unfold within
    rw [within_after]
    by_cases h : l.contains 47 = true
    · rw [if_pos h]
    · have hf : l.contains 47 = false := by simpa using h
      rw [if_neg h]
      have : after l = l := by rw [← e, i1.mpr hf]; simp
      rw [this]; cases par l <;> rfl
  have h0 : (-18446744073709551616 : Int) < 2 ∧ (2 : Int) < 18446744073709551616 := by decide
  have hs : l.length ≤ 16777216 := by omega
  simp [m_is_within, b_is_within, v_LINE, v_QUOTE, mRfind, mCutV, lstV, mCut, szs, hs, mAddV, lstR, mAdd, mCount, cut_from (show 0 ≤ lastIx 47 l + 1 by omega), e, mFdiv, mMulV, mMul, h0, mSub, ew, par]
  rw [Bool.eq_iff_iff]
  simp
  omega
end MP.Pg

/-! the class Page -/
namespace MP.Pg
open PySem L2 MP MP.Pr
abbrev Rt := List (Nat × Bool)
def prV (p : Nat × Bool) : MV := .tup [.str [p.1], .bl p.2]
def rtV (r : Rt) : List MV := r.map prV
structure Bk where
  a : CP
  b : CP
  c : CP
  d : CP
  e : CP
  f : CP
def Bk.v (b : Bk) : MV := .tup [.str b.a, .str b.b, .str b.c, .str b.d, .str b.e, .str b.f]
abbrev kBack : CP := [98, 97, 99, 107]
abbrev kRight : CP := [114, 105, 103, 104, 116]
abbrev kEnd : CP := [101, 110, 100]
abbrev wAny : CP := [97, 110, 121]
abbrev wOwn : CP := [111, 119, 110]
abbrev wAlways : CP := [97, 108, 119, 97, 121, 115]
abbrev wFree : CP := [102, 114, 101, 101]
abbrev wSame : CP := [115, 97, 109, 101]
abbrev wApart : CP := [97, 112, 97, 114, 116]
abbrev wLine : CP := [108, 105, 110, 101]
def nx (r : Rt) : Option Nat := r.head?.map (·.1)
def ow (r : Rt) : Bool := (r.head?.map (·.2)).getD false
/-! ### what keys make of a page -/
def lets (w : CP) (o : Bool) : Bool := w == wAny || w == wOwn && o
def doesPut (B : Bk) (l : CP) (r : Rt) (c : Nat) : Bool :=
  if B.c != wSame && within l then false
  else if opener c then B.a == wAlways || B.a == wFree && (nx r).elim true free
  else if B.b != wApart then B.b == wAlways
  else (nx r).elim true free && (!(l.getLast?.elim false letter) && !(l.getLast? == some 39))
def typeS (B : Bk) (l : CP) (r : Rt) (c : Nat) : CP × Rt :=
  if closing c && nx r == some c && lets B.d (ow r) then (l ++ [c], r.tail)
  else
    let r1 : Rt := match closerN c with
      | some k => if doesPut B l r c then (k, true) :: r else r
      | none => r
    (l ++ [c], if c == 47 && B.f == wLine then r1.map (fun p => (p.1, false)) else r1)
def backR (B : Bk) (r : Rt) : Option Nat → Rt
  | some k => if nx r == some k && lets B.e (ow r) then r.tail else r
  | none => r
def backS (B : Bk) (l : CP) (r : Rt) : CP × Rt := match l.getLast? with
  | none => (l, r)
  | some c => (l.dropLast, backR B r (closerN c))
def overS (l : CP) (r : Rt) : CP × Rt := match r with
  | [] => (l, [])
  | p :: t => (l ++ [p.1], t)
def endS (l : CP) (r : Rt) : CP × Rt := (l ++ (r.takeWhile (·.2)).map (·.1), r.dropWhile (·.2))
inductive Ky where
  | back | right | end_ | sg (c : Nat)
def Ky.t : Ky → CP
  | .back => kBack
  | .right => kRight
  | .end_ => kEnd
  | .sg c => [c]
def pressS (B : Bk) (l : CP) (r : Rt) : Ky → CP × Rt
  | .back => backS B l r
  | .right => overS l r
  | .end_ => endS l r
  | .sg c => typeS B l r c
/-! ### the object -/
structure PgAt (h : MH) (n k : Nat) (l : CP) (r : Rt) : Prop where
  pg : h[n]? = some (.ins n_Page [(f_left, .str l), (f_right, .ref k)])
  ls : h[k]? = some (.lst (rtV r.reverse))
theorem PgAt.lst {h : MH} {n k : Nat} {l : CP} {r : Rt} (p : PgAt h n k l r) : lstAt h k = some (rtV r.reverse) := by simp [lstAt, p.ls]
theorem PgAt.ne {h : MH} {n k : Nat} {l : CP} {r : Rt} (p : PgAt h n k l r) : n ≠ k := fun z => by
  have := p.pg
  rw [z, p.ls] at this
  cases this
@[simp] theorem getL (a b : MV) : getF f_left [(f_left, a), (f_right, b)] = some a := rfl
@[simp] theorem getR (a b : MV) : getF f_right [(f_left, a), (f_right, b)] = some b := rfl
@[simp] theorem setL (v a b : MV) : setF f_left v [(f_left, a), (f_right, b)] = [(f_left, v), (f_right, b)] := rfl
@[simp] theorem setR (v a b : MV) : setF f_right v [(f_left, a), (f_right, b)] = [(f_left, a), (f_right, v)] := rfl
@[simp] theorem hasPg : ([n_Page] : List CP).contains n_Page = true := rfl
@[simp] theorem noNS (a b : MV) : noF x_next_sign [(f_left, a), (f_right, b)] = true := rfl
@[simp] theorem noNO (a b : MV) : noF x_is_next_own [(f_left, a), (f_right, b)] = true := rfl
@[simp] theorem noGO (a b : MV) : noF x_go_over [(f_left, a), (f_right, b)] = true := rfl
@[simp] theorem noGB (a b : MV) : noF x_go_back [(f_left, a), (f_right, b)] = true := rfl
@[simp] theorem noDP (a b : MV) : noF x_does_put [(f_left, a), (f_right, b)] = true := rfl
@[simp] theorem noTS (a b : MV) : noF x_type_sign [(f_left, a), (f_right, b)] = true := rfl
@[simp] theorem noPr (a b : MV) : noF x_press [(f_left, a), (f_right, b)] = true := rfl
@[simp] theorem noRT (a b : MV) : noF x_right_text [(f_left, a), (f_right, b)] = true := rfl
@[simp] theorem noTo (a b : MV) : noF x_told [(f_left, a), (f_right, b)] = true := rfl
theorem rt_last (p : Nat × Bool) (t : Rt) : rtV (p :: t).reverse = rtV t.reverse ++ [prV p] := by simp [rtV]
theorem rt_empty (r : Rt) : (rtV r.reverse).isEmpty = r.isEmpty := by
  cases r with
  | nil => rfl
  | cons p t => simp [rtV]
section
variable {h : MH} {n k : Nat} {l : CP} {r : Rt}
theorem ix_last (p : PgAt h n k l (q :: t)) : mIx (.ref k) (.int (-1)) h = some (prV q, h) := by
  simp only [mIx, p.lst]
  rw [rt_last, atI_last]
  rfl
theorem PgAt.eqN (p : PgAt h n k l r) : mEqv (.ref k) (.lv []) h = some r.isEmpty := by rw [eqv_refN p.lst, rt_empty]
theorem ix_pr0 (q : Nat × Bool) (h : MH) : mIx (prV q) (.int 0) h = some (.str [q.1], h) := rfl
theorem ix_pr1 (q : Nat × Bool) (h : MH) : mIx (prV q) (.int 1) h = some (.bl q.2, h) := rfl
theorem next_sign_ok (p : PgAt h n k l r) : m_Page_next_sign [.ref n] h = .ok (.str (oT (nx r))) h := by
  cases r with
  | nil => simp [m_Page_next_sign, b_Page_next_sign, p.pg, p.eqN, nx, oT]
  | cons q t => simp [m_Page_next_sign, b_Page_next_sign, p.pg, p.eqN, nx, oT, ix_last p, ix_pr0]
theorem next_own_ok (p : PgAt h n k l r) : m_Page_is_next_own [.ref n] h = .ok (.bl (ow r)) h := by
  cases r with
  | nil => simp [m_Page_is_next_own, b_Page_is_next_own, p.pg, p.eqN, ow]
  | cons q t => simp [m_Page_is_next_own, b_Page_is_next_own, p.pg, p.eqN, ow, ix_last p, ix_pr1]
/-- what else stands in the heap stays -/
def Fr (n k : Nat) (h h' : MH) : Prop := ∀ i o, h[i]? = some o → i ≠ n → i ≠ k → h'[i]? = some o
theorem Fr.refl (n k : Nat) (h : MH) : Fr n k h h := fun _ _ e _ _ => e
/-- the page and its list, put anew -/
def upg (h : MH) (n k : Nat) (l : CP) (r : Rt) : MH := (h.set k (.lst (rtV r.reverse))).set n (.ins n_Page [(f_left, .str l), (f_right, .ref k)])
theorem get_lt {α : Type} {h : List α} {n : Nat} {o : α} (e : h[n]? = some o) : n < h.length := (List.getElem?_eq_some_iff.mp e).1
theorem upg_at (p : PgAt h n k l r) (l' : CP) (r' : Rt) : PgAt (upg h n k l' r') n k l' r' := by
  have h1 := get_lt p.pg
  have h2 := get_lt p.ls
  refine ⟨?_, ?_⟩
  · unfold upg
    rw [List.getElem?_set_self (by simpa using h1)]
  · unfold upg
    rw [List.getElem?_set_ne p.ne, List.getElem?_set_self h2]
theorem upg_fr (l' : CP) (r' : Rt) : Fr n k h (upg h n k l' r') := fun i o e h1 h2 => by
  unfold upg
  rw [List.getElem?_set_ne (Ne.symm h1), List.getElem?_set_ne (Ne.symm h2)]
  exact e
theorem upg_same (p : PgAt h n k l r) : upg h n k l r = h := by
  unfold upg
  apply List.ext_getElem?
  intro i
  by_cases h1 : n = i
  · subst h1; rw [List.getElem?_set_self (by simpa using get_lt p.pg), p.pg]
  · rw [List.getElem?_set_ne h1]
    by_cases h2 : k = i
    · subst h2; rw [List.getElem?_set_self (get_lt p.ls), p.ls]
    · rw [List.getElem?_set_ne h2]
theorem upg_upg (p : PgAt h n k l r) (l1 l2 : CP) (r1 r2 : Rt) : upg (upg h n k l1 r1) n k l2 r2 = upg h n k l2 r2 := by
  have h1 := get_lt p.pg
  have h2 := get_lt p.ls
  apply List.ext_getElem?
  intro i
  by_cases e1 : n = i
  · subst e1
    rw [(upg_at (upg_at p l1 r1) l2 r2).pg, (upg_at p l2 r2).pg]
  · by_cases e2 : k = i
    · subst e2
      rw [(upg_at (upg_at p l1 r1) l2 r2).ls, (upg_at p l2 r2).ls]
    · unfold upg
      rw [List.getElem?_set_ne e1, List.getElem?_set_ne e2, List.getElem?_set_ne e1, List.getElem?_set_ne e2, List.getElem?_set_ne e1, List.getElem?_set_ne e2]
theorem upg_len (l' : CP) (r' : Rt) : (upg h n k l' r').length = h.length := by simp [upg]
theorem pop_last (p : PgAt h n k l (q :: t)) : mPop (.ref k) [] h = some (prV q, h.set k (.lst (rtV t.reverse))) := by
  have e : (rtV (q :: t).reverse)[(rtV (q :: t).reverse).length - 1]? = some (prV q) := by rw [rt_last]; simp
  have e2 : (rtV (q :: t).reverse).dropLast = rtV t.reverse := by rw [rt_last]; simp
  simp only [mPop, p.ls, e, e2]
theorem rcv_ls (p : PgAt h n k l r) : isRcv .list (.ref k) h = true := by simp [isRcv, p.lst]
theorem go_over_ok (p : PgAt h n k l r) (hl : l.length ≤ 100000) : m_Page_go_over [.ref n] h = .ok .non (upg h n k (overS l r).1 (overS l r).2) := by
  cases r with
  | nil => simp [m_Page_go_over, b_Page_go_over, p.pg, p.eqN, overS, upg_same p]
  | cons q t =>
    have h1 : (h.set k (.lst (rtV t.reverse)))[n]? = some (.ins n_Page [(f_left, .str l), (f_right, .ref k)]) := by
      rw [List.getElem?_set_ne (Ne.symm p.ne)]; exact p.pg
    have hl2 : l.length + 1 ≤ 16777216 := by omega
    simp [m_Page_go_over, b_Page_go_over, p.pg, p.eqN, overS, rcv_ls p, pop_last p, ix_pr0, mIAdd, szs, hl2, h1, upg]
theorem cut_last (l : CP) : cutM l none (some (-1)) = l.dropLast := by
  unfold cutM
  simp only [HT.sIx]
  rw [List.dropLast_eq_take]
  simp
  congr 1
  omega
theorem cut_lastOf (l : CP) : cutM l (some (-1)) none = oT l.getLast? := by
  unfold cutM
  simp only [HT.sIx]
  rcases List.eq_nil_or_concat l with rfl | ⟨l, c, rfl⟩
  · simp [oT]
  · have : ((-1 : Int) + ((l ++ [c]).length : Nat)).toNat = l.length := by simp; omega
    simp only [List.concat_eq_append, this, if_pos (show (-1 : Int) < 0 by decide)]
    simp [oT]
end
end MP.Pg

/-! the class Page: what its keys do -/
namespace MP.Pg
open PySem L2 MP MP.Pr
@[simp] theorem bk0 (B : Bk) (h : MH) : mIx B.v (.int 0) h = some (.str B.a, h) := rfl
@[simp] theorem bk1 (B : Bk) (h : MH) : mIx B.v (.int 1) h = some (.str B.b, h) := rfl
@[simp] theorem bk2 (B : Bk) (h : MH) : mIx B.v (.int 2) h = some (.str B.c, h) := rfl
@[simp] theorem bk3 (B : Bk) (h : MH) : mIx B.v (.int 3) h = some (.str B.d, h) := rfl
@[simp] theorem bk4 (B : Bk) (h : MH) : mIx B.v (.int 4) h = some (.str B.e, h) := rfl
@[simp] theorem bk5 (B : Bk) (h : MH) : mIx B.v (.int 5) h = some (.str B.f, h) := rfl
theorem oT_beq (a b : Option Nat) : (oT a == oT b) = (a == b) := by
  cases a <;> cases b <;> simp [oT]
theorem oT_q (a : Option Nat) (c : Nat) : (oT a == [c]) = (a == some c) := oT_beq a (some c)
theorem oT_n (a : Option Nat) : (oT a == []) = (a == none) := oT_beq a none
section
variable {h : MH} {n k : Nat} {l : CP} {r : Rt}
theorem does_put_ok (p : PgAt h n k l r) (hl : l.length ≤ 100000) (B : Bk) (c : Nat) : m_Page_does_put [.ref n, B.v, .str [c]] h = .ok (.bl (doesPut B l r c)) h := by
  have hs : l.length ≤ 16777216 := by omega
  have ns := next_sign_ok p
  have wi := within_ok hl h
  have fr := free_ok (nx r) h
  have le := letter_ok l.getLast? h
  have e1 : inS [c] [40, 91] = opener c := by
    rw [inS_one, Bool.eq_iff_iff]
    simp [opener]
  unfold doesPut
  by_cases h1 : (B.c == wSame) = true
  · by_cases h2 : opener c = true
    · by_cases h3 : (B.a == wAlways) = true
      · simp [m_Page_does_put, b_Page_does_put, v_SAME, v_OPENERS, v_ALWAYS, v_FREE, h1, e1, h2, h3, bne]
      · by_cases h4 : (B.a == wFree) = true
        · simp [m_Page_does_put, b_Page_does_put, v_SAME, v_OPENERS, v_ALWAYS, v_FREE, h1, e1, h2, h3, h4, bne, p.pg, ns, fr]
        · simp [m_Page_does_put, b_Page_does_put, v_SAME, v_OPENERS, v_ALWAYS, v_FREE, h1, e1, h2, h3, h4, bne, p.pg, ns, fr]
    · by_cases h3 : (B.b == wApart) = true
      · cases hf : (nx r).elim true free with
        | false => simp [m_Page_does_put, b_Page_does_put, v_SAME, v_OPENERS, v_ALWAYS, v_APART, v_QUOTE, h1, e1, h2, h3, bne, p.pg, ns, fr, hf, mCutV, lstV, mCut, szs, hs, cut_lastOf]
        | true => 
          cases hg : l.getLast?.elim false letter <;> simp [m_Page_does_put, b_Page_does_put, v_SAME, v_OPENERS, v_ALWAYS, v_APART, v_QUOTE, h1, e1, h2, h3, bne, p.pg, ns, fr, hf, mCutV, lstV, mCut, szs, hs, cut_lastOf, le, hg, oT_q]
      · simp [m_Page_does_put, b_Page_does_put, v_SAME, v_OPENERS, v_ALWAYS, v_APART, h1, e1, h2, h3, bne]
  · cases hw : within l with
    | true => simp [m_Page_does_put, b_Page_does_put, v_SAME, h1, bne, p.pg, wi, hw]
    | false =>
      by_cases h2 : opener c = true
      · by_cases h3 : (B.a == wAlways) = true
        · simp [m_Page_does_put, b_Page_does_put, v_SAME, v_OPENERS, v_ALWAYS, v_FREE, h1, e1, h2, h3, bne, p.pg, wi, hw]
        · by_cases h4 : (B.a == wFree) = true
          · simp [m_Page_does_put, b_Page_does_put, v_SAME, v_OPENERS, v_ALWAYS, v_FREE, h1, e1, h2, h3, h4, bne, p.pg, ns, fr, wi, hw]
          · simp [m_Page_does_put, b_Page_does_put, v_SAME, v_OPENERS, v_ALWAYS, v_FREE, h1, e1, h2, h3, h4, bne, p.pg, ns, fr, wi, hw]
      · by_cases h3 : (B.b == wApart) = true
        · cases hf : (nx r).elim true free with
          | false => simp [m_Page_does_put, b_Page_does_put, v_SAME, v_OPENERS, v_ALWAYS, v_APART, v_QUOTE, h1, e1, h2, h3, bne, p.pg, ns, fr, hf, mCutV, lstV, mCut, szs, hs, cut_lastOf, wi, hw]
          | true => 
            cases hg : l.getLast?.elim false letter <;> simp [m_Page_does_put, b_Page_does_put, v_SAME, v_OPENERS, v_ALWAYS, v_APART, v_QUOTE, h1, e1, h2, h3, bne, p.pg, ns, fr, hf, mCutV, lstV, mCut, szs, hs, cut_lastOf, le, hg, oT_q, wi, hw]
        · simp [m_Page_does_put, b_Page_does_put, v_SAME, v_OPENERS, v_ALWAYS, v_APART, h1, e1, h2, h3, bne, p.pg, wi, hw]
theorem own3 (p : PgAt h n k l r) (w : CP) (s : Sl) (hs : s[0]? = some (some (.ref n))) (e : ME) (he : ∀ g, e s g = .ok (.str w) g) :
    tOrM (tCmp mEq e (eC v_ANY)) (tAndM (tCmp mEq e (eC v_OWN)) (tVal (eMeth n_Page x_is_next_own 1 m_Page_is_next_own (eVar 0) aNil))) s h = .ok (lets w (ow r)) h := by
  have no := next_own_ok p
  unfold lets
  by_cases h1 : (w == wAny) = true
  · simp [he, v_ANY, h1]
  · by_cases h2 : (w == wOwn) = true
    · simp [he, v_ANY, v_OWN, h1, h2, hs, p.pg, no]
    · simp [he, v_ANY, v_OWN, h1, h2]
theorem appd {t : Rt} (p : PgAt h n k l r) (q : Nat × Bool) (hr : r.length ≤ 100000) : mAppend (.ref k) [prV q] h = some (.non, h.set k (.lst (rtV (q :: r).reverse))) := by
  have : (rtV r.reverse).length < 16777216 := by simp [rtV]; omega
  simp only [mAppend, p.ls, szs, this, if_true, rt_last]
/-- the signs behind, all of them another's: a new list -/
def forgot (h : MH) (n : Nat) (l : CP) (r : Rt) : MH := (h ++ [MO.lst (rtV (r.map fun p => (p.1, false)).reverse)]).set n (.ins n_Page [(f_left, .str l), (f_right, .ref h.length)])
theorem forgot_at (p : PgAt h n k l r) (l' : CP) (r' : Rt) : PgAt (forgot h n l' r') n h.length l' (r'.map fun p => (p.1, false)) := by
  have h1 := get_lt p.pg
  refine ⟨?_, ?_⟩
  · unfold forgot
    rw [List.getElem?_set_self (by simp; omega)]
  · unfold forgot
    rw [List.getElem?_set_ne (by omega)]
    simp
theorem forgot_fr (p : PgAt h n k l r) (l' : CP) (r' : Rt) : Fr n k h (forgot h n l' r') := fun i o e h1 h2 => by
  unfold forgot
  rw [List.getElem?_set_ne (Ne.symm h1), List.getElem?_append_left (get_lt e)]
  exact e
/-- a comprehension over a list that stays -/
theorem lcM_st {it : MIt} {t : Tg} {te : ME} {sw : Sl} {xs : List MV} {f : MV → MV} (ha : ∀ i : Nat, it.at h i = some xs[i]?) (hs : xs.length < sizeLine)
    (step : ∀ v ∈ xs, ∃ s2, t.run v sw = some s2 ∧ te s2 h = .ok (f v) h) :
    ∀ (m i : Nat) (acc : List MV), i + m = xs.length → acc.length = i → lcM it t tYesM te sw m i acc h = .ok (.ref h.length) (h ++ [.lst (acc ++ (xs.drop i).map f)]) := by
  intro m
  induction m with
  | zero =>
    intro i acc hi hac
    have e : xs[i]? = none := List.getElem?_eq_none (by omega)
    rw [lcM_zero, ha, e, List.drop_of_length_le (show xs.length ≤ i by omega)]
    simp
  | succ m ih =>
    intro i acc hi hac
    have hil : i < xs.length := by omega
    have e : xs[i]? = some xs[i] := List.getElem?_eq_getElem hil
    obtain ⟨s2, e1, e2⟩ := step xs[i] (List.getElem_mem hil)
    have ih := ih (i + 1) (acc ++ [f xs[i]]) (by omega) (by simp [hac])
    have hlt : acc.length < sizeLine := by omega
    rw [lcM_succ, ha, e]
    simp only [e1, tYesM_ap, e2, hlt, if_true, ih, List.drop_eq_getElem_cons hil, List.map_cons, List.append_assoc, List.singleton_append]
theorem forget_lc (p : PgAt h n k l r) (hr : r.length ≤ 100000) (sw : Sl) (hw : sw.length = 8) :
    lcM (.lst k) (.row [6, 7]) tYesM (eTup (aCons (eVar 6) (aCons (eC (.bl false)) (aNil)))) sw ((MIt.lst k).fuel h) 0 [] h = .ok (.ref h.length) (h ++ [.lst (rtV (r.map fun p => (p.1, false)).reverse)]) := by
  have hf : (MIt.lst k).fuel h = (rtV r.reverse).length := by simp [MIt.fuel, p.lst]
  have key := lcM_st (h := h) (it := .lst k) (t := .row [6, 7]) (te := eTup (aCons (eVar 6) (aCons (eC (.bl false)) (aNil)))) (sw := sw) (xs := rtV r.reverse) (f := fun v => match v with
    | .tup [a, _] => .tup [a, .bl false]
    | v => v) (fun i => by simp [MIt.at, p.lst]) (by rw [szs]; simp [rtV]; omega) (fun v hv => ?_) (rtV r.reverse).length 0 [] (by omega) rfl
  · rw [hf, key]
    congr 3
    simp [rtV, prV, List.map_reverse, Function.comp_def]
  · obtain ⟨q, _, rfl⟩ := List.mem_map.mp hv
    obtain ⟨a, b, c, d, e, f, g, i, rfl⟩ : ∃ a b c d e f g i, sw = [a, b, c, d, e, f, g, i] := by
      match sw, hw with
      | [a, b, c, d, e, f, g, i], _ => exact ⟨a, b, c, d, e, f, g, i, rfl⟩
    exact ⟨_, rfl, by simp [szs, prV]⟩
theorem type_sign_ok (p : PgAt h n k l r) (hl : l.length ≤ 99999) (hr : r.length ≤ 99999) (B : Bk) (c : Nat) :
    ∃ h' k', m_Page_type_sign [.ref n, B.v, .str [c]] h = .ok .non h' ∧ PgAt h' n k' (typeS B l r c).1 (typeS B l r c).2 ∧ (k' = k ∨ h.length ≤ k') ∧ Fr n k h h' := by
  have ns := next_sign_ok p
  have cl : m_is_closing [.str [c]] h = .ok (.bl (closing c)) h := closing_ok (some c) h
  have co : m_closer_of [.str [c]] h = .ok (.str (oT (closerN c))) h := closer_ok (some c) h
  have dp := does_put_ok p (by omega) B c
  have go := go_over_ok p (by omega)
  have hl2 : l.length + 1 ≤ 16777216 := by omega
  have tst : ∀ (m : Bool) (x4 x5 x6 x7 : Option MV), tAndM (tVal (eVar 3)) (tOrM (tCmp mEq (eOp mIx (eVar 1) (eC (.int 3))) (eC v_ANY)) (tAndM (tCmp mEq (eOp mIx (eVar 1) (eC (.int 3))) (eC v_OWN)) (tVal (eMeth n_Page x_is_next_own 1 m_Page_is_next_own (eVar 0) aNil))))
      [some (.ref n), some B.v, some (.str [c]), some (.bl m), x4, x5, x6, x7] h = .ok (m && lets B.d (ow r)) h := by
    intro m x4 x5 x6 x7
    have := own3 p B.d [some (.ref n), some B.v, some (.str [c]), some (.bl m), x4, x5, x6, x7] rfl (eOp mIx (eVar 1) (eC (.int 3))) (fun g => by simp)
    have e3 : tVal (eVar 3) [some (.ref n), some B.v, some (.str [c]), some (.bl m), x4, x5, x6, x7] h = .ok m h := by simp
    rw [tAndM_ap, e3, bind_ok]
    cases m with
    | false => rfl
    | true => rw [if_pos rfl, this]; rfl
  have lin : ∀ (x3 x4 x5 x6 x7 : Option MV) (g : MH), tAndM (tCmp mEq (eVar 2) (eC v_LINE)) (tCmp mEq (eOp mIx (eVar 1) (eC (.int 5))) (eC v_AT_LINES)) [some (.ref n), some B.v, some (.str [c]), x3, x4, x5, x6, x7] g = .ok (c == 47 && B.f == wLine) g := by
    intro x3 x4 x5 x6 x7 g
    have e47 : (([c] : CP) == [47]) = (c == 47) := by simp
    by_cases h1 : (c == 47) = true <;> simp [v_LINE, v_AT_LINES, e47, h1]
  have m0 : ∀ x : MV, eAnd (eCall 1 m_is_closing (aCons (eVar 2) (aNil))) (eOp mEq (eMeth n_Page x_next_sign 1 m_Page_next_sign (eVar 0) aNil) (eVar 2)) [some (.ref n), some B.v, some (.str [c]), none, none, none, none, none] h = .ok (.bl (closing c && nx r == some c)) h := by
    intro _
    cases hc : closing c <;> simp [cl, hc, p.pg, ns, oT_q]
  have p0 := m0 .non
  by_cases hM : (closing c && nx r == some c && lets B.d (ow r)) = true
  · refine ⟨upg h n k (overS l r).1 (overS l r).2, k, ?_, ?_, .inl rfl, ?_⟩
    · simp [-eAnd_ap, -tAndM_ap, m_Page_type_sign, b_Page_type_sign, p0, tst, hM, p.pg, go]
    · have e1 : typeS B l r c = (l ++ [c], r.tail) := by unfold typeS; rw [if_pos hM]
      rw [e1]
      have hn : nx r = some c := by
        simp only [Bool.and_eq_true, beq_iff_eq] at hM
        exact hM.1.2
      cases r with
      | nil => cases hn
      | cons q t =>
        have : q.1 = c := by simpa [nx] using hn
        subst this
        exact upg_at p _ _
    · exact upg_fr _ _
  · have hM' : (closing c && nx r == some c && lets B.d (ow r)) = false := by simpa using hM
    have q1 : PgAt (h.set n (.ins n_Page [(f_left, .str (l ++ [c])), (f_right, .ref k)])) n k (l ++ [c]) r :=
      ⟨by rw [List.getElem?_set_self (get_lt p.pg)], by rw [List.getElem?_set_ne p.ne]; exact p.ls⟩
    have q1' : (h.set n (.ins n_Page [(f_left, .str (l ++ [c])), (f_right, .ref k)])) = upg h n k (l ++ [c]) r := by
      unfold upg
      congr 1
      apply List.ext_getElem?
      intro i
      by_cases e2 : k = i
      · subst e2; rw [List.getElem?_set_self (get_lt p.ls), p.ls]
      · rw [List.getElem?_set_ne e2]
    have mt : ∀ (b : Bool), typeS B l r c = (if closing c && nx r == some c && lets B.d (ow r) then (l ++ [c], r.tail) else
        let r1 : Rt := match closerN c with
          | some k => if doesPut B l r c then (k, true) :: r else r
          | none => r
        (l ++ [c], if c == 47 && B.f == wLine then r1.map (fun p => (p.1, false)) else r1)) := fun _ => rfl
    have e0 := mt true
    rw [hM'] at e0
    simp only [Bool.false_eq_true, if_false] at e0
    have hl1 := get_lt p.pg
    cases hc : closerN c with
    | none =>
      rw [hc] at co e0
      have p1 : ∀ x : MV, eAnd (eOp mNe (eVar 4) (eC (.str []))) (eMeth n_Page x_does_put 3 m_Page_does_put (eVar 0) (aCons (eVar 1) (aCons (eVar 2) (aNil)))) [some (.ref n), some B.v, some (.str [c]), some (.bl (closing c && nx r == some c)), some (.str []), none, none, none] h = .ok (.bl false) h := fun _ => by simp
      have p1 := p1 .non
      cases hL : (c == 47 && B.f == wLine) with
      | false =>
        rw [hL] at lin e0
        simp only [Bool.false_eq_true, if_false] at e0
        refine ⟨h.set n (.ins n_Page [(f_left, .str (l ++ [c])), (f_right, .ref k)]), k, ?_, ?_, .inl rfl, ?_⟩
        · simp [-eAnd_ap, -tAndM_ap, m_Page_type_sign, b_Page_type_sign, p0, tst, hM', p.pg, co, oT, p1, mIAdd, szs, hl2, lin]
        · rw [e0]; exact q1
        · rw [q1']; exact upg_fr _ _
      | true =>
        rw [hL] at lin e0
        simp only [if_true] at e0
        have fl := forget_lc q1 (by omega)
        refine ⟨forgot (upg h n k (l ++ [c]) r) n (l ++ [c]) r, h.length, ?_, ?_, .inr (Nat.le_refl _), ?_⟩
        · have fl := fl [some (.ref n), some B.v, some (.str [c]), some (.bl (closing c && nx r == some c)), some (.str []), some (.bl false), none, none] rfl
          have qa : (h.set n (.ins n_Page [(f_left, .str (l ++ [c])), (f_right, .ref k)]) ++ [MO.lst (rtV (r.map fun p => (p.1, false)).reverse)])[n]? = some (.ins n_Page [(f_left, .str (l ++ [c])), (f_right, .ref k)]) := by
            rw [List.getElem?_append_left (by simpa using hl1)]; exact q1.pg
          have lc : ∀ x : MV, eLc (jSeq (eFld [n_Page] f_right (eVar 0))) [6, 7] (.row [6, 7]) (tYesM) (eTup (aCons (eVar 6) (aCons (eC (.bl false)) (aNil)))) [some (.ref n), some B.v, some (.str [c]), some (.bl (closing c && nx r == some c)), some (.str []), some (.bl false), none, none] (h.set n (.ins n_Page [(f_left, .str (l ++ [c])), (f_right, .ref k)])) = .ok (.ref h.length) (h.set n (.ins n_Page [(f_left, .str (l ++ [c])), (f_right, .ref k)]) ++ [MO.lst (rtV (r.map fun p => (p.1, false)).reverse)]) := fun _ => by
            rw [eLc]
            simp only [jSeq_str, eFld_ap, eVar_ap, List.getElem?_cons_zero, bind_ok, q1.pg, hasPg, if_true, getR, q1.lst, wipeM, List.set]
            rw [fl, List.length_set]
          have lc := lc .non
          simp [-eAnd_ap, -tAndM_ap, m_Page_type_sign, b_Page_type_sign, p0, tst, hM', p.pg, co, oT, p1, mIAdd, szs, hl2, lin, lc]
          rw [qa]
          simp [forgot, ← q1']
        · rw [e0]
          have := forgot_at q1 (l ++ [c]) r
          rw [q1'] at this
          rw [upg_len] at this
          exact this
        · exact fun i o e a b => forgot_fr (upg_at p (l ++ [c]) r) (l ++ [c]) r i o (upg_fr _ _ i o e a b) a b
    | some q =>
      rw [hc] at co e0
      have h47 : (c == 47) = false := by
        unfold closerN at hc
        rw [beq_eq_false_iff_ne]
        intro z
        subst z
        simp at hc
      rw [h47] at lin e0
      simp only [Bool.false_and, Bool.false_eq_true, if_false] at lin e0
      have p1 : ∀ x : MV, eAnd (eOp mNe (eVar 4) (eC (.str []))) (eMeth n_Page x_does_put 3 m_Page_does_put (eVar 0) (aCons (eVar 1) (aCons (eVar 2) (aNil)))) [some (.ref n), some B.v, some (.str [c]), some (.bl (closing c && nx r == some c)), some (.str [q]), none, none, none] h = .ok (.bl (doesPut B l r c)) h := fun _ => by simp [p.pg, dp]
      have p1 := p1 .non
      cases hP : doesPut B l r c with
      | false =>
        rw [hP] at p1 e0
        simp only [Bool.false_eq_true, if_false] at e0
        refine ⟨h.set n (.ins n_Page [(f_left, .str (l ++ [c])), (f_right, .ref k)]), k, ?_, ?_, .inl rfl, ?_⟩
        · simp [-eAnd_ap, -tAndM_ap, m_Page_type_sign, b_Page_type_sign, p0, tst, hM', p.pg, co, oT, p1, mIAdd, szs, hl2, lin]
        · rw [e0]; exact q1
        · rw [q1']; exact upg_fr _ _
      | true =>
        rw [hP] at p1 e0
        simp only [if_true] at e0
        have ap := appd (t := r) q1 (q, true) (by omega)
        have rc := rcv_ls q1
        simp only [prV] at ap
        refine ⟨upg h n k (l ++ [c]) ((q, true) :: r), k, ?_, ?_, .inl rfl, ?_⟩
        · simp [-eAnd_ap, -tAndM_ap, m_Page_type_sign, b_Page_type_sign, p0, tst, hM', p.pg, co, oT, p1, mIAdd, szs, hl2, lin, q1.pg, rc, ap]
          rw [List.set_comm _ _ p.ne]
          simp [upg]
        · rw [e0]; exact upg_at p _ _
        · exact upg_fr _ _
end
end MP.Pg

/-! the class Page: press, told; pressed -/
namespace MP.Pg
open PySem L2 MP MP.Pr
section
variable {h : MH} {n k : Nat} {l : CP} {r : Rt}
theorem Fr.trans {n k : Nat} {h h1 h2 : MH} (a : Fr n k h h1) (b : Fr n k h1 h2) : Fr n k h h2 := fun i o e x y => b i o (a i o e x y) x y
theorem set_pg (p : PgAt h n k l r) (l' : CP) : h.set n (.ins n_Page [(f_left, .str l'), (f_right, .ref k)]) = upg h n k l' r := by
  unfold upg
  congr 1
  apply List.ext_getElem?
  intro i
  by_cases e2 : k = i
  · subst e2; rw [List.getElem?_set_self (get_lt p.ls), p.ls]
  · rw [List.getElem?_set_ne e2]
theorem upg_set (p : PgAt h n k l r) (l' : CP) (r' : Rt) (r1 : Rt) : (upg h n k l' r1).set k (.lst (rtV r'.reverse)) = upg h n k l' r' := by
  unfold upg
  rw [List.set_comm _ _ p.ne, List.set_set]
theorem go_back_ok (p : PgAt h n k l r) (hl : l.length ≤ 99999) (B : Bk) : m_Page_go_back [.ref n, B.v] h = .ok .non (upg h n k (backS B l r).1 (backS B l r).2) := by
  rcases List.eq_nil_or_concat l with rfl | ⟨l, c, rfl⟩
  · simp [m_Page_go_back, b_Page_go_back, p.pg, backS, upg_same p]
  · rw [List.concat_eq_append] at *
    have hs : (l ++ [c]).length ≤ 16777216 := by omega
    have e1 : mIx (.str (l ++ [c])) (.int (-1)) h = some (.str [c], h) := by
      simp only [mIx, szs, hs, if_true, atI_last, Option.map_some]
    have e2 : (l ++ [c] == []) = false := by simp
    have co : m_closer_of [.str [c]] h = .ok (.str (oT (closerN c))) h := closer_ok (some c) h
    have ct : mCutV (.str (l ++ [c])) none (some (-1)) h = some (.str l, h) := by
      simp only [mCutV, lstV, mCut, szs, hs, if_true, cut_last, List.dropLast_concat]
    have q : PgAt (upg h n k l r) n k l r := upg_at p l r
    have ns := next_sign_ok q
    have bs : backS B (l ++ [c]) r = (l, backR B r (closerN c)) := by simp [backS]
    have own := own3 q B.e
    cases hc : closerN c with
    | none =>
      rw [hc, backR] at bs
      rw [hc, oT] at co
      simp [m_Page_go_back, b_Page_go_back, p.pg, e1, co, ct, set_pg p, bs]
    | some d =>
      rw [hc, backR] at bs
      rw [hc, oT] at co
      cases hn : (nx r == some d) with
      | false =>
        rw [hn] at bs
        simp [m_Page_go_back, b_Page_go_back, p.pg, e1, co, ct, set_pg p, bs, q.pg, ns, oT_q, hn]
      | true =>
        rw [hn] at bs
        have ow3 := own [some (.ref n), some B.v, some (.str [d]), some (.bl true)] rfl (eOp mIx (eVar 1) (eC (.int 4))) (fun g => by simp)
        cases hlt : lets B.e (ow r) with
        | false =>
          rw [hlt] at bs ow3
          simp [-tOrM_ap, m_Page_go_back, b_Page_go_back, p.pg, e1, co, ct, set_pg p, bs, q.pg, ns, oT_q, hn, ow3]
        | true =>
          rw [hlt] at bs ow3
          cases r with
          | nil => simp [nx] at hn
          | cons a t =>
            have po := pop_last q
            have rc := rcv_ls q
            simp [-tOrM_ap, m_Page_go_back, b_Page_go_back, p.pg, e1, co, ct, set_pg p, bs, q.pg, ns, oT_q, hn, ow3, po, rc, upg_set p]
/-- END: while the next sign is own -/
theorem end_loop (B : Bk) (s : Sl) (hs : s[0]? = some (some (.ref n))) : ∀ (r : Rt) (l : CP) (h : MH) (m : Nat), PgAt h n k l r → l.length + r.length ≤ 99999 → r.length < m →
    whileM (tVal (eMeth n_Page x_is_next_own 1 m_Page_is_next_own (eVar 0) aNil)) (sExpr (eMeth n_Page x_go_over 1 m_Page_go_over (eVar 0) aNil)) m s h = .nx s (upg h n k (endS l r).1 (endS l r).2)
  | [], l, h, m, p, hl, hm => by
    cases m with
    | zero => omega
    | succ m =>
      have no := next_own_ok p
      rw [whileM_succ]
      simp [hs, p.pg, no, ow, endS, upg_same p]
  | a :: t, l, h, m, p, hl, hm => by
    cases m with
    | zero => omega
    | succ m =>
      have no := next_own_ok p
      have go := go_over_ok p (by simp only [List.length_cons] at hl; omega)
      simp only [List.length_cons] at hl hm
      cases ha : a.2 with
      | false =>
        rw [whileM_succ]
        simp [hs, p.pg, no, ow, endS, upg_same p, ha]
      | true =>
        have q := upg_at p (l ++ [a.1]) t
        have ih := end_loop B s hs t (l ++ [a.1]) _ m q (by simp; omega) (by omega)
        rw [whileM_succ]
        simp [hs, p.pg, no, ow, ha, go, overS, ih, upg_upg p, endS]
theorem press_ok (p : PgAt h n k l r) (hl : l.length + r.length ≤ 99999) (B : Bk) (y : Ky) :
    ∃ h' k', m_Page_press [.ref n, B.v, .str y.t] h = .ok .non h' ∧ PgAt h' n k' (pressS B l r y).1 (pressS B l r y).2 ∧ (k' = k ∨ h.length ≤ k') ∧ Fr n k h h' := by
  cases y with
  | back =>
    have gb := go_back_ok p (by omega) B
    refine ⟨_, k, ?_, upg_at p _ _, .inl rfl, upg_fr _ _⟩
    simp [m_Page_press, b_Page_press, Ky.t, v_BACK, p.pg, gb, pressS]
  | right =>
    have go := go_over_ok p (by omega)
    refine ⟨_, k, ?_, upg_at p _ _, .inl rfl, upg_fr _ _⟩
    simp [m_Page_press, b_Page_press, Ky.t, v_BACK, v_RIGHT, p.pg, go, pressS]
  | end_ =>
    have el := end_loop B [some (.ref n), some B.v, some (.str kEnd)] rfl r l h bigF p hl (by unfold bigF; omega)
    refine ⟨_, k, ?_, upg_at p _ _, .inl rfl, upg_fr _ _⟩
    simp [m_Page_press, b_Page_press, Ky.t, v_BACK, v_RIGHT, v_END, sWhile, el, pressS]
  | sg c =>
    obtain ⟨h', k', e, q, hk, fr⟩ := type_sign_ok p (by omega) (by omega) B c
    refine ⟨h', k', ?_, q, hk, fr⟩
    simp [m_Page_press, b_Page_press, Ky.t, v_BACK, v_RIGHT, v_END, p.pg, e]
end
end MP.Pg

/-! the class Page: told, made; pressed -/
namespace MP.Pg
open PySem L2 MP MP.Pr
theorem strs_ones : ∀ r : Rt, strsOf (r.map fun p => .str [p.1]) = some (r.map fun p => [p.1])
  | [] => rfl
  | p :: t => by
    have := strs_ones t
    simp only [strsOf] at this ⊢
    simp [mapO, this]
theorem join_ones : ∀ r : Rt, joinL [] (r.map fun p => [p.1]) = r.map (·.1)
  | [] => rfl
  | [p] => rfl
  | p :: q :: t => by
    have := join_ones (q :: t)
    simp only [List.map_cons] at this ⊢
    simp [joinL, this]
theorem lensum_ones : ∀ r : Rt, lensum (r.map fun p => [p.1]) = r.length
  | [] => rfl
  | p :: t => by simp [lensum, lensum_ones t]; omega
def owns : Nat → Rt → List Nat
  | _, [] => []
  | i, p :: t => if p.2 then i :: owns (i + 1) t else owns (i + 1) t
def toldV (l : CP) (r : Rt) : MV := .tup [.str l, .str (r.map (·.1)), .tup ((owns 0 r).map fun (i : Nat) => .int (i : Int))]
def rtOf : Nat → CP → List Int → Rt
  | _, [], _ => []
  | i, c :: f, os => (c, os.contains (i : Int)) :: rtOf (i + 1) f os
theorem rtOf_len : ∀ (f : CP) (i : Nat) (os : List Int), (rtOf i f os).length = f.length
  | [], _, _ => rfl
  | c :: f, i, os => by simp [rtOf, rtOf_len f]
theorem owns_ge : ∀ (r : Rt) (i j : Nat), j ∈ owns i r → i ≤ j
  | [], _, _, h => by simp [owns] at h
  | p :: t, i, j, h => by
    simp only [owns] at h
    split at h
    · rcases List.mem_cons.mp h with e | e
      · omega
      · have := owns_ge t (i + 1) j e; omega
    · have := owns_ge t (i + 1) j h; omega
theorem rtOf_owns : ∀ (r : Rt) (i : Nat) (pre : List Int), (∀ x ∈ pre, x < (i : Int)) → rtOf i (r.map (·.1)) (pre ++ (owns i r).map fun (j : Nat) => (j : Int)) = r
  | [], _, _, _ => rfl
  | p :: t, i, pre, hp => by
    have hn : (pre.contains (i : Int)) = false := by
      rw [Bool.eq_false_iff]
      intro z
      have := hp (i : Int) (by simpa using z)
      omega
    have h2 : ((owns (i + 1) t).map fun (j : Nat) => (j : Int)).contains (i : Int) = false := by
      rw [Bool.eq_false_iff]
      intro z
      simp at z
      obtain ⟨j, hj, e⟩ := z
      have := owns_ge t (i + 1) j hj
      omega
    simp only [List.map_cons, rtOf, owns]
    obtain ⟨a, b⟩ := p
    cases b with
    | true =>
      have ih := rtOf_owns t (i + 1) (pre ++ [(i : Int)]) (fun x hx => by
        rcases List.mem_append.mp hx with z | z
        · have := hp x z; omega
        · have : x = (i : Int) := by simpa using z
          omega)
      simp only [if_true, List.map_cons]
      rw [List.append_assoc, List.singleton_append] at ih
      rw [ih]
      simp
    | false =>
      have ih := rtOf_owns t (i + 1) pre (fun x hx => by have := hp x hx; omega)
      simp only [Bool.false_eq_true, if_false]
      rw [ih]
      congr 2
      rw [List.contains_eq_any_beq, List.any_append, ← List.contains_eq_any_beq, ← List.contains_eq_any_beq, hn, h2]
      rfl
section
variable {h : MH} {n k : Nat} {l : CP} {r : Rt}
theorem rev_ok (p : PgAt h n k l r) (s : Sl) (hs : s[0]? = some (some (.ref n))) : eRevV (eFld [n_Page] f_right (eVar 0)) s h = .ok (.lv (rtV r)) h := by
  have : (rtV r.reverse).reverse = rtV r := by simp [rtV]
  simp [eRevV, hs, p.pg, lstV, p.lst, this]
theorem right_text_ok (p : PgAt h n k l r) (hr : r.length ≤ 99999) : m_Page_right_text [.ref n] h = .ok (.str (r.map (·.1))) h := by
  have rv := rev_ok p [some (.ref n), none, none] rfl
  have lc := lcL_map (t := .row [1, 2]) (te := eVar 1) (sw := [some (.ref n), none, none]) (h := h) (fun v => match v with
    | .tup [a, _] => a
    | v => v) (rtV r) [] (by rw [szs]; simp [rtV]; omega) (fun v hv => by
      obtain ⟨q, _, rfl⟩ := List.mem_map.mp hv
      exact ⟨[some (.ref n), some (.str [q.1]), some (.bl q.2)], rfl, rfl⟩)
  have e : (rtV r).map (fun v => match v with
    | .tup [a, _] => a
    | v => v) = r.map fun p => MV.str [p.1] := by simp [rtV, prV, Function.comp_def]
  rw [e, List.nil_append] at lc
  have hz : lensum (r.map fun p => [p.1]) ≤ 16777216 := by rw [lensum_ones]; omega
  simp [m_Page_right_text, b_Page_right_text, rv, wipeM, lc, mJoin, lstV, mJoinL, strs_ones, hz, join_ones]
theorem owns_lc (s0 : MV) : ∀ (r : Rt) (i : Nat) (acc : List MV), acc.length + r.length ≤ 99999 →
    lcL (.row [2, 3]) (tVal (eOp mIx (eVar 3) (eC (.int 1)))) (eVar 2) [some s0, none, none, none] (enumL i (rtV r)) acc h = .ok (.lv (acc ++ (owns i r).map fun (j : Nat) => .int (j : Int))) h
  | [], _, acc, _ => by simp [rtV, enumL, lcL, owns]
  | p :: t, i, acc, hl => by
    have hlt : acc.length < 16777216 := by simp at hl; omega
    simp only [List.length_cons] at hl
    obtain ⟨a, b⟩ := p
    cases b with
    | false =>
      have ih := owns_lc s0 t (i + 1) acc (by omega)
      simp only [rtV] at ih
      simp [rtV, enumL, lcL, Tg.run, setAll, prV, ix_pr1, mIx, atI, ixN, owns, ih]
    | true =>
      have ih := owns_lc s0 t (i + 1) (acc ++ [.int (i : Int)]) (by simp; omega)
      simp only [rtV] at ih
      simp [rtV, enumL, lcL, Tg.run, setAll, prV, mIx, atI, ixN, owns, szs, hlt, ih]
theorem told_ok (p : PgAt h n k l r) (hr : r.length ≤ 99999) : m_Page_told [.ref n] h = .ok (toldV l r) h := by
  have rv := rev_ok p [some (.ref n), none, none, none] rfl
  have lc := owns_lc (h := h) (.ref n) r 0 [] (by simpa using hr)
  have rt := right_text_ok p hr
  rw [List.nil_append] at lc
  simp [m_Page_told, b_Page_told, rv, wipeM, lc, mTuple, lstV, p.pg, rt, szs, toldV]
theorem inF_ints (i : Int) : ∀ os : List Int, inF (.int i) (os.map .int) = some (os.contains i)
  | [] => rfl
  | o :: os => by
    simp only [List.map_cons, inF, fEq, inF_ints i os, List.contains_cons]
    rw [BEq.comm (a := o)]
theorem init_lc (s0 : MV) (v : MV) (os : List Int) (hv : ∀ g : MH, mIx v (.int 2) g = some (.tup (os.map .int), g)) : ∀ (f : CP) (i : Nat) (acc : List MV), acc.length + f.length ≤ 99999 →
    lcL (.row [2, 3]) tYesM (eTup (aCons (eVar 3) (aCons (eOp mIn (eVar 2) (eOp mIx (eVar 1) (eC (.int 2)))) (aNil)))) [some s0, some v, none, none] (enumL i (f.map fun c => .str [c])) acc h = .ok (.lv (acc ++ rtV (rtOf i f os))) h
  | [], _, acc, _ => by simp [rtV, enumL, lcL, rtOf]
  | c :: f, i, acc, hl => by
    simp only [List.length_cons] at hl
    have hlt : acc.length < 16777216 := by omega
    have ih := init_lc s0 v os hv f (i + 1) (acc ++ [prV (c, os.contains (i : Int))]) (by simp; omega)
    simp only [prV, List.contains_eq_mem] at ih
    simp [enumL, lcL, Tg.run, setAll, szs, hlt, hv, mInB, inF_ints, ih, rtV, rtOf, prV]
theorem init_ok {f : CP} {os : List Int} (hp : h[n]? = some (.ins n_Page [])) (hf : f.length ≤ 99999) : ∃ h', m_Page___init__ [.ref n, .tup [.str l, .str f, .tup (os.map .int)]] h = .ok .non h' ∧ PgAt h' n h.length l (rtOf 0 f os) ∧ h'.length = h.length + 1 ∧ ∀ i o, h[i]? = some o → i ≠ n → h'[i]? = some o := by
  have hn := get_lt hp
  have lc := init_lc (h := h.set n (.ins n_Page [(f_left, .str l)])) (.ref n) (.tup [.str l, .str f, .tup (os.map .int)]) os (fun g => rfl) f 0 [] (by simpa using hf)
  rw [List.nil_append] at lc
  refine ⟨((h.set n (.ins n_Page [(f_left, .str l)])) ++ [MO.lst (rtV (rtOf 0 f os).reverse)]).set n (.ins n_Page [(f_left, .str l), (f_right, .ref h.length)]), ?_, ⟨?_, ?_⟩, by simp, fun i o e hi => ?_⟩
  · have h1 : (h.set n (.ins n_Page [(f_left, .str l)]) ++ [MO.lst (rtV (rtOf 0 f os)).reverse])[n]? = some (.ins n_Page [(f_left, .str l)]) := by
      rw [List.getElem?_append_left (by simpa using hn), List.getElem?_set_self hn]
    have i0 : ∀ g : MH, mIx (.tup [.str l, .str f, .tup (os.map .int)]) (.int 0) g = some (.str l, g) := fun _ => rfl
    have i1 : ∀ g : MH, mIx (.tup [.str l, .str f, .tup (os.map .int)]) (.int 1) g = some (.str f, g) := fun _ => rfl
    have sl : setF f_left (.str l) [] = [(f_left, .str l)] := rfl
    have sr : setF f_right (.ref h.length) [(f_left, .str l)] = [(f_left, .str l), (f_right, .ref h.length)] := rfl
    have er : rtV (rtOf 0 f os).reverse = (rtV (rtOf 0 f os)).reverse := by simp [rtV]
    simp [m_Page___init__, b_Page___init__, i0, i1, hp, sl, wipeM, eRev, lstV, lc]
    simp [h1, sr, er]
  · rw [List.getElem?_set_self (by simp; omega)]
  · rw [List.getElem?_set_ne (by omega), List.getElem?_append_right (by simp)]
    simp
  · rw [List.getElem?_set_ne (Ne.symm hi), List.getElem?_append_left (by simpa using get_lt e), List.getElem?_set_ne (Ne.symm hi)]
    exact e
end
end MP.Pg

/-! what is asked of books, pages, keys; pressed -/
namespace MP.Pg
open PySem L2 MP MP.Pr
abbrev SG : CP := [40, 91, 41, 93, 39, 32, 47, 97, 98, 99, 100, 101, 102, 103, 104, 105, 106, 107, 108, 109, 110, 111, 112, 113, 114, 115, 116, 117, 118, 119, 120, 121, 122]
def sgn (c : Nat) : Bool := SG.contains c
theorem isi_str (l : CP) (t : Ty) (h : MH) : mIsi [.str l, .ty t] h = some (.bl (isTy .str t), h) := rfl
theorem isi_tup (l : List MV) (t : Ty) (h : MH) : mIsi [.tup l, .ty t] h = some (.bl (isTy .tuple t), h) := rfl
theorem isi_int (l : Int) (t : Ty) (h : MH) : mIsi [.int l, .ty t] h = some (.bl (isTy .int t), h) := rfl
theorem isi_bl (l : Bool) (t : Ty) (h : MH) : mIsi [.bl l, .ty t] h = some (.bl (isTy .bool t), h) := rfl
theorem len_str {l : CP} (hl : l.length ≤ 16777216) (h : MH) : mLen [.str l] h = some (.int l.length, h) := by simp [mLen, szs, hl]
theorem len_tup (l : List MV) (h : MH) : mLen [.tup l] h = some (.int l.length, h) := rfl
theorem len_lv (l : List MV) (h : MH) : mLen [.lv l] h = some (.int l.length, h) := rfl
theorem bools_map {α : Type} (f : α → Bool) : ∀ l : List α, boolsOf (l.map fun x => .bl (f x)) = some (l.map f)
  | [] => rfl
  | x :: l => by
    have := bools_map f l
    simp only [boolsOf] at this ⊢
    simp [mapO, this]
theorem all_map {α : Type} (f : α → Bool) (l : List α) (h : MH) : mAll [.lv (l.map fun x => .bl (f x))] h = some (.bl (l.all f), h) := by
  simp [mAll, lstV, bools_map]
theorem is_text_ok {l : CP} (hl : l.length ≤ 99999) (h : MH) : m_is_text [.str l] h = .ok (.bl (decide (l.length ≤ 200) && l.all sgn)) h := by
  have lc := lcL_map (t := .one 1) (te := eOp mIn (eVar 1) (eC v_SIGNS)) (sw := [some (.str l), none]) (h := h) (fun v => match v with
    | .str [c] => .bl (sgn c)
    | v => v) (l.map fun c => .str [c]) [] (by rw [szs]; simp; omega) (fun v hv => by
      obtain ⟨c, _, rfl⟩ := List.mem_map.mp hv
      exact ⟨[some (.str l), some (.str [c])], rfl, by simp only [eOp_ap, eVar_ap, List.getElem?_cons_succ, List.getElem?_cons_zero, bind_ok, eC_ap, v_SIGNS, mIn_ap, inB_str, inS_one, Option.map_some, ofO_some]; rfl⟩)
  rw [List.map_map, List.nil_append] at lc
  have e : ((fun v => match v with
    | .str [c] => .bl (sgn c)
    | v => v) ∘ fun c => MV.str [c]) = fun c => MV.bl (sgn c) := rfl
  rw [e] at lc
  have hs : l.length ≤ 16777216 := by omega
  by_cases h2 : (l.length : Int) ≤ 200
  · have h3 : l.length ≤ 200 := by omega
    simp [m_is_text, b_is_text, isi_str, isTy, len_str hs, mLe, v_MOST_TEXT, h2, h3, wipeM, lc, all_map]
  · have h3 : ¬ l.length ≤ 200 := by omega
    simp [m_is_text, b_is_text, isi_str, isTy, len_str hs, mLe, v_MOST_TEXT, h2, h3]
def placeIn (f : CP) (i : Int) : Bool := decide (0 ≤ i ∧ i < f.length) && (f[i.toNat]?.elim false closing)
theorem place_ok {f : CP} (hf : f.length ≤ 99999) (i : Int) (h : MH) : m_is_place_in [.int i, .str f] h = .ok (.bl (placeIn f i)) h := by
  have hs : f.length ≤ 16777216 := by omega
  by_cases h1 : 0 ≤ i
  · by_cases h2 : i < (f.length : Int)
    · have hlt : i.toNat < f.length := by omega
      have ix : mIx (.str f) (.int i) h = some (.str [f[i.toNat]], h) := by
        have : atI f i = some f[i.toNat] := by
          have := atI_nat (xs := f) (j := i.toNat) (v := f[i.toNat]) (by simp [hlt])
          rw [Int.toNat_of_nonneg h1] at this
          exact this
        simp [mIx, szs, hs, this]
      have cl : m_is_closing [.str [f[i.toNat]]] h = .ok (.bl (closing f[i.toNat])) h := closing_ok (some f[i.toNat]) h
      simp [m_is_place_in, b_is_place_in, isi_int, isTy, len_str hs, mLe, mLt, h1, h2, ix, cl, placeIn, hlt]
    · simp [m_is_place_in, b_is_place_in, isi_int, isTy, len_str hs, mLe, mLt, h1, h2, placeIn]
  · simp [m_is_place_in, b_is_place_in, isi_int, isTy, len_str hs, mLe, mLt, h1, placeIn]
def asc : List Int → Bool
  | [] => true
  | [_] => true
  | a :: b :: r => decide (a < b) && asc (b :: r)
def isPage (l f : CP) (os : List Int) : Bool := (decide (l.length ≤ 200) && l.all sgn) && (decide (f.length ≤ 200) && f.all sgn) && os.all (placeIn f) && asc os
theorem asc_pairs : ∀ os : List Int, (pairs (os.map .int) ((os.drop 1).map .int)).map (fun v => match v with
    | .tup [.int a, .int b] => MV.bl (decide (a < b))
    | v => v) = (os.zip (os.drop 1)).map (fun p => MV.bl (decide (p.1 < p.2))) ∧ (os.zip (os.drop 1)).all (fun p => decide (p.1 < p.2)) = asc os
  | [] => ⟨rfl, rfl⟩
  | [a] => ⟨rfl, rfl⟩
  | a :: b :: r => by
    have ih := asc_pairs (b :: r)
    simp only [List.drop_succ_cons, List.drop_zero] at ih ⊢
    refine ⟨?_, ?_⟩
    · simp only [List.map_cons, pairs, List.zip_cons_cons]
      rw [← ih.1]
      rfl
    · simp only [List.zip_cons_cons, List.all_cons, asc]
      rw [← ih.2]
theorem is_page_ok {l f : CP} {os : List Int} (hl : l.length ≤ 99999) (hf : f.length ≤ 99999) (ho : os.length ≤ 99999) (h : MH) : m_is_page [.tup [.str l, .str f, .tup (os.map .int)]] h = .ok (.bl (isPage l f os)) h := by
  have t1 := is_text_ok hl h
  have t2 := is_text_ok hf h
  have i0 : mIx (.tup [.str l, .str f, .tup (os.map .int)]) (.int 0) h = some (.str l, h) := rfl
  have i1 : mIx (.tup [.str l, .str f, .tup (os.map .int)]) (.int 1) h = some (.str f, h) := rfl
  have i2 : mIx (.tup [.str l, .str f, .tup (os.map .int)]) (.int 2) h = some (.tup (os.map .int), h) := rfl
  have lc := lcL_map (t := .one 3) (te := eCall 2 m_is_place_in (aCons (eVar 3) (aCons (eOp mIx (eVar 0) (eC (.int 1))) (aNil)))) (sw := [some (.tup [.str l, .str f, .tup (os.map .int)]), none, none, none]) (h := h) (fun v => match v with
    | .int i => .bl (placeIn f i)
    | v => v) (os.map .int) [] (by rw [szs]; simp; omega) (fun v hv => by
      obtain ⟨c, _, rfl⟩ := List.mem_map.mp hv
      exact ⟨[some (.tup [.str l, .str f, .tup (os.map .int)]), none, none, some (.int c)], rfl, by simp [i1, place_ok hf]⟩)
  rw [List.map_map, List.nil_append] at lc
  have e : ((fun v => match v with
    | .int i => .bl (placeIn f i)
    | v => v) ∘ MV.int) = fun c => MV.bl (placeIn f c) := rfl
  rw [e] at lc
  have ct : mCutV (.tup (os.map .int)) (some 1) none h = some (.tup ((os.drop 1).map .int), h) := by
    have : cutM (os.map MV.int) (some 1) none = (os.drop 1).map .int := by
      unfold cutM
      simp only [HT.sIx]
      cases os with
      | nil => simp
      | cons a r => simp [List.take_of_length_le]
    simp [mCutV, lstV, mCut, this]
  obtain ⟨ap, aq⟩ := asc_pairs os
  have lz := lcL_map (t := .row [1, 2]) (te := eOp mLt (eVar 1) (eVar 2)) (sw := [some (.tup [.str l, .str f, .tup (os.map .int)]), none, none, none]) (h := h) (fun v => match v with
    | .tup [.int a, .int b] => MV.bl (decide (a < b))
    | v => v) (pairs (os.map .int) ((os.drop 1).map .int)) [] (by
      have : ∀ a b : List MV, (pairs a b).length ≤ a.length := fun a => by
        induction a with
        | nil => intro b; simp [pairs]
        | cons x a ih => intro b; cases b with
          | nil => simp [pairs]
          | cons y b => simp only [pairs, List.length_cons]; have := ih b; omega
      have := this (os.map .int) ((os.drop 1).map .int)
      rw [szs]; simp at this ⊢; omega) (fun v hv => by
      have : ∀ (a b : List Int) (v : MV), v ∈ pairs (a.map .int) (b.map .int) → ∃ x y, v = .tup [.int x, .int y] := fun a => by
        induction a with
        | nil => intro b v hv; simp [pairs] at hv
        | cons x a ih => intro b v hv; cases b with
          | nil => simp [pairs] at hv
          | cons y b =>
            simp only [List.map_cons, pairs, List.mem_cons] at hv
            rcases hv with rfl | hv
            · exact ⟨x, y, rfl⟩
            · exact ih b v hv
      obtain ⟨x, y, rfl⟩ := this os (os.drop 1) v hv
      exact ⟨[some (.tup [.str l, .str f, .tup (os.map .int)]), some (.int x), some (.int y), none], rfl, by simp [mLt]⟩)
  rw [ap, List.nil_append] at lz
  unfold isPage
  by_cases h1 : (decide (l.length ≤ 200) && l.all sgn) = true
  · by_cases h2 : (decide (f.length ≤ 200) && f.all sgn) = true
    · rw [h1] at t1 ⊢
      rw [h2] at t2 ⊢
      cases h3 : os.all (placeIn f) with
      | false => simp [m_is_page, b_is_page, isi_tup, isTy, len_tup, i0, i1, i2, t1, t2, wipeM, lc, all_map, h3]
      | true =>
        have am := all_map (fun p : Int × Int => decide (p.1 < p.2)) (os.zip (os.drop 1)) h
        rw [aq] at am
        have ed : (os.drop 1).map MV.int = (os.map MV.int).tail := by simp
        rw [ed] at lz
        simp only [List.drop_one] at lz am
        simp [-eLv_ap, m_is_page, b_is_page, isi_tup, isTy, len_tup, i0, i1, i2, t1, t2]
        simp [i2, wipeM, lc, all_map, h3, isi_tup, isTy, ct, jZip, lz, am]
    · have h2' : (decide (f.length ≤ 200) && f.all sgn) = false := by simpa using h2
      rw [h1] at t1 ⊢
      rw [h2'] at t2 ⊢
      simp [m_is_page, b_is_page, isi_tup, isTy, len_tup, i0, i1, t1, t2]
  · have h1' : (decide (l.length ≤ 200) && l.all sgn) = false := by simpa using h1
    rw [h1'] at t1 ⊢
    simp [m_is_page, b_is_page, isi_tup, isTy, len_tup, i0, t1]
end MP.Pg

/-! books, keys; pressed -/
namespace MP.Pg
open PySem L2 MP MP.Pr
abbrev wNever : CP := [110, 101, 118, 101, 114]
abbrev wNone : CP := [110, 111, 110, 101]
abbrev wOne : CP := [111, 110, 101]
structure Bk.Ok (B : Bk) : Prop where
  a : B.a ∈ [wAlways, wFree, wNever]
  b : B.b ∈ [wAlways, wApart, wNever]
  c : B.c ∈ [wSame, wNone]
  d : B.d ∈ [wOwn, wAny, wNever]
  e : B.e ∈ [wOwn, wAny, wOne]
  f : B.f ∈ [wNever, wLine]
theorem inF_strs (x : CP) : ∀ l : List CP, inF (.str x) (l.map .str) = some (l.contains x)
  | [] => rfl
  | y :: l => by
    simp only [List.map_cons, inF, fEq, inF_strs x l, List.contains_cons]
    rw [BEq.comm (a := y)]
theorem need_book_ok {B : Bk} (ok : B.Ok) (h : MH) : m_need_book [B.v] h = .ok B.v h := by
  have ea : inF (.str B.a) [.str wAlways, .str wFree, .str wNever] = some true := by
    have := inF_strs B.a [wAlways, wFree, wNever]
    rw [List.contains_iff_mem.mpr ok.a] at this; exact this
  have eb : inF (.str B.b) [.str wAlways, .str wApart, .str wNever] = some true := by
    have := inF_strs B.b [wAlways, wApart, wNever]
    rw [List.contains_iff_mem.mpr ok.b] at this; exact this
  have ec : inF (.str B.c) [.str wSame, .str wNone] = some true := by
    have := inF_strs B.c [wSame, wNone]
    rw [List.contains_iff_mem.mpr ok.c] at this; exact this
  have ed : inF (.str B.d) [.str wOwn, .str wAny, .str wNever] = some true := by
    have := inF_strs B.d [wOwn, wAny, wNever]
    rw [List.contains_iff_mem.mpr ok.d] at this; exact this
  have ee : inF (.str B.e) [.str wOwn, .str wAny, .str wOne] = some true := by
    have := inF_strs B.e [wOwn, wAny, wOne]
    rw [List.contains_iff_mem.mpr ok.e] at this; exact this
  have ef : inF (.str B.f) [.str wNever, .str wLine] = some true := by
    have := inF_strs B.f [wNever, wLine]
    rw [List.contains_iff_mem.mpr ok.f] at this; exact this
  have c0 : mIx v_CHOICES (.int 0) h = some (.tup [.str wAlways, .str wFree, .str wNever], h) := rfl
  have c1 : mIx v_CHOICES (.int 1) h = some (.tup [.str wAlways, .str wApart, .str wNever], h) := rfl
  have c2 : mIx v_CHOICES (.int 2) h = some (.tup [.str wSame, .str wNone], h) := rfl
  have c3 : mIx v_CHOICES (.int 3) h = some (.tup [.str wOwn, .str wAny, .str wNever], h) := rfl
  have c4 : mIx v_CHOICES (.int 4) h = some (.tup [.str wOwn, .str wAny, .str wOne], h) := rfl
  have c5 : mIx v_CHOICES (.int 5) h = some (.tup [.str wNever, .str wLine], h) := rfl
  have cl : mLen [v_CHOICES] h = some (.int 6, h) := rfl
  simp [m_need_book, b_need_book, Bk.v, isi_tup, isi_str, isTy, len_tup, cl, enumL, forL, mInB, c0, c1, c2, c3, c4, c5, ea, eb, ec, ed, ee, ef]
def Ky.ok : Ky → Bool
  | .sg c => sgn c
  | _ => true
theorem is_sign_one (c : Nat) (h : MH) : m_is_sign [.str [c]] h = .ok (.bl (sgn c)) h := by
  have : inS [c] SG = sgn c := inS_one c SG
  simp only [SG] at this
  simp [m_is_sign, b_is_sign, isi_str, isTy, len_str, v_SIGNS, this]
theorem is_key_ok {y : Ky} (hy : y.ok = true) (h : MH) : m_is_key [.str y.t] h = .ok (.bl true) h := by
  cases y with
  | sg c =>
    have := is_sign_one c h
    have hc : sgn c = true := hy
    rw [hc] at this
    simp [m_is_key, b_is_key, Ky.t, this]
  | back => rfl
  | right => rfl
  | end_ => rfl
def ksV (ks : List Ky) : MV := .tup (ks.map fun y => .str y.t)
theorem keys_loop (t : MV) (h : MH) : ∀ (ks : List Ky) (i : Nat) (x y : Option MV), (∀ k ∈ ks, k.ok = true) → ∃ x' y', forL (gTp 2 (gC (gNm 1) (gC (gNm 2) (gN)))) (sIf (tNotM (tVal (eCall 1 m_is_key (aCons (eVar 2) (aNil))))) (sNever) (sNil)) (enumL i (ks.map fun y => .str y.t)) [some t, x, y] h = .nx [some t, x', y'] h
  | [], _, x, y, _ => ⟨x, y, rfl⟩
  | k :: ks, i, x, y, hk => by
    obtain ⟨x', y', e⟩ := keys_loop t h ks (i + 1) (some (.int (i : Int))) (some (.str k.t)) fun z hz => hk z (List.mem_cons_of_mem _ hz)
    have := is_key_ok (hk k List.mem_cons_self) h
    refine ⟨x', y', ?_⟩
    simp [enumL, forL, this, e]
theorem need_keys_ok {ks : List Ky} (hk : ∀ k ∈ ks, k.ok = true) (hl : ks.length ≤ 400) (h : MH) : m_need_keys [ksV ks] h = .ok .non h := by
  obtain ⟨x', y', e⟩ := keys_loop (ksV ks) h ks 0 none none hk
  have h2 : ¬ (400 : Int) < (ks.length : Int) := by omega
  unfold ksV at e ⊢
  simp [m_need_keys, b_need_keys, isi_tup, isTy, len_tup, mGt, v_MOST_KEYS, h2, e]
def pressAll (B : Bk) : List Ky → CP → Rt → CP × Rt
  | [], l, r => (l, r)
  | y :: ks, l, r => pressAll B ks (pressS B l r y).1 (pressS B l r y).2
/-! ### how pages grow -/
theorem typeS_len (B : Bk) (l : CP) (r : Rt) (c : Nat) : (typeS B l r c).1.length = l.length + 1 ∧ (typeS B l r c).2.length ≤ r.length + 1 := by
  unfold typeS
  split
  · simp; omega
  · have : ∀ o : Option Nat, (match o with
      | some k => if doesPut B l r c then (k, true) :: r else r
      | none => r).length ≤ r.length + 1 := by
      intro o
      cases o with
      | none => simp
      | some k => simp only; split <;> simp
    refine ⟨by simp, ?_⟩
    simp only
    split
    · rw [List.length_map]; exact this _
    · exact this _
theorem backS_len (B : Bk) (l : CP) (r : Rt) : (backS B l r).1.length ≤ l.length ∧ (backS B l r).2.length ≤ r.length := by
  unfold backS
  split
  · simp
  · refine ⟨by simp, ?_⟩
    simp only
    unfold backR
    split
    · split <;> simp
    · simp
theorem endS_len (l : CP) (r : Rt) : (endS l r).1.length + (endS l r).2.length = l.length + r.length := by
  have := congrArg List.length (List.takeWhile_append_dropWhile (p := fun (q : Nat × Bool) => q.2) (l := r))
  simp only [List.length_append] at this
  simp only [endS, List.length_append, List.length_map]
  omega
theorem pressS_len (B : Bk) (l : CP) (r : Rt) (y : Ky) : (pressS B l r y).1.length + (pressS B l r y).2.length ≤ l.length + r.length + 2 := by
  cases y with
  | back => have := backS_len B l r; simp only [pressS]; omega
  | right => simp only [pressS]; cases r <;> simp [overS]; omega
  | end_ => have := endS_len l r; simp only [pressS]; omega
  | sg c => have := typeS_len B l r c; simp only [pressS]; omega
theorem pressAll_len (B : Bk) : ∀ (ks : List Ky) (l : CP) (r : Rt), (pressAll B ks l r).1.length + (pressAll B ks l r).2.length ≤ l.length + r.length + 2 * ks.length
  | [], l, r => by simp [pressAll]
  | y :: ks, l, r => by
    have h1 := pressS_len B l r y
    have h2 := pressAll_len B ks (pressS B l r y).1 (pressS B l r y).2
    simp only [pressAll, List.length_cons]
    omega
theorem grown {h h1 : MH} {n k k1 : Nat} {l l1 : CP} {r r1 : Rt} (p : PgAt h n k l r) (q : PgAt h1 n k1 l1 r1) (hk : k1 = k ∨ h.length ≤ k1) (f : Fr n k h h1) : h.length ≤ h1.length := by
  have a1 := get_lt p.pg
  have b1 := get_lt q.pg
  have b2 := get_lt q.ls
  rcases hk with z | z
  · rcases Nat.lt_or_ge h1.length h.length with w | w
    · have hi : h[h.length - 1]? = some h[h.length - 1] := by simp
      by_cases e1 : h.length - 1 = n
      · omega
      · by_cases e2 : h.length - 1 = k
        · omega
        · have := get_lt (f _ _ hi e1 e2)
          omega
    · exact w
  · omega
/-- a row of keys on a page: the loop -/
theorem press_loop (B : Bk) (s : Sl) (pi bi ki n : Nat) (hp : s[pi]? = some (some (.ref n))) (hb : s[bi]? = some (some B.v)) (hne : pi ≠ ki ∧ bi ≠ ki) (hki : ki < s.length) :
    ∀ (ks : List Ky) (h : MH) (k : Nat) (l : CP) (r : Rt) (x : Option MV), PgAt h n k l r → l.length + r.length + 2 * ks.length ≤ 99999 →
    ∃ h' k' x', forL (gNm ki) (sExpr (eMeth n_Page x_press 3 m_Page_press (eVar pi) (aCons (eVar bi) (aCons (eVar ki) (aNil))))) (ks.map fun y => .str y.t) (s.set ki x) h = .nx (s.set ki x') h' ∧ PgAt h' n k' (pressAll B ks l r).1 (pressAll B ks l r).2 ∧ (k' = k ∨ h.length ≤ k') ∧ Fr n k h h'
  | [], h, k, l, r, x, p, _ => ⟨h, k, x, rfl, p, .inl rfl, Fr.refl _ _ _⟩
  | y :: ks, h, k, l, r, x, p, hl => by
    simp only [List.length_cons] at hl
    have hpl := pressS_len B l r y
    obtain ⟨h1, k1, e1, q, hk1, f1⟩ := press_ok p (by omega) B y
    obtain ⟨h2, k2, x2, e2, q2, hk2, f2⟩ := press_loop B s pi bi ki n hp hb hne hki ks h1 k1 _ _ (some (.str y.t)) q (by omega)
    have g1 : (s.set ki (some (.str y.t)))[pi]? = some (some (.ref n)) := by rw [List.getElem?_set_ne (Ne.symm hne.1)]; exact hp
    have g2 : (s.set ki (some (.str y.t)))[bi]? = some (some B.v) := by rw [List.getElem?_set_ne (Ne.symm hne.2)]; exact hb
    have g3 : (s.set ki (some (.str y.t)))[ki]? = some (some (.str y.t)) := by rw [List.getElem?_set_self hki]
    have hlen : h.length ≤ h1.length := grown p q hk1 f1
    refine ⟨h2, k2, x2, ?_, q2, ?_, ?_⟩
    · simp only [List.map_cons, forL, gNm_ap, go_ok, List.set_set]
      simp [g1, g2, g3, p.pg, e1]
      exact e2
    · rcases hk2 with z | z
      · rw [z]; exact hk1
      · exact .inr (by omega)
    · intro i o e a b
      exact f2 i o (f1 i o e a b) a (fun z => by
        rcases hk1 with w | w
        · exact b (z.trans w)
        · have := get_lt e
          omega)
theorem page_new {l f : CP} {os : List Int} (hf : f.length ≤ 99999) (h : MH) : ∃ h', eMake n_Page 2 m_Page___init__ (fun s g => .ok [.tup [.str l, .str f, .tup (os.map .int)]] g) [] h = .ok (.ref h.length) h' ∧ PgAt h' h.length (h.length + 1) l (rtOf 0 f os) ∧ ∀ (i : Nat) (o : MO), h[i]? = some o → h'[i]? = some o := by
  obtain ⟨h', e, p, hl, fr⟩ := init_ok (h := h ++ [.ins n_Page []]) (n := h.length) (l := l) (f := f) (os := os) (by simp) hf
  refine ⟨h', ?_, by simpa using p, fun i o ei => fr i o (by rw [List.getElem?_append_left (get_lt ei)]; exact ei) (by have := get_lt ei; omega)⟩
  simp [e]
theorem pressed_ok {B : Bk} (ok : B.Ok) {l f : CP} {os : List Int} {ks : List Ky} (hp : isPage l f os = true) (hk : ∀ k ∈ ks, k.ok = true) (hl : ks.length ≤ 400) (ho : os.length ≤ 99999) (g : MH) :
    pureV m_pressed [B.v, .tup [.str l, .str f, .tup (os.map .int)], ksV ks] g = .ok (toldV (pressAll B ks l (rtOf 0 f os)).1 (pressAll B ks l (rtOf 0 f os)).2) g := by
  have hp' := hp
  unfold isPage at hp'
  simp only [Bool.and_eq_true, decide_eq_true_eq] at hp'
  obtain ⟨⟨⟨⟨h1, _⟩, h2, _⟩, _⟩, _⟩ := hp'
  have np := is_page_ok (l := l) (f := f) (os := os) (by omega) (by omega) ho []
  rw [hp] at np
  have npg : m_need_page [.tup [.str l, .str f, .tup (os.map .int)]] [] = .ok .non [] := by simp [m_need_page, b_need_page, np]
  obtain ⟨h', e, p, fr⟩ := page_new (l := l) (f := f) (os := os) (by omega) []
  have e' : eMake n_Page 2 m_Page___init__ (aCons (eVar 1) (aNil)) [some B.v, some (.tup [.str l, .str f, .tup (os.map .int)]), some (ksV ks), none, none] [] = .ok (.ref 0) h' := by
    simpa using e
  obtain ⟨h2, k2, x2, e2, p2, _, _⟩ := press_loop B [some B.v, some (.tup [.str l, .str f, .tup (os.map .int)]), some (ksV ks), some (.ref 0), none] 3 0 4 0 rfl rfl ⟨by decide, by decide⟩ (by simp) ks h' 1 l (rtOf 0 f os) none p (by rw [rtOf_len]; omega)
  have hpl := pressAll_len B ks l (rtOf 0 f os)
  rw [rtOf_len] at hpl
  have td := told_ok p2 (by omega)
  have run : m_pressed [B.v, .tup [.str l, .str f, .tup (os.map .int)], ksV ks] [] = .ok (toldV (pressAll B ks l (rtOf 0 f os)).1 (pressAll B ks l (rtOf 0 f os)).2) h2 := by
    simp only [List.set] at e2
    have nk := need_keys_ok hk hl []
    have nb := need_book_ok ok []
    unfold ksV at e2 nk e' ⊢
    simp [-eMake_ap, m_pressed, b_pressed, nb, npg, nk, e', e2, p2.pg, td]
  have bel : ∀ os : List Int, belowL 0 (os.map .int) = true := fun os => by
    induction os with
    | nil => rfl
    | cons a os ih => simp [belowL, below, ih]
  have belk : belowL 0 (ks.map fun y => MV.str y.t) = true := by
    clear e e2 p2 hpl td run hk hl e' x2
    induction ks with
    | nil => rfl
    | cons a ks ih => simp [belowL, below, ih]
  have belo : ∀ js : List Nat, belowL 0 (js.map fun (i : Nat) => MV.int (i : Int)) = true := fun js => by
    induction js with
    | nil => rfl
    | cons a os ih => simp [belowL, below, ih]
  unfold pureV
  rw [if_pos (by simp [belowL, below, Bk.v, ksV, bel, belk]), run]
  simp [toldV, pureRV, pureR, below, belowL, belo]
end MP.Pg

/-! what laws draw -/
namespace MP.Ld
open PySem L2 MP MP.Cm MP.Pg
theorem below_up {n m : Nat} (h : n ≤ m) : (∀ v : MV, below n v = true → below m v = true) := by
  intro v
  induction v using below.induct (motive_2 := fun l => belowL n l = true → belowL m l = true) with
  | case1 k => intro e; simp only [below, Nat.blt_eq] at e ⊢; omega
  | case2 xs ih => intro e; simp only [below] at e ⊢; exact ih e
  | case3 xs ih => intro e; simp only [below] at e ⊢; exact ih e
  | case4 xs ih => intro e; simp only [below] at e ⊢; exact ih e
  | case5 c ns xs ih => intro e; simp only [below] at e ⊢; exact ih e
  | case6 a c q ws xs ih => intro e; simp only [below] at e ⊢; exact ih e
  | case7 v h1 h2 h3 h4 h5 h6 => intro _; cases v <;> first | exact (h6 _ _ _ _ _ rfl).elim | simp_all [below]
  | case8 => simp [belowL]
  | case9 x xs i1 i2 =>
    rename_i e
    simp only [belowL, Bool.and_eq_true] at e ⊢
    exact ⟨i1 e.1, i2 e.2⟩
/-- the state: b draws can still be made; beside it stands t -/
structure S4 (b : Nat) (t h : MH) : Prop where
  ex : ∃ cs gs n, Cs cs ∧ 0 ≤ n ∧ n + (b : Int) < 2 ^ 62 ∧ h = st cs gs n t
  bel : belowH (t.length + 4) t = true
theorem S4.mono {b b' : Nat} {t h : MH} (s : S4 b t h) (hb : b' ≤ b) : S4 b' t h := by
  obtain ⟨⟨cs, gs, n, a, c, d, e⟩, f⟩ := s
  exact ⟨⟨cs, gs, n, a, c, by omega, e⟩, f⟩
theorem S4.draw {b : Nat} {t h : MH} {lim : Int} (s : S4 (b + 1) t h) (hl : 0 < lim ∧ lim < 1073741824) : ∃ v h', 0 ≤ v ∧ v < lim ∧ S4 b t h' ∧ m_law_draw [.ref 2, .int lim] h = .ok (.int v) h' := by
  obtain ⟨⟨cs, gs, n, a, c, d, rfl⟩, f⟩ := s
  obtain ⟨v, gs', h1, h2, _, e⟩ := draw_ok (cs := cs) (gs := gs) (n := n) (lim := lim) (t := t) ⟨a.1, a.2, by omega⟩ hl f
  exact ⟨v, _, h1, h2, ⟨⟨cs, gs', n + 1, a, by omega, by push_cast at d; omega, rfl⟩, f⟩, e⟩
/-- a drawn number as a place -/
theorem S4.drawN {b : Nat} {t h : MH} {k : Nat} (s : S4 (b + 1) t h) (hk : 0 < k ∧ k < 1000000) : ∃ (j : Nat) (h' : MH), j < k ∧ S4 b t h' ∧ m_law_draw [.ref 2, .int (k : Int)] h = .ok (.int (j : Int)) h' := by
  obtain ⟨v, h', h1, h2, s', e⟩ := s.draw (lim := (k : Int)) (by omega)
  refine ⟨v.toNat, h', by omega, s', ?_⟩
  rw [e, Int.toNat_of_nonneg h1]
theorem st_len4 {cs gs : List Int} {n : Int} {t : MH} : (st cs gs n t).length = t.length + 4 := rfl
theorem S4.len {b : Nat} {t h : MH} (s : S4 b t h) : h.length = t.length + 4 := by
  obtain ⟨⟨cs, gs, n, _, _, _, rfl⟩, _⟩ := s
  rfl
/-- the end of a def that draws -/
theorem trim_end {m : MF} {as : List MV} {b b' : Nat} {t u h h' : MH} {v : MV} (s : S4 b t h) (s' : S4 b' (t ++ u) h') (e : m as h = .ok v h') (hv : below 0 v = true) : ∃ h2, S4 b' t h2 ∧ trimV m as h = .ok v h2 := by
  obtain ⟨⟨cs, gs, n, a, c, d, rfl⟩, f⟩ := s
  obtain ⟨⟨cs', gs', n', a', c', d', rfl⟩, f'⟩ := s'
  refine ⟨st cs' gs' n' t, ⟨⟨cs', gs', n', a', c', d', rfl⟩, f⟩, ?_⟩
  have hb : below (t.length + 4) v = true := below_up (Nat.zero_le _) v hv
  have hr : ∀ j, v ≠ .ref j := fun j z => by subst z; simp [below] at hv
  have ht : belowH (t.length + 4) (st cs' gs' n' t) = true := st_below (by omega) f
  unfold trimV
  rw [e, st_len4]
  cases v <;> simp [trimRV, trimR, hb, st_take, ht] <;> exact absurd rfl (hr _)
theorem S4.grow {b : Nat} {t h : MH} (s : S4 b t h) (o : MO) (ho : belowO (t.length + 5) o = true) : S4 b (t ++ [o]) (h ++ [o]) := by
  obtain ⟨⟨cs, gs, n, a, c, d, rfl⟩, f⟩ := s
  refine ⟨⟨cs, gs, n, a, c, d, rfl⟩, ?_⟩
  have mono : ∀ (l : List MV) (k j : Nat), k ≤ j → belowL k l = true → belowL j l = true := fun l => by
    induction l with
    | nil => intro k j _ _; rfl
    | cons x l ih =>
      intro k j h e
      simp only [belowL, Bool.and_eq_true] at e ⊢
      exact ⟨below_up h x e.1, ih k j h e.2⟩
  have monoF : ∀ {α : Type} (l : List (α × MV)) (k j : Nat), k ≤ j → belowF k l = true → belowF j l = true := fun {α} l => by
    induction l with
    | nil => intro k j _ _; rfl
    | cons x l ih =>
      intro k j h e
      simp only [belowF, Bool.and_eq_true] at e ⊢
      exact ⟨below_up h x.2 e.1, ih k j h e.2⟩
  have key : ∀ (l : MH) (k j : Nat), k ≤ j → belowH k l = true → belowH j l = true := fun l => by
    induction l with
    | nil => intro k j _ _; rfl
    | cons x l ih =>
      intro k j h e
      simp only [belowH, Bool.and_eq_true] at e ⊢
      refine ⟨?_, ih k j h e.2⟩
      cases x with
      | lst xs => exact mono _ _ _ h e.1
      | dK xs => exact monoF _ _ _ h e.1
      | dZ xs => exact monoF _ _ _ h e.1
      | dT xs => exact monoF _ _ _ h e.1
      | ins c xs => exact monoF _ _ _ h e.1
  have app : ∀ (l l' : MH) (k : Nat), belowH k l = true → belowH k l' = true → belowH k (l ++ l') = true := fun l => by
    induction l with
    | nil => intro l' k _ e; exact e
    | cons x l ih =>
      intro l' k e e'
      simp only [List.cons_append, belowH, Bool.and_eq_true] at e ⊢
      exact ⟨e.1, ih l' k e.2 e'⟩
  have e1 : (t ++ [o]).length + 4 = t.length + 5 := by simp
  rw [e1]
  exact app _ _ _ (key t _ _ (by omega) f) (by simp [belowH, ho])
/-- a comprehension whose element draws c times -/
theorem lcL_draw {t : Tg} {te : ME} {sw : Sl} {u : MH} (c : Nat) (P : MV → MV → Prop) : ∀ (xs acc : List MV) (b : Nat) (h : MH), S4 (c * xs.length + b) u h → acc.length + xs.length ≤ 99999 →
    (∀ x ∈ xs, ∀ b h, S4 (c + b) u h → ∃ s2 y h', t.run x sw = some s2 ∧ P x y ∧ S4 b u h' ∧ te s2 h = .ok y h') → ∃ ys h', S4 b u h' ∧ Paired P xs ys ∧ lcL t tYesM te sw xs acc h = .ok (.lv (acc ++ ys)) h'
  | [], acc, b, h, s, _, _ => ⟨[], h, by simpa using s, .nil, by simp [lcL]⟩
  | x :: xs, acc, b, h, s, hl, hx => by
    simp only [List.length_cons] at hl
    have hlt : acc.length < 16777216 := by omega
    obtain ⟨s2, y, h1, e1, p1, st1, e2⟩ := hx x List.mem_cons_self (c * xs.length + b) h (by
      have : c * (x :: xs).length + b = c + (c * xs.length + b) := by rw [List.length_cons, Nat.mul_add]; omega
      rw [this] at s; exact s)
    obtain ⟨ys, h2, st2, p2, e3⟩ := lcL_draw c P xs (acc ++ [y]) b h1 st1 (by simp; omega) fun z hz => hx z (List.mem_cons_of_mem _ hz)
    refine ⟨y :: ys, h2, st2, .cons p1 p2, ?_⟩
    simp [lcL, e1, e2, Pg.szs, hlt, e3]
theorem paired_all {P : MV → Prop} : ∀ {xs ys : List MV}, Paired (fun _ y => P y) xs ys → ys.length = xs.length ∧ ∀ y ∈ ys, P y
  | _, _, .nil => ⟨rfl, fun _ h => nomatch h⟩
  | _, _, .cons p t => by
    obtain ⟨a, b⟩ := paired_all t
    refine ⟨by simp [a], fun y hy => ?_⟩
    rcases List.mem_cons.mp hy with rfl | hy
    · exact p
    · exact b y hy
/-- one sign of an alphabet, drawn -/
theorem text_of_signs {A : CP} : ∀ {ys : List MV}, (∀ y ∈ ys, ∃ c ∈ A, y = .str [c]) → ∃ l : CP, l.length = ys.length ∧ (∀ c ∈ l, c ∈ A) ∧ ys = l.map fun c => .str [c]
  | [], _ => ⟨[], rfl, (fun c (hc : c ∈ ([] : CP)) => nomatch hc), rfl⟩
  | y :: ys, hy => by
    obtain ⟨c, hc, rfl⟩ := hy y List.mem_cons_self
    obtain ⟨l, h1, h2, rfl⟩ := text_of_signs (ys := ys) fun z hz => hy z (List.mem_cons_of_mem _ hz)
    refine ⟨c :: l, by rw [List.length_cons, List.length_cons, h1, List.length_map], fun d hd => ?_, rfl⟩
    rcases List.mem_cons.mp hd with rfl | hd
    · exact hc
    · exact h2 d hd
theorem joinSigns {l : CP} (hl : l.length ≤ 99999) (h : MH) : mJoin (.str []) [.lv (l.map fun c => .str [c])] h = some (.str l, h) := by
  have e : l.map (fun c => MV.str [c]) = (l.map fun c => (c, true)).map fun p => MV.str [p.1] := by simp [Function.comp_def]
  have e2 : (l.map fun c => (c, true)).map (fun p : Nat × Bool => [p.1]) = l.map fun c => [c] := by simp [Function.comp_def]
  have h1 := strs_ones (l.map fun c => (c, true))
  have h2 := join_ones (l.map fun c => (c, true))
  have h3 := lensum_ones (l.map fun c => (c, true))
  rw [e2, List.length_map] at h3
  rw [e2] at h1 h2
  simp only [List.map_map, Function.comp_def, List.map_id'] at h1 h2
  have hz : lensum (l.map fun c => [c]) ≤ 16777216 := by rw [h3]; omega
  simp only [mJoin, lstV, mJoinL, h1, List.length_nil, Nat.mul_zero, Nat.add_zero, hz, if_true, h2]
theorem upTo_len (lo : Int) (n : Nat) : (upTo lo n).length = n := by simp [upTo]
theorem ix_strN {A : CP} {j : Nat} (hj : j < A.length) (hA : A.length ≤ 1000) (h : MH) : ∃ c ∈ A, mIx (.str A) (.int (j : Int)) h = some (.str [c], h) := by
  refine ⟨A[j], List.getElem_mem hj, ?_⟩
  have hs : A.length ≤ 16777216 := by omega
  simp [mIx, Pg.szs, hs, atI_nat (xs := A) (j := j) (v := A[j]) (by simp [hj])]
end MP.Ld

/-! texts as laws look at them -/
namespace MP.Le
open PySem L2 MP MP.Pg
theorem cut_take {α : Type} (xs : List α) (k : Nat) : cutM xs none (some (k : Int)) = xs.take k := by
  unfold cutM
  simp only [HT.sIx, if_neg (show ¬ (k : Int) < 0 by omega), Int.toNat_natCast, Nat.sub_zero, List.drop_zero]
  by_cases hk : k ≤ xs.length
  · rw [Nat.min_eq_left hk]
  · rw [Nat.min_eq_right (by omega), List.take_of_length_le (Nat.le_refl _), List.take_of_length_le (by omega)]
theorem cut_drop {α : Type} (xs : List α) (k : Nat) : cutM xs (some (k : Int)) none = xs.drop k := by
  unfold cutM
  simp only [HT.sIx, if_neg (show ¬ (k : Int) < 0 by omega), Int.toNat_natCast]
  by_cases hk : k ≤ xs.length
  · rw [Nat.min_eq_left hk, List.take_of_length_le (by simp)]
  · rw [Nat.min_eq_right (by omega), List.drop_of_length_le (Nat.le_refl _), List.drop_of_length_le (by omega)]
    simp
theorem pre_one (c d : Nat) (r : List Nat) : TL.pre [d] (c :: r) = (d == c) := by
  simp [TL.pre]; exact BEq.comm
theorem spl_last : ∀ (l acc : CP), (TL.spl [47] 0 acc l).getLast? = some (if l.contains 47 then after l else acc ++ l)
  | [], acc => by simp [TL.spl]
  | c :: r, acc => by
    by_cases h : c = 47
    · subst h
      have e : TL.spl [47] 0 acc (47 :: r) = acc :: TL.spl [47] 0 [] r := by
        rw [TL.spl, if_pos (by simp [pre_one])]
        rfl
      have ih := spl_last r []
      rw [e, List.getLast?_cons, ih]
      simp only [Option.getD_some, List.nil_append]
      have h2 : (47 :: r).contains 47 = true := by simp
      rw [if_pos h2, after]
      by_cases h3 : r.contains 47 = true
      · rw [if_pos h3, if_pos h3]
      · rw [if_neg h3, if_neg h3, if_pos rfl]
    · have e : TL.spl [47] 0 acc (c :: r) = TL.spl [47] 0 (acc ++ [c]) r := by
        rw [TL.spl, if_neg (by simp [pre_one]; exact fun z => h z.symm)]
      have ih := spl_last r (acc ++ [c])
      rw [e, ih]
      have h2 : (c :: r).contains 47 = r.contains 47 := by
        rw [List.contains_cons]
        have : ((47 : Nat) == c) = false := by rw [beq_eq_false_iff_ne]; exact fun z => h z.symm
        rw [this, Bool.false_or]
      rw [h2]
      by_cases h3 : r.contains 47 = true
      · rw [if_pos h3, if_pos h3, after, if_pos h3]
      · rw [if_neg h3, if_neg h3]
        simp
theorem after_id : ∀ l : CP, l.contains 47 = false → after l = l
  | [], _ => rfl
  | c :: r, h => by
    rw [List.contains_cons, Bool.or_eq_false_iff] at h
    have hc : c ≠ 47 := fun z => by subst z; simp at h
    rw [after, if_neg (by rw [h.2]; simp), if_neg hc]
theorem spl_lastT (l : CP) : (TL.spl [47] 0 [] l).getLast? = some (after l) := by
  rw [spl_last]
  by_cases h : l.contains 47 = true
  · rw [if_pos h]
  · have hf : l.contains 47 = false := by simpa using h
    rw [if_neg h, after_id l hf]
    rfl
theorem within_par (l : CP) : within l = par (after l) := by
  unfold within
  rw [within_after]
  by_cases h : l.contains 47 = true
  · rw [if_pos h]
  · have hf : l.contains 47 = false := by simpa using h
    rw [if_neg h, after_id l hf]
    cases par l <;> rfl
theorem after_len : ∀ l : CP, (after l).length ≤ l.length
  | [] => by simp [after]
  | c :: r => by
    rw [after]
    split
    · have := after_len r; simp; omega
    · split <;> simp
/-- l.split("/")[-1] -/
theorem line_ok {l : CP} (hl : l.length ≤ 99999) (h : MH) : (mSplitV (.str l) [.str [47]] h = some (.lv ((TL.spl [47] 0 [] l).map .str), h)) ∧ mIx (.lv ((TL.spl [47] 0 [] l).map .str)) (.int (-1)) h = some (.str (after l), h) := by
  refine ⟨?_, ?_⟩
  · have : l.length + 2 ≤ 16777216 := by omega
    simp [mSplitV, Pg.szs, this]
  · have e := spl_lastT l
    rcases List.eq_nil_or_concat (TL.spl [47] 0 [] l) with z | ⟨xs, x, z⟩
    · rw [z] at e; cases e
    · rw [List.concat_eq_append] at z
      rw [z] at e ⊢
      simp at e
      subst e
      simp only [mIx, List.map_append, List.map_cons, List.map_nil, atI_last, Option.map_some]
def isQ : MV → Bool
  | .str [c] => c == 39
  | _ => false
theorem filt_len : ∀ l : CP, (((l.map fun c => MV.str [c]).filter isQ).length : Int) = cntL 39 l
  | [] => rfl
  | c :: l => by
    have ih := filt_len l
    simp only [List.map_cons, List.filter_cons, cntL, isQ]
    by_cases h : c = 39
    · subst h; simp only [beq_self_eq_true, if_true, List.length_cons]; push_cast; rw [ih]; omega
    · have : (c == 39) = false := by simpa using h
      simp only [this, Bool.false_eq_true, if_false, h]; rw [ih]; omega
theorem rtV_take (r : Rt) (k : Nat) : (rtV r).take k = rtV (r.take k) := by simp [rtV, List.map_take]
theorem rtV_drop (r : Rt) (k : Nat) : (rtV r).drop k = rtV (r.drop k) := by simp [rtV, List.map_drop]
end MP.Le

/-! the pressing of laws k03, k09 -/
namespace MP.Q3
open PySem L2 MP MP.Pg MP.Le
def b_law_pressed_0 : MS := sAsg (eVar 1) (gTp 2 (gC (gNm 8) (gC (gNm 9) (gN))))
def b_law_pressed_1 : MS := sAsg (eIf (tCmp mNe (eVar 9) (eLstV (aNil))) (eOp mIx (eVar 9) (eC (.int 0))) (eTup (aCons (eC (.str [])) (aCons (eC (.bl false)) (aNil))))) (gTp 2 (gC (gNm 10) (gC (gNm 11) (gN))))
def b_law_pressed_2 : MS := sAsg (eCutV (eVar 8) (pSo (eNeg (eC (.int 1)))) (pNo)) (gNm 3)
def b_law_pressed_3_t_0 : MS := sAsg (eDgd [(eC (.str [40]), eC (.str [41])), (eC (.str [91]), eC (.str [93])), (eC (.str [39]), eC (.str [39]))] (aCons (eVar 3) (aCons (eC (.str [45])) (aNil)))) (gNm 12)
def b_law_pressed_3_t_1 : MS := sAsg (eAnd (eOp mEq (eVar 12) (eVar 10)) (eOr (eOp mEq (eOp mIx (eVar 0) (eC (.int 4))) (eC (.str [97, 110, 121]))) (eAnd (eOp mEq (eOp mIx (eVar 0) (eC (.int 4))) (eC (.str [111, 119, 110]))) (eVar 11)))) (gNm 13)
def b_law_pressed_3_t_2 : MS := sRet (eTup (aCons (eCutV (eVar 8) (pNo) (pSo (eNeg (eC (.int 1))))) (aCons (eIf (tVal (eVar 13)) (eCutV (eVar 9) (pSo (eC (.int 1))) (pNo)) (eVar 9)) (aNil))))
def b_law_pressed_3 : MS := sIf (tCmp mEq (eVar 2) (eC (.str [98, 97, 99, 107]))) (sSeq (b_law_pressed_3_t_0) (sSeq (b_law_pressed_3_t_1) (b_law_pressed_3_t_2))) (sNil)
def b_law_pressed_4_t_0 : MS := sAsg (eBlt mLen (aCons (eCutV (eVar 9) (pNo) (pSo (eC (.int 1)))) (aNil))) (gNm 14)
def b_law_pressed_4_t_1 : MS := sIf (tCmp mEq (eVar 2) (eC (.str [101, 110, 100]))) (sAsg (eBlt mLen (aCons (eLv (jRng1 (aCons (eBlt mLen (aCons (eVar 9) (aNil))) (aNil))) [17] (.one 17) (tCmp mEq (eLv (jSeq (eCutV (eVar 9) (pNo) (pSo (eOp mAddV (eVar 17) (eC (.int 1)))))) [15, 16] (.row [15, 16]) (tNotM (tVal (eVar 16))) (eC (.int 1))) (eLstV (aNil))) (eVar 17)) (aNil))) (gNm 14)) (sNil)
def b_law_pressed_4_t_2 : MS := sRet (eTup (aCons (eOp mAddV (eVar 8) (eBm .str mJoin (eC (.str [])) (aCons (eLv (jSeq (eCutV (eVar 9) (pNo) (pSo (eVar 14)))) [15, 16] (.row [15, 16]) (tYesM) (eVar 15)) (aNil)))) (aCons (eCutV (eVar 9) (pSo (eVar 14)) (pNo)) (aNil))))
def b_law_pressed_4 : MS := sIf (tOrM (tCmp mEq (eVar 2) (eC (.str [114, 105, 103, 104, 116]))) (tCmp mEq (eVar 2) (eC (.str [101, 110, 100])))) (sSeq (b_law_pressed_4_t_0) (sSeq (b_law_pressed_4_t_1) (b_law_pressed_4_t_2))) (sNil)
def b_law_pressed_5 : MS := sIf (tAndM (tCmp mIn (eVar 2) (eC (.str [41, 93, 39]))) (tAndM (tCmp mEq (eVar 2) (eVar 10)) (tOrM (tCmp mEq (eOp mIx (eVar 0) (eC (.int 3))) (eC (.str [97, 110, 121]))) (tAndM (tCmp mEq (eOp mIx (eVar 0) (eC (.int 3))) (eC (.str [111, 119, 110]))) (tVal (eVar 11)))))) (sRet (eTup (aCons (eOp mAddV (eVar 8) (eVar 2)) (aCons (eCutV (eVar 9) (pSo (eC (.int 1))) (pNo)) (aNil))))) (sNil)
def b_law_pressed_6 : MS := sAsg (eOp mIx (eBm .str mSplitV (eVar 8) (aCons (eC (.str [47])) (aNil))) (eNeg (eC (.int 1)))) (gNm 4)
def b_law_pressed_7 : MS := sAsg (eOp mEq (eOp mMod (eBlt mLen (aCons (eLv (jSeq (eVar 4)) [15] (.one 15) (tCmp mEq (eVar 15) (eC (.str [39]))) (eC (.int 1))) (aNil))) (eC (.int 2))) (eC (.int 1))) (gNm 5)
def b_law_pressed_8 : MS := sAsg (eOr (eOp mEq (eVar 10) (eC (.str []))) (eOp mIn (eVar 10) (eC (.str [41, 93, 39, 32, 47])))) (gNm 6)
def b_law_pressed_9 : MS := sAsg (eAnd (eOp mIn (eVar 2) (eC (.str [40, 91]))) (eOr (eOp mEq (eOp mIx (eVar 0) (eC (.int 0))) (eC (.str [97, 108, 119, 97, 121, 115]))) (eAnd (eOp mEq (eOp mIx (eVar 0) (eC (.int 0))) (eC (.str [102, 114, 101, 101]))) (eVar 6)))) (gNm 7)
def b_law_pressed_10 : MS := sIf (tCmp mEq (eVar 2) (eC (.str [39]))) (sAsg (eOr (eOp mEq (eOp mIx (eVar 0) (eC (.int 1))) (eC (.str [97, 108, 119, 97, 121, 115]))) (eAnd (eOp mEq (eOp mIx (eVar 0) (eC (.int 1))) (eC (.str [97, 112, 97, 114, 116]))) (eAnd (eVar 6) (eNot (eOr (eOp mEq (eVar 3) (eC (.str [39]))) (eChain mLe mLe (eC (.str [97])) (eVar 3) (eC (.str [122])))))))) (gNm 7)) (sNil)
def b_law_pressed_11 : MS := sIf (tAndM (tVal (eVar 7)) (tOrM (tCmp mEq (eOp mIx (eVar 0) (eC (.int 2))) (eC (.str [115, 97, 109, 101]))) (tNotM (tVal (eVar 5))))) (sAsg (eOp mAddV (eLstV (aCons (eTup (aCons (eDg [(eC (.str [40]), eC (.str [41])), (eC (.str [91]), eC (.str [93])), (eC (.str [39]), eC (.str [39]))] (eVar 2)) (aCons (eC (.bl true)) (aNil)))) (aNil))) (eVar 9)) (gNm 9)) (sNil)
def b_law_pressed_12 : MS := sIf (tAndM (tCmp mEq (eVar 2) (eC (.str [47]))) (tCmp mEq (eOp mIx (eVar 0) (eC (.int 5))) (eC (.str [108, 105, 110, 101])))) (sAsg (eLv (jSeq (eVar 9)) [15, 16] (.row [15, 16]) (tYesM) (eTup (aCons (eVar 15) (aCons (eC (.bl false)) (aNil))))) (gNm 9)) (sNil)
def b_law_pressed_13 : MS := sRet (eTup (aCons (eOp mAddV (eVar 8) (eVar 2)) (aCons (eVar 9) (aNil))))
def b_law_pressed : MS := sSeq (b_law_pressed_0) (sSeq (b_law_pressed_1) (sSeq (b_law_pressed_2) (sSeq (b_law_pressed_3) (sSeq (b_law_pressed_4) (sSeq (b_law_pressed_5) (sSeq (b_law_pressed_6) (sSeq (b_law_pressed_7) (sSeq (b_law_pressed_8) (sSeq (b_law_pressed_9) (sSeq (b_law_pressed_10) (sSeq (b_law_pressed_11) (sSeq (b_law_pressed_12) (b_law_pressed_13)))))))))))))
def m_law_pressed : MF := pureV (runFn 18 b_law_pressed)
def pgV (l : CP) (r : Rt) : MV := .tup [.str l, .lv (rtV r)]
def S18 (B P : MV) (k l : CP) (r : Rt) (nt : CP) (o : Bool) (la : CP) (x4 x5 x6 x7 x12 x13 x14 : Option MV) : Sl := [some B, some P, some (.str k), some (.str la), x4, x5, x6, x7, some (.str l), some (.lv (rtV r)), some (.str nt), some (.bl o), x12, x13, x14, none, none, none]
theorem ix0_rt (q : Nat × Bool) (t : Rt) (h : MH) : mIx (.lv (rtV (q :: t))) (.int 0) h = some (prV q, h) := by
  have := atI_nat (xs := rtV (q :: t)) (j := 0) (v := prV q) rfl
  simp only [mIx]
  rw [show atI (rtV (q :: t)) 0 = some (prV q) from this]
  rfl
theorem pre3 {B : Bk} {l : CP} {r : Rt} (hl : l.length ≤ 99999) (k : CP) (Z : MS) (h : MH) : sSeq b_law_pressed_0 (sSeq b_law_pressed_1 (sSeq b_law_pressed_2 Z)) [some B.v, some (pgV l r), some (.str k), none, none, none, none, none, none, none, none, none, none, none, none, none, none, none] h =
    Z (S18 B.v (pgV l r) k l r (oT (nx r)) (ow r) (oT l.getLast?) none none none none none none none) h := by
  have hs : l.length ≤ 16777216 := by omega
  have ct : mCutV (.str l) (some (-1)) none h = some (.str (oT l.getLast?), h) := by simp [mCutV, lstV, mCut, Pg.szs, hs, cut_lastOf]
  have e0 : b_law_pressed_0 [some B.v, some (pgV l r), some (.str k), none, none, none, none, none, none, none, none, none, none, none, none, none, none, none] h = .nx [some B.v, some (pgV l r), some (.str k), none, none, none, none, none, some (.str l), some (.lv (rtV r)), none, none, none, none, none, none, none, none] h := by
    simp [b_law_pressed_0, pgV]
  have e1 : b_law_pressed_1 [some B.v, some (pgV l r), some (.str k), none, none, none, none, none, some (.str l), some (.lv (rtV r)), none, none, none, none, none, none, none, none] h = .nx [some B.v, some (pgV l r), some (.str k), none, none, none, none, none, some (.str l), some (.lv (rtV r)), some (.str (oT (nx r))), some (.bl (ow r)), none, none, none, none, none, none] h := by
    cases r with
    | nil => simp [b_law_pressed_1, rtV, Pg.szs, nx, ow, oT]
    | cons q t =>
      have e : (rtV (q :: t)).isEmpty = false := rfl
      simp [b_law_pressed_1, e, ix0_rt, nx, ow, oT, prV]
  have e2 : b_law_pressed_2 [some B.v, some (pgV l r), some (.str k), none, none, none, none, none, some (.str l), some (.lv (rtV r)), some (.str (oT (nx r))), some (.bl (ow r)), none, none, none, none, none, none] h = .nx (S18 B.v (pgV l r) k l r (oT (nx r)) (ow r) (oT l.getLast?) none none none none none none none) h := by
    simp [b_law_pressed_2, ct, S18]
  rw [sSeq_ap, e0]
  simp only
  rw [sSeq_ap, e1]
  simp only
  rw [sSeq_ap, e2]
theorem partner (o : Option Nat) (s : Sl) (h : MH) (hs : s[3]? = some (some (.str (oT o)))) :
    eDgd [(eC (.str [40]), eC (.str [41])), (eC (.str [91]), eC (.str [93])), (eC (.str [39]), eC (.str [39]))] (aCons (eVar 3) (aCons (eC (.str [45])) (aNil))) s h = .ok (.str (match o.bind closerN with
      | some d => [d]
      | none => [45])) h := by
  cases o with
  | none => simp [eDgd, pairsM, ifs15, keyOf, hs, oT, merge, dPut, dHas, dGet]
  | some c =>
    by_cases h1 : c = 39
    · subst h1; simp [eDgd, pairsM, ifs15, keyOf, hs, oT, merge, dPut, dHas, dGet, closerN]
    by_cases h2 : c = 40
    · subst h2; simp [eDgd, pairsM, ifs15, keyOf, hs, oT, merge, dPut, dHas, dGet, closerN]
    by_cases h3 : c = 91
    · subst h3; simp [eDgd, pairsM, ifs15, keyOf, hs, oT, merge, dPut, dHas, dGet, closerN]
    simp [eDgd, pairsM, ifs15, keyOf, hs, oT, merge, dPut, dHas, dGet, closerN, h1, h2, h3, Ne.symm h1, Ne.symm h2, Ne.symm h3]
def RtOk (r : Rt) : Prop := ∀ p ∈ r, sgn p.1 = true
theorem lets_e (w : CP) (o : Bool) (s : Sl) (h : MH) (e : ME) (i : Nat) (he : e s h = .ok (.str w) h) (hi : s[i]? = some (some (.bl o))) :
    eOr (eOp mEq e (eC (.str [97, 110, 121]))) (eAnd (eOp mEq e (eC (.str [111, 119, 110]))) (eVar i)) s h = .ok (.bl (lets w o)) h := by
  unfold lets
  by_cases h1 : (w == wAny) = true
  · simp [he, h1]
  · by_cases h2 : (w == wOwn) = true
    · simp [he, h1, h2, hi]
    · simp [he, h1, h2]
theorem lets_t (w : CP) (o : Bool) (s : Sl) (h : MH) (e : ME) (i : Nat) (he : e s h = .ok (.str w) h) (hi : s[i]? = some (some (.bl o))) :
    tOrM (tCmp mEq e (eC (.str [97, 110, 121]))) (tAndM (tCmp mEq e (eC (.str [111, 119, 110]))) (tVal (eVar i))) s h = .ok (lets w o) h := by
  unfold lets
  by_cases h1 : (w == wAny) = true
  · simp [he, h1]
  · by_cases h2 : (w == wOwn) = true
    · simp [he, h1, h2, hi]
    · simp [he, h1, h2]
theorem take_cut (r : Rt) (m : Nat) (h : MH) : mCutV (.lv (rtV r)) none (some (m : Int)) h = some (.lv (rtV (r.take m)), h) := by
  simp only [mCutV, lstV, cut_take, rtV_take]
theorem drop_cut (r : Rt) (m : Nat) (h : MH) : mCutV (.lv (rtV r)) (some (m : Int)) none h = some (.lv (rtV (r.drop m)), h) := by
  simp only [mCutV, lstV, cut_drop, rtV_drop]
theorem cut_tail (r : Rt) (h : MH) : mCutV (.lv (rtV r)) (some 1) none h = some (.lv (rtV r.tail), h) := by
  have := drop_cut r 1 h
  rw [List.drop_one] at this
  exact this
theorem nodash {r : Rt} (hr : RtOk r) : (([45] : CP) == oT (nx r)) = false := by
  cases r with
  | nil => rfl
  | cons q t =>
    simp only [nx, List.head?_cons, Option.map_some, oT]
    rw [beq_eq_false_iff_ne]
    intro z
    have h1 := hr q List.mem_cons_self
    have : q.1 = 45 := by simpa using z.symm
    rw [this] at h1
    revert h1
    decide
theorem back3 {B : Bk} {l : CP} {r : Rt} (hl : l.length ≤ 99999) (hr : RtOk r) (P : MV) (h : MH) : b_law_pressed_3 (S18 B.v P kBack l r (oT (nx r)) (ow r) (oT l.getLast?) none none none none none none none) h = .rt (pgV (backS B l r).1 (backS B l r).2) h := by
  have hs : l.length ≤ 16777216 := by omega
  have cb : mCutV (.str l) none (some (-1)) h = some (.str l.dropLast, h) := by simp [mCutV, lstV, mCut, Pg.szs, hs, cut_last]
  have pa := partner l.getLast? (S18 B.v P kBack l r (oT (nx r)) (ow r) (oT l.getLast?) none none none none none none none) h rfl
  have e0 : ∀ x : CP, b_law_pressed_3_t_1 (S18 B.v P kBack l r (oT (nx r)) (ow r) (oT l.getLast?) none none none none (some (.str x)) none none) h = .nx (S18 B.v P kBack l r (oT (nx r)) (ow r) (oT l.getLast?) none none none none (some (.str x)) (some (.bl (x == oT (nx r) && lets B.e (ow r)))) none) h := fun x => by
    have le := lets_e B.e (ow r) (S18 B.v P kBack l r (oT (nx r)) (ow r) (oT l.getLast?) none none none none (some (.str x)) none none) h (eOp mIx (eVar 0) (eC (.int 4))) 11 (by simp [S18]) rfl
    cases hx : (x == oT (nx r)) with
    | false => simp [b_law_pressed_3_t_1, S18, hx]
    | true =>
      unfold S18 at le ⊢
      simp [-eOr_ap, b_law_pressed_3_t_1, hx, le]
  have e1 : ∀ (g : Bool) (x : MV), b_law_pressed_3_t_2 (S18 B.v P kBack l r (oT (nx r)) (ow r) (oT l.getLast?) none none none none (some x) (some (.bl g)) none) h = .rt (pgV l.dropLast (if g then r.tail else r)) h := fun g x => by
    cases g <;> simp [b_law_pressed_3_t_2, S18, cb, cut_tail, Pg.szs, pgV]
  have e2 : ∀ x : CP, (match l.getLast?.bind closerN with
      | some d => [d]
      | none => [45]) = x → b_law_pressed_3 (S18 B.v P kBack l r (oT (nx r)) (ow r) (oT l.getLast?) none none none none none none none) h = .rt (pgV l.dropLast (if (x == oT (nx r) && lets B.e (ow r)) then r.tail else r)) h := fun x hx => by
    rw [hx] at pa
    have p0 : b_law_pressed_3_t_0 (S18 B.v P kBack l r (oT (nx r)) (ow r) (oT l.getLast?) none none none none none none none) h = .nx (S18 B.v P kBack l r (oT (nx r)) (ow r) (oT l.getLast?) none none none none (some (.str x)) none none) h := by
      simp only [b_law_pressed_3_t_0, sAsg_ap, pa, bindS_ok, gNm_ap, go_ok]
      rfl
    have t0 : tCmp mEq (eVar 2) (eC (.str [98, 97, 99, 107])) (S18 B.v P kBack l r (oT (nx r)) (ow r) (oT l.getLast?) none none none none none none none) h = .ok true h := by simp [S18]
    simp only [b_law_pressed_3, sIf_ap, t0, bindS_ok, if_true, sSeq_ap, p0, e0, e1]
  cases ho : l.getLast?.bind closerN with
  | none =>
    rw [e2 [45] (by rw [ho]), nodash hr]
    have e : backS B l r = (l.dropLast, r) := by
      unfold backS
      cases hg : l.getLast? with
      | none =>
        have : l = [] := by simpa using hg
        subst this
        rfl
      | some c =>
        rw [hg] at ho
        simp only [Option.bind_some] at ho
        simp [ho, backR]
    rw [e]
    rfl
  | some d =>
    have hdn : (([d] : CP) == oT (nx r)) = (nx r == some d) := by rw [BEq.comm, oT_q]
    rw [e2 [d] (by rw [ho]), hdn]
    have e : backS B l r = (l.dropLast, if nx r == some d && lets B.e (ow r) then r.tail else r) := by
      unfold backS
      cases hg : l.getLast? with
      | none => rw [hg] at ho; cases ho
      | some c =>
        rw [hg] at ho
        simp only [Option.bind_some] at ho
        simp [ho, backR]
    rw [e]
end MP.Q3

namespace MP.Q3
open PySem L2 MP MP.Pg MP.Le
theorem joinRt {r : Rt} (hr : r.length ≤ 99999) (h : MH) : mJoin (.str []) [.lv (r.map fun p => .str [p.1])] h = some (.str (r.map (·.1)), h) := by
  have hz : lensum (r.map fun p => [p.1]) ≤ 16777216 := by rw [lensum_ones]; omega
  simp [mJoin, lstV, mJoinL, strs_ones, hz, join_ones]
theorem signs_lc {r : Rt} {i : Nat} (hr : r.length ≤ 99999) (sw : Sl) (hw : i + 1 < sw.length) (h : MH) : lcL (.row [i, i + 1]) tYesM (eVar i) sw (rtV r) [] h = .ok (.lv (r.map fun p => .str [p.1])) h := by
  have lc := lcL_map (t := .row [i, i + 1]) (te := eVar i) (sw := sw) (h := h) (fun v => match v with
    | .tup [a, _] => a
    | v => v) (rtV r) [] (by rw [Pg.szs]; simp [rtV]; omega) (fun v hv => by
      obtain ⟨q, _, rfl⟩ := List.mem_map.mp hv
      refine ⟨(sw.set i (some (.str [q.1]))).set (i + 1) (some (.bl q.2)), rfl, ?_⟩
      simp [List.getElem?_set_ne, List.getElem?_set_self, (show i < sw.length by omega)]
      rfl)
  have e : (rtV r).map (fun v => match v with
    | .tup [a, _] => a
    | v => v) = r.map fun p => MV.str [p.1] := by simp [rtV, prV, Function.comp_def]
  rw [e, List.nil_append] at lc
  exact lc
theorem cnt_own : ∀ r : Rt, (((List.range r.length).filter fun k => (r.take (k + 1)).all (·.2)).length) = (r.takeWhile (·.2)).length
  | [] => rfl
  | p :: t => by
    have ih := cnt_own t
    rw [List.length_cons, List.range_succ_eq_map, List.filter_cons]
    cases hp : p.2 with
    | true =>
      have e1 : ((p :: t).take (0 + 1)).all (·.2) = true := by simp [hp]
      rw [if_pos e1, List.length_cons, List.filter_map, List.length_map]
      have e2 : ((fun k => ((p :: t).take (k + 1)).all (·.2)) ∘ Nat.succ) = fun k => (t.take (k + 1)).all (·.2) := by
        funext k
        simp [hp]
      rw [e2, ih, List.takeWhile_cons, hp]
      simp
    | false =>
      have e1 : ((p :: t).take (0 + 1)).all (·.2) = false := by simp [hp]
      rw [e1, if_neg (by simp), List.filter_map, List.length_map, List.takeWhile_cons, hp]
      have e2 : ((fun k => ((p :: t).take (k + 1)).all (·.2)) ∘ Nat.succ) = fun _ => false := by
        funext k
        simp [hp]
      rw [e2]
      simp
theorem own_lc (r : Rt) (hr : r.length ≤ 99999) (sw : Sl) (hw : 16 < sw.length) (h : MH) : lcL (.row [15, 16]) (tNotM (tVal (eVar 16))) (eC (.int 1)) sw (rtV r) [] h = .ok (.lv ((r.filter fun p => !p.2).map fun _ => .int 1)) h := by
  have lc := lcL_pure (t := .row [15, 16]) (tt := tNotM (tVal (eVar 16))) (te := eC (.int 1)) (sw := sw) (h := h) (fun v => match v with
    | .tup [_, .bl b] => !b
    | _ => false) (fun _ => .int 1) (rtV r) [] (by rw [Pg.szs]; simp [rtV]; omega) (fun v hv => by
      obtain ⟨q, _, rfl⟩ := List.mem_map.mp hv
      refine ⟨(sw.set 15 (some (.str [q.1]))).set 16 (some (.bl q.2)), rfl, ?_, fun _ => rfl⟩
      simp [List.getElem?_set_self, hw, prV])
  rw [lc, List.nil_append]
  congr 2
  simp only [rtV, List.filter_map, List.map_map]
  have e : ((fun v => match v with
    | .tup [_, .bl b] => !b
    | _ => false) ∘ prV) = fun p : Nat × Bool => !p.2 := rfl
  rw [e]
  rfl
abbrev tOwnM : MT := tCmp mEq (eLv (jSeq (eCutV (eVar 9) (pNo) (pSo (eOp mAddV (eVar 17) (eC (.int 1)))))) [15, 16] (.row [15, 16]) (tNotM (tVal (eVar 16))) (eC (.int 1))) (eLstV (aNil))
theorem tOwn_ok (r : Rt) (hr : r.length ≤ 99999) (s : Sl) (j : Nat) (hj : j < r.length) (hw : s.length = 18) (h9 : s[9]? = some (some (.lv (rtV r)))) (h17 : s[17]? = some (some (.int (j : Int)))) (h : MH) : tOwnM s h = .ok ((r.take (j + 1)).all (·.2)) h := by
  have tk : mCutV (.lv (rtV r)) none (some ((j : Int) + 1)) h = some (.lv (rtV (r.take (j + 1))), h) := by
    have := take_cut r (j + 1) h
    rw [show ((j + 1 : Nat) : Int) = (j : Int) + 1 by omega] at this
    exact this
  have ow := own_lc (r.take (j + 1)) (by simp; omega) (wipeM s [15, 16]) (by simp [wipeM, hw]) h
  have ea : ((r.take (j + 1)).filter fun p => !p.2).isEmpty = (r.take (j + 1)).all (·.2) := by
    rw [Bool.eq_iff_iff]
    simp
  have ad : mAddV (.int (j : Int)) (.int 1) h = some (.int ((j : Int) + 1), h) := rfl
  have e0 : eLv (jSeq (eCutV (eVar 9) (pNo) (pSo (eOp mAddV (eVar 17) (eC (.int 1)))))) [15, 16] (.row [15, 16]) (tNotM (tVal (eVar 16))) (eC (.int 1)) s h = .ok (.lv (((r.take (j + 1)).filter fun p => !p.2).map fun _ => .int 1)) h := by
    simp only [eLv_ap, jSeq_str, eCutV_ap, eVar_ap, h9, bind_ok, pNo_ap, pSo_ap, eOp_ap, h17, eC_ap, ad, ofO_some, tk, lc_items]
    exact ow
  have e1 : eLstV aNil s h = .ok (.lv []) h := by simp [Pg.szs]
  have e2 : (((r.take (j + 1)).filter fun p => !p.2).map fun _ => MV.int 1).isEmpty = (r.take (j + 1)).all (·.2) := by rw [List.isEmpty_map, ea]
  unfold tOwnM
  rw [tCmp_ap, e0, bind_ok, e1, bind_ok, mEq_ap, eqv_lvN, e2]
  rfl
theorem many_ok (r : Rt) (hr : r.length ≤ 99999) (s : Sl) (hw : s.length = 18) (h9 : s[9]? = some (some (.lv (rtV r)))) (h : MH) :
    eLv (jRng1 (aCons (eBlt mLen (aCons (eVar 9) (aNil))) (aNil))) [17] (.one 17) tOwnM (eVar 17) s h
      = .ok (.lv (((List.range r.length).filter fun k => (r.take (k + 1)).all (·.2)).map fun (k : Nat) => .int (k : Int))) h := by
  have hm : (rtV r).length = r.length := by simp [rtV]
  have lc := lcL_pure (t := .one 17) (tt := tOwnM) (te := eVar 17) (sw := wipeM s [17]) (h := h) (fun v => match v with
    | .int i => (r.take (i.toNat + 1)).all (·.2)
    | _ => false) (fun v => v) (MP.upTo 0 r.length) [] (by rw [Pg.szs, Ld.upTo_len]; simp; omega) (fun v hv => by
      obtain ⟨j, hj, rfl⟩ := List.mem_map.mp hv
      rw [show (0 + (j : Int)) = (j : Int) by omega]
      have g9 : ((wipeM s [17]).set 17 (some (.int (j : Int))))[9]? = some (some (.lv (rtV r))) := by
        simp only [wipeM]
        rw [List.getElem?_set_ne (by decide), List.getElem?_set_ne (by decide)]; exact h9
      have g17 : ((wipeM s [17]).set 17 (some (.int (j : Int))))[17]? = some (some (.int (j : Int))) := by
        rw [List.getElem?_set_self (by simp [wipeM, hw])]
      refine ⟨(wipeM s [17]).set 17 (some (.int (j : Int))), rfl, ?_, fun _ => by simp only [eVar_ap, g17]⟩
      exact tOwn_ok r hr _ j (by simpa using hj) (by simp [wipeM, hw]) g9 g17 h)
  have e0 : jRng1 (aCons (eBlt mLen (aCons (eVar 9) (aNil))) (aNil)) s h = .ok (.items (MP.upTo 0 r.length)) h := by
    have hb : -(2 ^ 62) ≤ (r.length : Int) ∧ (r.length : Int) < 2 ^ 62 := by omega
    have e2 : aCons (eBlt mLen (aCons (eVar 9) (aNil))) (aNil) s h = .ok [.int (r.length : Int)] h := by
      simp only [aCons_ap, eBlt_ap, eVar_ap, h9, bind_ok, aNil_ap, len_lv, hm, ofO_some]
    rw [jRng1_ap, e2, bind_ok]
    simp only [if_pos hb, Int.toNat_natCast]
  rw [eLv_ap, e0, bind_ok, lc_items, lc, List.nil_append]
  congr 2
  simp only [MP.upTo, List.filter_map, List.map_map, List.map_id']
  have e : ((fun v => match v with
    | .int i => (r.take (i.toNat + 1)).all (·.2)
    | _ => false) ∘ fun (i : Nat) => MV.int (0 + (i : Int))) = fun (k : Nat) => (r.take (k + 1)).all (·.2) := by
    funext k
    simp
  rw [e]
  congr 1
  funext k
  simp
theorem ret4 {B : Bk} {l : CP} {r : Rt} (hl : l.length + r.length ≤ 99999) (P : MV) (k : CP) (nt : CP) (o : Bool) (la : CP) (m : Nat) (h : MH) : b_law_pressed_4_t_2 (S18 B.v P k l r nt o la none none none none none none (some (.int (m : Int)))) h = .rt (pgV (l ++ (r.take m).map (·.1)) (r.drop m)) h := by
  have t2 := take_cut r m h
  have t3 := drop_cut r m h
  have sl := signs_lc (r := r.take m) (i := 15) (by simp; omega) (wipeM (S18 B.v P k l r nt o la none none none none none none (some (.int (m : Int)))) [15, 16]) (by simp [wipeM, S18]) h
  have jr := joinRt (r := r.take m) (by simp; omega) h
  have hz : l.length + ((r.take m).map (·.1)).length ≤ 16777216 := by simp; omega
  have e0 : eBm .str mJoin (eC (.str [])) (aCons (eLv (jSeq (eCutV (eVar 9) (pNo) (pSo (eVar 14)))) [15, 16] (.row [15, 16]) (tYesM) (eVar 15)) (aNil)) (S18 B.v P k l r nt o la none none none none none none (some (.int (m : Int)))) h = .ok (.str ((r.take m).map (·.1))) h := by
    have e1 : eCutV (eVar 9) (pNo) (pSo (eVar 14)) (S18 B.v P k l r nt o la none none none none none none (some (.int (m : Int)))) h = .ok (.lv (rtV (r.take m))) h := by
      simp only [eCutV_ap, eVar_ap, S18, List.getElem?_cons_succ, List.getElem?_cons_zero, bind_ok, pNo_ap, pSo_ap, t2, ofO_some]
    have e2 : aCons (eLv (jSeq (eCutV (eVar 9) (pNo) (pSo (eVar 14)))) [15, 16] (.row [15, 16]) (tYesM) (eVar 15)) (aNil) (S18 B.v P k l r nt o la none none none none none none (some (.int (m : Int)))) h = .ok [.lv ((r.take m).map fun p => .str [p.1])] h := by
      rw [aCons_ap, eLv_ap, jSeq_str, e1]
      simp only [bind_ok, lc_items]
      rw [sl]
      rfl
    rw [eBm_ap, eC_ap, bind_ok, rcv_str, if_pos rfl, e2, bind_ok, jr]
    rfl
  have e3 : eCutV (eVar 9) (pSo (eVar 14)) (pNo) (S18 B.v P k l r nt o la none none none none none none (some (.int (m : Int)))) h = .ok (.lv (rtV (r.drop m))) h := by
    simp only [eCutV_ap, eVar_ap, S18, List.getElem?_cons_succ, List.getElem?_cons_zero, bind_ok, pNo_ap, pSo_ap, t3, ofO_some]
  have e4 : eVar 8 (S18 B.v P k l r nt o la none none none none none none (some (.int (m : Int)))) h = .ok (.str l) h := rfl
  have ad : mAddV (.str l) (.str ((r.take m).map (·.1))) h = some (.str (l ++ (r.take m).map (·.1)), h) := by
    simp only [mAddV, lstR, mAdd]
    rw [if_pos (by rw [Pg.szs]; exact hz)]
  unfold b_law_pressed_4_t_2
  rw [sRet_ap, eTup_ap, aCons_ap, eOp_ap, e4, bind_ok, e0, bind_ok, ad, ofO_some, bind_ok, aCons_ap, e3]
  simp [Pg.szs, pgV]
theorem take_tw : ∀ r : Rt, r.take (r.takeWhile (·.2)).length = r.takeWhile (·.2) ∧ r.drop (r.takeWhile (·.2)).length = r.dropWhile (·.2)
  | [] => ⟨rfl, rfl⟩
  | p :: t => by
    have ih := take_tw t
    rw [List.takeWhile_cons, List.dropWhile_cons]
    cases p.2 with
    | true => simp only [if_true, List.length_cons, List.take_succ_cons, List.drop_succ_cons, ih.1, ih.2, and_self]
    | false => simp
theorem t0_4 {B : Bk} {l : CP} {r : Rt} (P : MV) (nt : CP) (o : Bool) (la : CP) (x14 : Option MV) (h : MH) :
    tOrM (tCmp mEq (eVar 2) (eC (.str [114, 105, 103, 104, 116]))) (tCmp mEq (eVar 2) (eC (.str [101, 110, 100]))) (S18 B.v P kRight l r nt o la none none none none none none x14) h = .ok true h ∧
    tOrM (tCmp mEq (eVar 2) (eC (.str [114, 105, 103, 104, 116]))) (tCmp mEq (eVar 2) (eC (.str [101, 110, 100]))) (S18 B.v P kEnd l r nt o la none none none none none none x14) h = .ok true h ∧
    tCmp mEq (eVar 2) (eC (.str [101, 110, 100])) (S18 B.v P kRight l r nt o la none none none none none none x14) h = .ok false h ∧
    tCmp mEq (eVar 2) (eC (.str [101, 110, 100])) (S18 B.v P kEnd l r nt o la none none none none none none x14) h = .ok true h := ⟨rfl, rfl, rfl, rfl⟩
theorem p0_4 {B : Bk} {l : CP} {r : Rt} (P : MV) (k : CP) (nt : CP) (o : Bool) (la : CP) (h : MH) : b_law_pressed_4_t_0 (S18 B.v P k l r nt o la none none none none none none none) h = .nx (S18 B.v P k l r nt o la none none none none none none (some (.int ((r.take 1).length : Int)))) h := by
  have t1 : mCutV (.lv (rtV r)) none (some 1) h = some (.lv (rtV (r.take 1)), h) := take_cut r 1 h
  have hm : (rtV (r.take 1)).length = (r.take 1).length := by simp [rtV]
  have e1 : eCutV (eVar 9) (pNo) (pSo (eC (.int 1))) (S18 B.v P k l r nt o la none none none none none none none) h = .ok (.lv (rtV (r.take 1))) h := by
    simp only [eCutV_ap, eVar_ap, S18, List.getElem?_cons_succ, List.getElem?_cons_zero, bind_ok, pNo_ap, pSo_ap, eC_ap, t1, ofO_some]
  have e2 : eBlt mLen (aCons (eCutV (eVar 9) (pNo) (pSo (eC (.int 1)))) (aNil)) (S18 B.v P k l r nt o la none none none none none none none) h = .ok (.int ((r.take 1).length : Int)) h := by
    rw [eBlt_ap, aCons_ap, e1, bind_ok, aNil_ap, bind_ok, bind_ok, len_lv, hm, ofO_some]
  unfold b_law_pressed_4_t_0
  rw [sAsg_ap, e2, bindS_ok, gNm_ap, go_ok]
  rfl
theorem right4 {B : Bk} {l : CP} {r : Rt} (hl : l.length + r.length ≤ 99999) (P : MV) (nt : CP) (o : Bool) (la : CP) (h : MH) : b_law_pressed_4 (S18 B.v P kRight l r nt o la none none none none none none none) h = .rt (pgV (overS l r).1 (overS l r).2) h := by
  obtain ⟨t0, _, _, _⟩ := t0_4 (B := B) (l := l) (r := r) P nt o la none h
  obtain ⟨_, _, t1, _⟩ := t0_4 (B := B) (l := l) (r := r) P nt o la (some (.int ((r.take 1).length : Int))) h
  have q1 : b_law_pressed_4_t_1 (S18 B.v P kRight l r nt o la none none none none none none (some (.int ((r.take 1).length : Int)))) h = .nx (S18 B.v P kRight l r nt o la none none none none none none (some (.int ((r.take 1).length : Int)))) h := by
    unfold b_law_pressed_4_t_1
    rw [sIf_ap, t1, bindS_ok]
    rfl
  have e3 : overS l r = (l ++ (r.take (r.take 1).length).map (·.1), r.drop (r.take 1).length) := by cases r <;> simp [overS]
  unfold b_law_pressed_4
  rw [sIf_ap, t0, bindS_ok, if_pos rfl, sSeq_ap, p0_4]
  simp only
  rw [sSeq_ap, q1]
  simp only
  rw [ret4 hl, e3]
theorem end4 {B : Bk} {l : CP} {r : Rt} (hl : l.length + r.length ≤ 99999) (P : MV) (nt : CP) (o : Bool) (la : CP) (h : MH) : b_law_pressed_4 (S18 B.v P kEnd l r nt o la none none none none none none none) h = .rt (pgV (endS l r).1 (endS l r).2) h := by
  obtain ⟨_, t0, _, _⟩ := t0_4 (B := B) (l := l) (r := r) P nt o la none h
  obtain ⟨_, _, _, t1⟩ := t0_4 (B := B) (l := l) (r := r) P nt o la (some (.int ((r.take 1).length : Int))) h
  have mo := many_ok r (by omega) (S18 B.v P kEnd l r nt o la none none none none none none (some (.int ((r.take 1).length : Int)))) rfl rfl h
  have q1 : b_law_pressed_4_t_1 (S18 B.v P kEnd l r nt o la none none none none none none (some (.int ((r.take 1).length : Int)))) h = .nx (S18 B.v P kEnd l r nt o la none none none none none none (some (.int ((r.takeWhile (·.2)).length : Int)))) h := by
    unfold b_law_pressed_4_t_1
    rw [sIf_ap, t1, bindS_ok, if_pos rfl, sAsg_ap, eBlt_ap, aCons_ap, mo, bind_ok, aNil_ap, bind_ok, bind_ok, len_lv, List.length_map, cnt_own, ofO_some, bindS_ok, gNm_ap, go_ok]
    rfl
  have e3 : endS l r = (l ++ (r.take (r.takeWhile (·.2)).length).map (·.1), r.drop (r.takeWhile (·.2)).length) := by
    simp only [endS, (take_tw r).1, (take_tw r).2]
  unfold b_law_pressed_4
  rw [sIf_ap, t0, bindS_ok, if_pos rfl, sSeq_ap, p0_4]
  simp only
  rw [sSeq_ap, q1]
  simp only
  rw [ret4 hl, e3]
end MP.Q3

namespace MP.Q3
open PySem L2 MP MP.Pg MP.Le
theorem closing_in (c : Nat) : inS [c] [41, 93, 39] = closing c := by
  rw [inS_one, Bool.eq_iff_iff]
  simp [closing, or_assoc]
theorem opener_in (c : Nat) : inS [c] [40, 91] = opener c := by
  rw [inS_one, Bool.eq_iff_iff]
  simp [opener]
section
variable {B : Bk} {l : CP} {r : Rt} {P : MV} {c : Nat} {o : Bool} {la : CP} {h : MH}
theorem p5 (hl : l.length ≤ 99999) : b_law_pressed_5 (S18 B.v P [c] l r (oT (nx r)) (ow r) la none none none none none none none) h =
    if closing c && nx r == some c && lets B.d (ow r) then .rt (pgV (l ++ [c]) r.tail) h else .nx (S18 B.v P [c] l r (oT (nx r)) (ow r) la none none none none none none none) h := by
  have lt := lets_t B.d (ow r) (S18 B.v P [c] l r (oT (nx r)) (ow r) la none none none none none none none) h (eOp mIx (eVar 0) (eC (.int 3))) 11 (by simp [S18]) rfl
  have hn : (([c] : CP) == oT (nx r)) = (nx r == some c) := by rw [BEq.comm, oT_q]
  have hz : l.length + 1 ≤ 16777216 := by omega
  have ad : mAddV (.str l) (.str [c]) h = some (.str (l ++ [c]), h) := by
    simp only [mAddV, lstR, mAdd]
    rw [if_pos (by rw [Pg.szs]; simpa using hz)]
  have tst : tAndM (tCmp mIn (eVar 2) (eC (.str [41, 93, 39]))) (tAndM (tCmp mEq (eVar 2) (eVar 10)) (tOrM (tCmp mEq (eOp mIx (eVar 0) (eC (.int 3))) (eC (.str [97, 110, 121]))) (tAndM (tCmp mEq (eOp mIx (eVar 0) (eC (.int 3))) (eC (.str [111, 119, 110]))) (tVal (eVar 11))))) (S18 B.v P [c] l r (oT (nx r)) (ow r) la none none none none none none none) h = .ok (closing c && nx r == some c && lets B.d (ow r)) h := by
    have a1 : tCmp mIn (eVar 2) (eC (.str [41, 93, 39])) (S18 B.v P [c] l r (oT (nx r)) (ow r) la none none none none none none none) h = .ok (closing c) h := by simp [S18, closing_in]
    have a2 : tCmp mEq (eVar 2) (eVar 10) (S18 B.v P [c] l r (oT (nx r)) (ow r) la none none none none none none none) h = .ok (nx r == some c) h := by simp [S18, hn]
    rw [tAndM_ap, a1, bind_ok]
    cases closing c with
    | false => rfl
    | true =>
      rw [if_pos rfl, tAndM_ap, a2, bind_ok]
      cases (nx r == some c) with
      | false => rfl
      | true => rw [if_pos rfl, lt]; rfl
  unfold b_law_pressed_5
  rw [sIf_ap, tst, bindS_ok]
  cases (closing c && nx r == some c && lets B.d (ow r)) with
  | false => rfl
  | true =>
    rw [if_pos rfl, if_pos rfl]
    simp [S18, ad, cut_tail, Pg.szs, pgV]
theorem p6 (hl : l.length ≤ 99999) (nt : CP) : b_law_pressed_6 (S18 B.v P [c] l r nt o la none none none none none none none) h = .nx (S18 B.v P [c] l r nt o la (some (.str (after l))) none none none none none none) h := by
  obtain ⟨a, b⟩ := line_ok hl h
  simp [b_law_pressed_6, S18, a, b]
theorem p7 (hl : l.length ≤ 99999) (nt : CP) : b_law_pressed_7 (S18 B.v P [c] l r nt o la (some (.str (after l))) none none none none none none) h = .nx (S18 B.v P [c] l r nt o la (some (.str (after l))) (some (.bl (within l))) none none none none none) h := by
  have hal := after_len l
  have lc := lcL_pure (t := .one 15) (tt := tCmp mEq (eVar 15) (eC (.str [39]))) (te := eC (.int 1)) (sw := wipeM (S18 B.v P [c] l r nt o la (some (.str (after l))) none none none none none none) [15]) (h := h) isQ (fun _ => .int 1) ((after l).map fun c => .str [c]) [] (by rw [Pg.szs]; simp; omega) (fun v hv => by
      obtain ⟨d, _, rfl⟩ := List.mem_map.mp hv
      exact ⟨_, rfl, by simp [S18, wipeM, isQ], fun _ => rfl⟩)
  have e0 : eLv (jSeq (eVar 4)) [15] (.one 15) (tCmp mEq (eVar 15) (eC (.str [39]))) (eC (.int 1)) (S18 B.v P [c] l r nt o la (some (.str (after l))) none none none none none none) h = .ok (.lv ((((after l).map fun c => MV.str [c]).filter isQ).map fun _ => .int 1)) h := by
    have j0 : jSeq (eVar 4) (S18 B.v P [c] l r nt o la (some (.str (after l))) none none none none none none) h = .ok (.items ((after l).map fun c => .str [c])) h := rfl
    rw [eLv_ap, j0, bind_ok, lc_items, lc]
    rfl
  have e1 : eBlt mLen (aCons (eLv (jSeq (eVar 4)) [15] (.one 15) (tCmp mEq (eVar 15) (eC (.str [39]))) (eC (.int 1))) (aNil)) (S18 B.v P [c] l r nt o la (some (.str (after l))) none none none none none none) h = .ok (.int (cntL 39 (after l))) h := by
    rw [eBlt_ap, aCons_ap, e0, bind_ok, aNil_ap, bind_ok, bind_ok, len_lv, List.length_map, filt_len, ofO_some]
  have e2 : (cntL 39 (after l) % 2 == 1) = within l := by
    rw [within_par, par, Bool.eq_iff_iff]
    simp
  unfold b_law_pressed_7
  rw [sAsg_ap, eOp_ap, eOp_ap, e1]
  simp [mMod, e2, S18]
theorem p8 (x4 x5 : Option MV) : b_law_pressed_8 (S18 B.v P [c] l r (oT (nx r)) o la x4 x5 none none none none none) h = .nx (S18 B.v P [c] l r (oT (nx r)) o la x4 x5 (some (.bl ((nx r).elim true free))) none none none none) h := by
  cases hn : nx r with
  | none => simp [b_law_pressed_8, S18, oT]
  | some d =>
    simp [b_law_pressed_8, S18, oT, inS_one]
    rw [Bool.eq_iff_iff]
    simp [free, or_assoc]
theorem p9 (x4 x5 : Option MV) (rm : Bool) (nt : CP) : b_law_pressed_9 (S18 B.v P [c] l r nt o la x4 x5 (some (.bl rm)) none none none none) h = .nx (S18 B.v P [c] l r nt o la x4 x5 (some (.bl rm)) (some (.bl (opener c && (B.a == wAlways || B.a == wFree && rm)))) none none none) h := by
  cases h1 : opener c with
  | false => simp [b_law_pressed_9, S18, opener_in, h1]
  | true =>
    by_cases h2 : (B.a == wAlways) = true
    · simp [b_law_pressed_9, S18, opener_in, h1, h2]
    · by_cases h3 : (B.a == wFree) = true <;> simp [b_law_pressed_9, S18, opener_in, h1, h2, h3]
theorem letter_chain (o : Option Nat) : (!decide (oT o < [97]) && !decide ([122] < oT o)) = o.elim false letter := by
  cases o with
  | none => rfl
  | some d =>
    simp only [oT, Option.elim_some, letter]
    rw [Bool.eq_iff_iff]
    simp [List.cons_lt_cons_iff]
theorem p10 (x4 x5 : Option MV) (rm w : Bool) (nt : CP) (ol : Option Nat) : b_law_pressed_10 (S18 B.v P [c] l r nt o (oT ol) x4 x5 (some (.bl rm)) (some (.bl w)) none none none) h =
    .nx (S18 B.v P [c] l r nt o (oT ol) x4 x5 (some (.bl rm)) (some (.bl (if c == 39 then (B.b == wAlways || B.b == wApart && (rm && !(ol == some 39 || ol.elim false letter))) else w))) none none none) h := by
  have e39 : (([c] : CP) == [39]) = (c == 39) := by simp
  have lch := letter_chain ol
  cases h1 : (c == 39) with
  | false => simp [b_law_pressed_10, S18, e39, h1]
  | true =>
    by_cases h2 : (B.b == wAlways) = true
    · simp [b_law_pressed_10, S18, e39, h1, h2]
    · by_cases h3 : (B.b == wApart) = true
      · cases rm with
        | false => simp [b_law_pressed_10, S18, e39, h1, h2, h3]
        | true =>
          cases h4 : (ol == some 39) with
          | true => simp [b_law_pressed_10, S18, e39, h1, h2, h3, oT_q, h4]
          | false =>
            rw [← lch]
            cases h5 : decide (oT ol < [97]) <;> simp [b_law_pressed_10, S18, e39, h1, h2, h3, oT_q, h4, mLe, h5]
      · simp [b_law_pressed_10, S18, e39, h1, h2, h3]
theorem dg_ok {q : Nat} (hc : closerN c = some q) (s : Sl) (hs : s[2]? = some (some (.str [c]))) : eDg [(eC (.str [40]), eC (.str [41])), (eC (.str [91]), eC (.str [93])), (eC (.str [39]), eC (.str [39]))] (eVar 2) s h = .ok (.str [q]) h := by
  unfold closerN at hc
  split at hc
  · rename_i e
    subst e
    cases hc
    simp [eDg, pairsM, ifs15, keyOf, hs, merge, dPut, dHas, dGet]
  · split at hc
    · rename_i e
      subst e
      cases hc
      simp [eDg, pairsM, ifs15, keyOf, hs, merge, dPut, dHas, dGet]
    · split at hc
      · rename_i e
        subst e
        cases hc
        simp [eDg, pairsM, ifs15, keyOf, hs, merge, dPut, dHas, dGet]
      · cases hc
theorem p11 (hr : r.length ≤ 99999) (x4 x6 : Option MV) (w wi : Bool) (nt : CP) (hw : w = true → (closerN c).isSome = true) : b_law_pressed_11 (S18 B.v P [c] l r nt o la x4 (some (.bl wi)) x6 (some (.bl w)) none none none) h =
    .nx (S18 B.v P [c] l (if w && (B.c == wSame || !wi) then ((closerN c).getD 0, true) :: r else r) nt o la x4 (some (.bl wi)) x6 (some (.bl w)) none none none) h := by
  have tst : tAndM (tVal (eVar 7)) (tOrM (tCmp mEq (eOp mIx (eVar 0) (eC (.int 2))) (eC (.str [115, 97, 109, 101]))) (tNotM (tVal (eVar 5)))) (S18 B.v P [c] l r nt o la x4 (some (.bl wi)) x6 (some (.bl w)) none none none) h = .ok (w && (B.c == wSame || !wi)) h := by
    cases w with
    | false => simp [S18]
    | true => by_cases h1 : (B.c == wSame) = true <;> simp [S18, h1]
  unfold b_law_pressed_11
  rw [sIf_ap, tst, bindS_ok]
  cases hb : (w && (B.c == wSame || !wi)) with
  | false => rfl
  | true =>
    have hw' : w = true := by simp only [Bool.and_eq_true] at hb; exact hb.1
    obtain ⟨q, hq⟩ := Option.isSome_iff_exists.mp (hw hw')
    have dg := dg_ok (h := h) hq (S18 B.v P [c] l r nt o la x4 (some (.bl wi)) x6 (some (.bl w)) none none none) rfl
    have ad : mAddV (.lv [prV (q, true)]) (.lv (rtV r)) h = some (.lv (rtV ((q, true) :: r)), h) := by
      have : ([prV (q, true)].length + (rtV r).length) ≤ sizeLine := by rw [Pg.szs]; simp [rtV]; omega
      simp only [mAddV, lstR]
      rw [if_pos this]
      rfl
    rw [if_pos rfl, if_pos rfl, hq]
    have e1 : eLstV (aCons (eTup (aCons (eDg [(eC (.str [40]), eC (.str [41])), (eC (.str [91]), eC (.str [93])), (eC (.str [39]), eC (.str [39]))] (eVar 2)) (aCons (eC (.bl true)) (aNil)))) (aNil)) (S18 B.v P [c] l r nt o la x4 (some (.bl wi)) x6 (some (.bl w)) none none none) h = .ok (.lv [prV (q, true)]) h := by
      simp [dg, Pg.szs, prV]
    have e2 : eVar 9 (S18 B.v P [c] l r nt o la x4 (some (.bl wi)) x6 (some (.bl w)) none none none) h = .ok (.lv (rtV r)) h := rfl
    rw [sAsg_ap, eOp_ap, e1, bind_ok, e2, bind_ok, ad, ofO_some, bindS_ok, gNm_ap, go_ok]
    rfl
theorem p12 (hr : r.length ≤ 99999) (x4 x5 x6 x7 : Option MV) (nt : CP) : b_law_pressed_12 (S18 B.v P [c] l r nt o la x4 x5 x6 x7 none none none) h =
    .nx (S18 B.v P [c] l (if c == 47 && B.f == wLine then r.map (fun p => (p.1, false)) else r) nt o la x4 x5 x6 x7 none none none) h := by
  have e47 : (([c] : CP) == [47]) = (c == 47) := by simp
  have tst : tAndM (tCmp mEq (eVar 2) (eC (.str [47]))) (tCmp mEq (eOp mIx (eVar 0) (eC (.int 5))) (eC (.str [108, 105, 110, 101]))) (S18 B.v P [c] l r nt o la x4 x5 x6 x7 none none none) h = .ok (c == 47 && B.f == wLine) h := by
    cases h1 : (c == 47) <;> simp [S18, e47, h1]
  unfold b_law_pressed_12
  rw [sIf_ap, tst, bindS_ok]
  cases (c == 47 && B.f == wLine) with
  | false => rfl
  | true =>
    have lc := lcL_map (t := .row [15, 16]) (te := eTup (aCons (eVar 15) (aCons (eC (.bl false)) (aNil)))) (sw := wipeM (S18 B.v P [c] l r nt o la x4 x5 x6 x7 none none none) [15, 16]) (h := h) (fun v => match v with
      | .tup [a, _] => .tup [a, .bl false]
      | v => v) (rtV r) [] (by rw [Pg.szs]; simp [rtV]; omega) (fun v hv => by
        obtain ⟨q, _, rfl⟩ := List.mem_map.mp hv
        exact ⟨_, rfl, by simp [S18, wipeM, Pg.szs, prV]⟩)
    have e : (rtV r).map (fun v => match v with
      | .tup [a, _] => .tup [a, .bl false]
      | v => v) = rtV (r.map fun p => (p.1, false)) := by simp [rtV, prV, Function.comp_def]
    rw [e, List.nil_append] at lc
    have j0 : jSeq (eVar 9) (S18 B.v P [c] l r nt o la x4 x5 x6 x7 none none none) h = .ok (.items (rtV r)) h := rfl
    rw [if_pos rfl, if_pos rfl, sAsg_ap, eLv_ap, j0, bind_ok, lc_items, lc, bindS_ok, gNm_ap, go_ok]
    rfl
theorem p13 (hl : l.length ≤ 99999) (x4 x5 x6 x7 : Option MV) (nt : CP) : b_law_pressed_13 (S18 B.v P [c] l r nt o la x4 x5 x6 x7 none none none) h = .rt (pgV (l ++ [c]) r) h := by
  have hz : l.length + 1 ≤ 16777216 := by omega
  have ad : mAddV (.str l) (.str [c]) h = some (.str (l ++ [c]), h) := by
    simp only [mAddV, lstR, mAdd]
    rw [if_pos (by rw [Pg.szs]; simpa using hz)]
  simp [b_law_pressed_13, S18, ad, Pg.szs, pgV]
theorem skip3 (nt : CP) : b_law_pressed_3 (S18 B.v P [c] l r nt o la none none none none none none none) h = .nx (S18 B.v P [c] l r nt o la none none none none none none none) h := by
  simp [b_law_pressed_3, S18]
theorem skip4 (nt : CP) : b_law_pressed_4 (S18 B.v P [c] l r nt o la none none none none none none none) h = .nx (S18 B.v P [c] l r nt o la none none none none none none none) h := by
  simp [b_law_pressed_4, S18]
theorem skip3r (k : CP) (hk : k = kRight ∨ k = kEnd) (nt : CP) : b_law_pressed_3 (S18 B.v P k l r nt o la none none none none none none none) h = .nx (S18 B.v P k l r nt o la none none none none none none none) h := by
  rcases hk with rfl | rfl <;> rfl
end
theorem putR (B : Bk) (l : CP) (r : Rt) (c : Nat) : (if (if c == 39 then (B.b == wAlways || B.b == wApart && ((nx r).elim true free && !(l.getLast? == some 39 || l.getLast?.elim false letter))) else (opener c && (B.a == wAlways || B.a == wFree && (nx r).elim true free))) && (B.c == wSame || !within l) then ((closerN c).getD 0, true) :: r else r) =
    (match closerN c with
      | some k => if doesPut B l r c then (k, true) :: r else r
      | none => r) := by
  by_cases h1 : c = 39
  · subst h1
    have e1 : closerN 39 = some 39 := rfl
    have e2 : opener 39 = false := rfl
    rw [e1]
    simp only [beq_self_eq_true, if_true, Option.getD_some, doesPut, e2, Bool.false_eq_true, if_false]
    congr 1
    rw [eq_iff_iff]
    cases hs : (B.c == wSame) <;> cases hw : within l <;> cases ha : (B.b == wApart) <;> cases hb : (B.b == wAlways) <;> simp_all [bne]
    all_goals first | (simp at ha hb; rw [ha] at hb; simp at hb; done) | skip
    all_goals (cases (nx r).elim true free <;> cases l.getLast?.elim false letter <;> simp)
  · have e0 : (c == 39) = false := by simpa using h1
    simp only [e0, Bool.false_eq_true, if_false]
    cases ho : opener c with
    | false =>
      have : closerN c = none := by
        unfold closerN
        unfold opener at ho
        simp only [Bool.or_eq_false_iff, beq_eq_false_iff_ne] at ho
        rw [if_neg h1, if_neg ho.1, if_neg ho.2]
      rw [this]
      simp
    | true =>
      have : ∃ q, closerN c = some q := by
        unfold opener at ho
        unfold closerN
        simp only [Bool.or_eq_true, beq_iff_eq] at ho
        rcases ho with z | z <;> subst z <;> exact ⟨_, rfl⟩
      obtain ⟨q, hq⟩ := this
      rw [hq]
      simp only [Option.getD_some, doesPut, ho, if_true, Bool.true_and]
      congr 1
      rw [eq_iff_iff]
      cases hs : (B.c == wSame) <;> cases hw : within l <;> simp_all [bne]
theorem want_some (B : Bk) (l : CP) (r : Rt) (c : Nat) : (if c == 39 then (B.b == wAlways || B.b == wApart && ((nx r).elim true free && !(l.getLast? == some 39 || l.getLast?.elim false letter))) else (opener c && (B.a == wAlways || B.a == wFree && (nx r).elim true free))) = true → (closerN c).isSome = true := by
  intro h
  by_cases h1 : c = 39
  · subst h1; rfl
  · have e0 : (c == 39) = false := by simpa using h1
    rw [e0] at h
    simp only [Bool.false_eq_true, if_false, Bool.and_eq_true] at h
    have ho := h.1
    unfold opener at ho
    simp only [Bool.or_eq_true, beq_iff_eq] at ho
    rcases ho with z | z <;> subst z <;> rfl
theorem run_ok {B : Bk} {l : CP} {r : Rt} (hl : l.length + r.length ≤ 99998) (hr : RtOk r) (y : Ky) (h : MH) : runFn 18 b_law_pressed [B.v, pgV l r, .str y.t] h = .ok (pgV (pressS B l r y).1 (pressS B l r y).2) h := by
  have e0 : b_law_pressed ([B.v, pgV l r, .str y.t].map some ++ List.replicate (18 - [B.v, pgV l r, .str y.t].length) none) h = .rt (pgV (pressS B l r y).1 (pressS B l r y).2) h := by
    show b_law_pressed [some B.v, some (pgV l r), some (.str y.t), none, none, none, none, none, none, none, none, none, none, none, none, none, none, none] h = _
    unfold b_law_pressed
    rw [pre3 (by omega)]
    cases y with
    | back =>
      simp only [Ky.t, pressS]
      rw [sSeq_ap, back3 (by omega) hr]
    | right =>
      simp only [Ky.t, pressS]
      rw [sSeq_ap, skip3r kRight (.inl rfl)]
      simp only
      rw [sSeq_ap, right4 (by omega)]
    | end_ =>
      simp only [Ky.t, pressS]
      rw [sSeq_ap, skip3r kEnd (.inr rfl)]
      simp only
      rw [sSeq_ap, end4 (by omega)]
    | sg c =>
      simp only [Ky.t, pressS]
      rw [sSeq_ap, skip3]
      simp only
      rw [sSeq_ap, skip4]
      simp only
      rw [sSeq_ap, p5 (by omega)]
      unfold typeS
      by_cases hM : (closing c && nx r == some c && lets B.d (ow r)) = true
      · rw [if_pos hM, if_pos hM]
      · rw [if_neg hM, if_neg hM]
        simp only
        rw [sSeq_ap, p6 (by omega)]
        simp only
        rw [sSeq_ap, p7 (by omega)]
        simp only
        rw [sSeq_ap, p8]
        simp only
        rw [sSeq_ap, p9]
        simp only
        rw [sSeq_ap, p10]
        simp only
        rw [sSeq_ap, p11 (by omega) _ _ _ _ _ (want_some B l r c)]
        simp only
        rw [putR]
        have hz : ∀ q : Rt, q.length ≤ r.length + 1 → q.length ≤ 99999 := fun q hq => by omega
        rw [sSeq_ap, p12 (hz _ (by cases closerN c with
          | none => simp
          | some k => simp only; split <;> simp))]
        simp only
        rw [p13 (by omega)]
        all_goals rfl
  rw [runFn_ap, e0]
end MP.Q3

/-! drawn books, texts (k03, k09, k11) -/
namespace MP.Q3
open PySem L2 MP MP.Pg MP.Le MP.Ld
open MP.Cm (m_law_draw)
def b_law_book_0 : MS := sAsg (eLstV (aCons (eLstV (aCons (eC (.str [97, 108, 119, 97, 121, 115])) (aCons (eC (.str [102, 114, 101, 101])) (aCons (eC (.str [110, 101, 118, 101, 114])) (aNil))))) (aCons (eLstV (aCons (eC (.str [97, 108, 119, 97, 121, 115])) (aCons (eC (.str [97, 112, 97, 114, 116])) (aCons (eC (.str [110, 101, 118, 101, 114])) (aNil))))) (aCons (eLstV (aCons (eC (.str [115, 97, 109, 101])) (aCons (eC (.str [110, 111, 110, 101])) (aNil)))) (aCons (eLstV (aCons (eC (.str [111, 119, 110])) (aCons (eC (.str [97, 110, 121])) (aCons (eC (.str [110, 101, 118, 101, 114])) (aNil))))) (aNil)))))) (gNm 1)
def b_law_book_1 : MS := sAsg (eOp mAddV (eVar 1) (eLstV (aCons (eLstV (aCons (eC (.str [111, 119, 110])) (aCons (eC (.str [97, 110, 121])) (aCons (eC (.str [111, 110, 101])) (aNil))))) (aCons (eLstV (aCons (eC (.str [110, 101, 118, 101, 114])) (aCons (eC (.str [108, 105, 110, 101])) (aNil)))) (aNil))))) (gNm 1)
def b_law_book_2 : MS := sRet (eBlt mTuple (aCons (eLv (jSeq (eVar 1)) [2] (.one 2) (tYesM) (eOp mIx (eVar 2) (eCall 2 m_law_draw (aCons (eVar 0) (aCons (eBlt mLen (aCons (eVar 2) (aNil))) (aNil)))))) (aNil)))
def b_law_book : MS := sSeq (b_law_book_0) (sSeq (b_law_book_1) (b_law_book_2))
def m_law_book : MF := trimV (runFn 3 b_law_book)
def b_law_text : MS := sRet (eBm .str mJoin (eC (.str [])) (aCons (eLv (jRng1 (aCons (eCall 2 m_law_draw (aCons (eVar 0) (aCons (eOp mAddV (eVar 1) (eC (.int 1))) (aNil)))) (aNil))) [2] (.one 2) (tYesM) (eOp mIx (eC (.str [40, 91, 41, 93, 39, 32, 47, 97, 98, 122, 39, 39, 40, 41, 91])) (eCall 2 m_law_draw (aCons (eVar 0) (aCons (eC (.int 15)) (aNil)))))) (aNil)))
def m_law_text : MF := trimV (runFn 3 b_law_text)
def rows6 : MV := .lv [.lv ([wAlways, wFree, wNever].map .str), .lv ([wAlways, wApart, wNever].map .str), .lv ([wSame, wNone].map .str), .lv ([wOwn, wAny, wNever].map .str), .lv ([wOwn, wAny, wOne].map .str), .lv ([wNever, wLine].map .str)]
/-- an item of a row, drawn -/
theorem pick {b : Nat} {u h : MH} {row : List CP} {s : Sl} {i j : Nat} (st : S4 (1 + b) u h) (hr : 0 < row.length ∧ row.length < 1000) (h0 : s[0]? = some (some (.ref 2))) (hi : s[i]? = some (some (.lv (row.map .str)))) :
    ∃ w h', w ∈ row ∧ S4 b u h' ∧ eOp mIx (eVar i) (eCall 2 m_law_draw (aCons (eVar 0) (aCons (eBlt mLen (aCons (eVar i) (aNil))) (aNil)))) s h = .ok (.str w) h' := by
  obtain ⟨j, h', hj, st', e⟩ := (show S4 (b + 1) u h by rw [Nat.add_comm]; exact st).drawN (k := row.length) (by omega)
  refine ⟨row[j], h', List.getElem_mem hj, st', ?_⟩
  have ix : mIx (.lv (row.map .str)) (.int (j : Int)) h' = some (.str row[j], h') := by
    have := atI_nat (xs := row.map MV.str) (j := j) (v := .str row[j]) (by simp [hj])
    simp [mIx, this]
  simp [h0, hi, len_lv, e, ix]
theorem book_ok {b : Nat} {u h : MH} (st : S4 (6 + b) u h) : ∃ B h', Bk.Ok B ∧ S4 b u h' ∧ m_law_book [.ref 2] h = .ok B.v h' := by
  have hrows : b_law_book_0 [some (.ref 2), none, none] h = .nx [some (.ref 2), some (.lv [.lv ([wAlways, wFree, wNever].map .str), .lv ([wAlways, wApart, wNever].map .str), .lv ([wSame, wNone].map .str), .lv ([wOwn, wAny, wNever].map .str)]), none] h := by
    simp [b_law_book_0, Pg.szs]
  have hrows2 : b_law_book_1 [some (.ref 2), some (.lv [.lv ([wAlways, wFree, wNever].map .str), .lv ([wAlways, wApart, wNever].map .str), .lv ([wSame, wNone].map .str), .lv ([wOwn, wAny, wNever].map .str)]), none] h = .nx [some (.ref 2), some rows6, none] h := by
    simp [b_law_book_1, Pg.szs, mAddV, lstR, rows6]
  have key : ∀ (rows : List (List CP)) (acc : List MV) (b : Nat) (h : MH), S4 (1 * rows.length + b) u h → acc.length + rows.length ≤ 99999 → (∀ r ∈ rows, 0 < r.length ∧ r.length < 1000) → ∃ ws h', Paired (fun (r : List CP) w => w ∈ r) rows ws ∧ S4 b u h' ∧
      lcL (.one 2) tYesM (eOp mIx (eVar 2) (eCall 2 m_law_draw (aCons (eVar 0) (aCons (eBlt mLen (aCons (eVar 2) (aNil))) (aNil))))) [some (.ref 2), some rows6, none] (rows.map fun r => .lv (r.map .str)) acc h = .ok (.lv (acc ++ ws.map .str)) h' := by
    intro rows
    induction rows with
    | nil => intro acc b h st _ _; exact ⟨[], h, .nil, by simpa using st, by simp [lcL]⟩
    | cons r rows ih =>
      intro acc b h st hl hr
      simp only [List.length_cons] at hl st
      obtain ⟨w, h1, hw, st1, e1⟩ := pick (b := 1 * rows.length + b) (row := r) (s := [some (.ref 2), some rows6, some (.lv (r.map .str))]) (i := 2) (j := 0) (st.mono (by omega)) (hr r List.mem_cons_self) rfl rfl
      obtain ⟨ws, h2, pw, st2, e2⟩ := ih (acc ++ [.str w]) b h1 st1 (by simp; omega) fun r hr' => hr r (List.mem_cons_of_mem _ hr')
      have hlt : acc.length < sizeLine := by rw [Pg.szs]; omega
      refine ⟨w :: ws, h2, .cons hw pw, st2, ?_⟩
      rw [List.map_cons, show ∀ (x : MV) (xs : List MV), lcL (.one 2) tYesM (eOp mIx (eVar 2) (eCall 2 m_law_draw (aCons (eVar 0) (aCons (eBlt mLen (aCons (eVar 2) (aNil))) (aNil))))) [some (.ref 2), some rows6, none] (x :: xs) acc h = (match Tg.run (.one 2) x [some (.ref 2), some rows6, none] with
        | some s2 => match tYesM s2 h with
          | .ok true h3 => (match eOp mIx (eVar 2) (eCall 2 m_law_draw (aCons (eVar 0) (aCons (eBlt mLen (aCons (eVar 2) (aNil))) (aNil)))) s2 h3 with
            | .ok y h4 => if acc.length < sizeLine then lcL (.one 2) tYesM (eOp mIx (eVar 2) (eCall 2 m_law_draw (aCons (eVar 0) (aCons (eBlt mLen (aCons (eVar 2) (aNil))) (aNil))))) [some (.ref 2), some rows6, none] xs (acc ++ [y]) h4 else .stuck
            | _ => .stuck)
          | .ok false h3 => lcL (.one 2) tYesM (eOp mIx (eVar 2) (eCall 2 m_law_draw (aCons (eVar 0) (aCons (eBlt mLen (aCons (eVar 2) (aNil))) (aNil))))) [some (.ref 2), some rows6, none] xs acc h3
          | _ => .stuck
        | none => .stuck) from fun _ _ => rfl]
      simp only [Tg.run, List.set, tYesM_ap, e1, if_pos hlt]
      rw [e2]
      simp
  obtain ⟨ws, h1, pw, st1, e1⟩ := key [[wAlways, wFree, wNever], [wAlways, wApart, wNever], [wSame, wNone], [wOwn, wAny, wNever], [wOwn, wAny, wOne], [wNever, wLine]] [] b h (by simpa using st) (by simp) (by simp)
  cases pw with | cons q1 pw => cases pw with | cons q2 pw => cases pw with | cons q3 pw => cases pw with | cons q4 pw => cases pw with | cons q5 pw => cases pw with | cons q6 pw =>
  cases pw
  rename_i w1 w2 w3 w4 w5 w6
  let B : Bk := ⟨w1, w2, w3, w4, w5, w6⟩
  have run : runFn 3 b_law_book [.ref 2] h = .ok B.v h1 := by
    have j0 : jSeq (eVar 1) [some (.ref 2), some rows6, none] h = .ok (.items [.lv ([wAlways, wFree, wNever].map .str), .lv ([wAlways, wApart, wNever].map .str), .lv ([wSame, wNone].map .str), .lv ([wOwn, wAny, wNever].map .str), .lv ([wOwn, wAny, wOne].map .str), .lv ([wNever, wLine].map .str)]) h := rfl
    have e2 : b_law_book_2 [some (.ref 2), some rows6, none] h = .rt B.v h1 := by
      unfold b_law_book_2
      rw [sRet_ap, eBlt_ap, aCons_ap, eLv_ap, j0, bind_ok, lc_items]
      have e1' := e1
      simp only [List.map_cons, List.map_nil, List.nil_append] at e1' ⊢
      simp only [wipeM, List.set]
      rw [e1']
      rfl
    rw [runFn_ap]
    show (match b_law_book [some (.ref 2), none, none] h with
      | .rt v h' => R.ok v h'
      | .nx _ h' => .ok .non h'
      | .err e _ h' => .err e h'
      | _ => .stuck) = _
    rw [show b_law_book [some (.ref 2), none, none] h = .rt B.v h1 by
      unfold b_law_book
      rw [sSeq_ap, hrows]
      simp only
      rw [sSeq_ap, hrows2]
      simp only
      exact e2]
  obtain ⟨h2, st2, e3⟩ := trim_end (m := runFn 3 b_law_book) (u := []) st (by simpa using st1) run (by rfl)
  exact ⟨B, h2, ⟨q1, q2, q3, q4, q5, q6⟩, st2, e3⟩
def Alph : CP := [40, 91, 41, 93, 39, 32, 47, 97, 98, 122, 39, 39, 40, 41, 91]
theorem text_ok {b : Nat} {u h : MH} {most : Nat} (hm : most ≤ 1000) (st : S4 (1 + most + b) u h) : ∃ l h', l.length ≤ most ∧ (∀ c ∈ l, c ∈ Alph) ∧ S4 b u h' ∧ m_law_text [.ref 2, .int (most : Int)] h = .ok (.str l) h' := by
  obtain ⟨k, h1, hk, st1, e1⟩ := (show S4 ((most + b) + 1) u h from st.mono (by omega)).drawN (k := most + 1) (by omega)
  have e1' : m_law_draw [.ref 2, .int ((most : Int) + 1)] h = .ok (.int (k : Int)) h1 := by
    rw [show ((most : Int) + 1) = ((most + 1 : Nat) : Int) by omega]; exact e1
  have lc := lcL_draw (u := u) (t := .one 2) (te := eOp mIx (eC (.str [40, 91, 41, 93, 39, 32, 47, 97, 98, 122, 39, 39, 40, 41, 91])) (eCall 2 m_law_draw (aCons (eVar 0) (aCons (eC (.int 15)) (aNil))))) (sw := [some (.ref 2), some (.int (most : Int)), none]) 1 (fun _ y => ∃ c ∈ Alph, y = .str [c]) (MP.upTo 0 k) [] b h1 (by rw [upTo_len]; exact st1.mono (by omega)) (by rw [upTo_len]; simp; omega) (fun x hx b h st => by
    obtain ⟨j, h2, hj, st2, e2⟩ := (show S4 (b + 1) u h from st.mono (by omega)).drawN (k := 15) (by omega)
    obtain ⟨c, hc, e3⟩ := ix_strN (A := Alph) (j := j) hj (by decide) h2
    refine ⟨[some (.ref 2), some (.int (most : Int)), some x], .str [c], h2, rfl, ⟨c, hc, rfl⟩, st2, ?_⟩
    have e2' : m_law_draw [.ref 2, .int 15] h = .ok (.int (j : Int)) h2 := e2
    have e3' : mIx (.str [40, 91, 41, 93, 39, 32, 47, 97, 98, 122, 39, 39, 40, 41, 91]) (.int (j : Int)) h2 = some (.str [c], h2) := e3
    simp [e2', e3'])
  obtain ⟨ys, h2, st2, pw, e2⟩ := lc
  obtain ⟨ly, ay⟩ := paired_all pw
  obtain ⟨l, ll, hl, rfl⟩ := text_of_signs ay
  rw [upTo_len, ← ll] at ly
  rw [List.nil_append] at e2
  have jo := joinSigns (l := l) (by omega) h2
  have run : runFn 3 b_law_text [.ref 2, .int (most : Int)] h = .ok (.str l) h2 := by
    have ad : mAddV (.int (most : Int)) (.int 1) h = some (.int ((most : Int) + 1), h) := rfl
    have j0 : jRng1 (aCons (eCall 2 m_law_draw (aCons (eVar 0) (aCons (eOp mAddV (eVar 1) (eC (.int 1))) (aNil)))) (aNil)) [some (.ref 2), some (.int (most : Int)), none] h = .ok (.items (MP.upTo 0 k)) h1 := by
      have hb : -(2 ^ 62) ≤ (k : Int) ∧ (k : Int) < 2 ^ 62 := by omega
      have a0 : aCons (eCall 2 m_law_draw (aCons (eVar 0) (aCons (eOp mAddV (eVar 1) (eC (.int 1))) (aNil)))) (aNil) [some (.ref 2), some (.int (most : Int)), none] h = .ok [.int (k : Int)] h1 := by
        simp [ad, e1']
      rw [jRng1_ap, a0, bind_ok]
      simp only [if_pos hb, Int.toNat_natCast]
    have e3 : b_law_text [some (.ref 2), some (.int (most : Int)), none] h = .rt (.str l) h2 := by
      unfold b_law_text
      rw [sRet_ap, eBm_ap, eC_ap, bind_ok, rcv_str, if_pos rfl, aCons_ap, eLv_ap, j0, bind_ok, lc_items]
      simp only [wipeM, List.set]
      rw [e2, bind_ok, aNil_ap, bind_ok, bind_ok, jo]
      rfl
    rw [runFn_ap]
    show (match b_law_text [some (.ref 2), some (.int (most : Int)), none] h with
      | .rt v h' => R.ok v h'
      | .nx _ h' => .ok .non h'
      | .err e _ h' => .err e h'
      | _ => .stuck) = _
    rw [e3]
  obtain ⟨h3, st3, e3⟩ := trim_end (m := runFn 3 b_law_text) (u := []) st (by simpa using st2) run (by rfl)
  exact ⟨l, h3, by omega, hl, st3, e3⟩
end MP.Q3

/-! right pages stay right -/
namespace MP.Pg
open PySem L2 MP
structure PgOk (l : CP) (r : Rt) : Prop where
  l : ∀ c ∈ l, sgn c = true
  r : ∀ p ∈ r, sgn p.1 = true ∧ (p.2 = true → closing p.1 = true)
theorem closing_sgn (c : Nat) (h : closing c = true) : sgn c = true := by
  unfold closing at h
  simp only [Bool.or_eq_true, beq_iff_eq] at h
  rcases h with (rfl | rfl) | rfl <;> decide
theorem closer_closing {c k : Nat} (h : closerN c = some k) : closing k = true := by
  unfold closerN at h
  split at h
  · cases h; rfl
  · split at h
    · cases h; rfl
    · split at h
      · cases h; rfl
      · cases h
theorem PgOk.press {B : Bk} {l : CP} {r : Rt} (ok : PgOk l r) {y : Ky} (hy : y.ok = true) : PgOk (pressS B l r y).1 (pressS B l r y).2 := by
  have tl : ∀ p ∈ r.tail, sgn p.1 = true ∧ (p.2 = true → closing p.1 = true) := fun p hp => ok.r p (List.mem_of_mem_tail hp)
  cases y with
  | back =>
    simp only [pressS, backS]
    split
    · exact ok
    · rename_i c hc
      refine ⟨fun d hd => ok.l d ((List.dropLast_sublist _).subset hd), fun p hp => ?_⟩
      unfold backR at hp
      split at hp
      · split at hp
        · exact tl p hp
        · exact ok.r p hp
      · exact ok.r p hp
  | right =>
    simp only [pressS]
    cases r with
    | nil => exact ok
    | cons q t =>
      refine ⟨fun d hd => ?_, fun p hp => ok.r p (List.mem_cons_of_mem _ hp)⟩
      rcases List.mem_append.mp hd with z | z
      · exact ok.l d z
      · have : d = q.1 := by simpa using z
        subst this
        exact (ok.r q List.mem_cons_self).1
  | end_ =>
    simp only [pressS, endS]
    refine ⟨fun d hd => ?_, fun p hp => ok.r p ((List.dropWhile_sublist _).subset hp)⟩
    rcases List.mem_append.mp hd with z | z
    · exact ok.l d z
    · obtain ⟨q, hq, rfl⟩ := List.mem_map.mp z
      exact (ok.r q ((List.takeWhile_sublist _).subset hq)).1
  | sg c =>
    have hl : ∀ d ∈ l ++ [c], sgn d = true := fun d hd => by
      rcases List.mem_append.mp hd with z | z
      · exact ok.l d z
      · have : d = c := by simpa using z
        subst this
        exact hy
    simp only [pressS, typeS]
    split
    · exact ⟨hl, tl⟩
    · have h1 : ∀ p ∈ (match closerN c with
          | some k => if doesPut B l r c then (k, true) :: r else r
          | none => r : Rt), sgn p.1 = true ∧ (p.2 = true → closing p.1 = true) := by
        intro p hp
        cases hk : closerN c with
        | none => rw [hk] at hp; exact ok.r p hp
        | some k =>
          rw [hk] at hp
          simp only at hp
          split at hp
          · rcases List.mem_cons.mp hp with z | z
            · subst z
              exact ⟨closing_sgn k (closer_closing hk), fun _ => closer_closing hk⟩
            · exact ok.r p z
          · exact ok.r p hp
      refine ⟨hl, fun p hp => ?_⟩
      simp only at hp
      split at hp
      · obtain ⟨q, hq, rfl⟩ := List.mem_map.mp hp
        exact ⟨(h1 q hq).1, fun z => by cases z⟩
      · exact h1 p hp
theorem PgOk.pressAll {B : Bk} : ∀ {ks : List Ky} {l : CP} {r : Rt}, PgOk l r → (∀ k ∈ ks, k.ok = true) → PgOk (pressAll B ks l r).1 (pressAll B ks l r).2
  | [], _, _, ok, _ => ok
  | y :: ks, l, r, ok, hk => (ok.press (B := B) (hk y List.mem_cons_self)).pressAll fun k h => hk k (List.mem_cons_of_mem _ h)
theorem PgOk.rt {l : CP} {r : Rt} (ok : PgOk l r) : Q3.RtOk r := fun p hp => (ok.r p hp).1
theorem owns_spec : ∀ (r : Rt) (i : Nat), (∀ j ∈ owns i r, i ≤ j ∧ ∃ p, r[j - i]? = some p ∧ p.2 = true) ∧ (owns i r).Pairwise (· < ·) ∧ (owns i r).length ≤ r.length
  | [], i => by simp [owns]
  | p :: t, i => by
    obtain ⟨a, b, c⟩ := owns_spec t (i + 1)
    have up : ∀ j ∈ owns (i + 1) t, i ≤ j ∧ ∃ q, (p :: t)[j - i]? = some q ∧ q.2 = true := fun j hj => by
      obtain ⟨h1, q, h2, h3⟩ := a j hj
      refine ⟨by omega, q, ?_, h3⟩
      rw [show j - i = (j - (i + 1)) + 1 by omega, List.getElem?_cons_succ]
      exact h2
    cases hp : p.2 with
    | false => simp only [owns, hp, Bool.false_eq_true, if_false]; exact ⟨up, b, by simp; omega⟩
    | true =>
      simp only [owns, hp, if_true]
      refine ⟨fun j hj => ?_, ?_, by simp; omega⟩
      · rcases List.mem_cons.mp hj with z | z
        · subst z; exact ⟨Nat.le_refl _, p, by simp, hp⟩
        · exact up j z
      · rw [List.pairwise_cons]
        exact ⟨fun j hj => by have := (a j hj).1; omega, b⟩
theorem asc_of : ∀ os : List Nat, os.Pairwise (· < ·) → asc (os.map fun (j : Nat) => (j : Int)) = true
  | [], _ => rfl
  | [_], _ => rfl
  | a :: b :: r, h => by
    have h2 := asc_of (b :: r) (List.Pairwise.of_cons h)
    have h1 : a < b := (List.pairwise_cons.mp h).1 b List.mem_cons_self
    simp only [List.map_cons, asc, Bool.and_eq_true, decide_eq_true_eq] at h2 ⊢
    exact ⟨by omega, h2⟩
theorem PgOk.page {l : CP} {r : Rt} (ok : PgOk l r) (hl : l.length ≤ 200) (hr : r.length ≤ 200) : isPage l (r.map (·.1)) ((owns 0 r).map fun (j : Nat) => (j : Int)) = true := by
  obtain ⟨a, b, _⟩ := owns_spec r 0
  have sl : l.all sgn = true := List.all_eq_true.mpr ok.l
  have sf : (r.map (·.1)).all sgn = true := List.all_eq_true.mpr fun c hc => by
    obtain ⟨p, hp, rfl⟩ := List.mem_map.mp hc
    exact (ok.r p hp).1
  have pl : ((owns 0 r).map fun (j : Nat) => (j : Int)).all (placeIn (r.map (·.1))) = true := List.all_eq_true.mpr fun i hi => by
    obtain ⟨j, hj, rfl⟩ := List.mem_map.mp hi
    obtain ⟨_, p, hp, ht⟩ := a j hj
    rw [Nat.sub_zero] at hp
    have hlt := (List.getElem?_eq_some_iff.mp hp).1
    have hpj : r[j] = p := (List.getElem?_eq_some_iff.mp hp).2
    have := (ok.r p (List.mem_of_getElem? hp)).2 ht
    simp [placeIn, hlt, hpj, this]
  unfold isPage
  rw [sl, sf, pl, asc_of _ b, decide_eq_true hl, decide_eq_true (show (r.map (·.1)).length ≤ 200 by simpa using hr)]
  rfl
/-- a page that is told, and read again, is the same -/
theorem rt_told (r : Rt) : rtOf 0 (r.map (·.1)) ((owns 0 r).map fun (j : Nat) => (j : Int)) = r := by
  have := rtOf_owns r 0 [] (by simp)
  simpa using this
theorem owns_rtOf : ∀ (f : CP) (i : Nat) (os : List Nat), os.Pairwise (· < ·) → (∀ j ∈ os, i ≤ j ∧ j < i + f.length) → owns i (rtOf i f (os.map fun (j : Nat) => (j : Int))) = os ∧ (rtOf i f (os.map fun (j : Nat) => (j : Int))).map (·.1) = f
  | [], i, os, _, h => by
    cases os with
    | nil => exact ⟨rfl, rfl⟩
    | cons a os => have := h a List.mem_cons_self; simp at this; omega
  | c :: f, i, os, hp, h => by
    have key : ∀ os : List Nat, (∀ j ∈ os, i + 1 ≤ j) → ∀ (f : CP) (k : Nat), i + 1 ≤ k → rtOf k f ((i :: os).map fun (j : Nat) => (j : Int)) = rtOf k f (os.map fun (j : Nat) => (j : Int)) := fun os ho f => by
      induction f with
      | nil => intro k _; rfl
      | cons d f ih =>
        intro k hk
        simp only [rtOf]
        rw [ih (k + 1) (by omega)]
        congr 2
        rw [List.map_cons, List.contains_cons]
        have : ((k : Int) == (i : Int)) = false := by rw [beq_eq_false_iff_ne]; omega
        rw [this, Bool.false_or]
    cases os with
    | nil =>
      obtain ⟨a, b⟩ := owns_rtOf f (i + 1) [] .nil (by simp)
      simp only [List.map_nil] at a b ⊢
      refine ⟨?_, by simp only [rtOf, List.map_cons, b]⟩
      simp only [rtOf, owns, List.contains_nil, Bool.false_eq_true, if_false]
      exact a
    | cons o os =>
      have ho := h o List.mem_cons_self
      have hgt : ∀ j ∈ os, o < j := (List.pairwise_cons.mp hp).1
      by_cases e : o = i
      · subst e
        have ho2 : ∀ j ∈ os, o + 1 ≤ j := fun j hj => by have := hgt j hj; omega
        obtain ⟨a, b⟩ := owns_rtOf f (o + 1) os (List.Pairwise.of_cons hp) (fun j hj => by
          have h1 := hgt j hj
          have h2 := h j (List.mem_cons_of_mem _ hj)
          simp only [List.length_cons] at h2
          omega)
        have k2 := key os ho2 f (o + 1) (Nat.le_refl _)
        have hc : ((o :: os).map fun (j : Nat) => (j : Int)).contains (o : Int) = true := by simp
        refine ⟨?_, ?_⟩
        · simp only [rtOf, owns, hc, if_true]
          rw [k2, a]
        · simp only [rtOf, List.map_cons]
          rw [← List.map_cons (f := fun (j : Nat) => (j : Int)), k2, b]
      · obtain ⟨a, b⟩ := owns_rtOf f (i + 1) (o :: os) hp (fun j hj => by
          have h2 := h j hj
          simp only [List.length_cons] at h2
          rcases List.mem_cons.mp hj with z | z
          · omega
          · have := hgt j z
            omega)
        have hc : ((o :: os).map fun (j : Nat) => (j : Int)).contains (i : Int) = false := by
          rw [Bool.eq_false_iff]
          intro z
          simp only [List.contains_iff_mem, List.mem_map] at z
          obtain ⟨j, hj, ej⟩ := z
          have ej : j = i := by omega
          rcases List.mem_cons.mp hj with w | w
          · exact e (w ▸ ej)
          · have := hgt j w; omega
        refine ⟨?_, by simp only [rtOf, List.map_cons] at b ⊢; rw [b]⟩
        simp only [rtOf, owns, hc, Bool.false_eq_true, if_false]
        exact a
theorem page_of {l f : CP} {os : List Nat} (hp : os.Pairwise (· < ·)) (hb : ∀ j ∈ os, j < f.length) : toldV l (rtOf 0 f (os.map fun (j : Nat) => (j : Int))) = .tup [.str l, .str f, .tup (os.map fun (j : Nat) => .int (j : Int))] := by
  obtain ⟨a, b⟩ := owns_rtOf f 0 os hp (fun j hj => by have := hb j hj; omega)
  unfold toldV
  rw [a, b]
theorem rtOf_mem : ∀ (f : CP) (i : Nat) (os : List Int) (p : Nat × Bool), p ∈ rtOf i f os → ∃ j, f[j]? = some p.1 ∧ p.2 = os.contains ((i + j : Nat) : Int)
  | [], _, _, _, h => by simp [rtOf] at h
  | c :: f, i, os, p, h => by
    simp only [rtOf] at h
    rcases List.mem_cons.mp h with z | z
    · subst z; exact ⟨0, by simp, by simp⟩
    · obtain ⟨j, h1, h2⟩ := rtOf_mem f (i + 1) os p z
      refine ⟨j + 1, by simpa using h1, ?_⟩
      rw [h2]
      congr 2
      omega
theorem PgOk.of {l f : CP} {os : List Int} (h : isPage l f os = true) : PgOk l (rtOf 0 f os) := by
  unfold isPage at h
  simp only [Bool.and_eq_true] at h
  obtain ⟨⟨⟨⟨_, h1⟩, _, h2⟩, h3⟩, _⟩ := h
  refine ⟨fun c hc => List.all_eq_true.mp h1 c hc, fun p hp => ?_⟩
  obtain ⟨j, e1, e2⟩ := rtOf_mem f 0 os p hp
  refine ⟨List.all_eq_true.mp h2 _ (List.mem_of_getElem? e1), fun ht => ?_⟩
  rw [e2] at ht
  have := List.all_eq_true.mp h3 _ (List.contains_iff_mem.mp ht)
  unfold placeIn at this
  simp only [Bool.and_eq_true, Nat.zero_add, Int.toNat_natCast] at this
  rw [e1] at this
  exact this.2
theorem pressAll_snoc (B : Bk) (y : Ky) : ∀ (ks : List Ky) (l : CP) (r : Rt), pressAll B (ks ++ [y]) l r = pressS B (pressAll B ks l r).1 (pressAll B ks l r).2 y
  | [], l, r => rfl
  | k :: ks, l, r => by simp only [List.cons_append, pressAll]; exact pressAll_snoc B y ks _ _
/-- told pages as data -/
theorem ints_dat (js : List Nat) (h : ∀ j ∈ js, j < 100000) : DatL 0 (js.length * 65) (js.map fun (i : Nat) => .int (i : Int)) := by
  have := DatL.of (k := 0) (w := 64) (vs := js.map fun (i : Nat) => .int (i : Int)) (fun v hv => by
    obtain ⟨j, hj, rfl⟩ := List.mem_map.mp hv
    have := h j hj
    exact Dat.int (by omega))
  simpa using this
theorem sgn_lt (c : Nat) (h : sgn c = true) : c < 1114112 := by
  unfold sgn at h
  have := List.contains_iff_mem.mp h
  have key : ∀ d ∈ SG, d < 1114112 := by decide
  exact key c this
theorem PgOk.dat {l : CP} {r : Rt} (ok : PgOk l r) (hl : l.length ≤ 200) (hr : r.length ≤ 200) : Dat 2 14000 (toldV l r) := by
  obtain ⟨a, b, c⟩ := owns_spec r 0
  have d1 : Dat 1 200 (.str l) := (Dat.str (fun c hc => sgn_lt c (ok.l c hc))).mono (by omega) hl
  have d2 : Dat 1 200 (.str (r.map (·.1))) := (Dat.str (fun c hc => by
    obtain ⟨p, hp, rfl⟩ := List.mem_map.mp hc
    exact sgn_lt _ (ok.r p hp).1)).mono (by omega) (by simpa using hr)
  have d3 : Dat 1 13000 (.tup ((owns 0 r).map fun (i : Nat) => .int (i : Int))) := (ints_dat (owns 0 r) (fun j hj => by
    obtain ⟨_, p, hp, _⟩ := a j hj
    have := (List.getElem?_eq_some_iff.mp hp).1
    omega)).tup.mono (by omega) (by omega)
  exact ((DatL.cons d1 (DatL.cons d2 (DatL.cons d3 (DatL.nil 1)))).tup).mono (by omega) (by omega)
theorem owns_filter : ∀ (r : Rt) (i : Nat), owns i r = ((List.range r.length).filter fun k => r[k]?.elim false (·.2)).map (· + i)
  | [], _ => rfl
  | p :: t, i => by
    have ih := owns_filter t (i + 1)
    rw [List.length_cons, List.range_succ_eq_map, List.filter_cons, List.filter_map]
    have e : ((fun k => (p :: t)[k]?.elim false (·.2)) ∘ Nat.succ) = fun (k : Nat) => t[k]?.elim false (·.2) := by
      funext k
      simp
    rw [e]
    have e0 : (p :: t)[0]?.elim false (·.2) = p.2 := by simp
    rw [e0]
    have e1 : ∀ l : List Nat, (l.map Nat.succ).map (· + i) = l.map (· + (i + 1)) := fun l => by
      rw [List.map_map]
      congr 1
      funext k
      simp only [Function.comp, Nat.succ_eq_add_one]
      omega
    cases hp : p.2 with
    | true => simp only [owns, hp, if_true, List.map_cons, Nat.zero_add, ih, e1]
    | false => simp only [owns, hp, Bool.false_eq_true, if_false, ih, e1]
end MP.Pg

/-! the class Reading -/
namespace MP.Pg
open PySem L2 MP MP.Pr
/-- how far a text is read -/
structure Rg where
  needs : CP
  bef : Option Nat
  op : Bool
def Rg.q (r : Rg) : Bool := r.needs.getLast? == some 39
def Rg.can (r : Rg) (c : Nat) : Bool := if r.q then c != 47 else if r.op then letter c else !(c == 41 || c == 93) || r.needs.getLast? == some c
def Rg.step (hw : Bool) (r : Rg) (c : Nat) : Rg :=
  if r.q then { r with needs := if c = 39 then r.needs.dropLast else r.needs, bef := some c }
  else if c = 39 ∧ hw = true ∧ r.bef.elim false letter = true then { r with op := true, bef := some c }
  else { needs := if (closerN c).isSome then r.needs ++ oT (closerN c) else if c = 41 ∨ c = 93 then r.needs.dropLast else r.needs, bef := some c, op := false }
def r0 : Rg := ⟨[], none, false⟩
structure RgAt (h : MH) (n : Nat) (hw : Bool) (r : Rg) : Prop where
  o : h[n]? = some (.ins n_Reading [(f_has_words, .bl hw), (f_needs, .str r.needs), (f_before, .str (oT r.bef)), (f_is_open, .bl r.op)])
def rgO (hw : Bool) (r : Rg) : MO := .ins n_Reading [(f_has_words, .bl hw), (f_needs, .str r.needs), (f_before, .str (oT r.bef)), (f_is_open, .bl r.op)]
@[simp] theorem hasRg : ([n_Reading] : List CP).contains n_Reading = true := rfl
@[simp] theorem rgGw (a b c d : MV) : getF f_has_words [(f_has_words, a), (f_needs, b), (f_before, c), (f_is_open, d)] = some a := rfl
@[simp] theorem rgGn (a b c d : MV) : getF f_needs [(f_has_words, a), (f_needs, b), (f_before, c), (f_is_open, d)] = some b := rfl
@[simp] theorem rgGb (a b c d : MV) : getF f_before [(f_has_words, a), (f_needs, b), (f_before, c), (f_is_open, d)] = some c := rfl
@[simp] theorem rgGo (a b c d : MV) : getF f_is_open [(f_has_words, a), (f_needs, b), (f_before, c), (f_is_open, d)] = some d := rfl
@[simp] theorem rgSn (v a b c d : MV) : setF f_needs v [(f_has_words, a), (f_needs, b), (f_before, c), (f_is_open, d)] = [(f_has_words, a), (f_needs, v), (f_before, c), (f_is_open, d)] := rfl
@[simp] theorem rgSb (v a b c d : MV) : setF f_before v [(f_has_words, a), (f_needs, b), (f_before, c), (f_is_open, d)] = [(f_has_words, a), (f_needs, b), (f_before, v), (f_is_open, d)] := rfl
@[simp] theorem rgSo (v a b c d : MV) : setF f_is_open v [(f_has_words, a), (f_needs, b), (f_before, c), (f_is_open, d)] = [(f_has_words, a), (f_needs, b), (f_before, c), (f_is_open, v)] := rfl
@[simp] theorem noIq (a b c d : MV) : noF x_is_quoted [(f_has_words, a), (f_needs, b), (f_before, c), (f_is_open, d)] = true := rfl
@[simp] theorem noCr (a b c d : MV) : noF x_can_read [(f_has_words, a), (f_needs, b), (f_before, c), (f_is_open, d)] = true := rfl
@[simp] theorem noRe (a b c d : MV) : noF x_read [(f_has_words, a), (f_needs, b), (f_before, c), (f_is_open, d)] = true := rfl
section
variable {h : MH} {n : Nat} {hw : Bool} {r : Rg} {l : CP}
theorem cutL (hl : l.length ≤ 99999) (h : MH) : mCutV (.str l) (some (-1)) none h = some (.str (oT l.getLast?), h) := by
  have hs : l.length ≤ 16777216 := by omega
  simp only [mCutV, lstV, mCut, szs, hs, if_true, cut_lastOf]
theorem cutI (hl : l.length ≤ 99999) (h : MH) : mCutV (.str l) none (some (-1)) h = some (.str l.dropLast, h) := by
  have hs : l.length ≤ 16777216 := by omega
  simp only [mCutV, lstV, mCut, szs, hs, if_true, cut_last]
theorem quoted_ok (p : RgAt h n hw r) (hl : r.needs.length ≤ 99999) : m_Reading_is_quoted [.ref n] h = .ok (.bl r.q) h := by
  simp [m_Reading_is_quoted, b_Reading_is_quoted, p.o, cutL hl, v_QUOTE, oT_q, Rg.q]
theorem can_ok (p : RgAt h n hw r) (hl : r.needs.length ≤ 99999) (c : Nat) : m_Reading_can_read [.ref n, .str [c]] h = .ok (.bl (r.can c)) h := by
  have q := quoted_ok p hl
  have lt : m_is_letter [.str [c]] h = .ok (.bl (letter c)) h := letter_ok (some c) h
  cases hq : r.q with
  | true =>
    rw [hq] at q
    simp [m_Reading_can_read, b_Reading_can_read, p.o, q, Rg.can, hq, v_LINE, bne]
  | false =>
    rw [hq] at q
    cases ho : r.op with
    | true => simp [m_Reading_can_read, b_Reading_can_read, p.o, q, Rg.can, hq, ho, lt]
    | false =>
      by_cases hc : c = 41 ∨ c = 93
      · have hb : (c == 41 || c == 93) = true := by simpa using hc
        simp [m_Reading_can_read, b_Reading_can_read, p.o, q, Rg.can, hq, ho, v_CLOSERS, cutL hl, oT_q, inS_one, hc]
        exact fun a b => absurd hc (by omega)
      · have hb : (c == 41 || c == 93) = false := by simpa using hc
        simp [m_Reading_can_read, b_Reading_can_read, p.o, q, Rg.can, hq, ho, v_CLOSERS, cutL hl, oT_q, inS_one, hc]
        exact .inl (by omega)
theorem oT_some (c : Nat) : oT (some c) = [c] := rfl
theorem read_ok (p : RgAt h n hw r) (hl : r.needs.length ≤ 9999) (c : Nat) : m_Reading_read [.ref n, .str [c]] h = .ok .non (h.set n (rgO hw (r.step hw c))) := by
  have e : ∀ g, mCutV (.str r.needs) none (some (-1)) g = some (.str r.needs.dropLast, g) := fun g => cutI (l := r.needs) (by omega) g
  have q := quoted_ok p (by omega)
  have lt := letter_ok r.bef h
  have gs : ∀ o, (h.set n o)[n]? = some o := fun o => List.getElem?_set_self (get_lt p.o)
  have ia : ∀ (d : Nat) (g : MH), mIAdd (.str r.needs) (.str [d]) g = some (.str (r.needs ++ [d]), g) := fun d g => by
    have : r.needs.length + 1 ≤ 16777216 := by omega
    simp [mIAdd, mAdd, szs, this]
  cases hq : r.q with
  | true =>
    rw [hq] at q
    by_cases hc : c = 39
    · simp [m_Reading_read, b_Reading_read, p.o, q, Rg.step, hq, v_QUOTE, hc, e, gs, rgO, oT_some]
    · simp [m_Reading_read, b_Reading_read, p.o, q, Rg.step, hq, v_QUOTE, hc, gs, rgO, oT_some]
  | false =>
    rw [hq] at q
    by_cases hop : c = 39 ∧ hw = true ∧ r.bef.elim false letter = true
    · obtain ⟨rfl, rfl, hb⟩ := hop
      rw [hb] at lt
      simp [m_Reading_read, b_Reading_read, p.o, q, Rg.step, hq, v_QUOTE, gs, rgO, oT_some, lt, hb]
    · have t0 : (tAndM (tCmp mEq (eVar 1) (eC v_QUOTE)) (tAndM (tVal (eFld [n_Reading] f_has_words (eVar 0))) (tVal (eCall 1 m_is_letter (aCons (eFld [n_Reading] f_before (eVar 0)) (aNil)))))) [some (.ref n), some (.str [c])] h = .ok false h := by
        by_cases hc : c = 39
        · cases hw with
          | false => simp [hc, v_QUOTE, p.o]
          | true =>
            have hb : r.bef.elim false letter = false := by
              cases z : r.bef.elim false letter with
              | false => rfl
              | true => exact absurd ⟨hc, rfl, z⟩ hop
            rw [hb] at lt
            simp [hc, v_QUOTE, p.o, lt]
        · simp [hc, v_QUOTE, p.o]
      have st : r.step hw c = { needs := if (closerN c).isSome then r.needs ++ oT (closerN c) else if c = 41 ∨ c = 93 then r.needs.dropLast else r.needs, bef := some c, op := false } := by
        unfold Rg.step
        rw [if_neg (by rw [hq]; decide), if_neg hop]
      rw [st]
      have clo : ∀ g, m_closer_of [.str [c]] g = .ok (.str (oT (closerN c))) g := fun g => closer_ok (some c) g
      have ad : mAddV v_OPENERS v_QUOTE = fun g => some (.str [40, 91, 39], g) := rfl
      by_cases h1 : c = 39
      · subst h1
        have k : closerN 39 = some 39 := rfl
        rw [k] at clo
        simp [-tAndM_ap, m_Reading_read, b_Reading_read, p.o, q, t0, gs, rgO, oT_some, ad, inS_one, clo, k, ia]
      · by_cases h2 : c = 40
        · subst h2
          have k : closerN 40 = some 41 := rfl
          rw [k] at clo
          simp [-tAndM_ap, m_Reading_read, b_Reading_read, p.o, q, t0, gs, rgO, oT_some, ad, inS_one, clo, k, ia]
        · by_cases h3 : c = 91
          · subst h3
            have k : closerN 91 = some 93 := rfl
            rw [k] at clo
            simp [-tAndM_ap, m_Reading_read, b_Reading_read, p.o, q, t0, gs, rgO, oT_some, ad, inS_one, clo, k, ia]
          · have k : closerN c = none := by simp [closerN, h1, h2, h3]
            by_cases h4 : c = 41 ∨ c = 93
            · simp [-tAndM_ap, m_Reading_read, b_Reading_read, p.o, q, t0, gs, rgO, oT_some, ad, inS_one, k, h1, h2, h3, h4, v_CLOSERS, e]
            · simp [-tAndM_ap, m_Reading_read, b_Reading_read, p.o, q, t0, gs, rgO, oT_some, ad, inS_one, k, h1, h2, h3, h4, v_CLOSERS]
theorem whole_ok (p : RgAt h n hw r) : m_is_whole [.ref n] h = .ok (.bl (r.needs.isEmpty && !r.op)) h := by
  cases hr : r.needs with
  | nil => simp [m_is_whole, b_is_whole, p.o, hr]
  | cons a b => simp [m_is_whole, b_is_whole, p.o, hr]
theorem rg_new (hw : Bool) (h : MH) : m_Reading___init__ [.ref h.length, .bl hw] (h ++ [.ins n_Reading []]) = .ok .non (h ++ [rgO hw r0]) := by
  have s1 : ∀ v : MV, setF f_has_words v [] = [(f_has_words, v)] := fun _ => rfl
  have s2 : ∀ a v : MV, setF f_needs v [(f_has_words, a)] = [(f_has_words, a), (f_needs, v)] := fun _ _ => rfl
  have s3 : ∀ a b v : MV, setF f_before v [(f_has_words, a), (f_needs, b)] = [(f_has_words, a), (f_needs, b), (f_before, v)] := fun _ _ _ => rfl
  have s4 : ∀ a b c v : MV, setF f_is_open v [(f_has_words, a), (f_needs, b), (f_before, c)] = [(f_has_words, a), (f_needs, b), (f_before, c), (f_is_open, v)] := fun _ _ _ _ => rfl
  simp [m_Reading___init__, b_Reading___init__, rgO, r0, oT, s1, s2, s3, s4]
end
end MP.Pg

/-! rows of keys that type a text; typed, left_over, harms -/
namespace MP.Pg
open PySem L2 MP MP.Pr
inductive Typ (sl : Bool) : List Ky → CP → Prop
  | nil : Typ sl [] []
  | slip {c : Nat} {ks : List Ky} {t : CP} : sl = true → sgn c = true → Typ sl ks t → Typ sl (.sg c :: .back :: ks) t
  | key {c : Nat} {ks : List Ky} {t : CP} : sgn c = true → Typ sl ks t → Typ sl (.sg c :: ks) (c :: t)
theorem Typ.ok {sl : Bool} {ks : List Ky} {t : CP} (y : Typ sl ks t) : ∀ k ∈ ks, k.ok = true := by
  induction y with
  | nil => intro k hk; cases hk
  | slip hs hc _ ih =>
    intro k hk
    rcases List.mem_cons.mp hk with rfl | hk
    · exact hc
    · rcases List.mem_cons.mp hk with rfl | hk
      · rfl
      · exact ih k hk
  | key hc _ ih =>
    intro k hk
    rcases List.mem_cons.mp hk with rfl | hk
    · exact hc
    · exact ih k hk
theorem Typ.append {sl : Bool} {ks ks' : List Ky} {t t' : CP} (y : Typ sl ks t) (z : Typ sl ks' t') : Typ sl (ks ++ ks') (t ++ t') := by
  induction y with
  | nil => exact z
  | slip hs hc _ ih => exact .slip hs hc ih
  | key hc _ ih => exact .key hc ih
/-- the sign ahead of the cursor is what is typed -/
theorem typeS_left (B : Bk) (l : CP) (r : Rt) (c : Nat) : (typeS B l r c).1 = l ++ [c] := by
  unfold typeS
  split
  · rename_i h
    cases r with
    | nil => simp [nx] at h
    | cons a t =>
      simp [nx] at h
      simp [overS, h.1.2]
  · rfl
theorem backS_left (B : Bk) (l : CP) (r : Rt) : (backS B l r).1 = l.dropLast := by
  unfold backS
  cases h : l.getLast? with
  | none => simp at h; simp [h]
  | some c => rfl
theorem Typ.left {sl : Bool} {ks : List Ky} {t : CP} (y : Typ sl ks t) (B : Bk) : ∀ (l : CP) (r : Rt), (pressAll B ks l r).1 = l ++ t := by
  induction y with
  | nil => intro l r; simp [pressAll]
  | slip hs hc _ ih =>
    intro l r
    simp only [pressAll, pressS]
    rw [ih, backS_left, typeS_left, List.dropLast_concat]
  | key hc _ ih =>
    intro l r
    simp only [pressAll, pressS]
    rw [ih, typeS_left, List.append_assoc]
    rfl
def readAll (hw : Bool) : CP → Rg → Option Rg
  | [], r => some r
  | c :: t, r => if r.can c then readAll hw t (r.step hw c) else none
theorem readAll_append (hw : Bool) : ∀ (t t' : CP) (r : Rg), readAll hw (t ++ t') r = (readAll hw t r).bind (readAll hw t')
  | [], t', r => rfl
  | c :: t, t', r => by
    simp only [List.cons_append, readAll]
    split
    · exact readAll_append hw t t' _
    · rfl
theorem step_len (hw : Bool) (r : Rg) (c : Nat) : (r.step hw c).needs.length ≤ r.needs.length + 1 := by
  unfold Rg.step
  split
  · simp only
    split <;> simp <;> omega
  · split
    · simp
    · simp only
      split
      · cases closerN c <;> simp [oT]
      · split <;> simp <;> omega
theorem ixk (pre ks : List Ky) (k : Ky) (g : MH) : mIx (ksV (pre ++ k :: ks)) (.int (pre.length : Int)) g = some (.str k.t, g) := by
  have : L2.atI ((pre ++ k :: ks).map fun y => MV.str y.t) (pre.length : Int) = some (.str k.t) := by
    refine atI_nat ?_
    simp
  unfold ksV
  simp only [mIx, this, Option.map_some]
theorem cut_mid {α : Type} (pre ks : List α) (k : α) : cutM (pre ++ k :: ks) (some ((pre.length : Int) + 1)) (some ((pre.length : Int) + 2)) = ks.take 1 := by
  unfold cutM
  have e1 : HT.sIx (pre ++ k :: ks).length 0 (some ((pre.length : Int) + 1)) = pre.length + 1 := by
    have := HT.sIx_nat (pre ++ k :: ks).length 0 (pre.length + 1)
    rw [Int.natCast_add] at this
    rw [show ((pre.length : Int) + 1) = ((pre.length : Int) + ((1 : Nat) : Int)) from rfl, this]
    simp
  have e2 : HT.sIx (pre ++ k :: ks).length (pre ++ k :: ks).length (some ((pre.length : Int) + 2)) = min (pre.length + 2) (pre.length + 1 + ks.length) := by
    have := HT.sIx_nat (pre ++ k :: ks).length (pre ++ k :: ks).length (pre.length + 2)
    rw [Int.natCast_add] at this
    rw [show ((pre.length : Int) + 2) = ((pre.length : Int) + ((2 : Nat) : Int)) from rfl, this]
    simp
    omega
  rw [e1, e2]
  have e3 : (pre ++ k :: ks).drop (pre.length + 1) = ks := by
    rw [List.drop_append]
    simp
  rw [e3]
  cases ks with
  | nil => simp
  | cons a b => simp only [List.length_cons]; congr 1; omega
theorem slipE (pre ks : List Ky) (k : Ky) (g : MH) : mCutV (ksV (pre ++ k :: ks)) (some ((pre.length : Int) + 1)) (some ((pre.length : Int) + 2)) g = some (ksV (ks.take 1), g) := by
  have e := cut_mid (pre.map fun y => MV.str y.t) (ks.map fun y => MV.str y.t) (.str k.t)
  simp only [List.length_map] at e
  unfold ksV
  simp only [mCutV, lstV, mCut, List.map_append, List.map_cons, List.map_take, e]
def isSlip (ks : List Ky) : Bool := match ks with
  | .back :: _ => true
  | _ => false
theorem slipQ (ks : List Ky) (hk : ∀ k ∈ ks, k.ok = true) (g : MH) : mEqv (ksV (ks.take 1)) (.tup [v_BACK]) g = some (isSlip ks) := by
  match ks with
  | [] =>
    simp [mEqv, eqE, mEqv0, ksV, toD, mapO, v_BACK, isSlip]
    decide +kernel
  | .back :: _ =>
    simp [mEqv, eqE, mEqv0, ksV, toD, mapO, v_BACK, isSlip, Ky.t]
    decide +kernel
  | .right :: _ =>
    simp [mEqv, eqE, mEqv0, ksV, toD, mapO, v_BACK, isSlip, Ky.t]
    decide +kernel
  | .end_ :: _ =>
    simp [mEqv, eqE, mEqv0, ksV, toD, mapO, v_BACK, isSlip, Ky.t]
    decide +kernel
  | .sg c :: _ =>
    simp [mEqv, eqE, mEqv0, ksV, toD, mapO, v_BACK, isSlip, Ky.t]
    have hc : sgn c = true := hk _ List.mem_cons_self
    have all : ∀ c ∈ SG, (SeqAt.shaped (PyData.tuple [PyData.str (S [c])]) = true ∧ SeqAt.shaped (PyData.tuple [PyData.str (S [98, 97, 99, 107])]) = true) ∧ (PyData.tuple [PyData.str (S [c])]).eqv (PyData.tuple [PyData.str (S [98, 97, 99, 107])]) = false := by decide +kernel
    exact all c (by simpa [sgn] using hc)
end MP.Pg

/-! typed_in, typed -/
namespace MP.Pg
open PySem L2 MP MP.Pr
def tyC : MT := (tCmp mLt (eVar 4) (eBlt mLen (aCons (eVar 1) (aNil))))
def tyB : MS := (sSeq (sPar 5 6 (aCons (eOp mIx (eVar 1) (eVar 4)) (aCons (eOp mEq (eCutV (eVar 1) (pSo (eOp mAddV (eVar 4) (eC (.int 1)))) (pSo (eOp mAddV (eVar 4) (eC (.int 2))))) (eTup (aCons (eC v_BACK) (aNil)))) (aNil)))) (sSeq (sIf (tOrM (tNotM (tVal (eCall 1 m_is_sign (aCons (eVar 5) (aNil))))) (tAndM (tVal (eVar 6)) (tNotM (tVal (eOp mIx (eVar 0) (eC (.int 0))))))) (sRet (eTup (aCons (eVar 3) (aCons (eIf (tNotM (tVal (eCall 1 m_is_sign (aCons (eVar 5) (aNil))))) (eVar 4) (eOp mAddV (eVar 4) (eC (.int 1)))) (aNil))))) (sNil)) (sSeq (sIf (tAndM (tNotM (tVal (eVar 6))) (tNotM (tVal (eMeth n_Reading x_can_read 2 m_Reading_can_read (eVar 2) (aCons (eVar 5) (aNil)))))) (sRet (eTup (aCons (eVar 3) (aCons (eVar 4) (aNil))))) (sNil)) (sSeq (sIf (tNotM (tVal (eVar 6))) (sSeq (sExpr (eMeth n_Reading x_read 2 m_Reading_read (eVar 2) (aCons (eVar 5) (aNil)))) (sAug 3 mIAdd (eVar 5))) (sNil)) (sAug 4 mIAdd (eIf (tVal (eVar 6)) (eC (.int 2)) (eC (.int 1))))))))
theorem typed_in_eq : b_typed_in = sSeq (sPar3 2 3 4 (aCons (eMake n_Reading 2 m_Reading___init__ (aCons (eOp mIx (eVar 0) (eC (.int 1))) (aNil))) (aCons (eC (.str [])) (aCons (eC (.int 0)) (aNil))))) (sSeq (sWhile (tCmp mLt (eVar 4) (eBlt mLen (aCons (eVar 1) (aNil)))) (sSeq (sPar 5 6 (aCons (eOp mIx (eVar 1) (eVar 4)) (aCons (eOp mEq (eCutV (eVar 1) (pSo (eOp mAddV (eVar 4) (eC (.int 1)))) (pSo (eOp mAddV (eVar 4) (eC (.int 2))))) (eTup (aCons (eC v_BACK) (aNil)))) (aNil)))) (sSeq (sIf (tOrM (tNotM (tVal (eCall 1 m_is_sign (aCons (eVar 5) (aNil))))) (tAndM (tVal (eVar 6)) (tNotM (tVal (eOp mIx (eVar 0) (eC (.int 0))))))) (sRet (eTup (aCons (eVar 3) (aCons (eIf (tNotM (tVal (eCall 1 m_is_sign (aCons (eVar 5) (aNil))))) (eVar 4) (eOp mAddV (eVar 4) (eC (.int 1)))) (aNil))))) (sNil)) (sSeq (sIf (tAndM (tNotM (tVal (eVar 6))) (tNotM (tVal (eMeth n_Reading x_can_read 2 m_Reading_can_read (eVar 2) (aCons (eVar 5) (aNil)))))) (sRet (eTup (aCons (eVar 3) (aCons (eVar 4) (aNil))))) (sNil)) (sSeq (sIf (tNotM (tVal (eVar 6))) (sSeq (sExpr (eMeth n_Reading x_read 2 m_Reading_read (eVar 2) (aCons (eVar 5) (aNil)))) (sAug 3 mIAdd (eVar 5))) (sNil)) (sAug 4 mIAdd (eIf (tVal (eVar 6)) (eC (.int 2)) (eC (.int 1))))))))) (sRet (eTup (aCons (eVar 3) (aCons (eIf (tVal (eCall 1 m_is_whole (aCons (eVar 2) (aNil)))) (eC .non) (eBlt mLen (aCons (eVar 1) (aNil)))) (aNil)))))) := rfl
def mnV (sl hw bh : Bool) : MV := .tup [.bl sl, .bl hw, .bl bh]
theorem Typ.noSlip {sl : Bool} {ks : List Ky} {t : CP} (y : Typ sl ks t) : isSlip ks = false := by
  cases y <;> rfl
theorem lt_int (i j : Int) (g : MH) : mLt (.int i) (.int j) g = some (.bl (decide (i < j)), g) := rfl
theorem add_int (i j : Int) (g : MH) : mAddV (.int i) (.int j) g = some (.int (i + j), g) := rfl
theorem iadd_int (i j : Int) (g : MH) : mIAdd (.int i) (.int j) g = some (.int (i + j), g) := rfl
theorem slipX {s : Sl} (pre ks : List Ky) (k : Ky) (hk : ∀ k ∈ ks, k.ok = true) (h1 : s[1]? = some (some (ksV (pre ++ k :: ks)))) (h4 : s[4]? = some (some (.int (pre.length : Int)))) (g : MH) :
    eOp mEq (eCutV (eVar 1) (pSo (eOp mAddV (eVar 4) (eC (.int 1)))) (pSo (eOp mAddV (eVar 4) (eC (.int 2))))) (eTup (aCons (eC v_BACK) (aNil))) s g = .ok (.bl (isSlip ks)) g := by
  have a := slipE pre ks k g
  have b := slipQ ks hk g
  simp [h1, h4, add_int, a, b, Pg.szs]
theorem pairX {s : Sl} (pre ks : List Ky) (k : Ky) (hk : ∀ k ∈ ks, k.ok = true) (h1 : s[1]? = some (some (ksV (pre ++ k :: ks)))) (h4 : s[4]? = some (some (.int (pre.length : Int)))) (g : MH) :
    aCons (eOp mIx (eVar 1) (eVar 4)) (aCons (eOp mEq (eCutV (eVar 1) (pSo (eOp mAddV (eVar 4) (eC (.int 1)))) (pSo (eOp mAddV (eVar 4) (eC (.int 2))))) (eTup (aCons (eC v_BACK) (aNil)))) (aNil)) s g = .ok [.str k.t, .bl (isSlip ks)] g := by
  have a : eOp mIx (eVar 1) (eVar 4) s g = .ok (.str k.t) g := by simp [h1, h4, ixk]
  rw [aCons_ap, a, bind_ok, aCons_ap, slipX pre ks k hk h1 h4 g]
  rfl
theorem sign1 {c : Nat} (hc : sgn c = true) (g : MH) : m_is_sign [.str [c]] g = .ok (.bl true) g := by rw [is_sign_one, hc]
theorem mn0 (sl hw bh : Bool) (g : MH) : mIx (mnV sl hw bh) (.int 0) g = some (.bl sl, g) := rfl
theorem mn1 (sl hw bh : Bool) (g : MH) : mIx (mnV sl hw bh) (.int 1) g = some (.bl hw, g) := rfl
theorem mn2 (sl hw bh : Bool) (g : MH) : mIx (mnV sl hw bh) (.int 2) g = some (.bl bh, g) := rfl
theorem typed_loop {sl hw bh : Bool} {n : Nat} {ks : List Ky} {t : CP} (y : Typ sl ks t) : ∀ (pre : List Ky) (r r' : Rg) (x : CP) (h : MH) (m : Nat) (y5 y6 : Option MV), RgAt h n hw r → readAll hw t r = some r' → r.needs.length + ks.length ≤ 9000 → pre.length + ks.length ≤ 9000 → x.length + ks.length ≤ 9000 → ks.length < m →
    ∃ z5 z6 h', whileM tyC tyB m [some (mnV sl hw bh), some (ksV (pre ++ ks)), some (.ref n), some (.str x), some (.int (pre.length : Int)), y5, y6] h = .nx [some (mnV sl hw bh), some (ksV (pre ++ ks)), some (.ref n), some (.str (x ++ t)), some (.int ((pre ++ ks).length : Int)), z5, z6] h' ∧ RgAt h' n hw r' := by
  induction y with
  | nil =>
    intro pre r r' x h m y5 y6 p hr h1 h2 h3 hm
    cases m with
    | zero => simp at hm
    | succ m =>
      refine ⟨y5, y6, h, ?_, by simp [readAll] at hr; rw [← hr]; exact p⟩
      rw [whileM_succ]
      simp [tyC, len_tup, ksV, lt_int]
  | @slip c ks t hs hc hy ih =>
    intro pre r r' x h m y5 y6 p hr h1 h2 h3 hm
    simp only [List.length_cons] at h1 h2 h3 hm
    cases m with
    | zero => omega
    | succ m =>
      have e : pre ++ Ky.sg c :: Ky.back :: ks = (pre ++ [Ky.sg c, Ky.back]) ++ ks := by simp
      obtain ⟨z5, z6, h', e1, q⟩ := ih (pre ++ [.sg c, .back]) r r' x h m (some (.str [c])) (some (.bl true)) p hr (by omega) (by simp; omega) (by omega) (by omega)
      refine ⟨z5, z6, h', ?_, q⟩
      have c0 : tyC [some (mnV sl hw bh), some (ksV (pre ++ Ky.sg c :: Ky.back :: ks)), some (.ref n), some (.str x), some (.int (pre.length : Int)), y5, y6] h = .ok true h := by
        simp [tyC, len_tup, ksV, lt_int]
        omega
      have b0 : tyB [some (mnV sl hw bh), some (ksV (pre ++ Ky.sg c :: Ky.back :: ks)), some (.ref n), some (.str x), some (.int (pre.length : Int)), y5, y6] h = .nx [some (mnV sl hw bh), some (ksV (pre ++ Ky.sg c :: Ky.back :: ks)), some (.ref n), some (.str x), some (.int ((pre ++ [Ky.sg c, Ky.back]).length : Int)), some (.str [c]), some (.bl true)] h := by
        have ix := ixk pre (.back :: ks) (.sg c) h
        have sx := pairX (s := [some (mnV sl hw bh), some (ksV (pre ++ Ky.sg c :: Ky.back :: ks)), some (.ref n), some (.str x), some (.int (pre.length : Int)), y5, y6]) pre (.back :: ks) (.sg c) (fun k hk => by
          rcases List.mem_cons.mp hk with rfl | hk
          · rfl
          · exact hy.ok k hk) rfl rfl h
        have sg := sign1 hc h
        subst hs
        unfold tyB
        rw [sSeq_ap, sPar_ap, sx]
        simp [Ky.t, isSlip, sg, mn0, iadd_int]
      rw [whileM_succ, c0, bindS_ok, if_pos rfl, b0]
      simp only
      rw [e]
      exact e1
  | @key c ks t hc hy ih =>
    intro pre r r' x h m y5 y6 p hr h1 h2 h3 hm
    simp only [List.length_cons] at h1 h2 h3 hm
    cases m with
    | zero => omega
    | succ m =>
      have e : pre ++ Ky.sg c :: ks = (pre ++ [Ky.sg c]) ++ ks := by simp
      have hcan : r.can c = true := by
        cases z : r.can c with
        | true => rfl
        | false => simp [readAll, z] at hr
      simp only [readAll, hcan, if_true] at hr
      have sl1 := step_len hw r c
      have gs : ∀ o, (h.set n o)[n]? = some o := fun o => List.getElem?_set_self (get_lt p.o)
      obtain ⟨z5, z6, h', e1, q⟩ := ih (pre ++ [.sg c]) (r.step hw c) r' (x ++ [c]) (h.set n (rgO hw (r.step hw c))) m (some (.str [c])) (some (.bl false)) ⟨gs _⟩ hr (by omega) (by simp; omega) (by simp; omega) (by omega)
      refine ⟨z5, z6, h', ?_, q⟩
      have c0 : tyC [some (mnV sl hw bh), some (ksV (pre ++ Ky.sg c :: ks)), some (.ref n), some (.str x), some (.int (pre.length : Int)), y5, y6] h = .ok true h := by
        simp [tyC, len_tup, ksV, lt_int]
        omega
      have b0 : tyB [some (mnV sl hw bh), some (ksV (pre ++ Ky.sg c :: ks)), some (.ref n), some (.str x), some (.int (pre.length : Int)), y5, y6] h = .nx [some (mnV sl hw bh), some (ksV (pre ++ Ky.sg c :: ks)), some (.ref n), some (.str (x ++ [c])), some (.int ((pre ++ [Ky.sg c]).length : Int)), some (.str [c]), some (.bl false)] (h.set n (rgO hw (r.step hw c))) := by
        have ix := ixk pre ks (.sg c) h
        have sx := pairX (s := [some (mnV sl hw bh), some (ksV (pre ++ Ky.sg c :: ks)), some (.ref n), some (.str x), some (.int (pre.length : Int)), y5, y6]) pre ks (.sg c) hy.ok rfl rfl h
        rw [hy.noSlip] at sx
        have sg := sign1 hc h
        have ca := can_ok p (by omega) c
        have re := read_ok p (by omega) c
        rw [hcan] at ca
        have ia : ∀ g, mIAdd (.str x) (.str [c]) g = some (.str (x ++ [c]), g) := fun g => by
          have : x.length + 1 ≤ 16777216 := by omega
          simp [mIAdd, mAdd, Pg.szs, this]
        unfold tyB
        rw [sSeq_ap, sPar_ap, sx]
        simp [Ky.t, sg, mn0, iadd_int, p.o, ca, re, ia]
      rw [whileM_succ, c0, bindS_ok, if_pos rfl, b0]
      simp only
      rw [e, show x ++ c :: t = (x ++ [c]) ++ t by simp]
      exact e1
theorem typed_in_ok {sl hw bh : Bool} {ks : List Ky} {t : CP} (y : Typ sl ks t) (hl : ks.length ≤ 8000) {r' : Rg} (hr : readAll hw t r0 = some r') (hw' : (r'.needs.isEmpty && !r'.op) = true) (g : MH) : ∃ h', m_typed_in [mnV sl hw bh, ksV ks] g = .ok (.tup [.str t, .non]) h' := by
  have p0 : RgAt (g ++ [rgO hw r0]) g.length hw r0 := ⟨by simp [rgO]⟩
  obtain ⟨z5, z6, h', e1, q⟩ := typed_loop (bh := bh) y [] r0 r' [] (g ++ [rgO hw r0]) bigF none none p0 hr (by simp [r0]; omega) (by simp; omega) (by simp; omega) (by unfold bigF; omega)
  refine ⟨h', ?_⟩
  have wh := whole_ok q
  rw [hw'] at wh
  have ne := rg_new hw g
  have mk : eMake n_Reading 2 m_Reading___init__ (aCons (eOp mIx (eVar 0) (eC (.int 1))) (aNil)) [some (mnV sl hw bh), some (ksV ks), none, none, none, none, none] g = .ok (.ref g.length) (g ++ [rgO hw r0]) := by
    simp [mn1, ne]
  simp only [List.nil_append, List.length_nil] at e1
  have lp : sWhile tyC tyB [some (mnV sl hw bh), some (ksV ks), some (.ref g.length), some (.str []), some (.int 0), none, none] (g ++ [rgO hw r0]) = .nx [some (mnV sl hw bh), some (ksV ks), some (.ref g.length), some (.str t), some (.int (ks.length : Int)), z5, z6] h' := e1
  have s0 : sPar3 2 3 4 (aCons (eMake n_Reading 2 m_Reading___init__ (aCons (eOp mIx (eVar 0) (eC (.int 1))) (aNil))) (aCons (eC (.str [])) (aCons (eC (.int 0)) (aNil)))) [some (mnV sl hw bh), some (ksV ks), none, none, none, none, none] g = .nx [some (mnV sl hw bh), some (ksV ks), some (.ref g.length), some (.str []), some (.int 0), none, none] (g ++ [rgO hw r0]) := by
    rw [sPar3_ap, aCons_ap, mk]
    simp
  show (match b_typed_in [some (mnV sl hw bh), some (ksV ks), none, none, none, none, none] g with
    | .rt v h' => R.ok v h'
    | .nx _ h' => .ok .non h'
    | .err e _ h' => .err e h'
    | _ => .stuck) = _
  rw [typed_in_eq, sSeq_ap, s0]
  simp only
  rw [sSeq_ap]
  show (match (match sWhile tyC tyB [some (mnV sl hw bh), some (ksV ks), some (.ref g.length), some (.str []), some (.int 0), none, none] (g ++ [rgO hw r0]) with
    | .nx s1 h1 => _
    | o => o : SR) with
    | .rt v h' => R.ok v h'
    | .nx _ h' => .ok .non h'
    | .err e _ h' => .err e h'
    | _ => .stuck) = _
  rw [lp]
  simp [wh, Pg.szs]
theorem need_manner_ok (sl hw bh : Bool) (g : MH) : m_need_manner [mnV sl hw bh] g = .ok (mnV sl hw bh) g := by
  cases sl <;> cases hw <;> cases bh <;> rfl
theorem typed_ok {sl hw bh : Bool} {ks : List Ky} {t : CP} (y : Typ sl ks t) (hl : ks.length ≤ 400) {r' : Rg} (hr : readAll hw t r0 = some r') (hw' : (r'.needs.isEmpty && !r'.op) = true) (g : MH) : ∃ h', m_typed [mnV sl hw bh, ksV ks] g = .ok (.str t) h' := by
  obtain ⟨h', e⟩ := typed_in_ok (bh := bh) y (by omega) hr hw' g
  have a := need_manner_ok sl hw bh g
  have b := need_keys_ok y.ok hl g
  refine ⟨h', ?_⟩
  simp [m_typed, b_typed, a, b, e]
  rfl
theorem text_loop (t : MV) (h : MH) : ∀ (l : CP) (i : Nat) (x y : Option MV), (∀ c ∈ l, sgn c = true) → ∃ x' y', forL (gTp 2 (gC (gNm 1) (gC (gNm 2) (gN)))) (sIf (tCmp mNotIn (eVar 2) (eC v_SIGNS)) (sNever) (sNil)) (enumL i (l.map fun c => .str [c])) [some t, x, y] h = .nx [some t, x', y'] h
  | [], i, x, y, _ => ⟨x, y, rfl⟩
  | c :: l, i, x, y, hk => by
    obtain ⟨x', y', e⟩ := text_loop t h l (i + 1) (some (.int (i : Int))) (some (.str [c])) fun d hd => hk d (List.mem_cons_of_mem _ hd)
    refine ⟨x', y', ?_⟩
    have hc := hk c List.mem_cons_self
    unfold sgn at hc
    rw [List.map_cons, enumL, forL]
    have hi : inS [c] SG = true := by rw [inS_one]; exact hc
    unfold v_SIGNS at e ⊢
    simp [hi, e]
theorem need_text_ok {l : CP} (hl : l.length ≤ 200) (hs : ∀ c ∈ l, sgn c = true) (g : MH) : m_need_text [.str l] g = .ok .non g := by
  obtain ⟨x', y', e⟩ := text_loop (.str l) g l 0 none none hs
  have ln := len_str (l := l) (by omega) g
  have gt : mGt (.int (l.length : Int)) (.int 200) g = some (.bl false, g) := by
    simp [mGt]
    omega
  simp [m_need_text, b_need_text, isi_str, isTy, ln, v_MOST_TEXT, gt, e]
theorem need_behind_ok {sl hw bh : Bool} {l : CP} (hl : l.length ≤ 200) (hs : ∀ c ∈ l, sgn c = true) (hb : l = [] ∨ bh = true) (g : MH) : m_need_behind [mnV sl hw bh, .str l] g = .ok .non g := by
  have e := need_text_ok hl hs g
  rcases hb with rfl | rfl
  · simp [m_need_behind, b_need_behind, e]
  · cases l with
    | nil => simp [m_need_behind, b_need_behind, e]
    | cons a l => simp [m_need_behind, b_need_behind, e, mn2]
/-- what stands behind at the end -/
def leftV (B : Bk) (f : CP) (ks : List Ky) : CP := (pressAll B ks [] (rtOf 0 f [])).2.map (·.1)
theorem behind_all_ok {B : Bk} {f : CP} {ks : List Ky} (hf : f.length ≤ 200) (hl : ks.length ≤ 400) (g : MH) : ∃ h', m_behind_all [B.v, .str f, ksV ks] g = .ok (.str (leftV B f ks)) h' := by
  obtain ⟨h', e, p, fr⟩ := page_new (l := []) (f := f) (os := []) (by omega) g
  have e' : eMake n_Page 2 m_Page___init__ (aCons (eTup (aCons (eC (.str [])) (aCons (eVar 1) (aCons (eTup (aNil)) (aNil))))) (aNil)) [some B.v, some (.str f), some (ksV ks), none, none] g = .ok (.ref g.length) h' := by
    simpa [Pg.szs] using e
  obtain ⟨h2, k2, x2, e2, p2, _, _⟩ := press_loop B [some B.v, some (.str f), some (ksV ks), some (.ref g.length), none] 3 0 4 g.length rfl rfl ⟨by decide, by decide⟩ (by simp) ks h' (g.length + 1) [] (rtOf 0 f []) none p (by rw [rtOf_len]; simp; omega)
  have hpl := pressAll_len B ks [] (rtOf 0 f [])
  rw [rtOf_len] at hpl
  simp only [List.length_nil] at hpl
  have td := right_text_ok p2 (by omega)
  refine ⟨h2, ?_⟩
  simp only [List.set] at e2
  unfold ksV at e2 e' ⊢
  simp [-eMake_ap, m_behind_all, b_behind_all, e', e2, p2.pg, td, leftV]
theorem left_over_ok {B : Bk} (bo : B.Ok) {sl hw bh : Bool} {f : CP} {ks : List Ky} {t : CP} (hf : f.length ≤ 200) (hs : ∀ c ∈ f, sgn c = true) (hb : f = [] ∨ bh = true) (y : Typ sl ks t) (hl : ks.length ≤ 400) {r' : Rg} (hr : readAll hw t r0 = some r') (hw' : (r'.needs.isEmpty && !r'.op) = true) (g : MH) :
    ∃ h', m_left_over [B.v, mnV sl hw bh, .str f, ksV ks] g = .ok (.str (leftV B f ks)) h' := by
  obtain ⟨h1, e1⟩ := typed_ok (bh := bh) y hl hr hw' g
  obtain ⟨h2, e2⟩ := behind_all_ok (B := B) (ks := ks) hf hl h1
  refine ⟨h2, ?_⟩
  have a := need_book_ok bo g
  have b := need_manner_ok sl hw bh g
  have c := need_behind_ok (sl := sl) (hw := hw) hf hs hb g
  simp [m_left_over, b_left_over, a, b, c, e1, e2]
theorem harms_ok {B : Bk} (bo : B.Ok) {sl hw bh : Bool} {f : CP} {ks : List Ky} {t : CP} (hf : f.length ≤ 200) (hs : ∀ c ∈ f, sgn c = true) (hb : f = [] ∨ bh = true) (y : Typ sl ks t) (hl : ks.length ≤ 400) {r' : Rg} (hr : readAll hw t r0 = some r') (hw' : (r'.needs.isEmpty && !r'.op) = true) (g : MH) :
    ∃ h', m_harms [B.v, mnV sl hw bh, .str f, ksV ks] g = .ok (.bl (leftV B f ks != f)) h' := by
  obtain ⟨h1, e1⟩ := left_over_ok bo hf hs hb y hl hr hw' g
  refine ⟨h1, ?_⟩
  simp [m_harms, b_harms, e1, bne]
theorem bel_ks (ks : List Ky) : below 0 (ksV ks) = true := by
  unfold ksV
  simp only [below]
  induction ks with
  | nil => rfl
  | cons a ks ih => simp [belowL, below, ih]
theorem pure_of {m : MF} {as : List MV} {v : MV} (ha : belowL 0 as = true) (hv : below 0 v = true) (e : ∃ h', m as [] = .ok v h') (g : MH) : pureV m as g = .ok v g := by
  obtain ⟨h', e⟩ := e
  unfold pureV
  rw [if_pos ha, e]
  cases v with
  | ref n => simp [below] at hv
  | _ => simp only [pureRV, pureR, hv, if_true]
end MP.Pg

/-! the law's own reading (k05, k09) -/
namespace MP.Q9
open PySem L2 MP MP.Pg MP.Le
def b_law_need_of_0 : MS := sPar3 2 3 4 (aCons (eLst (aNil)) (aCons (eC (.bl false)) (aCons (eC (.str [])) (aNil))))
def b_law_need_of_1_b_0 : MS := sAsg (eAnd (eOp mNe (eVar 2) (eLstV (aNil))) (eOp mEq (eOp mIx (eVar 2) (eNeg (eC (.int 1)))) (eC (.str [39])))) (gNm 7)
def b_law_need_of_1_b_1 : MS := sIf (tOrM (tAndM (tVal (eVar 7)) (tCmp mEq (eVar 6) (eC (.str [47])))) (tAndM (tVal (eVar 3)) (tNotM (tB (eChain mLe mLe (eC (.str [97])) (eVar 6) (eC (.str [122]))))))) (sRet (eTup (aCons (eBm .str mJoin (eC (.str [])) (aCons (eRevV (eVar 2)) (aNil))) (aCons (eVar 3) (aCons (eVar 5) (aNil)))))) (sNil)
def b_law_need_of_1_b_2 : MS := sIf (tAndM (tNotM (tVal (eVar 7))) (tAndM (tCmp mIn (eVar 6) (eC (.str [41, 93]))) (tOrM (tCmp mEq (eVar 2) (eLstV (aNil))) (tCmp mNe (eOp mIx (eVar 2) (eNeg (eC (.int 1)))) (eVar 6))))) (sRet (eTup (aCons (eBm .str mJoin (eC (.str [])) (aCons (eRevV (eVar 2)) (aNil))) (aCons (eVar 3) (aCons (eVar 5) (aNil)))))) (sNil)
def b_law_need_of_1_b_3 : MS := sAsg (eAnd (eOp mIx (eVar 0) (eC (.int 1))) (eAnd (eNot (eVar 7)) (eAnd (eOp mEq (eVar 6) (eC (.str [39]))) (eChain mLe mLe (eC (.str [97])) (eVar 4) (eC (.str [122])))))) (gNm 3)
def b_law_need_of_1_b_4 : MS := sIf (tOrM (tAndM (tVal (eVar 7)) (tCmp mEq (eVar 6) (eC (.str [39])))) (tAndM (tNotM (tVal (eVar 7))) (tCmp mIn (eVar 6) (eC (.str [41, 93]))))) (sExpr (eBm .list mPop (eVar 2) aNil)) (sIf (tAndM (tNotM (tVal (eVar 7))) (tAndM (tNotM (tVal (eVar 3))) (tCmp mIn (eVar 6) (eC (.str [40, 91, 39]))))) (sExpr (eBm .list mAppend (eVar 2) (aCons (eDg [(eC (.str [40]), eC (.str [41])), (eC (.str [91]), eC (.str [93])), (eC (.str [39]), eC (.str [39]))] (eVar 6)) (aNil)))) (sNil))
def b_law_need_of_1_b : MS := sSeq (b_law_need_of_1_b_0) (sSeq (b_law_need_of_1_b_1) (sSeq (b_law_need_of_1_b_2) (sSeq (b_law_need_of_1_b_3) (sSeq (b_law_need_of_1_b_4) (sAsg (eVar 6) (gNm 4))))))
def b_law_need_of_1 : MS := sFor (jEnum (aCons (eVar 1) (aNil))) (gTp 2 (gC (gNm 5) (gC (gNm 6) (gN)))) (b_law_need_of_1_b)
def b_law_need_of_2 : MS := sRet (eTup (aCons (eBm .str mJoin (eC (.str [])) (aCons (eRevV (eVar 2)) (aNil))) (aCons (eVar 3) (aCons (eC .non) (aNil)))))
def b_law_need_of : MS := sSeq (b_law_need_of_0) (sSeq (b_law_need_of_1) (b_law_need_of_2))
def m_law_need_of : MF := pureV (runFn 8 b_law_need_of)
def stV (l : CP) : List MV := l.map fun c => .str [c]
def RgI (r : Rg) : Prop := r.op = true → r.q = false
theorem RgI.step {r : Rg} (i : RgI r) (hw : Bool) (c : Nat) : RgI (r.step hw c) := by
  unfold RgI Rg.step
  cases hq : r.q with
  | true =>
    have : r.op = false := by
      cases ho : r.op with
      | false => rfl
      | true => have := i ho; rw [hq] at this; cases this
    simp [this]
  | false =>
    simp only [Bool.false_eq_true, if_false]
    split
    · intro _
      exact hq
    · intro z
      cases z
def sl0 (hw sl bh : Bool) (l : MV) (r : Rg) (x5 x6 x7 : Option MV) : Sl := [some (mnV sl hw bh), some l, some (.ref 0), some (.bl r.op), some (.str (oT r.bef)), x5, x6, x7]
def hp0 (r : Rg) : MH := [.lst (stV r.needs)]
theorem rev_st {s : Sl} (r : Rg) (h2 : s[2]? = some (some (.ref 0))) (hl : r.needs.length ≤ 9999) : eBm .str mJoin (eC (.str [])) (aCons (eRevV (eVar 2)) (aNil)) s (hp0 r) = .ok (.str r.needs.reverse) (hp0 r) := by
  have e : eRevV (eVar 2) s (hp0 r) = .ok (.lv (r.needs.reverse.map fun c => .str [c])) (hp0 r) := by
    simp [eRevV, h2, hp0, stV, lstV, lstAt, List.map_reverse]
  have j := Ld.joinSigns (l := r.needs.reverse) (by simp; omega) (hp0 r)
  rw [eBm_ap, eC_ap, bind_ok, if_pos (by rfl), aCons_ap, e, bind_ok, aNil_ap, bind_ok, bind_ok, j]
  rfl
theorem rng_ok (o : Option Nat) (s : Sl) (i : Nat) (hi : s[i]? = some (some (.str (oT o)))) (g : MH) : eChain mLe mLe (eC (.str [97])) (eVar i) (eC (.str [122])) s g = .ok (.bl (o.elim false letter)) g := by
  rw [← Q3.letter_chain o]
  cases h5 : decide (oT o < [97]) <;> simp [hi, mLe, h5]
theorem lstAt0 (r : Rg) : lstAt (hp0 r) 0 = some (stV r.needs) := rfl
theorem lastC (r : Rg) : (∃ c, r.needs.getLast? = some c ∧ mEqv (.ref 0) (.lv []) (hp0 r) = some false ∧ mIx (.ref 0) (.int (-1)) (hp0 r) = some (.str [c], hp0 r)) ∨ (r.needs = [] ∧ mEqv (.ref 0) (.lv []) (hp0 r) = some true) := by
  rcases List.eq_nil_or_concat r.needs with e | ⟨l, c, e⟩
  · right
    refine ⟨e, ?_⟩
    rw [eqv_refN (lstAt0 r), e]
    rfl
  · left
    rw [List.concat_eq_append] at e
    refine ⟨c, by rw [e]; simp, ?_, ?_⟩
    · rw [eqv_refN (lstAt0 r), e]
      simp [stV]
    · simp only [mIx, lstAt0]
      rw [e]
      have : stV (l ++ [c]) = stV l ++ [.str [c]] := by simp [stV]
      rw [this, atI_last]
      rfl
section
variable {hw sl bh : Bool} {t : MV} {r : Rg} {c : Nat} {x7 : Option MV} {pl : MV}
theorem n0 : b_law_need_of_1_b_0 (sl0 hw sl bh t r (some pl) (some (.str [c])) x7) (hp0 r) = .nx (sl0 hw sl bh t r (some pl) (some (.str [c])) (some (.bl r.q))) (hp0 r) := by
  rcases lastC r with ⟨d, e, h1, h2⟩ | ⟨e, h1⟩
  · have : r.q = (d == 39) := by simp [Rg.q, e]
    rw [this]
    simp [b_law_need_of_1_b_0, sl0, mNe, h1, h2]
  · have : r.q = false := by simp [Rg.q, e]
    rw [this]
    simp [b_law_need_of_1_b_0, sl0, mNe, h1]
def stopV (r : Rg) (pl : MV) : MV := .tup [.str r.needs.reverse, .bl r.op, pl]
theorem t1 : (tOrM (tAndM (tVal (eVar 7)) (tCmp mEq (eVar 6) (eC (.str [47])))) (tAndM (tVal (eVar 3)) (tNotM (tB (eChain mLe mLe (eC (.str [97])) (eVar 6) (eC (.str [122]))))))) (sl0 hw sl bh t r (some pl) (some (.str [c])) (some (.bl r.q))) (hp0 r) = .ok (r.q && c == 47 || r.op && !letter c) (hp0 r) := by
  have rg := rng_ok (some c) (sl0 hw sl bh t r (some pl) (some (.str [c])) (some (.bl r.q))) 6 rfl (hp0 r)
  have e7 : ∀ g, eVar 7 (sl0 hw sl bh t r (some pl) (some (.str [c])) (some (.bl r.q))) g = .ok (.bl r.q) g := fun _ => rfl
  have e6 : ∀ g, eVar 6 (sl0 hw sl bh t r (some pl) (some (.str [c])) (some (.bl r.q))) g = .ok (.str [c]) g := fun _ => rfl
  have e3 : ∀ g, eVar 3 (sl0 hw sl bh t r (some pl) (some (.str [c])) (some (.bl r.q))) g = .ok (.bl r.op) g := fun _ => rfl
  have q1 : (([c] : CP) == [47]) = (c == 47) := by simp
  generalize sl0 hw sl bh t r (some pl) (some (.str [c])) (some (.bl r.q)) = S at *
  cases hq : r.q <;> cases ho : r.op <;> cases h4 : (c == 47) <;> simp [-eVar_ap, -eChain_ap, e7, e6, e3, rg, hq, ho, q1, h4]
theorem t2 : (tAndM (tNotM (tVal (eVar 7))) (tAndM (tCmp mIn (eVar 6) (eC (.str [41, 93]))) (tOrM (tCmp mEq (eVar 2) (eLstV (aNil))) (tCmp mNe (eOp mIx (eVar 2) (eNeg (eC (.int 1)))) (eVar 6))))) (sl0 hw sl bh t r (some pl) (some (.str [c])) (some (.bl r.q))) (hp0 r) = .ok (!r.q && ((c == 41 || c == 93) && !(r.needs.getLast? == some c))) (hp0 r) := by
  have e7 : ∀ g, eVar 7 (sl0 hw sl bh t r (some pl) (some (.str [c])) (some (.bl r.q))) g = .ok (.bl r.q) g := fun _ => rfl
  have e6 : ∀ g, eVar 6 (sl0 hw sl bh t r (some pl) (some (.str [c])) (some (.bl r.q))) g = .ok (.str [c]) g := fun _ => rfl
  have e2 : ∀ g, eVar 2 (sl0 hw sl bh t r (some pl) (some (.str [c])) (some (.bl r.q))) g = .ok (.ref 0) g := fun _ => rfl
  have q1 : inS [c] [41, 93] = (c == 41 || c == 93) := by rw [inS_one, Bool.eq_iff_iff]; simp
  generalize sl0 hw sl bh t r (some pl) (some (.str [c])) (some (.bl r.q)) = S at *
  cases hq : r.q with
  | true => simp [-eVar_ap, e7, hq]
  | false =>
    cases h4 : (c == 41 || c == 93) with
    | false => simp [-eVar_ap, e7, e6, hq, q1, h4]
    | true =>
      rcases lastC r with ⟨d, e, h1, h2⟩ | ⟨e, h1⟩
      · have q2 : (([d] : CP) == [c]) = (d == c) := by simp
        simp [-eVar_ap, e7, e6, e2, hq, q1, h4, h1, h2, e, q2]
      · simp [-eVar_ap, e7, e6, e2, hq, q1, h4, h1, e]
theorem cant (i : RgI r) : (!r.can c) = (r.q && c == 47 || r.op && !letter c || !r.q && ((c == 41 || c == 93) && !(r.needs.getLast? == some c))) := by
  unfold Rg.can
  cases hq : r.q with
  | true =>
    have : r.op = false := by
      cases ho : r.op with
      | false => rfl
      | true => have := i ho; rw [hq] at this; cases this
    simp [this, bne]
  | false =>
    cases ho : r.op with
    | false => simp
    | true =>
      cases hl : letter c with
      | false => simp [hl]
      | true =>
        have h41 : (c == 41 || c == 93) = false := by
          simp [letter] at hl
          simp
          omega
        simp [hl, h41]
theorem n12 {b : MS} (i : RgI r) (hl : r.needs.length ≤ 9999) (hc : r.can c = false) : sSeq b_law_need_of_1_b_1 (sSeq b_law_need_of_1_b_2 b) (sl0 hw sl bh t r (some pl) (some (.str [c])) (some (.bl r.q))) (hp0 r) = .rt (stopV r pl) (hp0 r) := by
  have rv := rev_st (s := sl0 hw sl bh t r (some pl) (some (.str [c])) (some (.bl r.q))) r rfl hl
  have ret : sRet (eTup (aCons (eBm .str mJoin (eC (.str [])) (aCons (eRevV (eVar 2)) (aNil))) (aCons (eVar 3) (aCons (eVar 5) (aNil))))) (sl0 hw sl bh t r (some pl) (some (.str [c])) (some (.bl r.q))) (hp0 r) = .rt (stopV r pl) (hp0 r) := by
    rw [sRet_ap, eTup_ap, aCons_ap, rv]
    simp [sl0, stopV, Pg.szs]
  have ca := cant (c := c) i
  rw [hc] at ca
  rw [sSeq_ap]
  unfold b_law_need_of_1_b_1
  rw [sIf_ap, t1, bindS_ok]
  cases h1 : (r.q && c == 47 || r.op && !letter c) with
  | true =>
    rw [if_pos rfl, ret]
  | false =>
    rw [h1] at ca
    rw [if_neg (by decide), sNil_ap]
    simp only
    rw [sSeq_ap]
    unfold b_law_need_of_1_b_2
    rw [sIf_ap, t2, bindS_ok, if_pos (by simpa using ca.symm), ret]
theorem n12' {b : MS} (i : RgI r) (hc : r.can c = true) : sSeq b_law_need_of_1_b_1 (sSeq b_law_need_of_1_b_2 b) (sl0 hw sl bh t r (some pl) (some (.str [c])) (some (.bl r.q))) (hp0 r) = b (sl0 hw sl bh t r (some pl) (some (.str [c])) (some (.bl r.q))) (hp0 r) := by
  have ca := cant (c := c) i
  rw [hc] at ca
  have ca' : (r.q && c == 47 || r.op && !letter c) = false ∧ (!r.q && ((c == 41 || c == 93) && !(r.needs.getLast? == some c))) = false := by
    cases h1 : (r.q && c == 47 || r.op && !letter c) <;> cases h2 : (!r.q && ((c == 41 || c == 93) && !(r.needs.getLast? == some c))) <;> simp [h1, h2] at ca ⊢
  rw [sSeq_ap]
  unfold b_law_need_of_1_b_1
  rw [sIf_ap, t1, bindS_ok, ca'.1, if_neg (by decide), sNil_ap]
  simp only
  rw [sSeq_ap]
  unfold b_law_need_of_1_b_2
  rw [sIf_ap, t2, bindS_ok, ca'.2, if_neg (by decide), sNil_ap]
theorem dg6 {q : Nat} {h : MH} (hc : closerN c = some q) (s : Sl) (hs : s[6]? = some (some (.str [c]))) : eDg [(eC (.str [40]), eC (.str [41])), (eC (.str [91]), eC (.str [93])), (eC (.str [39]), eC (.str [39]))] (eVar 6) s h = .ok (.str [q]) h := by
  unfold closerN at hc
  split at hc
  · rename_i e
    subst e
    cases hc
    simp [eDg, pairsM, ifs15, keyOf, hs, merge, dPut, dHas, dGet]
  · split at hc
    · rename_i e
      subst e
      cases hc
      simp [eDg, pairsM, ifs15, keyOf, hs, merge, dPut, dHas, dGet]
    · split at hc
      · rename_i e
        subst e
        cases hc
        simp [eDg, pairsM, ifs15, keyOf, hs, merge, dPut, dHas, dGet]
      · cases hc
theorem pop0 {d : Nat} (e : r.needs.getLast? = some d) : mPop (.ref 0) [] (hp0 r) = some (.str [d], [.lst (stV r.needs.dropLast)]) := by
  obtain ⟨l, e'⟩ := List.getLast?_eq_some_iff.mp e
  have : hp0 r = [.lst (stV l ++ [.str [d]])] := by simp [hp0, stV, e']
  rw [this, e', List.dropLast_concat]
  simp [mPop]
theorem app0 (q : Nat) (hl : r.needs.length ≤ 9999) : mAppend (.ref 0) [.str [q]] (hp0 r) = some (.non, [.lst (stV (r.needs ++ [q]))]) := by
  have : r.needs.length + 1 ≤ 16777216 := by omega
  simp [mAppend, hp0, stV, Pg.szs]
  omega
theorem hp0_mk (n : CP) (b : Option Nat) (o : Bool) : hp0 ⟨n, b, o⟩ = [.lst (stV n)] := rfl
theorem rcv0 : isRcv .list (.ref 0) (hp0 r) = true := rfl
/-- the stack behind a sign -/
theorem n345 (i : RgI r) (hl : r.needs.length ≤ 9999) (hc : r.can c = true) : sSeq b_law_need_of_1_b_3 (sSeq b_law_need_of_1_b_4 (sAsg (eVar 6) (gNm 4))) (sl0 hw sl bh t r (some pl) (some (.str [c])) (some (.bl r.q))) (hp0 r) = .nx (sl0 hw sl bh t (r.step hw c) (some pl) (some (.str [c])) (some (.bl r.q))) (hp0 (r.step hw c)) := by
  have q39 : (([c] : CP) == [39]) = (c == 39) := by simp
  have s3 : b_law_need_of_1_b_3 (sl0 hw sl bh t r (some pl) (some (.str [c])) (some (.bl r.q))) (hp0 r) = .nx [some (mnV sl hw bh), some t, some (.ref 0), some (.bl (hw && (!r.q && (c == 39 && r.bef.elim false letter)))), some (.str (oT r.bef)), some pl, some (.str [c]), some (.bl r.q)] (hp0 r) := by
    have rg := rng_ok r.bef (sl0 hw sl bh t r (some pl) (some (.str [c])) (some (.bl r.q))) 4 rfl (hp0 r)
    have e0 : ∀ g, eOp mIx (eVar 0) (eC (.int 1)) (sl0 hw sl bh t r (some pl) (some (.str [c])) (some (.bl r.q))) g = .ok (.bl hw) g := fun _ => rfl
    have e7 : ∀ g, eVar 7 (sl0 hw sl bh t r (some pl) (some (.str [c])) (some (.bl r.q))) g = .ok (.bl r.q) g := fun _ => rfl
    have e6 : ∀ g, eVar 6 (sl0 hw sl bh t r (some pl) (some (.str [c])) (some (.bl r.q))) g = .ok (.str [c]) g := fun _ => rfl
    have ex : (eAnd (eOp mIx (eVar 0) (eC (.int 1))) (eAnd (eNot (eVar 7)) (eAnd (eOp mEq (eVar 6) (eC (.str [39]))) (eChain mLe mLe (eC (.str [97])) (eVar 4) (eC (.str [122])))))) (sl0 hw sl bh t r (some pl) (some (.str [c])) (some (.bl r.q))) (hp0 r) = .ok (.bl (hw && (!r.q && (c == 39 && r.bef.elim false letter)))) (hp0 r) := by
      rw [eAnd_ap, e0, bind_ok]
      generalize sl0 hw sl bh t r (some pl) (some (.str [c])) (some (.bl r.q)) = S at *
      cases hw with
      | false => rfl
      | true => cases hq : r.q <;> cases h4 : (c == 39) <;> simp [-eVar_ap, -eChain_ap, e7, e6, rg, hq, q39, h4]
    unfold b_law_need_of_1_b_3
    rw [sAsg_ap, ex]
    rfl
  rw [sSeq_ap, s3]
  simp only
  have q41 : inS [c] [41, 93] = (c == 41 || c == 93) := by rw [inS_one, Bool.eq_iff_iff]; simp
  have q40 : inS [c] [40, 91, 39] = (closerN c).isSome := by
    rw [inS_one, Bool.eq_iff_iff]
    unfold closerN
    by_cases a : c = 39
    · simp [a]
    · by_cases b : c = 40
      · simp [b]
      · by_cases d : c = 91
        · simp [d]
        · simp [a, b, d]
  cases hq : r.q with
  | true =>
    have hop : r.op = false := by
      cases ho : r.op with
      | false => rfl
      | true => have := i ho; rw [hq] at this; cases this
    have e39 : r.needs.getLast? = some 39 := by simpa [Rg.q] using hq
    cases h4 : (c == 39) with
    | true =>
      have hc39 : c = 39 := by simpa using h4
      subst hc39
      have po := pop0 e39
      have st : r.step hw 39 = ⟨r.needs.dropLast, some 39, false⟩ := by simp [Rg.step, hq, hop]
      rw [st]
      simp [b_law_need_of_1_b_4, po, rcv0, sl0, hp0_mk, oT_some]
    | false =>
      have hc39 : c ≠ 39 := by simpa using h4
      have st : r.step hw c = ⟨r.needs, some c, false⟩ := by simp [Rg.step, hq, hop, hc39]
      rw [st]
      simp [b_law_need_of_1_b_4, q39, h4, sl0, hp0, oT_some]
  | false =>
    cases h41 : (c == 41 || c == 93) with
    | true =>
      have hc41 : c = 41 ∨ c = 93 := by simpa using h41
      have nl : letter c = false := by rcases hc41 with rfl | rfl <;> rfl
      have hop : r.op = false := by
        cases ho : r.op with
        | false => rfl
        | true => simp [Rg.can, hq, ho, nl] at hc
      have el : r.needs.getLast? = some c := by
        simp [Rg.can, hq, hop] at hc
        rcases hc with hc | hc
        · exact absurd hc41 (by omega)
        · exact hc
      have po := pop0 el
      have k0 : closerN c = none := by rcases hc41 with rfl | rfl <;> rfl
      have n39 : c ≠ 39 := by omega
      have st : r.step hw c = ⟨r.needs.dropLast, some c, false⟩ := by simp [Rg.step, hq, k0, hc41, n39]
      rw [st]
      have b39 : (c == 39) = false := by simpa using n39
      simp [b_law_need_of_1_b_4, po, rcv0, sl0, hp0_mk, oT_some, q41, h41, b39]
    | false =>
      have hn41 : ¬ (c = 41 ∨ c = 93) := by simpa using h41
      cases hk : closerN c with
      | none =>
        have b39 : (c == 39) = false := by
          simp only [beq_eq_false_iff_ne]
          intro z
          subst z
          cases hk
        have n39 : c ≠ 39 := by simpa using b39
        have st : r.step hw c = ⟨r.needs, some c, false⟩ := by simp [Rg.step, hq, hk, hn41, n39]
        rw [hk] at q40
        rw [st]
        simp [b_law_need_of_1_b_4, sl0, hp0, oT_some, q41, h41, b39, q40]
      | some q =>
        rw [hk] at q40
        cases hwt : (hw && (c == 39 && r.bef.elim false letter)) with
        | true =>
          have w3 : hw = true ∧ c = 39 ∧ r.bef.elim false letter = true := by simpa using hwt
          have st : r.step hw c = ⟨r.needs, some c, true⟩ := by
            unfold Rg.step
            rw [hq, if_neg (by decide), if_pos ⟨w3.2.1, w3.1, w3.2.2⟩]
          rw [st]
          simp [b_law_need_of_1_b_4, sl0, hp0, oT_some, q41, h41, hwt]
        | false =>
          have w3 : ¬ (c = 39 ∧ hw = true ∧ r.bef.elim false letter = true) := fun ⟨a, b, d⟩ => by simp [a, b, d] at hwt
          have st : r.step hw c = ⟨r.needs ++ [q], some c, false⟩ := by
            unfold Rg.step
            rw [hq, if_neg (by decide), if_neg w3]
            simp [hk, oT_some]
          have ap := app0 (r := r) q hl
          have dg := dg6 (h := hp0 r) hk [some (mnV sl hw bh), some t, some (.ref 0), some (.bl false), some (.str (oT r.bef)), some pl, some (.str [c]), some (.bl false)] rfl
          rw [st]
          simp [b_law_need_of_1_b_4, sl0, hp0_mk, oT_some, q41, h41, hwt, q40, rcv0, dg, ap]
end
theorem body_ok {hw sl bh : Bool} {t : MV} {r : Rg} {c : Nat} {x7 : Option MV} {pl : MV} (i : RgI r) (hl : r.needs.length ≤ 9999) : b_law_need_of_1_b (sl0 hw sl bh t r (some pl) (some (.str [c])) x7) (hp0 r) =
    if r.can c then .nx (sl0 hw sl bh t (r.step hw c) (some pl) (some (.str [c])) (some (.bl r.q))) (hp0 (r.step hw c)) else .rt (stopV r pl) (hp0 r) := by
  unfold b_law_need_of_1_b
  rw [sSeq_ap, n0]
  simp only
  cases hc : r.can c with
  | false => rw [n12 i hl hc]; rfl
  | true => rw [n12' i hc, n345 i hl hc]; rfl
theorem need_loop {hw sl bh : Bool} {t : MV} : ∀ (l : CP) (r : Rg) (i : Nat) (x5 x6 x7 : Option MV), RgI r → r.needs.length + l.length ≤ 9999 →
    (∀ r', readAll hw l r = some r' → RgI r' ∧ ∃ y5 y6 y7, forL (gTp 2 (gC (gNm 5) (gC (gNm 6) (gN)))) b_law_need_of_1_b (enumL i (l.map fun c => .str [c])) (sl0 hw sl bh t r x5 x6 x7) (hp0 r) = .nx (sl0 hw sl bh t r' y5 y6 y7) (hp0 r')) ∧
    (readAll hw l r = none → ∃ (r1 : Rg) (j : Int), forL (gTp 2 (gC (gNm 5) (gC (gNm 6) (gN)))) b_law_need_of_1_b (enumL i (l.map fun c => .str [c])) (sl0 hw sl bh t r x5 x6 x7) (hp0 r) = .rt (stopV r1 (.int j)) (hp0 r1))
  | [], r, i, x5, x6, x7, hi, hl => ⟨fun r' e => by
      simp only [readAll, Option.some.injEq] at e
      subst e
      exact ⟨hi, x5, x6, x7, rfl⟩, fun e => by simp [readAll] at e⟩
  | c :: l, r, i, x5, x6, x7, hi, hl => by
    simp only [List.length_cons] at hl
    have bo := body_ok (hw := hw) (sl := sl) (bh := bh) (t := t) (c := c) (x7 := x7) (pl := .int (i : Int)) hi (by omega)
    have g0 : gTp 2 (gC (gNm 5) (gC (gNm 6) (gN))) (.tup [.int (i : Int), .str [c]]) (sl0 hw sl bh t r x5 x6 x7) (hp0 r) = .ok (sl0 hw sl bh t r (some (.int (i : Int))) (some (.str [c])) x7) (hp0 r) := rfl
    have sl1 := step_len hw r c
    obtain ⟨h1, h2⟩ := need_loop (hw := hw) (sl := sl) (bh := bh) (t := t) l (r.step hw c) (i + 1) (some (.int (i : Int))) (some (.str [c])) (some (.bl r.q)) (hi.step hw c) (by omega)
    cases hc : r.can c with
    | true =>
      rw [hc, if_pos rfl] at bo
      have st : forL (gTp 2 (gC (gNm 5) (gC (gNm 6) (gN)))) b_law_need_of_1_b (enumL i ((c :: l).map fun c => .str [c])) (sl0 hw sl bh t r x5 x6 x7) (hp0 r) = forL (gTp 2 (gC (gNm 5) (gC (gNm 6) (gN)))) b_law_need_of_1_b (enumL (i + 1) (l.map fun c => .str [c])) (sl0 hw sl bh t (r.step hw c) (some (.int (i : Int))) (some (.str [c])) (some (.bl r.q))) (hp0 (r.step hw c)) := by
        rw [List.map_cons, enumL, forL, g0, go_ok, bo]
      rw [st]
      simp only [readAll, hc, if_true]
      exact ⟨h1, h2⟩
    | false =>
      rw [hc, if_neg (by decide)] at bo
      refine ⟨fun r' e => by simp [readAll, hc] at e, fun _ => ⟨r, i, ?_⟩⟩
      rw [List.map_cons, enumL, forL, g0, go_ok, bo]
theorem readAll_len (hw : Bool) : ∀ (l : CP) (r r' : Rg), readAll hw l r = some r' → r'.needs.length ≤ r.needs.length + l.length
  | [], r, r', e => by simp only [readAll, Option.some.injEq] at e; subst e; simp
  | c :: l, r, r', e => by
    simp only [readAll] at e
    split at e
    · have := readAll_len hw l _ r' e
      have := step_len hw r c
      simp only [List.length_cons]
      omega
    · cases e
theorem need_of_ok {hw sl bh : Bool} {l : CP} (hl : l.length ≤ 5000) (g : MH) : (∀ r', readAll hw l r0 = some r' → RgI r' ∧ m_law_need_of [mnV sl hw bh, .str l] g = .ok (.tup [.str r'.needs.reverse, .bl r'.op, .non]) g) ∧
    (readAll hw l r0 = none → ∃ (r1 : Rg) (j : Int), m_law_need_of [mnV sl hw bh, .str l] g = .ok (stopV r1 (.int j)) g) := by
  obtain ⟨h1, h2⟩ := need_loop (hw := hw) (sl := sl) (bh := bh) (t := .str l) l r0 0 none none none (fun z => by cases z) (by simp [r0]; omega)
  have s0 : b_law_need_of_0 [some (mnV sl hw bh), some (.str l), none, none, none, none, none, none] [] = .nx (sl0 hw sl bh (.str l) r0 none none none) (hp0 r0) := by
    simp [b_law_need_of_0, Pg.szs, sl0, hp0, r0, oT, stV]
  have s1 : b_law_need_of_1 (sl0 hw sl bh (.str l) r0 none none none) (hp0 r0) = forL (gTp 2 (gC (gNm 5) (gC (gNm 6) (gN)))) b_law_need_of_1_b (enumL 0 (l.map fun c => .str [c])) (sl0 hw sl bh (.str l) r0 none none none) (hp0 r0) := by
    have j0 : jEnum (aCons (eVar 1) (aNil)) (sl0 hw sl bh (.str l) r0 none none none) (hp0 r0) = .ok (.items (enumL 0 (l.map fun c => .str [c]))) (hp0 r0) := rfl
    unfold b_law_need_of_1
    rw [sFor_ap, j0, bindS_ok, for_items]
  have run : ∀ as, as = [mnV sl hw bh, MV.str l] → runFn 8 b_law_need_of as [] = match b_law_need_of [some (mnV sl hw bh), some (.str l), none, none, none, none, none, none] [] with
    | .rt v h' => R.ok v h'
    | .nx _ h' => .ok .non h'
    | .err e _ h' => .err e h'
    | _ => .stuck := fun as e => by subst e; rfl
  refine ⟨fun r' e => ?_, fun e => ?_⟩
  · obtain ⟨hi, y5, y6, y7, e1⟩ := h1 r' e
    refine ⟨hi, pure_of (by simp [belowL, below, mnV]) (by simp [belowL, below]) ⟨hp0 r', ?_⟩ g⟩
    have hn := readAll_len hw l r0 r' e
    have rv := rev_st (s := sl0 hw sl bh (.str l) r' y5 y6 y7) r' rfl (by simp [r0] at hn; omega)
    rw [run _ rfl]
    unfold b_law_need_of
    rw [sSeq_ap, s0]
    simp only
    rw [sSeq_ap, s1, e1]
    simp only
    unfold b_law_need_of_2
    rw [sRet_ap, eTup_ap, aCons_ap, rv]
    simp [sl0, Pg.szs]
  · obtain ⟨r1, j, e1⟩ := h2 e
    refine ⟨r1, j, pure_of (by simp [belowL, below, mnV]) (by simp [stopV, belowL, below]) ⟨hp0 r1, ?_⟩ g⟩
    rw [run _ rfl]
    unfold b_law_need_of
    rw [sSeq_ap, s0]
    simp only
    rw [sSeq_ap, s1, e1]
end MP.Q9

/-! drawn meant texts (k05, k09), their typings -/
namespace MP.Q9
open PySem L2 MP MP.Pg MP.Le MP.Ld MP.Cm
def b_law_manner : MS := sRet (eTup (aCons (eOp mEq (eCall 2 m_law_draw (aCons (eVar 0) (aCons (eC (.int 2)) (aNil)))) (eC (.int 1))) (aCons (eOp mEq (eCall 2 m_law_draw (aCons (eVar 0) (aCons (eC (.int 2)) (aNil)))) (eC (.int 1))) (aCons (eOp mEq (eCall 2 m_law_draw (aCons (eVar 0) (aCons (eC (.int 2)) (aNil)))) (eC (.int 1))) (aNil)))))
def m_law_manner : MF := trimV (runFn 1 b_law_manner)
def b_law_typing_1_b_0_b : MS := sAsg (eOp mAddV (eVar 3) (eLstV (aCons (eOp mIx (eC (.str [40, 91, 41, 93, 39, 32, 47, 97, 98])) (eCall 2 m_law_draw (aCons (eVar 0) (aCons (eC (.int 9)) (aNil))))) (aCons (eC (.str [98, 97, 99, 107])) (aNil))))) (gNm 3)
def b_law_typing_1_b_0 : MS := sWhile (tAndM (tVal (eOp mIx (eVar 1) (eC (.int 0)))) (tAndM (tCmp mEq (eCall 2 m_law_draw (aCons (eVar 0) (aCons (eC (.int 4)) (aNil)))) (eC (.int 0))) (tCmp mLt (eBlt mLen (aCons (eVar 3) (aNil))) (eC (.int 60))))) (b_law_typing_1_b_0_b)
def b_law_typing_1_b_1 : MS := sAsg (eOp mAddV (eVar 3) (eIf (tCmp mNe (eVar 4) (eC (.str []))) (eLstV (aCons (eVar 4) (aNil))) (eLstV (aNil)))) (gNm 3)
def b_law_typing_1_b : MS := sSeq (b_law_typing_1_b_0) (b_law_typing_1_b_1)
def b_law_typing_1 : MS := sFor (jSeq (eOp mAddV (eBlt mListS (aCons (eVar 2) (aNil))) (eLstV (aCons (eC (.str [])) (aNil))))) (gNm 4) (b_law_typing_1_b)
def b_law_typing_2 : MS := sRet (eBlt mTuple (aCons (eVar 3) (aNil)))
def b_law_typing : MS := sSeq (sAsg (eLstV (aNil)) (gNm 3)) (sSeq (b_law_typing_1) (b_law_typing_2))
def m_law_typing : MF := trimV (runFn 5 b_law_typing)
def b_law_meant_1_b_0 : MS := sAsg (eCall 2 m_law_need_of (aCons (eVar 1) (aCons (eVar 3) (aNil)))) (gTp 3 (gC (gNm 7) (gC (gNm 8) (gC (gNm 9) (gN)))))
def b_law_meant_1_b_1 : MS := sAsg (eIf (tVal (eVar 8)) (eLstV (aCons (eC (.str [97])) (aCons (eC (.str [122])) (aNil)))) (eLstV (aCons (eC (.str [97])) (aCons (eC (.str [122])) (aCons (eC (.str [32])) (aCons (eC (.str [47])) (aCons (eC (.str [40])) (aCons (eC (.str [91])) (aCons (eC (.str [39])) (aCons (eC (.str [39])) (aCons (eC (.str [41])) (aCons (eC (.str [93])) (aCons (eCutV (eVar 7) (pNo) (pSo (eC (.int 1)))) (aCons (eCutV (eVar 7) (pNo) (pSo (eC (.int 1)))) (aNil))))))))))))))) (gNm 5)
def b_law_meant_1_b_2 : MS := sAsg (eOp mIx (eVar 5) (eCall 2 m_law_draw (aCons (eVar 0) (aCons (eBlt mLen (aCons (eVar 5) (aNil))) (aNil))))) (gNm 6)
def b_law_meant_1_b_3 : MS := sIf (tCmp mIs (eOp mIx (eCall 2 m_law_need_of (aCons (eVar 1) (aCons (eOp mAddV (eVar 3) (eVar 6)) (aNil)))) (eC (.int 2))) (eC .non)) (sAsg (eOp mAddV (eVar 3) (eVar 6)) (gNm 3)) (sNil)
def b_law_meant_1_b : MS := sSeq (b_law_meant_1_b_0) (sSeq (b_law_meant_1_b_1) (sSeq (b_law_meant_1_b_2) (b_law_meant_1_b_3)))
def b_law_meant_1 : MS := sFor (jRng1 (aCons (eCall 2 m_law_draw (aCons (eVar 0) (aCons (eOp mAddV (eVar 2) (eC (.int 1))) (aNil)))) (aNil))) (gNm 4) (b_law_meant_1_b)
def b_law_meant_2 : MS := sAsg (eCall 2 m_law_need_of (aCons (eVar 1) (aCons (eVar 3) (aNil)))) (gTp 3 (gC (gNm 7) (gC (gNm 8) (gC (gNm 9) (gN)))))
def b_law_meant_3 : MS := sRet (eOp mAddV (eOp mAddV (eVar 3) (eIf (tVal (eVar 8)) (eC (.str [97])) (eC (.str [])))) (eVar 7))
def b_law_meant : MS := sSeq (sAsg (eC (.str [])) (gNm 3)) (sSeq (b_law_meant_1) (sSeq (b_law_meant_2) (b_law_meant_3)))
def m_law_meant : MF := trimV (runFn 10 b_law_meant)
theorem manner_ok {b : Nat} {u h : MH} (st : S4 (3 + b) u h) : ∃ sl hw bh h', S4 b u h' ∧ m_law_manner [.ref 2] h = .ok (mnV sl hw bh) h' := by
  obtain ⟨j1, h1, _, st1, e1⟩ := (show S4 ((2 + b) + 1) u h from st.mono (by omega)).drawN (k := 2) (by omega)
  obtain ⟨j2, h2, _, st2, e2⟩ := (show S4 ((1 + b) + 1) u h1 from st1.mono (by omega)).drawN (k := 2) (by omega)
  obtain ⟨j3, h3, _, st3, e3⟩ := (show S4 (b + 1) u h2 from st2.mono (by omega)).drawN (k := 2) (by omega)
  have run : runFn 1 b_law_manner [.ref 2] h = .ok (mnV ((j1 : Int) == 1) ((j2 : Int) == 1) ((j3 : Int) == 1)) h3 := by
    have f1 : m_law_draw [.ref 2, .int 2] h = .ok (.int (j1 : Int)) h1 := e1
    have f2 : m_law_draw [.ref 2, .int 2] h1 = .ok (.int (j2 : Int)) h2 := e2
    have f3 : m_law_draw [.ref 2, .int 2] h2 = .ok (.int (j3 : Int)) h3 := e3
    have q : ∀ (i j : Int) (g : MH), mEqv (.int i) (.int j) g = some (i == j) := fun _ _ _ => rfl
    simp [b_law_manner, f1, f2, f3, mEq, q, Pg.szs, mnV]
  obtain ⟨h4, st4, e4⟩ := trim_end (m := runFn 1 b_law_manner) (u := []) st (by simpa using st3) run (by rfl)
  exact ⟨_, _, _, h4, st4, e4⟩
def StkOk (r : Rg) : Prop := ∀ c ∈ r.needs, c = 41 ∨ c = 93 ∨ c = 39
theorem StkOk.step {r : Rg} (s : StkOk r) (hw : Bool) (c : Nat) : StkOk (r.step hw c) := by
  have dl : ∀ d ∈ r.needs.dropLast, d = 41 ∨ d = 93 ∨ d = 39 := fun d hd => s d (List.dropLast_subset _ hd)
  unfold StkOk Rg.step
  split
  · simp only
    split
    · exact dl
    · exact s
  · split
    · exact s
    · simp only
      split
      · intro d hd
        rcases List.mem_append.mp hd with hd | hd
        · exact s d hd
        · unfold closerN at hd
          split at hd
          · simp [oT] at hd; omega
          · split at hd
            · simp [oT] at hd; omega
            · split at hd
              · simp [oT] at hd; omega
              · simp [oT] at hd
      · split
        · exact dl
        · exact s
theorem StkOk.all {hw : Bool} : ∀ (l : CP) (r r' : Rg), StkOk r → readAll hw l r = some r' → StkOk r'
  | [], r, r', s, e => by simp only [readAll, Option.some.injEq] at e; subst e; exact s
  | c :: l, r, r', s, e => by
    simp only [readAll] at e
    split at e
    · exact StkOk.all l _ r' (s.step hw c) e
    · cases e
/-- what is needed closes all -/
theorem closes (hw : Bool) : ∀ (k : Nat) (n : CP) (b : Option Nat), n.length = k → (∀ c ∈ n, c = 41 ∨ c = 93 ∨ c = 39) → ∃ b', readAll hw n.reverse ⟨n, b, false⟩ = some ⟨[], b', false⟩
  | 0, n, b, hn, _ => by
    have : n = [] := List.length_eq_zero_iff.mp hn
    subst this
    exact ⟨b, rfl⟩
  | k + 1, n, b, hn, hc => by
    rcases List.eq_nil_or_concat n with rfl | ⟨l, c, rfl⟩
    · simp at hn
    · rw [List.concat_eq_append] at *
      have hl : l.length = k := by simp at hn; exact hn
      obtain ⟨b', e⟩ := closes hw k l (some c) hl fun d hd => hc d (by simp [hd])
      refine ⟨b', ?_⟩
      have h3 := hc c (by simp)
      rw [List.reverse_append]
      show readAll hw (c :: l.reverse) _ = _
      by_cases h39 : c = 39
      · have ca : (Rg.mk (l ++ [c]) b false).can c = true := by simp [Rg.can, Rg.q, h39]
        have sp : (Rg.mk (l ++ [c]) b false).step hw c = ⟨l, some c, false⟩ := by simp [Rg.step, Rg.q, h39]
        rw [readAll, ca, if_pos rfl, sp]
        exact e
      · have hq : (Rg.mk (l ++ [c]) b false).q = false := by simp [Rg.q, h39]
        have h41 : c = 41 ∨ c = 93 := by omega
        have k0 : closerN c = none := by rcases h41 with rfl | rfl <;> rfl
        have ca : (Rg.mk (l ++ [c]) b false).can c = true := by
          unfold Rg.can
          rw [hq]
          simp
        have sp : (Rg.mk (l ++ [c]) b false).step hw c = ⟨l, some c, false⟩ := by
          unfold Rg.step
          rw [hq]
          simp [h39, k0, h41]
        rw [readAll, ca, if_pos rfl, sp]
        exact e
theorem ended {hw : Bool} {l : CP} {r : Rg} (i : RgI r) (s : StkOk r) (e : readAll hw l r0 = some r) : ∃ r', readAll hw (l ++ (if r.op then [97] else []) ++ r.needs.reverse) r0 = some r' ∧ (r'.needs.isEmpty && !r'.op) = true := by
  rw [readAll_append, readAll_append, e]
  simp only [Option.bind_some]
  cases ho : r.op with
  | true =>
    have hq := i ho
    have ca : r.can 97 = true := by simp [Rg.can, hq, ho]; rfl
    have k0 : closerN 97 = none := rfl
    have sp : r.step hw 97 = ⟨r.needs, some 97, false⟩ := by
      unfold Rg.step
      rw [hq]
      simp [k0]
    obtain ⟨b', e'⟩ := closes hw r.needs.length r.needs (some 97) rfl s
    simp only [if_true, readAll, ca, sp, Option.bind_some, e']
    exact ⟨_, rfl, rfl⟩
  | false =>
    obtain ⟨b', e'⟩ := closes hw r.needs.length r.needs r.bef rfl s
    have er : r = ⟨r.needs, r.bef, false⟩ := by cases r; simp at ho; simp [ho]
    rw [← er] at e'
    simp only [Bool.false_eq_true, if_false, readAll, Option.bind_some, e']
    exact ⟨_, rfl, rfl⟩
def meS (mn mo : MV) (l : CP) (x4 x5 x6 x7 x8 x9 : Option MV) : Sl := [some (.ref 2), some mn, some mo, some (.str l), x4, x5, x6, x7, x8, x9]
def mAlph : List CP := [[97], [122], [32], [47], [40], [91], [39], [39], [41], [93]]
theorem cut1 {n : CP} (hl : n.length ≤ 9999) (h : MH) : mCutV (.str n) none (some 1) h = some (.str (n.take 1), h) := by
  have hs : n.length ≤ 16777216 := by omega
  have := cut_take n 1
  simp only [mCutV, lstV, mCut, Pg.szs, hs, if_true]
  rw [← this]
  rfl
/-- one turn: the text goes on, if it can -/
theorem me_turn {b : Nat} {u h : MH} {hw sl bh : Bool} {l : CP} {r : Rg} (mo : MV) (x4 x5 x6 x7 x8 x9 : Option MV) (st : S4 (1 + b) u h) (hl : l.length ≤ 2000) (hs : ∀ c ∈ l, sgn c = true) (e : readAll hw l r0 = some r) :
    ∃ l' r' y5 y6 y7 y8 y9 h', l'.length ≤ l.length + 1 ∧ (∀ c ∈ l', sgn c = true) ∧ readAll hw l' r0 = some r' ∧ S4 b u h' ∧ b_law_meant_1_b (meS (mnV sl hw bh) mo l x4 x5 x6 x7 x8 x9) h = .nx (meS (mnV sl hw bh) mo l' x4 y5 y6 y7 y8 y9) h' := by
  obtain ⟨hi, en⟩ := (need_of_ok (hw := hw) (sl := sl) (bh := bh) (l := l) (by omega) h).1 r e
  have sk : StkOk r := StkOk.all l r0 r (fun c hc => by simp [r0] at hc) e
  have hn := readAll_len hw l r0 r e
  simp only [r0, List.length_nil, Nat.zero_add] at hn
  have s0 : b_law_meant_1_b_0 (meS (mnV sl hw bh) mo l x4 x5 x6 x7 x8 x9) h = .nx (meS (mnV sl hw bh) mo l x4 x5 x6 (some (.str r.needs.reverse)) (some (.bl r.op)) (some .non)) h := by
    simp [b_law_meant_1_b_0, meS, en]
  have s1 : ∃ row : List CP, 0 < row.length ∧ row.length < 1000 ∧ (∀ w ∈ row, w.length ≤ 1 ∧ ∀ c ∈ w, sgn c = true) ∧ b_law_meant_1_b_1 (meS (mnV sl hw bh) mo l x4 x5 x6 (some (.str r.needs.reverse)) (some (.bl r.op)) (some .non)) h = .nx (meS (mnV sl hw bh) mo l x4 (some (.lv (row.map .str))) x6 (some (.str r.needs.reverse)) (some (.bl r.op)) (some .non)) h := by
    cases ho : r.op with
    | true =>
      refine ⟨[[97], [122]], by decide, by decide, by decide, ?_⟩
      simp [b_law_meant_1_b_1, meS, Pg.szs]
    | false =>
      have c1 := cut1 (n := r.needs.reverse) (by simp; omega) h
      refine ⟨mAlph ++ [r.needs.reverse.take 1, r.needs.reverse.take 1], by simp [mAlph], by simp [mAlph], ?_, ?_⟩
      · have hm : ∀ w ∈ mAlph, w.length ≤ 1 ∧ ∀ c ∈ w, sgn c = true := by decide
        have ht : (r.needs.reverse.take 1).length ≤ 1 ∧ ∀ c ∈ r.needs.reverse.take 1, sgn c = true := by
          refine ⟨by simp; omega, fun c hc => ?_⟩
          have := sk c (by simpa using List.mem_of_mem_take hc)
          rcases this with rfl | rfl | rfl <;> rfl
        intro w hw
        rcases List.mem_append.mp hw with hw | hw
        · exact hm w hw
        · simp only [List.mem_cons, List.not_mem_nil, or_false, or_self] at hw
          subst hw
          exact ht
      · simp [b_law_meant_1_b_1, meS, Pg.szs, c1, mAlph]
  obtain ⟨row, r1, r2, r3, s1⟩ := s1
  obtain ⟨w, h1, hwm, st1, e2⟩ := Q3.pick (i := 5) (j := 0) (s := meS (mnV sl hw bh) mo l x4 (some (.lv (row.map .str))) x6 (some (.str r.needs.reverse)) (some (.bl r.op)) (some .non)) st ⟨r1, r2⟩ rfl rfl
  obtain ⟨w1, w2⟩ := r3 w hwm
  have s2 : b_law_meant_1_b_2 (meS (mnV sl hw bh) mo l x4 (some (.lv (row.map .str))) x6 (some (.str r.needs.reverse)) (some (.bl r.op)) (some .non)) h = .nx (meS (mnV sl hw bh) mo l x4 (some (.lv (row.map .str))) (some (.str w)) (some (.str r.needs.reverse)) (some (.bl r.op)) (some .non)) h1 := by
    unfold b_law_meant_1_b_2
    rw [sAsg_ap]
    have e2' : eOp mIx (eVar 5) (eCall 2 m_law_draw (aCons (eVar 0) (aCons (eBlt mLen (aCons (eVar 5) (aNil))) (aNil)))) (meS (mnV sl hw bh) mo l x4 (some (.lv (row.map .str))) x6 (some (.str r.needs.reverse)) (some (.bl r.op)) (some .non)) h = .ok (.str w) h1 := e2
    rw [e2']
    rfl
  have ad : ∀ g, mAddV (.str l) (.str w) g = some (.str (l ++ w), g) := fun g => by
    have : l.length + w.length ≤ 16777216 := by omega
    simp [mAddV, lstR, mAdd, Pg.szs, this]
  obtain ⟨f1, f2⟩ := need_of_ok (hw := hw) (sl := sl) (bh := bh) (l := l ++ w) (by simp; omega) h1
  cases hr : readAll hw (l ++ w) r0 with
  | some r' =>
    obtain ⟨_, en2⟩ := f1 r' hr
    refine ⟨l ++ w, r', some (.lv (row.map .str)), some (.str w), some (.str r.needs.reverse), some (.bl r.op), some .non, h1, by simp; omega, fun c hc => ?_, hr, st1, ?_⟩
    · rcases List.mem_append.mp hc with hc | hc
      · exact hs c hc
      · exact w2 c hc
    · unfold b_law_meant_1_b
      rw [sSeq_ap, s0]
      simp only
      rw [sSeq_ap, s1]
      simp only
      rw [sSeq_ap, s2]
      simp only
      have i2 : mIx (.tup [.str r'.needs.reverse, .bl r'.op, .non]) (.int 2) h1 = some (.non, h1) := rfl
      have is : mIs .non .non h1 = some (.bl true, h1) := rfl
      simp [b_law_meant_1_b_3, meS, ad, en2, i2, is]
  | none =>
    obtain ⟨r1', j, en2⟩ := f2 hr
    refine ⟨l, r, some (.lv (row.map .str)), some (.str w), some (.str r.needs.reverse), some (.bl r.op), some .non, h1, by omega, hs, e, st1, ?_⟩
    unfold b_law_meant_1_b
    rw [sSeq_ap, s0]
    simp only
    rw [sSeq_ap, s1]
    simp only
    rw [sSeq_ap, s2]
    simp only
    have i2 : mIx (stopV r1' (.int j)) (.int 2) h1 = some (.int j, h1) := rfl
    have is : mIs (.int j) .non h1 = some (.bl false, h1) := rfl
    simp [b_law_meant_1_b_3, meS, ad, en2, i2, is]
theorem me_loop {u : MH} {hw sl bh : Bool} (mo : MV) : ∀ (vs : List MV) (b : Nat) (h : MH) (l : CP) (r : Rg) (x4 x5 x6 x7 x8 x9 : Option MV), S4 (vs.length + b) u h → l.length + vs.length ≤ 2000 → (∀ c ∈ l, sgn c = true) → readAll hw l r0 = some r →
    ∃ l' r' y4 y5 y6 y7 y8 y9 h', l'.length ≤ l.length + vs.length ∧ (∀ c ∈ l', sgn c = true) ∧ readAll hw l' r0 = some r' ∧ S4 b u h' ∧ forL (gNm 4) b_law_meant_1_b vs (meS (mnV sl hw bh) mo l x4 x5 x6 x7 x8 x9) h = .nx (meS (mnV sl hw bh) mo l' y4 y5 y6 y7 y8 y9) h'
  | [], b, h, l, r, x4, x5, x6, x7, x8, x9, st, hl, hs, e => ⟨l, r, x4, x5, x6, x7, x8, x9, h, by simp, hs, e, by simpa using st, rfl⟩
  | v :: vs, b, h, l, r, x4, x5, x6, x7, x8, x9, st, hl, hs, e => by
    simp only [List.length_cons] at st hl
    obtain ⟨l1, r1, y5, y6, y7, y8, y9, h1, a1, a2, a3, a4, a5⟩ := me_turn (b := vs.length + b) (hw := hw) (sl := sl) (bh := bh) mo (some v) x5 x6 x7 x8 x9 (st.mono (by omega)) (by omega) hs e
    obtain ⟨l2, r2, z4, z5, z6, z7, z8, z9, h2, b1, b2, b3, b4, b5⟩ := me_loop (hw := hw) (sl := sl) (bh := bh) mo vs b h1 l1 r1 (some v) y5 y6 y7 y8 y9 a4 (by omega) a2 a3
    refine ⟨l2, r2, z4, z5, z6, z7, z8, z9, h2, by simp only [List.length_cons]; omega, b2, b3, b4, ?_⟩
    rw [forL]
    have g0 : gNm 4 v (meS (mnV sl hw bh) mo l x4 x5 x6 x7 x8 x9) h = .ok (meS (mnV sl hw bh) mo l (some v) x5 x6 x7 x8 x9) h := rfl
    rw [g0, go_ok, a5]
    exact b5
theorem meant_ok {b : Nat} {u h : MH} {hw sl bh : Bool} {most : Nat} (hm : most ≤ 500) (st : S4 (1 + most + b) u h) :
    ∃ t r' h', t.length ≤ 2 * most + 1 ∧ (∀ c ∈ t, sgn c = true) ∧ readAll hw t r0 = some r' ∧ (r'.needs.isEmpty && !r'.op) = true ∧ S4 b u h' ∧ m_law_meant [.ref 2, mnV sl hw bh, .int (most : Int)] h = .ok (.str t) h' := by
  obtain ⟨k, h1, hk, st1, e1⟩ := (show S4 ((most + b) + 1) u h from st.mono (by omega)).drawN (k := most + 1) (by omega)
  have e1' : m_law_draw [.ref 2, .int ((most : Int) + 1)] h = .ok (.int (k : Int)) h1 := by
    rw [show ((most : Int) + 1) = ((most + 1 : Nat) : Int) by omega]; exact e1
  obtain ⟨l, r, y4, y5, y6, y7, y8, y9, h2, a1, a2, a3, a4, a5⟩ := me_loop (hw := hw) (sl := sl) (bh := bh) (u := u) (.int (most : Int)) (MP.upTo 0 k) b h1 [] r0 none none none none none none (by rw [upTo_len]; exact st1.mono (by omega)) (by rw [upTo_len]; simp; omega) (by simp) rfl
  rw [upTo_len] at a1
  simp only [List.length_nil, Nat.zero_add] at a1
  have sk : StkOk r := StkOk.all l r0 r (fun c hc => by simp [r0] at hc) a3
  obtain ⟨hi, en⟩ := (need_of_ok (hw := hw) (sl := sl) (bh := bh) (l := l) (by omega) h2).1 r a3
  have hn := readAll_len hw l r0 r a3
  simp only [r0, List.length_nil, Nat.zero_add] at hn
  obtain ⟨r', w1, w2⟩ := ended hi sk a3
  have run : runFn 10 b_law_meant [.ref 2, mnV sl hw bh, .int (most : Int)] h = .ok (.str (l ++ (if r.op then [97] else []) ++ r.needs.reverse)) h2 := by
    have ad : mAddV (.int (most : Int)) (.int 1) h = some (.int ((most : Int) + 1), h) := rfl
    have j0 : jRng1 (aCons (eCall 2 m_law_draw (aCons (eVar 0) (aCons (eOp mAddV (eVar 2) (eC (.int 1))) (aNil)))) (aNil)) (meS (mnV sl hw bh) (.int (most : Int)) [] none none none none none none) h = .ok (.items (MP.upTo 0 k)) h1 := by
      have hb : -(2 ^ 62) ≤ (k : Int) ∧ (k : Int) < 2 ^ 62 := by omega
      have a0 : aCons (eCall 2 m_law_draw (aCons (eVar 0) (aCons (eOp mAddV (eVar 2) (eC (.int 1))) (aNil)))) (aNil) (meS (mnV sl hw bh) (.int (most : Int)) [] none none none none none none) h = .ok [.int (k : Int)] h1 := by
        simp [meS, ad, e1']
      rw [jRng1_ap, a0, bind_ok]
      simp only [if_pos hb, Int.toNat_natCast]
    have s1 : b_law_meant_1 (meS (mnV sl hw bh) (.int (most : Int)) [] none none none none none none) h = .nx (meS (mnV sl hw bh) (.int (most : Int)) l y4 y5 y6 y7 y8 y9) h2 := by
      unfold b_law_meant_1
      rw [sFor_ap, j0, bindS_ok, for_items]
      exact a5
    have s2 : b_law_meant_2 (meS (mnV sl hw bh) (.int (most : Int)) l y4 y5 y6 y7 y8 y9) h2 = .nx (meS (mnV sl hw bh) (.int (most : Int)) l y4 y5 y6 (some (.str r.needs.reverse)) (some (.bl r.op)) (some .non)) h2 := by
      simp [b_law_meant_2, meS, en]
    have s3 : b_law_meant_3 (meS (mnV sl hw bh) (.int (most : Int)) l y4 y5 y6 (some (.str r.needs.reverse)) (some (.bl r.op)) (some .non)) h2 = .rt (.str (l ++ (if r.op then [97] else []) ++ r.needs.reverse)) h2 := by
      have ads : ∀ (a c : CP) (g : MH), a.length + c.length ≤ 16777216 → mAddV (.str a) (.str c) g = some (.str (a ++ c), g) := fun a c g hh => by
        simp [mAddV, lstR, mAdd, Pg.szs, hh]
      cases ho : r.op with
      | true =>
        have q1 := ads l [97] h2 (by simp; omega)
        have q2 := ads (l ++ [97]) r.needs.reverse h2 (by simp; omega)
        simp only [List.append_assoc, List.cons_append, List.nil_append] at q2
        simp [b_law_meant_3, meS, q1, q2]
      | false =>
        have q1 := ads l [] h2 (by simp; omega)
        have q2 := ads l r.needs.reverse h2 (by simp; omega)
        simp only [List.append_nil] at q1
        simp [b_law_meant_3, meS, q1, q2]
    show (match b_law_meant [some (.ref 2), some (mnV sl hw bh), some (.int (most : Int)), none, none, none, none, none, none, none] h with
      | .rt v h' => R.ok v h'
      | .nx _ h' => .ok .non h'
      | .err e _ h' => .err e h'
      | _ => .stuck) = _
    have s0 : sAsg (eC (.str [])) (gNm 3) [some (.ref 2), some (mnV sl hw bh), some (.int (most : Int)), none, none, none, none, none, none, none] h = .nx (meS (mnV sl hw bh) (.int (most : Int)) [] none none none none none none) h := rfl
    unfold b_law_meant
    rw [sSeq_ap, s0]
    simp only
    rw [sSeq_ap, s1]
    simp only
    rw [sSeq_ap, s2]
    simp only
    rw [s3]
  obtain ⟨h3, st3, e3⟩ := trim_end (m := runFn 10 b_law_meant) (u := []) st (by simpa using a4) run (by rfl)
  refine ⟨_, r', h3, ?_, ?_, w1, w2, st3, e3⟩
  · cases r.op <;> simp <;> omega
  · intro c hc
    rcases List.mem_append.mp hc with hc | hc
    · rcases List.mem_append.mp hc with hc | hc
      · exact a2 c hc
      · cases ho : r.op <;> simp [ho] at hc
        subst hc
        rfl
    · have := sk c (by simpa using hc)
      rcases this with rfl | rfl | rfl <;> rfl
end MP.Q9

/-! drawn typings (k09) -/
namespace MP.Q9
open PySem L2 MP MP.Pg MP.Le MP.Ld MP.Cm
def rowV (ks : List Ky) : MV := .lv (ks.map fun k => .str k.t)
def tyS (mn t : MV) (ks : List Ky) (x4 : Option MV) : Sl := [some (.ref 2), some mn, some t, some (rowV ks), x4]
def slAlph : CP := [40, 91, 41, 93, 39, 32, 47, 97, 98]
theorem addR (ks ks' : List Ky) (hl : ks.length + ks'.length ≤ 9999) (g : MH) : mAddV (rowV ks) (rowV ks') g = some (rowV (ks ++ ks'), g) := by
  have : ks.length + ks'.length ≤ 16777216 := by omega
  simp [mAddV, rowV, lstR, Pg.szs, this]
def tyW : MT := tAndM (tVal (eOp mIx (eVar 1) (eC (.int 0)))) (tAndM (tCmp mEq (eCall 2 m_law_draw (aCons (eVar 0) (aCons (eC (.int 4)) (aNil)))) (eC (.int 0))) (tCmp mLt (eBlt mLen (aCons (eVar 3) (aNil))) (eC (.int 60))))
theorem ty_while {u : MH} {hw sl bh : Bool} (t : MV) (x4 : Option MV) {t0 : CP} : ∀ (k : Nat) (ks : List Ky) (b : Nat) (h : MH) (f : Nat), Typ sl ks t0 → S4 (2 * k + 1 + b) u h → 60 ≤ ks.length + k → ks.length ≤ 900 → k < f →
    ∃ ks' h', Typ sl ks' t0 ∧ ks'.length ≤ max ks.length 61 ∧ S4 b u h' ∧ whileM tyW b_law_typing_1_b_0_b f (tyS (mnV sl hw bh) t ks x4) h = .nx (tyS (mnV sl hw bh) t ks' x4) h' := by
  intro k
  induction k with
  | zero =>
    intro ks b h f y st hk hl hf
    cases f with
    | zero => omega
    | succ f =>
      rw [whileM_succ]
      cases sl with
      | false =>
        refine ⟨ks, h, y, by omega, st.mono (by omega), ?_⟩
        simp [tyW, tyS, mn0]
      | true =>
        obtain ⟨j, h1, hj, st1, e1⟩ := (show S4 (b + 1) u h from st.mono (by omega)).drawN (k := 4) (by omega)
        have e1' : m_law_draw [.ref 2, .int 4] h = .ok (.int (j : Int)) h1 := e1
        have q : mEqv (.int (j : Int)) (.int 0) h1 = some ((j : Int) == 0) := rfl
        have ln : mLen [rowV ks] h1 = some (.int (ks.length : Int), h1) := by simp [rowV, len_lv]
        have lt : decide ((ks.length : Int) < 60) = false := by simp; omega
        refine ⟨ks, h1, y, by omega, st1, ?_⟩
        cases h0 : ((j : Int) == 0) <;> simp [tyW, tyS, mn0, e1', q, h0, ln, lt_int, lt]
  | succ k ih =>
    intro ks b h f y st hk hl hf
    cases f with
    | zero => omega
    | succ f =>
      cases sl with
      | false =>
        rw [whileM_succ]
        refine ⟨ks, h, y, by omega, st.mono (by omega), ?_⟩
        simp [tyW, tyS, mn0]
      | true =>
        obtain ⟨j, h1, hj, st1, e1⟩ := (show S4 ((2 * k + 2 + b) + 1) u h from st.mono (by omega)).drawN (k := 4) (by omega)
        have e1' : m_law_draw [.ref 2, .int 4] h = .ok (.int (j : Int)) h1 := e1
        have q : mEqv (.int (j : Int)) (.int 0) h1 = some ((j : Int) == 0) := rfl
        have ln : mLen [rowV ks] h1 = some (.int (ks.length : Int), h1) := by simp [rowV, len_lv]
        cases h0 : ((j : Int) == 0) with
        | false =>
          rw [whileM_succ]
          refine ⟨ks, h1, y, by omega, st1.mono (by omega), ?_⟩
          simp [tyW, tyS, mn0, e1', q, h0]
        | true =>
          cases lt : decide ((ks.length : Int) < 60) with
          | false =>
            rw [whileM_succ]
            refine ⟨ks, h1, y, by omega, st1.mono (by omega), ?_⟩
            simp [tyW, tyS, mn0, e1', q, h0, ln, lt_int, lt]
          | true =>
            have lt' : ks.length < 60 := by simp at lt; omega
            obtain ⟨d, h2, hd, st2, e2⟩ := (show S4 ((2 * k + 1 + b) + 1) u h1 from st1.mono (by omega)).drawN (k := 9) (by omega)
            have e2' : m_law_draw [.ref 2, .int 9] h1 = .ok (.int (d : Int)) h2 := e2
            obtain ⟨c, hc, e3⟩ := ix_strN (A := slAlph) (j := d) hd (by decide) h2
            have e3' : mIx (.str [40, 91, 41, 93, 39, 32, 47, 97, 98]) (.int (d : Int)) h2 = some (.str [c], h2) := e3
            have hsg : ∀ c ∈ slAlph, sgn c = true := by decide
            have y1 : Typ true (ks ++ [.sg c, .back]) t0 := by
              have := y.append (.slip rfl (hsg c hc) .nil)
              rwa [List.append_nil] at this
            obtain ⟨ks', h3, y3, l3, st3, e4⟩ := ih (ks ++ [.sg c, .back]) b h2 f y1 st2 (by simp; omega) (by simp; omega) (by omega)
            refine ⟨ks', h3, y3, by simp at l3; omega, st3, ?_⟩
            have c0 : tyW (tyS (mnV true hw bh) t ks x4) h = .ok true h1 := by
              simp [tyW, tyS, mn0, e1', q, h0, ln, lt_int, lt]
            have ad := addR ks [.sg c, .back] (by simp; omega) h2
            have b0 : b_law_typing_1_b_0_b (tyS (mnV true hw bh) t ks x4) h1 = .nx (tyS (mnV true hw bh) t (ks ++ [.sg c, .back]) x4) h2 := by
              have : rowV [.sg c, .back] = .lv [.str [c], .str [98, 97, 99, 107]] := rfl
              rw [this] at ad
              simp [b_law_typing_1_b_0_b, tyS, e2', e3', ad, Pg.szs]
            rw [whileM_succ, c0, bindS_ok, if_pos rfl, b0]
            exact e4
theorem ty_turn {u : MH} {hw sl bh : Bool} {t : MV} {t0 : CP} {ks : List Ky} {b : Nat} {h : MH} {x : CP} (hx : x = [] ∨ ∃ c, x = [c] ∧ sgn c = true) (y : Typ sl ks t0) (st : S4 (121 + b) u h) (hl : ks.length ≤ 800) :
    ∃ ks' h', Typ sl ks' (t0 ++ x) ∧ ks'.length ≤ max ks.length 61 + 1 ∧ S4 b u h' ∧ b_law_typing_1_b (tyS (mnV sl hw bh) t ks (some (.str x))) h = .nx (tyS (mnV sl hw bh) t ks' (some (.str x))) h' := by
  obtain ⟨ks1, h1, y1, l1, st1, e1⟩ := ty_while (hw := hw) (bh := bh) t (some (.str x)) 60 ks b h bigF y st (by omega) (by omega) (by unfold bigF; omega)
  have s0 : b_law_typing_1_b_0 (tyS (mnV sl hw bh) t ks (some (.str x))) h = .nx (tyS (mnV sl hw bh) t ks1 (some (.str x))) h1 := e1
  rcases hx with rfl | ⟨c, rfl, hc⟩
  · refine ⟨ks1, h1, by rwa [List.append_nil], by omega, st1, ?_⟩
    have ad := addR ks1 [] (by simp; omega) h1
    have : rowV [] = .lv [] := rfl
    rw [this, List.append_nil] at ad
    unfold b_law_typing_1_b
    rw [sSeq_ap, s0]
    simp [b_law_typing_1_b_1, tyS, ad, Pg.szs]
  · refine ⟨ks1 ++ [.sg c], h1, y1.append (.key hc .nil), by simp; omega, st1, ?_⟩
    have ad := addR ks1 [.sg c] (by simp; omega) h1
    have : rowV [.sg c] = .lv [.str [c]] := rfl
    rw [this] at ad
    unfold b_law_typing_1_b
    rw [sSeq_ap, s0]
    simp [b_law_typing_1_b_1, tyS, ad, Pg.szs]
theorem ty_loop {u : MH} {hw sl bh : Bool} {t : MV} : ∀ (xs : List CP) (t0 : CP) (ks : List Ky) (b : Nat) (h : MH) (x4 : Option MV), (∀ x ∈ xs, x = [] ∨ ∃ c, x = [c] ∧ sgn c = true) → Typ sl ks t0 → S4 (121 * xs.length + b) u h → max ks.length 61 + xs.length ≤ 700 →
    ∃ ks' y4 h', Typ sl ks' (t0 ++ xs.flatten) ∧ ks'.length ≤ max ks.length 61 + xs.length ∧ S4 b u h' ∧ forL (gNm 4) b_law_typing_1_b (xs.map .str) (tyS (mnV sl hw bh) t ks x4) h = .nx (tyS (mnV sl hw bh) t ks' y4) h'
  | [], t0, ks, b, h, x4, hx, y, st, hl => ⟨ks, x4, h, by simpa using y, by simp; omega, by simpa using st, rfl⟩
  | x :: xs, t0, ks, b, h, x4, hx, y, st, hl => by
    simp only [List.length_cons] at st hl
    obtain ⟨ks1, h1, y1, l1, st1, e1⟩ := ty_turn (hw := hw) (bh := bh) (t := t) (b := 121 * xs.length + b) (hx x List.mem_cons_self) y (st.mono (by omega)) (by omega)
    obtain ⟨ks2, z4, h2, y2, l2, st2, e2⟩ := ty_loop (hw := hw) (bh := bh) (t := t) xs (t0 ++ x) ks1 b h1 (some (.str x)) (fun z hz => hx z (List.mem_cons_of_mem _ hz)) y1 st1 (by omega)
    refine ⟨ks2, z4, h2, ?_, by simp only [List.length_cons]; omega, st2, ?_⟩
    · rw [List.flatten_cons, ← List.append_assoc]
      exact y2
    · rw [List.map_cons, forL]
      have g0 : gNm 4 (.str x) (tyS (mnV sl hw bh) t ks x4) h = .ok (tyS (mnV sl hw bh) t ks (some (.str x))) h := rfl
      rw [g0, go_ok, e1]
      exact e2
theorem flat1 : ∀ t : CP, (t.map fun c => [c]).flatten = t
  | [] => rfl
  | c :: t => by simp [flat1 t]
theorem typing_ok {u : MH} {hw sl bh : Bool} {t : CP} {b : Nat} {h : MH} (hs : ∀ c ∈ t, sgn c = true) (hl : t.length ≤ 300) (st : S4 (121 * (t.length + 1) + b) u h) :
    ∃ ks h', Typ sl ks t ∧ ks.length ≤ 62 + t.length ∧ S4 b u h' ∧ m_law_typing [.ref 2, mnV sl hw bh, .str t] h = .ok (ksV ks) h' := by
  obtain ⟨ks, y4, h1, y, l, st1, e⟩ := ty_loop (hw := hw) (sl := sl) (bh := bh) (t := .str t) (u := u) ((t.map fun c => [c]) ++ [[]]) [] [] b h none (fun x hx => by
    rcases List.mem_append.mp hx with hx | hx
    · obtain ⟨c, hc, rfl⟩ := List.mem_map.mp hx
      exact .inr ⟨c, rfl, hs c hc⟩
    · left
      simpa using hx) .nil (by simpa using st) (by simp; omega)
  have fl : ((t.map fun c => [c]) ++ [[]]).flatten = t := by simp [flat1 t]
  rw [fl, List.nil_append] at y
  have run : runFn 5 b_law_typing [.ref 2, mnV sl hw bh, .str t] h = .ok (ksV ks) h1 := by
    have s0 : sAsg (eLstV (aNil)) (gNm 3) [some (.ref 2), some (mnV sl hw bh), some (.str t), none, none] h = .nx (tyS (mnV sl hw bh) (.str t) [] none) h := by
      simp [Pg.szs, tyS, rowV]
    have j0 : jSeq (eOp mAddV (eBlt mListS (aCons (eVar 2) (aNil))) (eLstV (aCons (eC (.str [])) (aNil)))) (tyS (mnV sl hw bh) (.str t) [] none) h = .ok (.items (((t.map fun c => [c]) ++ [[]]).map .str)) h := by
      have l1 : mListS [.str t] h = some (.lv (sgsV t), h) := by
        have : t.length ≤ 16777216 := by omega
        simp [mListS, Pg.szs, this]
      have l2 : mAddV (.lv (sgsV t)) (.lv [.str []]) h = some (.lv (sgsV t ++ [.str []]), h) := by
        have : t.length + 1 ≤ 16777216 := by omega
        simp [mAddV, lstR, Pg.szs, sgsV, this]
      have l3 : (((t.map fun c => [c]) ++ [[]]).map MV.str) = sgsV t ++ [.str []] := by simp [sgsV]
      rw [l3]
      simp [tyS, l1, l2, Pg.szs]
    have s1 : b_law_typing_1 (tyS (mnV sl hw bh) (.str t) [] none) h = .nx (tyS (mnV sl hw bh) (.str t) ks y4) h1 := by
      unfold b_law_typing_1
      rw [sFor_ap, j0, bindS_ok, for_items]
      exact e
    have s2 : b_law_typing_2 (tyS (mnV sl hw bh) (.str t) ks y4) h1 = .rt (ksV ks) h1 := by
      simp [b_law_typing_2, tyS, rowV, mTuple, lstV, ksV]
    show (match b_law_typing [some (.ref 2), some (mnV sl hw bh), some (.str t), none, none] h with
      | .rt v h' => R.ok v h'
      | .nx _ h' => .ok .non h'
      | .err e _ h' => .err e h'
      | _ => .stuck) = _
    unfold b_law_typing
    rw [sSeq_ap, s0]
    simp only
    rw [sSeq_ap, s1]
    simp only
    rw [s2]
  obtain ⟨h3, st3, e3⟩ := trim_end (m := runFn 5 b_law_typing) (u := []) st (by simpa using st1) run (bel_ks ks)
  exact ⟨ks, h3, y, by simp at l; omega, st3, e3⟩
end MP.Q9

/-! the first part with its refusals: texts, manners, readings -/
namespace MP.N1
open PySem L2 MP MP.Pg MP.Px
open MP.Pr hiding b_need_manner m_need_manner b_need_text m_need_text b_need_book m_need_book b_need_behind m_need_behind b_need_keys m_need_keys b_need_page m_need_page b_pressed m_pressed
@[simp] theorem sRaise_ap (c f : CP) (a : MA) (s : Sl) (h : MH) : sRaise c f a s h = (a s h).bindS s fun xs h1 => match xs with
  | [v] => .err ⟨c, [(f, v)]⟩ s h1
  | _ => .stuck := rfl
theorem forL_nx {g : MG} {b : MS} {x : MV} {xs : List MV} {s s1 s2 : Sl} {h h1 h2 : MH} (e1 : g x s h = .ok s1 h1) (e2 : b s1 h1 = .nx s2 h2) : forL g b (x :: xs) s h = forL g b xs s2 h2 := by
  rw [forL, e1, go_ok, e2]
/-- how far a text is read, and where it goes wrong -/
def readP (hw : Bool) : CP → Rg → Nat → Rg × Option Nat
  | [], r, _ => (r, none)
  | c :: t, r, i => if r.can c then readP hw t (r.step hw c) (i + 1) else (r, some i)
def plV : Option Nat → MV
  | none => .non
  | some i => .int (i : Int)
theorem readP_all (hw : Bool) : ∀ (l : CP) (r : Rg) (i : Nat), readAll hw l r = (match (readP hw l r i).2 with | none => some (readP hw l r i).1 | some _ => none)
  | [], r, i => rfl
  | c :: l, r, i => by
    simp only [readAll, readP]
    split
    · exact readP_all hw l _ _
    · rfl
theorem readP_len (hw : Bool) : ∀ (l : CP) (r : Rg) (i : Nat), (readP hw l r i).1.needs.length ≤ r.needs.length + l.length
  | [], r, i => by simp [readP]
  | c :: l, r, i => by
    simp only [readP, List.length_cons]
    split
    · have := readP_len hw l (r.step hw c) (i + 1)
      have := step_len hw r c
      omega
    · simp only; omega
theorem readP_lt (hw : Bool) : ∀ (l : CP) (r : Rg) (i j : Nat), (readP hw l r i).2 = some j → i ≤ j ∧ j < i + l.length
  | [], r, i, j, e => by simp [readP] at e
  | c :: l, r, i, j, e => by
    simp only [readP, List.length_cons] at e ⊢
    split at e
    · have := readP_lt hw l _ _ _ e
      omega
    · simp at e; omega
theorem need_manner_ok (sl hw bh : Bool) (g : MH) : m_need_manner [mnV sl hw bh] g = .ok (mnV sl hw bh) g := by
  cases sl <;> cases hw <;> cases bh <;> rfl
theorem text_loop (t : MV) (h : MH) : ∀ (l : CP) (i : Nat) (x y : Option MV), (∀ c ∈ l, sgn c = true) → ∃ x' y', forL (gTp 2 (gC (gNm 1) (gC (gNm 2) (gN)))) (sIf (tCmp mNotIn (eVar 2) (eC v_SIGNS)) (sRaise n_BadText f_place (aCons (eVar 1) (aNil))) (sNil)) (enumL i (l.map fun c => .str [c])) [some t, x, y] h = .nx [some t, x', y'] h
  | [], i, x, y, _ => ⟨x, y, rfl⟩
  | c :: l, i, x, y, hk => by
    obtain ⟨x', y', e⟩ := text_loop t h l (i + 1) (some (.int (i : Int))) (some (.str [c])) fun d hd => hk d (List.mem_cons_of_mem _ hd)
    refine ⟨x', y', ?_⟩
    have hc := hk c List.mem_cons_self
    unfold sgn at hc
    rw [List.map_cons, enumL, forL]
    have hi : inS [c] SG = true := by rw [inS_one]; exact hc
    unfold v_SIGNS at e ⊢
    simp [hi, e]
theorem need_text_ok {l : CP} (hl : l.length ≤ 200) (hs : ∀ c ∈ l, sgn c = true) (g : MH) : m_need_text [.str l] g = .ok .non g := by
  obtain ⟨x', y', e⟩ := text_loop (.str l) g l 0 none none hs
  have ln := len_str (l := l) (by omega) g
  have gt : mGt (.int (l.length : Int)) (.int 200) g = some (.bl false, g) := by
    simp [mGt]
    omega
  simp [m_need_text, b_need_text, isi_str, isTy, ln, v_MOST_TEXT, gt, e]
/-! ### read_all -/
def raB : MS := sSeq (sIf (tNotM (tVal (eMeth n_Reading x_can_read 2 m_Reading_can_read (eVar 2) (aCons (eVar 4) (aNil))))) (sRet (eTup (aCons (eVar 2) (aCons (eVar 3) (aNil))))) (sNil)) (sExpr (eMeth n_Reading x_read 2 m_Reading_read (eVar 2) (aCons (eVar 4) (aNil))))
theorem read_all_eq : b_read_all = sSeq (sAsg (eMake n_Reading 2 m_Reading___init__ (aCons (eVar 1) (aNil))) (gNm 2)) (sSeq (sFor (jEnum (aCons (eVar 0) (aNil))) (gTp 2 (gC (gNm 3) (gC (gNm 4) (gN)))) raB) (sRet (eTup (aCons (eVar 2) (aCons (eC .non) (aNil)))))) := rfl
theorem ra_body {h : MH} {n : Nat} {hw : Bool} {r : Rg} (p : RgAt h n hw r) (hl : r.needs.length ≤ 9999) (a b pl : MV) (c : Nat) : raB [some a, some b, some (.ref n), some pl, some (.str [c])] h =
    if r.can c then .nx [some a, some b, some (.ref n), some pl, some (.str [c])] (h.set n (rgO hw (r.step hw c))) else .rt (.tup [.ref n, pl]) h := by
  have c1 := can_ok p (by omega) c
  have c2 := read_ok p hl c
  cases hc : r.can c with
  | true =>
    rw [hc] at c1
    simp [raB, p.o, c1, c2]
  | false =>
    rw [hc] at c1
    simp [raB, p.o, c1, Pg.szs]
theorem ra_loop {n : Nat} {hw : Bool} (a b : MV) : ∀ (l : CP) (r : Rg) (i : Nat) (h : MH) (x3 x4 : Option MV), RgAt h n hw r → r.needs.length + l.length ≤ 9999 →
    ∃ h', RgAt h' n hw (readP hw l r i).1 ∧ h'.length = h.length ∧ match (readP hw l r i).2 with
      | none => ∃ y3 y4, forL (gTp 2 (gC (gNm 3) (gC (gNm 4) (gN)))) raB (enumL i (l.map fun c => .str [c])) [some a, some b, some (.ref n), x3, x4] h = .nx [some a, some b, some (.ref n), y3, y4] h'
      | some j => forL (gTp 2 (gC (gNm 3) (gC (gNm 4) (gN)))) raB (enumL i (l.map fun c => .str [c])) [some a, some b, some (.ref n), x3, x4] h = .rt (.tup [.ref n, .int (j : Int)]) h'
  | [], r, i, h, x3, x4, p, _ => ⟨h, p, rfl, x3, x4, rfl⟩
  | c :: l, r, i, h, x3, x4, p, hl => by
    simp only [List.length_cons] at hl
    have bo := ra_body p (by omega) a b (.int (i : Int)) c
    have g0 : gTp 2 (gC (gNm 3) (gC (gNm 4) (gN))) (.tup [.int (i : Int), .str [c]]) [some a, some b, some (.ref n), x3, x4] h = .ok [some a, some b, some (.ref n), some (.int (i : Int)), some (.str [c])] h := rfl
    have st := step_len hw r c
    have hn := get_lt p.o
    cases hc : r.can c with
    | true =>
      rw [hc, if_pos rfl] at bo
      obtain ⟨h', p', hl', e⟩ := ra_loop (hw := hw) (n := n) a b l (r.step hw c) (i + 1) (h.set n (rgO hw (r.step hw c))) (some (.int (i : Int))) (some (.str [c])) ⟨List.getElem?_set_self hn⟩ (by omega)
      refine ⟨h', ?_, by rw [hl', List.length_set], ?_⟩
      · simpa only [readP, hc, if_true] using p'
      · rw [List.map_cons, enumL, forL, g0, go_ok, bo]
        simpa only [readP, hc, if_true] using e
    | false =>
      rw [hc, if_neg (by decide)] at bo
      refine ⟨h, ?_, rfl, ?_⟩
      · simp only [readP, hc]; exact p
      · simp only [readP, hc]
        rw [List.map_cons, enumL, forL, g0, go_ok, bo]
        rfl
theorem read_all_ok {hw : Bool} {l : CP} (hl : l.length ≤ 5000) (g : MH) : ∃ h', RgAt h' g.length hw (readP hw l r0 0).1 ∧ m_read_all [.str l, .bl hw] g = .ok (.tup [.ref g.length, plV (readP hw l r0 0).2]) h' := by
  have p0 : RgAt (g ++ [rgO hw r0]) g.length hw r0 := ⟨by simp [rgO]⟩
  obtain ⟨h', p', _, e⟩ := ra_loop (hw := hw) (n := g.length) (.str l) (.bl hw) l r0 0 (g ++ [rgO hw r0]) none none p0 (by simp [r0]; omega)
  refine ⟨h', p', ?_⟩
  have nw := rg_new hw g
  have s0 : (sAsg (eMake n_Reading 2 m_Reading___init__ (aCons (eVar 1) (aNil))) (gNm 2)) [some (.str l), some (.bl hw), none, none, none] g = .nx [some (.str l), some (.bl hw), some (.ref g.length), none, none] (g ++ [rgO hw r0]) := by
    simp [nw]
  have s1 : (sFor (jEnum (aCons (eVar 0) (aNil))) (gTp 2 (gC (gNm 3) (gC (gNm 4) (gN)))) raB) [some (.str l), some (.bl hw), some (.ref g.length), none, none] (g ++ [rgO hw r0]) = forL (gTp 2 (gC (gNm 3) (gC (gNm 4) (gN)))) raB (enumL 0 (l.map fun c => .str [c])) [some (.str l), some (.bl hw), some (.ref g.length), none, none] (g ++ [rgO hw r0]) := by
    have j0 : jEnum (aCons (eVar 0) (aNil)) [some (.str l), some (.bl hw), some (.ref g.length), none, none] (g ++ [rgO hw r0]) = .ok (.items (enumL 0 (l.map fun c => .str [c]))) (g ++ [rgO hw r0]) := rfl
    rw [sFor_ap, j0, bindS_ok, for_items]
  have run : m_read_all [.str l, .bl hw] g = match b_read_all [some (.str l), some (.bl hw), none, none, none] g with
    | .rt v h' => R.ok v h'
    | .nx _ h' => .ok .non h'
    | .err e _ h' => .err e h'
    | _ => .stuck := rfl
  rw [run, read_all_eq, sSeq_ap, s0]
  simp only
  rw [sSeq_ap, s1]
  cases hp : (readP hw l r0 0).2 with
  | none =>
    rw [hp] at e
    obtain ⟨y3, y4, e⟩ := e
    rw [e]
    simp [Pg.szs, plV]
  | some j =>
    rw [hp] at e
    simp only at e
    rw [e]
    rfl
/-! ### is_meant, needs, need_meant -/
def wholeB (r : Rg) : Bool := r.needs.isEmpty && !r.op
def closedB (q : Rg × Option Nat) : Bool := q.2.isNone && wholeB q.1
section
variable {sl hw bh : Bool} {l : CP}
theorem is_meant_ok (hl : l.length ≤ 200) (hs : ∀ c ∈ l, sgn c = true) (g : MH) : ∃ h', m_is_meant [mnV sl hw bh, .str l] g = .ok (.bl (closedB (readP hw l r0 0))) h' := by
  obtain ⟨h', p, e⟩ := read_all_ok (hw := hw) (l := l) (by omega) g
  have a := need_manner_ok sl hw bh g
  have b := need_text_ok hl hs g
  have w := whole_ok p
  refine ⟨h', ?_⟩
  have i1 := mn1 sl hw bh g
  cases hp : (readP hw l r0 0).2 with
  | none =>
    rw [hp] at e
    simp [m_is_meant, b_is_meant, a, b, i1, e, plV, mIs, w, closedB, wholeB, hp]
  | some j =>
    rw [hp] at e
    simp [m_is_meant, b_is_meant, a, b, i1, e, plV, mIs, w, closedB, wholeB, hp]
def needsR (q : Rg × Option Nat) (h : MH) : R MV := match q.2 with
  | none => .ok (.str q.1.needs.reverse) h
  | some j => .err ⟨n_NotMeant, [(f_place, .int (j : Int))]⟩ h
theorem needs_ok (hl : l.length ≤ 200) (hs : ∀ c ∈ l, sgn c = true) (g : MH) : ∃ h', m_needs [mnV sl hw bh, .str l] g = needsR (readP hw l r0 0) h' := by
  obtain ⟨h', p, e⟩ := read_all_ok (hw := hw) (l := l) (by omega) g
  have a := need_manner_ok sl hw bh g
  have b := need_text_ok hl hs g
  refine ⟨h', ?_⟩
  have i1 := mn1 sl hw bh g
  have nl := readP_len hw l r0 0
  have hr : (readP hw l r0 0).1.needs.length ≤ 16777216 := by have : r0.needs.length = 0 := rfl; omega
  cases hp : (readP hw l r0 0).2 with
  | none =>
    rw [hp] at e
    simp [m_needs, b_needs, a, b, i1, e, plV, mIsNot, mIs, needsR, hp, p.o, eRevV, lstV, eRev, hr, Pg.szs]
  | some j =>
    rw [hp] at e
    simp [m_needs, b_needs, a, b, i1, e, plV, mIsNot, mIs, needsR, hp]
def meantR (n : Nat) (q : Rg × Option Nat) (h : MH) : R MV := match q.2 with
  | none => if wholeB q.1 then .ok .non h else .err ⟨n_NotMeant, [(f_place, .int (n : Int))]⟩ h
  | some j => .err ⟨n_NotMeant, [(f_place, .int (j : Int))]⟩ h
theorem need_meant_ok (hl : l.length ≤ 200) (hs : ∀ c ∈ l, sgn c = true) (g : MH) : ∃ h', m_need_meant [mnV sl hw bh, .str l] g = meantR l.length (readP hw l r0 0) h' := by
  obtain ⟨h', p, e⟩ := read_all_ok (hw := hw) (l := l) (by omega) g
  have a := need_manner_ok sl hw bh g
  have b := need_text_ok hl hs g
  have w := whole_ok p
  have ln : ∀ g, mLen [.str l] g = some (.int (l.length : Int), g) := fun g => len_str (l := l) (by omega) g
  refine ⟨h', ?_⟩
  have i1 := mn1 sl hw bh g
  cases hp : (readP hw l r0 0).2 with
  | none =>
    rw [hp] at e
    cases hq : ((readP hw l r0 0).1.needs.isEmpty && !(readP hw l r0 0).1.op) with
    | true =>
      rw [hq] at w
      simp [m_need_meant, b_need_meant, a, b, i1, e, plV, mIsNot, mIs, w, meantR, hp, wholeB, hq]
    | false =>
      rw [hq] at w
      simp [m_need_meant, b_need_meant, a, b, i1, e, plV, mIsNot, mIs, w, meantR, hp, wholeB, hq, ln]
  | some j =>
    rw [hp] at e
    simp [m_need_meant, b_need_meant, a, b, i1, e, plV, mIsNot, mIs, meantR, hp]
end
/-! ### the law's own reading (k05, k09) -/
theorem need_loopP {hw sl bh : Bool} {t : MV} : ∀ (l : CP) (r : Rg) (i : Nat) (x5 x6 x7 : Option MV), Q9.RgI r → r.needs.length + l.length ≤ 9999 → Q9.RgI (readP hw l r i).1 ∧
    match (readP hw l r i).2 with
      | none => ∃ y5 y6 y7, forL (gTp 2 (gC (gNm 5) (gC (gNm 6) (gN)))) Q9.b_law_need_of_1_b (enumL i (l.map fun c => .str [c])) (Q9.sl0 hw sl bh t r x5 x6 x7) (Q9.hp0 r) = .nx (Q9.sl0 hw sl bh t (readP hw l r i).1 y5 y6 y7) (Q9.hp0 (readP hw l r i).1)
      | some j => forL (gTp 2 (gC (gNm 5) (gC (gNm 6) (gN)))) Q9.b_law_need_of_1_b (enumL i (l.map fun c => .str [c])) (Q9.sl0 hw sl bh t r x5 x6 x7) (Q9.hp0 r) = .rt (Q9.stopV (readP hw l r i).1 (.int (j : Int))) (Q9.hp0 (readP hw l r i).1)
  | [], r, i, x5, x6, x7, hi, hl => ⟨hi, x5, x6, x7, rfl⟩
  | c :: l, r, i, x5, x6, x7, hi, hl => by
    simp only [List.length_cons] at hl
    have bo := Q9.body_ok (hw := hw) (sl := sl) (bh := bh) (t := t) (c := c) (x7 := x7) (pl := .int (i : Int)) hi (by omega)
    have g0 : gTp 2 (gC (gNm 5) (gC (gNm 6) (gN))) (.tup [.int (i : Int), .str [c]]) (Q9.sl0 hw sl bh t r x5 x6 x7) (Q9.hp0 r) = .ok (Q9.sl0 hw sl bh t r (some (.int (i : Int))) (some (.str [c])) x7) (Q9.hp0 r) := rfl
    have sl1 := step_len hw r c
    obtain ⟨h1, h2⟩ := need_loopP (hw := hw) (sl := sl) (bh := bh) (t := t) l (r.step hw c) (i + 1) (some (.int (i : Int))) (some (.str [c])) (some (.bl r.q)) (hi.step hw c) (by omega)
    cases hc : r.can c with
    | true =>
      rw [hc, if_pos rfl] at bo
      have e0 : readP hw (c :: l) r i = readP hw l (r.step hw c) (i + 1) := by simp only [readP, hc, if_true]
      rw [e0, List.map_cons, enumL, forL, g0, go_ok, bo]
      exact ⟨h1, h2⟩
    | false =>
      rw [hc, if_neg (by decide)] at bo
      have e0 : readP hw (c :: l) r i = (r, some i) := by simp only [readP, hc]; rfl
      rw [e0, List.map_cons, enumL, forL, g0, go_ok, bo]
      exact ⟨hi, rfl⟩
theorem need_of_P {hw sl bh : Bool} {l : CP} (hl : l.length ≤ 5000) (g : MH) : Q9.m_law_need_of [mnV sl hw bh, .str l] g = .ok (.tup [.str (readP hw l r0 0).1.needs.reverse, .bl (readP hw l r0 0).1.op, plV (readP hw l r0 0).2]) g := by
  obtain ⟨hi, h2⟩ := need_loopP (hw := hw) (sl := sl) (bh := bh) (t := .str l) l r0 0 none none none (fun z => by cases z) (by simp [r0]; omega)
  have s0 : Q9.b_law_need_of_0 [some (mnV sl hw bh), some (.str l), none, none, none, none, none, none] [] = .nx (Q9.sl0 hw sl bh (.str l) r0 none none none) (Q9.hp0 r0) := by
    simp [Q9.b_law_need_of_0, Pg.szs, Q9.sl0, Q9.hp0, r0, oT, Q9.stV]
  have s1 : Q9.b_law_need_of_1 (Q9.sl0 hw sl bh (.str l) r0 none none none) (Q9.hp0 r0) = forL (gTp 2 (gC (gNm 5) (gC (gNm 6) (gN)))) Q9.b_law_need_of_1_b (enumL 0 (l.map fun c => .str [c])) (Q9.sl0 hw sl bh (.str l) r0 none none none) (Q9.hp0 r0) := by
    have j0 : jEnum (aCons (eVar 1) (aNil)) (Q9.sl0 hw sl bh (.str l) r0 none none none) (Q9.hp0 r0) = .ok (.items (enumL 0 (l.map fun c => .str [c]))) (Q9.hp0 r0) := rfl
    unfold Q9.b_law_need_of_1
    rw [sFor_ap, j0, bindS_ok, for_items]
  have run : ∀ as, as = [mnV sl hw bh, MV.str l] → runFn 8 Q9.b_law_need_of as [] = match Q9.b_law_need_of [some (mnV sl hw bh), some (.str l), none, none, none, none, none, none] [] with
    | .rt v h' => R.ok v h'
    | .nx _ h' => .ok .non h'
    | .err e _ h' => .err e h'
    | _ => .stuck := fun as e => by subst e; rfl
  have hn := readP_len hw l r0 0
  refine pure_of (by simp [belowL, below, mnV]) ?_ ⟨Q9.hp0 (readP hw l r0 0).1, ?_⟩ g
  · cases (readP hw l r0 0).2 <;> simp [belowL, below, plV]
  rw [run _ rfl]
  unfold Q9.b_law_need_of
  rw [sSeq_ap, s0]
  simp only
  rw [sSeq_ap, s1]
  cases hp : (readP hw l r0 0).2 with
  | none =>
    rw [hp] at h2
    obtain ⟨y5, y6, y7, e1⟩ := h2
    have rv := Q9.rev_st (s := Q9.sl0 hw sl bh (.str l) (readP hw l r0 0).1 y5 y6 y7) (readP hw l r0 0).1 rfl (by have : r0.needs.length = 0 := rfl; omega)
    rw [e1]
    simp only
    unfold Q9.b_law_need_of_2
    rw [sRet_ap, eTup_ap, aCons_ap, rv]
    simp [Q9.sl0, Pg.szs, plV]
  | some j =>
    rw [hp] at h2
    simp only at h2
    rw [h2]
    rfl
end MP.N1

/-! the pages of laws k03, k09 -/
namespace MP.Q3
open PySem L2 MP MP.Pg MP.Le MP.Ld MP.Cm
theorem pressed_eq : m_law_pressed = pureV (runFn 18 Q3.b_law_pressed) := rfl
def b_law_pages_0 : MS := sAsg (eVar 1) (gTp 3 (gC (gNm 4) (gC (gNm 5) (gC (gNm 6) (gN)))))
def b_law_pages_1 : MS := sAsg (eTup (aCons (eTup (aCons (eVar 4) (aCons (eLv (jEnum (aCons (eVar 5) (aNil))) [10, 11] (.row [10, 11]) (tYesM) (eTup (aCons (eVar 11) (aCons (eOp mIn (eVar 10) (eVar 6)) (aNil))))) (aNil)))) (aCons (eLst (aCons (eVar 1) (aNil))) (aNil)))) (gTp 2 (gC (gNm 7) (gC (gNm 8) (gN))))
def b_law_pages_2_b_0 : MS := sAsg (eCall 3 m_law_pressed (aCons (eVar 0) (aCons (eVar 7) (aCons (eVar 3) (aNil))))) (gNm 7)
def b_law_pages_2_b_1 : MS := sAsg (eBm .str mJoin (eC (.str [])) (aCons (eLv (jSeq (eOp mIx (eVar 7) (eC (.int 1)))) [11, 12] (.row [11, 12]) (tYesM) (eVar 11)) (aNil))) (gNm 9)
def b_law_pages_2_b_2 : MS := sExpr (eBm .list mAppend (eVar 8) (aCons (eTup (aCons (eOp mIx (eVar 7) (eC (.int 0))) (aCons (eVar 9) (aCons (eBlt mTuple (aCons (eLv (jRng1 (aCons (eBlt mLen (aCons (eVar 9) (aNil))) (aNil))) [13] (.one 13) (tVal (eOp mIx (eOp mIx (eOp mIx (eVar 7) (eC (.int 1))) (eVar 13)) (eC (.int 1)))) (eVar 13)) (aNil))) (aNil))))) (aNil)))
def b_law_pages_2_b : MS := sSeq (b_law_pages_2_b_0) (sSeq (b_law_pages_2_b_1) (b_law_pages_2_b_2))
def b_law_pages_2 : MS := sFor (jSeq (eVar 2)) (gNm 3) (b_law_pages_2_b)
def b_law_pages : MS := sSeq (b_law_pages_0) (sSeq (b_law_pages_1) (sSeq (b_law_pages_2) (sRet (eVar 8))))
def m_law_pages : MF := pureV (runFn 14 b_law_pages)
def b_law_like : MS := sRet (eOp mEq (eBlt mRepr (aCons (eVar 0) (aNil))) (eBlt mRepr (aCons (eVar 1) (aNil))))
def m_law_like : MF := pureV (runFn 2 b_law_like)
/-! the law's own pages -/
def dues (B : Bk) : List Ky → CP → Rt → List MV
  | [], _, _ => []
  | y :: ks, l, r => toldV (pressS B l r y).1 (pressS B l r y).2 :: dues B ks (pressS B l r y).1 (pressS B l r y).2
theorem dues_len (B : Bk) : ∀ (ks : List Ky) (l : CP) (r : Rt), (dues B ks l r).length = ks.length
  | [], _, _ => rfl
  | y :: ks, l, r => by simp [dues, dues_len B ks]
theorem dues_get (B : Bk) : ∀ (ks : List Ky) (l : CP) (r : Rt) (i : Nat), i < ks.length → (dues B ks l r)[i]? = some (toldV (pressAll B (ks.take (i + 1)) l r).1 (pressAll B (ks.take (i + 1)) l r).2)
  | y :: ks, l, r, 0, _ => by simp [dues, pressAll]
  | y :: ks, l, r, i + 1, h => by
    simp only [dues, List.getElem?_cons_succ]
    rw [dues_get B ks _ _ i (by simpa using h)]
    simp [pressAll]
theorem belk (ks : List Ky) : below 0 (ksV ks) = true := by
  unfold ksV
  rw [below]
  induction ks with
  | nil => rfl
  | cons a ks ih => simp [belowL, below, ih]
theorem bel_rt : ∀ r : Rt, belowL 0 (rtV r) = true
  | [] => rfl
  | p :: t => by simp [rtV, belowL, prV, below] ; exact bel_rt t
theorem bel_told (l : CP) (r : Rt) : below 0 (toldV l r) = true := by
  have : ∀ js : List Nat, belowL 0 (js.map fun (i : Nat) => MV.int (i : Int)) = true := fun js => by
    induction js with
    | nil => rfl
    | cons a os ih => simp [belowL, below, ih]
  simp [toldV, below, belowL, this]
theorem law_press {B : Bk} {l : CP} {r : Rt} (ok : PgOk l r) (hl : l.length + r.length ≤ 99998) (y : Ky) (g : MH) : m_law_pressed [B.v, pgV l r, .str y.t] g = .ok (pgV (pressS B l r y).1 (pressS B l r y).2) g := by
  have run := run_ok (B := B) hl ok.rt y []
  rw [pressed_eq, pureV, if_pos (by simp [belowL, below, Bk.v, pgV, bel_rt]), run]
  simp [pureRV, pureR, pgV, below, belowL, bel_rt]
theorem pages_loop (B : Bk) (a1 a2 a4 a5 a6 : MV) : ∀ (ks : List Ky) (l : CP) (r : Rt) (acc : List MV) (x3 x9 : Option MV), PgOk l r → (∀ k ∈ ks, k.ok = true) → l.length + r.length + 2 * ks.length ≤ 90000 → acc.length + ks.length ≤ 1000 → ∃ x3' x7 x9', 
    forL (gNm 3) b_law_pages_2_b (ks.map fun y => .str y.t) [some B.v, some a1, some a2, x3, some a4, some a5, some a6, some (pgV l r), some (.ref 0), x9, none, none, none, none] [.lst acc] = .nx [some B.v, some a1, some a2, x3', some a4, some a5, some a6, x7, some (.ref 0), x9', none, none, none, none] [.lst (acc ++ dues B ks l r)]
  | [], l, r, acc, x3, x9, _, _, _, _ => ⟨x3, some (pgV l r), x9, by simp [forL, dues]⟩
  | y :: ks, l, r, acc, x3, x9, ok, hk, hl, ha => by
    simp only [List.length_cons] at hl ha
    have hyk := hk y List.mem_cons_self
    have ok1 := ok.press (B := B) hyk
    have hpl := pressS_len B l r y
    generalize hq : pressS B l r y = q at ok1 hpl
    obtain ⟨l1, r1⟩ := q
    simp only at ok1 hpl
    obtain ⟨x3', x7, x9', ih⟩ := pages_loop B a1 a2 a4 a5 a6 ks l1 r1 (acc ++ [toldV l1 r1]) (some (.str y.t)) (some (.str (r1.map (·.1)))) ok1 (fun k h => hk k (List.mem_cons_of_mem _ h)) (by omega) (by simp; omega)
    refine ⟨x3', x7, x9', ?_⟩
    have lp := law_press (B := B) ok (by omega) y
    rw [hq] at lp
    have b0 : b_law_pages_2_b_0 [some B.v, some a1, some a2, some (.str y.t), some a4, some a5, some a6, some (pgV l r), some (.ref 0), x9, none, none, none, none] [.lst acc] = .nx [some B.v, some a1, some a2, some (.str y.t), some a4, some a5, some a6, some (pgV l1 r1), some (.ref 0), x9, none, none, none, none] [.lst acc] := by
      simp [b_law_pages_2_b_0, lp]
    have i1 : ∀ g : MH, mIx (pgV l1 r1) (.int 1) g = some (.lv (rtV r1), g) := fun _ => rfl
    have i0 : ∀ g : MH, mIx (pgV l1 r1) (.int 0) g = some (.str l1, g) := fun _ => rfl
    have b1 : b_law_pages_2_b_1 [some B.v, some a1, some a2, some (.str y.t), some a4, some a5, some a6, some (pgV l1 r1), some (.ref 0), x9, none, none, none, none] [.lst acc] = .nx [some B.v, some a1, some a2, some (.str y.t), some a4, some a5, some a6, some (pgV l1 r1), some (.ref 0), some (.str (r1.map (·.1))), none, none, none, none] [.lst acc] := by
      have sl := signs_lc (r := r1) (i := 11) (by omega) (wipeM [some B.v, some a1, some a2, some (.str y.t), some a4, some a5, some a6, some (pgV l1 r1), some (.ref 0), x9, none, none, none, none] [11, 12]) (by simp [wipeM]) [.lst acc]
      have jr := joinRt (r := r1) (by omega) [.lst acc]
      have j0 : jSeq (eOp mIx (eVar 7) (eC (.int 1))) [some B.v, some a1, some a2, some (.str y.t), some a4, some a5, some a6, some (pgV l1 r1), some (.ref 0), x9, none, none, none, none] [.lst acc] = .ok (.items (rtV r1)) [.lst acc] := by simp [i1]
      unfold b_law_pages_2_b_1
      rw [sAsg_ap, eBm_ap, eC_ap, bind_ok, rcv_str, if_pos rfl, aCons_ap, eLv_ap, j0, bind_ok, lc_items, sl, bind_ok, aNil_ap, bind_ok, bind_ok, jr, ofO_some, bindS_ok, gNm_ap, go_ok]
      rfl
    have b2 : b_law_pages_2_b_2 [some B.v, some a1, some a2, some (.str y.t), some a4, some a5, some a6, some (pgV l1 r1), some (.ref 0), some (.str (r1.map (·.1))), none, none, none, none] [.lst acc] = .nx [some B.v, some a1, some a2, some (.str y.t), some a4, some a5, some a6, some (pgV l1 r1), some (.ref 0), some (.str (r1.map (·.1))), none, none, none, none] [.lst (acc ++ [toldV l1 r1])] := by
      have hm : (r1.map (·.1)).length = r1.length := by simp
      have ix : ∀ (j : Nat) (hj : j < r1.length) (g : MH), mIx (.lv (rtV r1)) (.int (j : Int)) g = some (prV r1[j], g) := fun j hj g => by
        have := atI_nat (xs := rtV r1) (j := j) (v := prV r1[j]) (by simp [rtV, hj])
        simp only [mIx, this, Option.map_some]
      have lc := lcL_pure (t := .one 13) (tt := tVal (eOp mIx (eOp mIx (eOp mIx (eVar 7) (eC (.int 1))) (eVar 13)) (eC (.int 1)))) (te := eVar 13) (sw := [some B.v, some a1, some a2, some (.str y.t), some a4, some a5, some a6, some (pgV l1 r1), some (.ref 0), some (.str (r1.map (·.1))), none, none, none, none]) (h := [.lst acc]) (fun v => match v with
        | .int i => r1[i.toNat]?.elim false (·.2)
        | _ => false) (fun v => v) (MP.upTo 0 r1.length) [] (by rw [Pg.szs, Ld.upTo_len]; simp; omega) (fun v hv => by
          obtain ⟨j, hj, rfl⟩ := List.mem_map.mp hv
          have hj' : j < r1.length := by simpa using hj
          rw [show (0 + (j : Int)) = (j : Int) by omega]
          refine ⟨[some B.v, some a1, some a2, some (.str y.t), some a4, some a5, some a6, some (pgV l1 r1), some (.ref 0), some (.str (r1.map (·.1))), none, none, none, some (.int (j : Int))], rfl, ?_, fun _ => rfl⟩
          simp [i1, ix j hj', ix_pr1, hj'])
      have e : (MP.upTo 0 r1.length).filter (fun v => match v with
        | .int i => r1[i.toNat]?.elim false (·.2)
        | _ => false) = (owns 0 r1).map fun (i : Nat) => MV.int (i : Int) := by
        rw [owns_filter r1 0]
        simp only [MP.upTo, List.filter_map, List.map_map]
        have e : ((fun v => match v with
          | .int i => r1[i.toNat]?.elim false (·.2)
          | _ => false) ∘ fun (i : Nat) => MV.int (0 + (i : Int))) = fun (k : Nat) => r1[k]?.elim false (·.2) := by
          funext k
          simp
        rw [e]
        congr 1
        funext k
        simp
      rw [e, List.map_id', List.nil_append] at lc
      have j0 : jRng1 (aCons (eBlt mLen (aCons (eVar 9) (aNil))) (aNil)) [some B.v, some a1, some a2, some (.str y.t), some a4, some a5, some a6, some (pgV l1 r1), some (.ref 0), some (.str (r1.map (·.1))), none, none, none, none] [.lst acc] = .ok (.items (MP.upTo 0 r1.length)) [.lst acc] := by
        have hb : -(2 ^ 62) ≤ (r1.length : Int) ∧ (r1.length : Int) < 2 ^ 62 := by omega
        have a0 : aCons (eBlt mLen (aCons (eVar 9) (aNil))) (aNil) [some B.v, some a1, some a2, some (.str y.t), some a4, some a5, some a6, some (pgV l1 r1), some (.ref 0), some (.str (r1.map (·.1))), none, none, none, none] [.lst acc] = .ok [.int (r1.length : Int)] [.lst acc] := by
          have := len_str (l := r1.map (·.1)) (by rw [hm]; omega) [.lst acc]
          rw [hm] at this
          simp [this]
        rw [jRng1_ap, a0, bind_ok]
        simp only [if_pos hb, Int.toNat_natCast]
      have ot : eBlt mTuple (aCons (eLv (jRng1 (aCons (eBlt mLen (aCons (eVar 9) (aNil))) (aNil))) [13] (.one 13) (tVal (eOp mIx (eOp mIx (eOp mIx (eVar 7) (eC (.int 1))) (eVar 13)) (eC (.int 1)))) (eVar 13)) (aNil)) [some B.v, some a1, some a2, some (.str y.t), some a4, some a5, some a6, some (pgV l1 r1), some (.ref 0), some (.str (r1.map (·.1))), none, none, none, none] [.lst acc] = .ok (.tup ((owns 0 r1).map fun (i : Nat) => .int (i : Int))) [.lst acc] := by
        rw [eBlt_ap, aCons_ap, eLv_ap, j0, bind_ok, lc_items]
        simp only [wipeM, List.set]
        rw [lc]
        rfl
      have ap : mAppend (.ref 0) [toldV l1 r1] [.lst acc] = some (.non, [.lst (acc ++ [toldV l1 r1])]) := by
        have hlt : acc.length < sizeLine := by rw [Pg.szs]; omega
        simp only [mAppend, List.getElem?_cons_zero, if_pos hlt]
        rfl
      have rc : isRcv .list (.ref 0) [.lst acc] = true := rfl
      have at_ : eTup (aCons (eOp mIx (eVar 7) (eC (.int 0))) (aCons (eVar 9) (aCons (eBlt mTuple (aCons (eLv (jRng1 (aCons (eBlt mLen (aCons (eVar 9) (aNil))) (aNil))) [13] (.one 13) (tVal (eOp mIx (eOp mIx (eOp mIx (eVar 7) (eC (.int 1))) (eVar 13)) (eC (.int 1)))) (eVar 13)) (aNil))) (aNil)))) [some B.v, some a1, some a2, some (.str y.t), some a4, some a5, some a6, some (pgV l1 r1), some (.ref 0), some (.str (r1.map (·.1))), none, none, none, none] [.lst acc] = .ok (toldV l1 r1) [.lst acc] := by
        rw [eTup_ap, aCons_ap, eOp_ap]
        simp only [eVar_ap, List.getElem?_cons_succ, List.getElem?_cons_zero, bind_ok, eC_ap, i0, ofO_some, aCons_ap, ot, aNil_ap]
        simp [Pg.szs, toldV]
      unfold b_law_pages_2_b_2
      rw [sExpr_ap, eBm_ap]
      simp only [eVar_ap, List.getElem?_cons_succ, List.getElem?_cons_zero, bind_ok, rc, if_true]
      rw [aCons_ap, at_, bind_ok, aNil_ap, bind_ok, bind_ok, ap]
      rfl
    have bb : b_law_pages_2_b [some B.v, some a1, some a2, some (.str y.t), some a4, some a5, some a6, some (pgV l r), some (.ref 0), x9, none, none, none, none] [.lst acc] = .nx [some B.v, some a1, some a2, some (.str y.t), some a4, some a5, some a6, some (pgV l1 r1), some (.ref 0), some (.str (r1.map (·.1))), none, none, none, none] [.lst (acc ++ [toldV l1 r1])] := by
      unfold b_law_pages_2_b
      rw [sSeq_ap, b0]
      simp only
      rw [sSeq_ap, b1]
      exact b2
    rw [List.map_cons, forL, gNm_ap, go_ok]
    simp only [List.set]
    rw [bb]
    simp only
    rw [ih]
    simp [dues, hq]
theorem lcL_one {t : Tg} {te : ME} {sw s2 : Sl} {x y : MV} {xs acc : List MV} {h h4 : MH} (e : te s2 h = .ok y h4) (hl : acc.length < sizeLine) (ht : t.run x sw = some s2) : lcL t tYesM te sw (x :: xs) acc h = lcL t tYesM te sw xs (acc ++ [y]) h4 := by
  simp [lcL, ht, e, hl]
theorem enum_lc (sw : Sl) (os : List Int) (hw : sw.length = 14) (h6 : sw[6]? = some (some (.tup (os.map .int)))) (h : MH) : ∀ (f : CP) (i : Nat) (acc : List MV), acc.length + f.length ≤ 99999 →
    lcL (.row [10, 11]) tYesM (eTup (aCons (eVar 11) (aCons (eOp mIn (eVar 10) (eVar 6)) (aNil)))) sw (enumL i (f.map fun c => .str [c])) acc h = .ok (.lv (acc ++ rtV (rtOf i f os))) h
  | [], i, acc, _ => by simp [rtV, enumL, lcL, rtOf]
  | c :: f, i, acc, hl => by
    simp only [List.length_cons] at hl
    have hlt : acc.length < sizeLine := by rw [Pg.szs]; omega
    have ih := enum_lc sw os hw h6 h f (i + 1) (acc ++ [prV (c, os.contains (i : Int))]) (by simp; omega)
    have g6 : ((sw.set 10 (some (.int (i : Int)))).set 11 (some (.str [c])))[6]? = some (some (.tup (os.map .int))) := by
      rw [List.getElem?_set_ne (by decide), List.getElem?_set_ne (by decide)]; exact h6
    have g10 : ((sw.set 10 (some (.int (i : Int)))).set 11 (some (.str [c])))[10]? = some (some (.int (i : Int))) := by
      rw [List.getElem?_set_ne (by decide), List.getElem?_set_self (by omega)]
    have g11 : ((sw.set 10 (some (.int (i : Int)))).set 11 (some (.str [c])))[11]? = some (some (.str [c])) := by
      rw [List.getElem?_set_self (by simp; omega)]
    have te : eTup (aCons (eVar 11) (aCons (eOp mIn (eVar 10) (eVar 6)) (aNil))) ((sw.set 10 (some (.int (i : Int)))).set 11 (some (.str [c]))) h = .ok (prV (c, os.contains (i : Int))) h := by
      simp only [eTup_ap, aCons_ap, eVar_ap, g11, bind_ok, eOp_ap, g10, g6, mIn_ap, mInB, inF_ints, Option.map_some, ofO_some, aNil_ap]
      simp [Pg.szs, prV]
    rw [List.map_cons, enumL, lcL_one te hlt rfl, ih]
    simp [rtV, rtOf]
theorem pages_ok {B : Bk} {l f : CP} {os : List Nat} {ks : List Ky} (hp : isPage l f (os.map fun (j : Nat) => (j : Int)) = true) (hk : ∀ k ∈ ks, k.ok = true) (hks : ks.length ≤ 400) (g : MH) :
    m_law_pages [B.v, .tup [.str l, .str f, .tup ((os.map fun (j : Nat) => (j : Int)).map .int)], ksV ks] g = .ok (.lv (.tup [.str l, .str f, .tup ((os.map fun (j : Nat) => (j : Int)).map .int)] :: dues B ks l (rtOf 0 f (os.map fun (j : Nat) => (j : Int))))) g := by
  have ok := PgOk.of hp
  have hp' := hp
  unfold isPage at hp'
  simp only [Bool.and_eq_true, decide_eq_true_eq] at hp'
  obtain ⟨⟨⟨⟨h1, _⟩, h2, _⟩, _⟩, _⟩ := hp'
  let os' : List Int := os.map fun (j : Nat) => (j : Int)
  let pv : MV := .tup [.str l, .str f, .tup (os'.map .int)]
  have s1 : b_law_pages_0 [some B.v, some pv, some (ksV ks), none, none, none, none, none, none, none, none, none, none, none] [] = .nx [some B.v, some pv, some (ksV ks), none, some (.str l), some (.str f), some (.tup (os'.map .int)), none, none, none, none, none, none, none] [] := by
    simp [b_law_pages_0, pv]
  have s2 : b_law_pages_1 [some B.v, some pv, some (ksV ks), none, some (.str l), some (.str f), some (.tup (os'.map .int)), none, none, none, none, none, none, none] [] = .nx [some B.v, some pv, some (ksV ks), none, some (.str l), some (.str f), some (.tup (os'.map .int)), some (pgV l (rtOf 0 f os')), some (.ref 0), none, none, none, none, none] [.lst [pv]] := by
    have lc := enum_lc [some B.v, some pv, some (ksV ks), none, some (.str l), some (.str f), some (.tup (os'.map .int)), none, none, none, none, none, none, none] os' rfl rfl [] f 0 [] (by simp; omega)
    have j0 : jEnum (aCons (eVar 5) (aNil)) [some B.v, some pv, some (ksV ks), none, some (.str l), some (.str f), some (.tup (os'.map .int)), none, none, none, none, none, none, none] [] = .ok (.items (enumL 0 (f.map fun c => .str [c]))) [] := rfl
    have e1 : eLv (jEnum (aCons (eVar 5) (aNil))) [10, 11] (.row [10, 11]) (tYesM) (eTup (aCons (eVar 11) (aCons (eOp mIn (eVar 10) (eVar 6)) (aNil)))) [some B.v, some pv, some (ksV ks), none, some (.str l), some (.str f), some (.tup (os'.map .int)), none, none, none, none, none, none, none] [] = .ok (.lv (rtV (rtOf 0 f os'))) [] := by
      rw [eLv_ap, j0, bind_ok, lc_items]
      simp only [wipeM, List.set]
      rw [lc]
      rfl
    simp [-eLv_ap, b_law_pages_1, e1, Pg.szs, pgV]
  obtain ⟨x3', x7, x9', lp⟩ := pages_loop B pv (ksV ks) (.str l) (.str f) (.tup (os'.map .int)) ks l (rtOf 0 f os') [pv] none none ok hk (by rw [rtOf_len]; omega) (by simp; omega)
  have s3 : b_law_pages_2 [some B.v, some pv, some (ksV ks), none, some (.str l), some (.str f), some (.tup (os'.map .int)), some (pgV l (rtOf 0 f os')), some (.ref 0), none, none, none, none, none] [.lst [pv]] = .nx [some B.v, some pv, some (ksV ks), x3', some (.str l), some (.str f), some (.tup (os'.map .int)), x7, some (.ref 0), x9', none, none, none, none] [.lst ([pv] ++ dues B ks l (rtOf 0 f os'))] := by
    have j0 : jSeq (eVar 2) [some B.v, some pv, some (ksV ks), none, some (.str l), some (.str f), some (.tup (os'.map .int)), some (pgV l (rtOf 0 f os')), some (.ref 0), none, none, none, none, none] [.lst [pv]] = .ok (.items (ks.map fun y => .str y.t)) [.lst [pv]] := rfl
    unfold b_law_pages_2
    rw [sFor_ap, j0, bindS_ok, for_items, lp]
  have run : runFn 14 b_law_pages [B.v, pv, ksV ks] [] = .ok (.ref 0) [.lst (pv :: dues B ks l (rtOf 0 f os'))] := by
    rw [runFn_ap]
    show (match b_law_pages [some B.v, some pv, some (ksV ks), none, none, none, none, none, none, none, none, none, none, none] [] with
      | .rt v h' => R.ok v h'
      | .nx _ h' => .ok .non h'
      | .err e _ h' => .err e h'
      | _ => .stuck) = _
    unfold b_law_pages
    rw [sSeq_ap, s1]
    simp only
    rw [sSeq_ap, s2]
    simp only
    rw [sSeq_ap, s3]
    rfl
  have bi : ∀ os : List Int, belowL 0 (os.map .int) = true := fun os => by
    induction os with
    | nil => rfl
    | cons a os ih => simp [belowL, below, ih]
  have bp : below 0 pv = true := by simp only [pv, below, belowL, bi, Bool.and_self]
  have bd : ∀ (ks : List Ky) (l : CP) (r : Rt), belowL 0 (dues B ks l r) = true := fun ks => by
    induction ks with
    | nil => intro l r; rfl
    | cons y ks ih => intro l r; simp only [dues, belowL, bel_told, ih, Bool.and_self]
  show pureV (runFn 14 b_law_pages) [B.v, pv, ksV ks] g = .ok (.lv (pv :: dues B ks l (rtOf 0 f os'))) g
  unfold pureV
  rw [if_pos (by simp only [belowL, bp, belk, Bk.v, below, Bool.and_self]), run]
  have : belowL 0 (pv :: dues B ks l (rtOf 0 f os')) = true := by simp only [belowL, bp, bd, Bool.and_self]
  simp only [pureRV, List.getElem?_cons_zero, this, if_true]
/-! the law -/
theorem like_ok {v : MV} {k w : Nat} (d : Dat k w v) (hk : k ≤ 60) (hw : w ≤ 20000) (g : MH) : m_law_like [v, v] g = .ok (.bl true) g := by
  obtain ⟨s, e⟩ := d.repr hk hw
  have run : runFn 2 b_law_like [v, v] [] = .ok (.bl true) [] := by simp [b_law_like, e]
  show pureV (runFn 2 b_law_like) [v, v] g = _
  unfold pureV
  rw [if_pos (by simp [belowL, d.bel]), run]
  simp [pureRV, pureR, below]
theorem bk_dat {B : Bk} (bo : B.Ok) : Dat 1 100 B.v := by
  have key : ∀ w ∈ [wAlways, wFree, wNever, wApart, wSame, wNone, wOwn, wAny, wOne, wLine], okC w ∧ w.length ≤ 6 := by
    unfold okC
    decide
  have d : ∀ w ∈ [wAlways, wFree, wNever, wApart, wSame, wNone, wOwn, wAny, wOne, wLine], Dat 0 6 (.str w) := fun w hw => (Dat.str (key w hw).1).mono (by omega) (key w hw).2
  obtain ⟨a, b, c, e, f, g⟩ := bo
  have d1 := d B.a (by simp only [List.mem_cons, List.not_mem_nil, or_false] at a ⊢; rcases a with z | z | z <;> simp [z])
  have d2 := d B.b (by simp only [List.mem_cons, List.not_mem_nil, or_false] at b ⊢; rcases b with z | z | z <;> simp [z])
  have d3 := d B.c (by simp only [List.mem_cons, List.not_mem_nil, or_false] at c ⊢; rcases c with z | z <;> simp [z])
  have d4 := d B.d (by simp only [List.mem_cons, List.not_mem_nil, or_false] at e ⊢; rcases e with z | z | z <;> simp [z])
  have d5 := d B.e (by simp only [List.mem_cons, List.not_mem_nil, or_false] at f ⊢; rcases f with z | z | z <;> simp [z])
  have d6 := d B.f (by simp only [List.mem_cons, List.not_mem_nil, or_false] at g ⊢; rcases g with z | z <;> simp [z])
  exact ((DatL.cons d1 (DatL.cons d2 (DatL.cons d3 (DatL.cons d4 (DatL.cons d5 (DatL.cons d6 (DatL.nil 0))))))).tup).mono (by omega) (by omega)
end MP.Q3

namespace GXk05
open MP
def v_OPENERS : MV := (.str [40, 91])
def v_CLOSERS : MV := (.str [41, 93])
def v_QUOTE : MV := (.str [39])
def v_BLANK : MV := (.str [32])
def v_LINE : MV := (.str [47])
def v_LETTERS : MV := (.str [97, 98, 99, 100, 101, 102, 103, 104, 105, 106, 107, 108, 109, 110, 111, 112, 113, 114, 115, 116, 117, 118, 119, 120, 121, 122])
def v_SIGNS : MV := (.str [40, 91, 41, 93, 39, 32, 47, 97, 98, 99, 100, 101, 102, 103, 104, 105, 106, 107, 108, 109, 110, 111, 112, 113, 114, 115, 116, 117, 118, 119, 120, 121, 122])
def v_MOST_TEXT : MV := (.int 200)
abbrev n_CloserError : CP := [67, 108, 111, 115, 101, 114, 69, 114, 114, 111, 114]
abbrev n_BadText : CP := [66, 97, 100, 84, 101, 120, 116]
abbrev n_BadPage : CP := [66, 97, 100, 80, 97, 103, 101]
abbrev n_BadKeys : CP := [66, 97, 100, 75, 101, 121, 115]
abbrev n_BadBook : CP := [66, 97, 100, 66, 111, 111, 107]
abbrev n_BadManner : CP := [66, 97, 100, 77, 97, 110, 110, 101, 114]
abbrev n_NotMeant : CP := [78, 111, 116, 77, 101, 97, 110, 116]
abbrev n_Reading : CP := [82, 101, 97, 100, 105, 110, 103]
abbrev x___init__ : CP := [95, 95, 105, 110, 105, 116, 95, 95]
abbrev x_can_read : CP := [99, 97, 110, 95, 114, 101, 97, 100]
abbrev x_is_quoted : CP := [105, 115, 95, 113, 117, 111, 116, 101, 100]
abbrev x_read : CP := [114, 101, 97, 100]
abbrev f_before : CP := [98, 101, 102, 111, 114, 101]
abbrev f_has_words : CP := [104, 97, 115, 95, 119, 111, 114, 100, 115]
abbrev f_is_open : CP := [105, 115, 95, 111, 112, 101, 110]
abbrev f_needs : CP := [110, 101, 101, 100, 115]
abbrev f_place : CP := [112, 108, 97, 99, 101]
abbrev f_value : CP := [118, 97, 108, 117, 101]
def xsX : List (CP × CP) := [(n_BadText, f_place), (n_BadPage, f_value), (n_BadKeys, f_place), (n_BadBook, f_place), (n_BadManner, f_value), (n_NotMeant, f_place)]
def tbX : List (CP × CP × Bool) := [(n_BadText, n_BadText, true), (n_BadText, n_BadPage, false), (n_BadText, n_BadKeys, false), (n_BadText, n_BadBook, false), (n_BadText, n_BadManner, false), (n_BadText, n_NotMeant, false), (n_BadPage, n_BadText, false), (n_BadPage, n_BadPage, true), (n_BadPage, n_BadKeys, false), (n_BadPage, n_BadBook, false), (n_BadPage, n_BadManner, false), (n_BadPage, n_NotMeant, false), (n_BadKeys, n_BadText, false), (n_BadKeys, n_BadPage, false), (n_BadKeys, n_BadKeys, true), (n_BadKeys, n_BadBook, false), (n_BadKeys, n_BadManner, false), (n_BadKeys, n_NotMeant, false), (n_BadBook, n_BadText, false), (n_BadBook, n_BadPage, false), (n_BadBook, n_BadKeys, false), (n_BadBook, n_BadBook, true), (n_BadBook, n_BadManner, false), (n_BadBook, n_NotMeant, false), (n_BadManner, n_BadText, false), (n_BadManner, n_BadPage, false), (n_BadManner, n_BadKeys, false), (n_BadManner, n_BadBook, false), (n_BadManner, n_BadManner, true), (n_BadManner, n_NotMeant, false), (n_NotMeant, n_BadText, false), (n_NotMeant, n_BadPage, false), (n_NotMeant, n_BadKeys, false), (n_NotMeant, n_BadBook, false), (n_NotMeant, n_BadManner, false), (n_NotMeant, n_NotMeant, true)]
def ci_CloserError : List CP := [n_BadText, n_BadPage, n_BadKeys, n_BadBook, n_BadManner, n_NotMeant]
def co_CloserError : List CP := []
def ttX : List (CP × Ty × Bool) := [(n_BadText, .valErr, true), (n_BadText, .ovfErr, false), (n_BadPage, .valErr, true), (n_BadPage, .ovfErr, false), (n_BadKeys, .valErr, true), (n_BadKeys, .ovfErr, false), (n_BadBook, .valErr, true), (n_BadBook, .ovfErr, false), (n_BadManner, .valErr, true), (n_BadManner, .ovfErr, false), (n_NotMeant, .valErr, true), (n_NotMeant, .ovfErr, false)]
/-- _law_folded(_law_script): slots 0 _law_script, 1 _law_found, 2 _law_n, 3 _law_cell -/
def b_law_folded : MS := sSeq (sAsg (eLc (jRng1 (aCons (eC (.int 64)) (aNil))) [2] (.one 2) (tYesM) (eOp mAdd (eC (.int 17)) (eVar 2))) (gNm 1)) (sSeq (sFor (jEnum (aCons (eVar 0) (aNil))) (gTp 2 (gC (gNm 2) (gC (gNm 3) (gN)))) (sSub (eVar 1) (eOp mMod (eBlt mInt (aCons (eVar 2) (aNil))) (eC (.int 64))) (eOp mMod (eBlt mInt (aCons (eOp mAdd (eOp mMul (eOp mIx (eVar 1) (eOp mMod (eBlt mInt (aCons (eVar 2) (aNil))) (eC (.int 64)))) (eC (.int 48271))) (eVar 3)) (aNil))) (eC (.int 2147483647))))) (sSeq (sFor (jRng2 (aCons (eC (.int 1)) (aCons (eC (.int 64)) (aNil)))) (gNm 2) (sSub (eVar 1) (eVar 2) (eOp mMod (eBlt mInt (aCons (eOp mAdd (eOp mIx (eVar 1) (eVar 2)) (eOp mMul (eOp mIx (eVar 1) (eOp mSub (eVar 2) (eC (.int 1)))) (eC (.int 16807)))) (aNil))) (eC (.int 2147483647))))) (sRet (eVar 1))))
def m_law_folded : MF := runFn 4 b_law_folded
/-- _law_begun(_law_script): slots 0 _law_script, 1 _law_m, 2 _law_cell -/
def b_law_begun : MS := sSeq (sAsg (eDisp [(eC (.str [99, 101, 108, 108, 115]), eCall 1 m_law_folded (aCons (eVar 0) (aNil))), (eC (.str [103, 114, 101, 97, 116]), eLst (aNil)), (eC (.str [115, 112, 111, 116]), eC (.int 0))]) (gNm 1)) (sSeq (sSub (eVar 1) (eC (.str [103, 114, 101, 97, 116])) (eLc (jSeq (eVar 0)) [2] (.one 2) (tYesM) (eIf (tCmp mGe (eVar 2) (eOp mPow (eC (.int 10)) (eC (.int 18)))) (eVar 2) (eC (.int 0))))) (sRet (eVar 1)))
def m_law_begun : MF := runFn 3 b_law_begun
/-- _law_mixed(_law_cell, _law_n): slots 0 _law_cell, 1 _law_n, 2 _law_blend -/
def b_law_mixed : MS := sSeq (sAsg (eOp mAdd (eOp mAdd (eOp mMod (eBlt mInt (aCons (eOp mMul (eOp mMul (eVar 0) (eOp mAdd (eC (.int 1)) (eOp mMul (eC (.int 2)) (eVar 1)))) (eC (.int 48271))) (aNil))) (eC (.int 2147483647))) (eOp mMul (eOp mMul (eC (.int 7919)) (eVar 1)) (eVar 1))) (eOp mMul (eC (.int 104729)) (eVar 1))) (gNm 2)) (sRet (eOp mFdiv (eOp mMod (eBlt mInt (aCons (eOp mMul (eVar 2) (eC (.int 69621))) (aNil))) (eC (.int 2147483629))) (eC (.int 7))))
def m_law_mixed : MF := runFn 3 b_law_mixed
/-- _law_draw(_law_m, _law_limit): slots 0 _law_m, 1 _law_limit, 2 _law_n, 3 _law_lot, 4 _law_here, 5 _law_cell -/
def b_law_draw : MS := sSeq (sAsg (eOp mIx (eVar 0) (eC (.str [115, 112, 111, 116]))) (gNm 2)) (sSeq (sSub (eVar 0) (eC (.str [115, 112, 111, 116])) (eOp mAdd (eVar 2) (eC (.int 1)))) (sSeq (sIf (tCmp mNe (eOp mIx (eVar 0) (eC (.str [103, 114, 101, 97, 116]))) (eLst (aNil))) (sSeq (sAsg (eOp mIx (eVar 0) (eC (.str [103, 114, 101, 97, 116]))) (gNm 3)) (sSeq (sAsg (eOp mMod (eBlt mInt (aCons (eVar 2) (aNil))) (eBlt mLen (aCons (eVar 3) (aNil)))) (gNm 4)) (sSeq (sAsg (eOp mIx (eVar 3) (eVar 4)) (gNm 5)) (sIf (tCmp mGt (eVar 5) (eC (.int 0))) (sSeq (sSub (eVar 3) (eVar 4) (eOp mFdiv (eVar 5) (eVar 1))) (sRet (eOp mMod (eBlt mInt (aCons (eVar 5) (aNil))) (eVar 1)))) (sNil))))) (sNil)) (sSeq (sAsg (eOp mIx (eVar 0) (eC (.str [99, 101, 108, 108, 115]))) (gNm 3)) (sRet (eOp mMod (eBlt mInt (aCons (eCall 2 m_law_mixed (aCons (eCall 2 m_law_mixed (aCons (eOp mAdd (eOp mIx (eVar 3) (eOp mMod (eBlt mInt (aCons (eVar 2) (aNil))) (eC (.int 64)))) (eOp mMul (eC (.int 31)) (eOp mFdiv (eVar 2) (eC (.int 64))))) (aCons (eVar 2) (aNil)))) (aCons (eOp mAdd (eVar 2) (eC (.int 7))) (aNil)))) (aNil))) (eVar 1))))))
def m_law_draw : MF := trimF (runFn 6 b_law_draw)
/-- _law_manner(_law_m): slots 0 _law_m -/
def b_law_manner : MS := sRet (eTup (aCons (eOp mEq (eCall 2 m_law_draw (aCons (eVar 0) (aCons (eC (.int 2)) (aNil)))) (eC (.int 1))) (aCons (eOp mEq (eCall 2 m_law_draw (aCons (eVar 0) (aCons (eC (.int 2)) (aNil)))) (eC (.int 1))) (aCons (eOp mEq (eCall 2 m_law_draw (aCons (eVar 0) (aCons (eC (.int 2)) (aNil)))) (eC (.int 1))) (aNil)))))
def m_law_manner : MF := trimV (runFn 1 b_law_manner)
/-- _law_need_of(_law_manner_here, _law_text_here): slots 0 _law_manner_here, 1 _law_text_here, 2 _law_stack, 3 _law_waits_so, 4 _law_before, 5 _law_place, 6 _law_sign, 7 _law_is_quoted -/
def b_law_need_of_0 : MS := sPar3 2 3 4 (aCons (eLst (aNil)) (aCons (eC (.bl false)) (aCons (eC (.str [])) (aNil))))
def b_law_need_of_1_b_0 : MS := sAsg (eAnd (eOp mNe (eVar 2) (eLstV (aNil))) (eOp mEq (eOp mIx (eVar 2) (eNeg (eC (.int 1)))) (eC (.str [39])))) (gNm 7)
def b_law_need_of_1_b_1 : MS := sIf (tOrM (tAndM (tVal (eVar 7)) (tCmp mEq (eVar 6) (eC (.str [47])))) (tAndM (tVal (eVar 3)) (tNotM (tB (eChain mLe mLe (eC (.str [97])) (eVar 6) (eC (.str [122]))))))) (sRet (eTup (aCons (eBm .str mJoin (eC (.str [])) (aCons (eRevV (eVar 2)) (aNil))) (aCons (eVar 3) (aCons (eVar 5) (aNil)))))) (sNil)
def b_law_need_of_1_b_2 : MS := sIf (tAndM (tNotM (tVal (eVar 7))) (tAndM (tCmp mIn (eVar 6) (eC (.str [41, 93]))) (tOrM (tCmp mEq (eVar 2) (eLstV (aNil))) (tCmp mNe (eOp mIx (eVar 2) (eNeg (eC (.int 1)))) (eVar 6))))) (sRet (eTup (aCons (eBm .str mJoin (eC (.str [])) (aCons (eRevV (eVar 2)) (aNil))) (aCons (eVar 3) (aCons (eVar 5) (aNil)))))) (sNil)
def b_law_need_of_1_b_3 : MS := sAsg (eAnd (eOp mIx (eVar 0) (eC (.int 1))) (eAnd (eNot (eVar 7)) (eAnd (eOp mEq (eVar 6) (eC (.str [39]))) (eChain mLe mLe (eC (.str [97])) (eVar 4) (eC (.str [122])))))) (gNm 3)
def b_law_need_of_1_b_4 : MS := sIf (tOrM (tAndM (tVal (eVar 7)) (tCmp mEq (eVar 6) (eC (.str [39])))) (tAndM (tNotM (tVal (eVar 7))) (tCmp mIn (eVar 6) (eC (.str [41, 93]))))) (sExpr (eBm .list mPop (eVar 2) aNil)) (sIf (tAndM (tNotM (tVal (eVar 7))) (tAndM (tNotM (tVal (eVar 3))) (tCmp mIn (eVar 6) (eC (.str [40, 91, 39]))))) (sExpr (eBm .list mAppend (eVar 2) (aCons (eDg [(eC (.str [40]), eC (.str [41])), (eC (.str [91]), eC (.str [93])), (eC (.str [39]), eC (.str [39]))] (eVar 6)) (aNil)))) (sNil))
def b_law_need_of_1_b : MS := sSeq (b_law_need_of_1_b_0) (sSeq (b_law_need_of_1_b_1) (sSeq (b_law_need_of_1_b_2) (sSeq (b_law_need_of_1_b_3) (sSeq (b_law_need_of_1_b_4) (sAsg (eVar 6) (gNm 4))))))
def b_law_need_of_1 : MS := sFor (jEnum (aCons (eVar 1) (aNil))) (gTp 2 (gC (gNm 5) (gC (gNm 6) (gN)))) (b_law_need_of_1_b)
def b_law_need_of_2 : MS := sRet (eTup (aCons (eBm .str mJoin (eC (.str [])) (aCons (eRevV (eVar 2)) (aNil))) (aCons (eVar 3) (aCons (eC .non) (aNil)))))
def b_law_need_of : MS := sSeq (b_law_need_of_0) (sSeq (b_law_need_of_1) (b_law_need_of_2))
def m_law_need_of : MF := pureV (runFn 8 b_law_need_of)
/-- _law_like(_law_heard_here, _law_due): slots 0 _law_heard_here, 1 _law_due -/
def b_law_like : MS := sRet (eOp mEq (eBlt mRepr (aCons (eVar 0) (aNil))) (eBlt mRepr (aCons (eVar 1) (aNil))))
def m_law_like : MF := pureV (runFn 2 b_law_like)
/-- need_manner(manner): slots 0 manner, 1 word -/
def b_need_manner : MS := sSeq (sIf (tOrM (tNotM (tVal (eBlt mIsi (aCons (eVar 0) (aCons (eC (.ty .tuple)) (aNil)))))) (tOrM (tCmp mNe (eBlt mLen (aCons (eVar 0) (aNil))) (eC (.int 3))) (tNotM (tVal (eBlt mAll (aCons (eLv (jSeq (eVar 0)) [1] (.one 1) (tYesM) (eBlt mIsi (aCons (eVar 1) (aCons (eC (.ty .bool)) (aNil))))) (aNil))))))) (sRaise n_BadManner f_value (aCons (eVar 0) (aNil))) (sNil)) (sRet (eVar 0))
def m_need_manner : MF := runFn 2 b_need_manner
/-- need_text(text): slots 0 text, 1 place, 2 sign -/
def b_need_text : MS := sSeq (sIf (tOrM (tNotM (tVal (eBlt mIsi (aCons (eVar 0) (aCons (eC (.ty .str)) (aNil)))))) (tCmp mGt (eBlt mLen (aCons (eVar 0) (aNil))) (eC v_MOST_TEXT))) (sRaise n_BadText f_place (aCons (eC .non) (aNil))) (sNil)) (sFor (jEnum (aCons (eVar 0) (aNil))) (gTp 2 (gC (gNm 1) (gC (gNm 2) (gN)))) (sIf (tCmp mNotIn (eVar 2) (eC v_SIGNS)) (sRaise n_BadText f_place (aCons (eVar 1) (aNil))) (sNil)))
def m_need_text : MF := runFn 3 b_need_text
/-- Reading.is_quoted(self): slots 0 self -/
def b_Reading_is_quoted : MS := sRet (eOp mEq (eCutV (eFld [n_Reading] f_needs (eVar 0)) (pSo (eNeg (eC (.int 1)))) (pNo)) (eC v_QUOTE))
def m_Reading_is_quoted : MF := runFn 1 b_Reading_is_quoted
/-- is_letter(sign): slots 0 sign -/
def b_is_letter : MS := sRet (eAnd (eOp mNe (eVar 0) (eC (.str []))) (eOp mIn (eVar 0) (eC v_LETTERS)))
def m_is_letter : MF := runFn 1 b_is_letter
/-- Reading.can_read(self, sign): slots 0 self, 1 sign -/
def b_Reading_can_read : MS := sSeq (sIf (tVal (eMeth n_Reading x_is_quoted 1 m_Reading_is_quoted (eVar 0) aNil)) (sRet (eOp mNe (eVar 1) (eC v_LINE))) (sNil)) (sSeq (sIf (tVal (eFld [n_Reading] f_is_open (eVar 0))) (sRet (eCall 1 m_is_letter (aCons (eVar 1) (aNil)))) (sNil)) (sRet (eOr (eOp mNotIn (eVar 1) (eC v_CLOSERS)) (eOp mEq (eCutV (eFld [n_Reading] f_needs (eVar 0)) (pSo (eNeg (eC (.int 1)))) (pNo)) (eVar 1)))))
def m_Reading_can_read : MF := runFn 2 b_Reading_can_read
/-- closer_of(sign): slots 0 sign -/
def b_closer_of : MS := sSeq (sIf (tCmp mEq (eVar 0) (eC v_QUOTE)) (sRet (eC v_QUOTE)) (sNil)) (sRet (eIf (tAndM (tCmp mNe (eVar 0) (eC (.str []))) (tCmp mIn (eVar 0) (eC v_OPENERS))) (eOp mIx (eC v_CLOSERS) (eBm .str mIndexS (eC v_OPENERS) (aCons (eVar 0) (aNil)))) (eC (.str []))))
def m_closer_of : MF := runFn 1 b_closer_of
/-- Reading.read(self, sign): slots 0 self, 1 sign -/
def b_Reading_read : MS := sSeq (sIf (tVal (eMeth n_Reading x_is_quoted 1 m_Reading_is_quoted (eVar 0) aNil)) (sIf (tCmp mEq (eVar 1) (eC v_QUOTE)) (sFldM [n_Reading] f_needs (eVar 0) (eCutV (eFld [n_Reading] f_needs (eVar 0)) (pNo) (pSo (eNeg (eC (.int 1)))))) (sNil)) (sIf (tAndM (tCmp mEq (eVar 1) (eC v_QUOTE)) (tAndM (tVal (eFld [n_Reading] f_has_words (eVar 0))) (tVal (eCall 1 m_is_letter (aCons (eFld [n_Reading] f_before (eVar 0)) (aNil)))))) (sFldM [n_Reading] f_is_open (eVar 0) (eC (.bl true))) (sSeq (sFldM [n_Reading] f_is_open (eVar 0) (eC (.bl false))) (sIf (tCmp mIn (eVar 1) (eOp mAddV (eC v_OPENERS) (eC v_QUOTE))) (sFldAug [n_Reading] f_needs mIAdd (eVar 0) (eCall 1 m_closer_of (aCons (eVar 1) (aNil)))) (sIf (tCmp mIn (eVar 1) (eC v_CLOSERS)) (sFldM [n_Reading] f_needs (eVar 0) (eCutV (eFld [n_Reading] f_needs (eVar 0)) (pNo) (pSo (eNeg (eC (.int 1)))))) (sNil)))))) (sFldM [n_Reading] f_before (eVar 0) (eVar 1))
def m_Reading_read : MF := runFn 2 b_Reading_read
/-- Reading.__init__(self, has_words): slots 0 self, 1 has_words -/
def b_Reading___init__ : MS := sSeq (sFldM [n_Reading] f_has_words (eVar 0) (eVar 1)) (sSeq (sFldM [n_Reading] f_needs (eVar 0) (eC (.str []))) (sSeq (sFldM [n_Reading] f_before (eVar 0) (eC (.str []))) (sFldM [n_Reading] f_is_open (eVar 0) (eC (.bl false)))))
def m_Reading___init__ : MF := runFn 2 b_Reading___init__
/-- read_all(text, has_words): slots 0 text, 1 has_words, 2 reading, 3 place, 4 sign -/
def b_read_all : MS := sSeq (sAsg (eMake n_Reading 2 m_Reading___init__ (aCons (eVar 1) (aNil))) (gNm 2)) (sSeq (sFor (jEnum (aCons (eVar 0) (aNil))) (gTp 2 (gC (gNm 3) (gC (gNm 4) (gN)))) (sSeq (sIf (tNotM (tVal (eMeth n_Reading x_can_read 2 m_Reading_can_read (eVar 2) (aCons (eVar 4) (aNil))))) (sRet (eTup (aCons (eVar 2) (aCons (eVar 3) (aNil))))) (sNil)) (sExpr (eMeth n_Reading x_read 2 m_Reading_read (eVar 2) (aCons (eVar 4) (aNil)))))) (sRet (eTup (aCons (eVar 2) (aCons (eC .non) (aNil))))))
def m_read_all : MF := runFn 5 b_read_all
/-- is_whole(reading): slots 0 reading -/
def b_is_whole : MS := sRet (eAnd (eOp mEq (eFld [n_Reading] f_needs (eVar 0)) (eC (.str []))) (eNot (eFld [n_Reading] f_is_open (eVar 0))))
def m_is_whole : MF := runFn 1 b_is_whole
/-- is_meant(manner, text): slots 0 manner, 1 text, 2 reading, 3 place -/
def b_is_meant : MS := sSeq (sExpr (eCall 1 m_need_manner (aCons (eVar 0) (aNil)))) (sSeq (sExpr (eCall 1 m_need_text (aCons (eVar 1) (aNil)))) (sSeq (sAsg (eCall 2 m_read_all (aCons (eVar 1) (aCons (eOp mIx (eVar 0) (eC (.int 1))) (aNil)))) (gTp 2 (gC (gNm 2) (gC (gNm 3) (gN))))) (sRet (eAnd (eOp mIs (eVar 3) (eC .non)) (eCall 1 m_is_whole (aCons (eVar 2) (aNil)))))))
def m_is_meant : MF := runFn 4 b_is_meant
def p_is_meant : MF := pureV m_is_meant
/-- needs(manner, text): slots 0 manner, 1 text, 2 reading, 3 place -/
def b_needs : MS := sSeq (sExpr (eCall 1 m_need_manner (aCons (eVar 0) (aNil)))) (sSeq (sExpr (eCall 1 m_need_text (aCons (eVar 1) (aNil)))) (sSeq (sAsg (eCall 2 m_read_all (aCons (eVar 1) (aCons (eOp mIx (eVar 0) (eC (.int 1))) (aNil)))) (gTp 2 (gC (gNm 2) (gC (gNm 3) (gN))))) (sSeq (sIf (tCmp mIsNot (eVar 3) (eC .non)) (sRaise n_NotMeant f_place (aCons (eVar 3) (aNil))) (sNil)) (sRet (eRevV (eFld [n_Reading] f_needs (eVar 2)))))))
def m_needs : MF := runFn 4 b_needs
def p_needs : MF := pureV m_needs
/-- need_meant(manner, text): slots 0 manner, 1 text, 2 reading, 3 place -/
def b_need_meant : MS := sSeq (sExpr (eCall 1 m_need_manner (aCons (eVar 0) (aNil)))) (sSeq (sExpr (eCall 1 m_need_text (aCons (eVar 1) (aNil)))) (sSeq (sAsg (eCall 2 m_read_all (aCons (eVar 1) (aCons (eOp mIx (eVar 0) (eC (.int 1))) (aNil)))) (gTp 2 (gC (gNm 2) (gC (gNm 3) (gN))))) (sIf (tOrM (tCmp mIsNot (eVar 3) (eC .non)) (tNotM (tVal (eCall 1 m_is_whole (aCons (eVar 2) (aNil)))))) (sRaise n_NotMeant f_place (aCons (eIf (tCmp mIsNot (eVar 3) (eC .non)) (eVar 3) (eBlt mLen (aCons (eVar 1) (aNil)))) (aNil))) (sNil))))
def m_need_meant : MF := runFn 4 b_need_meant
def p_need_meant : MF := pureV m_need_meant
/-- _law_heard(_law_call): slots 0 _law_call, 1 e, 2 _law_kinds_so, 3 _law_words, 4 _law_found, 5 _law_heard_here, 6 _law_error, 7 _law_one, 8 _law_is_so -/
def b_law_heard_0 : MS := sPar 5 6 (aCons (eLstV (aNil)) (aCons (eC .non) (aNil)))
def b_law_heard_2 : MS := sIf (tCmp mIs (eVar 6) (eC .non)) (sRet (eVar 5)) (sNil)
def b_law_heard_3 : MS := sAsg (eLstV (aCons (eBlt (mIsX tbX ttX) (aCons (eVar 6) (aCons (eC (.glo n_BadText)) (aNil)))) (aCons (eBlt (mIsX tbX ttX) (aCons (eVar 6) (aCons (eC (.glo n_BadPage)) (aNil)))) (aCons (eBlt (mIsX tbX ttX) (aCons (eVar 6) (aCons (eC (.glo n_BadKeys)) (aNil)))) (aNil))))) (gNm 2)
def b_law_heard_4 : MS := sAsg (eOp mAddV (eVar 2) (eLstV (aCons (eBlt (mIsX tbX ttX) (aCons (eVar 6) (aCons (eC (.glo n_BadBook)) (aNil)))) (aCons (eBlt (mIsX tbX ttX) (aCons (eVar 6) (aCons (eC (.glo n_BadManner)) (aNil)))) (aCons (eBlt (mIsX tbX ttX) (aCons (eVar 6) (aCons (eC (.glo n_NotMeant)) (aNil)))) (aNil)))))) (gNm 2)
def b_law_heard_5 : MS := sAsg (eLstV (aCons (eC (.str [116, 101, 120, 116])) (aCons (eC (.str [112, 97, 103, 101])) (aCons (eC (.str [107, 101, 121, 115])) (aCons (eC (.str [98, 111, 111, 107])) (aCons (eC (.str [109, 97, 110, 110, 101, 114])) (aCons (eC (.str [109, 101, 97, 110, 116])) (aNil)))))))) (gNm 3)
def b_law_heard_6 : MS := sAsg (eLv (jZip (aCons (eVar 3) (aCons (eVar 2) (aNil)))) [7, 8] (.row [7, 8]) (tVal (eVar 8)) (eVar 7)) (gNm 4)
def b_law_heard_7 : MS := sIf (tOrM (tCmp mNe (eBlt mLen (aCons (eVar 4) (aNil))) (eC (.int 1))) (tNotM (tVal (eBlt (mIsX tbX ttX) (aCons (eVar 6) (aCons (eC (.ty .valErr)) (aNil))))))) (sRet (eC (.str [111, 100, 100]))) (sNil)
def b_law_heard_8 : MS := sRet (eTup (aCons (eOp mIx (eVar 4) (eC (.int 0))) (aCons (eIf (tCmp mIn (eOp mIx (eVar 4) (eC (.int 0))) (eTup (aCons (eC (.str [112, 97, 103, 101])) (aCons (eC (.str [109, 97, 110, 110, 101, 114])) (aNil))))) (eXf [n_BadPage, n_BadManner] f_value (eVar 6)) (eXf [n_BadText, n_BadKeys, n_BadBook, n_NotMeant] f_place (eVar 6))) (aNil))))
def b_law_heard (G : MS → MS) (act : MH → R MV) : MS := sSeq (b_law_heard_0) (sSeq (G (sTryL (fun v => .lv [v]) act 5 6 1 ci_CloserError co_CloserError)) (sSeq (b_law_heard_2) (sSeq (b_law_heard_3) (sSeq (b_law_heard_4) (sSeq (b_law_heard_5) (sSeq (b_law_heard_6) (sSeq (b_law_heard_7) (b_law_heard_8))))))))
def m_law_heard (act : MH → R MV) (h : MH) : R MV := runFn 9 (b_law_heard id act) [.non] h
/-- _law_one_right(_law_manner_here, _law_text_here): slots 0 _law_manner_here, 1 _law_text_here, 2 _law_closed_so, 3 _law_due, 4 _law_need, 5 _law_waits_so, 6 _law_place -/
def b_law_one_right_0 : MS := sAsg (eCall 2 m_law_need_of (aCons (eVar 0) (aCons (eVar 1) (aNil)))) (gTp 3 (gC (gNm 4) (gC (gNm 5) (gC (gNm 6) (gN)))))
def b_law_one_right_1 : MS := sAsg (eAnd (eOp mIs (eVar 6) (eC .non)) (eAnd (eOp mEq (eVar 4) (eC (.str []))) (eNot (eVar 5)))) (gNm 2)
def b_law_one_right_2 : MS := sIf (tNotM (tVal (eCall 2 m_law_like (aCons (eLstV (aCons (eCall 2 p_is_meant (aCons (eVar 0) (aCons (eVar 1) (aNil)))) (aCons (eCall 2 p_is_meant (aCons (eVar 0) (aCons (eVar 1) (aNil)))) (aNil)))) (aCons (eLstV (aCons (eVar 2) (aCons (eVar 2) (aNil)))) (aNil)))))) (sRet (eC (.bl false))) (sNil)
def b_law_one_right_3 : MS := sIf (tNotM (tVal (eCall 2 m_law_like (aCons (eLam 7 [0, 1] m_law_heard (eCall 2 p_needs (aCons (eVar 0) (aCons (eVar 1) (aNil))))) (aCons (eIf (tCmp mIs (eVar 6) (eC .non)) (eLstV (aCons (eVar 4) (aNil))) (eTup (aCons (eC (.str [109, 101, 97, 110, 116])) (aCons (eVar 6) (aNil))))) (aNil)))))) (sRet (eC (.bl false))) (sNil)
def b_law_one_right_4 : MS := sAsg (eIf (tVal (eVar 2)) (eLstV (aCons (eC .non) (aNil))) (eTup (aCons (eC (.str [109, 101, 97, 110, 116])) (aCons (eIf (tCmp mIs (eVar 6) (eC .non)) (eBlt mLen (aCons (eVar 1) (aNil))) (eVar 6)) (aNil))))) (gNm 3)
def b_law_one_right_5 : MS := sRet (eCall 2 m_law_like (aCons (eLam 7 [0, 1] m_law_heard (eCall 2 p_need_meant (aCons (eVar 0) (aCons (eVar 1) (aNil))))) (aCons (eVar 3) (aNil))))
def b_law_one_right : MS := sSeq (b_law_one_right_0) (sSeq (b_law_one_right_1) (sSeq (b_law_one_right_2) (sSeq (b_law_one_right_3) (sSeq (b_law_one_right_4) (b_law_one_right_5)))))
def m_law_one_right : MF := pureV (runFn 7 b_law_one_right)
/-- _law_text(_law_m, _law_most): slots 0 _law_m, 1 _law_most, 2 _law_turn -/
def b_law_text : MS := sRet (eBm .str mJoin (eC (.str [])) (aCons (eLv (jRng1 (aCons (eCall 2 m_law_draw (aCons (eVar 0) (aCons (eOp mAddV (eVar 1) (eC (.int 1))) (aNil)))) (aNil))) [2] (.one 2) (tYesM) (eOp mIx (eC (.str [40, 91, 41, 93, 39, 32, 47, 97, 98, 122, 39, 39, 40, 41, 91])) (eCall 2 m_law_draw (aCons (eVar 0) (aCons (eC (.int 15)) (aNil)))))) (aNil)))
def m_law_text : MF := trimV (runFn 3 b_law_text)
/-- _law_meant(_law_m, _law_manner_here, _law_most): slots 0 _law_m, 1 _law_manner_here, 2 _law_most, 3 _law_text_here, 4 _law_turn, 5 _law_some, 6 _law_sign, 7 _law_need, 8 _law_waits_so, 9 _law_place -/
def b_law_meant_1_b_0 : MS := sAsg (eCall 2 m_law_need_of (aCons (eVar 1) (aCons (eVar 3) (aNil)))) (gTp 3 (gC (gNm 7) (gC (gNm 8) (gC (gNm 9) (gN)))))
def b_law_meant_1_b_1 : MS := sAsg (eIf (tVal (eVar 8)) (eLstV (aCons (eC (.str [97])) (aCons (eC (.str [122])) (aNil)))) (eLstV (aCons (eC (.str [97])) (aCons (eC (.str [122])) (aCons (eC (.str [32])) (aCons (eC (.str [47])) (aCons (eC (.str [40])) (aCons (eC (.str [91])) (aCons (eC (.str [39])) (aCons (eC (.str [39])) (aCons (eC (.str [41])) (aCons (eC (.str [93])) (aCons (eCutV (eVar 7) (pNo) (pSo (eC (.int 1)))) (aCons (eCutV (eVar 7) (pNo) (pSo (eC (.int 1)))) (aNil))))))))))))))) (gNm 5)
def b_law_meant_1_b_2 : MS := sAsg (eOp mIx (eVar 5) (eCall 2 m_law_draw (aCons (eVar 0) (aCons (eBlt mLen (aCons (eVar 5) (aNil))) (aNil))))) (gNm 6)
def b_law_meant_1_b_3 : MS := sIf (tCmp mIs (eOp mIx (eCall 2 m_law_need_of (aCons (eVar 1) (aCons (eOp mAddV (eVar 3) (eVar 6)) (aNil)))) (eC (.int 2))) (eC .non)) (sAsg (eOp mAddV (eVar 3) (eVar 6)) (gNm 3)) (sNil)
def b_law_meant_1_b : MS := sSeq (b_law_meant_1_b_0) (sSeq (b_law_meant_1_b_1) (sSeq (b_law_meant_1_b_2) (b_law_meant_1_b_3)))
def b_law_meant_1 : MS := sFor (jRng1 (aCons (eCall 2 m_law_draw (aCons (eVar 0) (aCons (eOp mAddV (eVar 2) (eC (.int 1))) (aNil)))) (aNil))) (gNm 4) (b_law_meant_1_b)
def b_law_meant_2 : MS := sAsg (eCall 2 m_law_need_of (aCons (eVar 1) (aCons (eVar 3) (aNil)))) (gTp 3 (gC (gNm 7) (gC (gNm 8) (gC (gNm 9) (gN)))))
def b_law_meant_3 : MS := sRet (eOp mAddV (eOp mAddV (eVar 3) (eIf (tVal (eVar 8)) (eC (.str [97])) (eC (.str [])))) (eVar 7))
def b_law_meant : MS := sSeq (sAsg (eC (.str [])) (gNm 3)) (sSeq (b_law_meant_1) (sSeq (b_law_meant_2) (b_law_meant_3)))
def m_law_meant : MF := trimV (runFn 10 b_law_meant)
/-- _law_is_closed(_law_manner_here, _law_text_here): slots 0 _law_manner_here, 1 _law_text_here -/
def b_law_is_closed : MS := sRet (eOp mEq (eCall 2 m_law_need_of (aCons (eVar 0) (aCons (eVar 1) (aNil)))) (eTup (aCons (eC (.str [])) (aCons (eC (.bl false)) (aCons (eC .non) (aNil))))))
def m_law_is_closed : MF := pureV (runFn 2 b_law_is_closed)
/-- law(_law_script): slots 0 _law_script, 1 _law_m, 2 _law_turn, 3 _law_letter, 4 _law_deep, 5 _law_manner_here, 6 _law_text_here, 7 _law_begin, 8 _law_one, 9 _law_other -/
def b_law_0 : MS := sAsg (eCall 1 m_law_begun (aCons (eVar 0) (aNil))) (gNm 1)
def b_law_1_b_0 : MS := sAsg (eCall 1 m_law_manner (aCons (eVar 1) (aNil))) (gNm 5)
def b_law_1_b_1 : MS := sIf (tNotM (tVal (eCall 2 m_law_one_right (aCons (eVar 5) (aCons (eCall 2 m_law_text (aCons (eVar 1) (aCons (eC (.int 12)) (aNil)))) (aNil)))))) (sRet (eC (.bl false))) (sNil)
def b_law_1_b_2 : MS := sAsg (eCall 3 m_law_meant (aCons (eVar 1) (aCons (eVar 5) (aCons (eC (.int 10)) (aNil))))) (gNm 6)
def b_law_1_b_3 : MS := sIf (tOrM (tNotM (tVal (eCall 2 m_law_is_closed (aCons (eVar 5) (aCons (eVar 6) (aNil)))))) (tNotM (tVal (eCall 2 m_law_one_right (aCons (eVar 5) (aCons (eVar 6) (aNil))))))) (sRet (eC (.bl false))) (sNil)
def b_law_1_b_4 : MS := sAsg (eCutV (eVar 6) (pNo) (pSo (eCall 2 m_law_draw (aCons (eVar 1) (aCons (eOp mAddV (eBlt mLen (aCons (eVar 6) (aNil))) (eC (.int 1))) (aNil)))))) (gNm 7)
def b_law_1_b_5_b_0 : MS := sIf (tNotM (tVal (eCall 2 m_law_one_right (aCons (eVar 5) (aCons (eOp mAddV (eVar 7) (eVar 8)) (aNil)))))) (sRet (eC (.bl false))) (sNil)
def b_law_1_b_5_b_1_b : MS := sIf (tNotM (tVal (eCall 2 m_law_one_right (aCons (eVar 5) (aCons (eOp mAddV (eOp mAddV (eVar 7) (eVar 8)) (eVar 9)) (aNil)))))) (sRet (eC (.bl false))) (sNil)
def b_law_1_b_5_b_1 : MS := sFor (jSeq (eC (.str [40, 91, 41, 93, 39, 32, 47, 122]))) (gNm 9) (b_law_1_b_5_b_1_b)
def b_law_1_b_5 : MS := sFor (jSeq (eC (.str [40, 91, 41, 93, 39, 32, 47, 97]))) (gNm 8) (sSeq (b_law_1_b_5_b_0) (b_law_1_b_5_b_1))
def b_law_1_b : MS := sSeq (b_law_1_b_0) (sSeq (b_law_1_b_1) (sSeq (b_law_1_b_2) (sSeq (b_law_1_b_3) (sSeq (b_law_1_b_4) (b_law_1_b_5)))))
def b_law_1 : MS := sFor (jRng1 (aCons (eC (.int 4)) (aNil))) (gNm 2) (b_law_1_b)
def b_law_2_b : MS := sIf (tOrM (tNotM (tVal (eCall 2 p_is_meant (aCons (eTup (aCons (eC (.bl false)) (aCons (eC (.bl true)) (aCons (eC (.bl false)) (aNil))))) (aCons (eOp mAddV (eOp mAddV (eVar 3) (eC (.str [39]))) (eVar 3)) (aNil)))))) (tVal (eCall 2 p_is_meant (aCons (eTup (aCons (eC (.bl false)) (aCons (eC (.bl false)) (aCons (eC (.bl false)) (aNil))))) (aCons (eOp mAddV (eVar 3) (eC (.str [39]))) (aNil)))))) (sRet (eC (.bl false))) (sNil)
def b_law_2 : MS := sFor (jSeq (eC (.str [97, 98, 99, 100, 101, 102, 103, 104, 105, 106, 107, 108, 109, 110, 111, 112, 113, 114, 115, 116, 117, 118, 119, 120, 121, 122]))) (gNm 3) (b_law_2_b)
def b_law_3 : MS := sAsg (eOp mMulS (eC (.str [40, 91])) (eC (.int 50))) (gNm 4)
def b_law_4 : MS := sIf (tOrM (tCmp mNe (eCall 2 p_needs (aCons (eTup (aCons (eC (.bl true)) (aCons (eC (.bl true)) (aCons (eC (.bl false)) (aNil))))) (aCons (eVar 4) (aNil)))) (eOp mMulS (eC (.str [93, 41])) (eC (.int 50)))) (tCmp mIsNot (eCall 2 p_is_meant (aCons (eTup (aCons (eC (.bl false)) (aCons (eC (.bl false)) (aCons (eC (.bl true)) (aNil))))) (aCons (eOp mAddV (eVar 4) (eOp mMulS (eC (.str [93, 41])) (eC (.int 50)))) (aNil)))) (eC (.bl true)))) (sRet (eC (.bl false))) (sNil)
def b_law_5 : MS := sRet (eAnd (eOp mEq (eCall 2 p_needs (aCons (eTup (aCons (eC (.bl false)) (aCons (eC (.bl true)) (aCons (eC (.bl false)) (aNil))))) (aCons (eC (.str [97, 39])) (aNil)))) (eC (.str []))) (eNot (eCall 2 p_is_meant (aCons (eTup (aCons (eC (.bl false)) (aCons (eC (.bl true)) (aCons (eC (.bl false)) (aNil))))) (aCons (eC (.str [97, 39])) (aNil))))))
def b_law : MS := sSeq (b_law_0) (sSeq (b_law_1) (sSeq (b_law_2) (sSeq (b_law_3) (sSeq (b_law_4) (b_law_5)))))
def m_law : MF := runFn 10 b_law
end GXk05

namespace GXk05
open PySem L2 MP MP.Pg MP.Le MP.Ld MP.N1
theorem draw_eq : m_law_draw = Cm.m_law_draw := rfl
theorem begun_eq : m_law_begun = Cm.m_law_begun := rfl
theorem text_eq : m_law_text = Q3.m_law_text := rfl
theorem like_eq : m_law_like = Q3.m_law_like := rfl
theorem manner_eq : m_law_manner = Q9.m_law_manner := rfl
theorem meant_eq : m_law_meant = Q9.m_law_meant := rfl
theorem need_eq : m_law_need_of = Q9.m_law_need_of := rfl
theorem pm_eq : p_is_meant = pureV Px.m_is_meant := rfl
theorem pn_eq : p_needs = pureV Px.m_needs := rfl
theorem pe_eq : p_need_meant = pureV Px.m_need_meant := rfl
theorem alph_sgn : ∀ c ∈ Q3.Alph, sgn c = true := by decide
theorem pure_err {m : MF} {as : List MV} {x : MX} (ha : belowL 0 as = true) (hv : belowF 0 x.fs = true) (e : ∃ h', m as [] = .err x h') (g : MH) : pureV m as g = .err x g := by
  obtain ⟨h', e⟩ := e
  unfold pureV
  rw [if_pos ha, e]
  simp only [pureRV, pureR, hv, if_true]
section
variable {act : MH → R MV} {h h' : MH} {v : MV}
theorem heard_ok (e : act h = .ok v h') : m_law_heard act h = .ok (.lv [v]) h' := by
  have z : sTryL (fun v => .lv [v]) act 5 6 1 ci_CloserError co_CloserError [some .non, none, none, none, none, some (.lv []), some .non, none, none] h = .nx [none, none, none, none, none, some (.lv [v]), some .non, none, none] h' := by
    simp [sTryL, e]
  show (match (match sTryL (fun v => .lv [v]) act 5 6 1 ci_CloserError co_CloserError [some .non, none, none, none, none, some (.lv []), some .non, none, none] h with
      | .nx s1 h1 => (sSeq (b_law_heard_2) (sSeq (b_law_heard_3) (sSeq (b_law_heard_4) (sSeq (b_law_heard_5) (sSeq (b_law_heard_6) (sSeq (b_law_heard_7) (b_law_heard_8))))))) s1 h1
      | o => o) with
    | .rt v h' => R.ok v h'
    | .nx _ h' => .ok .non h'
    | .err e _ h' => .err e h'
    | _ => .stuck) = _
  rw [z]
  rfl
theorem heard_err (e : act h = .err ⟨n_NotMeant, [(f_place, v)]⟩ h') : m_law_heard act h = .ok (.tup [.str [109, 101, 97, 110, 116], v]) h' := by
  have z : sTryL (fun v => .lv [v]) act 5 6 1 ci_CloserError co_CloserError [some .non, none, none, none, none, some (.lv []), some .non, none, none] h = .nx [none, none, none, none, none, some (.lv []), some (.exc n_NotMeant [f_place] [v]), none, none] h' := by
    have c : n_NotMeant ∈ ci_CloserError := by decide +kernel
    simp [sTryL, e, c, excOf]
  show (match (match sTryL (fun v => .lv [v]) act 5 6 1 ci_CloserError co_CloserError [some .non, none, none, none, none, some (.lv []), some .non, none, none] h with
      | .nx s1 h1 => (sSeq (b_law_heard_2) (sSeq (b_law_heard_3) (sSeq (b_law_heard_4) (sSeq (b_law_heard_5) (sSeq (b_law_heard_6) (sSeq (b_law_heard_7) (b_law_heard_8))))))) s1 h1
      | o => o) with
    | .rt v h' => R.ok v h'
    | .nx _ h' => .ok .non h'
    | .err e _ h' => .err e h'
    | _ => .stuck) = _
  rw [z]
  kernel_rfl
end
theorem bel_as (sl hw bh : Bool) (l : CP) : belowL 0 [mnV sl hw bh, .str l] = true := by simp [belowL, below, mnV]
/-- what is due of a text that is read so -/
def needDue (q : Rg × Option Nat) : MV := match q.2 with
  | none => .lv [.str q.1.needs.reverse]
  | some j => .tup [.str [109, 101, 97, 110, 116], .int (j : Int)]
def meantDue (n : Nat) (q : Rg × Option Nat) : MV := if closedB q then .lv [.non] else .tup [.str [109, 101, 97, 110, 116], match q.2 with
  | none => .int (n : Int)
  | some j => .int (j : Int)]
section
variable {sl hw bh : Bool} {l : CP}
theorem p_meant (hl : l.length ≤ 200) (hs : ∀ c ∈ l, sgn c = true) (g : MH) : p_is_meant [mnV sl hw bh, .str l] g = .ok (.bl (closedB (readP hw l r0 0))) g := by
  rw [pm_eq]
  exact pure_of (bel_as sl hw bh l) rfl (is_meant_ok hl hs []) g
theorem yd_needs (hl : l.length ≤ 200) (hs : ∀ c ∈ l, sgn c = true) (g : MH) : m_law_heard (p_needs [mnV sl hw bh, .str l]) g = .ok (needDue (readP hw l r0 0)) g := by
  obtain ⟨h', e⟩ := needs_ok (sl := sl) (hw := hw) (bh := bh) hl hs []
  unfold needDue
  cases hp : (readP hw l r0 0).2 with
  | none =>
    refine heard_ok ?_
    rw [pn_eq]
    exact pure_of (bel_as sl hw bh l) rfl ⟨h', by rw [e, needsR, hp]⟩ g
  | some j =>
    refine heard_err ?_
    rw [pn_eq]
    exact pure_err (bel_as sl hw bh l) rfl ⟨h', by rw [e, needsR, hp]⟩ g
theorem yd_meant (hl : l.length ≤ 200) (hs : ∀ c ∈ l, sgn c = true) (g : MH) : m_law_heard (p_need_meant [mnV sl hw bh, .str l]) g = .ok (meantDue l.length (readP hw l r0 0)) g := by
  obtain ⟨h', e⟩ := need_meant_ok (sl := sl) (hw := hw) (bh := bh) hl hs []
  unfold meantDue closedB
  cases hp : (readP hw l r0 0).2 with
  | none =>
    cases hq : wholeB (readP hw l r0 0).1 with
    | true =>
      refine heard_ok ?_
      rw [pe_eq]
      exact pure_of (bel_as sl hw bh l) rfl ⟨h', by rw [e, meantR, hp]; simp [hq]⟩ g
    | false =>
      refine heard_err ?_
      rw [pe_eq]
      exact pure_err (bel_as sl hw bh l) rfl ⟨h', by rw [e, meantR, hp]; simp [hq]⟩ g
  | some j =>
    refine heard_err ?_
    rw [pe_eq]
    exact pure_err (bel_as sl hw bh l) rfl ⟨h', by rw [e, meantR, hp]⟩ g
theorem stk (hw : Bool) : ∀ (l : CP) (r : Rg) (i : Nat), (∀ c ∈ r.needs, c = 41 ∨ c = 93 ∨ c = 39) → ∀ c ∈ (readP hw l r i).1.needs, c = 41 ∨ c = 93 ∨ c = 39
  | [], r, i, h => h
  | c :: l, r, i, h => by
    unfold readP
    split
    · refine stk hw l _ _ ?_
      intro d hd
      have k : ∀ d ∈ oT (closerN c), d = 41 ∨ d = 93 ∨ d = 39 := by
        intro d hd
        unfold closerN at hd
        split at hd
        · simp [oT] at hd; omega
        · split at hd
          · simp [oT] at hd; omega
          · split at hd
            · simp [oT] at hd; omega
            · simp [oT] at hd
      unfold Rg.step at hd
      split at hd
      · simp only at hd
        split at hd
        · exact h d ((List.dropLast_sublist _).mem hd)
        · exact h d hd
      · split at hd
        · exact h d hd
        · simp only at hd
          split at hd
          · rcases List.mem_append.mp hd with z | z
            · exact h d z
            · exact k d z
          · split at hd
            · exact h d ((List.dropLast_sublist _).mem hd)
            · exact h d hd
    · exact h
theorem nd_dat (hl : l.length ≤ 200) : Dat 2 1000 (needDue (readP hw l r0 0)) := by
  unfold needDue
  have nl := readP_len hw l r0 0
  have n0 : r0.needs.length = 0 := rfl
  cases hp : (readP hw l r0 0).2 with
  | none =>
    have d : Dat 0 (readP hw l r0 0).1.needs.reverse.length (.str (readP hw l r0 0).1.needs.reverse) := Dat.str fun c hc => by
      have := stk hw l r0 0 (fun c hc => by cases hc) c (List.mem_reverse.mp hc)
      rcases this with rfl | rfl | rfl <;> decide
    exact ((DatL.cons (d.mono (Nat.le_refl _) (show _ ≤ 200 by rw [List.length_reverse]; omega)) (DatL.nil 0)).lv).mono (by omega) (by omega)
  | some j =>
    have lt := readP_lt hw l r0 0 j hp
    exact ((DatL.cons ((Dat.str (l := [109, 101, 97, 110, 116]) (by unfold okC; decide)).mono (Nat.le_refl _) (show _ ≤ 5 by decide)) (DatL.cons (Dat.int (i := (j : Int)) (by omega)) (DatL.nil 0))).tup).mono (by omega) (by omega)
theorem md_dat (hl : l.length ≤ 200) : Dat 2 1000 (meantDue l.length (readP hw l r0 0)) := by
  unfold meantDue
  split
  · exact ((DatL.cons Dat.non (DatL.nil 0)).lv).mono (by omega) (by omega)
  · have k : ∀ j : Nat, j ≤ 200 → Dat 2 1000 (.tup [.str [109, 101, 97, 110, 116], .int (j : Int)]) := fun j hj =>
      ((DatL.cons ((Dat.str (l := [109, 101, 97, 110, 116]) (by unfold okC; decide)).mono (Nat.le_refl _) (show _ ≤ 5 by decide)) (DatL.cons (Dat.int (i := (j : Int)) (by omega)) (DatL.nil 0))).tup).mono (by omega) (by omega)
    cases hp : (readP hw l r0 0).2 with
    | none => exact k _ hl
    | some j => exact k _ (by have := readP_lt hw l r0 0 j hp; omega)
theorem one_ok (hl : l.length ≤ 200) (hs : ∀ c ∈ l, sgn c = true) (g : MH) : m_law_one_right [mnV sl hw bh, .str l] g = .ok (.bl true) g := by
  have nd : ∀ g, m_law_need_of [mnV sl hw bh, .str l] g = .ok (.tup [.str (readP hw l r0 0).1.needs.reverse, .bl (readP hw l r0 0).1.op, plV (readP hw l r0 0).2]) g := fun g => by
    rw [need_eq]; exact need_of_P (by omega) g
  have pm := fun g => p_meant (sl := sl) (hw := hw) (bh := bh) hl hs g
  have hn := fun g => yd_needs (sl := sl) (hw := hw) (bh := bh) hl hs g
  have hm := fun g => yd_meant (sl := sl) (hw := hw) (bh := bh) hl hs g
  have ln : ∀ g, mLen [.str l] g = some (.int (l.length : Int), g) := fun g => len_str (l := l) (by omega) g
  have lk : ∀ (v : MV) (g : MH), Dat 2 1000 v → m_law_like [v, v] g = .ok (.bl true) g := fun v g d => by rw [like_eq]; exact Q3.like_ok d (by omega) (by omega) g
  generalize hq : readP hw l r0 0 = q at nd pm hn hm
  have dn : Dat 2 1000 (needDue q) := hq ▸ nd_dat hl
  have dm : Dat 2 1000 (meantDue l.length q) := hq ▸ md_dat hl
  let s0 : Sl := [some (mnV sl hw bh), some (.str l), none, none, none, none, none]
  let s1 : Sl := [some (mnV sl hw bh), some (.str l), none, none, some (.str q.1.needs.reverse), some (.bl q.1.op), some (plV q.2)]
  let s2 : Sl := [some (mnV sl hw bh), some (.str l), some (.bl (closedB q)), none, some (.str q.1.needs.reverse), some (.bl q.1.op), some (plV q.2)]
  let s3 : Sl := [some (mnV sl hw bh), some (.str l), some (.bl (closedB q)), some (meantDue l.length q), some (.str q.1.needs.reverse), some (.bl q.1.op), some (plV q.2)]
  have e0 : b_law_one_right_0 s0 [] = .nx s1 [] := by simp [b_law_one_right_0, s0, s1, nd]
  have ie : (q.1.needs.reverse == ([] : CP)) = q.1.needs.isEmpty := by cases hh : q.1.needs <;> simp [hh]
  have e1 : b_law_one_right_1 s1 [] = .nx s2 [] := by
    cases hp : q.2 with
    | none =>
      have na : ∀ (t : CP) (a : Nat), (t ++ [a]).isEmpty = false := fun t a => by cases t <;> rfl
      cases hv : q.1.needs <;> cases ho : q.1.op <;> simp [b_law_one_right_1, s1, s2, plV, mIs, closedB, wholeB, hp, hv, ho, na]
    | some j => simp [b_law_one_right_1, s1, s2, plV, mIs, closedB, hp]
  have e2 : b_law_one_right_2 s2 [] = .nx s2 [] := by
    have d : Dat 2 1000 (.lv [.bl (closedB q), .bl (closedB q)]) := ((DatL.cons (Dat.bl _) (DatL.cons (Dat.bl _) (DatL.nil 0))).lv).mono (by omega) (by omega)
    simp [b_law_one_right_2, s2, pm, Pg.szs, lk _ _ d]
  have c3 : ∀ (m : ME) (g : MH), eLam 7 [0, 1] m_law_heard m s2 g = m_law_heard (fun h1 => m [some (mnV sl hw bh), some (.str l), none, none, none, none, none] h1) g := fun _ _ => rfl
  have c4 : ∀ (m : ME) (g : MH), eLam 7 [0, 1] m_law_heard m s3 g = m_law_heard (fun h1 => m [some (mnV sl hw bh), some (.str l), none, none, none, none, none] h1) g := fun _ _ => rfl
  have a3 : ∀ g, m_law_heard (fun h1 => eCall 2 p_needs (aCons (eVar 0) (aCons (eVar 1) (aNil))) [some (mnV sl hw bh), some (.str l), none, none, none, none, none] h1) g = .ok (needDue q) g := hn
  have a4 : ∀ g, m_law_heard (fun h1 => eCall 2 p_need_meant (aCons (eVar 0) (aCons (eVar 1) (aNil))) [some (mnV sl hw bh), some (.str l), none, none, none, none, none] h1) g = .ok (meantDue l.length q) g := hm
  have e3 : b_law_one_right_3 s2 [] = .nx s2 [] := by
    have du : ∀ g, (eIf (tCmp mIs (eVar 6) (eC .non)) (eLstV (aCons (eVar 4) (aNil))) (eTup (aCons (eC (.str [109, 101, 97, 110, 116])) (aCons (eVar 6) (aNil))))) s2 g = .ok (needDue q) g := fun g => by
      cases hp : q.2 with
      | none => simp [s2, plV, mIs, hp, needDue, Pg.szs]
      | some j => simp [s2, plV, mIs, hp, needDue, Pg.szs]
    unfold b_law_one_right_3
    rw [sIf_ap, tNotM_ap, tVal_ap, eCall_ap, aCons_ap, c3, a3, bind_ok, aCons_ap, du]
    simp [lk _ _ dn]
  have e4 : b_law_one_right_4 s2 [] = .nx s3 [] := by
    cases hc : closedB q with
    | true => simp [b_law_one_right_4, s2, s3, hc, meantDue, Pg.szs]
    | false =>
      cases hp : q.2 with
      | none => simp [b_law_one_right_4, s2, s3, hc, meantDue, Pg.szs, hp, plV, mIs, ln]
      | some j => simp [b_law_one_right_4, s2, s3, hc, meantDue, Pg.szs, hp, plV, mIs]
  have e5 : b_law_one_right_5 s3 [] = .rt (.bl true) [] := by
    unfold b_law_one_right_5
    rw [sRet_ap, eCall_ap, aCons_ap, c4, a4]
    simp [s3, lk _ _ dm]
  refine pure_of (bel_as sl hw bh l) rfl ⟨[], ?_⟩ g
  show (match b_law_one_right s0 [] with
    | .rt v h' => R.ok v h'
    | .nx _ h' => .ok .non h'
    | .err e _ h' => .err e h'
    | _ => .stuck) = _
  unfold b_law_one_right
  rw [sSeq_ap, e0]
  simp only
  rw [sSeq_ap, e1]
  simp only
  rw [sSeq_ap, e2]
  simp only
  rw [sSeq_ap, e3]
  simp only
  rw [sSeq_ap, e4]
  simp only
  rw [e5]
theorem closed_ok {r' : Rg} (hl : l.length ≤ 200) (hr : readAll hw l r0 = some r') (hw' : (r'.needs.isEmpty && !r'.op) = true) (g : MH) : m_law_is_closed [mnV sl hw bh, .str l] g = .ok (.bl true) g := by
  have e := readP_all hw l r0 0
  rw [hr] at e
  have hp : (readP hw l r0 0).2 = none := by
    cases hp : (readP hw l r0 0).2 with
    | none => rfl
    | some j => rw [hp] at e; cases e
  rw [hp] at e
  have e : r' = (readP hw l r0 0).1 := Option.some.inj e
  rw [e, Bool.and_eq_true] at hw'
  have nd : m_law_need_of [mnV sl hw bh, .str l] [] = .ok (.tup [.str [], .bl false, .non]) [] := by
    rw [need_eq, need_of_P (by omega), hp]
    have h1 : (readP hw l r0 0).1.needs = [] := List.isEmpty_iff.mp hw'.1
    have h2 : (readP hw l r0 0).1.op = false := by simpa using hw'.2
    rw [h1, h2]
    rfl
  refine pure_of (bel_as sl hw bh l) rfl ⟨[], ?_⟩ g
  have q : mEqv (.tup [.str [], .bl false, .non]) (.tup [.str [], .bl false, .non]) [] = some true := by decide +kernel
  simp [b_law_is_closed, nd, Pg.szs, q]
end
/-! ### the law -/
def lawS (ro tn : MV) (x3 x4 x5 x6 x7 x8 x9 : Option MV) : Sl := [some ro, some (.ref 2), some tn, x3, x4, x5, x6, x7, x8, x9]
theorem all_sgn : (∀ c ∈ [40, 91, 41, 93, 39, 32, 47, 97], sgn c = true) ∧ ∀ c ∈ [40, 91, 41, 93, 39, 32, 47, 122], sgn c = true := by decide
theorem add_str {a b : CP} (h : a.length + b.length ≤ 1000) (g : MH) : mAddV (.str a) (.str b) g = some (.str (a ++ b), g) := by
  have : a.length + b.length ≤ 16777216 := by omega
  simp [mAddV, lstR, mAdd, Pg.szs, this]
theorem inner {sl hw bh : Bool} {l : CP} (hl : l.length ≤ 100) (hs : ∀ c ∈ l, sgn c = true) (ro tn : MV) (x3 x4 x6 : Option MV) (c : Nat) (hc : sgn c = true) (h : MH) : ∀ (ds : CP) (x9 : Option MV), (∀ d ∈ ds, sgn d = true) →
    ∃ y9, forL (gNm 9) b_law_1_b_5_b_1_b (ds.map fun d => .str [d]) (lawS ro tn x3 x4 (some (mnV sl hw bh)) x6 (some (.str l)) (some (.str [c])) x9) h = .nx (lawS ro tn x3 x4 (some (mnV sl hw bh)) x6 (some (.str l)) (some (.str [c])) y9) h
  | [], x9, _ => ⟨x9, rfl⟩
  | d :: ds, x9, hd => by
    obtain ⟨y9, e⟩ := inner (sl := sl) (hw := hw) (bh := bh) hl hs ro tn x3 x4 x6 c hc h ds (some (.str [d])) fun z hz => hd z (List.mem_cons_of_mem _ hz)
    refine ⟨y9, ?_⟩
    have a1 := add_str (a := l) (b := [c]) (by simp; omega) h
    have a2 := add_str (a := l ++ [c]) (b := [d]) (by simp; omega) h
    have o := one_ok (sl := sl) (hw := hw) (bh := bh) (l := l ++ [c] ++ [d]) (by simp; omega) (fun z hz => by
      simp only [List.mem_append, List.mem_singleton] at hz
      rcases hz with (hz | rfl) | rfl
      · exact hs z hz
      · exact hc
      · exact hd _ List.mem_cons_self) h
    have b : b_law_1_b_5_b_1_b (lawS ro tn x3 x4 (some (mnV sl hw bh)) x6 (some (.str l)) (some (.str [c])) (some (.str [d]))) h = .nx (lawS ro tn x3 x4 (some (mnV sl hw bh)) x6 (some (.str l)) (some (.str [c])) (some (.str [d]))) h := by
      simp only [List.append_assoc, List.cons_append, List.nil_append] at a2 o
      simp [b_law_1_b_5_b_1_b, lawS, a1, a2, o]
    rw [List.map_cons, forL_nx (s1 := lawS ro tn x3 x4 (some (mnV sl hw bh)) x6 (some (.str l)) (some (.str [c])) (some (.str [d]))) rfl b]
    exact e
theorem outer {sl hw bh : Bool} {l : CP} (hl : l.length ≤ 100) (hs : ∀ c ∈ l, sgn c = true) (ro tn : MV) (x3 x4 x6 : Option MV) (h : MH) : ∀ (cs : CP) (x8 x9 : Option MV), (∀ d ∈ cs, sgn d = true) →
    ∃ y8 y9, forL (gNm 8) (sSeq (b_law_1_b_5_b_0) (b_law_1_b_5_b_1)) (cs.map fun d => .str [d]) (lawS ro tn x3 x4 (some (mnV sl hw bh)) x6 (some (.str l)) x8 x9) h = .nx (lawS ro tn x3 x4 (some (mnV sl hw bh)) x6 (some (.str l)) y8 y9) h
  | [], x8, x9, _ => ⟨x8, x9, rfl⟩
  | c :: cs, x8, x9, hd => by
    have hc := hd c List.mem_cons_self
    obtain ⟨z9, e1⟩ := inner (sl := sl) (hw := hw) (bh := bh) hl hs ro tn x3 x4 x6 c hc h [40, 91, 41, 93, 39, 32, 47, 122] x9 all_sgn.2
    obtain ⟨y8, y9, e⟩ := outer (sl := sl) (hw := hw) (bh := bh) hl hs ro tn x3 x4 x6 h cs (some (.str [c])) z9 fun z hz => hd z (List.mem_cons_of_mem _ hz)
    refine ⟨y8, y9, ?_⟩
    have a1 := add_str (a := l) (b := [c]) (by simp; omega) h
    have o := one_ok (sl := sl) (hw := hw) (bh := bh) (l := l ++ [c]) (by simp; omega) (fun z hz => by
      simp only [List.mem_append, List.mem_singleton] at hz
      rcases hz with hz | rfl
      · exact hs z hz
      · exact hc) h
    have b0 : b_law_1_b_5_b_0 (lawS ro tn x3 x4 (some (mnV sl hw bh)) x6 (some (.str l)) (some (.str [c])) x9) h = .nx (lawS ro tn x3 x4 (some (mnV sl hw bh)) x6 (some (.str l)) (some (.str [c])) x9) h := by
      simp [b_law_1_b_5_b_0, lawS, a1, o]
    have b1 : b_law_1_b_5_b_1 (lawS ro tn x3 x4 (some (mnV sl hw bh)) x6 (some (.str l)) (some (.str [c])) x9) h = .nx (lawS ro tn x3 x4 (some (mnV sl hw bh)) x6 (some (.str l)) (some (.str [c])) z9) h := by
      unfold b_law_1_b_5_b_1
      rw [sFor_ap]
      show (R.ok (MIt.items ([40, 91, 41, 93, 39, 32, 47, 122].map fun d => .str [d])) h).bindS _ _ = _
      rw [bindS_ok, for_items]
      exact e1
    have b2 : sSeq b_law_1_b_5_b_0 b_law_1_b_5_b_1 (lawS ro tn x3 x4 (some (mnV sl hw bh)) x6 (some (.str l)) (some (.str [c])) x9) h = .nx (lawS ro tn x3 x4 (some (mnV sl hw bh)) x6 (some (.str l)) (some (.str [c])) z9) h := by
      rw [sSeq_ap, b0]
      simp only
      rw [b1]
    rw [List.map_cons, forL_nx (s1 := lawS ro tn x3 x4 (some (mnV sl hw bh)) x6 (some (.str l)) (some (.str [c])) x9) rfl b2]
    exact e
theorem turn_ok {b : Nat} {h : MH} (st : S4 (40 + b) [] h) (ro tn : MV) (x3 x4 x5 x6 x7 x8 x9 : Option MV) : ∃ y5 y6 y7 y8 y9 h', S4 b [] h' ∧ b_law_1_b (lawS ro tn x3 x4 x5 x6 x7 x8 x9) h = .nx (lawS ro tn x3 x4 y5 y6 y7 y8 y9) h' := by
  obtain ⟨sl, hw, bh, h1, st1, e1⟩ := Q9.manner_ok (show S4 (3 + (37 + b)) [] h from st.mono (by omega))
  obtain ⟨l1, h2, ll1, ls1, st2, e2⟩ := Q3.text_ok (most := 12) (b := 24 + b) (by omega) (st1.mono (by omega))
  obtain ⟨t, r', h3, tl, ts, tr, tw, st3, e3⟩ := Q9.meant_ok (hw := hw) (sl := sl) (bh := bh) (most := 10) (by omega) (show S4 (1 + 10 + (13 + b)) [] h2 from st2.mono (by omega))
  obtain ⟨k, h4, hk, st4, e4⟩ := (show S4 ((12 + b) + 1) [] h3 from st3.mono (by omega)).drawN (k := t.length + 1) (by omega)
  rw [← manner_eq] at e1
  rw [← text_eq] at e2
  rw [← meant_eq] at e3
  have tsg : ∀ c ∈ t, sgn c = true := ts
  have s0 : b_law_1_b_0 (lawS ro tn x3 x4 x5 x6 x7 x8 x9) h = .nx (lawS ro tn x3 x4 (some (mnV sl hw bh)) x6 x7 x8 x9) h1 := by
    simp [b_law_1_b_0, lawS, e1]
  have o1 := one_ok (sl := sl) (hw := hw) (bh := bh) (l := l1) (by omega) (fun c hc => alph_sgn c (ls1 c hc)) h2
  have e2' : m_law_text [.ref 2, .int 12] h1 = .ok (.str l1) h2 := e2
  have s1 : b_law_1_b_1 (lawS ro tn x3 x4 (some (mnV sl hw bh)) x6 x7 x8 x9) h1 = .nx (lawS ro tn x3 x4 (some (mnV sl hw bh)) x6 x7 x8 x9) h2 := by
    simp [b_law_1_b_1, lawS, e2', o1]
  have e3' : m_law_meant [.ref 2, mnV sl hw bh, .int 10] h2 = .ok (.str t) h3 := e3
  have s2 : b_law_1_b_2 (lawS ro tn x3 x4 (some (mnV sl hw bh)) x6 x7 x8 x9) h2 = .nx (lawS ro tn x3 x4 (some (mnV sl hw bh)) (some (.str t)) x7 x8 x9) h3 := by
    simp [b_law_1_b_2, lawS, e3']
  have o3 := one_ok (sl := sl) (hw := hw) (bh := bh) (l := t) (by omega) tsg h3
  have c3 := closed_ok (sl := sl) (hw := hw) (bh := bh) (l := t) (by omega) tr tw h3
  have s3 : b_law_1_b_3 (lawS ro tn x3 x4 (some (mnV sl hw bh)) (some (.str t)) x7 x8 x9) h3 = .nx (lawS ro tn x3 x4 (some (mnV sl hw bh)) (some (.str t)) x7 x8 x9) h3 := by
    simp [b_law_1_b_3, lawS, c3, o3]
  have ln : mLen [.str t] h3 = some (.int (t.length : Int), h3) := len_str (l := t) (by omega) h3
  have e4' : m_law_draw [.ref 2, .int ((t.length : Int) + 1)] h3 = .ok (.int (k : Int)) h4 := by
    rw [show ((t.length : Int) + 1) = ((t.length + 1 : Nat) : Int) by omega]; exact e4
  have ct : mCutV (.str t) none (some (k : Int)) h4 = some (.str (t.take k), h4) := by
    have hs : t.length ≤ 16777216 := by omega
    simp only [mCutV, lstV, mCut, Pg.szs, hs, if_true, cut_take]
  have ad : ∀ g, mAddV (.int (t.length : Int)) (.int 1) g = some (.int ((t.length : Int) + 1), g) := fun _ => rfl
  have s4 : b_law_1_b_4 (lawS ro tn x3 x4 (some (mnV sl hw bh)) (some (.str t)) x7 x8 x9) h3 = .nx (lawS ro tn x3 x4 (some (mnV sl hw bh)) (some (.str t)) (some (.str (t.take k))) x8 x9) h4 := by
    simp [b_law_1_b_4, lawS, ln, ad, e4', ct]
  obtain ⟨y8, y9, e5⟩ := outer (sl := sl) (hw := hw) (bh := bh) (l := t.take k) (by rw [List.length_take]; omega) (fun c hc => tsg c (List.mem_of_mem_take hc)) ro tn x3 x4 (some (.str t)) h4 [40, 91, 41, 93, 39, 32, 47, 97] x8 x9 all_sgn.1
  have s5 : b_law_1_b_5 (lawS ro tn x3 x4 (some (mnV sl hw bh)) (some (.str t)) (some (.str (t.take k))) x8 x9) h4 = .nx (lawS ro tn x3 x4 (some (mnV sl hw bh)) (some (.str t)) (some (.str (t.take k))) y8 y9) h4 := by
    unfold b_law_1_b_5
    rw [sFor_ap]
    show (R.ok (MIt.items ([40, 91, 41, 93, 39, 32, 47, 97].map fun d => .str [d])) h4).bindS _ _ = _
    rw [bindS_ok, for_items]
    exact e5
  refine ⟨some (mnV sl hw bh), some (.str t), some (.str (t.take k)), y8, y9, h4, st4.mono (by omega), ?_⟩
  unfold b_law_1_b
  rw [sSeq_ap, s0]
  simp only
  rw [sSeq_ap, s1]
  simp only
  rw [sSeq_ap, s2]
  simp only
  rw [sSeq_ap, s3]
  simp only
  rw [sSeq_ap, s4]
  simp only
  rw [s5]
theorem turns_ok (ro : MV) (x3 x4 : Option MV) : ∀ (vs : List MV) (b : Nat) (h : MH) (x2 x5 x6 x7 x8 x9 : Option MV), S4 (40 * vs.length + b) [] h →
    ∃ y2 y5 y6 y7 y8 y9 h', S4 b [] h' ∧ forL (gNm 2) b_law_1_b vs [some ro, some (.ref 2), x2, x3, x4, x5, x6, x7, x8, x9] h = .nx [some ro, some (.ref 2), y2, x3, x4, y5, y6, y7, y8, y9] h'
  | [], b, h, x2, x5, x6, x7, x8, x9, st => ⟨x2, x5, x6, x7, x8, x9, h, st.mono (by omega), rfl⟩
  | v :: vs, b, h, x2, x5, x6, x7, x8, x9, st => by
    simp only [List.length_cons] at st
    obtain ⟨z5, z6, z7, z8, z9, h1, st1, e1⟩ := turn_ok (b := 40 * vs.length + b) (st.mono (by omega)) ro v x3 x4 x5 x6 x7 x8 x9
    obtain ⟨y2, y5, y6, y7, y8, y9, h', st', e⟩ := turns_ok ro x3 x4 vs b h1 (some v) z5 z6 z7 z8 z9 st1
    refine ⟨y2, y5, y6, y7, y8, y9, h', st', ?_⟩
    rw [forL_nx (s1 := lawS ro v x3 x4 x5 x6 x7 x8 x9) rfl e1]
    exact e
theorem rest_ok (ro : MV) (y2 y5 y6 y7 y8 y9 : Option MV) (h : MH) : (sSeq (b_law_2) (sSeq (b_law_3) (sSeq (b_law_4) (b_law_5)))) [some ro, some (.ref 2), y2, none, none, y5, y6, y7, y8, y9] h = .rt (.bl true) h := by
  kernel_rfl
theorem pure (ns : List Int) (hns : ns.length ≤ 63) : ∃ h', m_law [.ro (ns.map MV.int)] [] = .ok (.bl true) h' := by
  obtain ⟨cs, gs0, kc, _, e0⟩ := Cm.begun_ok ns hns
  rw [← begun_eq] at e0
  have st : S4 (40 * 4 + 0) [] (Cm.st cs gs0 0 []) := ⟨⟨cs, gs0, 0, kc, by omega, by decide, rfl⟩, rfl⟩
  obtain ⟨y2, y5, y6, y7, y8, y9, h1, st1, e⟩ := turns_ok (.ro (ns.map MV.int)) none none (MP.upTo 0 4) 0 (Cm.st cs gs0 0 []) none none none none none none (by rw [Ld.upTo_len]; exact st)
  refine ⟨h1, ?_⟩
  have s0 : b_law_0 [some (.ro (ns.map MV.int)), none, none, none, none, none, none, none, none, none] [] = .nx [some (.ro (ns.map MV.int)), some (.ref 2), none, none, none, none, none, none, none, none] (Cm.st cs gs0 0 []) := by
    simp [b_law_0, e0]
  have s1 : b_law_1 [some (.ro (ns.map MV.int)), some (.ref 2), none, none, none, none, none, none, none, none] (Cm.st cs gs0 0 []) = .nx [some (.ro (ns.map MV.int)), some (.ref 2), y2, none, none, y5, y6, y7, y8, y9] h1 := by
    have j0 : jRng1 (aCons (eC (.int 4)) (aNil)) [some (.ro (ns.map MV.int)), some (.ref 2), none, none, none, none, none, none, none, none] (Cm.st cs gs0 0 []) = .ok (.items (MP.upTo 0 4)) (Cm.st cs gs0 0 []) := by simp
    unfold b_law_1
    rw [sFor_ap, j0, bindS_ok, for_items]
    exact e
  show (match b_law [some (.ro (ns.map MV.int)), none, none, none, none, none, none, none, none, none] [] with
    | .rt v h' => R.ok v h'
    | .nx _ h' => .ok .non h'
    | .err e _ h' => .err e h'
    | _ => .stuck) = _
  unfold b_law
  rw [sSeq_ap, s0]
  simp only
  rw [sSeq_ap, s1]
  simp only
  rw [rest_ok]
end GXk05

namespace GXk05
open PySem PySem.Spec PyProof.Rows L2 MP
def top (i : Nat) : Stmt := PySem.Challenge.pw_ownclosers_k05_whole_meant_texts.main.body.getD i (.Pass ⟨0, 0, 0, 0⟩)
abbrev s_law_folded : Stmt := top 31
abbrev s_law_begun : Stmt := top 33
abbrev s_law_mixed : Stmt := top 30
abbrev s_law_draw : Stmt := top 32
abbrev s_law_manner : Stmt := top 35
abbrev s_law_need_of : Stmt := top 37
abbrev s_law_like : Stmt := top 34
abbrev s_need_manner : Stmt := top 9
abbrev s_need_text : Stmt := top 19
abbrev s_Reading_is_quoted : Stmt := inClass (top 23) 1
abbrev s_is_letter : Stmt := top 21
abbrev s_Reading_can_read : Stmt := inClass (top 23) 2
abbrev s_closer_of : Stmt := top 20
abbrev s_Reading_read : Stmt := inClass (top 23) 3
abbrev s_Reading___init__ : Stmt := inClass (top 23) 0
abbrev s_read_all : Stmt := top 24
abbrev s_is_whole : Stmt := top 25
abbrev s_is_meant : Stmt := top 26
abbrev s_needs : Stmt := top 27
abbrev s_need_meant : Stmt := top 28
abbrev s_law_heard : Stmt := top 40
abbrev s_law_one_right : Stmt := top 41
abbrev s_law_text : Stmt := top 36
abbrev s_law_meant : Stmt := top 39
abbrev s_law_is_closed : Stmt := top 38
abbrev s_law : Stmt := top 42
abbrev N_law_folded : List Str := ["_law_script", "_law_found", "_law_n", "_law_cell"]
theorem sc_law_folded : FnScope N_law_folded ["_law_script"] (defScope s_law_folded) := ⟨rfl, rfl, rfl, by decide +kernel, rfl, by decide +kernel, by decide +kernel⟩
def e_law_folded : He.DefD := ⟨("_law_folded", none), "_law_folded", "_law_folded", defArgs s_law_folded, defBody s_law_folded, defScope s_law_folded, [], []⟩
abbrev N_law_begun : List Str := ["_law_script", "_law_m", "_law_cell"]
theorem sc_law_begun : FnScope N_law_begun ["_law_script"] (defScope s_law_begun) := ⟨rfl, rfl, rfl, by decide +kernel, rfl, by decide +kernel, by decide +kernel⟩
def e_law_begun : He.DefD := ⟨("_law_begun", none), "_law_begun", "_law_begun", defArgs s_law_begun, defBody s_law_begun, defScope s_law_begun, [], []⟩
abbrev N_law_mixed : List Str := ["_law_cell", "_law_n", "_law_blend"]
theorem sc_law_mixed : FnScope N_law_mixed ["_law_cell", "_law_n"] (defScope s_law_mixed) := ⟨rfl, rfl, rfl, by decide +kernel, rfl, by decide +kernel, by decide +kernel⟩
def e_law_mixed : He.DefD := ⟨("_law_mixed", none), "_law_mixed", "_law_mixed", defArgs s_law_mixed, defBody s_law_mixed, defScope s_law_mixed, [], []⟩
abbrev N_law_draw : List Str := ["_law_m", "_law_limit", "_law_n", "_law_lot", "_law_here", "_law_cell"]
theorem sc_law_draw : FnScope N_law_draw ["_law_m", "_law_limit"] (defScope s_law_draw) := ⟨rfl, rfl, rfl, by decide +kernel, rfl, by decide +kernel, by decide +kernel⟩
def e_law_draw : He.DefD := ⟨("_law_draw", none), "_law_draw", "_law_draw", defArgs s_law_draw, defBody s_law_draw, defScope s_law_draw, [], []⟩
abbrev N_law_manner : List Str := ["_law_m"]
theorem sc_law_manner : FnScope N_law_manner ["_law_m"] (defScope s_law_manner) := ⟨rfl, rfl, rfl, by decide +kernel, rfl, by decide +kernel, by decide +kernel⟩
def e_law_manner : He.DefD := ⟨("_law_manner", none), "_law_manner", "_law_manner", defArgs s_law_manner, defBody s_law_manner, defScope s_law_manner, [], []⟩
abbrev N_law_need_of : List Str := ["_law_manner_here", "_law_text_here", "_law_stack", "_law_waits_so", "_law_before", "_law_place", "_law_sign", "_law_is_quoted"]
theorem sc_law_need_of : FnScope N_law_need_of ["_law_manner_here", "_law_text_here"] (defScope s_law_need_of) := ⟨rfl, rfl, rfl, by decide +kernel, rfl, by decide +kernel, by decide +kernel⟩
def e_law_need_of : He.DefD := ⟨("_law_need_of", none), "_law_need_of", "_law_need_of", defArgs s_law_need_of, defBody s_law_need_of, defScope s_law_need_of, [], []⟩
abbrev N_law_like : List Str := ["_law_heard_here", "_law_due"]
theorem sc_law_like : FnScope N_law_like ["_law_heard_here", "_law_due"] (defScope s_law_like) := ⟨rfl, rfl, rfl, by decide +kernel, rfl, by decide +kernel, by decide +kernel⟩
def e_law_like : He.DefD := ⟨("_law_like", none), "_law_like", "_law_like", defArgs s_law_like, defBody s_law_like, defScope s_law_like, [], []⟩
abbrev N_need_manner : List Str := ["manner", "word"]
theorem sc_need_manner : FnScope N_need_manner ["manner"] (defScope s_need_manner) := ⟨rfl, rfl, rfl, by decide +kernel, rfl, by decide +kernel, by decide +kernel⟩
def e_need_manner : He.DefD := ⟨("need_manner", none), "need_manner", "need_manner", defArgs s_need_manner, defBody s_need_manner, defScope s_need_manner, [], []⟩
abbrev N_need_text : List Str := ["text", "place", "sign"]
theorem sc_need_text : FnScope N_need_text ["text"] (defScope s_need_text) := ⟨rfl, rfl, rfl, by decide +kernel, rfl, by decide +kernel, by decide +kernel⟩
def e_need_text : He.DefD := ⟨("need_text", none), "need_text", "need_text", defArgs s_need_text, defBody s_need_text, defScope s_need_text, [], []⟩
abbrev N_Reading_is_quoted : List Str := ["self"]
theorem sc_Reading_is_quoted : FnScope N_Reading_is_quoted ["self"] (defScope s_Reading_is_quoted) := ⟨rfl, rfl, rfl, by decide +kernel, rfl, by decide +kernel, by decide +kernel⟩
def e_Reading_is_quoted : He.DefD := ⟨("Reading", some "is_quoted"), "is_quoted", "Reading.is_quoted", defArgs s_Reading_is_quoted, defBody s_Reading_is_quoted, defScope s_Reading_is_quoted, [], []⟩
abbrev N_is_letter : List Str := ["sign"]
theorem sc_is_letter : FnScope N_is_letter ["sign"] (defScope s_is_letter) := ⟨rfl, rfl, rfl, by decide +kernel, rfl, by decide +kernel, by decide +kernel⟩
def e_is_letter : He.DefD := ⟨("is_letter", none), "is_letter", "is_letter", defArgs s_is_letter, defBody s_is_letter, defScope s_is_letter, [], []⟩
abbrev N_Reading_can_read : List Str := ["self", "sign"]
theorem sc_Reading_can_read : FnScope N_Reading_can_read ["self", "sign"] (defScope s_Reading_can_read) := ⟨rfl, rfl, rfl, by decide +kernel, rfl, by decide +kernel, by decide +kernel⟩
def e_Reading_can_read : He.DefD := ⟨("Reading", some "can_read"), "can_read", "Reading.can_read", defArgs s_Reading_can_read, defBody s_Reading_can_read, defScope s_Reading_can_read, [], []⟩
abbrev N_closer_of : List Str := ["sign"]
theorem sc_closer_of : FnScope N_closer_of ["sign"] (defScope s_closer_of) := ⟨rfl, rfl, rfl, by decide +kernel, rfl, by decide +kernel, by decide +kernel⟩
def e_closer_of : He.DefD := ⟨("closer_of", none), "closer_of", "closer_of", defArgs s_closer_of, defBody s_closer_of, defScope s_closer_of, [], []⟩
abbrev N_Reading_read : List Str := ["self", "sign"]
theorem sc_Reading_read : FnScope N_Reading_read ["self", "sign"] (defScope s_Reading_read) := ⟨rfl, rfl, rfl, by decide +kernel, rfl, by decide +kernel, by decide +kernel⟩
def e_Reading_read : He.DefD := ⟨("Reading", some "read"), "read", "Reading.read", defArgs s_Reading_read, defBody s_Reading_read, defScope s_Reading_read, [], []⟩
abbrev N_Reading___init__ : List Str := ["self", "has_words"]
theorem sc_Reading___init__ : FnScope N_Reading___init__ ["self", "has_words"] (defScope s_Reading___init__) := ⟨rfl, rfl, rfl, by decide +kernel, rfl, by decide +kernel, by decide +kernel⟩
def e_Reading___init__ : He.DefD := ⟨("Reading", some "__init__"), "__init__", "Reading.__init__", defArgs s_Reading___init__, defBody s_Reading___init__, defScope s_Reading___init__, [], []⟩
abbrev N_read_all : List Str := ["text", "has_words", "reading", "place", "sign"]
theorem sc_read_all : FnScope N_read_all ["text", "has_words"] (defScope s_read_all) := ⟨rfl, rfl, rfl, by decide +kernel, rfl, by decide +kernel, by decide +kernel⟩
def e_read_all : He.DefD := ⟨("read_all", none), "read_all", "read_all", defArgs s_read_all, defBody s_read_all, defScope s_read_all, [], []⟩
abbrev N_is_whole : List Str := ["reading"]
theorem sc_is_whole : FnScope N_is_whole ["reading"] (defScope s_is_whole) := ⟨rfl, rfl, rfl, by decide +kernel, rfl, by decide +kernel, by decide +kernel⟩
def e_is_whole : He.DefD := ⟨("is_whole", none), "is_whole", "is_whole", defArgs s_is_whole, defBody s_is_whole, defScope s_is_whole, [], []⟩
abbrev N_is_meant : List Str := ["manner", "text", "reading", "place"]
theorem sc_is_meant : FnScope N_is_meant ["manner", "text"] (defScope s_is_meant) := ⟨rfl, rfl, rfl, by decide +kernel, rfl, by decide +kernel, by decide +kernel⟩
def e_is_meant : He.DefD := ⟨("is_meant", none), "is_meant", "is_meant", defArgs s_is_meant, defBody s_is_meant, defScope s_is_meant, [], []⟩
abbrev N_needs : List Str := ["manner", "text", "reading", "place"]
theorem sc_needs : FnScope N_needs ["manner", "text"] (defScope s_needs) := ⟨rfl, rfl, rfl, by decide +kernel, rfl, by decide +kernel, by decide +kernel⟩
def e_needs : He.DefD := ⟨("needs", none), "needs", "needs", defArgs s_needs, defBody s_needs, defScope s_needs, [], []⟩
abbrev N_need_meant : List Str := ["manner", "text", "reading", "place"]
theorem sc_need_meant : FnScope N_need_meant ["manner", "text"] (defScope s_need_meant) := ⟨rfl, rfl, rfl, by decide +kernel, rfl, by decide +kernel, by decide +kernel⟩
def e_need_meant : He.DefD := ⟨("need_meant", none), "need_meant", "need_meant", defArgs s_need_meant, defBody s_need_meant, defScope s_need_meant, [], []⟩
abbrev N_law_heard : List Str := ["_law_call", "e", "_law_kinds_so", "_law_words", "_law_found", "_law_heard_here", "_law_error", "_law_one", "_law_is_so"]
theorem sc_law_heard : FnScope N_law_heard ["_law_call"] (defScope s_law_heard) := ⟨rfl, rfl, rfl, by decide +kernel, rfl, by decide +kernel, by decide +kernel⟩
def e_law_heard : He.DefD := ⟨("_law_heard", none), "_law_heard", "_law_heard", defArgs s_law_heard, defBody s_law_heard, defScope s_law_heard, [], []⟩
abbrev N_law_one_right : List Str := ["_law_manner_here", "_law_text_here", "_law_closed_so", "_law_due", "_law_need", "_law_waits_so", "_law_place"]
theorem sc_law_one_right : FnScope N_law_one_right ["_law_manner_here", "_law_text_here"] (defScope s_law_one_right) := ⟨rfl, rfl, rfl, by decide +kernel, rfl, by decide +kernel, by decide +kernel⟩
def e_law_one_right : He.DefD := ⟨("_law_one_right", none), "_law_one_right", "_law_one_right", defArgs s_law_one_right, defBody s_law_one_right, defScope s_law_one_right, [], []⟩
abbrev N_law_text : List Str := ["_law_m", "_law_most", "_law_turn"]
theorem sc_law_text : FnScope N_law_text ["_law_m", "_law_most"] (defScope s_law_text) := ⟨rfl, rfl, rfl, by decide +kernel, rfl, by decide +kernel, by decide +kernel⟩
def e_law_text : He.DefD := ⟨("_law_text", none), "_law_text", "_law_text", defArgs s_law_text, defBody s_law_text, defScope s_law_text, [], []⟩
abbrev N_law_meant : List Str := ["_law_m", "_law_manner_here", "_law_most", "_law_text_here", "_law_turn", "_law_some", "_law_sign", "_law_need", "_law_waits_so", "_law_place"]
theorem sc_law_meant : FnScope N_law_meant ["_law_m", "_law_manner_here", "_law_most"] (defScope s_law_meant) := ⟨rfl, rfl, rfl, by decide +kernel, rfl, by decide +kernel, by decide +kernel⟩
def e_law_meant : He.DefD := ⟨("_law_meant", none), "_law_meant", "_law_meant", defArgs s_law_meant, defBody s_law_meant, defScope s_law_meant, [], []⟩
abbrev N_law_is_closed : List Str := ["_law_manner_here", "_law_text_here"]
theorem sc_law_is_closed : FnScope N_law_is_closed ["_law_manner_here", "_law_text_here"] (defScope s_law_is_closed) := ⟨rfl, rfl, rfl, by decide +kernel, rfl, by decide +kernel, by decide +kernel⟩
def e_law_is_closed : He.DefD := ⟨("_law_is_closed", none), "_law_is_closed", "_law_is_closed", defArgs s_law_is_closed, defBody s_law_is_closed, defScope s_law_is_closed, [], []⟩
abbrev N_law : List Str := ["_law_script", "_law_m", "_law_turn", "_law_letter", "_law_deep", "_law_manner_here", "_law_text_here", "_law_begin", "_law_one", "_law_other"]
theorem sc_law : FnScope N_law ["_law_script"] (defScope s_law) := ⟨rfl, rfl, rfl, by decide +kernel, rfl, by decide +kernel, by decide +kernel⟩
def e_law : He.DefD := ⟨("law", none), "law", "law", defArgs s_law, defBody s_law, defScope s_law, [], []⟩
def fa : List He.Fa := [.glo "_law_folded", .glo "_law_begun", .glo "_law_mixed", .glo "_law_draw", .glo "_law_manner", .glo "_law_need_of", .glo "_law_like", .glo "need_manner", .glo "need_text", .glo "is_letter", .glo "closer_of", .glo "read_all", .glo "is_whole", .glo "is_meant", .glo "needs", .glo "need_meant", .glo "_law_heard", .glo "_law_one_right", .glo "_law_text", .glo "_law_meant", .glo "_law_is_closed", .glo "law", .glo "Reading", .cls "Reading", .mkr "Reading", .meth "Reading" "is_quoted", .meth "Reading" "can_read", .meth "Reading" "read", .meth "Reading" "__init__", .free "ValueError", .free "all", .free "bool", .free "enumerate", .free "int", .free "isinstance", .free "len", .free "range", .free "repr", .free "str", .free "tuple", .free "zip", .noat "Reading" "before", .noat "Reading" "has_words", .noat "Reading" "is_open", .noat "Reading" "needs", .glo "BadBook", .glo "BadKeys", .glo "BadManner", .glo "BadPage", .glo "BadText", .glo "NotMeant"]
def fn : List He.DefD := [e_law_folded, e_law_begun, e_law_mixed, e_law_draw, e_law_manner, e_law_need_of, e_law_like, e_need_manner, e_need_text, e_Reading_is_quoted, e_is_letter, e_Reading_can_read, e_closer_of, e_Reading_read, e_Reading___init__, e_read_all, e_is_whole, e_is_meant, e_needs, e_need_meant, e_law_heard, e_law_one_right, e_law_text, e_law_meant, e_law_is_closed, e_law]
def exs : List (Str × MV) := [("OPENERS", v_OPENERS), ("CLOSERS", v_CLOSERS), ("QUOTE", v_QUOTE), ("LINE", v_LINE), ("LETTERS", v_LETTERS), ("SIGNS", v_SIGNS), ("MOST_TEXT", v_MOST_TEXT)]
def cats (K : PySem.W.Frag) : Bool := true && ((clsAt K n_CloserError).isSome && ((ci_CloserError.all fun k => caB K (k, n_CloserError, true)) && (co_CloserError.all fun k => caB K (k, n_CloserError, false))))
def mkl : List (He.Defn × Str) := [(("_law_one_right", none), "_law_one_right" ++ ".<locals>." ++ "<lambda>")]
def ex (K : PySem.W.Frag) : Bool := (exs.all fun p => gloB K p.1 p.2) && (exX PySem.Challenge.pw_ownclosers_k05_whole_meant_texts.main.file xsX tbX ttX K && (cats K && mkl.all (mkB K)))
structure Txt0 (P : Program) (w : World) (K : PySem.W.Frag) (mg : Str → Option Value) (h : Heap) : Prop where
  kin : K.In h
  glob : h.Ns mainGlobals mg
  says : SaysE fa fn ex w h K
  file : P.main.file = PySem.Challenge.pw_ownclosers_k05_whole_meant_texts.main.file
  nosup : (P.main.scope.names.lookup ("super" : Str)).isSome = false
structure Txt (P : Program) (w : World) (K : PySem.W.Frag) (mg : Str → Option Value) (base h : Heap) : Prop extends Txt0 P w K mg h where
  tb : TabsB K mg base
section
variable {P : Program} {w : World} {K : PySem.W.Frag} {mg : Str → Option Value} {base h : Heap}
theorem Txt.more1 (T : Txt P w K mg base h) : (exs.all fun p => gloB K p.1 p.2) = true := ((Bool.and_eq_true _ _).mp T.says.more).1
theorem Txt.exx (T : Txt P w K mg base h) : ExX P K mg xsX tbX ttX := exX_ok T.kin T.glob T.nosup (by rw [T.file]; exact ((Bool.and_eq_true _ _).mp ((Bool.and_eq_true _ _).mp T.says.more).2).1)
theorem Txt.more2 (T : Txt P w K mg base h) : cats K = true ∧ mkl.all (mkB K) = true := (Bool.and_eq_true _ _).mp ((Bool.and_eq_true _ _).mp ((Bool.and_eq_true _ _).mp T.says.more).2).2
theorem Txt.cat_CloserError (T : Txt P w K mg base h) : CatX K mg n_CloserError ci_CloserError co_CloserError := by
  have z := T.more2.1
  simp only [cats, Bool.and_eq_true, true_and] at z
  refine caX_ok T.kin T.glob ?_ ?_ ?_ <;> simp only [z]
theorem Txt.mk_law_one_right (T : Txt P w K mg base h) : MkK K ("_law_one_right", none) ("_law_one_right" ++ ".<locals>." ++ "<lambda>") := mkB_ok (List.all_eq_true.mp T.more2.2 _ (List.mem_of_getElem? (i := 0) rfl))
theorem g_BadBook (T : Txt P w K mg base h) : GloM K mg "BadBook" (.glo n_BadBook) := ⟨_, .ref _, He.glo_ok T.kin T.glob (T.says.t.d.fact 45 (f := .glo "BadBook") rfl), rfl, fun r H => .glo (by rw [show S n_BadBook = "BadBook" by decide +kernel]; exact He.glo_ok T.kin T.glob (T.says.t.d.fact 45 (f := .glo "BadBook") rfl))⟩
theorem g_BadKeys (T : Txt P w K mg base h) : GloM K mg "BadKeys" (.glo n_BadKeys) := ⟨_, .ref _, He.glo_ok T.kin T.glob (T.says.t.d.fact 46 (f := .glo "BadKeys") rfl), rfl, fun r H => .glo (by rw [show S n_BadKeys = "BadKeys" by decide +kernel]; exact He.glo_ok T.kin T.glob (T.says.t.d.fact 46 (f := .glo "BadKeys") rfl))⟩
theorem g_BadManner (T : Txt P w K mg base h) : GloM K mg "BadManner" (.glo n_BadManner) := ⟨_, .ref _, He.glo_ok T.kin T.glob (T.says.t.d.fact 47 (f := .glo "BadManner") rfl), rfl, fun r H => .glo (by rw [show S n_BadManner = "BadManner" by decide +kernel]; exact He.glo_ok T.kin T.glob (T.says.t.d.fact 47 (f := .glo "BadManner") rfl))⟩
theorem g_BadPage (T : Txt P w K mg base h) : GloM K mg "BadPage" (.glo n_BadPage) := ⟨_, .ref _, He.glo_ok T.kin T.glob (T.says.t.d.fact 48 (f := .glo "BadPage") rfl), rfl, fun r H => .glo (by rw [show S n_BadPage = "BadPage" by decide +kernel]; exact He.glo_ok T.kin T.glob (T.says.t.d.fact 48 (f := .glo "BadPage") rfl))⟩
theorem g_BadText (T : Txt P w K mg base h) : GloM K mg "BadText" (.glo n_BadText) := ⟨_, .ref _, He.glo_ok T.kin T.glob (T.says.t.d.fact 49 (f := .glo "BadText") rfl), rfl, fun r H => .glo (by rw [show S n_BadText = "BadText" by decide +kernel]; exact He.glo_ok T.kin T.glob (T.says.t.d.fact 49 (f := .glo "BadText") rfl))⟩
theorem g_NotMeant (T : Txt P w K mg base h) : GloM K mg "NotMeant" (.glo n_NotMeant) := ⟨_, .ref _, He.glo_ok T.kin T.glob (T.says.t.d.fact 50 (f := .glo "NotMeant") rfl), rfl, fun r H => .glo (by rw [show S n_NotMeant = "NotMeant" by decide +kernel]; exact He.glo_ok T.kin T.glob (T.says.t.d.fact 50 (f := .glo "NotMeant") rfl))⟩
theorem c_OPENERS (T : Txt P w K mg base h) : GloM K mg "OPENERS" v_OPENERS := gloB_ok T.kin T.glob (List.all_eq_true.mp T.more1 ("OPENERS", v_OPENERS) (List.mem_of_getElem? (i := 0) rfl))
theorem c_CLOSERS (T : Txt P w K mg base h) : GloM K mg "CLOSERS" v_CLOSERS := gloB_ok T.kin T.glob (List.all_eq_true.mp T.more1 ("CLOSERS", v_CLOSERS) (List.mem_of_getElem? (i := 1) rfl))
theorem c_QUOTE (T : Txt P w K mg base h) : GloM K mg "QUOTE" v_QUOTE := gloB_ok T.kin T.glob (List.all_eq_true.mp T.more1 ("QUOTE", v_QUOTE) (List.mem_of_getElem? (i := 2) rfl))
theorem c_LINE (T : Txt P w K mg base h) : GloM K mg "LINE" v_LINE := gloB_ok T.kin T.glob (List.all_eq_true.mp T.more1 ("LINE", v_LINE) (List.mem_of_getElem? (i := 3) rfl))
theorem c_LETTERS (T : Txt P w K mg base h) : GloM K mg "LETTERS" v_LETTERS := gloB_ok T.kin T.glob (List.all_eq_true.mp T.more1 ("LETTERS", v_LETTERS) (List.mem_of_getElem? (i := 4) rfl))
theorem c_SIGNS (T : Txt P w K mg base h) : GloM K mg "SIGNS" v_SIGNS := gloB_ok T.kin T.glob (List.all_eq_true.mp T.more1 ("SIGNS", v_SIGNS) (List.mem_of_getElem? (i := 5) rfl))
theorem c_MOST_TEXT (T : Txt P w K mg base h) : GloM K mg "MOST_TEXT" v_MOST_TEXT := gloB_ok T.kin T.glob (List.all_eq_true.mp T.more1 ("MOST_TEXT", v_MOST_TEXT) (List.mem_of_getElem? (i := 6) rfl))
theorem z_ValueError (T : Txt P w K mg base h) : mg "ValueError" = none := He.free_ok T.kin T.glob (T.says.t.d.fact 29 (f := .free "ValueError") rfl)
theorem z_all (T : Txt P w K mg base h) : mg "all" = none := He.free_ok T.kin T.glob (T.says.t.d.fact 30 (f := .free "all") rfl)
theorem z_bool (T : Txt P w K mg base h) : mg "bool" = none := He.free_ok T.kin T.glob (T.says.t.d.fact 31 (f := .free "bool") rfl)
theorem z_enumerate (T : Txt P w K mg base h) : mg "enumerate" = none := He.free_ok T.kin T.glob (T.says.t.d.fact 32 (f := .free "enumerate") rfl)
theorem z_int (T : Txt P w K mg base h) : mg "int" = none := He.free_ok T.kin T.glob (T.says.t.d.fact 33 (f := .free "int") rfl)
theorem z_isinstance (T : Txt P w K mg base h) : mg "isinstance" = none := He.free_ok T.kin T.glob (T.says.t.d.fact 34 (f := .free "isinstance") rfl)
theorem z_len (T : Txt P w K mg base h) : mg "len" = none := He.free_ok T.kin T.glob (T.says.t.d.fact 35 (f := .free "len") rfl)
theorem z_range (T : Txt P w K mg base h) : mg "range" = none := He.free_ok T.kin T.glob (T.says.t.d.fact 36 (f := .free "range") rfl)
theorem z_repr (T : Txt P w K mg base h) : mg "repr" = none := He.free_ok T.kin T.glob (T.says.t.d.fact 37 (f := .free "repr") rfl)
theorem z_str (T : Txt P w K mg base h) : mg "str" = none := He.free_ok T.kin T.glob (T.says.t.d.fact 38 (f := .free "str") rfl)
theorem z_tuple (T : Txt P w K mg base h) : mg "tuple" = none := He.free_ok T.kin T.glob (T.says.t.d.fact 39 (f := .free "tuple") rfl)
theorem z_zip (T : Txt P w K mg base h) : mg "zip" = none := He.free_ok T.kin T.glob (T.says.t.d.fact 40 (f := .free "zip") rfl)
theorem h_before (T : Txt P w K mg base h) : ∀ c ∈ [n_Reading], ∃ C, mg (S c) = some (.ref C) ∧ Cls K C ∧ NoAttr K C "before" := by
  intro c hc
  simp only [List.mem_cons, List.not_mem_nil, or_false] at hc
  rcases hc with rfl
  · exact ⟨_, by rw [show S n_Reading = "Reading" by decide +kernel]; exact He.glo_ok T.kin T.glob (T.says.t.d.fact 22 (f := .glo "Reading") rfl), He.cls_ok (T.says.t.d.fact 23 (f := .cls "Reading") rfl), He.noat_ok (T.says.t.d.fact 41 (f := .noat "Reading" "before") rfl)⟩
theorem h_has_words (T : Txt P w K mg base h) : ∀ c ∈ [n_Reading], ∃ C, mg (S c) = some (.ref C) ∧ Cls K C ∧ NoAttr K C "has_words" := by
  intro c hc
  simp only [List.mem_cons, List.not_mem_nil, or_false] at hc
  rcases hc with rfl
  · exact ⟨_, by rw [show S n_Reading = "Reading" by decide +kernel]; exact He.glo_ok T.kin T.glob (T.says.t.d.fact 22 (f := .glo "Reading") rfl), He.cls_ok (T.says.t.d.fact 23 (f := .cls "Reading") rfl), He.noat_ok (T.says.t.d.fact 42 (f := .noat "Reading" "has_words") rfl)⟩
theorem h_is_open (T : Txt P w K mg base h) : ∀ c ∈ [n_Reading], ∃ C, mg (S c) = some (.ref C) ∧ Cls K C ∧ NoAttr K C "is_open" := by
  intro c hc
  simp only [List.mem_cons, List.not_mem_nil, or_false] at hc
  rcases hc with rfl
  · exact ⟨_, by rw [show S n_Reading = "Reading" by decide +kernel]; exact He.glo_ok T.kin T.glob (T.says.t.d.fact 22 (f := .glo "Reading") rfl), He.cls_ok (T.says.t.d.fact 23 (f := .cls "Reading") rfl), He.noat_ok (T.says.t.d.fact 43 (f := .noat "Reading" "is_open") rfl)⟩
theorem h_needs (T : Txt P w K mg base h) : ∀ c ∈ [n_Reading], ∃ C, mg (S c) = some (.ref C) ∧ Cls K C ∧ NoAttr K C "needs" := by
  intro c hc
  simp only [List.mem_cons, List.not_mem_nil, or_false] at hc
  rcases hc with rfl
  · exact ⟨_, by rw [show S n_Reading = "Reading" by decide +kernel]; exact He.glo_ok T.kin T.glob (T.says.t.d.fact 22 (f := .glo "Reading") rfl), He.cls_ok (T.says.t.d.fact 23 (f := .cls "Reading") rfl), He.noat_ok (T.says.t.d.fact 44 (f := .noat "Reading" "needs") rfl)⟩
theorem o_law_folded (T : Txt P w K mg base h) : ∃ fd, FnM P w K mg base 1 (He.fAd K e_law_folded.at_) fd ["_law_script"] m_law_folded ∧ Binds K fd ["_law_script"] [] ∧ PySem.W.keepIn K (.ref (He.fAd K e_law_folded.at_)) = true := by
  obtain ⟨fd, F⟩ := T.says.t.d.def_ 0 (d := e_law_folded) rfl
  exact ⟨fd, fn_okD (k := 0) F sc_law_folded (fun cdv hcd A outer s H E hr tk hp => by
    have sc := sc_law_folded
    exact (ms_cons (ms_setLc (i := 1) (own := [("_law_n", 2)]) (t := (.one 2)) rfl sc.nd rfl rfl (sw_true rfl rfl rfl (by decide +kernel)) (mi_range1 rfl (z_range T) (ma_cons me_int ma_nil)) (blkOk_by (own := [("_law_n", 2)]) (N := N_law_folded) (sc := defScope s_law_folded) (by decide +kernel)) (by decide) (fun _ _ _ _ _ => (pg_name (i := 2) sc.nd rfl (Or.inl rfl))) (fun _ _ _ _ _ => mts_nil) (fun _ _ _ _ _ => (me_op om_add me_int (me_var 2)))) (ms_cons (ms_for hp rfl (mi_enum rfl (z_enumerate T) (ma_cons (me_var 0) ma_nil)) (mg_tup rfl (mgs_cons (mg_name (i := 2) sc.nd rfl (Or.inl rfl)) (mgs_cons (mg_name (i := 3) sc.nd rfl (Or.inl rfl)) mgs_nil))) (ms_one (ms_sub hr.units (me_var 1) (me_op om_mod (me_callTy cm_int rfl (z_int T) (by decide +kernel) (ma_cons (me_var 2) ma_nil)) me_int) (me_op om_mod (me_callTy cm_int rfl (z_int T) (by decide +kernel) (ma_cons (me_op om_add (me_op om_mul (me_ix hr.units (me_var 1) (me_op om_mod (me_callTy cm_int rfl (z_int T) (by decide +kernel) (ma_cons (me_var 2) ma_nil)) me_int)) me_int) (me_var 3)) ma_nil)) me_int)))) (ms_cons (ms_for hp rfl (mi_range2 rfl (z_range T) (ma_cons me_int (ma_cons me_int ma_nil))) (mg_name (i := 2) sc.nd rfl (Or.inl rfl)) (ms_one (ms_sub hr.units (me_var 1) (me_var 2) (me_op om_mod (me_callTy cm_int rfl (z_int T) (by decide +kernel) (ma_cons (me_op om_add (me_ix hr.units (me_var 1) (me_var 2)) (me_op om_mul (me_ix hr.units (me_var 1) (me_op om_sub (me_var 2) me_int)) me_int)) ma_nil)) me_int)))) (ms_one (ms_ret (me_var 1))))))), F.bindsN (ps := ["_law_script"]) fun _ _ _ _ _ _ us hl => match us, hl with | [_], _ => rfl, F.kp⟩
theorem d_law_folded (T : Txt P w K mg base h) : Fn P w K mg base "_law_folded" 1 1 m_law_folded := by
  obtain ⟨fd, F, b, kp⟩ := o_law_folded (P := P) (base := base) T
  exact ⟨_, fd, _, rfl, F, He.glo_ok T.kin T.glob (T.says.t.d.fact 0 (f := .glo "_law_folded") rfl), kp, b⟩
theorem o_law_begun (T : Txt P w K mg base h) : ∃ fd, FnM P w K mg base 2 (He.fAd K e_law_begun.at_) fd ["_law_script"] m_law_begun ∧ Binds K fd ["_law_script"] [] ∧ PySem.W.keepIn K (.ref (He.fAd K e_law_begun.at_)) = true := by
  obtain ⟨fd, F⟩ := T.says.t.d.def_ 1 (d := e_law_begun) rfl
  exact ⟨fd, fn_okD (k := 1) F sc_law_begun (fun cdv hcd A outer s H E hr tk hp => by
    have sc := sc_law_begun
    exact (ms_cons (ms_set (i := 1) sc.nd rfl (Or.inl rfl) (me_disp (prs := [(eC (.str [99, 101, 108, 108, 115]), eCall 1 m_law_folded (aCons (eVar 0) (aNil))), (eC (.str [103, 114, 101, 97, 116]), eLst (aNil)), (eC (.str [115, 112, 111, 116]), eC (.int 0))]) (pps_cons (me_str [99, 101, 108, 108, 115]) (me_call (d_law_folded T) tk hr rfl (ma_cons (me_var 0) ma_nil)) (pps_cons (me_str [103, 114, 101, 97, 116]) (me_lst ma_nil) (pps_cons (me_str [115, 112, 111, 116]) me_int pps_nil))))) (ms_cons (ms_sub hr.units (me_var 1) (me_str [103, 114, 101, 97, 116]) (me_lc (own := [("_law_cell", 2)]) (t := (.one 2)) rfl sc.nd (mi_seq (me_var 0)) (blkOk_by (own := [("_law_cell", 2)]) (N := N_law_begun) (sc := defScope s_law_begun) (by decide +kernel)) (by decide) (fun _ _ _ _ _ => (pg_name (i := 2) sc.nd rfl (Or.inl rfl))) (fun _ _ _ _ _ => mts_nil) (fun _ _ _ _ _ => (me_if (mt_cmp om_ge (me_var 2) (me_op om_pow me_int me_int)) (me_var 2) me_int)))) (ms_one (ms_ret (me_var 1)))))), F.bindsN (ps := ["_law_script"]) fun _ _ _ _ _ _ us hl => match us, hl with | [_], _ => rfl, F.kp⟩
theorem d_law_begun (T : Txt P w K mg base h) : Fn P w K mg base "_law_begun" 2 1 m_law_begun := by
  obtain ⟨fd, F, b, kp⟩ := o_law_begun (P := P) (base := base) T
  exact ⟨_, fd, _, rfl, F, He.glo_ok T.kin T.glob (T.says.t.d.fact 1 (f := .glo "_law_begun") rfl), kp, b⟩
theorem o_law_mixed (T : Txt P w K mg base h) : ∃ fd, FnM P w K mg base 1 (He.fAd K e_law_mixed.at_) fd ["_law_cell", "_law_n"] m_law_mixed ∧ Binds K fd ["_law_cell", "_law_n"] [] ∧ PySem.W.keepIn K (.ref (He.fAd K e_law_mixed.at_)) = true := by
  obtain ⟨fd, F⟩ := T.says.t.d.def_ 2 (d := e_law_mixed) rfl
  exact ⟨fd, fn_okD (k := 0) F sc_law_mixed (fun cdv hcd A outer s H E hr tk hp => by
    have sc := sc_law_mixed
    exact (ms_cons (ms_set (i := 2) sc.nd rfl (Or.inl rfl) (me_op om_add (me_op om_add (me_op om_mod (me_callTy cm_int rfl (z_int T) (by decide +kernel) (ma_cons (me_op om_mul (me_op om_mul (me_var 0) (me_op om_add me_int (me_op om_mul me_int (me_var 1)))) me_int) ma_nil)) me_int) (me_op om_mul (me_op om_mul me_int (me_var 1)) (me_var 1))) (me_op om_mul me_int (me_var 1)))) (ms_one (ms_ret (me_op om_fdiv (me_op om_mod (me_callTy cm_int rfl (z_int T) (by decide +kernel) (ma_cons (me_op om_mul (me_var 2) me_int) ma_nil)) me_int) me_int))))), F.bindsN (ps := ["_law_cell", "_law_n"]) fun _ _ _ _ _ _ us hl => match us, hl with | [_, _], _ => rfl, F.kp⟩
theorem d_law_mixed (T : Txt P w K mg base h) : Fn P w K mg base "_law_mixed" 1 2 m_law_mixed := by
  obtain ⟨fd, F, b, kp⟩ := o_law_mixed (P := P) (base := base) T
  exact ⟨_, fd, _, rfl, F, He.glo_ok T.kin T.glob (T.says.t.d.fact 2 (f := .glo "_law_mixed") rfl), kp, b⟩
theorem o_law_draw (T : Txt P w K mg base h) : ∃ fd, FnM P w K mg base 2 (He.fAd K e_law_draw.at_) fd ["_law_m", "_law_limit"] m_law_draw ∧ Binds K fd ["_law_m", "_law_limit"] [] ∧ PySem.W.keepIn K (.ref (He.fAd K e_law_draw.at_)) = true := by
  obtain ⟨fd, F⟩ := T.says.t.d.def_ 3 (d := e_law_draw) rfl
  exact ⟨fd, FnM.trim (fn_okD (k := 1) F sc_law_draw (fun cdv hcd A outer s H E hr tk hp => by
    have sc := sc_law_draw
    exact (ms_cons (ms_set (i := 2) sc.nd rfl (Or.inl rfl) (me_ix hr.units (me_var 0) (me_str [115, 112, 111, 116]))) (ms_cons (ms_sub hr.units (me_var 0) (me_str [115, 112, 111, 116]) (me_op om_add (me_var 2) me_int)) (ms_cons (ms_if (mt_cmp (om_ne hr.units) (me_ix hr.units (me_var 0) (me_str [103, 114, 101, 97, 116])) (me_lst ma_nil)) (ms_cons (ms_set (i := 3) sc.nd rfl (Or.inl rfl) (me_ix hr.units (me_var 0) (me_str [103, 114, 101, 97, 116]))) (ms_cons (ms_set (i := 4) sc.nd rfl (Or.inl rfl) (me_op om_mod (me_callTy cm_int rfl (z_int T) (by decide +kernel) (ma_cons (me_var 2) ma_nil)) (me_callB cm_len rfl (z_len T) (by decide +kernel) (ma_cons (me_var 3) ma_nil)))) (ms_cons (ms_set (i := 5) sc.nd rfl (Or.inl rfl) (me_ix hr.units (me_var 3) (me_var 4))) (ms_one (ms_if (mt_cmp om_gt (me_var 5) me_int) (ms_cons (ms_sub hr.units (me_var 3) (me_var 4) (me_op om_fdiv (me_var 5) (me_var 1))) (ms_one (ms_ret (me_op om_mod (me_callTy cm_int rfl (z_int T) (by decide +kernel) (ma_cons (me_var 5) ma_nil)) (me_var 1))))) ms_nil))))) ms_nil) (ms_cons (ms_set (i := 3) sc.nd rfl (Or.inl rfl) (me_ix hr.units (me_var 0) (me_str [99, 101, 108, 108, 115]))) (ms_one (ms_ret (me_op om_mod (me_callTy cm_int rfl (z_int T) (by decide +kernel) (ma_cons (me_call (d_law_mixed T) tk hr rfl (ma_cons (me_call (d_law_mixed T) tk hr rfl (ma_cons (me_op om_add (me_ix hr.units (me_var 3) (me_op om_mod (me_callTy cm_int rfl (z_int T) (by decide +kernel) (ma_cons (me_var 2) ma_nil)) me_int)) (me_op om_mul me_int (me_op om_fdiv (me_var 2) me_int))) (ma_cons (me_var 2) ma_nil))) (ma_cons (me_op om_add (me_var 2) me_int) ma_nil))) ma_nil)) (me_var 1)))))))))), F.bindsN (ps := ["_law_m", "_law_limit"]) fun _ _ _ _ _ _ us hl => match us, hl with | [_, _], _ => rfl, F.kp⟩
theorem d_law_draw (T : Txt P w K mg base h) : Fn P w K mg base "_law_draw" 2 2 m_law_draw := by
  obtain ⟨fd, F, b, kp⟩ := o_law_draw (P := P) (base := base) T
  exact ⟨_, fd, _, rfl, F, He.glo_ok T.kin T.glob (T.says.t.d.fact 3 (f := .glo "_law_draw") rfl), kp, b⟩
theorem o_law_manner (T : Txt P w K mg base h) : ∃ fd, FnM P w K mg base 3 (He.fAd K e_law_manner.at_) fd ["_law_m"] m_law_manner ∧ Binds K fd ["_law_m"] [] ∧ PySem.W.keepIn K (.ref (He.fAd K e_law_manner.at_)) = true := by
  obtain ⟨fd, F⟩ := T.says.t.d.def_ 4 (d := e_law_manner) rfl
  exact ⟨fd, FnM.trimV (fn_okD (k := 2) F sc_law_manner (fun cdv hcd A outer s H E hr tk hp => by
    have sc := sc_law_manner
    exact (ms_one (ms_ret (me_tup (ma_cons (me_cmp (om_eq hr.units) (me_call (d_law_draw T) tk hr rfl (ma_cons (me_var 0) (ma_cons me_int ma_nil))) me_int) (ma_cons (me_cmp (om_eq hr.units) (me_call (d_law_draw T) tk hr rfl (ma_cons (me_var 0) (ma_cons me_int ma_nil))) me_int) (ma_cons (me_cmp (om_eq hr.units) (me_call (d_law_draw T) tk hr rfl (ma_cons (me_var 0) (ma_cons me_int ma_nil))) me_int) ma_nil)))))))), F.bindsN (ps := ["_law_m"]) fun _ _ _ _ _ _ us hl => match us, hl with | [_], _ => rfl, F.kp⟩
theorem d_law_manner (T : Txt P w K mg base h) : Fn P w K mg base "_law_manner" 3 1 m_law_manner := by
  obtain ⟨fd, F, b, kp⟩ := o_law_manner (P := P) (base := base) T
  exact ⟨_, fd, _, rfl, F, He.glo_ok T.kin T.glob (T.says.t.d.fact 4 (f := .glo "_law_manner") rfl), kp, b⟩
theorem o_law_need_of (T : Txt P w K mg base h) : ∃ fd, FnM P w K mg base 1 (He.fAd K e_law_need_of.at_) fd ["_law_manner_here", "_law_text_here"] m_law_need_of ∧ Binds K fd ["_law_manner_here", "_law_text_here"] [] ∧ PySem.W.keepIn K (.ref (He.fAd K e_law_need_of.at_)) = true := by
  obtain ⟨fd, F⟩ := T.says.t.d.def_ 5 (d := e_law_need_of) rfl
  exact ⟨fd, FnM.pureV (fn_okD (k := 0) F sc_law_need_of (fun cdv hcd A outer s H E hr tk hp => by
    have sc := sc_law_need_of
    exact (ms_cons (ms_par3 (i := 2) (j := 3) (l := 4) rfl sc.nd rfl rfl rfl (by decide) (by decide) (by decide) rfl rfl rfl (ma_cons (me_lst ma_nil) (ma_cons me_bl (ma_cons (me_str []) ma_nil)))) (ms_cons (ms_for hp rfl (mi_enum rfl (z_enumerate T) (ma_cons (me_var 1) ma_nil)) (mg_tup rfl (mgs_cons (mg_name (i := 5) sc.nd rfl (Or.inl rfl)) (mgs_cons (mg_name (i := 6) sc.nd rfl (Or.inl rfl)) mgs_nil))) (ms_cons (ms_set (i := 7) sc.nd rfl (Or.inl rfl) (me_and (me_cmp (om_ne hr.units) (me_var 2) (me_lstV ma_nil)) (me_one (me_cmp (om_eq hr.units) (me_ix hr.units (me_var 2) (me_neg me_int)) (me_str [39]))))) (ms_cons (ms_if (mt_w (mw_or (mt_w (mw_and (mt_val (me_var 7)) (mw_and1 (mt_cmp (om_eq hr.units) (me_var 6) (me_str [47]))))) (mw_or1 (mt_w (mw_and (mt_val (me_var 3)) (mw_and1 (mt_not (mt_chn om_le om_le (me_str [97]) (me_var 6) (me_str [122]))))))))) (ms_one (ms_ret (me_tup (ma_cons (me_bm (t := .str) PySem.F.plainAttrs_str PySem.F.slot_str_join PySem.F.type_str_join mm_join (me_str []) (ma_cons (me_revV (me_var 2)) ma_nil)) (ma_cons (me_var 3) (ma_cons (me_var 5) ma_nil)))))) ms_nil) (ms_cons (ms_if (mt_w (mw_and (mt_not (mt_val (me_var 7))) (mw_and (mt_cmp (om_in hr.units) (me_var 6) (me_str [41, 93])) (mw_and1 (mt_w (mw_or (mt_cmp (om_eq hr.units) (me_var 2) (me_lstV ma_nil)) (mw_or1 (mt_cmp (om_ne hr.units) (me_ix hr.units (me_var 2) (me_neg me_int)) (me_var 6))))))))) (ms_one (ms_ret (me_tup (ma_cons (me_bm (t := .str) PySem.F.plainAttrs_str PySem.F.slot_str_join PySem.F.type_str_join mm_join (me_str []) (ma_cons (me_revV (me_var 2)) ma_nil)) (ma_cons (me_var 3) (ma_cons (me_var 5) ma_nil)))))) ms_nil) (ms_cons (ms_set (i := 3) sc.nd rfl (Or.inl rfl) (me_and (me_ix hr.units (me_var 0) me_int) (me_and (me_not (me_var 7)) (me_and (me_cmp (om_eq hr.units) (me_var 6) (me_str [39])) (me_one (me_chain om_le om_le (me_str [97]) (me_var 4) (me_str [122]))))))) (ms_cons (ms_if (mt_w (mw_or (mt_w (mw_and (mt_val (me_var 7)) (mw_and1 (mt_cmp (om_eq hr.units) (me_var 6) (me_str [39]))))) (mw_or1 (mt_w (mw_and (mt_not (mt_val (me_var 7))) (mw_and1 (mt_cmp (om_in hr.units) (me_var 6) (me_str [41, 93])))))))) (ms_one (ms_expr (me_bm0 (t := .list) PySem.F.plainAttrs_list PySem.F.slot_list_pop PySem.F.type_list_pop mm_pop (me_var 2)))) (ms_one (ms_if (mt_w (mw_and (mt_not (mt_val (me_var 7))) (mw_and (mt_not (mt_val (me_var 3))) (mw_and1 (mt_cmp (om_in hr.units) (me_var 6) (me_str [40, 91, 39])))))) (ms_one (ms_expr (me_bm (t := .list) PySem.F.plainAttrs_list PySem.F.slot_list_append PySem.F.type_list_append mm_append (me_var 2) (ma_cons (me_dg (prs := [(eC (.str [40]), eC (.str [41])), (eC (.str [91]), eC (.str [93])), (eC (.str [39]), eC (.str [39]))]) hr.units (pps_cons (me_str [40]) (me_str [41]) (pps_cons (me_str [91]) (me_str [93]) (pps_cons (me_str [39]) (me_str [39]) pps_nil))) (me_var 6)) ma_nil)))) ms_nil))) (ms_one (ms_set (i := 4) sc.nd rfl (Or.inl rfl) (me_var 6))))))))) (ms_one (ms_ret (me_tup (ma_cons (me_bm (t := .str) PySem.F.plainAttrs_str PySem.F.slot_str_join PySem.F.type_str_join mm_join (me_str []) (ma_cons (me_revV (me_var 2)) ma_nil)) (ma_cons (me_var 3) (ma_cons me_non ma_nil)))))))))), F.bindsN (ps := ["_law_manner_here", "_law_text_here"]) fun _ _ _ _ _ _ us hl => match us, hl with | [_, _], _ => rfl, F.kp⟩
theorem d_law_need_of (T : Txt P w K mg base h) : Fn P w K mg base "_law_need_of" 1 2 m_law_need_of := by
  obtain ⟨fd, F, b, kp⟩ := o_law_need_of (P := P) (base := base) T
  exact ⟨_, fd, _, rfl, F, He.glo_ok T.kin T.glob (T.says.t.d.fact 5 (f := .glo "_law_need_of") rfl), kp, b⟩
theorem o_law_like (T : Txt P w K mg base h) : ∃ fd, FnM P w K mg base 1 (He.fAd K e_law_like.at_) fd ["_law_heard_here", "_law_due"] m_law_like ∧ Binds K fd ["_law_heard_here", "_law_due"] [] ∧ PySem.W.keepIn K (.ref (He.fAd K e_law_like.at_)) = true := by
  obtain ⟨fd, F⟩ := T.says.t.d.def_ 6 (d := e_law_like) rfl
  exact ⟨fd, FnM.pureV (fn_okD (k := 0) F sc_law_like (fun cdv hcd A outer s H E hr tk hp => by
    have sc := sc_law_like
    exact (ms_one (ms_ret (me_cmp (om_eq hr.units) (me_callB (cm_repr hr) rfl (z_repr T) (by decide +kernel) (ma_cons (me_var 0) ma_nil)) (me_callB (cm_repr hr) rfl (z_repr T) (by decide +kernel) (ma_cons (me_var 1) ma_nil))))))), F.bindsN (ps := ["_law_heard_here", "_law_due"]) fun _ _ _ _ _ _ us hl => match us, hl with | [_, _], _ => rfl, F.kp⟩
theorem d_law_like (T : Txt P w K mg base h) : Fn P w K mg base "_law_like" 1 2 m_law_like := by
  obtain ⟨fd, F, b, kp⟩ := o_law_like (P := P) (base := base) T
  exact ⟨_, fd, _, rfl, F, He.glo_ok T.kin T.glob (T.says.t.d.fact 6 (f := .glo "_law_like") rfl), kp, b⟩
theorem o_need_manner (T : Txt P w K mg base h) : ∃ fd, FnM P w K mg base 2 (He.fAd K e_need_manner.at_) fd ["manner"] m_need_manner ∧ Binds K fd ["manner"] [] ∧ PySem.W.keepIn K (.ref (He.fAd K e_need_manner.at_)) = true := by
  obtain ⟨fd, F⟩ := T.says.t.d.def_ 7 (d := e_need_manner) rfl
  exact ⟨fd, fn_okD (k := 1) F sc_need_manner (fun cdv hcd A outer s H E hr tk hp => by
    have sc := sc_need_manner
    exact (ms_cons (ms_if (mt_w (mw_or (mt_not (mt_val (me_callB cm_isi rfl (z_isinstance T) (by decide +kernel) (ma_cons (me_var 0) (ma_cons (me_ty (t := .tuple) rfl (z_tuple T) (by decide +kernel)) ma_nil))))) (mw_or (mt_cmp (om_ne hr.units) (me_callB cm_len rfl (z_len T) (by decide +kernel) (ma_cons (me_var 0) ma_nil)) me_int) (mw_or1 (mt_not (mt_val (me_callB (cm_all rfl) rfl (z_all T) (by decide +kernel) (ma_cons (me_lcV (own := [("word", 1)]) (t := (.one 1)) rfl sc.nd (mi_seq (me_var 0)) (blkOk_by (own := [("word", 1)]) (N := N_need_manner) (sc := defScope s_need_manner) (by decide +kernel)) (by decide) (fun _ _ _ _ _ => (pg_name (i := 1) sc.nd rfl (Or.inl rfl))) (fun _ _ _ _ _ => mts_nil) (fun _ _ _ _ _ => (me_callB cm_isi rfl (z_isinstance T) (by decide +kernel) (ma_cons (me_var 1) (ma_cons (me_ty (t := .bool) rfl (z_bool T) (by decide +kernel)) ma_nil))))) ma_nil)))))))) (ms_one (ms_raise (c := n_BadManner) (ff := f_value) ((T.exx).xcs (by decide +kernel)) tk hr rfl (ma_cons (me_var 0) ma_nil))) ms_nil) (ms_one (ms_ret (me_var 0))))), F.bindsN (ps := ["manner"]) fun _ _ _ _ _ _ us hl => match us, hl with | [_], _ => rfl, F.kp⟩
theorem d_need_manner (T : Txt P w K mg base h) : Fn P w K mg base "need_manner" 2 1 m_need_manner := by
  obtain ⟨fd, F, b, kp⟩ := o_need_manner (P := P) (base := base) T
  exact ⟨_, fd, _, rfl, F, He.glo_ok T.kin T.glob (T.says.t.d.fact 7 (f := .glo "need_manner") rfl), kp, b⟩
theorem o_need_text (T : Txt P w K mg base h) : ∃ fd, FnM P w K mg base 2 (He.fAd K e_need_text.at_) fd ["text"] m_need_text ∧ Binds K fd ["text"] [] ∧ PySem.W.keepIn K (.ref (He.fAd K e_need_text.at_)) = true := by
  obtain ⟨fd, F⟩ := T.says.t.d.def_ 8 (d := e_need_text) rfl
  exact ⟨fd, fn_okD (k := 1) F sc_need_text (fun cdv hcd A outer s H E hr tk hp => by
    have sc := sc_need_text
    exact (ms_cons (ms_if (mt_w (mw_or (mt_not (mt_val (me_callB cm_isi rfl (z_isinstance T) (by decide +kernel) (ma_cons (me_var 0) (ma_cons (me_ty (t := .str) rfl (z_str T) (by decide +kernel)) ma_nil))))) (mw_or1 (mt_cmp om_gt (me_callB cm_len rfl (z_len T) (by decide +kernel) (ma_cons (me_var 0) ma_nil)) (me_glob rfl (c_MOST_TEXT T)))))) (ms_one (ms_raise (c := n_BadText) (ff := f_place) ((T.exx).xcs (by decide +kernel)) tk hr rfl (ma_cons me_non ma_nil))) ms_nil) (ms_one (ms_for hp rfl (mi_enum rfl (z_enumerate T) (ma_cons (me_var 0) ma_nil)) (mg_tup rfl (mgs_cons (mg_name (i := 1) sc.nd rfl (Or.inl rfl)) (mgs_cons (mg_name (i := 2) sc.nd rfl (Or.inl rfl)) mgs_nil))) (ms_one (ms_if (mt_cmp (om_notin hr.units) (me_var 2) (me_glob rfl (c_SIGNS T))) (ms_one (ms_raise (c := n_BadText) (ff := f_place) ((T.exx).xcs (by decide +kernel)) tk hr rfl (ma_cons (me_var 1) ma_nil))) ms_nil)))))), F.bindsN (ps := ["text"]) fun _ _ _ _ _ _ us hl => match us, hl with | [_], _ => rfl, F.kp⟩
theorem d_need_text (T : Txt P w K mg base h) : Fn P w K mg base "need_text" 2 1 m_need_text := by
  obtain ⟨fd, F, b, kp⟩ := o_need_text (P := P) (base := base) T
  exact ⟨_, fd, _, rfl, F, He.glo_ok T.kin T.glob (T.says.t.d.fact 8 (f := .glo "need_text") rfl), kp, b⟩
theorem o_Reading_is_quoted (T : Txt P w K mg base h) : ∃ fd, FnM P w K mg base 1 (He.fAd K e_Reading_is_quoted.at_) fd ["self"] m_Reading_is_quoted ∧ Binds K fd ["self"] [] ∧ PySem.W.keepIn K (.ref (He.fAd K e_Reading_is_quoted.at_)) = true := by
  obtain ⟨fd, F⟩ := T.says.t.d.def_ 9 (d := e_Reading_is_quoted) rfl
  exact ⟨fd, fn_okD (k := 0) F sc_Reading_is_quoted (fun cdv hcd A outer s H E hr tk hp => by
    have sc := sc_Reading_is_quoted
    exact (ms_one (ms_ret (me_cmp (om_eq hr.units) (me_cutV (me_fld (cs := [n_Reading]) (f := f_needs) (h_needs T) (me_var 0)) (mo_some (me_neg me_int)) mo_none) (me_glob rfl (c_QUOTE T)))))), F.bindsN (ps := ["self"]) fun _ _ _ _ _ _ us hl => match us, hl with | [_], _ => rfl, F.kp⟩
theorem t_Reading_is_quoted (T : Txt P w K mg base h) : Mt P w K mg base (S n_Reading) (S x_is_quoted) 1 1 m_Reading_is_quoted := by
  obtain ⟨fd, F, b, kp⟩ := o_Reading_is_quoted (P := P) (base := base) T
  have hx : S x_is_quoted = "is_quoted" := by decide +kernel
  exact ⟨_, _, fd, _, rfl, F, by rw [show S n_Reading = "Reading" by decide +kernel]; exact He.glo_ok T.kin T.glob (T.says.t.d.fact 22 (f := .glo "Reading") rfl), He.cls_ok (T.says.t.d.fact 23 (f := .cls "Reading") rfl), by rw [hx]; exact He.meth_ok (T.says.t.d.fact 25 (f := .meth "Reading" "is_quoted") rfl), b⟩
theorem o_is_letter (T : Txt P w K mg base h) : ∃ fd, FnM P w K mg base 1 (He.fAd K e_is_letter.at_) fd ["sign"] m_is_letter ∧ Binds K fd ["sign"] [] ∧ PySem.W.keepIn K (.ref (He.fAd K e_is_letter.at_)) = true := by
  obtain ⟨fd, F⟩ := T.says.t.d.def_ 10 (d := e_is_letter) rfl
  exact ⟨fd, fn_okD (k := 0) F sc_is_letter (fun cdv hcd A outer s H E hr tk hp => by
    have sc := sc_is_letter
    exact (ms_one (ms_ret (me_and (me_cmp (om_ne hr.units) (me_var 0) (me_str [])) (me_one (me_cmp (om_in hr.units) (me_var 0) (me_glob rfl (c_LETTERS T)))))))), F.bindsN (ps := ["sign"]) fun _ _ _ _ _ _ us hl => match us, hl with | [_], _ => rfl, F.kp⟩
theorem d_is_letter (T : Txt P w K mg base h) : Fn P w K mg base "is_letter" 1 1 m_is_letter := by
  obtain ⟨fd, F, b, kp⟩ := o_is_letter (P := P) (base := base) T
  exact ⟨_, fd, _, rfl, F, He.glo_ok T.kin T.glob (T.says.t.d.fact 9 (f := .glo "is_letter") rfl), kp, b⟩
theorem o_Reading_can_read (T : Txt P w K mg base h) : ∃ fd, FnM P w K mg base 2 (He.fAd K e_Reading_can_read.at_) fd ["self", "sign"] m_Reading_can_read ∧ Binds K fd ["self", "sign"] [] ∧ PySem.W.keepIn K (.ref (He.fAd K e_Reading_can_read.at_)) = true := by
  obtain ⟨fd, F⟩ := T.says.t.d.def_ 11 (d := e_Reading_can_read) rfl
  exact ⟨fd, fn_okD (k := 1) F sc_Reading_can_read (fun cdv hcd A outer s H E hr tk hp => by
    have sc := sc_Reading_can_read
    exact (ms_cons (ms_if (mt_val (me_meth0 (cc := n_Reading) (xx := x_is_quoted) (t_Reading_is_quoted T) tk hr (me_var 0))) (ms_one (ms_ret (me_cmp (om_ne hr.units) (me_var 1) (me_glob rfl (c_LINE T))))) ms_nil) (ms_cons (ms_if (mt_val (me_fld (cs := [n_Reading]) (f := f_is_open) (h_is_open T) (me_var 0))) (ms_one (ms_ret (me_call (d_is_letter T) tk hr rfl (ma_cons (me_var 1) ma_nil)))) ms_nil) (ms_one (ms_ret (me_or (me_cmp (om_notin hr.units) (me_var 1) (me_glob rfl (c_CLOSERS T))) (me_one (me_cmp (om_eq hr.units) (me_cutV (me_fld (cs := [n_Reading]) (f := f_needs) (h_needs T) (me_var 0)) (mo_some (me_neg me_int)) mo_none) (me_var 1))))))))), F.bindsN (ps := ["self", "sign"]) fun _ _ _ _ _ _ us hl => match us, hl with | [_, _], _ => rfl, F.kp⟩
theorem t_Reading_can_read (T : Txt P w K mg base h) : Mt P w K mg base (S n_Reading) (S x_can_read) 2 2 m_Reading_can_read := by
  obtain ⟨fd, F, b, kp⟩ := o_Reading_can_read (P := P) (base := base) T
  have hx : S x_can_read = "can_read" := by decide +kernel
  exact ⟨_, _, fd, _, rfl, F, by rw [show S n_Reading = "Reading" by decide +kernel]; exact He.glo_ok T.kin T.glob (T.says.t.d.fact 22 (f := .glo "Reading") rfl), He.cls_ok (T.says.t.d.fact 23 (f := .cls "Reading") rfl), by rw [hx]; exact He.meth_ok (T.says.t.d.fact 26 (f := .meth "Reading" "can_read") rfl), b⟩
theorem o_closer_of (T : Txt P w K mg base h) : ∃ fd, FnM P w K mg base 1 (He.fAd K e_closer_of.at_) fd ["sign"] m_closer_of ∧ Binds K fd ["sign"] [] ∧ PySem.W.keepIn K (.ref (He.fAd K e_closer_of.at_)) = true := by
  obtain ⟨fd, F⟩ := T.says.t.d.def_ 12 (d := e_closer_of) rfl
  exact ⟨fd, fn_okD (k := 0) F sc_closer_of (fun cdv hcd A outer s H E hr tk hp => by
    have sc := sc_closer_of
    exact (ms_cons (ms_if (mt_cmp (om_eq hr.units) (me_var 0) (me_glob rfl (c_QUOTE T))) (ms_one (ms_ret (me_glob rfl (c_QUOTE T)))) ms_nil) (ms_one (ms_ret (me_if (mt_w (mw_and (mt_cmp (om_ne hr.units) (me_var 0) (me_str [])) (mw_and1 (mt_cmp (om_in hr.units) (me_var 0) (me_glob rfl (c_OPENERS T)))))) (me_ix hr.units (me_glob rfl (c_CLOSERS T)) (me_bm (t := .str) PySem.F.plainAttrs_str PySem.F.slot_str_index PySem.F.type_str_index mm_index (me_glob rfl (c_OPENERS T)) (ma_cons (me_var 0) ma_nil))) (me_str [])))))), F.bindsN (ps := ["sign"]) fun _ _ _ _ _ _ us hl => match us, hl with | [_], _ => rfl, F.kp⟩
theorem d_closer_of (T : Txt P w K mg base h) : Fn P w K mg base "closer_of" 1 1 m_closer_of := by
  obtain ⟨fd, F, b, kp⟩ := o_closer_of (P := P) (base := base) T
  exact ⟨_, fd, _, rfl, F, He.glo_ok T.kin T.glob (T.says.t.d.fact 10 (f := .glo "closer_of") rfl), kp, b⟩
theorem o_Reading_read (T : Txt P w K mg base h) : ∃ fd, FnM P w K mg base 2 (He.fAd K e_Reading_read.at_) fd ["self", "sign"] m_Reading_read ∧ Binds K fd ["self", "sign"] [] ∧ PySem.W.keepIn K (.ref (He.fAd K e_Reading_read.at_)) = true := by
  obtain ⟨fd, F⟩ := T.says.t.d.def_ 13 (d := e_Reading_read) rfl
  exact ⟨fd, fn_okD (k := 1) F sc_Reading_read (fun cdv hcd A outer s H E hr tk hp => by
    have sc := sc_Reading_read
    exact (ms_cons (ms_if (mt_val (me_meth0 (cc := n_Reading) (xx := x_is_quoted) (t_Reading_is_quoted T) tk hr (me_var 0))) (ms_one (ms_if (mt_cmp (om_eq hr.units) (me_var 1) (me_glob rfl (c_QUOTE T))) (ms_one (ms_fld (cs := [n_Reading]) (f := f_needs) (h_needs T) (me_var 0) (me_cutV (me_fld (cs := [n_Reading]) (f := f_needs) (h_needs T) (me_var 0)) mo_none (mo_some (me_neg me_int))))) ms_nil)) (ms_one (ms_if (mt_w (mw_and (mt_cmp (om_eq hr.units) (me_var 1) (me_glob rfl (c_QUOTE T))) (mw_and (mt_val (me_fld (cs := [n_Reading]) (f := f_has_words) (h_has_words T) (me_var 0))) (mw_and1 (mt_val (me_call (d_is_letter T) tk hr rfl (ma_cons (me_fld (cs := [n_Reading]) (f := f_before) (h_before T) (me_var 0)) ma_nil))))))) (ms_one (ms_fld (cs := [n_Reading]) (f := f_is_open) (h_is_open T) (me_var 0) me_bl)) (ms_cons (ms_fld (cs := [n_Reading]) (f := f_is_open) (h_is_open T) (me_var 0) me_bl) (ms_one (ms_if (mt_cmp (om_in hr.units) (me_var 1) (me_op om_addV (me_glob rfl (c_OPENERS T)) (me_glob rfl (c_QUOTE T)))) (ms_one (ms_fldaug (cs := [n_Reading]) (f := f_needs) (h_needs T) im_add (me_var 0) (me_call (d_closer_of T) tk hr rfl (ma_cons (me_var 1) ma_nil)))) (ms_one (ms_if (mt_cmp (om_in hr.units) (me_var 1) (me_glob rfl (c_CLOSERS T))) (ms_one (ms_fld (cs := [n_Reading]) (f := f_needs) (h_needs T) (me_var 0) (me_cutV (me_fld (cs := [n_Reading]) (f := f_needs) (h_needs T) (me_var 0)) mo_none (mo_some (me_neg me_int))))) ms_nil)))))))) (ms_one (ms_fld (cs := [n_Reading]) (f := f_before) (h_before T) (me_var 0) (me_var 1))))), F.bindsN (ps := ["self", "sign"]) fun _ _ _ _ _ _ us hl => match us, hl with | [_, _], _ => rfl, F.kp⟩
theorem t_Reading_read (T : Txt P w K mg base h) : Mt P w K mg base (S n_Reading) (S x_read) 2 2 m_Reading_read := by
  obtain ⟨fd, F, b, kp⟩ := o_Reading_read (P := P) (base := base) T
  have hx : S x_read = "read" := by decide +kernel
  exact ⟨_, _, fd, _, rfl, F, by rw [show S n_Reading = "Reading" by decide +kernel]; exact He.glo_ok T.kin T.glob (T.says.t.d.fact 22 (f := .glo "Reading") rfl), He.cls_ok (T.says.t.d.fact 23 (f := .cls "Reading") rfl), by rw [hx]; exact He.meth_ok (T.says.t.d.fact 27 (f := .meth "Reading" "read") rfl), b⟩
theorem o_Reading___init__ (T : Txt P w K mg base h) : ∃ fd, FnM P w K mg base 1 (He.fAd K e_Reading___init__.at_) fd ["self", "has_words"] m_Reading___init__ ∧ Binds K fd ["self", "has_words"] [] ∧ PySem.W.keepIn K (.ref (He.fAd K e_Reading___init__.at_)) = true := by
  obtain ⟨fd, F⟩ := T.says.t.d.def_ 14 (d := e_Reading___init__) rfl
  exact ⟨fd, fn_okD (k := 0) F sc_Reading___init__ (fun cdv hcd A outer s H E hr tk hp => by
    have sc := sc_Reading___init__
    exact (ms_cons (ms_fld (cs := [n_Reading]) (f := f_has_words) (h_has_words T) (me_var 0) (me_var 1)) (ms_cons (ms_fld (cs := [n_Reading]) (f := f_needs) (h_needs T) (me_var 0) (me_str [])) (ms_cons (ms_fld (cs := [n_Reading]) (f := f_before) (h_before T) (me_var 0) (me_str [])) (ms_one (ms_fld (cs := [n_Reading]) (f := f_is_open) (h_is_open T) (me_var 0) me_bl)))))), F.bindsN (ps := ["self", "has_words"]) fun _ _ _ _ _ _ us hl => match us, hl with | [_, _], _ => rfl, F.kp⟩
theorem t_Reading___init__ (T : Txt P w K mg base h) : Mt P w K mg base (S n_Reading) (S x___init__) 1 2 m_Reading___init__ := by
  obtain ⟨fd, F, b, kp⟩ := o_Reading___init__ (P := P) (base := base) T
  have hx : S x___init__ = "__init__" := by decide +kernel
  exact ⟨_, _, fd, _, rfl, F, by rw [show S n_Reading = "Reading" by decide +kernel]; exact He.glo_ok T.kin T.glob (T.says.t.d.fact 22 (f := .glo "Reading") rfl), He.cls_ok (T.says.t.d.fact 23 (f := .cls "Reading") rfl), by rw [hx]; exact He.meth_ok (T.says.t.d.fact 28 (f := .meth "Reading" "__init__") rfl), b⟩
theorem k_Reading (T : Txt P w K mg base h) : Mkr P w K mg base (S n_Reading) 1 2 m_Reading___init__ := by
  obtain ⟨fd, F, b, kp⟩ := o_Reading___init__ (P := P) (base := base) T
  exact ⟨_, _, fd, _, rfl, F, by rw [show S n_Reading = "Reading" by decide +kernel]; exact He.glo_ok T.kin T.glob (T.says.t.d.fact 22 (f := .glo "Reading") rfl), He.mkr_ok (T.says.t.d.fact 24 (f := .mkr "Reading") rfl), b⟩
theorem o_read_all (T : Txt P w K mg base h) : ∃ fd, FnM P w K mg base 3 (He.fAd K e_read_all.at_) fd ["text", "has_words"] m_read_all ∧ Binds K fd ["text", "has_words"] [] ∧ PySem.W.keepIn K (.ref (He.fAd K e_read_all.at_)) = true := by
  obtain ⟨fd, F⟩ := T.says.t.d.def_ 15 (d := e_read_all) rfl
  exact ⟨fd, fn_okD (k := 2) F sc_read_all (fun cdv hcd A outer s H E hr tk hp => by
    have sc := sc_read_all
    exact (ms_cons (ms_set (i := 2) sc.nd rfl (Or.inl rfl) (me_make (cc := n_Reading) (k_Reading T) tk hr rfl (ma_cons (me_var 1) ma_nil))) (ms_cons (ms_for hp rfl (mi_enum rfl (z_enumerate T) (ma_cons (me_var 0) ma_nil)) (mg_tup rfl (mgs_cons (mg_name (i := 3) sc.nd rfl (Or.inl rfl)) (mgs_cons (mg_name (i := 4) sc.nd rfl (Or.inl rfl)) mgs_nil))) (ms_cons (ms_if (mt_not (mt_val (me_meth (cc := n_Reading) (xx := x_can_read) (t_Reading_can_read T) tk hr (me_var 2) (ma_cons (me_var 4) ma_nil)))) (ms_one (ms_ret (me_tup (ma_cons (me_var 2) (ma_cons (me_var 3) ma_nil))))) ms_nil) (ms_one (ms_expr (me_meth (cc := n_Reading) (xx := x_read) (t_Reading_read T) tk hr (me_var 2) (ma_cons (me_var 4) ma_nil)))))) (ms_one (ms_ret (me_tup (ma_cons (me_var 2) (ma_cons me_non ma_nil)))))))), F.bindsN (ps := ["text", "has_words"]) fun _ _ _ _ _ _ us hl => match us, hl with | [_, _], _ => rfl, F.kp⟩
theorem d_read_all (T : Txt P w K mg base h) : Fn P w K mg base "read_all" 3 2 m_read_all := by
  obtain ⟨fd, F, b, kp⟩ := o_read_all (P := P) (base := base) T
  exact ⟨_, fd, _, rfl, F, He.glo_ok T.kin T.glob (T.says.t.d.fact 11 (f := .glo "read_all") rfl), kp, b⟩
theorem o_is_whole (T : Txt P w K mg base h) : ∃ fd, FnM P w K mg base 1 (He.fAd K e_is_whole.at_) fd ["reading"] m_is_whole ∧ Binds K fd ["reading"] [] ∧ PySem.W.keepIn K (.ref (He.fAd K e_is_whole.at_)) = true := by
  obtain ⟨fd, F⟩ := T.says.t.d.def_ 16 (d := e_is_whole) rfl
  exact ⟨fd, fn_okD (k := 0) F sc_is_whole (fun cdv hcd A outer s H E hr tk hp => by
    have sc := sc_is_whole
    exact (ms_one (ms_ret (me_and (me_cmp (om_eq hr.units) (me_fld (cs := [n_Reading]) (f := f_needs) (h_needs T) (me_var 0)) (me_str [])) (me_one (me_not (me_fld (cs := [n_Reading]) (f := f_is_open) (h_is_open T) (me_var 0)))))))), F.bindsN (ps := ["reading"]) fun _ _ _ _ _ _ us hl => match us, hl with | [_], _ => rfl, F.kp⟩
theorem d_is_whole (T : Txt P w K mg base h) : Fn P w K mg base "is_whole" 1 1 m_is_whole := by
  obtain ⟨fd, F, b, kp⟩ := o_is_whole (P := P) (base := base) T
  exact ⟨_, fd, _, rfl, F, He.glo_ok T.kin T.glob (T.says.t.d.fact 12 (f := .glo "is_whole") rfl), kp, b⟩
theorem o_is_meant (T : Txt P w K mg base h) : ∃ fd, FnM P w K mg base 4 (He.fAd K e_is_meant.at_) fd ["manner", "text"] m_is_meant ∧ Binds K fd ["manner", "text"] [] ∧ PySem.W.keepIn K (.ref (He.fAd K e_is_meant.at_)) = true := by
  obtain ⟨fd, F⟩ := T.says.t.d.def_ 17 (d := e_is_meant) rfl
  exact ⟨fd, fn_okD (k := 3) F sc_is_meant (fun cdv hcd A outer s H E hr tk hp => by
    have sc := sc_is_meant
    exact (ms_cons (ms_expr (me_call (d_need_manner T) tk hr rfl (ma_cons (me_var 0) ma_nil))) (ms_cons (ms_expr (me_call (d_need_text T) tk hr rfl (ma_cons (me_var 1) ma_nil))) (ms_cons (ms_asg (me_call (d_read_all T) tk hr rfl (ma_cons (me_var 1) (ma_cons (me_ix hr.units (me_var 0) me_int) ma_nil))) (mg_tup rfl (mgs_cons (mg_name (i := 2) sc.nd rfl (Or.inl rfl)) (mgs_cons (mg_name (i := 3) sc.nd rfl (Or.inl rfl)) mgs_nil)))) (ms_one (ms_ret (me_and (me_cmp om_is (me_var 3) me_non) (me_one (me_call (d_is_whole T) tk hr rfl (ma_cons (me_var 2) ma_nil)))))))))), F.bindsN (ps := ["manner", "text"]) fun _ _ _ _ _ _ us hl => match us, hl with | [_, _], _ => rfl, F.kp⟩
theorem d_is_meant (T : Txt P w K mg base h) : Fn P w K mg base "is_meant" 4 2 m_is_meant := by
  obtain ⟨fd, F, b, kp⟩ := o_is_meant (P := P) (base := base) T
  exact ⟨_, fd, _, rfl, F, He.glo_ok T.kin T.glob (T.says.t.d.fact 13 (f := .glo "is_meant") rfl), kp, b⟩
theorem q_is_meant (T : Txt P w K mg base h) : Fn P w K mg base "is_meant" 4 2 p_is_meant := (d_is_meant T).pureV
theorem o_needs (T : Txt P w K mg base h) : ∃ fd, FnM P w K mg base 4 (He.fAd K e_needs.at_) fd ["manner", "text"] m_needs ∧ Binds K fd ["manner", "text"] [] ∧ PySem.W.keepIn K (.ref (He.fAd K e_needs.at_)) = true := by
  obtain ⟨fd, F⟩ := T.says.t.d.def_ 18 (d := e_needs) rfl
  exact ⟨fd, fn_okD (k := 3) F sc_needs (fun cdv hcd A outer s H E hr tk hp => by
    have sc := sc_needs
    exact (ms_cons (ms_expr (me_call (d_need_manner T) tk hr rfl (ma_cons (me_var 0) ma_nil))) (ms_cons (ms_expr (me_call (d_need_text T) tk hr rfl (ma_cons (me_var 1) ma_nil))) (ms_cons (ms_asg (me_call (d_read_all T) tk hr rfl (ma_cons (me_var 1) (ma_cons (me_ix hr.units (me_var 0) me_int) ma_nil))) (mg_tup rfl (mgs_cons (mg_name (i := 2) sc.nd rfl (Or.inl rfl)) (mgs_cons (mg_name (i := 3) sc.nd rfl (Or.inl rfl)) mgs_nil)))) (ms_cons (ms_if (mt_cmp om_isnot (me_var 3) me_non) (ms_one (ms_raise (c := n_NotMeant) (ff := f_place) ((T.exx).xcs (by decide +kernel)) tk hr rfl (ma_cons (me_var 3) ma_nil))) ms_nil) (ms_one (ms_ret (me_revV (me_fld (cs := [n_Reading]) (f := f_needs) (h_needs T) (me_var 2)))))))))), F.bindsN (ps := ["manner", "text"]) fun _ _ _ _ _ _ us hl => match us, hl with | [_, _], _ => rfl, F.kp⟩
theorem d_needs (T : Txt P w K mg base h) : Fn P w K mg base "needs" 4 2 m_needs := by
  obtain ⟨fd, F, b, kp⟩ := o_needs (P := P) (base := base) T
  exact ⟨_, fd, _, rfl, F, He.glo_ok T.kin T.glob (T.says.t.d.fact 14 (f := .glo "needs") rfl), kp, b⟩
theorem q_needs (T : Txt P w K mg base h) : Fn P w K mg base "needs" 4 2 p_needs := (d_needs T).pureV
theorem o_need_meant (T : Txt P w K mg base h) : ∃ fd, FnM P w K mg base 4 (He.fAd K e_need_meant.at_) fd ["manner", "text"] m_need_meant ∧ Binds K fd ["manner", "text"] [] ∧ PySem.W.keepIn K (.ref (He.fAd K e_need_meant.at_)) = true := by
  obtain ⟨fd, F⟩ := T.says.t.d.def_ 19 (d := e_need_meant) rfl
  exact ⟨fd, fn_okD (k := 3) F sc_need_meant (fun cdv hcd A outer s H E hr tk hp => by
    have sc := sc_need_meant
    exact (ms_cons (ms_expr (me_call (d_need_manner T) tk hr rfl (ma_cons (me_var 0) ma_nil))) (ms_cons (ms_expr (me_call (d_need_text T) tk hr rfl (ma_cons (me_var 1) ma_nil))) (ms_cons (ms_asg (me_call (d_read_all T) tk hr rfl (ma_cons (me_var 1) (ma_cons (me_ix hr.units (me_var 0) me_int) ma_nil))) (mg_tup rfl (mgs_cons (mg_name (i := 2) sc.nd rfl (Or.inl rfl)) (mgs_cons (mg_name (i := 3) sc.nd rfl (Or.inl rfl)) mgs_nil)))) (ms_one (ms_if (mt_w (mw_or (mt_cmp om_isnot (me_var 3) me_non) (mw_or1 (mt_not (mt_val (me_call (d_is_whole T) tk hr rfl (ma_cons (me_var 2) ma_nil))))))) (ms_one (ms_raise (c := n_NotMeant) (ff := f_place) ((T.exx).xcs (by decide +kernel)) tk hr rfl (ma_cons (me_if (mt_cmp om_isnot (me_var 3) me_non) (me_var 3) (me_callB cm_len rfl (z_len T) (by decide +kernel) (ma_cons (me_var 1) ma_nil))) ma_nil))) ms_nil)))))), F.bindsN (ps := ["manner", "text"]) fun _ _ _ _ _ _ us hl => match us, hl with | [_, _], _ => rfl, F.kp⟩
theorem d_need_meant (T : Txt P w K mg base h) : Fn P w K mg base "need_meant" 4 2 m_need_meant := by
  obtain ⟨fd, F, b, kp⟩ := o_need_meant (P := P) (base := base) T
  exact ⟨_, fd, _, rfl, F, He.glo_ok T.kin T.glob (T.says.t.d.fact 15 (f := .glo "need_meant") rfl), kp, b⟩
theorem q_need_meant (T : Txt P w K mg base h) : Fn P w K mg base "need_meant" 4 2 p_need_meant := (d_need_meant T).pureV
theorem l_law_heard (T : Txt P w K mg base h) : FnL P w K mg base "_law_heard" 6 5 m_law_heard := by
  obtain ⟨fd, F⟩ := T.says.t.d.def_ 20 (d := e_law_heard) rfl
  refine fnL_of (k := 5) (b := fun v act => b_law_heard (guardS v) act) F sc_law_heard (He.glo_ok T.kin T.glob (T.says.t.d.fact 16 (f := .glo "_law_heard") rfl)) (F.bindsN (ps := ["_law_call"]) fun _ _ _ _ _ _ us hl => match us, hl with | [_], _ => rfl) (fun cdv hcd A outer s H E fl c q ws g vs hr tk hp L => ?_) (fun fl c q ws g vs h => .inr (hi_of (s0 := fun x => [some x, none, none, none, none, some (.lv []), some .non, none, none]) h (fun _ _ => rfl) (fun _ => rfl) (fun _ _ _ => rfl)))
  have sc := sc_law_heard
  exact (ms_cons (ms_par2 (i := 5) (j := 6) rfl sc.nd rfl rfl (by decide) rfl rfl (ma_cons (me_lstV ma_nil) (ma_cons me_non ma_nil))) (ms_cons (ms_tryL (vs := vs) (mkE := fun a => eLstV (aCons a aNil)) (ms_tryX (T.cat_CloserError) rfl rfl sc.nd rfl rfl rfl tk (fun W_ pn xe tk hp => (ms_one (ms_set (i := 5) sc.nd rfl (Or.inl rfl) (me_lstV (ma_cons (me_act L rfl tk hr rfl (Or.inl rfl)) ma_nil))))) (fun a_ pn => (ms_one (ms_set (i := 6) sc.nd rfl (Or.inl rfl) (me_var 1))))) mkL_ok (show 1 < N_law_heard.length by decide) ⟨by decide, by decide, by decide, by decide⟩) (ms_cons (ms_if (mt_cmp om_is (me_var 6) me_non) (ms_one (ms_ret (me_var 5))) ms_nil) (ms_cons (ms_set (i := 2) sc.nd rfl (Or.inl rfl) (me_lstV (ma_cons (me_callB (cm_isX (T.exx).isx) rfl (z_isinstance T) (by decide +kernel) (ma_cons (me_var 6) (ma_cons (me_glob rfl (g_BadText T)) ma_nil))) (ma_cons (me_callB (cm_isX (T.exx).isx) rfl (z_isinstance T) (by decide +kernel) (ma_cons (me_var 6) (ma_cons (me_glob rfl (g_BadPage T)) ma_nil))) (ma_cons (me_callB (cm_isX (T.exx).isx) rfl (z_isinstance T) (by decide +kernel) (ma_cons (me_var 6) (ma_cons (me_glob rfl (g_BadKeys T)) ma_nil))) ma_nil))))) (ms_cons (ms_set (i := 2) sc.nd rfl (Or.inl rfl) (me_op om_addV (me_var 2) (me_lstV (ma_cons (me_callB (cm_isX (T.exx).isx) rfl (z_isinstance T) (by decide +kernel) (ma_cons (me_var 6) (ma_cons (me_glob rfl (g_BadBook T)) ma_nil))) (ma_cons (me_callB (cm_isX (T.exx).isx) rfl (z_isinstance T) (by decide +kernel) (ma_cons (me_var 6) (ma_cons (me_glob rfl (g_BadManner T)) ma_nil))) (ma_cons (me_callB (cm_isX (T.exx).isx) rfl (z_isinstance T) (by decide +kernel) (ma_cons (me_var 6) (ma_cons (me_glob rfl (g_NotMeant T)) ma_nil))) ma_nil)))))) (ms_cons (ms_set (i := 3) sc.nd rfl (Or.inl rfl) (me_lstV (ma_cons (me_str [116, 101, 120, 116]) (ma_cons (me_str [112, 97, 103, 101]) (ma_cons (me_str [107, 101, 121, 115]) (ma_cons (me_str [98, 111, 111, 107]) (ma_cons (me_str [109, 97, 110, 110, 101, 114]) (ma_cons (me_str [109, 101, 97, 110, 116]) ma_nil)))))))) (ms_cons (ms_setLcV (i := 4) (own := [("_law_one", 7), ("_law_is_so", 8)]) (t := (.row [7, 8])) rfl sc.nd rfl rfl (sw_true rfl rfl rfl (by decide +kernel)) (mi_zip rfl (z_zip T) (ma_cons (me_var 3) (ma_cons (me_var 2) ma_nil))) (blkOk_by (own := [("_law_one", 7), ("_law_is_so", 8)]) (N := N_law_heard) (sc := defScope s_law_heard) (by decide +kernel)) (by decide) (fun _ _ _ _ _ => (pg_tup rfl (pgs_cons (pg_name (i := 7) sc.nd rfl (Or.inl rfl)) (pgs_cons (pg_name (i := 8) sc.nd rfl (Or.inl rfl)) pgs_nil)))) (fun _ _ _ _ _ => (mts_one (mt_val (me_var 8)))) (fun _ _ _ _ _ => (me_var 7))) (ms_cons (ms_if (mt_w (mw_or (mt_cmp (om_ne hr.units) (me_callB cm_len rfl (z_len T) (by decide +kernel) (ma_cons (me_var 4) ma_nil)) me_int) (mw_or1 (mt_not (mt_val (me_callB (cm_isX (T.exx).isx) rfl (z_isinstance T) (by decide +kernel) (ma_cons (me_var 6) (ma_cons (me_ty (t := .valErr) rfl (z_ValueError T) (by decide +kernel)) ma_nil)))))))) (ms_one (ms_ret (me_str [111, 100, 100]))) ms_nil) (ms_one (ms_ret (me_tup (ma_cons (me_ix hr.units (me_var 4) me_int) (ma_cons (me_if (mt_cmp (om_in hr.units) (me_ix hr.units (me_var 4) me_int) (me_tup (ma_cons (me_str [112, 97, 103, 101]) (ma_cons (me_str [109, 97, 110, 110, 101, 114]) ma_nil)))) (me_xf (cs := [n_BadPage, n_BadManner]) (f := f_value) ((T.exx).has (by decide +kernel)) (me_var 6)) (me_xf (cs := [n_BadText, n_BadKeys, n_BadBook, n_NotMeant]) (f := f_place) ((T.exx).has (by decide +kernel)) (me_var 6))) ma_nil)))))))))))))
theorem o_law_one_right (T : Txt P w K mg base h) : ∃ fd, FnM P w K mg base 7 (He.fAd K e_law_one_right.at_) fd ["_law_manner_here", "_law_text_here"] m_law_one_right ∧ Binds K fd ["_law_manner_here", "_law_text_here"] [] ∧ PySem.W.keepIn K (.ref (He.fAd K e_law_one_right.at_)) = true := by
  obtain ⟨fd, F⟩ := T.says.t.d.def_ 21 (d := e_law_one_right) rfl
  exact ⟨fd, FnM.pureV (fn_okD (k := 6) F sc_law_one_right (fun cdv hcd A outer s H E hr tk hp => by
    have sc := sc_law_one_right
    exact (ms_cons (ms_asg (me_call (d_law_need_of T) tk hr rfl (ma_cons (me_var 0) (ma_cons (me_var 1) ma_nil))) (mg_tup rfl (mgs_cons (mg_name (i := 4) sc.nd rfl (Or.inl rfl)) (mgs_cons (mg_name (i := 5) sc.nd rfl (Or.inl rfl)) (mgs_cons (mg_name (i := 6) sc.nd rfl (Or.inl rfl)) mgs_nil))))) (ms_cons (ms_set (i := 2) sc.nd rfl (Or.inl rfl) (me_and (me_cmp om_is (me_var 6) me_non) (me_and (me_cmp (om_eq hr.units) (me_var 4) (me_str [])) (me_one (me_not (me_var 5)))))) (ms_cons (ms_if (mt_not (mt_val (me_call (d_law_like T) tk hr rfl (ma_cons (me_lstV (ma_cons (me_call (q_is_meant T) tk hr rfl (ma_cons (me_var 0) (ma_cons (me_var 1) ma_nil))) (ma_cons (me_call (q_is_meant T) tk hr rfl (ma_cons (me_var 0) (ma_cons (me_var 1) ma_nil))) ma_nil))) (ma_cons (me_lstV (ma_cons (me_var 2) (ma_cons (me_var 2) ma_nil))) ma_nil))))) (ms_one (ms_ret me_bl)) ms_nil) (ms_cons (ms_if (mt_not (mt_val (me_call (d_law_like T) tk hr rfl (ma_cons (me_lam (is := [0, 1]) (l_law_heard T) tk hr rfl (T.mk_law_one_right).mem T.tb (T.mk_law_one_right).uni (code_is F hcd) rfl rfl (LamX.lamS_by (sc := defScope s_law_one_right) (by decide +kernel)) rfl (fun _ _ _ _ _ => rfl) (fun A outer s H E f c hr tk hp => (me_call (q_needs T) tk hr rfl (ma_cons (me_var 0) (ma_cons (me_var 1) ma_nil))))) (ma_cons (me_if (mt_cmp om_is (me_var 6) me_non) (me_lstV (ma_cons (me_var 4) ma_nil)) (me_tup (ma_cons (me_str [109, 101, 97, 110, 116]) (ma_cons (me_var 6) ma_nil)))) ma_nil))))) (ms_one (ms_ret me_bl)) ms_nil) (ms_cons (ms_set (i := 3) sc.nd rfl (Or.inl rfl) (me_if (mt_val (me_var 2)) (me_lstV (ma_cons me_non ma_nil)) (me_tup (ma_cons (me_str [109, 101, 97, 110, 116]) (ma_cons (me_if (mt_cmp om_is (me_var 6) me_non) (me_callB cm_len rfl (z_len T) (by decide +kernel) (ma_cons (me_var 1) ma_nil)) (me_var 6)) ma_nil))))) (ms_one (ms_ret (me_call (d_law_like T) tk hr rfl (ma_cons (me_lam (is := [0, 1]) (l_law_heard T) tk hr rfl (T.mk_law_one_right).mem T.tb (T.mk_law_one_right).uni (code_is F hcd) rfl rfl (LamX.lamS_by (sc := defScope s_law_one_right) (by decide +kernel)) rfl (fun _ _ _ _ _ => rfl) (fun A outer s H E f c hr tk hp => (me_call (q_need_meant T) tk hr rfl (ma_cons (me_var 0) (ma_cons (me_var 1) ma_nil))))) (ma_cons (me_var 3) ma_nil)))))))))))), F.bindsN (ps := ["_law_manner_here", "_law_text_here"]) fun _ _ _ _ _ _ us hl => match us, hl with | [_, _], _ => rfl, F.kp⟩
theorem d_law_one_right (T : Txt P w K mg base h) : Fn P w K mg base "_law_one_right" 7 2 m_law_one_right := by
  obtain ⟨fd, F, b, kp⟩ := o_law_one_right (P := P) (base := base) T
  exact ⟨_, fd, _, rfl, F, He.glo_ok T.kin T.glob (T.says.t.d.fact 17 (f := .glo "_law_one_right") rfl), kp, b⟩
theorem o_law_text (T : Txt P w K mg base h) : ∃ fd, FnM P w K mg base 3 (He.fAd K e_law_text.at_) fd ["_law_m", "_law_most"] m_law_text ∧ Binds K fd ["_law_m", "_law_most"] [] ∧ PySem.W.keepIn K (.ref (He.fAd K e_law_text.at_)) = true := by
  obtain ⟨fd, F⟩ := T.says.t.d.def_ 22 (d := e_law_text) rfl
  exact ⟨fd, FnM.trimV (fn_okD (k := 2) F sc_law_text (fun cdv hcd A outer s H E hr tk hp => by
    have sc := sc_law_text
    exact (ms_one (ms_ret (me_bm (t := .str) PySem.F.plainAttrs_str PySem.F.slot_str_join PySem.F.type_str_join mm_join (me_str []) (ma_cons (me_lcV (own := [("_law_turn", 2)]) (t := (.one 2)) rfl sc.nd (mi_range1 rfl (z_range T) (ma_cons (me_call (d_law_draw T) tk hr rfl (ma_cons (me_var 0) (ma_cons (me_op om_addV (me_var 1) me_int) ma_nil))) ma_nil)) (blkOk_by (own := [("_law_turn", 2)]) (N := N_law_text) (sc := defScope s_law_text) (by decide +kernel)) (by decide) (fun _ _ _ _ _ => (pg_name (i := 2) sc.nd rfl (Or.inl rfl))) (fun _ _ _ _ _ => mts_nil) (fun _ _ _ _ _ => (me_ix hr.units (me_str [40, 91, 41, 93, 39, 32, 47, 97, 98, 122, 39, 39, 40, 41, 91]) (me_call (d_law_draw T) takes0 hr rfl (ma_cons (me_var 0) (ma_cons me_int ma_nil)))))) ma_nil)))))), F.bindsN (ps := ["_law_m", "_law_most"]) fun _ _ _ _ _ _ us hl => match us, hl with | [_, _], _ => rfl, F.kp⟩
theorem d_law_text (T : Txt P w K mg base h) : Fn P w K mg base "_law_text" 3 2 m_law_text := by
  obtain ⟨fd, F, b, kp⟩ := o_law_text (P := P) (base := base) T
  exact ⟨_, fd, _, rfl, F, He.glo_ok T.kin T.glob (T.says.t.d.fact 18 (f := .glo "_law_text") rfl), kp, b⟩
theorem o_law_meant (T : Txt P w K mg base h) : ∃ fd, FnM P w K mg base 3 (He.fAd K e_law_meant.at_) fd ["_law_m", "_law_manner_here", "_law_most"] m_law_meant ∧ Binds K fd ["_law_m", "_law_manner_here", "_law_most"] [] ∧ PySem.W.keepIn K (.ref (He.fAd K e_law_meant.at_)) = true := by
  obtain ⟨fd, F⟩ := T.says.t.d.def_ 23 (d := e_law_meant) rfl
  exact ⟨fd, FnM.trimV (fn_okD (k := 2) F sc_law_meant (fun cdv hcd A outer s H E hr tk hp => by
    have sc := sc_law_meant
    exact (ms_cons (ms_set (i := 3) sc.nd rfl (Or.inl rfl) (me_str [])) (ms_cons (ms_for hp rfl (mi_range1 rfl (z_range T) (ma_cons (me_call (d_law_draw T) tk hr rfl (ma_cons (me_var 0) (ma_cons (me_op om_addV (me_var 2) me_int) ma_nil))) ma_nil)) (mg_name (i := 4) sc.nd rfl (Or.inl rfl)) (ms_cons (ms_asg (me_call (d_law_need_of T) tk hr rfl (ma_cons (me_var 1) (ma_cons (me_var 3) ma_nil))) (mg_tup rfl (mgs_cons (mg_name (i := 7) sc.nd rfl (Or.inl rfl)) (mgs_cons (mg_name (i := 8) sc.nd rfl (Or.inl rfl)) (mgs_cons (mg_name (i := 9) sc.nd rfl (Or.inl rfl)) mgs_nil))))) (ms_cons (ms_set (i := 5) sc.nd rfl (Or.inl rfl) (me_if (mt_val (me_var 8)) (me_lstV (ma_cons (me_str [97]) (ma_cons (me_str [122]) ma_nil))) (me_lstV (ma_cons (me_str [97]) (ma_cons (me_str [122]) (ma_cons (me_str [32]) (ma_cons (me_str [47]) (ma_cons (me_str [40]) (ma_cons (me_str [91]) (ma_cons (me_str [39]) (ma_cons (me_str [39]) (ma_cons (me_str [41]) (ma_cons (me_str [93]) (ma_cons (me_cutV (me_var 7) mo_none (mo_some me_int)) (ma_cons (me_cutV (me_var 7) mo_none (mo_some me_int)) ma_nil))))))))))))))) (ms_cons (ms_set (i := 6) sc.nd rfl (Or.inl rfl) (me_ix hr.units (me_var 5) (me_call (d_law_draw T) tk hr rfl (ma_cons (me_var 0) (ma_cons (me_callB cm_len rfl (z_len T) (by decide +kernel) (ma_cons (me_var 5) ma_nil)) ma_nil))))) (ms_one (ms_if (mt_cmp om_is (me_ix hr.units (me_call (d_law_need_of T) tk hr rfl (ma_cons (me_var 1) (ma_cons (me_op om_addV (me_var 3) (me_var 6)) ma_nil))) me_int) me_non) (ms_one (ms_set (i := 3) sc.nd rfl (Or.inl rfl) (me_op om_addV (me_var 3) (me_var 6)))) ms_nil)))))) (ms_cons (ms_asg (me_call (d_law_need_of T) tk hr rfl (ma_cons (me_var 1) (ma_cons (me_var 3) ma_nil))) (mg_tup rfl (mgs_cons (mg_name (i := 7) sc.nd rfl (Or.inl rfl)) (mgs_cons (mg_name (i := 8) sc.nd rfl (Or.inl rfl)) (mgs_cons (mg_name (i := 9) sc.nd rfl (Or.inl rfl)) mgs_nil))))) (ms_one (ms_ret (me_op om_addV (me_op om_addV (me_var 3) (me_if (mt_val (me_var 8)) (me_str [97]) (me_str []))) (me_var 7))))))))), F.bindsN (ps := ["_law_m", "_law_manner_here", "_law_most"]) fun _ _ _ _ _ _ us hl => match us, hl with | [_, _, _], _ => rfl, F.kp⟩
theorem d_law_meant (T : Txt P w K mg base h) : Fn P w K mg base "_law_meant" 3 3 m_law_meant := by
  obtain ⟨fd, F, b, kp⟩ := o_law_meant (P := P) (base := base) T
  exact ⟨_, fd, _, rfl, F, He.glo_ok T.kin T.glob (T.says.t.d.fact 19 (f := .glo "_law_meant") rfl), kp, b⟩
theorem o_law_is_closed (T : Txt P w K mg base h) : ∃ fd, FnM P w K mg base 2 (He.fAd K e_law_is_closed.at_) fd ["_law_manner_here", "_law_text_here"] m_law_is_closed ∧ Binds K fd ["_law_manner_here", "_law_text_here"] [] ∧ PySem.W.keepIn K (.ref (He.fAd K e_law_is_closed.at_)) = true := by
  obtain ⟨fd, F⟩ := T.says.t.d.def_ 24 (d := e_law_is_closed) rfl
  exact ⟨fd, FnM.pureV (fn_okD (k := 1) F sc_law_is_closed (fun cdv hcd A outer s H E hr tk hp => by
    have sc := sc_law_is_closed
    exact (ms_one (ms_ret (me_cmp (om_eq hr.units) (me_call (d_law_need_of T) tk hr rfl (ma_cons (me_var 0) (ma_cons (me_var 1) ma_nil))) (me_tup (ma_cons (me_str []) (ma_cons me_bl (ma_cons me_non ma_nil))))))))), F.bindsN (ps := ["_law_manner_here", "_law_text_here"]) fun _ _ _ _ _ _ us hl => match us, hl with | [_, _], _ => rfl, F.kp⟩
theorem d_law_is_closed (T : Txt P w K mg base h) : Fn P w K mg base "_law_is_closed" 2 2 m_law_is_closed := by
  obtain ⟨fd, F, b, kp⟩ := o_law_is_closed (P := P) (base := base) T
  exact ⟨_, fd, _, rfl, F, He.glo_ok T.kin T.glob (T.says.t.d.fact 20 (f := .glo "_law_is_closed") rfl), kp, b⟩
theorem fin (T : Txt0 P w K mg h) : ∃ fd : FuncData, (∀ (s : Shared) (u : Value), BindsTo s fd ⟨[u], []⟩ [("_law_script", u)]) ∧ ∀ base : Heap, K.In base → base.Ns mainGlobals mg → TabsB K mg base → FnM P w K mg base 8 (He.fAd K e_law.at_) fd ["_law_script"] m_law := by
  obtain ⟨fd, F⟩ := T.says.t.d.def_ 25 (d := e_law) rfl
  have b := FunD.bindsA (ps := ["_law_script"]) F fun _ _ _ _ _ _ us hl => match us, hl with | [_], _ => rfl
  refine ⟨fd, fun s u => b s [u] rfl, fun base _ _ tb => ?_⟩
  have T : Txt P w K mg base h := ⟨T, tb⟩
  exact fn_okD (k := 7) F sc_law (fun cdv hcd A outer s H E hr tk hp => by
    have sc := sc_law
    exact (ms_cons (ms_set (i := 1) sc.nd rfl (Or.inl rfl) (me_call (d_law_begun T) tk hr rfl (ma_cons (me_var 0) ma_nil))) (ms_cons (ms_for hp rfl (mi_range1 rfl (z_range T) (ma_cons me_int ma_nil)) (mg_name (i := 2) sc.nd rfl (Or.inl rfl)) (ms_cons (ms_set (i := 5) sc.nd rfl (Or.inl rfl) (me_call (d_law_manner T) tk hr rfl (ma_cons (me_var 1) ma_nil))) (ms_cons (ms_if (mt_not (mt_val (me_call (d_law_one_right T) tk hr rfl (ma_cons (me_var 5) (ma_cons (me_call (d_law_text T) tk hr rfl (ma_cons (me_var 1) (ma_cons me_int ma_nil))) ma_nil))))) (ms_one (ms_ret me_bl)) ms_nil) (ms_cons (ms_set (i := 6) sc.nd rfl (Or.inl rfl) (me_call (d_law_meant T) tk hr rfl (ma_cons (me_var 1) (ma_cons (me_var 5) (ma_cons me_int ma_nil))))) (ms_cons (ms_if (mt_w (mw_or (mt_not (mt_val (me_call (d_law_is_closed T) tk hr rfl (ma_cons (me_var 5) (ma_cons (me_var 6) ma_nil))))) (mw_or1 (mt_not (mt_val (me_call (d_law_one_right T) tk hr rfl (ma_cons (me_var 5) (ma_cons (me_var 6) ma_nil)))))))) (ms_one (ms_ret me_bl)) ms_nil) (ms_cons (ms_set (i := 7) sc.nd rfl (Or.inl rfl) (me_cutV (me_var 6) mo_none (mo_some (me_call (d_law_draw T) tk hr rfl (ma_cons (me_var 1) (ma_cons (me_op om_addV (me_callB cm_len rfl (z_len T) (by decide +kernel) (ma_cons (me_var 6) ma_nil)) me_int) ma_nil)))))) (ms_one (ms_for hp rfl (mi_seq (me_str [40, 91, 41, 93, 39, 32, 47, 97])) (mg_name (i := 8) sc.nd rfl (Or.inl rfl)) (ms_cons (ms_if (mt_not (mt_val (me_call (d_law_one_right T) tk hr rfl (ma_cons (me_var 5) (ma_cons (me_op om_addV (me_var 7) (me_var 8)) ma_nil))))) (ms_one (ms_ret me_bl)) ms_nil) (ms_one (ms_for hp rfl (mi_seq (me_str [40, 91, 41, 93, 39, 32, 47, 122])) (mg_name (i := 9) sc.nd rfl (Or.inl rfl)) (ms_one (ms_if (mt_not (mt_val (me_call (d_law_one_right T) tk hr rfl (ma_cons (me_var 5) (ma_cons (me_op om_addV (me_op om_addV (me_var 7) (me_var 8)) (me_var 9)) ma_nil))))) (ms_one (ms_ret me_bl)) ms_nil))))))))))))) (ms_cons (ms_for hp rfl (mi_seq (me_str [97, 98, 99, 100, 101, 102, 103, 104, 105, 106, 107, 108, 109, 110, 111, 112, 113, 114, 115, 116, 117, 118, 119, 120, 121, 122])) (mg_name (i := 3) sc.nd rfl (Or.inl rfl)) (ms_one (ms_if (mt_w (mw_or (mt_not (mt_val (me_call (q_is_meant T) tk hr rfl (ma_cons (me_tup (ma_cons me_bl (ma_cons me_bl (ma_cons me_bl ma_nil)))) (ma_cons (me_op om_addV (me_op om_addV (me_var 3) (me_str [39])) (me_var 3)) ma_nil))))) (mw_or1 (mt_val (me_call (q_is_meant T) tk hr rfl (ma_cons (me_tup (ma_cons me_bl (ma_cons me_bl (ma_cons me_bl ma_nil)))) (ma_cons (me_op om_addV (me_var 3) (me_str [39])) ma_nil))))))) (ms_one (ms_ret me_bl)) ms_nil))) (ms_cons (ms_set (i := 4) sc.nd rfl (Or.inl rfl) (me_op om_mulS (me_str [40, 91]) me_int)) (ms_cons (ms_if (mt_w (mw_or (mt_cmp (om_ne hr.units) (me_call (q_needs T) tk hr rfl (ma_cons (me_tup (ma_cons me_bl (ma_cons me_bl (ma_cons me_bl ma_nil)))) (ma_cons (me_var 4) ma_nil))) (me_op om_mulS (me_str [93, 41]) me_int)) (mw_or1 (mt_cmp om_isnot (me_call (q_is_meant T) tk hr rfl (ma_cons (me_tup (ma_cons me_bl (ma_cons me_bl (ma_cons me_bl ma_nil)))) (ma_cons (me_op om_addV (me_var 4) (me_op om_mulS (me_str [93, 41]) me_int)) ma_nil))) me_bl)))) (ms_one (ms_ret me_bl)) ms_nil) (ms_one (ms_ret (me_and (me_cmp (om_eq hr.units) (me_call (q_needs T) tk hr rfl (ma_cons (me_tup (ma_cons me_bl (ma_cons me_bl (ma_cons me_bl ma_nil)))) (ma_cons (me_str [97, 39]) ma_nil))) (me_str [])) (me_one (me_not (me_call (q_is_meant T) tk hr rfl (ma_cons (me_tup (ma_cons me_bl (ma_cons me_bl (ma_cons me_bl ma_nil)))) (ma_cons (me_str [97, 39]) ma_nil))))))))))))))
end
abbrev Rr : PySem.W.OpenRow := PySem.W.OpenLaw.row PySem.Challenge.rw_ownclosers_k05_whole_meant_texts
def loose : List Str := (["CloserError", "BadText", "BadPage", "BadKeys", "BadBook", "BadManner", "NotMeant", "need_manner", "OPENERS", "CLOSERS", "QUOTE", "BLANK", "LINE", "LETTERS", "SIGNS"] : List Str) ++ (["MOST_TEXT", "need_text", "closer_of", "is_letter", "Reading", "read_all", "is_whole", "is_meant", "needs", "need_meant", "_law_mixed", "_law_folded", "_law_draw", "_law_begun", "_law_like"] : List Str) ++ (["_law_manner", "_law_text", "_law_need_of", "_law_is_closed", "_law_meant", "_law_heard", "_law_one_right"] : List Str)
abbrev hk : PySem.W.Hook := hookE 5 fa fn ex
def ob (s : PySem.W.SharedT) : AlC := obsE 5 fa fn ex (HandSHeadRun.getT s)
theorem ob_eq (s : PySem.W.SharedT) : ob s = hk.obs s.abs := obsE_eq (HandSHeadRun.getT_eq s)
theorem run (w : World) : HandSHeadRun.RunEq Rr (PySem.W.view Rr.prog [42]) hk ob 4000 loose w := by
  intro os
  kernel_rfl
end GXk05
open PySem PySem.W PySem.Calls PyProof.Rows
theorem GXk05.end_ (pure : ∀ ns : List Int, ns.length ≤ 63 → ∃ h', GXk05.m_law [.ro (ns.map MP.MV.int)] [] = .ok (.bl true) h') : PySem.Challenge.rw_ownclosers_k05_whole_meant_texts.Holds := by
  w_on; o_law
  refine HandSHeadRun.head_any (r := OpenLaw.row PySem.Challenge.rw_ownclosers_k05_whole_meant_texts) (q := view (OpenLaw.row PySem.Challenge.rw_ownclosers_k05_whole_meant_texts).prog [42]) (H := GXk05.hk) (ob := GXk05.ob) (M := 4000) (loose := GXk05.loose) (d := HandSHeadRun.topDef (OpenLaw.row PySem.Challenge.rw_ownclosers_k05_whole_meant_texts).prog 42) (kwd := []) GXk05.ob_eq
    (by kernel_rfl) (fun s => by kernel_rfl) GXk05.run (by kernel_rfl) (by kernel_rfl) (by kernel_rfl) (by rfl) (by first | assumption | decide +kernel) (by decide +kernel) ⟨rfl, rfl, rfl, rfl, rfl, by decide +kernel⟩ ?hw ?hc
  case hw => w_witness2
  case hc =>
    refine MP.walk_mir (l := PySem.Challenge.rw_ownclosers_k05_whole_meant_texts) (k := 8) (x := "_law_script") (m := GXk05.m_law) rfl (by kernel_rfl) ⟨⟨rfl, by decide, by decide⟩, rfl⟩ pure ?F
    intro w mg f h Y G hmg0
    obtain ⟨K, KX, c⟩ := Y
    have hmg : mg ("law" : PySem.Str) = some (.ref f) := by
      have e : (HandSHeadRun.topDef (OpenLaw.row PySem.Challenge.rw_ownclosers_k05_whole_meant_texts).prog 42).name = ("law" : PySem.Str) := by kernel_rfl
      rw [← e]
      exact hmg0
    have e := hmg.symm.trans (He.glo_ok KX G (c.t.d.fact 21 (f := .glo "law") rfl))
    cases e
    obtain ⟨fd, hb, hF⟩ := GXk05.fin (P := (PySem.Challenge.rw_ownclosers_k05_whole_meant_texts).prog) (w := w) ⟨KX, G, c, rfl, by decide +kernel⟩
    exact ⟨K, fd, KX, c.tabs, hb, hF⟩


theorem PySem.Challenge.cw_ownclosers_k05_whole_meant_texts_holds : PySem.Challenge.rw_ownclosers_k05_whole_meant_texts.Holds := by
  exact GXk05.end_ GXk05.pure
