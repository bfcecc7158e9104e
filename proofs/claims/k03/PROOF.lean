import PyProof.Rows.All
import Wide.All
import OpenK.AllK
import Wide.FinOn
import PySem.Challenge.RW_maystand_k03_rules_keep_their_parts
import HandS.MakeKwOnly
import HandS.ForMost
import HandS.Wide
import HandS.Conv
import HandS.IsInst
import HandS.OwnEq
import HandS.Deep
import HandS.SortInts
import HandS.SortKw
import HandS.TupAny
import HandS.TupMul
import HandS.TupLe
import HandS.Zip
import HandS.CallLocal
import HandS.SortRule
import HandS.Style
import HandS.Flow
import HandS.Exc
import HandS.Defaults
import HandS.More
import HandS.Head0
import HandS.Head1
import HandS.Head2
import HandS.HeadEnd
import HandS.HeadHook1
import HandS.HeadHook2
import HandS.HeadHook3
import HandS.ExcInit
import HandS.ExcIs
import HandS.ExcField
import HandS.TryMany
import HandS.ExcSuper
import KE.KExcInit
import KE.GoesMore
import KE.SortData
import KE.SortKeyed
import OpenK.KMore
import KE.KRevSl
import HandS.OwnIter
import HandS.ExcValue
import HandS.Text
import HandS.FStr
import HandS.RaiseMore
import Wide.Once
set_option Elab.async false
set_option linter.all false
set_option maxRecDepth 100000
set_option maxHeartbeats 2000000
set_option autoImplicit false
/-! A deep interpreter over plain values, sound over the hand layer. Part 1: values, the monad, representation. -/
namespace MS
open PySem PySem.Spec PyProof.Rows L2

/-! ### values -/
inductive D where
  | non | bl (b : Bool) | int (i : Int) | str (x : Str)
  | tup (l : List D) | lst (l : List D)
  | dic (l : List (D × D))
  | ins (c : Str) (fs : List (Str × D))
  | fn (x : Str) | ty (n : String)
  | deal
  | scr (ns : List Int)

/-! ### the monad: a tree of draws -/
inductive T (α : Type) : Type where
  | ret (a : α)
  | exc (c : Str) (fs : List (Str × D))
  | stuck
  | draw (n : Nat) (k : Nat → T α)
namespace T
variable {α β γ : Type}
def bind : T α → (α → T β) → T β
  | .ret a, f => f a
  | .exc c fs, _ => .exc c fs
  | .stuck, _ => .stuck
  | .draw n k, f => .draw n fun i => bind (k i) f
@[simp] theorem bind_ret (a : α) (f : α → T β) : bind (.ret a) f = f a := rfl
@[simp] theorem bind_exc (c : Str) (fs : List (Str × D)) (f : α → T β) : bind (.exc c fs) f = .exc c fs := rfl
@[simp] theorem bind_stuck (f : α → T β) : bind .stuck f = .stuck := rfl
@[simp] theorem bind_draw (n : Nat) (k : Nat → T α) (f : α → T β) : bind (.draw n k) f = .draw n fun i => bind (k i) f := rfl
theorem bind_assoc (m : T α) (f : α → T β) (g : β → T γ) : bind (bind m f) g = bind m fun a => bind (f a) g := by
  induction m with
  | ret a => rfl
  | exc c fs => rfl
  | stuck => rfl
  | draw n k ih =>
    show T.draw n _ = T.draw n _
    congr 1
    funext i
    exact ih i
theorem ret_bind (m : T α) : bind m .ret = m := by
  induction m with
  | ret a => rfl
  | exc c fs => rfl
  | stuck => rfl
  | draw n k ih =>
    show T.draw n _ = T.draw n _
    congr 1
    funext i
    exact ih i
/-- what holds at every end -/
def wp : T α → (α → Prop) → (Str → List (Str × D) → Prop) → Prop
  | .ret a, Q, _ => Q a
  | .exc c fs, _, E => E c fs
  | .stuck, _, _ => False
  | .draw n k, Q, E => ∀ i, i < n → wp (k i) Q E
theorem wp_bind {m : T α} {f : α → T β} {Q : β → Prop} {E : Str → List (Str × D) → Prop} : wp (bind m f) Q E ↔ wp m (fun a => wp (f a) Q E) E := by
  induction m with
  | ret a => exact Iff.rfl
  | exc c fs => exact Iff.rfl
  | stuck => exact Iff.rfl
  | draw n k ih => exact ⟨fun h i hi => (ih i).mp (h i hi), fun h i hi => (ih i).mpr (h i hi)⟩
theorem wp_mono {m : T α} {Q Q' : α → Prop} {E E' : Str → List (Str × D) → Prop} (h : wp m Q E) (hQ : ∀ a, Q a → Q' a) (hE : ∀ c fs, E c fs → E' c fs) : wp m Q' E' := by
  induction m with
  | ret a => exact hQ a h
  | exc c fs => exact hE c fs h
  | stuck => exact h
  | draw n k ih => exact fun i hi => ih i (h i hi)
end T
instance : Monad T where
  pure := .ret
  bind := .bind

/-! ### data in common with the model's -/
mutual
def toP : D → PyData
  | .non => .none
  | .bl b => .bool b
  | .int i => .int i
  | .str x => .str x
  | .tup l => .tuple (toPs l)
  | .lst l => .list (toPs l)
  | _ => .none
def toPs : List D → List PyData
  | [] => []
  | d :: ds => toP d :: toPs ds
end
mutual
def isData : D → Bool
  | .non | .bl _ | .int _ | .str _ => true
  | .tup l | .lst l => isDatas l
  | _ => false
def isDatas : List D → Bool
  | [] => true
  | d :: ds => isData d && isDatas ds
end
def okD (d : D) : Bool := isData d && SeqAt.shaped (toP d)
def eqD (a b : D) : Bool := PyData.eqv (toP a) (toP b)
/-- scalars: neither tuples nor objects -/
def flatD : D → Bool
  | .non | .bl _ | .int _ | .str _ => true
  | _ => false
/-! nothing that changes lies in it -/
mutual
def pureD : D → Bool
  | .non | .bl _ | .int _ | .str _ | .fn _ | .ty _ => true
  | .tup l => pureDs l
  | _ => false
def pureDs : List D → Bool
  | [] => true
  | d :: ds => pureD d && pureDs ds
end

/-! ### representation -/
structure Ct where
  K : PySem.W.Frag
  mg : Str → Option Value
  clss : List Str
/-- a class of the text: where it stands, its instances' attributes -/
structure ClsF (C : Ct) (c : Str) (Cl : Addr) (fs : List Str) : Prop where
  mg : C.mg c = some (.ref Cl)
  mem : c ∈ C.clss
  cls : Cls C.K Cl
  na : ∀ f ∈ fs, NoAttr C.K Cl f
  ha : PySem.W.findIn C.K (.ref Cl) "__class__" = some (some (.builtin "object.__class__"))
  hn : PySem.W.specialIn C.K (.builtin "object.__class__") "__get__" = some (some (.builtin "getset_descriptor.__get__"))
  htk : PySem.W.takesIn C.K (.builtin "object.__class__") = some true
  hm : PySem.W.mroIn C.K Cl (.type "object") = some true
/-- where the deal lies: its list, the list of its cells -/
abbrev Gh := Option (Addr × Addr)
/-- a tuple: tracked, or an object of the module -/
def TupAt (K : PySem.W.Frag) (H : Hp) (a : Addr) (xs : List V) : Prop := H a = some (.tup xs) ∨ ∃ (o : Obj) (its : Array Value) (n : Nat), K.lookup a = some o ∧ o.cls = .type "tuple" ∧ o.data = .seq its n ∧ its.size ≤ sizeLine ∧ Vals xs its.toList
theorem TupAt.seq {K : PySem.W.Frag} {H : Hp} {a : Addr} {xs : List V} (h : TupAt K H a xs) : SqT K H a xs := h.imp (fun h => .inl h) id
mutual
inductive Rep (C : Ct) (g : Gh) (H : Hp) : D → V → Prop
  | non : Rep C g H .non .non
  | bl (b : Bool) : Rep C g H (.bl b) (.bl b)
  | int (i : Int) : Rep C g H (.int i) (.int i)
  | str (x : Str) : Rep C g H (.str x) (.str x)
  | tup {ds : List D} {vs : List V} {a : Addr} (h : TupAt C.K H a vs) (r : RepL C g H ds vs) : Rep C g H (.tup ds) (.ref a)
  | lst {ds : List D} {vs : List V} {a : Addr} (h : H a = some (.lst vs)) (r : RepL C g H ds vs) : Rep C g H (.lst ds) (.ref a)
  | ins {c : Str} {fs : List (Str × D)} {vfs : List (Str × V)} {a Cl dx : Addr} (hc : ClsF C c Cl (fs.map (·.1))) (h : H a = some (.ins Cl dx vfs)) (r : RepF C g H fs vfs) : Rep C g H (.ins c fs) (.ref a)
  | fn {x : Str} {f : Addr} (h : C.mg x = some (.ref f)) : Rep C g H (.fn x) (.ref f)
  | ty (n : String) : Rep C g H (.ty n) (.ty n)
  | deal {a b : Addr} (h : g = some (a, b)) : Rep C g H .deal (.ref a)
  | scr {ns : List Int} {a : Addr} (h : SqL C.K H a (ns.map V.int)) : Rep C g H (.scr ns) (.ref a)
inductive RepL (C : Ct) (g : Gh) (H : Hp) : List D → List V → Prop
  | nil : RepL C g H [] []
  | cons {d : D} {ds : List D} {v : V} {vs : List V} (r : Rep C g H d v) (rs : RepL C g H ds vs) : RepL C g H (d :: ds) (v :: vs)
inductive RepF (C : Ct) (g : Gh) (H : Hp) : List (Str × D) → List (Str × V) → Prop
  | nil : RepF C g H [] []
  | cons {x : Str} {d : D} {fs : List (Str × D)} {v : V} {vfs : List (Str × V)} (r : Rep C g H d v) (rs : RepF C g H fs vfs) : RepF C g H ((x, d) :: fs) ((x, v) :: vfs)
end
/-- all that is tracked in H stands in H' -/
abbrev Sub (H H' : Hp) : Prop := ∀ a o, H a = some o → H' a = some o
section
variable {C : Ct} {g : Gh} {H H' : Hp}
theorem Sub.refl (H : Hp) : Sub H H := fun _ _ h => h
theorem Sub.trans {H H' H'' : Hp} (a : Sub H H') (b : Sub H' H'') : Sub H H'' := fun x o h => b x o (a x o h)
theorem SqL.sub {K : PySem.W.Frag} {a : Addr} {xs : List V} (s : Sub H H') (h : SqL K H a xs) : SqL K H' a xs := Same.seq (H := H) (H' := H') s h
theorem SqT.sub {K : PySem.W.Frag} {a : Addr} {xs : List V} (s : Sub H H') (h : SqT K H a xs) : SqT K H' a xs := by
  rcases h with (h | ⟨o, h⟩) | h
  · exact .inl (.inl (s _ _ h))
  · exact .inl (.inr ⟨o, s _ _ h⟩)
  · exact .inr h
theorem TupAt.sub {K : PySem.W.Frag} {a : Addr} {xs : List V} (s : Sub H H') (h : TupAt K H a xs) : TupAt K H' a xs := h.imp (s _ _) id
mutual
theorem Rep.sub (s : Sub H H') : ∀ {d : D} {v : V}, Rep C g H d v → Rep C g H' d v
  | _, _, .non => .non
  | _, _, .bl b => .bl b
  | _, _, .int i => .int i
  | _, _, .str x => .str x
  | _, _, .tup h r => .tup (TupAt.sub s h) (RepL.sub s r)
  | _, _, .lst h r => .lst (s _ _ h) (RepL.sub s r)
  | _, _, .ins hc h r => .ins hc (s _ _ h) (RepF.sub s r)
  | _, _, .fn h => .fn h
  | _, _, .ty n => .ty n
  | _, _, .deal h => .deal h
  | _, _, .scr h => .scr (SqL.sub s h)
theorem RepL.sub (s : Sub H H') : ∀ {ds : List D} {vs : List V}, RepL C g H ds vs → RepL C g H' ds vs
  | _, _, .nil => .nil
  | _, _, .cons r rs => .cons (Rep.sub s r) (RepL.sub s rs)
theorem RepF.sub (s : Sub H H') : ∀ {ds : List (Str × D)} {vs : List (Str × V)}, RepF C g H ds vs → RepF C g H' ds vs
  | _, _, .nil => .nil
  | _, _, .cons r rs => .cons (Rep.sub s r) (RepF.sub s rs)
end
theorem RepL.length : ∀ {ds : List D} {vs : List V}, RepL C g H ds vs → ds.length = vs.length
  | _, _, .nil => rfl
  | _, _, .cons _ rs => congrArg Nat.succ (RepL.length rs)
theorem RepL.append : ∀ {ds es : List D} {vs ws : List V}, RepL C g H ds vs → RepL C g H es ws → RepL C g H (ds ++ es) (vs ++ ws)
  | _, _, _, _, .nil, s => s
  | _, _, _, _, .cons r t, s => .cons r (RepL.append t s)
theorem RepL.take : ∀ {ds : List D} {vs : List V} (n : Nat), RepL C g H ds vs → RepL C g H (ds.take n) (vs.take n)
  | _, _, 0, _ => .nil
  | _, _, _ + 1, .nil => .nil
  | _, _, n + 1, .cons r t => .cons r (RepL.take n t)
theorem RepL.drop : ∀ {ds : List D} {vs : List V} (n : Nat), RepL C g H ds vs → RepL C g H (ds.drop n) (vs.drop n)
  | _, _, 0, r => r
  | _, _, _ + 1, .nil => .nil
  | _, _, n + 1, .cons _ t => RepL.drop n t
theorem RepL.get : ∀ {ds : List D} {vs : List V} {i : Nat} {d : D}, RepL C g H ds vs → ds[i]? = some d → ∃ v, vs[i]? = some v ∧ Rep C g H d v
  | _, _, _, _, .nil, e => by simp at e
  | _, _, 0, _, .cons r _, e => by simp at e; subst e; exact ⟨_, rfl, r⟩
  | _, _, i + 1, d, .cons _ t, e => by
    obtain ⟨u, h1, h2⟩ := RepL.get (i := i) (d := d) t (by simpa using e)
    exact ⟨u, by simpa using h1, h2⟩
theorem RepL.getV : ∀ {ds : List D} {vs : List V} {i : Nat} {v : V}, RepL C g H ds vs → vs[i]? = some v → ∃ d, ds[i]? = some d ∧ Rep C g H d v
  | _, _, _, _, .nil, e => by simp at e
  | _, _, 0, _, .cons r _, e => by simp at e; subst e; exact ⟨_, rfl, r⟩
  | _, _, i + 1, d, .cons _ t, e => by
    obtain ⟨u, h1, h2⟩ := RepL.getV (i := i) (v := d) t (by simpa using e)
    exact ⟨u, by simpa using h1, h2⟩
theorem RepL.reverse : ∀ {ds : List D} {vs : List V}, RepL C g H ds vs → RepL C g H ds.reverse vs.reverse
  | _, _, .nil => .nil
  | _, _, .cons r t => by
    rw [List.reverse_cons, List.reverse_cons]
    exact RepL.append (RepL.reverse t) (.cons r .nil)
theorem RepL.eraseIdx : ∀ {ds : List D} {vs : List V} (n : Nat), RepL C g H ds vs → RepL C g H (ds.eraseIdx n) (vs.eraseIdx n)
  | _, _, _, .nil => .nil
  | _, _, 0, .cons _ t => t
  | _, _, n + 1, .cons r t => .cons r (RepL.eraseIdx n t)
theorem RepL.dropLast {ds : List D} {vs : List V} (r : RepL C g H ds vs) : RepL C g H ds.dropLast vs.dropLast := by
  rw [List.dropLast_eq_take, List.dropLast_eq_take, r.length]
  exact r.take _
/-- ints -/
theorem RepL.ints : ∀ {ns : List Int} {vs : List V}, RepL C g H (ns.map D.int) vs → vs = ns.map V.int
  | [], _, .nil => rfl
  | _ :: _, _, .cons (.int _) t => by rw [RepL.ints t]; rfl
theorem repL_ints : ∀ (ns : List Int), RepL C g H (ns.map D.int) (ns.map V.int)
  | [] => .nil
  | n :: ns => .cons (.int n) (repL_ints ns)
theorem RepF.look : ∀ {fs : List (Str × D)} {vfs : List (Str × V)} {x : Str} {d : D}, RepF C g H fs vfs → fs.lookup x = some d → ∃ v, vfs.lookup x = some v ∧ Rep C g H d v
  | _, _, _, _, .nil, e => by simp at e
  | _, _, x, d, .cons (x := y) r t, e => by
    rw [List.lookup_cons] at e ⊢
    cases q : x == y with
    | true => rw [q] at e; cases e; exact ⟨_, rfl, r⟩
    | false => rw [q] at e; exact RepF.look t e
theorem RepF.none_of : ∀ {fs : List (Str × D)} {vfs : List (Str × V)} {x : Str}, RepF C g H fs vfs → fs.lookup x = none → vfs.lookup x = none
  | _, _, _, .nil, e => rfl
  | _, _, x, .cons (x := y) r t, e => by
    rw [List.lookup_cons] at e ⊢
    cases q : x == y with
    | true => rw [q] at e; cases e
    | false => rw [q] at e; exact RepF.none_of t e
mutual
theorem Rep.dp : ∀ (d : D) {v : V}, Rep C g H d v → isData d = true → Dp C.K H v (toP d)
  | .non, _, .non, _ => .non
  | .bl b, _, .bl _, _ => .bl b
  | .int i, _, .int _, _ => .int i
  | .str x, _, .str _, _ => .str x
  | .tup l, _, .tup h r, e => .tup h.seq (RepL.dp l r e)
  | .lst l, _, .lst h r, e => .lst (SqL.of h) (RepL.dp l r e)
theorem RepL.dp : ∀ (ds : List D) {vs : List V}, RepL C g H ds vs → isDatas ds = true → DpAll C.K H vs (toPs ds)
  | [], _, .nil, _ => .nil
  | d :: ds, _, .cons r rs, e => by
    have e' : (isData d && isDatas ds) = true := e
    rw [Bool.and_eq_true] at e'
    exact .cons (Rep.dp d r e'.1) (RepL.dp ds rs e'.2)
end
/-! what is pure leans on no list -/
mutual
theorem Rep.pure_sub : ∀ (d : D) {v : V}, pureD d = true → Rep C g H d v → (∀ a o, H a = some o → (∃ xs, o = .lst xs) ∨ H' a = some o) → Rep C g H' d v
  | .non, _, _, .non, _ => .non
  | .bl b, _, _, .bl _, _ => .bl b
  | .int i, _, _, .int _, _ => .int i
  | .str x, _, _, .str _, _ => .str x
  | .fn x, _, _, .fn h, _ => .fn h
  | .ty x, _, _, .ty _, _ => .ty _
  | .tup l, _, e, .tup h r, s => .tup (by
      rcases h with h | h
      · rcases s _ _ h with ⟨xs, q⟩ | q
        · cases q
        · exact .inl q
      · exact .inr h) (RepL.pure_sub l e r s)
theorem RepL.pure_sub : ∀ (ds : List D) {vs : List V}, pureDs ds = true → RepL C g H ds vs → (∀ a o, H a = some o → (∃ xs, o = .lst xs) ∨ H' a = some o) → RepL C g H' ds vs
  | [], _, _, .nil, _ => .nil
  | d :: ds, _, e, .cons r rs, s => by
    have e' : (pureD d && pureDs ds) = true := e
    rw [Bool.and_eq_true] at e'
    exact .cons (Rep.pure_sub d e'.1 r s) (RepL.pure_sub ds e'.2 rs s)
end
end
end MS

/-! Exceptions 1: own classes (any depth) over Exception: their attributes are set, they are made. -/
namespace MS
open PySem PySem.Spec PyProof.Rows L2
abbrev exB : List Value := [.type "Exception", .type "BaseException", .type "object"]
/-- what the written part says of such a class -/
structure OexE (K : PySem.W.Frag) (C : Addr) : Prop where
  cls : ∃ nm q N bs bm sn sub ab col dd k0 k1 k2 k3 k5, K.lookup C = some (excClassObj nm q C N bs bm true sn sub ab col dd k0 k1 k2 k3 k5 "Exception.__new__") ∧ PySem.W.excTail exB bm = true
  sa : PySem.W.findIn K (.ref C) "__setattr__" = some (some (.builtin "object.__setattr__"))
  exC : PySem.W.subIn K (.ref C) (.type "BaseException") = some true
  tyC : PySem.W.typeIn K (.ref C) = some (.type "type")
  kC : PySem.W.keepIn K (.ref C) = true
theorem exB_ne : ∀ {l : List Value}, PySem.W.excTail exB l = true → l.isEmpty = false := fun {l} e => by
  cases l with
  | nil => exact absurd e (by decide)
  | cons _ _ => rfl
section
open Builtin Builtin.ObjectAttr
variable {prog : Program} {w : World} {A : Around} {E : Value → Shared → Prop} {R : Result → Shared → Prop} {hp : Heap} {g : Array GenState} {d : Drawn} {t : Nat} {os : OsState}
/-- the walk to the own dict -/
theorem osaE {K : W.Frag} {name : Str} {tk : Tok} {v : Value} {x C : Addr} {ox : Obj} {od : Option Obj} {cd : ClassData}
    (X : K.In hp) (I : W.InstAt hp x ox C od) (hcd : W.clsIn K C = some cd) (hm : PySem.W.excTail exB cd.mro = true) (ha : W.findIn K (.ref C) name = some none)
    (hq : wpAny (model prog w) A.in1 (storeInOwnDict (.ref x) (.ref C) (.str name tk) name v false)
      (fun fin s' => match fin with | .done f => R (.ok f) s' | .again c' => c'.quiet = true ∧ codeAny (model prog w) A c' R s') (fun e s' => R (.error e) s') ⟨hp, g, d, t, os⟩) :
    codeAny (model prog w) A (.call (.builtin "object.__setattr__") ⟨[.ref x, .str name tk, v], []⟩) R ⟨hp, g, d, t, os⟩ := by
  have SF := F.store_object
  have hob : cd.mro.contains (.type "object") = true := (PySem.W.excTail_contains "object" _ hm).trans (by decide +kernel)
  have sub : W.Looks (model prog w) hp (isInstance (.ref x) (.type "object")) true := I.type.andThen (W.looks_mroIn X (by unfold W.mroIn; rw [hcd, Option.bind_some, if_neg (by rw [exB_ne hm]; decide), hob]))
  refine codeAny_call_builtin SF.slot.plain SF.entry (@W.check_slot (model prog w) _ _ ⟨hp, g, d, t, os⟩ "object.__setattr__" "object" "__setattr__" (.ref x) [.str name tk, v] [] _ SF.kind SF.split sub (SF.args (.ref x) (.str name tk) v) ?_)
  have hmr : W.Looks (model prog w) hp (mroOf (.ref C)) cd.mro := (W.looks_clsIn X hcd).andThen .now
  have L3 : W.Looks (model prog w) hp (storeTaker? none) none := .now
  rw [W.osa_eq, refuse_eq]
  refine wpAny_bind (wpAny_bind (I.type.at (wpAny_bind (hmr.at ?_))))
  rw [PySem.W.excTail_pass _ (F.store_Exception.passes _) _ hm]
  refine wpAny_pure (wpAny_bind (I.type.at (wpAny_bind ((W.looks_findIn X ha).at (wpAny_bind (L3.at ?_))))))
  exact hq
theorem osaE_new {K : W.Frag} {name : Str} {tk : Tok} {v : Value} {x C : Addr} {fv : Array Value} {cd : ClassData}
    (X : K.In hp) (hx : hp.get? x = some { cls := .ref C, data := .fields fv }) (hcd : W.clsIn K C = some cd) (hm : PySem.W.excTail exB cd.mro = true) (hh : cd.hasDict = true) (ha : W.findIn K (.ref C) name = some none)
    (hq : ∀ h' tk' dx, (∀ b o, b ≠ x → hp.get? b = some o → h'.get? b = some o) → hp.objs.size ≤ dx → dx ≠ x → h'.get? x = some { cls := .ref C, dict := some dx, data := .fields fv } →
      h'.Ns1 dx (fun y => if y = name then some v else none) → R (.ok (.ret .none)) ⟨h', g, d, tk', os⟩) :
    codeAny (model prog w) A (.call (.builtin "object.__setattr__") ⟨[.ref x, .str name tk, v], []⟩) R ⟨hp, g, d, t, os⟩ := by
  have hxs : x ≠ hp.objs.size := Nat.ne_of_lt (Heap.lt_size hx)
  refine osaE X (ox := { cls := .ref C, data := .fields fv }) (od := none) ⟨hx, rfl, rfl, trivial⟩ hcd hm ha ?_
  have hcls : W.Looks (model prog w) hp (classData C) cd := W.looks_clsIn X hcd
  obtain ⟨nm, bs, mro, ns, qn, hd, sn, sb, ab, col, del⟩ := cd
  dsimp only at hh
  subst hh
  unfold storeInOwnDict ownDictForStores
  repeat (first | with_reducible refine HandSPX.store_in_new ?_ ?_ | with_reducible refine wpAny_loadPart_at hx ?_ | with_reducible refine hcls.at ?_ | wp_step)
  · exact ⟨_, #[], _, (Heap.get?_update_ne _ _ _ _ hxs.symm).trans (Heap.get?_push_at rfl rfl), rfl, fun e he => absurd he (by simp), fun _ => rfl⟩
  · intro h' tk' hn' hs
    have hx₁ : (hp.push { cls := .type "dict", data := .dict #[] }).get? x = some { cls := .ref C, data := .fields fv } := Heap.get?_push_of_some _ hx
    refine hq h' tk' hp.objs.size (fun b o hb ho => ?_) (Nat.le_refl _) hxs.symm ?_ hn'
    · exact (hs.2 b (Nat.ne_of_lt (Heap.lt_size ho))).trans ((Heap.get?_update_ne _ _ _ _ hb).trans (Heap.get?_push_of_some _ ho))
    · exact (hs.2 x hxs).trans (Heap.get?_update_self _ hx₁ rfl)
theorem osaE_old {K : W.Frag} {name : Str} {tk : Tok} {v : Value} {x C dx : Addr} {fv : Array Value} {cd : ClassData} {m0 : Str → Option Value} {nl : List Str}
    (X : K.In hp) (hx : hp.get? x = some { cls := .ref C, dict := some dx, data := .fields fv }) (hns : hp.Ns1 dx m0) (hw : Within m0 nl) (hz : nl.length ≤ 1000) (hcd : W.clsIn K C = some cd) (hm : PySem.W.excTail exB cd.mro = true) (hh : cd.hasDict = true)
    (ha : W.findIn K (.ref C) name = some none)
    (hq : ∀ h' tk', (∀ b o, b ≠ dx → hp.get? b = some o → h'.get? b = some o) → h'.Ns1 dx (fun y => if y = name then some v else m0 y) → R (.ok (.ret .none)) ⟨h', g, d, tk', os⟩) :
    codeAny (model prog w) A (.call (.builtin "object.__setattr__") ⟨[.ref x, .str name tk, v], []⟩) R ⟨hp, g, d, t, os⟩ := by
  obtain ⟨oD, esD, epD, hoD, hdD, _⟩ := hns.count hw
  refine osaE X (ox := { cls := .ref C, dict := some dx, data := .fields fv }) (od := some oD) ⟨hx, rfl, rfl, hoD⟩ hcd hm ha ?_
  have hcls : W.Looks (model prog w) hp (classData C) cd := W.looks_clsIn X hcd
  obtain ⟨nm, bs, mro, ns, qn, hd, sn, sb, ab, col, del⟩ := cd
  dsimp only at hh
  subst hh
  unfold storeInOwnDict ownDictForStores
  repeat (first | with_reducible refine OEX.store_in_old hns hw hz ?_ | with_reducible refine wpAny_loadPart_at hx ?_ | with_reducible refine hcls.at ?_ | wp_step)
  intro h' tk' hn' hs
  exact hq h' tk' (fun b o hb ho => (hs.2 b hb).trans ho) hn'
end
section
variable {X : Cx} {pins : List (Addr × Obj)} {σ : L2.St} {H : Hp} {s : Shared} {a C dx : Addr} {f : Str} {y : V} {u : Value} {fs : List (Str × V)} {Q : Unit → Shared → Prop} {E : Value → Shared → Prop} {A : Around}
theorem OexE.cd {K : PySem.W.Frag} (T : OexE K C) : ∃ cd : ClassData, PySem.W.clsIn K C = some cd ∧ PySem.W.excTail exB cd.mro = true ∧ cd.hasDict = true := by
  obtain ⟨nm, q, N, bs, bm, sn, sub, ab, col, dd, k0, k1, k2, k3, k5, hC, hbm⟩ := T.cls
  refine ⟨{ name := nm, bases := bs, mro := .ref C :: bm, ns := N, qualname := q, hasDict := true, slotNames := sn, subclasses := sub, abstract := ab, collection := col, hasDel := false }, ?_, hbm, rfl⟩
  unfold PySem.W.clsIn
  rw [hC] <;> rfl
/-- self.f = y, the first one -/
theorem estNew (T : OexE X.K C) (I : Inv X pins σ H s) (e : H a = some (exo a C none)) (hno : PySem.W.findIn X.K (.ref C) f = some none) (ry : RelV y u)
    (h : ∀ dx s', H dx = none → dx ≠ a → Inv X pins σ (upd (upd H dx (exd dx [(f, y)])) a (exo a C (some dx))) s' → Q () s') : wpAny (model X.prog X.w) A (setAttr (.ref a) f u) Q E s := by
  obtain ⟨cd, hcl, hm, hh⟩ := T.cd
  obtain ⟨t1, ho⟩ := exo_at I.hok e
  obtain ⟨hp, g, d, t, os⟩ := s
  refine PySem.W.set_plain I.kIn (ox := { cls := .ref C, dict := none, data := .fields #[.ref t1, .none, .none, .none, .bool false, .none] }) (od := none) ⟨ho, rfl, rfl, trivial⟩ T.sa ?_
  refine osaE_new I.kIn ho hcl hm hh hno fun h' tk' dx k dn dne hx hn => ?_
  have hnd : H dx = none := I.hok.fresh dn
  have nd : ∀ {b : Addr} {o : Obj}, hp.get? b = some o → b ≠ dx := fun {b o} q => Nat.ne_of_lt (Nat.lt_of_lt_of_le (Heap.lt_size q) dn)
  have na : ∀ {b : Addr}, H b = none → b ≠ a := fun {b} n z => by
    rw [z, e] at n
    cases n
  have Un1 : Un X.fs [] H (upd (upd H dx (exd dx [(f, y)])) a (exo a C (some dx))) hp h' := {
    keep := fun b o q n _ _ => k b o (na n) q
    slot := fun b o q n _ _ => ⟨o.slots, k b o (na n) q⟩
    free := fun b o q n _ => by rw [upd_ne (na n), upd_ne (nd q)]; exact n
    there := fun b o q _ => by
      by_cases hb : b = a
      · exact ⟨_, by rw [hb]; exact hx⟩
      · exact ⟨o, k b o hb q⟩
    tups := fun b xs q => by rw [upd_ne (at_ne e q exo_tup), upd_ne (ne_of_none q hnd)]; exact q
    frzs := fun b o v q => by rw [upd_ne (at_ne e q exo_frz), upd_ne (ne_of_none q hnd)]; exact q
    tbls := fun b ps q => ⟨#[], by rw [upd_ne (at_ne e q exo_tbl), upd_ne (ne_of_none q hnd), q]; simp⟩ }
  refine h dx _ hnd dne (I.un (t' := tk') Un1 fun b o q => ?_)
  by_cases hb : b = a
  · subst hb
    rw [upd_same] at q
    cases q
    exact exo_ok hx
  · rw [upd_ne hb] at q
    by_cases hd : b = dx
    · subst hd
      rw [upd_same] at q
      cases q
      exact exd_ok hn (relO_put (fs := []) ry fun g => True.intro)
    · rw [upd_ne hd] at q
      exact (I.hok b o q).stay (fun c v hc z => k c v (by
          rcases hc with hc | hc
          · rw [hc]
            exact hb
          · exact at_ne e hc exo_own) z)
        (fun c hc => by rw [upd_ne (at_ne e hc exo_own), upd_ne (ne_of_none hc hnd)]; exact hc) (fun c xs hc => by rw [upd_ne (at_ne e hc exo_tup), upd_ne (ne_of_none hc hnd)]; exact hc)
/-- self.f = y, a further one -/
theorem estOld (T : OexE X.K C) (I : Inv X pins σ H s) (e : H a = some (exo a C (some dx))) (ed : H dx = some (exd dx fs)) (hl : fs.length ≤ 900) (hno : PySem.W.findIn X.K (.ref C) f = some none) (ry : RelV y u)
    (h : ∀ s', Inv X pins σ (upd H dx (exd dx ((f, y) :: fs))) s' → Q () s') : wpAny (model X.prog X.w) A (setAttr (.ref a) f u) Q E s := by
  obtain ⟨cd, hcl, hm, hh⟩ := T.cd
  obtain ⟨t1, ho⟩ := exo_at I.hok e
  obtain ⟨mA, hns, rel⟩ := exd_at I.hok ed
  have hw := within_of rel
  obtain ⟨hp, g, d, t, os⟩ := s
  obtain ⟨oD, _, _, hoD, _, _⟩ := hns.count hw
  refine PySem.W.set_plain I.kIn (ox := { cls := .ref C, dict := some dx, data := .fields #[.ref t1, .none, .none, .none, .bool false, .none] }) (od := some oD) ⟨ho, rfl, rfl, hoD⟩ T.sa ?_
  refine osaE_old I.kIn ho hns hw (by rw [List.length_map]; omega) hcl hm hh hno fun h' tk' k hn => ?_
  have hd : ∃ o, h'.get? dx = some o := by
    obtain ⟨o, _, _, e', _⟩ := hn
    exact ⟨o, e'⟩
  exact h _ (I.write (t' := tk') (x := dx) (e := dx) (o := exd dx ((f, y) :: fs)) (by rw [ed]; exact True.intro) (.inl rfl) k hd (exd_ok hn (relO_put ry rel)))
end
/-- self.f = e -/
def tEst (K : PySem.W.Frag) (f : Str) (to te : TE) : TS := fun D σ H => te σ H fun y H1 => to σ H1 fun x H2 => ∃ a C : Addr, x = .ref a ∧ OexE K C ∧ PySem.W.findIn K (.ref C) f = some none ∧
  ((H2 a = some (exo a C none) ∧ ∀ dx, H2 dx = none → dx ≠ a → D.nx σ (upd (upd H2 dx (exd dx [(f, y)])) a (exo a C (some dx)))) ∨
    ∃ (dx : Addr) (fs : List (Str × V)), H2 a = some (exo a C (some dx)) ∧ H2 dx = some (exd dx fs) ∧ fs.length ≤ 900 ∧ D.nx σ (upd H2 dx (exd dx ((f, y) :: fs))))
section
variable {X : Cx} {o e : Expr} {es : List Expr} {to te : TE} {ta : TA} {f : Str} {p p' p1 p2 pos : Pos}
theorem ps_est (ho : PE X o to) (he : PE X e te) (hs : swapsWith e (some (.Attribute o f p')) pos.line X.env = pure false := by rfl) : PS X (.Assign [.Attribute o f p'] e pos) (tEst X.K f to te) := by
  refine ⟨fun pins s σ H D I h => ?_⟩
  refine plainObj_wpAny_Assign_Attribute (thn (he.run pins s σ H _ I h) fun v s1 ⟨y, H1, I1, r1, q1⟩ => thn (ho.run pins s1 σ H1 _ I1 q1) fun u s2 ⟨x, H2, I2, r2, a, C, ex, T, hno, q⟩ => ?_) hs
  subst ex
  obtain rfl : u = Value.ref a := r2
  rcases q with ⟨ea, q⟩ | ⟨dx, fs, ea, ed, hl, q⟩
  · exact estNew T I2 ea hno r1 fun dx s' n ne J => ⟨σ, _, J, q dx n ne⟩
  · exact estOld T I2 ea ed hl hno r1 fun s' J => ⟨σ, _, J, q⟩
/-- C(e, ..), C's own __init__ keeping sp -/
theorem pmk_oexE {CX : CXT} {x : Str} {C fI : Addr} {k : Nat} {fd : FuncData} {ps : List Str} {sp : Sp} {ds : List Value} {dvs : List V} (T : OexE X.K C) (iC : PySem.W.findIn X.K (.ref C) "__init__" = some (some (.ref fI))) (tI : PySem.W.typeIn X.K (.ref fI) = some (.type "function"))
    (F1 : FnOk X.prog X.w X.K X.mg X.base CX k fI fd ps sp) (hr : Room (k + 1) X.A) (hb : Binds X.K fd ps ds) (hd : Vals dvs ds) (hx : Passes CX X (fun _ _ _ => False)) (hg : Gl X x) (hm : X.mg x = some (.ref C)) (ha : PA X (e :: es) ta)
    (hdb : (x == ("__debug__" : Str)) = false := by decide) (he : starEach (e :: es) X.env = (false, eval e X.env) :: starEach es X.env := by rfl) (hpl : (backTo pos (starEach es X.env)).any (·.1) = false := by rfl) :
    PMk X (.Call (.Name x p) (e :: es) [] pos) (tMkO C sp dvs ta) := by
  intro pins s σ H Q I h
  obtain ⟨nm, q, N, bs, bm, sn, sub, ab, col, dd, k0, k1, k2, k3, k5, hC, hbm⟩ := T.cls
  refine wpAny_Call_Name_kw (ld_glob I hg hm ?_ hdb)
  refine PySem.W.callWith_K (h₀ := X.base) I.ok.mod.kin T.kC (thn (ha.run pos pins s σ H _ I h) fun us s1 ⟨vs, H1, I1, r1, hz, q1⟩ => ⟨I1.kIn, ?_⟩) he hpl
  show wpAny _ _ (call (.ref C) us) _ _ _
  obtain ⟨hp, g, dr, tk, os⟩ := s1
  have hsz : hp.objs.size ≤ hp.objs.size + 1 := Nat.le_succ _
  have hn : H1 (hp.objs.size + 1) = none := I1.hok.fresh hsz
  have hq := q1 (hp.objs.size + 1) hn
  have kk : ∀ b o, hp.get? b = some o → ((hp.push (PySem.W.kdv_tup us)).push (PySem.HandSPX.excO C hp.objs.size)).get? b = some o := fun b o e => Heap.get?_push_of_some _ (Heap.get?_push_of_some _ e)
  have hget : ((hp.push (PySem.W.kdv_tup us)).push (PySem.HandSPX.excO C hp.objs.size)).get? (hp.objs.size + 1) = some (PySem.HandSPX.excO C hp.objs.size) := by heap_get
  have I2 : Inv X pins σ (upd H1 (hp.objs.size + 1) (exo (hp.objs.size + 1) C none)) ⟨(hp.push (PySem.W.kdv_tup us)).push (PySem.HandSPX.excO C hp.objs.size), g, dr, tk, os⟩ :=
    I1.laid (t' := tk) (a := hp.objs.size + 1) (o := exo (hp.objs.size + 1) C none) (h' := (hp.push (PySem.W.kdv_tup us)).push (PySem.HandSPX.excO C hp.objs.size)) kk hsz (exo_ok hget)
  have r2 : Vals (V.ref (hp.objs.size + 1) :: (vs ++ dvs)) (Value.ref (hp.objs.size + 1) :: (us ++ ds)) := .cons rfl (r1.append hd)
  have hl : (Value.ref (hp.objs.size + 1) :: us ++ ds).length = ps.length := by
    have e := r2.length
    rw [F1.len _ _ _ _ hq] at e
    exact e.symm
  have hus : us.length ≤ sizeLine := by
    rw [← Paired.length r1, sizeLine_eq]
    omega
  refine wpAny_call (PySem.HandSPX.call_own F.excBase_Exception (fun Y => PySem.W.excTail_contains Y bm hbm) (I1.kIn _ _ hC) (PySem.W.looks_findIn I1.kIn iC) (fun self => PySem.W.bind_fn I1.kIn self tI) hus
    (codeAny_mono (F1.run _ X.stack _ _ ⟨Value.ref (hp.objs.size + 1) :: us, []⟩ (Value.ref (hp.objs.size + 1) :: (us ++ ds)) _ _ (fun _ _ _ => False) (hr.make C us []) (I2.env0.make C us []) (hb _ (Value.ref (hp.objs.size + 1) :: us) I2.kIn hl) r2 hq) fun r s' hq' => ?_))
  cases r with
  | error er => exact hx pins σ _ _ er s' I2 hq'
  | ok fl =>
    cases fl with
    | ret u =>
      obtain ⟨v, H2, os2, bare2, un2, hok2, rv, ev, d, fs, ea, ed, hd1, q2⟩ := hq'
      subst ev
      obtain ⟨h2, g2, d2, t2, os'⟩ := s'
      exact ⟨rv, mk_end (raises_own T.exC T.tyC) I1 hsz kk un2 hok2 os2 bare2 ea ed hd1 q2⟩
    | next => exact False.elim hq'
    | brk => exact False.elim hq'
    | cont => exact False.elim hq'
end
end MS

/-! Part 2: the state that a body is in, by values. -/
namespace MS
open PySem PySem.Spec PyProof.Rows L2

def inG (g : Gh) (a : Addr) : Prop := match g with
  | none => False
  | some (x, y) => a = x ∨ a = y
/-- the deal lies there -/
def DealOk (g : Gh) (H : Hp) : Prop := match g with
  | none => True
  | some (a, b) => a ≠ b ∧ ∃ (ns : List Int) (m : Int), H a = some (.lst [.ref b, .int m]) ∧ H b = some (.lst (ns.map V.int)) ∧ (∀ n ∈ ns, 0 ≤ n ∧ n.natAbs < 2 ^ 8000) ∧ ns.length ≤ 64 ∧ 0 ≤ m ∧ m < 2147483648
def SameX (g : Gh) (H H' : Hp) : Prop := ∀ a o, ¬ inG g a → H a = some o → H' a = some o
theorem SameX.refl (g : Gh) (H : Hp) : SameX g H H := fun _ _ _ h => h
theorem SameX.trans {g : Gh} {H H1 H2 : Hp} (a : SameX g H H1) (b : SameX g H1 H2) : SameX g H H2 := fun x o n h => b x o n (a x o n h)
/-- a def's entry -/
structure Ent where
  g : Gh
  H : Hp
  Hs : Hp
/-- a state behind an entry: Hs is what is told, H what stands -/
structure Wd (en : Ent) (Hs H : Hp) : Prop where
  sub : Sub Hs H
  ext : Sub en.Hs Hs
  new : ∀ a o, Hs a = some o → en.Hs a = some o ∨ en.H a = none
  same : SameX en.g en.H H
  deal : DealOk en.g H
  gout : ∀ a, inG en.g a → Hs a = none
/-- .. at the entry itself -/
theorem Wd.start {g : Gh} {H Hs : Hp} (s : Sub Hs H) (d : DealOk g H) (o : ∀ a, inG g a → Hs a = none) : Wd ⟨g, H, Hs⟩ Hs H :=
  ⟨s, Sub.refl _, fun _ _ h => .inl h, SameX.refl _ _, d, o⟩
/-- a callee's state is one of ours -/
theorem Wd.trans {en : Ent} {Hs H Hs' H' : Hp} (a : Wd en Hs H) (b : Wd ⟨en.g, H, Hs⟩ Hs' H') : Wd en Hs' H' where
  sub := b.sub
  ext := Sub.trans a.ext b.ext
  new := fun x o h => by
    rcases b.new x o h with q | q
    · exact a.new x o q
    · refine .inr ?_
      cases e : en.H x with
      | none => rfl
      | some u =>
        by_cases hg : inG en.g x
        · have := b.gout x hg
          rw [h] at this
          cases this
        · have := a.same x u hg e
          have q' : H x = none := q
          rw [this] at q'
          cases q'
  same := SameX.trans a.same b.same
  deal := b.deal
  gout := b.gout
theorem upd_self_of {H : Hp} {p : Addr} {o : HO} {a : Addr} {u : HO} (h : upd H p o a = some u) : (a = p ∧ u = o) ∨ (a ≠ p ∧ H a = some u) := by
  unfold upd at h
  by_cases e : a = p
  · rw [if_pos e] at h
    exact .inl ⟨e, (Option.some.inj h).symm⟩
  · rw [if_neg e] at h
    exact .inr ⟨e, h⟩
theorem sub_upd {H : Hp} {p : Addr} {o : HO} (h : H p = none) : Sub H (upd H p o) := fun a u e => by
  rw [upd_ne (ne_of_none e h)]
  exact e
theorem Wd.none_in {en : Ent} {Hs H : Hp} (a : Wd en Hs H) {p : Addr} (h : H p = none) : Hs p = none ∧ ¬ inG en.g p ∧ en.H p = none := by
  have hg : ¬ inG en.g p := fun z => by
    have d := a.deal
    obtain ⟨g, H0, Hs0⟩ := en
    cases g with
    | none => exact z
    | some q =>
      obtain ⟨x, y⟩ := q
      obtain ⟨_, ns, m, h1, h2, _⟩ := d
      rcases z with z | z
      · rw [z, h1] at h
        cases h
      · rw [z, h2] at h
        cases h
  refine ⟨?_, hg, ?_⟩
  · cases e : Hs p with
    | none => rfl
    | some o =>
      rw [a.sub p o e] at h
      cases h
  · cases e : en.H p with
    | none => rfl
    | some o =>
      rw [a.same p o hg e] at h
      cases h
theorem DealOk.keep {g : Gh} {H H' : Hp} (d : DealOk g H) (k : ∀ a, inG g a → H' a = H a) : DealOk g H' := by
  cases g with
  | none => trivial
  | some q =>
    obtain ⟨x, y⟩ := q
    obtain ⟨n, ns, m, h1, h2, r⟩ := d
    exact ⟨n, ns, m, (k x (.inl rfl)).trans h1, (k y (.inr rfl)).trans h2, r⟩
/-- a new object that is told -/
theorem Wd.alloc {en : Ent} {Hs H : Hp} (a : Wd en Hs H) {p : Addr} (h : H p = none) (o : HO) : Wd en (upd Hs p o) (upd H p o) := by
  obtain ⟨n1, n2, n3⟩ := a.none_in h
  refine ⟨fun x u e => ?_, Sub.trans a.ext (sub_upd n1), fun x u e => ?_, fun x u hx e => ?_, a.deal.keep fun x hx => upd_ne fun (z : x = p) => n2 (by rw [← z]; exact hx), fun x hx => ?_⟩
  · rcases upd_self_of e with ⟨rfl, rfl⟩ | ⟨ne, e⟩
    · exact upd_same
    · rw [upd_ne ne]
      exact a.sub x u e
  · rcases upd_self_of e with ⟨rfl, rfl⟩ | ⟨ne, e⟩
    · exact .inr n3
    · exact a.new x u e
  · rw [upd_ne (ne_of_none (a.same x u hx e) h)]
    exact a.same x u hx e
  · rw [upd_ne fun (z : x = p) => n2 (by rw [← z]; exact hx)]
    exact a.gout x hx
/-- a new object that is not told -/
theorem Wd.alloc' {en : Ent} {Hs H : Hp} (a : Wd en Hs H) {p : Addr} (h : H p = none) (o : HO) : Wd en Hs (upd H p o) := by
  obtain ⟨n1, n2, n3⟩ := a.none_in h
  refine ⟨Sub.trans a.sub (sub_upd h), a.ext, a.new, fun x u hx e => ?_, a.deal.keep fun x hx => upd_ne fun (z : x = p) => n2 (by rw [← z]; exact hx), a.gout⟩
  rw [upd_ne (ne_of_none (a.same x u hx e) h)]
  exact a.same x u hx e

/-! ### what one owns -/
inductive OwnO (C : Ct) (g : Gh) (Hs : Hp) : D → HO → Prop
  | lst {ds : List D} {vs : List V} (r : RepL C g Hs ds vs) : OwnO C g Hs (.lst ds) (.lst vs)
theorem OwnO.sub {C : Ct} {g : Gh} {Hs Hs' : Hp} {d : D} {o : HO} (s : Sub Hs Hs') (h : OwnO C g Hs d o) : OwnO C g Hs' d o := by
  cases h with
  | lst r => exact .lst (RepL.sub s r)
structure Own (C : Ct) (en : Ent) (Hs H : Hp) (d : D) (a : Addr) : Prop where
  out : en.H a = none
  outs : Hs a = none
  outg : ¬ inG en.g a
  obj : ∃ o, H a = some o ∧ OwnO C en.g Hs d o
abbrev DEnv := List (Option (Bool × D))
structure EnvOk (C : Ct) (en : Ent) (Hs : Hp) (τ : List (Addr × D)) (ρ : DEnv) (σ : L2.St) (H : Hp) : Prop where
  wd : Wd en Hs H
  fro : ∀ (i : Nat) (d : D), ρ[i]? = some (some (false, d)) → ∃ v, σ[i]? = some (some v) ∧ Rep C en.g Hs d v
  own : ∀ (i : Nat) (d : D), ρ[i]? = some (some (true, d)) → ∃ a, σ[i]? = some (some (.ref a)) ∧ Own C en Hs H d a
  dis : ∀ (i j : Nat) (d d' : D) (a : Addr), i ≠ j → ρ[i]? = some (some (true, d)) → ρ[j]? = some (some (true, d')) → σ[i]? = some (some (.ref a)) → σ[j]? = some (some (.ref a)) → False
  tmp : ∀ p ∈ τ, Own C en Hs H p.2 p.1
  tdis : (τ.map (·.1)).Nodup
  tsl : ∀ (i : Nat) (d : D) (p : Addr × D), p ∈ τ → ρ[i]? = some (some (true, d)) → σ[i]? = some (some (.ref p.1)) → False
  len : ρ.length = σ.length
section
variable {C : Ct} {en : Ent} {Hs Hs' H H' : Hp} {τ : List (Addr × D)} {ρ : DEnv} {σ : L2.St}
theorem Own.step {d : D} {a : Addr} (o : Own C en Hs H d a) (s : Sub Hs Hs') (n : Hs' a = none) (k : ∀ u, H a = some u → H' a = some u) : Own C en Hs' H' d a := by
  obtain ⟨u, h1, h2⟩ := o.obj
  exact ⟨o.out, n, o.outg, u, k u h1, h2.sub s⟩
/-- the world goes on, what is owned stands -/
theorem EnvOk.step (e : EnvOk C en Hs τ ρ σ H) (w : Wd en Hs' H') (s : Sub Hs Hs') (n : ∀ a o, Hs' a = some o → Hs a = some o ∨ H a = none) (k : ∀ a o, ¬ inG en.g a → H a = some o → Hs a = none → H' a = some o) : EnvOk C en Hs' τ ρ σ H' := by
  have own : ∀ d a, Own C en Hs H d a → Own C en Hs' H' d a := fun d a o => by
    refine o.step s ?_ fun u hu => k a u o.outg hu o.outs
    cases q : Hs' a with
    | none => rfl
    | some u =>
      rcases n a u q with z | z
      · rw [o.outs] at z
        cases z
      · obtain ⟨u', h1, _⟩ := o.obj
        rw [h1] at z
        cases z
  refine ⟨w, fun i d h => ?_, fun i d h => ?_, e.dis, fun p hp => own _ _ (e.tmp p hp), e.tdis, e.tsl, e.len⟩
  · obtain ⟨v, h1, h2⟩ := e.fro i d h
    exact ⟨v, h1, h2.sub s⟩
  · obtain ⟨a, h1, h2⟩ := e.own i d h
    exact ⟨a, h1, own _ _ h2⟩
theorem EnvOk.alloc (e : EnvOk C en Hs τ ρ σ H) {p : Addr} (h : H p = none) (o : HO) : EnvOk C en (upd Hs p o) τ ρ σ (upd H p o) :=
  e.step (e.wd.alloc h o) (sub_upd (e.wd.none_in h).1) (fun a u q => by
    rcases upd_self_of q with ⟨rfl, rfl⟩ | ⟨_, q⟩
    · exact .inr h
    · exact .inl q) fun a u _ q _ => sub_upd h a u q
/-- a new list of one's own -/
theorem EnvOk.allocT (e : EnvOk C en Hs τ ρ σ H) {p : Addr} (h : H p = none) {ds : List D} {vs : List V} (r : RepL C en.g Hs ds vs) : EnvOk C en Hs ((p, .lst ds) :: τ) ρ σ (upd H p (.lst vs)) := by
  obtain ⟨n1, n2, n3⟩ := e.wd.none_in h
  have e1 : EnvOk C en Hs τ ρ σ (upd H p (.lst vs)) := e.step (e.wd.alloc' h _) (Sub.refl _) (fun _ _ q => .inl q) fun a u _ q _ => sub_upd h a u q
  have fresh : ∀ d a, Own C en Hs H d a → a ≠ p := fun d a o z => by
    obtain ⟨u, h1, _⟩ := o.obj
    rw [z, h] at h1
    cases h1
  refine ⟨e1.wd, e1.fro, e1.own, e1.dis, fun q hq => ?_, ?_, fun i d q hq h1 h2 => ?_, e1.len⟩
  · rcases List.mem_cons.mp hq with rfl | hq
    · exact ⟨n3, n1, n2, _, upd_same, .lst r⟩
    · exact e1.tmp q hq
  · refine List.nodup_cons.mpr ⟨fun z => ?_, e.tdis⟩
    obtain ⟨q, hq, e2⟩ := List.mem_map.mp z
    exact fresh _ _ (e.tmp q hq) e2
  · rcases List.mem_cons.mp hq with rfl | hq
    · obtain ⟨a, h3, h4⟩ := e.own i d h1
      rw [h2] at h3
      cases h3
      exact fresh _ _ h4 rfl
    · exact e.tsl i d q hq h1 h2
/-- one's own list is told from now on -/
theorem EnvOk.freeze {p : Addr} {ds : List D} (e : EnvOk C en Hs ((p, .lst ds) :: τ) ρ σ H) : ∃ vs, H p = some (.lst vs) ∧ EnvOk C en (upd Hs p (.lst vs)) τ ρ σ H ∧ RepL C en.g (upd Hs p (.lst vs)) ds vs ∧ Sub Hs (upd Hs p (.lst vs)) := by
  have o := e.tmp _ (List.mem_cons_self ..)
  obtain ⟨u, h1, h2⟩ := o.obj
  cases h2 with
  | lst r =>
    rename_i vs
    have s : Sub Hs (upd Hs p (.lst vs)) := sub_upd o.outs
    have w : Wd en (upd Hs p (.lst vs)) H := by
      refine ⟨fun x u q => ?_, Sub.trans e.wd.ext s, fun x u q => ?_, e.wd.same, e.wd.deal, fun x hx => ?_⟩
      · rcases upd_self_of q with ⟨rfl, rfl⟩ | ⟨_, q⟩
        · exact h1
        · exact e.wd.sub x u q
      · rcases upd_self_of q with ⟨rfl, rfl⟩ | ⟨_, q⟩
        · exact .inr o.out
        · exact e.wd.new x u q
      · rw [upd_ne fun (z : x = p) => o.outg (by rw [← z]; exact hx)]
        exact e.wd.gout x hx
    have keep : ∀ d a, a ≠ p → Own C en Hs H d a → Own C en (upd Hs p (.lst vs)) H d a := fun d a ne q => q.step s (by rw [upd_ne ne]; exact q.outs) fun _ z => z
    have nd := List.nodup_cons.mp e.tdis
    refine ⟨vs, h1, ⟨w, fun i d h => ?_, fun i d h => ?_, e.dis, fun q hq => ?_, nd.2, fun i d q hq => e.tsl i d q (List.mem_cons_of_mem _ hq), e.len⟩, r.sub s, s⟩
    · obtain ⟨v, q1, q2⟩ := e.fro i d h
      exact ⟨v, q1, q2.sub s⟩
    · obtain ⟨a, q1, q2⟩ := e.own i d h
      exact ⟨a, q1, keep _ _ (fun z => e.tsl i d _ (List.mem_cons_self ..) h (by rw [q1, z])) q2⟩
    · exact keep _ _ (fun z => nd.1 (List.mem_map.mpr ⟨q, hq, z⟩)) (e.tmp q (List.mem_cons_of_mem _ hq))
/-- one's own list is forgotten -/
theorem EnvOk.drop {p : Addr × D} (e : EnvOk C en Hs (p :: τ) ρ σ H) : EnvOk C en Hs τ ρ σ H :=
  ⟨e.wd, e.fro, e.own, e.dis, fun q hq => e.tmp q (List.mem_cons_of_mem _ hq), (List.nodup_cons.mp e.tdis).2, fun i d q hq => e.tsl i d q (List.mem_cons_of_mem _ hq), e.len⟩
/-- a slot is set to what is told -/
theorem EnvOk.set (e : EnvOk C en Hs τ ρ σ H) (i : Nat) {d : D} {v : V} (r : Rep C en.g Hs d v) : EnvOk C en Hs τ (ρ.set i (some (false, d))) (σ.set i (some v)) H := by
  have old : ∀ {j : Nat} {y : Bool × D}, (ρ.set i (some (false, d)))[j]? = some (some y) → (j = i ∧ y = (false, d)) ∨ (j ≠ i ∧ ρ[j]? = some (some y)) := fun {j y} h => by
    by_cases hj : j = i
    · subst hj
      by_cases hl : j < ρ.length
      · rw [List.getElem?_set_self hl] at h
        exact .inl ⟨rfl, (Option.some.inj (Option.some.inj h)).symm⟩
      · rw [List.getElem?_eq_none (by simpa using hl)] at h
        cases h
    · rw [List.getElem?_set_ne (Ne.symm hj)] at h
      exact .inr ⟨hj, h⟩
  refine ⟨e.wd, fun j d' h => ?_, fun j d' h => ?_, fun j k d1 d2 a ne h1 h2 h3 h4 => ?_, e.tmp, e.tdis, fun j d' p hp h1 h2 => ?_, by rw [List.length_set, List.length_set]; exact e.len⟩
  · rcases old h with ⟨rfl, q⟩ | ⟨ne, q⟩
    · cases q
      have hl : j < σ.length := by
        rw [← e.len]
        by_cases hl : j < ρ.length
        · exact hl
        · rw [List.getElem?_eq_none (by simpa using hl)] at h
          cases h
      exact ⟨v, List.getElem?_set_self hl, r⟩
    · obtain ⟨u, q1, q2⟩ := e.fro j d' q
      exact ⟨u, by rw [List.getElem?_set_ne (Ne.symm ne)]; exact q1, q2⟩
  · rcases old h with ⟨rfl, q⟩ | ⟨ne, q⟩
    · cases q
    · obtain ⟨u, q1, q2⟩ := e.own j d' q
      exact ⟨u, by rw [List.getElem?_set_ne (Ne.symm ne)]; exact q1, q2⟩
  · rcases old h1 with ⟨_, q⟩ | ⟨n1, q1⟩
    · cases q
    · rcases old h2 with ⟨_, q⟩ | ⟨n2, q2⟩
      · cases q
      · rw [List.getElem?_set_ne (Ne.symm n1)] at h3
        rw [List.getElem?_set_ne (Ne.symm n2)] at h4
        exact e.dis j k d1 d2 a ne q1 q2 h3 h4
  · rcases old h1 with ⟨_, q⟩ | ⟨n1, q1⟩
    · cases q
    · rw [List.getElem?_set_ne (Ne.symm n1)] at h2
      exact e.tsl j d' p hp q1 h2
/-- a slot takes a list of one's own -/
theorem EnvOk.take {p : Addr} {d : D} (e : EnvOk C en Hs ((p, d) :: τ) ρ σ H) (i : Nat) : EnvOk C en Hs τ (ρ.set i (some (true, d))) (σ.set i (some (.ref p))) H := by
  have e' := e.drop
  have nd := List.nodup_cons.mp e.tdis
  have old : ∀ {j : Nat} {y : Bool × D}, (ρ.set i (some (true, d)))[j]? = some (some y) → (j = i ∧ j < σ.length ∧ y = (true, d)) ∨ (j ≠ i ∧ ρ[j]? = some (some y)) := fun {j y} h => by
    by_cases hj : j = i
    · subst hj
      by_cases hl : j < ρ.length
      · rw [List.getElem?_set_self hl] at h
        exact .inl ⟨rfl, by rw [← e.len]; exact hl, (Option.some.inj (Option.some.inj h)).symm⟩
      · rw [List.getElem?_eq_none (by simpa using hl)] at h
        cases h
    · rw [List.getElem?_set_ne (Ne.symm hj)] at h
      exact .inr ⟨hj, h⟩
  refine ⟨e.wd, fun j d' h => ?_, fun j d' h => ?_, fun j k d1 d2 a ne h1 h2 h3 h4 => ?_, e'.tmp, nd.2, fun j d' q hq h1 h2 => ?_, by rw [List.length_set, List.length_set]; exact e.len⟩
  · rcases old h with ⟨_, _, q⟩ | ⟨ne, q⟩
    · cases q
    · obtain ⟨u, q1, q2⟩ := e.fro j d' q
      exact ⟨u, by rw [List.getElem?_set_ne (Ne.symm ne)]; exact q1, q2⟩
  · rcases old h with ⟨rfl, hl, q⟩ | ⟨ne, q⟩
    · cases q
      exact ⟨p, List.getElem?_set_self hl, e.tmp _ (List.mem_cons_self ..)⟩
    · obtain ⟨u, q1, q2⟩ := e.own j d' q
      exact ⟨u, by rw [List.getElem?_set_ne (Ne.symm ne)]; exact q1, q2⟩
  · rcases old h1 with ⟨rfl, hl1, q1⟩ | ⟨n1, q1⟩
    · rcases old h2 with ⟨rfl, _, _⟩ | ⟨n2, q2⟩
      · exact ne rfl
      · rw [List.getElem?_set_self hl1] at h3
        cases h3
        rw [List.getElem?_set_ne (Ne.symm n2)] at h4
        exact e.tsl k d2 _ (List.mem_cons_self ..) q2 h4
    · rcases old h2 with ⟨rfl, hl2, _⟩ | ⟨n2, q2⟩
      · rw [List.getElem?_set_self hl2] at h4
        cases h4
        rw [List.getElem?_set_ne (Ne.symm n1)] at h3
        exact e.tsl j d1 _ (List.mem_cons_self ..) q1 h3
      · rw [List.getElem?_set_ne (Ne.symm n1)] at h3
        rw [List.getElem?_set_ne (Ne.symm n2)] at h4
        exact e.dis j k d1 d2 a ne q1 q2 h3 h4
  · rcases old h1 with ⟨rfl, hl, _⟩ | ⟨n1, q1⟩
    · rw [List.getElem?_set_self hl] at h2
      cases h2
      exact nd.1 (List.mem_map.mpr ⟨q, hq, rfl⟩)
    · rw [List.getElem?_set_ne (Ne.symm n1)] at h2
      exact e.tsl j d' q (List.mem_cons_of_mem _ hq) q1 h2
/-- less is known -/
theorem EnvOk.less {ρ' : DEnv} {σ' : L2.St} (e : EnvOk C en Hs τ ρ σ H) (hl : ρ'.length = σ'.length) (h : ∀ (i : Nat) (y : Bool × D), ρ'[i]? = some (some y) → ρ[i]? = some (some y) ∧ σ'[i]? = σ[i]?) : EnvOk C en Hs τ ρ' σ' H := by
  refine ⟨e.wd, fun j d' q => ?_, fun j d' q => ?_, fun j k d1 d2 a ne h1 h2 h3 h4 => ?_, e.tmp, e.tdis, fun j d' p hp h1 h2 => ?_, hl⟩
  · obtain ⟨q1, q2⟩ := h j _ q
    rw [q2]
    exact e.fro j d' q1
  · obtain ⟨q1, q2⟩ := h j _ q
    rw [q2]
    exact e.own j d' q1
  · obtain ⟨q1, q2⟩ := h j _ h1
    obtain ⟨q3, q4⟩ := h k _ h2
    rw [q2] at h3
    rw [q4] at h4
    exact e.dis j k d1 d2 a ne q1 q3 h3 h4
  · obtain ⟨q1, q2⟩ := h j _ h1
    rw [q2] at h2
    exact e.tsl j d' p hp q1 h2
/-- an operand: told, or a list of one's own -/
def RepO (C : Ct) (en : Ent) (Hs : Hp) (ρ : DEnv) (σ : L2.St) (d : D) (v : V) : Prop := Rep C en.g Hs d v ∨ ∃ i : Nat, ρ[i]? = some (some (true, d)) ∧ σ[i]? = some (some v)
theorem RepO.sub {d : D} {v : V} (s : Sub Hs Hs') (r : RepO C en Hs ρ σ d v) : RepO C en Hs' ρ σ d v := r.imp (Rep.sub s) id
theorem RepO.list {ds : List D} {v : V} (r : RepO C en Hs ρ σ (.lst ds) v) (e : EnvOk C en Hs τ ρ σ H) : ∃ a vs, v = .ref a ∧ H a = some (.lst vs) ∧ RepL C en.g Hs ds vs := by
  rcases r with r | ⟨i, h1, h2⟩
  · cases r with
    | lst h r => exact ⟨_, _, rfl, e.wd.sub _ _ h, r⟩
  · obtain ⟨a, h3, h4⟩ := e.own i _ h1
    rw [h2] at h3
    cases h3
    obtain ⟨u, h5, h6⟩ := h4.obj
    cases h6 with
    | lst r => exact ⟨_, _, rfl, h5, r⟩
theorem RepO.tup {ds : List D} {v : V} (r : RepO C en Hs ρ σ (.tup ds) v) (e : EnvOk C en Hs τ ρ σ H) : ∃ a vs, v = .ref a ∧ SqT C.K H a vs ∧ RepL C en.g Hs ds vs := by
  rcases r with r | ⟨i, h1, h2⟩
  · cases r with
    | tup h r => exact ⟨_, _, rfl, (TupAt.sub e.wd.sub h).seq, r⟩
  · obtain ⟨a, h3, h4⟩ := e.own i _ h1
    obtain ⟨u, h5, h6⟩ := h4.obj
    cases h6
/-- what is no list is told -/
theorem RepO.told {d : D} {v : V} (r : RepO C en Hs ρ σ d v) (e : EnvOk C en Hs τ ρ σ H) (n : ∀ ds, d ≠ .lst ds) : Rep C en.g Hs d v := by
  rcases r with r | ⟨i, h1, h2⟩
  · exact r
  · obtain ⟨a, h3, h4⟩ := e.own i _ h1
    obtain ⟨u, h5, h6⟩ := h4.obj
    cases h6
    exact absurd rfl (n _)
/-- an operand is read as it stands -/
theorem RepO.now {d : D} {v : V} (r : RepO C en Hs ρ σ d v) (e : EnvOk C en Hs τ ρ σ H) : Rep C en.g H d v := by
  rcases r with r | ⟨i, h1, h2⟩
  · exact r.sub e.wd.sub
  · obtain ⟨a, h3, h4⟩ := e.own i _ h1
    rw [h2] at h3
    cases h3
    obtain ⟨u, h5, h6⟩ := h4.obj
    cases h6 with
    | lst r => exact .lst h5 (r.sub e.wd.sub)
end
end MS

/-! Part 3: operators by values, the judgements. -/
namespace MS
open PySem PySem.Spec PyProof.Rows L2

/-! ### operators -/
def addD : D → D → T D
  | .int i, .int j => .ret (.int (i + j))
  | .str a, .str b => if a.length + b.length ≤ sizeLine then .ret (.str (a ++ b)) else .stuck
  | .tup a, .tup b => if a.length + b.length ≤ sizeLine then .ret (.tup (a ++ b)) else .stuck
  | .lst a, .lst b => if a.length + b.length ≤ sizeLine then .ret (.lst (a ++ b)) else .stuck
  | _, _ => .stuck
def subD : D → D → T D
  | .int i, .int j => .ret (.int (i - j))
  | _, _ => .stuck
def mulD : D → D → T D
  | .int i, .int j => if i.natAbs.log2 + j.natAbs.log2 < 1000000 then .ret (.int (i * j)) else .stuck
  | .lst a, .int k => if -(2 ^ 63) ≤ k ∧ k < 2 ^ 63 ∧ a.length * k.toNat ≤ sizeLine then .ret (.lst (List.replicate k.toNat a).flatten) else .stuck
  | .tup a, .int k => if a ≠ [] ∧ 2 ≤ k ∧ k ≤ 1000 ∧ a.length ≤ 1000 then .ret (.tup (List.replicate k.toNat a).flatten) else .stuck
  | _, _ => .stuck
def fdivD : D → D → T D
  | .int i, .int j => if 0 < j ∧ j.natAbs.log2 < 9000 then .ret (.int (i / j)) else .stuck
  | _, _ => .stuck
def modD : D → D → T D
  | .int i, .int j => if 0 < j then .ret (.int (i % j)) else .stuck
  | _, _ => .stuck
def binD (op : Operator) (x y : D) : T D := match op with
  | .Add => addD x y
  | .Sub => subD x y
  | .Mult => mulD x y
  | .FloorDiv => fdivD x y
  | .Mod => modD x y
  | _ => .stuck
def negD : D → T D
  | .int i => .ret (.int (-i))
  | _ => .stuck
def asBool : D → T Bool
  | .bl b => .ret b
  | _ => .stuck
def eqOp (neg : Bool) (x y : D) : T D := if okD x && okD y then .ret (.bl (if neg then !eqD x y else eqD x y)) else match x, y with
  | .ins c fs, .ins c' fs' => if !neg && decide (c = c') && decide (fs.map (·.1) = fs'.map (·.1)) && okD (.tup (fs.map (·.2))) && okD (.tup (fs'.map (·.2))) && eqD (.tup (fs.map (·.2))) (.tup (fs'.map (·.2))) then .ret (.bl true) else .stuck
  | _, _ => .stuck
def ordOp (p : Int → Int → Bool) (x y : D) : T D := match x, y with
  | .int i, .int j => .ret (.bl (p i j))
  | _, _ => .stuck
def isOp (neg : Bool) (x y : D) : T D := match x, y with
  | x, .non => if flatD x || (match x with | .tup _ | .lst _ | .ins _ _ => true | _ => false) then .ret (.bl (if neg then !(match x with | .non => true | _ => false) else (match x with | .non => true | _ => false))) else .stuck
  | .bl a, .bl b => .ret (.bl (if neg then !decide (a = b) else decide (a = b)))
  | _, _ => .stuck
def inOp (neg : Bool) (x y : D) : T D := match y with
  | .tup l | .lst l => if okD x && okD (.lst l) then .ret (.bl (if neg then !(l.any fun z => eqD z x) else (l.any fun z => eqD z x))) else .stuck
  | _ => .stuck
def cmpD (op : CmpOp) (x y : D) : T D := match op with
  | .Eq => eqOp false x y
  | .NotEq => eqOp true x y
  | .Lt => ordOp (fun i j => decide (i < j)) x y
  | .LtE => ordOp (fun i j => decide (i ≤ j)) x y
  | .Gt => ordOp (fun i j => decide (j < i)) x y
  | .GtE => ordOp (fun i j => decide (j ≤ i)) x y
  | .Is => isOp false x y
  | .IsNot => isOp true x y
  | .In => inOp false x y
  | .NotIn => inOp true x y
def indexD (x y : D) : T D := match x, y with
  | .tup l, .int i | .lst l, .int i => (match atI l i with
    | some d => .ret d
    | none => .stuck)
  | .str s, .int i => if s.length ≤ sizeLine then (match atI s.cps.toList i with
    | some c => .ret (.str ⟨#[c]⟩)
    | none => .stuck) else .stuck
  | _, _ => .stuck
def sliceD (x : D) (lo hi : Option Int) : T D := match x with
  | .lst l => .ret (.lst (List.take (HT.sIx l.length l.length hi - HT.sIx l.length 0 lo) (List.drop (HT.sIx l.length 0 lo) l)))
  | .tup l => .ret (.tup (List.take (HT.sIx l.length l.length hi - HT.sIx l.length 0 lo) (List.drop (HT.sIx l.length 0 lo) l)))
  | .str z => if z.length ≤ sizeLine then .ret (.str (cutS z lo hi)) else .stuck
  | _ => .stuck
def revD : D → T D
  | .lst l => .ret (.lst l.reverse)
  | _ => .stuck
def fieldD (x : D) (f : Str) : T D := match x with
  | .ins _ fs => (match fs.lookup f with
    | some d => .ret d
    | none => .stuck)
  | _ => .stuck
def lenD : D → T D
  | .tup l | .lst l => .ret (.int l.length)
  | .str s => if s.length ≤ sizeLine then .ret (.int s.length) else .stuck
  | _ => .stuck
def intsOf : List D → Option (List Int)
  | [] => some []
  | .int i :: r => (intsOf r).map (i :: ·)
  | _ :: _ => none
def rangeD (a b : Int) : T (List D) := if -(2 ^ 62) ≤ a ∧ a < 2 ^ 62 ∧ -(2 ^ 62) ≤ b ∧ b < 2 ^ 62 ∧ (b - a).toNat ≤ 16777216 then .ret ((List.range (b - a).toNat).map fun i => D.int (a + (i : Nat))) else .stuck
/-! the order of ints, of tuples of such, nested -/
mutual
def ltD : D → D → Option Bool
  | .int i, .int j => some (decide (i < j))
  | .tup l, .tup m => ltDs l m
  | _, _ => none
def ltDs : List D → List D → Option Bool
  | [], [] => some false
  | [], _ :: _ => some true
  | _ :: _, [] => some false
  | x :: xs, y :: ys => if okD x && okD y then (if eqD x y then ltDs xs ys else ltD x y) else none
end


/-! ### what a name of the module stands for -/
inductive GE where
  | fn (lev : Nat) (ps : List Str) (m : List D → T D) (kw : List (List Str × List Nat))
  | cls (flds : List Str) (eq : Option (Nat × (List D → T D)))
  | con (d : D)
  | tab (kvs : List (Str × Str))
  | blt
  | clv
  | exc (flds : List Str)
/-- a text over the model: fixed through a law -/
structure Fx where
  P : Program
  w : World
  K : PySem.W.Frag
  mg : Str → Option Value
  base : Heap
  CX : CXT
  G : List (Str × GE)
  clss : List Str
  exs : List (Str × List Str × List Str)
abbrev Fx.C (F : Fx) : Ct := ⟨F.K, F.mg, F.clss⟩
/-- an exception, by values -/
inductive XRep (C : Ct) (g : Gh) (Hs : Hp) : Str → List (Str × D) → Value → Option Addr → Prop
  | mk {c : Str} {Cl d : Addr} {fs : List (Str × D)} {vfs : List (Str × V)} (hc : C.mg c = some (.ref Cl)) (h : Hs d = some (.xd vfs)) (r : RepF C g Hs fs vfs) : XRep C g Hs c fs (.ref Cl) (some d)
  | bare {c : Str} {Cl : Addr} {oa : Option Addr} (hc : C.mg c = some (.ref Cl)) : XRep C g Hs c [] (.ref Cl) oa
/-- what is wanted of an exception -/
def excP (F : Fx) (E : XK) (en : Ent) (c : Str) (fs : List (Str × D)) : Prop := ∀ (e : Value) (oa : Option Addr) (Hs H : Hp), Wd en Hs H → XRep F.C en.g Hs c fs e oa → E e oa H
/-- what a def does, by values -/
def spM (F : Fx) (n : Nat) (m : List D → T D) : Sp := fun vs H Q E => ∃ (g : Gh) (Hs : Hp) (ds : List D), Sub Hs H ∧ DealOk g H ∧ (∀ a, inG g a → Hs a = none) ∧ RepL F.C g Hs ds vs ∧ ds.length = n ∧
  (m ds).wp (fun d => ∀ v Hs' H', Wd ⟨g, H, Hs⟩ Hs' H' → Rep F.C g Hs' d v → Q v H') (excP F E ⟨g, H, Hs⟩)
/-- what a class's __init__ does: its arguments become the attributes -/
def spI (K : PySem.W.Frag) (flds : List Str) : Sp := fun vs H Q _ => ∃ x dx Cl args, vs = .ref x :: args ∧ H x = some (.ins Cl dx []) ∧ Cls K Cl ∧ (∀ f ∈ flds, NoAttr K Cl f) ∧ args.length = flds.length ∧ Q .non (upd H x (.ins Cl dx (flds.zip args)))
/-- the built-in classes that are asked for -/
def btys : List String := ["int", "bool", "str", "NoneType", "tuple", "list", "dict"]
/-- what isinstance says of the classes of the text -/
def KitOk0 (F : Fx) : Prop := ∀ c ∈ F.clss, ∀ Cl, F.mg c = some (.ref Cl) → (∀ t ∈ btys, PySem.W.kitOne F.K (.ref Cl) (.type t) = some false ∧ PySem.W.kitOne F.K (.type t) (.ref Cl) = some false) ∧
  ∀ c' ∈ F.clss, ∀ Cl', F.mg c' = some (.ref Cl') → PySem.W.kitOne F.K (.ref Cl') (.ref Cl) = some (decide (c' = c))
/-- what is said of the exceptions of the text: their classes' names, those above, their attributes -/
def ExOk (F : Fx) : Prop := ∀ p ∈ F.exs, ∀ C, F.mg p.1 = some (.ref C) → (XfC F.K C ∧ ∀ f ∈ p.2.2, PySem.W.findIn F.K (.ref C) f = some none) ∧
  ∀ q ∈ F.exs, ∀ D, F.mg q.1 = some (.ref D) → PySem.W.exmOne F.K (.ref C) (.ref D) = some (p.2.1.contains q.1)
def KitOk (F : Fx) : Prop := KitOk0 F ∧ ExOk F
/-- what an exception's __init__ does: its arguments become the attributes -/
def spX (K : PySem.W.Frag) (flds : List Str) : Sp := fun vs H Q _ => ∃ x Cl args, vs = .ref x :: args ∧ H x = some (exo x Cl none) ∧ OexE K Cl ∧ (∀ f ∈ flds, PySem.W.findIn K (.ref Cl) f = some none) ∧ args.length = flds.length ∧
  ∀ dx, H dx = none → dx ≠ x → Q .non (upd (upd H dx (exd dx (flds.zip args).reverse)) x (exo x Cl (some dx)))
/-- a def called by keywords alone: their names, where each parameter's value stands -/
def KwB (K : PySem.W.Frag) (fd : FuncData) (ps ks : List Str) (pm : List Nat) : Prop := ∀ (s : Shared) (ws : List Value), K.In s.heap → ws.length = ks.length → BindsTo s fd ⟨[], ks.zip ws⟩ (ps.zip (pm.map fun i => ws.getD i .none))
/-- the facts of a name -/
def GEok (F : Fx) (x : Str) : GE → Prop
  | .fn lev ps m kw => (∀ ds, ds.length ≠ ps.length → m ds = .stuck) ∧ ∃ f fd, F.mg x = some (.ref f) ∧ FnOk F.P F.w F.K F.mg F.base F.CX lev f fd ps (spM F ps.length m) ∧ PySem.W.keepIn F.K (.ref f) = true ∧ Binds F.K fd ps [] ∧ ∀ q ∈ kw, KwB F.K fd ps q.1 q.2
  | .cls flds eq => ∃ Cl, ClsF F.C x Cl flds ∧ (∃ f fd, Mk F.K Cl f ∧ FnOk F.P F.w F.K F.mg F.base F.CX 1 f fd (("self" : Str) :: flds) (spI F.K flds) ∧ Binds F.K fd (("self" : Str) :: flds) [] ∧ KBn F.K fd (("self" : Str) :: flds) 1 flds (fun us ws => us ++ ws) (fun vs zs => vs ++ zs)) ∧ ∀ q, eq = some q → ∃ f fd ps, FnOk F.P F.w F.K F.mg F.base F.CX q.1 f fd ps (spM F 2 q.2) ∧ PySem.W.findIn F.K (.ref Cl) "__eq__" = some (some (.ref f)) ∧ PySem.W.isFn F.K (.ref f) = true ∧ Binds F.K fd ps []
  | .con d => ∃ v u, F.mg x = some u ∧ RelV v u ∧ (∀ g Hs, Rep F.C g Hs d v)
  | .tab kvs => ∃ d es n, F.mg x = some (.ref d) ∧ KDict F.K F.w d es n ∧ ∀ z : Str, (match kvs.lookup z with
    | some y => ∃ f, F.mg y = some (.ref f) ∧ PySem.W.nsIn F.K d z = some (some (.ref f))
    | none => PySem.W.nsIn F.K d z = some none)
  | .blt => F.mg x = none
  | .clv => ∃ Cl, F.mg x = some (.ref Cl)
  | .exc flds => ∃ Cl fI fd, F.mg x = some (.ref Cl) ∧ OexE F.K Cl ∧ PySem.W.findIn F.K (.ref Cl) "__init__" = some (some (.ref fI)) ∧ PySem.W.typeIn F.K (.ref fI) = some (.type "function") ∧
    FnOk F.P F.w F.K F.mg F.base F.CX 1 fI fd (("self" : Str) :: flds) (spX F.K flds) ∧ Binds F.K fd (("self" : Str) :: flds) [] ∧ (∀ f ∈ flds, PySem.W.findIn F.K (.ref Cl) f = some none) ∧ flds.length ≤ 900
/-- a block of names: a def's, a comprehension's -/
structure Sx where
  N : List Str
  sc : Scope
  L : Nat
  vl : List Nat
  cl : List Nat
  ll : List Nat
  gl : List Nat
  kn : List Nat
  E : XK
  top : Bool := false
def visC (N : List Str) (sc : Scope) (vl : List Nat) : Bool := vl.all fun i => match N[i]? with
  | some x => !(x == ("__debug__" : Str)) && !(x == ("__classdict__" : Str)) && (match sc.names.lookup x with
    | some .local | some .cell | some .free => true
    | _ => false)
  | none => true
/-- a name that may be set -/
def locC (N : List Str) (sc : Scope) (cl ll : List Nat) : Bool := ll.all fun i => match N[i]? with
  | some x => (match sc.names.lookup x with
    | some .local => true
    | some .cell => cl.contains i
    | _ => false)
  | none => true
def glC (G : List Str) (sc : Scope) (gl : List Nat) : Bool := gl.all fun j => match G[j]? with
  | some p => !(p == ("__debug__" : Str)) && !(p == ("__name__" : Str)) && (match sc.names.lookup p with
    | some .globalImplicit => true
    | _ => false)
  | none => true
structure SC (F : Fx) (S : Sx) (X : Cx) : Prop where
  prog : X.prog = F.P
  w : X.w = F.w
  K : X.K = F.K
  mg : X.mg = F.mg
  base : X.base = F.base
  N : X.N = S.N
  nd : S.N.Nodup
  sc : X.env.scope = S.sc
  calm : X.calm = true
  room : Room S.L X.A
  pass : Passes F.CX X S.E
  tk : Takes X (fun cls d _ H => S.E cls d H)
  top : S.top = true → X.stack = X.env :: X.outer ∧ X.env.frame = some X.env.locals
  own : PassesOwn (model X.prog X.w) X.A X.env X.xe
  vis : visC S.N S.sc S.vl = true
  fnc : ∀ i x, S.cl.contains i = true → S.N[i]? = some x → X.fn x = true
  loc : locC S.N S.sc S.cl S.ll = true
  glc : glC (F.G.map (·.1)) S.sc S.gl = true
  kit : KitOk F
  ge : ∀ j x ge, S.gl.contains j = true → F.G[j]? = some (x, ge) → GEok F x ge
  ke : ∀ j x ge, S.kn.contains j = true → F.G[j]? = some (x, ge) → GEok F x ge
  cx : ∀ outer H s e s', ¬ F.CX outer H s E0 e s'
theorem peW {X : Cx} {e : Expr} {t t' : TE} (h : PE X e t) (i : ∀ σ H Q, t' σ H Q → t σ H Q) : PE X e t' := ⟨fun pins s σ H Q I q => h.run pins s σ H Q I (i σ H Q q)⟩
theorem ptW {X : Cx} {e : Expr} {t t' : TT} (h : PT X e t) (i : ∀ σ H Q, t' σ H Q → t σ H Q) : PT X e t' := ⟨fun pins s σ H Q I q => h.run pins s σ H Q I (i σ H Q q)⟩
theorem pwW {X : Cx} {e : Expr} {t t' : TT} (h : PW X e t) (i : ∀ σ H Q, t' σ H Q → t σ H Q) : PW X e t' := ⟨fun wh pins s σ H Q I q => h.run wh pins s σ H Q I (i σ H Q q)⟩
theorem paW {X : Cx} {es : List Expr} {t t' : TA} (h : PA X es t) (i : ∀ σ H Q, t' σ H Q → t σ H Q) : PA X es t' := ⟨fun p pins s σ H Q I q => h.run p pins s σ H Q I (i σ H Q q)⟩
theorem pssW {X : Cx} {sts : List Stmt} {t t' : TS} (h : PSs X sts t) (i : ∀ D σ H, t' D σ H → t D σ H) : PSs X sts t' := ⟨fun pins s σ H D I q => h.run pins s σ H D I (i D σ H q)⟩

/-! ### readings by values -/
/-- an expression gives a value that is told -/
def rd (F : Fx) (E : XK) (en : Ent) (ρ : DEnv) (m : T D) : TE := fun σ H Q => ∃ Hs τ, EnvOk F.C en Hs τ ρ σ H ∧ m.wp (fun d => ∀ v H' Hs', EnvOk F.C en Hs' τ ρ σ H' → Sub Hs Hs' → Rep F.C en.g Hs' d v → Q v H') (excP F E en)
/-- .. an operand -/
def rdO (F : Fx) (E : XK) (en : Ent) (ρ : DEnv) (m : T D) : TE := fun σ H Q => ∃ Hs τ, EnvOk F.C en Hs τ ρ σ H ∧ m.wp (fun d => ∀ v H' Hs', EnvOk F.C en Hs' τ ρ σ H' → Sub Hs Hs' → RepO F.C en Hs' ρ σ d v → Q v H') (excP F E en)
/-- .. a new list of one's own -/
def rdL (F : Fx) (E : XK) (en : Ent) (ρ : DEnv) (m : T (List D)) : TE := fun σ H Q => ∃ Hs τ, EnvOk F.C en Hs τ ρ σ H ∧ m.wp (fun ds => ∀ a H' Hs', EnvOk F.C en Hs' ((a, .lst ds) :: τ) ρ σ H' → Sub Hs Hs' → Q (.ref a) H') (excP F E en)
/-- .. a test -/
def rdT (F : Fx) (E : XK) (en : Ent) (ρ : DEnv) (m : T Bool) : TT := fun σ H Q => ∃ Hs τ, EnvOk F.C en Hs τ ρ σ H ∧ m.wp (fun b => ∀ H' Hs', EnvOk F.C en Hs' τ ρ σ H' → Sub Hs Hs' → Q b H') (excP F E en)
/-- .. operands -/
def rdA (F : Fx) (E : XK) (en : Ent) (ρ : DEnv) (m : T (List D)) : TA := fun σ H Q => ∃ Hs τ, EnvOk F.C en Hs τ ρ σ H ∧ m.wp (fun ds => ∀ vs H' Hs', EnvOk F.C en Hs' τ ρ σ H' → Sub Hs Hs' → Paired (RepO F.C en Hs' ρ σ) ds vs → Q vs H') (excP F E en)
/-- .. values that are told -/
def rdV (F : Fx) (E : XK) (en : Ent) (ρ : DEnv) (m : T (List D)) : TA := fun σ H Q => ∃ Hs τ, EnvOk F.C en Hs τ ρ σ H ∧ m.wp (fun ds => ∀ vs H' Hs', EnvOk F.C en Hs' τ ρ σ H' → Sub Hs Hs' → RepL F.C en.g Hs' ds vs → Q vs H') (excP F E en)

def Ev (F : Fx) (S : Sx) (ρ : DEnv) (e : Expr) (m : T D) : Prop := ∀ X, SC F S X → ∀ en, PE X e (rd F S.E en ρ m)
def EvO (F : Fx) (S : Sx) (ρ : DEnv) (e : Expr) (m : T D) : Prop := ∀ X, SC F S X → ∀ en, PE X e (rdO F S.E en ρ m)
def EvL (F : Fx) (S : Sx) (ρ : DEnv) (e : Expr) (m : T (List D)) : Prop := ∀ X, SC F S X → ∀ en, PE X e (rdL F S.E en ρ m)
def EvT (F : Fx) (S : Sx) (ρ : DEnv) (e : Expr) (m : T Bool) : Prop := ∀ X, SC F S X → ∀ en, PT X e (rdT F S.E en ρ m)
def EvW (F : Fx) (S : Sx) (ρ : DEnv) (e : Expr) (m : T Bool) : Prop := ∀ X, SC F S X → ∀ en, PW X e (rdT F S.E en ρ m)
def EvA (F : Fx) (S : Sx) (ρ : DEnv) (es : List Expr) (m : T (List D)) : Prop := ∀ X, SC F S X → ∀ en, PA X es (rdA F S.E en ρ m)
def EvV (F : Fx) (S : Sx) (ρ : DEnv) (es : List Expr) (m : T (List D)) : Prop := ∀ X, SC F S X → ∀ en, PA X es (rdV F S.E en ρ m)
section
variable {F : Fx} {S : Sx} {ρ : DEnv} {e a b : Expr} {m : T D}
theorem Ev.o (h : Ev F S ρ e m) : EvO F S ρ e m := fun X sc en => peW (h X sc en) fun σ H Q ⟨Hs, τ, e0, w⟩ => ⟨Hs, τ, e0, T.wp_mono w (fun d k v H' Hs' e1 s r => k v H' Hs' e1 s (.inl r)) fun _ _ k => k⟩
theorem EvL.v {ml : T (List D)} (h : EvL F S ρ e ml) : Ev F S ρ e (ml.bind fun ds => .ret (.lst ds)) := fun X sc en => peW (h X sc en) fun σ H Q ⟨Hs, τ, e0, w⟩ => ⟨Hs, τ, e0, T.wp_mono (T.wp_bind.mp w) (fun ds k a H' Hs' e1 s => by
  obtain ⟨vs, h1, e2, r, s2⟩ := e1.freeze
  exact k (.ref a) H' _ e2 (Sub.trans s s2) (.lst upd_same r)) fun _ _ k => k⟩
end
end MS

/-! Part 4: expressions by values. -/
namespace MS
open PySem PySem.Spec PyProof.Rows L2

section
variable {F : Fx} {S : Sx} {X : Cx}
theorem SC.visOk (c : SC F S X) {i : Nat} {x : Str} (hv : S.vl.contains i = true) (hi : S.N[i]? = some x) : Vis X.env.scope x ∧ (x == ("__debug__" : Str)) = false ∧ (x == ("__classdict__" : Str)) = false := by
  have h := c.vis
  unfold visC at h
  rw [List.all_eq_true] at h
  have h1 := h i (by simpa using hv)
  rw [hi] at h1
  simp only [Bool.and_eq_true, Bool.not_eq_true'] at h1
  obtain ⟨⟨h2, h3⟩, h4⟩ := h1
  refine ⟨?_, h2, h3⟩
  rw [c.sc]
  unfold Vis
  split at h4 <;> first | exact .inl (by assumption) | exact .inr (.inl (by assumption)) | exact .inr (.inr (by assumption)) | cases h4
theorem SC.glOk (c : SC F S X) {j : Nat} {x : Str} {ge : GE} (hv : S.gl.contains j = true) (hj : F.G[j]? = some (x, ge)) : Gl X x ∧ (x == ("__debug__" : Str)) = false ∧ x ≠ ("__name__" : Str) ∧ GEok F x ge := by
  have h := c.glc
  unfold glC at h
  rw [List.all_eq_true] at h
  have h1 := h j (by simpa using hv)
  rw [List.getElem?_map, hj] at h1
  simp only [Option.map_some] at h1
  simp only [Bool.and_eq_true, Bool.not_eq_true'] at h1
  obtain ⟨⟨h2, h3⟩, h4⟩ := h1
  refine ⟨?_, h2, by simpa using h3, c.ge j x ge hv hj⟩
  show X.env.kindOf x = some .globalImplicit
  unfold Env.kindOf
  rw [c.sc]
  split at h4 <;> first | assumption | cases h4
theorem SC.locOk (c : SC F S X) {i : Nat} {x : Str} (hv : S.ll.contains i = true) (hi : S.N[i]? = some x) : Loc X.env.scope x ∧ (X.fn x = true ∨ X.env.scope.names.lookup x = some .local) := by
  have h := c.loc
  unfold locC at h
  rw [List.all_eq_true] at h
  have h1 := h i (by simpa using hv)
  rw [hi] at h1
  simp only at h1
  rw [c.sc]
  split at h1
  · exact ⟨.inl (by assumption), .inr (by assumption)⟩
  · exact ⟨.inr (by assumption), .inl (c.fnc i x h1 hi)⟩
  · cases h1
theorem SC.hu (c : SC F S X) : X.A.units + 64 < cLine := c.room.units
end
def isStar : Expr → Bool
  | .Starred _ _ => true
  | _ => false
theorem star_cons {e : Expr} (h : isStar e = false) (es : List Expr) (env : Env) : starEach (e :: es) env = (false, eval e env) :: starEach es env := by
  cases e <;> first | rfl | cases h
theorem noStar : ∀ (es : List Expr), es.all (fun e => !isStar e) = true → ∀ (pos : Pos) (env : Env), (backTo pos (starEach es env)).any (·.1) = false
  | [], _, _, _ => rfl
  | e :: es, h, pos, env => by
    rw [List.all_cons, Bool.and_eq_true, Bool.not_eq_true'] at h
    rw [star_cons h.1]
    exact noStar es h.2 pos env

section
variable {F : Fx} {S : Sx} {ρ : DEnv} {e a b c : Expr} {es : List Expr} {pos pos' : Pos} {k : Nat}
/-! ### names, constants -/
theorem ev_loc (i : Nat) {x : Str} {d : D} (hρ : ρ[i]? = some (some (false, d)) := by rfl) (hi : S.N[i]? = some x := by rfl) (hv : S.vl.contains i = true := by rfl) : Ev F S ρ (.Name x pos) (.ret d) := fun X sc en => by
  obtain ⟨h1, h2, h3⟩ := sc.visOk hv hi
  refine peW (pe_var (i := i) (by rw [sc.N]; exact hi) h1 h2 h3) fun σ H Q ⟨Hs, τ, e0, w⟩ => ?_
  obtain ⟨v, q1, q2⟩ := e0.fro i d hρ
  exact ⟨v, q1, w v H Hs e0 (Sub.refl _) q2⟩
theorem ev_own (i : Nat) {x : Str} {d : D} (hρ : ρ[i]? = some (some (true, d)) := by rfl) (hi : S.N[i]? = some x := by rfl) (hv : S.vl.contains i = true := by rfl) : EvO F S ρ (.Name x pos) (.ret d) := fun X sc en => by
  obtain ⟨h1, h2, h3⟩ := sc.visOk hv hi
  refine peW (pe_var (i := i) (by rw [sc.N]; exact hi) h1 h2 h3) fun σ H Q ⟨Hs, τ, e0, w⟩ => ?_
  obtain ⟨v, q1, q2⟩ := e0.own i d hρ
  exact ⟨_, q1, w _ H Hs e0 (Sub.refl _) (.inr ⟨i, hρ, q1⟩)⟩
theorem ev_int {i : Int} : Ev F S ρ (.Constant (.int i) k pos) (.ret (.int i)) := fun X sc en => peW pe_int fun σ H Q ⟨Hs, τ, e0, w⟩ => w _ H Hs e0 (Sub.refl _) (.int i)
theorem ev_bool {i : Bool} : Ev F S ρ (.Constant (.bool i) k pos) (.ret (.bl i)) := fun X sc en => peW pe_bl fun σ H Q ⟨Hs, τ, e0, w⟩ => w _ H Hs e0 (Sub.refl _) (.bl i)
theorem ev_none : Ev F S ρ (.Constant .none k pos) (.ret .non) := fun X sc en => peW pe_non fun σ H Q ⟨Hs, τ, e0, w⟩ => w _ H Hs e0 (Sub.refl _) .non
theorem ev_str {i : Str} : Ev F S ρ (.Constant (.str i) k pos) (.ret (.str i)) := fun X sc en => peW pe_str fun σ H Q ⟨Hs, τ, e0, w⟩ => w _ H Hs e0 (Sub.refl _) (.str i)
/-- a constant of the module -/
theorem ev_con (j : Nat) {x : Str} {d : D} (hj : F.G[j]? = some (x, .con d) := by rfl) (hv : S.gl.contains j = true := by rfl) : Ev F S ρ (.Name x pos) (.ret d) := fun X sc en => by
  obtain ⟨h1, h2, h3, v, u, q1, q2, q3⟩ := sc.glOk hv hj
  refine peW (pe_glob h1 (by rw [sc.mg]; exact q1) q2 h2) fun σ H Q ⟨Hs, τ, e0, w⟩ => w v H Hs e0 (Sub.refl _) (q3 en.g Hs)
/-- a def of the module as a value -/
theorem ev_fnv (j : Nat) {x : Str} {lev : Nat} {ps : List Str} {m : List D → T D} {kw : List (List Str × List Nat)} (hj : F.G[j]? = some (x, .fn lev ps m kw) := by rfl) (hv : S.gl.contains j = true := by rfl) : Ev F S ρ (.Name x pos) (.ret (.fn x)) := fun X sc en => by
  obtain ⟨h1, h2, h3, _, f, fd, q1, _⟩ := sc.glOk hv hj
  refine peW (pe_glob (v := .ref f) h1 (by rw [sc.mg]; exact q1) rfl h2) fun σ H Q ⟨Hs, τ, e0, w⟩ => w _ H Hs e0 (Sub.refl _) (.fn q1)

/-! ### lists of operands -/
theorem eva_nil : EvA F S ρ [] (.ret []) := fun X sc en => paW pa_nil fun σ H Q ⟨Hs, τ, e0, w⟩ => w [] H Hs e0 (Sub.refl _) .nil
theorem eva_cons {m : T D} {ms : T (List D)} (h1 : EvO F S ρ e m) (h2 : EvA F S ρ es ms) (hs : isStar e = false := by rfl) : EvA F S ρ (e :: es) (m.bind fun d => ms.bind fun ds => .ret (d :: ds)) := fun X sc en =>
  paW (pa_cons (h1 X sc en) (h2 X sc en) (star_cons hs es _)) fun σ H Q ⟨Hs, τ, e0, w⟩ => ⟨Hs, τ, e0, T.wp_mono (T.wp_bind.mp w) (fun d w1 v H1 Hs1 e1 s1 r1 => ⟨Hs1, τ, e1, T.wp_mono (T.wp_bind.mp w1) (fun ds w2 vs H2 Hs2 e2 s2 r2 =>
    w2 (v :: vs) H2 Hs2 e2 (Sub.trans s1 s2) (.cons (r1.sub s2) r2)) fun _ _ k => k⟩) fun _ _ k => k⟩
theorem evv_nil : EvV F S ρ [] (.ret []) := fun X sc en => paW pa_nil fun σ H Q ⟨Hs, τ, e0, w⟩ => w [] H Hs e0 (Sub.refl _) .nil
theorem evv_cons {m : T D} {ms : T (List D)} (h1 : Ev F S ρ e m) (h2 : EvV F S ρ es ms) (hs : isStar e = false := by rfl) : EvV F S ρ (e :: es) (m.bind fun d => ms.bind fun ds => .ret (d :: ds)) := fun X sc en =>
  paW (pa_cons (h1 X sc en) (h2 X sc en) (star_cons hs es _)) fun σ H Q ⟨Hs, τ, e0, w⟩ => ⟨Hs, τ, e0, T.wp_mono (T.wp_bind.mp w) (fun d w1 v H1 Hs1 e1 s1 r1 => ⟨Hs1, τ, e1, T.wp_mono (T.wp_bind.mp w1) (fun ds w2 vs H2 Hs2 e2 s2 r2 =>
    w2 (v :: vs) H2 Hs2 e2 (Sub.trans s1 s2) (.cons (r1.sub s2) r2)) fun _ _ k => k⟩) fun _ _ k => k⟩
/-! ### displays -/
def tupM (ds : List D) : T D := if ds.length ≤ sizeLine then .ret (.tup ds) else .stuck
theorem ev_tup {ms : T (List D)} (h : EvV F S ρ es ms) : Ev F S ρ (.Tuple es k pos) (ms.bind tupM) := fun X sc en => peW (pe_tup (h X sc en)) fun σ H Q ⟨Hs, τ, e0, w⟩ => ⟨Hs, τ, e0, T.wp_mono (T.wp_bind.mp w) (fun ds w1 vs H1 Hs1 e1 s1 r1 => by
  unfold tupM at w1
  split at w1
  · rename_i hz
    exact ⟨by rw [← r1.length]; exact hz, fun p hp => w1 (.ref p) _ _ (e1.alloc hp (.tup vs)) (Sub.trans s1 (sub_upd (e1.wd.none_in hp).1)) (.tup (.inl upd_same) (r1.sub (sub_upd (e1.wd.none_in hp).1)))⟩
  · exact w1.elim) fun _ _ k => k⟩
def lstM (ds : List D) : T (List D) := if ds.length ≤ sizeLine then .ret ds else .stuck
theorem ev_lst {ms : T (List D)} (h : EvV F S ρ es ms) : EvL F S ρ (.List es pos) (ms.bind lstM) := fun X sc en => peW (pe_lst (h X sc en)) fun σ H Q ⟨Hs, τ, e0, w⟩ => ⟨Hs, τ, e0, T.wp_mono (T.wp_bind.mp w) (fun ds w1 vs H1 Hs1 e1 s1 r1 => by
  unfold lstM at w1
  split at w1
  · rename_i hz
    exact ⟨by rw [← r1.length]; exact hz, fun p hp => w1 p _ _ (e1.allocT hp r1) s1⟩
  · exact w1.elim) fun _ _ k => k⟩

/-! ### operators -/
/-- an operator's rule by values -/
def OpD (F : Fx) (S : Sx) (f : Value → Value → Sem Value) (g : D → D → T D) : Prop := ∀ X, SC F S X → OpR X f (fun x y H Q => ∃ en Hs τ ρ σ dx dy, EnvOk F.C en Hs τ ρ σ H ∧ RepO F.C en Hs ρ σ dx x ∧ RepO F.C en Hs ρ σ dy y ∧
  (g dx dy).wp (fun d => ∀ v H' Hs', EnvOk F.C en Hs' τ ρ σ H' → Sub Hs Hs' → Rep F.C en.g Hs' d v → Q v H') (excP F S.E en))
theorem OpD.ev {op : Operator} {g : D → D → T D} {ma mb : T D} (ho : OpD F S (binaryOp op) g) (ha : EvO F S ρ a ma) (hb : EvO F S ρ b mb) : Ev F S ρ (.BinOp a op b pos) (ma.bind fun x => mb.bind fun y => g x y) := fun X sc en =>
  peW (pe_op (ho X sc) (ha X sc en) (hb X sc en)) fun σ H Q ⟨Hs, τ, e0, w⟩ => ⟨Hs, τ, e0, T.wp_mono (T.wp_bind.mp w) (fun d w1 v H1 Hs1 e1 s1 r1 => ⟨Hs1, τ, e1, T.wp_mono (T.wp_bind.mp w1) (fun d2 w2 v2 H2 Hs2 e2 s2 r2 =>
    ⟨en, Hs2, τ, ρ, σ, d, d2, e2, r1.sub s2, r2, T.wp_mono w2 (fun d3 w3 v3 H3 Hs3 e3 s3 r3 => w3 v3 H3 Hs3 e3 (Sub.trans (Sub.trans s1 s2) s3) r3) fun _ _ k => k⟩) fun _ _ k => k⟩) fun _ _ k => k⟩
theorem OpD.cmp {op : CmpOp} {g : D → D → T D} {ma mb : T D} (ho : OpD F S (compareOp op) g) (ha : EvO F S ρ a ma) (hb : EvO F S ρ b mb) (hm : behindInMarks op b = false) : Ev F S ρ (.Compare a [op] [b] pos) (ma.bind fun x => mb.bind fun y => g x y) := fun X sc en =>
  peW (pe_cmpR (ho X sc) (ha X sc en) (hb X sc en) hm) fun σ H Q ⟨Hs, τ, e0, w⟩ => ⟨Hs, τ, e0, T.wp_mono (T.wp_bind.mp w) (fun d w1 v H1 Hs1 e1 s1 r1 => ⟨Hs1, τ, e1, T.wp_mono (T.wp_bind.mp w1) (fun d2 w2 v2 H2 Hs2 e2 s2 r2 =>
    ⟨en, Hs2, τ, ρ, σ, d, d2, e2, r1.sub s2, r2, T.wp_mono w2 (fun d3 w3 v3 H3 Hs3 e3 s3 r3 => w3 v3 H3 Hs3 e3 (Sub.trans (Sub.trans s1 s2) s3) r3) fun _ _ k => k⟩) fun _ _ k => k⟩) fun _ _ k => k⟩
/-- a comparison as a test -/
theorem OpD.tst {op : CmpOp} {g : D → D → T D} {ma mb : T D} (ho : OpD F S (compareOp op) g) (ha : EvO F S ρ a ma) (hb : EvO F S ρ b mb) (hm : behindInMarks op b = false) : EvT F S ρ (.Compare a [op] [b] pos) (ma.bind fun x => mb.bind fun y => (g x y).bind asBool) := fun X sc en =>
  ptW (pt_cmpR (ho X sc) (ha X sc en) (hb X sc en) hm) fun σ H Q ⟨Hs, τ, e0, w⟩ => ⟨Hs, τ, e0, T.wp_mono (T.wp_bind.mp w) (fun d w1 v H1 Hs1 e1 s1 r1 => ⟨Hs1, τ, e1, T.wp_mono (T.wp_bind.mp w1) (fun d2 w2 v2 H2 Hs2 e2 s2 r2 =>
    ⟨en, Hs2, τ, ρ, σ, d, d2, e2, r1.sub s2, r2, T.wp_mono (T.wp_bind.mp w2) (fun d3 w3 v3 H3 Hs3 e3 s3 r3 => by
      cases d3 with
      | bl bb => cases r3; exact ⟨bb, rfl, w3 H3 Hs3 e3 (Sub.trans (Sub.trans s1 s2) s3)⟩
      | _ => exact w3.elim) fun _ _ k => k⟩) fun _ _ k => k⟩) fun _ _ k => k⟩

theorem opd_add : OpD F S (binaryOp .Add) addD := fun X sc pins s σ H x y v u Q I rx ry ⟨en, Hs, τ, ρ, σ', dx, dy, e0, r1, r2, w⟩ => by
  cases dx <;> cases dy <;> first | exact w.elim | skip
  · rename_i i j
    cases r1.told e0 (fun _ z => nomatch z)
    cases r2.told e0 (fun _ z => nomatch z)
    exact op_add pins s σ H _ _ v u Q I rx ry ⟨i, j, rfl, rfl, w _ H Hs e0 (Sub.refl _) (.int _)⟩
  · rename_i i j
    cases r1.told e0 (fun _ z => nomatch z)
    cases r2.told e0 (fun _ z => nomatch z)
    unfold addD at w
    simp only at w
    split at w
    · exact op_add_str pins s σ H _ _ v u Q I rx ry ⟨i, j, rfl, rfl, by assumption, w _ H Hs e0 (Sub.refl _) (.str _)⟩
    · exact w.elim
  · rename_i l m
    obtain ⟨p, xs, rfl, h1, q1⟩ := r1.tup e0
    obtain ⟨q, ys, rfl, h2, q2⟩ := r2.tup e0
    unfold addD at w
    simp only at w
    split at w
    · rename_i hz
      refine op_catA pins s σ H _ _ v u Q I rx ry ⟨p, q, xs, ys, rfl, rfl, by rw [sc.K]; exact h1, by rw [sc.K]; exact h2, by rw [← q1.length, ← q2.length]; exact hz, fun e => ?_, fun ne e => ?_, fun _ _ t ht => ?_⟩
      · subst e
        cases q1
        have r2' := r2.told e0 (fun _ z => nomatch z)
        exact w (.ref q) H Hs e0 (Sub.refl _) r2'
      · subst e
        cases q2
        have r1' := r1.told e0 (fun _ z => nomatch z)
        exact w (.ref p) H Hs e0 (Sub.refl _) (by rw [List.append_nil]; exact r1')
      · have s' : Sub Hs (upd Hs t (.tup (xs ++ ys))) := sub_upd (e0.wd.none_in ht).1
        exact w (.ref t) _ _ (e0.alloc ht _) s' (.tup (.inl upd_same) ((q1.append q2).sub s'))
    · exact w.elim
  · rename_i l m
    obtain ⟨p, xs, rfl, h1, q1⟩ := r1.list e0
    obtain ⟨q, ys, rfl, h2, q2⟩ := r2.list e0
    unfold addD at w
    simp only at w
    split at w
    · rename_i hz
      refine op_cat pins s σ H _ _ v u Q I rx ry ⟨p, q, xs, ys, rfl, rfl, h1, h2, by rw [← q1.length, ← q2.length]; exact hz, fun t ht => ?_⟩
      have s' : Sub Hs (upd Hs t (.lst (xs ++ ys))) := sub_upd (e0.wd.none_in ht).1
      exact w (.ref t) _ _ (e0.alloc ht _) s' (.lst upd_same ((q1.append q2).sub s'))
    · exact w.elim
theorem opd_sub : OpD F S (binaryOp .Sub) subD := fun X sc pins s σ H x y v u Q I rx ry ⟨en, Hs, τ, ρ, σ', dx, dy, e0, r1, r2, w⟩ => by
  cases dx <;> cases dy <;> first | exact w.elim | skip
  rename_i i j
  cases r1.told e0 (fun _ z => nomatch z)
  cases r2.told e0 (fun _ z => nomatch z)
  exact op_sub pins s σ H _ _ v u Q I rx ry ⟨i, j, rfl, rfl, w _ H Hs e0 (Sub.refl _) (.int _)⟩
theorem rep_flat {C : Ct} {g : Gh} {H : Hp} {ds : List D} {vs : List V} (r : RepL C g H ds vs) : ∀ n, RepL C g H (List.replicate n ds).flatten (List.replicate n vs).flatten
  | 0 => .nil
  | n + 1 => by
    rw [List.replicate_succ, List.replicate_succ, List.flatten_cons, List.flatten_cons]
    exact r.append (rep_flat r n)
theorem opd_mul : OpD F S (binaryOp .Mult) mulD := fun X sc pins s σ H x y v u Q I rx ry ⟨en, Hs, τ, ρ, σ', dx, dy, e0, r1, r2, w⟩ => by
  cases dx <;> cases dy <;> first | exact w.elim | skip
  · rename_i i j
    cases r1.told e0 (fun _ z => nomatch z)
    cases r2.told e0 (fun _ z => nomatch z)
    unfold mulD at w
    simp only at w
    split at w
    · exact op_mulW pins s σ H _ _ v u Q I rx ry ⟨i, j, rfl, rfl, by assumption, w _ H Hs e0 (Sub.refl _) (.int _)⟩
    · exact w.elim
  · rename_i l n
    obtain ⟨p, xs, rfl, h1, q1⟩ := r1.tup e0
    cases r2.told e0 (fun _ z => nomatch z)
    unfold mulD at w
    simp only at w
    split at w
    · rename_i hz
      obtain ⟨z1, z2, z3, z4⟩ := hz
      refine op_repT pins s σ H _ _ v u Q I rx ry ⟨p, n, xs, rfl, rfl, by rw [sc.K]; exact h1, fun e => z1 (by subst e; cases q1; rfl), z2, z3, by rw [← q1.length]; exact z4, fun t ht => ?_⟩
      have s' : Sub Hs (upd Hs t (.tup (List.replicate n.toNat xs).flatten)) := sub_upd (e0.wd.none_in ht).1
      exact w (.ref t) _ _ (e0.alloc ht _) s' (.tup (.inl upd_same) ((rep_flat q1 _).sub s'))
    · exact w.elim
  · rename_i l n
    obtain ⟨p, xs, rfl, h1, q1⟩ := r1.list e0
    cases r2.told e0 (fun _ z => nomatch z)
    unfold mulD at w
    simp only at w
    split at w
    · rename_i hz
      obtain ⟨z1, z2, z3⟩ := hz
      refine op_rep pins s σ H _ _ v u Q I rx ry ⟨p, n, xs, rfl, rfl, h1, z1, z2, by rw [← q1.length]; exact z3, fun t ht => ?_⟩
      have s' : Sub Hs (upd Hs t (.lst (List.replicate n.toNat xs).flatten)) := sub_upd (e0.wd.none_in ht).1
      exact w (.ref t) _ _ (e0.alloc ht _) s' (.lst upd_same ((rep_flat q1 _).sub s'))
    · exact w.elim
theorem opd_fdiv : OpD F S (binaryOp .FloorDiv) fdivD := fun X sc pins s σ H x y v u Q I rx ry ⟨en, Hs, τ, ρ, σ', dx, dy, e0, r1, r2, w⟩ => by
  cases dx <;> cases dy <;> first | exact w.elim | skip
  rename_i i j
  cases r1.told e0 (fun _ z => nomatch z)
  cases r2.told e0 (fun _ z => nomatch z)
  unfold fdivD at w
  simp only at w
  split at w
  · exact op_fdivW pins s σ H _ _ v u Q I rx ry ⟨i, j, rfl, rfl, by assumption, w _ H Hs e0 (Sub.refl _) (.int _)⟩
  · exact w.elim
theorem opd_mod : OpD F S (binaryOp .Mod) modD := fun X sc pins s σ H x y v u Q I rx ry ⟨en, Hs, τ, ρ, σ', dx, dy, e0, r1, r2, w⟩ => by
  cases dx <;> cases dy <;> first | exact w.elim | skip
  rename_i i j
  cases r1.told e0 (fun _ z => nomatch z)
  cases r2.told e0 (fun _ z => nomatch z)
  unfold modD at w
  simp only at w
  split at w
  · exact op_mod pins s σ H _ _ v u Q I rx ry ⟨i, j, rfl, rfl, by assumption, w _ H Hs e0 (Sub.refl _) (.int _)⟩
  · exact w.elim
theorem ev_add {ma mb : T D} (ha : EvO F S ρ a ma) (hb : EvO F S ρ b mb) : Ev F S ρ (.BinOp a .Add b pos) (ma.bind fun x => mb.bind fun y => addD x y) := opd_add.ev ha hb
theorem ev_sub {ma mb : T D} (ha : EvO F S ρ a ma) (hb : EvO F S ρ b mb) : Ev F S ρ (.BinOp a .Sub b pos) (ma.bind fun x => mb.bind fun y => subD x y) := opd_sub.ev ha hb
theorem ev_mul {ma mb : T D} (ha : EvO F S ρ a ma) (hb : EvO F S ρ b mb) : Ev F S ρ (.BinOp a .Mult b pos) (ma.bind fun x => mb.bind fun y => mulD x y) := opd_mul.ev ha hb
theorem ev_fdiv {ma mb : T D} (ha : EvO F S ρ a ma) (hb : EvO F S ρ b mb) : Ev F S ρ (.BinOp a .FloorDiv b pos) (ma.bind fun x => mb.bind fun y => fdivD x y) := opd_fdiv.ev ha hb
theorem ev_mod {ma mb : T D} (ha : EvO F S ρ a ma) (hb : EvO F S ρ b mb) : Ev F S ρ (.BinOp a .Mod b pos) (ma.bind fun x => mb.bind fun y => modD x y) := opd_mod.ev ha hb
theorem ev_neg {ma : T D} (ha : Ev F S ρ a ma) : Ev F S ρ (.UnaryOp .USub a pos) (ma.bind negD) := fun X sc en =>
  peW (pe_un un_neg (ha X sc en)) fun σ H Q ⟨Hs, τ, e0, w⟩ => ⟨Hs, τ, e0, T.wp_mono (T.wp_bind.mp w) (fun d w1 v H1 Hs1 e1 s1 r1 => by
    cases d with
    | int i => cases r1; exact ⟨i, rfl, w1 _ H1 Hs1 e1 s1 (.int _)⟩
    | _ => exact w1.elim) fun _ _ k => k⟩

/-! ### comparisons -/
theorem opd_ord {op : CmpOp} {p : Int → Int → Bool} (ho : ∀ X : Cx, OpR X (compareOp op) (rI0 fun i j => .bl (p i j))) : OpD F S (compareOp op) (ordOp p) := fun X sc pins s σ H x y v u Q I rx ry ⟨en, Hs, τ, ρ, σ', dx, dy, e0, r1, r2, w⟩ => by
  cases dx <;> cases dy <;> first | exact w.elim | skip
  rename_i i j
  cases r1.told e0 (fun _ z => nomatch z)
  cases r2.told e0 (fun _ z => nomatch z)
  exact ho X pins s σ H _ _ v u Q I rx ry ⟨i, j, rfl, rfl, w _ H Hs e0 (Sub.refl _) (.bl _)⟩
theorem opd_lt : OpD F S (compareOp .Lt) (ordOp fun i j => decide (i < j)) := opd_ord fun _ => op_lt
theorem opd_le : OpD F S (compareOp .LtE) (ordOp fun i j => decide (i ≤ j)) := opd_ord fun _ => op_le
theorem opd_gt : OpD F S (compareOp .Gt) (ordOp fun i j => decide (j < i)) := opd_ord fun _ => op_gt
theorem opd_ge : OpD F S (compareOp .GtE) (ordOp fun i j => decide (j ≤ i)) := opd_ord fun _ => op_ge
/-- data compared -/
def eqM (x y : D) : T D := if okD x && okD y then .ret (.bl (eqD x y)) else .stuck
def neM (x y : D) : T D := if okD x && okD y then .ret (.bl (!eqD x y)) else .stuck
theorem okD_iff {d : D} (h : okD d = true) : isData d = true ∧ SeqAt.shaped (toP d) = true := by
  unfold okD at h
  rwa [Bool.and_eq_true] at h
theorem opd_eq : OpD F S (compareOp .Eq) eqM := fun X sc pins s σ H x y v u Q I rx ry ⟨en, Hs, τ, ρ, σ', dx, dy, e0, r1, r2, w⟩ => by
  unfold eqM at w
  split at w
  · rename_i h
    rw [Bool.and_eq_true] at h
    obtain ⟨a1, a2⟩ := okD_iff h.1
    obtain ⟨b1, b2⟩ := okD_iff h.2
    exact op_eqD sc.hu pins s σ H _ _ v u Q I rx ry ⟨toP dx, toP dy, by rw [sc.K]; exact Rep.dp dx (r1.now e0) a1, by rw [sc.K]; exact Rep.dp dy (r2.now e0) b1, a2, b2, w _ H Hs e0 (Sub.refl _) (.bl _)⟩
  · exact w.elim
theorem opd_ne : OpD F S (compareOp .NotEq) neM := fun X sc pins s σ H x y v u Q I rx ry ⟨en, Hs, τ, ρ, σ', dx, dy, e0, r1, r2, w⟩ => by
  unfold neM at w
  split at w
  · rename_i h
    rw [Bool.and_eq_true] at h
    obtain ⟨a1, a2⟩ := okD_iff h.1
    obtain ⟨b1, b2⟩ := okD_iff h.2
    exact op_neD sc.hu pins s σ H _ _ v u Q I rx ry ⟨toP dx, toP dy, by rw [sc.K]; exact Rep.dp dx (r1.now e0) a1, by rw [sc.K]; exact Rep.dp dy (r2.now e0) b1, a2, b2, w _ H Hs e0 (Sub.refl _) (.bl _)⟩
  · exact w.elim
end
end MS

/-! Part 5: identity, membership, tests, attributes, subscripts. -/
namespace MS
open PySem PySem.Spec PyProof.Rows L2
section
variable {F : Fx} {S : Sx} {ρ : DEnv} {e a b c o : Expr} {es rest : List Expr} {pos pos' : Pos} {k : Nat} {f : Str}
/-! ### is None, is True -/
def isNone : D → Bool
  | .non => true
  | _ => false
theorem isNone_rep {C : Ct} {g : Gh} {H : Hp} {d : D} {v : V} (r : Rep C g H d v) : decide (v = .non) = isNone d := by
  cases r <;> first | rfl | exact decide_eq_false (fun z => nomatch z)
def isBlD (b : Bool) : D → Bool
  | .bl a => decide (a = b)
  | _ => false
theorem isBl_rep {C : Ct} {g : Gh} {H : Hp} {d : D} {v : V} {b : Bool} (r : Rep C g H d v) : decide (v = .bl b) = isBlD b d := by
  cases r <;> first | exact decide_eq_false (fun z => nomatch z) | (show decide (V.bl _ = V.bl b) = decide (_ = b); simp)
def isNM (x y : D) : T D := match y with
  | .non => .ret (.bl (isNone x))
  | .bl b => .ret (.bl (isBlD b x))
  | _ => .stuck
def notNM (x y : D) : T D := match y with
  | .non => .ret (.bl (!isNone x))
  | .bl b => .ret (.bl (!isBlD b x))
  | _ => .stuck
theorem is_bool_gen {M : Model} {A : Around} {E : Value → Shared → Prop} {s : Shared} {Q : Value → Shared → Prop} {v : Value} {b : Bool} (hb : ∀ i, v ≠ .builtin i) (h : Q (.bool (v == .bool b)) s) : wpAny M A (compareOp .Is v (.bool b)) Q E s := by
  cases v <;> first | exact absurd rfl (hb _) | exact wpAny_pure h
theorem isnot_bool_gen {M : Model} {A : Around} {E : Value → Shared → Prop} {s : Shared} {Q : Value → Shared → Prop} {v : Value} {b : Bool} (hb : ∀ i, v ≠ .builtin i) (h : Q (.bool (!(v == .bool b))) s) : wpAny M A (compareOp .IsNot v (.bool b)) Q E s := by
  cases v <;> first | exact absurd rfl (hb _) | exact wpAny_pure h
theorem rel_nob {x : V} {v : Value} (r : RelV x v) : ∀ i, v ≠ .builtin i := by
  intro i z
  subst z
  cases x <;> first | (obtain ⟨t, q⟩ := r; cases q; done) | (cases r; done)
theorem rel_bool {x : V} {v : Value} {b : Bool} (r : RelV x v) : (v == Value.bool b) = decide (x = .bl b) := by
  cases x <;> first
    | (obtain ⟨t, rfl⟩ := r; simp; done)
    | (cases r; simp; done)
    | (rename_i c; cases r; cases b <;> cases c <;> decide)
theorem op_isB {X : Cx} : OpR X (compareOp .Is) (fun x y H Q => ∃ b, y = .bl b ∧ Q (.bl (decide (x = .bl b))) H) := by
  intro pins s σ H x y v u Q I rx ry h
  obtain ⟨b, rfl, q⟩ := h
  cases ry
  exact is_bool_gen (rel_nob rx) (fin_bl I q (by rw [rel_bool rx]))
theorem op_notB {X : Cx} : OpR X (compareOp .IsNot) (fun x y H Q => ∃ b, y = .bl b ∧ Q (.bl (!decide (x = .bl b))) H) := by
  intro pins s σ H x y v u Q I rx ry h
  obtain ⟨b, rfl, q⟩ := h
  cases ry
  exact isnot_bool_gen (rel_nob rx) (fin_bl I q (by rw [rel_bool rx]))
theorem RepO.nowV {C : Ct} {en : Ent} {Hs H : Hp} {τ : List (Addr × D)} {ρ : DEnv} {σ : L2.St} {d : D} {v : V} (r : RepO C en Hs ρ σ d v) (e : EnvOk C en Hs τ ρ σ H) : Rep C en.g H d v := r.now e
theorem opd_is : OpD F S (compareOp .Is) isNM := fun X sc pins s σ H x y v u Q I rx ry ⟨en, Hs, τ, ρ, σ', dx, dy, e0, r1, r2, w⟩ => by
  unfold isNM at w
  split at w
  · cases r2.told e0 (fun _ z => nomatch z)
    exact op_isN pins s σ H _ _ v u Q I rx ry ⟨rfl, by rw [isNone_rep (r1.now e0)]; exact w _ H Hs e0 (Sub.refl _) (.bl _)⟩
  · cases r2.told e0 (fun _ z => nomatch z)
    exact op_isB pins s σ H _ _ v u Q I rx ry ⟨_, rfl, by rw [isBl_rep (r1.now e0)]; exact w _ H Hs e0 (Sub.refl _) (.bl _)⟩
  · exact w.elim
theorem opd_isnot : OpD F S (compareOp .IsNot) notNM := fun X sc pins s σ H x y v u Q I rx ry ⟨en, Hs, τ, ρ, σ', dx, dy, e0, r1, r2, w⟩ => by
  unfold notNM at w
  split at w
  · cases r2.told e0 (fun _ z => nomatch z)
    exact op_notN pins s σ H _ _ v u Q I rx ry ⟨rfl, by rw [isNone_rep (r1.now e0)]; exact w _ H Hs e0 (Sub.refl _) (.bl _)⟩
  · cases r2.told e0 (fun _ z => nomatch z)
    exact op_notB pins s σ H _ _ v u Q I rx ry ⟨_, rfl, by rw [isBl_rep (r1.now e0)]; exact w _ H Hs e0 (Sub.refl _) (.bl _)⟩
  · exact w.elim
/-! ### in, not in: data -/
def inM (x y : D) : T D := match y with
  | .tup l => if okD x && okD (.tup l) then .ret (.bl (l.any fun z => eqD z x)) else .stuck
  | .lst l => if okD x && okD (.lst l) then .ret (.bl (l.any fun z => eqD z x)) else .stuck
  | _ => .stuck
def notInM (x y : D) : T D := match y with
  | .tup l => if okD x && okD (.tup l) then .ret (.bl (!(l.any fun z => eqD z x))) else .stuck
  | .lst l => if okD x && okD (.lst l) then .ret (.bl (!(l.any fun z => eqD z x))) else .stuck
  | _ => .stuck
theorem any_toPs (x : D) : ∀ l : List D, (toPs l).any (fun z => PyData.eqv z (toP x)) = l.any fun z => eqD z x
  | [] => rfl
  | d :: ds => by
    show (PyData.eqv (toP d) (toP x) || (toPs ds).any _) = (eqD d x || ds.any _)
    rw [any_toPs x ds]
    rfl
theorem shaped_depth {ds : List PyData} (h : SeqAt.shaped (.tuple ds) = true) : SeqAt.shaped (.list ds) = true := h
theorem opd_in : OpD F S (compareOp .In) inM := fun X sc pins s σ H x y v u Q I rx ry ⟨en, Hs, τ, ρ, σ', dx, dy, e0, r1, r2, w⟩ => by
  have hu : X.A.units + 65 < cLine := by have := sc.room.un; omega
  unfold inM at w
  split at w
  · split at w
    · rename_i l h
      rw [Bool.and_eq_true] at h
      obtain ⟨a1, a2⟩ := okD_iff h.1
      obtain ⟨b1, b2⟩ := okD_iff h.2
      obtain ⟨as, q1⟩ := Dp.reads I (toP dx) x v (by rw [sc.K]; exact Rep.dp dx (r1.now e0) a1) rx
      obtain ⟨bs, q2⟩ := Dp.reads I (toP (.tup l)) y u (by rw [sc.K]; exact Rep.dp (.tup l) (r2.now e0) b1) ry
      exact SeqAt.in_tuple_reads q2 q1 (SeqAt.canLay_of_shaped (shaped_depth b2)) (SeqAt.canLay_of_shaped a2) (room_in_shaped a2 hu) ⟨.bl _, H, I, rfl, by rw [any_toPs]; exact w _ H Hs e0 (Sub.refl _) (.bl _)⟩
    · exact w.elim
  · split at w
    · rename_i l h
      rw [Bool.and_eq_true] at h
      obtain ⟨a1, a2⟩ := okD_iff h.1
      obtain ⟨b1, b2⟩ := okD_iff h.2
      exact op_inD hu pins s σ H x y v u Q I rx ry ⟨toP dx, toPs l, by rw [sc.K]; exact Rep.dp dx (r1.now e0) a1, by rw [sc.K]; exact Rep.dp (.lst l) (r2.now e0) b1, a2, b2, by rw [any_toPs]; exact w _ H Hs e0 (Sub.refl _) (.bl _)⟩
    · exact w.elim
  · exact w.elim
theorem opd_notIn : OpD F S (compareOp .NotIn) notInM := fun X sc pins s σ H x y v u Q I rx ry ⟨en, Hs, τ, ρ, σ', dx, dy, e0, r1, r2, w⟩ => by
  have hu : X.A.units + 65 < cLine := by have := sc.room.un; omega
  unfold notInM at w
  split at w
  · split at w
    · rename_i l h
      rw [Bool.and_eq_true] at h
      obtain ⟨a1, a2⟩ := okD_iff h.1
      obtain ⟨b1, b2⟩ := okD_iff h.2
      obtain ⟨as, q1⟩ := Dp.reads I (toP dx) x v (by rw [sc.K]; exact Rep.dp dx (r1.now e0) a1) rx
      obtain ⟨bs, q2⟩ := Dp.reads I (toP (.tup l)) y u (by rw [sc.K]; exact Rep.dp (.tup l) (r2.now e0) b1) ry
      exact SeqAt.notIn_tuple_reads q2 q1 (SeqAt.canLay_of_shaped (shaped_depth b2)) (SeqAt.canLay_of_shaped a2) (room_in_shaped a2 hu) ⟨.bl _, H, I, rfl, by rw [any_toPs]; exact w _ H Hs e0 (Sub.refl _) (.bl _)⟩
    · exact w.elim
  · split at w
    · rename_i l h
      rw [Bool.and_eq_true] at h
      obtain ⟨a1, a2⟩ := okD_iff h.1
      obtain ⟨b1, b2⟩ := okD_iff h.2
      exact op_notInD hu pins s σ H x y v u Q I rx ry ⟨toP dx, toPs l, by rw [sc.K]; exact Rep.dp dx (r1.now e0) a1, by rw [sc.K]; exact Rep.dp (.lst l) (r2.now e0) b1, a2, b2, by rw [any_toPs]; exact w _ H Hs e0 (Sub.refl _) (.bl _)⟩
    · exact w.elim
  · exact w.elim
/-! ### the comparisons, as values and as tests -/
def isSet : Expr → Bool
  | .Set _ _ _ => true
  | _ => false
theorem noBehind {op : CmpOp} (h : isSet b = false) : behindInMarks op b = false := by
  cases b <;> first | rfl | cases h
def cmpM : CmpOp → D → D → T D
  | .Eq => eqM
  | .NotEq => neM
  | .Lt => ordOp fun i j => decide (i < j)
  | .LtE => ordOp fun i j => decide (i ≤ j)
  | .Gt => ordOp fun i j => decide (j < i)
  | .GtE => ordOp fun i j => decide (j ≤ i)
  | .Is => isNM
  | .IsNot => notNM
  | .In => inM
  | .NotIn => notInM
theorem opd_cmp : ∀ op : CmpOp, OpD F S (compareOp op) (cmpM op)
  | .Eq => opd_eq
  | .NotEq => opd_ne
  | .Lt => opd_lt
  | .LtE => opd_le
  | .Gt => opd_gt
  | .GtE => opd_ge
  | .Is => opd_is
  | .IsNot => opd_isnot
  | .In => opd_in
  | .NotIn => opd_notIn
theorem ev_cmp {op : CmpOp} {ma mb : T D} (ha : EvO F S ρ a ma) (hb : EvO F S ρ b mb) (hm : isSet b = false := by rfl) : Ev F S ρ (.Compare a [op] [b] pos) (ma.bind fun x => mb.bind fun y => cmpM op x y) := (opd_cmp op).cmp ha hb (noBehind hm)
theorem evt_cmp {op : CmpOp} {ma mb : T D} (ha : EvO F S ρ a ma) (hb : EvO F S ρ b mb) (hm : isSet b = false := by rfl) : EvT F S ρ (.Compare a [op] [b] pos) (ma.bind fun x => mb.bind fun y => (cmpM op x y).bind asBool) := (opd_cmp op).tst ha hb (noBehind hm)

/-! ### and, or, not, if -/
theorem evt_val {m : T D} (h : Ev F S ρ e m) (he : ∀ (env : Env) (whole : Sem Value), isTrue e env whole = (do let v ← whole; standAt e.pos; holding [v] (truthy v)) := by intro _ _; rfl) : EvT F S ρ e (m.bind asBool) := fun X sc en =>
  ptW (pt_val (h X sc en) (he X.env)) fun σ H Q ⟨Hs, τ, e0, w⟩ => ⟨Hs, τ, e0, T.wp_mono (T.wp_bind.mp w) (fun d w1 v H1 Hs1 e1 s1 r1 => by
    cases d with
    | bl bb => cases r1; exact ⟨bb, rfl, w1 H1 Hs1 e1 s1⟩
    | _ => exact w1.elim) fun _ _ k => k⟩
theorem evt_not {m : T Bool} (h : EvT F S ρ a m) : EvT F S ρ (.UnaryOp .Not a pos) (m.bind fun b => .ret (!b)) := fun X sc en =>
  ptW (pt_not (h X sc en)) fun σ H Q ⟨Hs, τ, e0, w⟩ => ⟨Hs, τ, e0, T.wp_mono (T.wp_bind.mp w) (fun d w1 H1 Hs1 e1 s1 => w1 H1 Hs1 e1 s1) fun _ _ k => k⟩
theorem evw_and1 {m : T Bool} (h : EvT F S ρ a m) : EvW F S ρ (.BoolOp .And [a] pos) m := fun X sc en => pw_and1 (h X sc en)
theorem evw_or1 {m : T Bool} (h : EvT F S ρ a m) : EvW F S ρ (.BoolOp .Or [a] pos) m := fun X sc en => pw_or1 (h X sc en)
theorem evw_and {m m2 : T Bool} (h : EvT F S ρ a m) (h2 : EvW F S ρ (.BoolOp .And (b :: rest) pos) m2) : EvW F S ρ (.BoolOp .And (a :: b :: rest) pos) (m.bind fun t => cond t m2 (.ret false)) := fun X sc en =>
  pwW (pw_and (h X sc en) (h2 X sc en)) fun σ H Q ⟨Hs, τ, e0, w⟩ => ⟨Hs, τ, e0, T.wp_mono (T.wp_bind.mp w) (fun d w1 H1 Hs1 e1 s1 => by
    cases d with
    | true => exact iteT ⟨Hs1, τ, e1, T.wp_mono w1 (fun d2 w2 H2 Hs2 e2 s2 => w2 H2 Hs2 e2 (Sub.trans s1 s2)) fun _ _ k => k⟩
    | false => exact iteF (w1 H1 Hs1 e1 s1)) fun _ _ k => k⟩
theorem evw_or {m m2 : T Bool} (h : EvT F S ρ a m) (h2 : EvW F S ρ (.BoolOp .Or (b :: rest) pos) m2) : EvW F S ρ (.BoolOp .Or (a :: b :: rest) pos) (m.bind fun t => cond t (.ret true) m2) := fun X sc en =>
  pwW (pw_or (h X sc en) (h2 X sc en)) fun σ H Q ⟨Hs, τ, e0, w⟩ => ⟨Hs, τ, e0, T.wp_mono (T.wp_bind.mp w) (fun d w1 H1 Hs1 e1 s1 => by
    cases d with
    | false => exact iteF ⟨Hs1, τ, e1, T.wp_mono w1 (fun d2 w2 H2 Hs2 e2 s2 => w2 H2 Hs2 e2 (Sub.trans s1 s2)) fun _ _ k => k⟩
    | true => exact iteT (w1 H1 Hs1 e1 s1)) fun _ _ k => k⟩
theorem evt_bo {op : BoolOp} {m : T Bool} (h : EvW F S ρ (.BoolOp op es pos) m) : EvT F S ρ (.BoolOp op es pos) m := fun X sc en => (h X sc en).pt
theorem ev_not {m : T D} (h : Ev F S ρ a m) : Ev F S ρ (.UnaryOp .Not a pos) (m.bind fun d => (asBool d).bind fun t => .ret (.bl (!t))) := fun X sc en =>
  peW (pe_not (h X sc en)) fun σ H Q ⟨Hs, τ, e0, w⟩ => ⟨Hs, τ, e0, T.wp_mono (T.wp_bind.mp w) (fun d w1 v H1 Hs1 e1 s1 r1 => by
    cases d with
    | bl bb => cases r1; exact ⟨bb, rfl, w1 _ H1 Hs1 e1 s1 (.bl _)⟩
    | _ => exact w1.elim) fun _ _ k => k⟩
theorem ev_bo1 {op : BoolOp} {m : T D} (h : Ev F S ρ a m) : Ev F S ρ (.BoolOp op [a] pos) m := fun X sc en => pe_one (h X sc en)
theorem ev_and {m m2 : T D} (h : Ev F S ρ a m) (h2 : Ev F S ρ (.BoolOp .And (b :: rest) pos) m2) : Ev F S ρ (.BoolOp .And (a :: b :: rest) pos) (m.bind fun d => (asBool d).bind fun t => cond t m2 (.ret (.bl false))) := fun X sc en =>
  peW (pe_and (h X sc en) (h2 X sc en)) fun σ H Q ⟨Hs, τ, e0, w⟩ => ⟨Hs, τ, e0, T.wp_mono (T.wp_bind.mp w) (fun d w1 v H1 Hs1 e1 s1 r1 => by
    cases d with
    | bl bb =>
      cases r1
      refine ⟨bb, rfl, ?_⟩
      cases bb with
      | true => exact iteT ⟨Hs1, τ, e1, T.wp_mono w1 (fun d2 w2 v2 H2 Hs2 e2 s2 r2 => w2 v2 H2 Hs2 e2 (Sub.trans s1 s2) r2) fun _ _ k => k⟩
      | false => exact iteF (w1 _ H1 Hs1 e1 s1 (.bl _))
    | _ => exact w1.elim) fun _ _ k => k⟩
theorem ev_or {m m2 : T D} (h : Ev F S ρ a m) (h2 : Ev F S ρ (.BoolOp .Or (b :: rest) pos) m2) : Ev F S ρ (.BoolOp .Or (a :: b :: rest) pos) (m.bind fun d => (asBool d).bind fun t => cond t (.ret (.bl true)) m2) := fun X sc en =>
  peW (pe_or (h X sc en) (h2 X sc en)) fun σ H Q ⟨Hs, τ, e0, w⟩ => ⟨Hs, τ, e0, T.wp_mono (T.wp_bind.mp w) (fun d w1 v H1 Hs1 e1 s1 r1 => by
    cases d with
    | bl bb =>
      cases r1
      refine ⟨bb, rfl, ?_⟩
      cases bb with
      | false => exact iteF ⟨Hs1, τ, e1, T.wp_mono w1 (fun d2 w2 v2 H2 Hs2 e2 s2 r2 => w2 v2 H2 Hs2 e2 (Sub.trans s1 s2) r2) fun _ _ k => k⟩
      | true => exact iteT (w1 _ H1 Hs1 e1 s1 (.bl _))
    | _ => exact w1.elim) fun _ _ k => k⟩
theorem ev_if {mc : T Bool} {ma mb : T D} (hc : EvT F S ρ c mc) (ha : Ev F S ρ a ma) (hb : Ev F S ρ b mb) : Ev F S ρ (.IfExp c a b pos) (mc.bind fun t => cond t ma mb) := fun X sc en =>
  peW (pe_ifExp (hc X sc en) (ha X sc en) (hb X sc en)) fun σ H Q ⟨Hs, τ, e0, w⟩ => ⟨Hs, τ, e0, T.wp_mono (T.wp_bind.mp w) (fun d w1 H1 Hs1 e1 s1 => by
    cases d with
    | true => exact iteT ⟨Hs1, τ, e1, T.wp_mono w1 (fun d2 w2 v2 H2 Hs2 e2 s2 r2 => w2 v2 H2 Hs2 e2 (Sub.trans s1 s2) r2) fun _ _ k => k⟩
    | false => exact iteF ⟨Hs1, τ, e1, T.wp_mono w1 (fun d2 w2 v2 H2 Hs2 e2 s2 r2 => w2 v2 H2 Hs2 e2 (Sub.trans s1 s2) r2) fun _ _ k => k⟩) fun _ _ k => k⟩
theorem evl_if {mc : T Bool} {ma mb : T (List D)} (hc : EvT F S ρ c mc) (ha : EvL F S ρ a ma) (hb : EvL F S ρ b mb) : EvL F S ρ (.IfExp c a b pos) (mc.bind fun t => cond t ma mb) := fun X sc en =>
  peW (pe_ifExp (hc X sc en) (ha X sc en) (hb X sc en)) fun σ H Q ⟨Hs, τ, e0, w⟩ => ⟨Hs, τ, e0, T.wp_mono (T.wp_bind.mp w) (fun d w1 H1 Hs1 e1 s1 => by
    cases d with
    | true => exact iteT ⟨Hs1, τ, e1, T.wp_mono w1 (fun d2 w2 v2 H2 Hs2 e2 s2 => w2 v2 H2 Hs2 e2 (Sub.trans s1 s2)) fun _ _ k => k⟩
    | false => exact iteF ⟨Hs1, τ, e1, T.wp_mono w1 (fun d2 w2 v2 H2 Hs2 e2 s2 => w2 v2 H2 Hs2 e2 (Sub.trans s1 s2)) fun _ _ k => k⟩) fun _ _ k => k⟩

/-! ### attributes -/
def isCallE : Expr → Bool
  | .Call _ _ _ _ => true
  | _ => false
theorem attrBase (h : isCallE o = false) (env : Env) (whole : Sem Value) : attributeBase o f env whole = whole := by
  cases o <;> first | rfl | cases h
def fldM (f : Str) : D → T D
  | .ins _ fs => (match fs.lookup f with
    | some d => .ret d
    | none => .stuck)
  | _ => .stuck
theorem lookup_mem {α : Type} {x : Str} {y : α} : ∀ {l : List (Str × α)}, l.lookup x = some y → x ∈ l.map (·.1)
  | [], h => by simp at h
  | (z, w) :: r, h => by
    rw [List.lookup_cons] at h
    cases q : x == z with
    | true =>
      have e : x = z := eq_of_beq q
      rw [e]
      exact List.mem_cons_self ..
    | false =>
      rw [q] at h
      exact List.mem_cons_of_mem _ (lookup_mem h)
theorem ev_fld {m : T D} (h : Ev F S ρ o m) (hc : isCallE o = false := by rfl) : Ev F S ρ (.Attribute o f pos) (m.bind (fldM f)) := fun X sc en =>
  peW (pe_fld (h X sc en) (attrBase hc _ _)) fun σ H Q ⟨Hs, τ, e0, w⟩ => ⟨Hs, τ, e0, T.wp_mono (T.wp_bind.mp w) (fun d w1 v H1 Hs1 e1 s1 r1 => by
    cases d with
    | ins cn fs =>
      cases r1 with
      | ins hc hH rf =>
        rename_i vfs a Cl dx
        unfold fldM at w1
        simp only at w1
        split at w1
        · rename_i dd hd
          obtain ⟨vv, q1, q2⟩ := rf.look hd
          exact ⟨a, Cl, dx, vfs, vv, rfl, e1.wd.sub _ _ hH, by rw [sc.K]; exact hc.cls, by rw [sc.K]; exact hc.na f (lookup_mem hd), q1, w1 vv H1 Hs1 e1 s1 q2⟩
        · exact w1.elim
    | _ => exact w1.elim) fun _ _ k => k⟩
/-! ### subscripts -/
def ixM (x y : D) : T D := match x, y with
  | .tup l, .int i => (match atI l i with
    | some d => .ret d
    | none => .stuck)
  | .lst l, .int i => (match atI l i with
    | some d => .ret d
    | none => .stuck)
  | .str s, .int i => if s.length ≤ sizeLine then (match atI s.cps.toList i with
    | some c => .ret (.str ⟨#[c]⟩)
    | none => .stuck) else .stuck
  | _, _ => .stuck
theorem RepL.atI {C : Ct} {g : Gh} {H : Hp} {ds : List D} {vs : List V} {i : Int} {d : D} (r : RepL C g H ds vs) (h : L2.atI ds i = some d) : ∃ v, L2.atI vs i = some v ∧ Rep C g H d v := by
  unfold L2.atI at h ⊢
  rw [← r.length]
  cases q : ixN ds.length i with
  | none =>
    rw [q] at h
    cases h
  | some j =>
    rw [q] at h
    exact r.get (i := j) h
theorem ev_ix {ma mb : T D} (ha : EvO F S ρ a ma) (hb : EvO F S ρ b mb) (hp : ∀ o i, subscripted b false o i = operate [o, i] (getItem o i) := by intro _ _; rfl) : Ev F S ρ (.Subscript a b pos) (ma.bind fun x => mb.bind fun y => ixM x y) := fun X sc en =>
  peW (pe_ix ix_seq (ha X sc en) (hb X sc en) hp) fun σ H Q ⟨Hs, τ, e0, w⟩ => ⟨Hs, τ, e0, T.wp_mono (T.wp_bind.mp w) (fun d w1 v H1 Hs1 e1 s1 r1 => ⟨Hs1, τ, e1, T.wp_mono (T.wp_bind.mp w1) (fun d2 w2 v2 H2 Hs2 e2 s2 r2 => by
    have r1' := r1.sub s2
    unfold ixM at w2
    split at w2
    · cases r2.told e2 (fun _ z => nomatch z)
      obtain ⟨p, xs, rfl, q1, q2⟩ := r1'.tup e2
      split at w2
      · rename_i hd
        obtain ⟨vv, q3, q4⟩ := q2.atI hd
        exact .inr (.inl ⟨p, xs, _, vv, rfl, rfl, by rw [sc.K]; exact q1, q3, w2 vv H2 Hs2 e2 (Sub.trans s1 s2) q4⟩)
      · exact w2.elim
    · cases r2.told e2 (fun _ z => nomatch z)
      obtain ⟨p, xs, rfl, q1, q2⟩ := r1'.list e2
      split at w2
      · rename_i hd
        obtain ⟨vv, q3, q4⟩ := q2.atI hd
        exact .inl ⟨p, xs, _, vv, rfl, rfl, SqL.of q1, q3, w2 vv H2 Hs2 e2 (Sub.trans s1 s2) q4⟩
      · exact w2.elim
    · cases r2.told e2 (fun _ z => nomatch z)
      cases r1'.told e2 (fun _ z => nomatch z)
      split at w2
      · split at w2
        · rename_i hz _ _ hd
          exact .inr (.inr ⟨_, _, _, rfl, rfl, hz, hd, w2 _ H2 Hs2 e2 (Sub.trans s1 s2) (.str _)⟩)
        · exact w2.elim
      · exact w2.elim
    · exact w2.elim) fun _ _ k => k⟩) fun _ _ k => k⟩
/-- a slice's part -/
def EvP (F : Fx) (S : Sx) (ρ : DEnv) (e : Option Expr) (m : T (Option Int)) : Prop := ∀ X, SC F S X → ∀ en, ∃ t, PO X e t ∧ ∀ σ H Q, (∃ Hs τ, EnvOk F.C en Hs τ ρ σ H ∧ m.wp (fun oi => ∀ H' Hs', EnvOk F.C en Hs' τ ρ σ H' → Sub Hs Hs' → Q oi H') (excP F S.E en)) → t σ H Q
theorem evp_none : EvP F S ρ none (.ret none) := fun X sc en => ⟨_, po_none, fun σ H Q ⟨Hs, τ, e0, w⟩ => w H Hs e0 (Sub.refl _)⟩
def asInt : D → T Int
  | .int i => .ret i
  | _ => .stuck
theorem evp_some {m : T D} (h : Ev F S ρ e m) : EvP F S ρ (some e) (m.bind fun d => (asInt d).bind fun i => .ret (some i)) := fun X sc en => ⟨_, po_some (h X sc en), fun σ H Q ⟨Hs, τ, e0, w⟩ => ⟨Hs, τ, e0, T.wp_mono (T.wp_bind.mp w) (fun d w1 v H1 Hs1 e1 s1 r1 => by
  cases d with
  | int i => cases r1; exact ⟨i, rfl, w1 H1 Hs1 e1 s1⟩
  | _ => exact w1.elim) fun _ _ k => k⟩⟩
def cutD (l : List D) (lo hi : Option Int) : List D := List.take (HT.sIx l.length l.length hi - HT.sIx l.length 0 lo) (List.drop (HT.sIx l.length 0 lo) l)
theorem RepL.cut {C : Ct} {g : Gh} {H : Hp} {ds : List D} {vs : List V} (r : RepL C g H ds vs) (lo hi : Option Int) : RepL C g H (cutD ds lo hi) (cutV vs lo hi) := by
  unfold cutD cutV
  rw [r.length]
  exact (r.drop _).take _
def slM (lo hi : Option Int) : D → T D
  | .tup l => .ret (.tup (cutD l lo hi))
  | .str z => if z.length ≤ sizeLine then .ret (.str (cutS z lo hi)) else .stuck
  | _ => .stuck
theorem cutV_whole {xs : List V} {lo hi : Option Int} (h : HT.sIx xs.length 0 lo = 0 ∧ HT.sIx xs.length xs.length hi = xs.length) : cutV xs lo hi = xs := by
  unfold cutV
  rw [h.1, h.2, List.drop_zero, Nat.sub_zero, List.take_length]
/-- t[lo:hi], a tuple, a text -/
theorem ev_sl {ma : T D} {ml mh : T (Option Int)} {lo hi : Option Expr} {p2 : Pos} (ha : Ev F S ρ a ma) (hl : EvP F S ρ lo ml) (hh : EvP F S ρ hi mh) : Ev F S ρ (.Subscript a (.Slice lo hi none p2) pos) (ma.bind fun x => ml.bind fun l => mh.bind fun h => slM l h x) := fun X sc en => by
  obtain ⟨tl, pl, il⟩ := hl X sc en
  obtain ⟨th, ph, ih⟩ := hh X sc en
  refine peW (pe_slice (sl_tupA.or sl_str) (ha X sc en) pl ph) fun σ H Q ⟨Hs, τ, e0, w⟩ => ⟨Hs, τ, e0, T.wp_mono (T.wp_bind.mp w) (fun d w1 v H1 Hs1 e1 s1 r1 => il _ _ _ ⟨Hs1, τ, e1, T.wp_mono (T.wp_bind.mp w1) (fun l w2 H2 Hs2 e2 s2 => ih _ _ _ ⟨Hs2, τ, e2, T.wp_mono (T.wp_bind.mp w2) (fun h w3 H3 Hs3 e3 s3 => ?_) fun _ _ k => k⟩) fun _ _ k => k⟩) fun _ _ k => k⟩
  have r3 := r1.sub (Sub.trans s2 s3)
  have s4 := Sub.trans s1 (Sub.trans s2 s3)
  cases d with
  | tup ds =>
    cases r3 with
    | tup hq rl =>
      rename_i vs p
      refine .inl ⟨p, vs, rfl, by rw [sc.K]; exact (TupAt.sub e3.wd.sub hq).seq, fun hw => ?_, fun _ q hp => ?_⟩
      · have := rl.cut l h
        rw [cutV_whole hw] at this
        exact w3 _ H3 Hs3 e3 s4 (.tup hq this)
      · have s' : Sub Hs3 (upd Hs3 q (.tup (cutV vs l h))) := sub_upd (e3.wd.none_in hp).1
        exact w3 _ _ _ (e3.alloc hp _) (Sub.trans s4 s') (.tup (.inl upd_same) ((rl.cut l h).sub s'))
  | str z =>
    cases r3
    unfold slM at w3
    simp only at w3
    split at w3
    · exact .inr ⟨z, rfl, by assumption, w3 _ H3 Hs3 e3 s4 (.str _)⟩
    · exact w3.elim
  | _ => exact w3.elim
def slL (lo hi : Option Int) : D → T (List D)
  | .lst l => .ret (cutD l lo hi)
  | .scr ns => .ret (cutD (ns.map D.int) lo hi)
  | _ => .stuck
theorem evl_sl {ma : T D} {ml mh : T (Option Int)} {lo hi : Option Expr} {p2 : Pos} (ha : EvO F S ρ a ma) (hl : EvP F S ρ lo ml) (hh : EvP F S ρ hi mh) : EvL F S ρ (.Subscript a (.Slice lo hi none p2) pos) (ma.bind fun x => ml.bind fun l => mh.bind fun h => slL l h x) := fun X sc en => by
  obtain ⟨tl, pl, il⟩ := hl X sc en
  obtain ⟨th, ph, ih⟩ := hh X sc en
  refine peW (pe_slice sl_list (ha X sc en) pl ph) fun σ H Q ⟨Hs, τ, e0, w⟩ => ⟨Hs, τ, e0, T.wp_mono (T.wp_bind.mp w) (fun d w1 v H1 Hs1 e1 s1 r1 => il _ _ _ ⟨Hs1, τ, e1, T.wp_mono (T.wp_bind.mp w1) (fun l w2 H2 Hs2 e2 s2 => ih _ _ _ ⟨Hs2, τ, e2, T.wp_mono (T.wp_bind.mp w2) (fun h w3 H3 Hs3 e3 s3 => ?_) fun _ _ k => k⟩) fun _ _ k => k⟩) fun _ _ k => k⟩
  have r3 := r1.sub (Sub.trans s2 s3)
  have s4 := Sub.trans s1 (Sub.trans s2 s3)
  cases d with
  | lst ds =>
    obtain ⟨p, vs, rfl, hq, rl⟩ := r3.list e3
    exact ⟨p, vs, rfl, SqL.of hq, fun q hp => w3 q _ _ (e3.allocT hp (rl.cut l h)) s4⟩
  | scr ns =>
    cases r3.told e3 (fun _ z => nomatch z) with
    | scr hq =>
      exact ⟨_, _, rfl, by rw [sc.K]; exact SqL.sub e3.wd.sub hq, fun q hp => w3 q _ _ (e3.allocT hp ((repL_ints ns).cut l h)) s4⟩
  | _ => exact w3.elim
def revL : D → T (List D)
  | .lst l => .ret l.reverse
  | _ => .stuck
theorem evl_rev {ma : T D} {kk : Nat} {p1 p2 p3 : Pos} (ha : EvO F S ρ a ma) : EvL F S ρ (.Subscript a (.Slice none none (some (.UnaryOp .USub (.Constant (.int 1) kk p1) p2)) p3) pos) (ma.bind revL) := fun X sc en =>
  peW (pe_revL (ha X sc en)) fun σ H Q ⟨Hs, τ, e0, w⟩ => ⟨Hs, τ, e0, T.wp_mono (T.wp_bind.mp w) (fun d w1 v H1 Hs1 e1 s1 r1 => by
    cases d with
    | lst ds =>
      obtain ⟨p, vs, rfl, hq, rl⟩ := r1.list e1
      exact ⟨p, vs, rfl, SqL.of hq, fun q hp => w1 q _ _ (e1.allocT hp rl.reverse) s1⟩
    | _ => exact w1.elim) fun _ _ k => k⟩
end
end MS

/-! Part 6: calls of defs, of classes, of built-ins. -/
namespace MS
open PySem PySem.Spec PyProof.Rows L2
section
variable {F : Fx} {S : Sx} {ρ : DEnv} {e a b c o : Expr} {es rest : List Expr} {pos pos' p : Pos} {k : Nat} {f x : Str}
/-- what is owned stands still, and is told for a while -/
def Mine (ρ : DEnv) (σ : L2.St) (a : Addr) : Prop := ∃ (i : Nat) (d : D), ρ[i]? = some (some (true, d)) ∧ σ[i]? = some (some (.ref a))
noncomputable def lent (ρ : DEnv) (σ : L2.St) (H Hs : Hp) : Hp := fun a => open Classical in if Mine ρ σ a then H a else Hs a
section
variable {C : Ct} {en : Ent} {Hs H Hs' H' : Hp} {τ : List (Addr × D)} {σ : L2.St}
theorem lent_mine {a : Addr} (h : Mine ρ σ a) : lent ρ σ H Hs a = H a := by
  unfold lent
  rw [if_pos h]
theorem lent_not {a : Addr} (h : ¬ Mine ρ σ a) : lent ρ σ H Hs a = Hs a := by
  unfold lent
  rw [if_neg h]
theorem EnvOk.mine (e : EnvOk C en Hs τ ρ σ H) {a : Addr} (h : Mine ρ σ a) : ∃ d, Own C en Hs H d a := by
  obtain ⟨i, d, h1, h2⟩ := h
  obtain ⟨b, h3, h4⟩ := e.own i d h1
  rw [h2] at h3
  cases h3
  exact ⟨d, h4⟩
theorem EnvOk.lentSub (e : EnvOk C en Hs τ ρ σ H) : Sub Hs (lent ρ σ H Hs) ∧ Sub (lent ρ σ H Hs) H ∧ ∀ a, inG en.g a → lent ρ σ H Hs a = none := by
  refine ⟨fun a o h => ?_, fun a o h => ?_, fun a h => ?_⟩
  · rw [lent_not fun m => ?_]
    · exact h
    · obtain ⟨d, q⟩ := e.mine m
      rw [q.outs] at h
      cases h
  · by_cases m : Mine ρ σ a
    · rw [lent_mine m] at h
      exact h
    · rw [lent_not m] at h
      exact e.wd.sub _ _ h
  · rw [lent_not fun m => ?_]
    · exact e.wd.gout a h
    · obtain ⟨d, q⟩ := e.mine m
      exact q.outg h
theorem EnvOk.lentRep (e : EnvOk C en Hs τ ρ σ H) {d : D} {v : V} (r : RepO C en Hs ρ σ d v) : Rep C en.g (lent ρ σ H Hs) d v := by
  rcases r with r | ⟨i, h1, h2⟩
  · exact r.sub e.lentSub.1
  · obtain ⟨a, h3, h4⟩ := e.own i d h1
    rw [h2] at h3
    cases h3
    obtain ⟨u, h5, h6⟩ := h4.obj
    cases h6 with
    | lst r => exact .lst (by rw [lent_mine ⟨i, _, h1, h2⟩]; exact h5) (r.sub e.lentSub.1)
theorem EnvOk.lentReps (e : EnvOk C en Hs τ ρ σ H) : ∀ {ds : List D} {vs : List V}, Paired (RepO C en Hs ρ σ) ds vs → RepL C en.g (lent ρ σ H Hs) ds vs
  | _, _, .nil => .nil
  | _, _, .cons r t => .cons (e.lentRep r) (e.lentReps t)
/-- behind it what is owned is one's own again -/
theorem EnvOk.back (e : EnvOk C en Hs τ ρ σ H) (w : Wd ⟨en.g, H, lent ρ σ H Hs⟩ Hs' H') : ∃ Hs2, EnvOk C en Hs2 τ ρ σ H' ∧ Sub Hs Hs2 ∧ ∀ d v, pureD d = true → Rep C en.g Hs' d v → Rep C en.g Hs2 d v := by
  classical
  let Hs2 : Hp := fun a => if Mine ρ σ a then none else Hs' a
  have h2m : ∀ a, Mine ρ σ a → Hs2 a = none := fun a m => if_pos m
  have h2n : ∀ a, ¬ Mine ρ σ a → Hs2 a = Hs' a := fun a m => if_neg m
  have sub2 : ∀ a o, Hs2 a = some o → ¬ Mine ρ σ a ∧ Hs' a = some o := fun a o h => by
    by_cases m : Mine ρ σ a
    · rw [h2m a m] at h
      cases h
    · exact ⟨m, by rw [← h2n a m]; exact h⟩
  have s : Sub Hs Hs2 := fun a o h => by
    rw [h2n a fun m => ?_]
    · exact w.ext a o (e.lentSub.1 a o h)
    · obtain ⟨d, q⟩ := e.mine m
      rw [q.outs] at h
      cases h
  have new : ∀ a o, Hs2 a = some o → Hs a = some o ∨ H a = none := fun a o h => by
    obtain ⟨nm, h1⟩ := sub2 a o h
    rcases w.new a o h1 with q | q
    · have q' : lent ρ σ H Hs a = some o := q
      rw [lent_not nm] at q'
      exact .inl q'
    · exact .inr q
  have wd : Wd en Hs2 H' := by
    refine ⟨fun a o h => w.sub a o (sub2 a o h).2, Sub.trans e.wd.ext s, fun a o h => ?_, SameX.trans e.wd.same w.same, w.deal, fun a h => ?_⟩
    · rcases new a o h with q | q
      · exact e.wd.new a o q
      · exact .inr (e.wd.none_in q).2.2
    · rw [h2n a fun m => ?_]
      · exact w.gout a h
      · obtain ⟨d, q⟩ := e.mine m
        exact q.outg h
  refine ⟨Hs2, e.step wd s new fun a o ng h _ => w.same a o ng h, s, fun d v pd r => Rep.pure_sub d pd r fun a o h => ?_⟩
  by_cases m : Mine ρ σ a
  · left
    obtain ⟨d, q⟩ := e.mine m
    obtain ⟨u, q1, q2⟩ := q.obj
    cases q2 with
    | lst r =>
      have := w.ext a _ (show lent ρ σ H Hs a = _ from (lent_mine m).trans q1)
      rw [h] at this
      exact ⟨_, Option.some.inj this⟩
  · exact .inr (by rw [h2n a m]; exact h)
end
theorem excP.in {E : XK} {en : Ent} {Hs H : Hp} (w : Wd en Hs H) {Hs0 : Hp} (s : Sub Hs Hs0) (n : ∀ a o, Hs0 a = some o → Hs a = some o ∨ en.H a = none) {c : Str} {fs : List (Str × D)} (h : excP F E en c fs) : excP F E ⟨en.g, H, Hs0⟩ c fs := fun ev oa Hs' H' w' r => h ev oa Hs' H' (by
  refine ⟨w'.sub, Sub.trans w.ext (Sub.trans s w'.ext), fun a o q => ?_, SameX.trans w.same w'.same, w'.deal, w'.gout⟩
  rcases w'.new a o q with z | z
  · rcases n a o z with y | y
    · exact w.new a o y
    · exact .inr y
  · exact .inr (w.none_in z).2.2) r
/-! ### a def of the text is called -/
theorem ev_call (j : Nat) {lev : Nat} {ps : List Str} {m : List D → T D} {kw : List (List Str × List Nat)} {ms : T (List D)} (h : EvV F S ρ (e :: es) ms) (hj : F.G[j]? = some (x, .fn lev ps m kw) := by rfl) (hv : S.gl.contains j = true := by rfl) (hl : Nat.ble lev S.L = true := by rfl)
    (hs : (e :: es).all (fun e => !isStar e) = true := by rfl) : Ev F S ρ (.Call (.Name x p) (e :: es) [] pos) (ms.bind m) := fun X sc en => by
  obtain ⟨h1, h2, h3, hm, f, fd, q1, q2, q3, q4, q5⟩ := sc.glOk hv hj
  rw [List.all_cons, Bool.and_eq_true, Bool.not_eq_true'] at hs
  have FO : FnOk X.prog X.w X.K X.mg X.base F.CX lev f fd ps (spM F ps.length m) := by rw [sc.prog, sc.w, sc.K, sc.mg, sc.base]; exact q2
  refine peW (pe_call (ds := []) (dvs := []) FO (sc.room.mono (Nat.le_of_ble_eq_true hl)) h1 (by rw [sc.mg]; exact q1) (by rw [sc.K]; exact q3) (by rw [sc.K]; exact q4) .nil sc.pass (h X sc en) h2 (star_cons hs.1 _ _) (noStar _ hs.2 _ _)) fun σ H Q ⟨Hs, τ, e0, w⟩ => ⟨Hs, τ, e0, T.wp_mono (T.wp_bind.mp w) (fun ds w1 vs H1 Hs1 e1 s1 r1 => ?_) fun _ _ k => k⟩
  show spM F ps.length m (vs ++ []) H1 Q S.E
  rw [List.append_nil]
  refine ⟨en.g, Hs1, ds, e1.wd.sub, e1.wd.deal, e1.wd.gout, r1, ?_, T.wp_mono w1 (fun d k v Hs' H' w' r => k v H' Hs' (e1.step (Wd.trans e1.wd w') w'.ext w'.new fun a u ng q _ => w'.same a u ng q) (Sub.trans s1 w'.ext) r) fun c fs k => excP.in e1.wd (Sub.refl _) (fun _ _ q => .inl q) k⟩
  by_cases hd : ds.length = ps.length
  · exact hd
  · rw [hm ds hd] at w1
    exact w1.elim
def pureM (d : D) : T D := if pureD d then .ret d else .stuck
/-- .. with lists of one's own: what comes back must hold none -/
theorem ev_callO (j : Nat) {lev : Nat} {ps : List Str} {m : List D → T D} {kw : List (List Str × List Nat)} {ms : T (List D)} (h : EvA F S ρ (e :: es) ms) (hj : F.G[j]? = some (x, .fn lev ps m kw) := by rfl) (hv : S.gl.contains j = true := by rfl) (hl : Nat.ble lev S.L = true := by rfl)
    (hs : (e :: es).all (fun e => !isStar e) = true := by rfl) : Ev F S ρ (.Call (.Name x p) (e :: es) [] pos) (ms.bind fun ds => (m ds).bind pureM) := fun X sc en => by
  obtain ⟨h1, h2, h3, hm, f, fd, q1, q2, q3, q4, q5⟩ := sc.glOk hv hj
  rw [List.all_cons, Bool.and_eq_true, Bool.not_eq_true'] at hs
  have FO : FnOk X.prog X.w X.K X.mg X.base F.CX lev f fd ps (spM F ps.length m) := by rw [sc.prog, sc.w, sc.K, sc.mg, sc.base]; exact q2
  refine peW (pe_call (ds := []) (dvs := []) FO (sc.room.mono (Nat.le_of_ble_eq_true hl)) h1 (by rw [sc.mg]; exact q1) (by rw [sc.K]; exact q3) (by rw [sc.K]; exact q4) .nil sc.pass (h X sc en) h2 (star_cons hs.1 _ _) (noStar _ hs.2 _ _)) fun σ H Q ⟨Hs, τ, e0, w⟩ => ⟨Hs, τ, e0, T.wp_mono (T.wp_bind.mp w) (fun ds w1 vs H1 Hs1 e1 s1 r1 => ?_) fun _ _ k => k⟩
  show spM F ps.length m (vs ++ []) H1 Q S.E
  rw [List.append_nil]
  obtain ⟨l1, l2, l3⟩ := e1.lentSub
  refine ⟨en.g, lent ρ σ H1 Hs1, ds, l2, e1.wd.deal, l3, e1.lentReps r1, ?_, T.wp_mono (T.wp_bind.mp w1) (fun d k v Hs' H' w' r => ?_) fun c fs k => ?_⟩
  · by_cases hd : ds.length = ps.length
    · exact hd
    · rw [hm ds hd] at w1
      exact w1.elim
  · unfold pureM at k
    split at k
    · rename_i pd
      obtain ⟨Hs2, e2, s2, r2⟩ := e1.back w'
      exact k v H' Hs2 e2 (Sub.trans s1 s2) (r2 d v pd r)
    · exact k.elim
  · refine excP.in e1.wd l1 (fun a u q => ?_) k
    by_cases m : Mine ρ σ a
    · obtain ⟨d, o⟩ := e1.mine m
      exact .inr o.out
    · rw [lent_not m] at q
      exact .inl q
/-! ### a class is called -/
def insM (c : Str) (flds : List Str) (ds : List D) : T D := if ds.length = flds.length then .ret (.ins c (flds.zip ds)) else .stuck
theorem repF_zip {C : Ct} {g : Gh} {H : Hp} : ∀ (flds : List Str) {ds : List D} {vs : List V}, RepL C g H ds vs → RepF C g H (flds.zip ds) (flds.zip vs)
  | [], _, _, _ => .nil
  | _ :: _, _, _, .nil => .nil
  | _ :: fl, _, _, .cons r t => .cons r (repF_zip fl t)
theorem ev_make (j : Nat) {flds : List Str} {eq : Option (Nat × (List D → T D))} {ms : T (List D)} (h : EvV F S ρ (e :: es) ms) (hj : F.G[j]? = some (x, .cls flds eq) := by rfl) (hv : S.gl.contains j = true := by rfl) (hl : Nat.ble 2 S.L = true := by rfl)
    (hs : (e :: es).all (fun e => !isStar e) = true := by rfl) : Ev F S ρ (.Call (.Name x p) (e :: es) [] pos) (ms.bind (insM x flds)) := fun X sc en => by
  obtain ⟨h1, h2, h3, Cl, q1, ⟨f, fd, q2, q3, q4, _⟩, q5⟩ := sc.glOk hv hj
  rw [List.all_cons, Bool.and_eq_true, Bool.not_eq_true'] at hs
  have FO : FnOk X.prog X.w X.K X.mg X.base F.CX 1 f fd (("self" : Str) :: flds) (spI F.K flds) := by rw [sc.prog, sc.w, sc.K, sc.mg, sc.base]; exact q3
  refine peW (pe_make (ds := []) (dvs := []) (E := S.E) (by rw [sc.K]; exact q2) FO (sc.room.mono (Nat.le_of_ble_eq_true hl)) h1 (by rw [sc.mg]; exact q1.mg) (by rw [sc.K]; exact q4) .nil sc.pass (h X sc en) h2 (star_cons hs.1 _ _) (noStar _ hs.2 _ _)) fun σ H Q ⟨Hs, τ, e0, w⟩ => ⟨Hs, τ, e0, T.wp_mono (T.wp_bind.mp w) (fun ds w1 vs H1 Hs1 e1 s1 r1 => ?_) fun _ _ k => k⟩
  intro a dx na ndx ne
  show spI F.K flds (V.ref a :: (vs ++ [])) (upd (upd H1 dx (HO.own a)) a (HO.ins Cl dx [])) (fun v H2 => v = V.non ∧ Q (V.ref a) H2) S.E
  rw [List.append_nil]
  unfold insM at w1
  split at w1
  · rename_i hlen
    have n1 : upd H1 dx (.own a) a = none := by rw [upd_ne ne.symm]; exact na
    have e2 := e1.step (e1.wd.alloc' ndx (.own a)) (Sub.refl _) (fun _ _ q => .inl q) fun b u _ q _ => sub_upd ndx b u q
    have e3 := e2.alloc n1 (.ins Cl dx (flds.zip vs))
    have s3 : Sub Hs1 (upd Hs1 a (.ins Cl dx (flds.zip vs))) := sub_upd (e2.wd.none_in n1).1
    refine ⟨a, dx, Cl, vs, rfl, upd_same, q1.cls, q1.na, by rw [← r1.length]; exact hlen, rfl, ?_⟩
    have ee : upd (upd (upd H1 dx (.own a)) a (.ins Cl dx [])) a (.ins Cl dx (flds.zip vs)) = upd (upd H1 dx (.own a)) a (.ins Cl dx (flds.zip vs)) := upd_upd
    rw [ee]
    refine w1 (.ref a) _ _ e3 (Sub.trans s1 s3) (.ins ?_ upd_same ((repF_zip flds r1).sub s3))
    have ef : (flds.zip ds).map (·.1) = flds := by
      rw [List.map_fst_zip (by omega)]
    rw [ef]
    exact q1
  · exact w1.elim

/-! ### built-ins -/
def CallD (F : Fx) (S : Sx) (fv : Value) (g : List D → T D) : Prop := ∀ X, SC F S X → CallR X fv (fun vs H Q => ∃ en Hs τ ρ σ ds, EnvOk F.C en Hs τ ρ σ H ∧ Paired (RepO F.C en Hs ρ σ) ds vs ∧
  (g ds).wp (fun d => ∀ v H' Hs', EnvOk F.C en Hs' τ ρ σ H' → Sub Hs Hs' → Rep F.C en.g Hs' d v → Q v H') (excP F S.E en))
def CallDL (F : Fx) (S : Sx) (fv : Value) (g : List D → T (List D)) : Prop := ∀ X, SC F S X → CallR X fv (fun vs H Q => ∃ en Hs τ ρ σ ds, EnvOk F.C en Hs τ ρ σ H ∧ Paired (RepO F.C en Hs ρ σ) ds vs ∧
  (g ds).wp (fun l => ∀ a H' Hs', EnvOk F.C en Hs' ((a, .lst l) :: τ) ρ σ H' → Sub Hs Hs' → Q (.ref a) H') (excP F S.E en))
theorem CallD.ev {id : String} {g : List D → T D} {ms : T (List D)} (j : Nat) (hc : CallD F S (.builtin id) g) (h : EvA F S ρ (e :: es) ms) (hb : bootBuiltins x = some (.builtin id)) (hj : F.G[j]? = some (x, .blt)) (hv : S.gl.contains j = true) (hs : (e :: es).all (fun e => !isStar e) = true) :
    Ev F S ρ (.Call (.Name x p) (e :: es) [] pos) (ms.bind g) := fun X sc en => by
  obtain ⟨h1, h2, h3, q1⟩ := sc.glOk hv hj
  rw [List.all_cons, Bool.and_eq_true, Bool.not_eq_true'] at hs
  exact peW (pe_callB (hc X sc) h1 (by rw [sc.mg]; exact q1) hb (h X sc en) h3 h2 (star_cons hs.1 _ _) (noStar _ hs.2 _ _)) fun σ H Q ⟨Hs, τ, e0, w⟩ => ⟨Hs, τ, e0, T.wp_mono (T.wp_bind.mp w) (fun ds w1 vs H1 Hs1 e1 s1 r1 =>
    ⟨en, Hs1, τ, ρ, σ, ds, e1, r1, T.wp_mono w1 (fun d k v H' Hs' e' s' r => k v H' Hs' e' (Sub.trans s1 s') r) fun _ _ k => k⟩) fun _ _ k => k⟩
theorem CallD.evT {id : String} {g : List D → T D} {ms : T (List D)} (j : Nat) (hc : CallD F S (.type id) g) (h : EvA F S ρ (e :: es) ms) (hb : bootBuiltins x = some (.type id)) (hj : F.G[j]? = some (x, .blt)) (hv : S.gl.contains j = true) (hs : (e :: es).all (fun e => !isStar e) = true) :
    Ev F S ρ (.Call (.Name x p) (e :: es) [] pos) (ms.bind g) := fun X sc en => by
  obtain ⟨h1, h2, h3, q1⟩ := sc.glOk hv hj
  rw [List.all_cons, Bool.and_eq_true, Bool.not_eq_true'] at hs
  exact peW (pe_callTy (hc X sc) h1 (by rw [sc.mg]; exact q1) hb (h X sc en) h3 h2 (star_cons hs.1 _ _) (noStar _ hs.2 _ _)) fun σ H Q ⟨Hs, τ, e0, w⟩ => ⟨Hs, τ, e0, T.wp_mono (T.wp_bind.mp w) (fun ds w1 vs H1 Hs1 e1 s1 r1 =>
    ⟨en, Hs1, τ, ρ, σ, ds, e1, r1, T.wp_mono w1 (fun d k v H' Hs' e' s' r => k v H' Hs' e' (Sub.trans s1 s') r) fun _ _ k => k⟩) fun _ _ k => k⟩
theorem CallDL.ev {id : String} {g : List D → T (List D)} {ms : T (List D)} (j : Nat) (hc : CallDL F S (.builtin id) g) (h : EvA F S ρ (e :: es) ms) (hb : bootBuiltins x = some (.builtin id)) (hj : F.G[j]? = some (x, .blt)) (hv : S.gl.contains j = true) (hs : (e :: es).all (fun e => !isStar e) = true) :
    EvL F S ρ (.Call (.Name x p) (e :: es) [] pos) (ms.bind g) := fun X sc en => by
  obtain ⟨h1, h2, h3, q1⟩ := sc.glOk hv hj
  rw [List.all_cons, Bool.and_eq_true, Bool.not_eq_true'] at hs
  exact peW (pe_callB (hc X sc) h1 (by rw [sc.mg]; exact q1) hb (h X sc en) h3 h2 (star_cons hs.1 _ _) (noStar _ hs.2 _ _)) fun σ H Q ⟨Hs, τ, e0, w⟩ => ⟨Hs, τ, e0, T.wp_mono (T.wp_bind.mp w) (fun ds w1 vs H1 Hs1 e1 s1 r1 =>
    ⟨en, Hs1, τ, ρ, σ, ds, e1, r1, T.wp_mono w1 (fun d k v H' Hs' e' s' => k v H' Hs' e' (Sub.trans s1 s')) fun _ _ k => k⟩) fun _ _ k => k⟩
theorem CallDL.evT {id : String} {g : List D → T (List D)} {ms : T (List D)} (j : Nat) (hc : CallDL F S (.type id) g) (h : EvA F S ρ (e :: es) ms) (hb : bootBuiltins x = some (.type id)) (hj : F.G[j]? = some (x, .blt)) (hv : S.gl.contains j = true) (hs : (e :: es).all (fun e => !isStar e) = true) :
    EvL F S ρ (.Call (.Name x p) (e :: es) [] pos) (ms.bind g) := fun X sc en => by
  obtain ⟨h1, h2, h3, q1⟩ := sc.glOk hv hj
  rw [List.all_cons, Bool.and_eq_true, Bool.not_eq_true'] at hs
  exact peW (pe_callTy (hc X sc) h1 (by rw [sc.mg]; exact q1) hb (h X sc en) h3 h2 (star_cons hs.1 _ _) (noStar _ hs.2 _ _)) fun σ H Q ⟨Hs, τ, e0, w⟩ => ⟨Hs, τ, e0, T.wp_mono (T.wp_bind.mp w) (fun ds w1 vs H1 Hs1 e1 s1 r1 =>
    ⟨en, Hs1, τ, ρ, σ, ds, e1, r1, T.wp_mono w1 (fun d k v H' Hs' e' s' => k v H' Hs' e' (Sub.trans s1 s')) fun _ _ k => k⟩) fun _ _ k => k⟩

def lenM : List D → T D
  | [.tup l] => .ret (.int l.length)
  | [.lst l] => .ret (.int l.length)
  | [.str s] => if s.length ≤ sizeLine then .ret (.int s.length) else .stuck
  | _ => .stuck
theorem cd_len : CallD F S (.builtin "len") lenM := fun X sc pins s σ H xs us Q I r ⟨en, Hs, τ, ρ, σ', ds, e0, rs, w⟩ => by
  unfold lenM at w
  split at w
  · rename_i l
    cases rs with
    | cons r1 t =>
      cases t
      obtain ⟨p, vs, rfl, q1, q2⟩ := r1.tup e0
      exact call_len pins s σ H _ us Q I r ⟨_, l.length, rfl, .inr ⟨vs, by rw [sc.K]; exact q1, q2.length⟩, w _ H Hs e0 (Sub.refl _) (.int _)⟩
  · rename_i l
    cases rs with
    | cons r1 t =>
      cases t
      obtain ⟨p, vs, rfl, q1, q2⟩ := r1.list e0
      exact call_len pins s σ H _ us Q I r ⟨_, l.length, rfl, .inl ⟨vs, SqL.of q1, q2.length⟩, w _ H Hs e0 (Sub.refl _) (.int _)⟩
  · rename_i z
    cases rs with
    | cons r1 t =>
      cases t
      cases r1.told e0 (fun _ z => nomatch z)
      split at w
      · exact call_len pins s σ H _ us Q I r ⟨_, z.length, rfl, ⟨by assumption, rfl⟩, w _ H Hs e0 (Sub.refl _) (.int _)⟩
      · exact w.elim
  · exact w.elim
theorem ev_len (j : Nat) {ms : T (List D)} (h : EvA F S ρ [e] ms) (hj : F.G[j]? = some ((("len" : Str)), GE.blt) := by rfl) (hv : S.gl.contains j = true := by rfl) (hs : [e].all (fun e => !isStar e) = true := by rfl) : Ev F S ρ (.Call (.Name "len" p) [e] [] pos) (ms.bind lenM) := cd_len.ev j h PySem.boot_len hj hv hs
def listM : List D → T (List D)
  | [.tup l] => .ret l
  | [.lst l] => .ret l
  | _ => .stuck
theorem cd_list : CallDL F S (.type "list") listM := fun X sc pins s σ H xs us Q I r ⟨en, Hs, τ, ρ, σ', ds, e0, rs, w⟩ => by
  unfold listM at w
  split at w
  · rename_i l
    cases rs with
    | cons r1 t =>
      cases t
      obtain ⟨p, vs, rfl, q1, q2⟩ := r1.tup e0
      exact call_list_of pins s σ H _ us Q I r ⟨p, vs, rfl, .inr (by rw [sc.K]; exact q1), fun a ha => w a _ _ (e0.allocT ha q2) (Sub.refl _)⟩
  · rename_i l
    cases rs with
    | cons r1 t =>
      cases t
      obtain ⟨p, vs, rfl, q1, q2⟩ := r1.list e0
      exact call_list_of pins s σ H _ us Q I r ⟨p, vs, rfl, .inl (SqL.of q1), fun a ha => w a _ _ (e0.allocT ha q2) (Sub.refl _)⟩
  · exact w.elim
theorem evl_list (j : Nat) {ms : T (List D)} (h : EvA F S ρ [e] ms) (hj : F.G[j]? = some ((("list" : Str)), GE.blt) := by rfl) (hv : S.gl.contains j = true := by rfl) (hs : [e].all (fun e => !isStar e) = true := by rfl) : EvL F S ρ (.Call (.Name "list" p) [e] [] pos) (ms.bind listM) := cd_list.evT j h (by decide +kernel) hj hv hs
def tupleM : List D → T D
  | [.tup l] => .ret (.tup l)
  | [.lst l] => .ret (.tup l)
  | _ => .stuck
theorem cd_tuple : CallD F S (.type "tuple") tupleM := fun X sc pins s σ H xs us Q I r ⟨en, Hs, τ, ρ, σ', ds, e0, rs, w⟩ => by
  unfold tupleM at w
  split at w
  · rename_i l
    cases rs with
    | cons r1 t =>
      cases t
      have r2 := r1.told e0 (fun _ z => nomatch z)
      obtain ⟨p, vs, rfl, q1, q2⟩ := r1.tup e0
      exact call_tuple_of pins s σ H _ us Q I r ⟨p, vs, rfl, .inr ⟨by rw [sc.K]; exact q1, w _ H Hs e0 (Sub.refl _) r2⟩⟩
  · rename_i l
    cases rs with
    | cons r1 t =>
      cases t
      obtain ⟨p, vs, rfl, q1, q2⟩ := r1.list e0
      refine call_tuple_of pins s σ H _ us Q I r ⟨p, vs, rfl, .inl ⟨SqL.of q1, fun a ha => ?_⟩⟩
      have s' : Sub Hs (upd Hs a (.tup vs)) := sub_upd (e0.wd.none_in ha).1
      exact w (.ref a) _ _ (e0.alloc ha _) s' (.tup (.inl upd_same) (q2.sub s'))
  · exact w.elim
theorem ev_tuple (j : Nat) {ms : T (List D)} (h : EvA F S ρ [e] ms) (hj : F.G[j]? = some ((("tuple" : Str)), GE.blt) := by rfl) (hv : S.gl.contains j = true := by rfl) (hs : [e].all (fun e => !isStar e) = true := by rfl) : Ev F S ρ (.Call (.Name "tuple" p) [e] [] pos) (ms.bind tupleM) := cd_tuple.evT j h (by decide +kernel) hj hv hs
/-! sums -/
def sumM : List D → T D
  | [.lst l] => (match intsOf l with
    | some ns => .ret (.int ns.sum)
    | none => .stuck)
  | [.tup l] => (match intsOf l with
    | some ns => .ret (.int ns.sum)
    | none => .stuck)
  | _ => .stuck
theorem intsOf_eq : ∀ {l : List D} {ns : List Int}, intsOf l = some ns → l = ns.map D.int
  | [], ns, h => by
    cases h
    rfl
  | .int i :: r, ns, h => by
    have h' : (intsOf r).map (i :: ·) = some ns := h
    cases q : intsOf r with
    | none => rw [q] at h'; cases h'
    | some ms =>
      rw [q] at h'
      cases h'
      rw [intsOf_eq q]
      rfl
  | .non :: _, _, h | .bl _ :: _, _, h | .str _ :: _, _, h | .tup _ :: _, _, h | .lst _ :: _, _, h | .dic _ :: _, _, h | .ins _ _ :: _, _, h | .fn _ :: _, _, h | .ty _ :: _, _, h | .deal :: _, _, h => by cases h
theorem intsOf_map : ∀ ns : List Int, intsOf (ns.map D.int) = some ns
  | [] => rfl
  | n :: ns => by
    show (intsOf (ns.map D.int)).map (n :: ·) = _
    rw [intsOf_map ns]
    rfl
theorem sum_tupG {prog : Program} {w : World} {A : Around} {E : Value → Shared → Prop} {s : Shared} {l : Addr} {xs : Array (Int × Tok)} {Q : Value → Shared → Prop} (hh : A.handled = none) (hl : s.heap.IsTuple l (intItems xs))
    (h : ∀ h' tk t', (∀ b o, s.heap.get? b = some o → h'.get? b = some o) → Q (.int (preSum (numAt xs) xs.size) t') { s with heap := h', toks := tk }) :
    wpAny (model prog w) A (call (.builtin "sum") [.ref l]) Q E s := by
  have hlt : l < s.heap.objs.size := by obtain ⟨_, e, _⟩ := hl; exact Heap.lt_size e
  refine call_sum_walkG (wpAny_pyIter_tuple hl ?_)
  refine ⟨_, _, _, _, _, _, numAt xs, rfl, Walks.tuple (A := A.in1) hh s.heap.objs.size l (Nat.ne_of_lt hlt) (intItems xs), ⟨⟨_, Heap.get?_push_size _ rfl, rfl, rfl⟩, ?_⟩, fun b hb => ?_, (fun _ _ => intItems_at), fun h' tk t' hk => ?_⟩
  · obtain ⟨o, e, r⟩ := hl
    exact ⟨o, Heap.get?_push_of_some _ e, r⟩
  · show b < (s.heap.push _).objs.size
    rw [Heap.size_push]
    rcases List.mem_cons.mp hb with rfl | hb
    · exact Nat.lt_succ_self _
    · rcases List.mem_cons.mp hb with rfl | hb
      · exact Nat.lt_succ_of_lt hlt
      · cases hb
  · have := h h' tk t' fun b o e => by
      refine hk b o (fun hm => ?_) (Heap.get?_push_of_some _ e)
      rcases List.mem_cons.mp hm with e1 | hm
      · exact absurd (e1 ▸ Heap.lt_size e) (Nat.lt_irrefl _)
      · cases hm
    simpa [intItems] using this
theorem sum_rawT {prog : Program} {w : World} {A : Around} {E : Value → Shared → Prop} {s : Shared} {l : Addr} {its : List Value} {ns : List Int} {Q : Value → Shared → Prop} (hh : A.handled = none) (hl : s.heap.IsTuple l its.toArray) (hi : IntsAre its ns)
    (h : ∀ h' tk t', (∀ b o, s.heap.get? b = some o → h'.get? b = some o) → Q (.int ns.sum t') { s with heap := h', toks := tk }) : wpAny (model prog w) A (call (.builtin "sum") [.ref l]) Q E s := by
  obtain ⟨xs, e⟩ := hi.allInts.items
  have hn : numsOf (intItems xs).toList = ns := by rw [← e]; exact hi.numsOf
  rw [nums_intItems] at hn
  rw [e] at hl
  refine sum_tupG hh hl fun h' tk t' hk => ?_
  have := h h' tk t' hk
  rw [preSum_eq, List.take_of_length_le (by simp), hn]
  exact this
theorem cd_sum : CallD F S (.builtin "sum") sumM := fun X sc pins s σ H xs us Q I r ⟨en, Hs, τ, ρ, σ', ds, e0, rs, w⟩ => by
  unfold sumM at w
  split at w
  · split at w
    · rename_i l _ ns hn
      cases rs with
      | cons r1 t =>
        cases t
        obtain ⟨p, vs, rfl, q1, q2⟩ := r1.list e0
        rw [intsOf_eq hn] at q2
        rw [q2.ints] at q1
        exact cr_sum sc.calm pins s σ H _ us Q I r ⟨p, ns, rfl, SqL.of q1, w _ H Hs e0 (Sub.refl _) (.int _)⟩
    · exact w.elim
  · split at w
    · rename_i l _ ns hn
      cases rs with
      | cons r1 t =>
        cases t
        obtain ⟨p, vs, rfl, q1, q2⟩ := r1.tup e0
        rw [intsOf_eq hn] at q2
        rw [q2.ints] at q1
        obtain ⟨its, rv, ht, _⟩ := I.tuple (by rw [sc.K]; exact q1)
        rw [Vals.ref1 r]
        exact sum_rawT (I.ok.hd sc.calm) (show s.heap.IsTuple p its.toArray from ht) (L2.intsAre_of rv) fun h' tk t' hk => ⟨.int _, H, I.kept hk, ⟨_, rfl⟩, w _ H Hs e0 (Sub.refl _) (.int _)⟩
    · exact w.elim
  · exact w.elim
theorem ev_sum (j : Nat) {ms : T (List D)} (h : EvA F S ρ [e] ms) (hj : F.G[j]? = some ((("sum" : Str)), GE.blt) := by rfl) (hv : S.gl.contains j = true := by rfl) (hs : [e].all (fun e => !isStar e) = true := by rfl) : Ev F S ρ (.Call (.Name "sum" p) [e] [] pos) (ms.bind sumM) := cd_sum.ev j h (by decide +kernel) hj hv hs
def maxM : List D → T D
  | [.int i, .int j] => .ret (.int (if j > i then j else i))
  | _ => .stuck
def minM : List D → T D
  | [.int i, .int j] => .ret (.int (if j < i then j else i))
  | _ => .stuck
theorem cd_max : CallD F S (.builtin "max") maxM := fun X sc pins s σ H xs us Q I r ⟨en, Hs, τ, ρ, σ', ds, e0, rs, w⟩ => by
  unfold maxM at w
  split at w
  · cases rs with
    | cons r1 t =>
      cases t with
      | cons r2 t =>
        cases t
        cases r1.told e0 (fun _ z => nomatch z)
        cases r2.told e0 (fun _ z => nomatch z)
        exact call_max2 sc.calm pins s σ H _ us Q I r ⟨_, _, rfl, w _ H Hs e0 (Sub.refl _) (.int _)⟩
  · exact w.elim
theorem cd_min : CallD F S (.builtin "min") minM := fun X sc pins s σ H xs us Q I r ⟨en, Hs, τ, ρ, σ', ds, e0, rs, w⟩ => by
  unfold minM at w
  split at w
  · cases rs with
    | cons r1 t =>
      cases t with
      | cons r2 t =>
        cases t
        cases r1.told e0 (fun _ z => nomatch z)
        cases r2.told e0 (fun _ z => nomatch z)
        exact call_min2 sc.calm pins s σ H _ us Q I r ⟨_, _, rfl, w _ H Hs e0 (Sub.refl _) (.int _)⟩
  · exact w.elim
theorem ev_max (j : Nat) {ms : T (List D)} (h : EvA F S ρ [a, b] ms) (hj : F.G[j]? = some ((("max" : Str)), GE.blt) := by rfl) (hv : S.gl.contains j = true := by rfl) (hs : [a, b].all (fun e => !isStar e) = true := by rfl) : Ev F S ρ (.Call (.Name "max" p) [a, b] [] pos) (ms.bind maxM) := cd_max.ev j h (by decide +kernel) hj hv hs
theorem ev_min (j : Nat) {ms : T (List D)} (h : EvA F S ρ [a, b] ms) (hj : F.G[j]? = some ((("min" : Str)), GE.blt) := by rfl) (hv : S.gl.contains j = true := by rfl) (hs : [a, b].all (fun e => !isStar e) = true := by rfl) : Ev F S ρ (.Call (.Name "min" p) [a, b] [] pos) (ms.bind minM) := cd_min.ev j h (by decide +kernel) hj hv hs
/-! ranges as lists, as tuples -/
def rangeL (a b : Int) : T (List D) := if -(2 ^ 62) ≤ a ∧ a < 2 ^ 62 ∧ -(2 ^ 62) ≤ b ∧ b < 2 ^ 62 ∧ (b - a).toNat ≤ 2 ^ 24 then .ret ((List.range (b - a).toNat).map fun i => D.int (a + (i : Nat))) else .stuck
theorem rep_rg {C : Ct} {g : Gh} {H : Hp} (a b : Int) : RepL C g H ((List.range (b - a).toNat).map fun i => D.int (a + (i : Nat))) (rgV a b) := by
  unfold rgV
  have : ∀ l : List Nat, RepL C g H (l.map fun i => D.int (a + (i : Nat))) (l.map fun i => V.int (a + (i : Nat))) := fun l => by
    induction l with
    | nil => exact .nil
    | cons x xs ih => exact .cons (.int _) ih
  exact this _
def EvR (F : Fx) (S : Sx) (ρ : DEnv) (e : Expr) (m : T (Int × Int)) : Prop := ∀ X, SC F S X → ∀ en, ∃ t, PRg X e t ∧ ∀ σ H Q, (∃ Hs τ, EnvOk F.C en Hs τ ρ σ H ∧ m.wp (fun q => ∀ H' Hs', EnvOk F.C en Hs' τ ρ σ H' → Sub Hs Hs' → Q q.1 q.2 H') (excP F S.E en)) → t σ H Q
theorem evr_1 (j : Nat) {m : T D} (h : Ev F S ρ a m) (hj : F.G[j]? = some ((("range" : Str)), GE.blt) := by rfl) (hv : S.gl.contains j = true := by rfl) (hs : isStar a = false := by rfl) : EvR F S ρ (.Call (.Name "range" p) [a] [] pos) (m.bind fun d => (asInt d).bind fun i => .ret (0, i)) := fun X sc en => by
  obtain ⟨h1, h2, h3, q1⟩ := sc.glOk hv hj
  refine ⟨_, prg_1 h1 (by rw [sc.mg]; exact q1) (h X sc en) (star_cons hs _ _), fun σ H Q ⟨Hs, τ, e0, w⟩ => ⟨Hs, τ, e0, T.wp_mono (T.wp_bind.mp w) (fun d w1 v H1 Hs1 e1 s1 r1 => ?_) fun _ _ k => k⟩⟩
  cases d with
  | int i => cases r1; exact ⟨i, rfl, w1 H1 Hs1 e1 s1⟩
  | _ => exact w1.elim
theorem evr_2 (j : Nat) {m m2 : T D} (h : Ev F S ρ a m) (h' : Ev F S ρ b m2) (hj : F.G[j]? = some ((("range" : Str)), GE.blt) := by rfl) (hv : S.gl.contains j = true := by rfl) (hs : isStar a = false := by rfl) (hs' : isStar b = false := by rfl) :
    EvR F S ρ (.Call (.Name "range" p) [a, b] [] pos) (m.bind fun d => m2.bind fun d2 => (asInt d).bind fun i => (asInt d2).bind fun i2 => .ret (i, i2)) := fun X sc en => by
  obtain ⟨h1, h2, h3, q1⟩ := sc.glOk hv hj
  refine ⟨_, prg_2 h1 (by rw [sc.mg]; exact q1) (h X sc en) (h' X sc en) (star_cons hs _ _) (star_cons hs' _ _) (noStar [b] (by rw [List.all_cons, hs']; rfl) _ _), fun σ H Q ⟨Hs, τ, e0, w⟩ => ⟨Hs, τ, e0, T.wp_mono (T.wp_bind.mp w) (fun d w1 v H1 Hs1 e1 s1 r1 => ⟨Hs1, τ, e1, T.wp_mono (T.wp_bind.mp w1) (fun d2 w2 v2 H2 Hs2 e2 s2 r2 => ?_) fun _ _ k => k⟩) fun _ _ k => k⟩⟩
  cases d with
  | int i =>
    cases r1
    cases d2 with
    | int i2 => cases r2; exact ⟨i, i2, rfl, rfl, w2 H2 Hs2 e2 (Sub.trans s1 s2)⟩
    | _ => exact w2.elim
  | _ => exact w2.elim
theorem evl_listRg (j : Nat) {m : T (Int × Int)} (h : EvR F S ρ a m) (hj : F.G[j]? = some ((("list" : Str)), GE.blt) := by rfl) (hv : S.gl.contains j = true := by rfl) (hs : isStar a = false := by rfl) : EvL F S ρ (.Call (.Name "list" p) [a] [] pos) (m.bind fun q => rangeL q.1 q.2) := fun X sc en => by
  obtain ⟨h1, h2, h3, q1⟩ := sc.glOk hv hj
  obtain ⟨t, pr, im⟩ := h X sc en
  refine peW (pe_listRg sc.calm h1 (by rw [sc.mg]; exact q1) pr (star_cons hs _ _)) fun σ H Q ⟨Hs, τ, e0, w⟩ => im _ _ _ ⟨Hs, τ, e0, T.wp_mono (T.wp_bind.mp w) (fun q w1 H1 Hs1 e1 s1 => ?_) fun _ _ k => k⟩
  unfold rangeL at w1
  split at w1
  · exact ⟨by assumption, fun r hr => w1 r _ _ (e1.allocT hr (rep_rg q.1 q.2)) s1⟩
  · exact w1.elim
theorem ev_tupRg (j : Nat) {m : T (Int × Int)} (h : EvR F S ρ a m) (hj : F.G[j]? = some ((("tuple" : Str)), GE.blt) := by rfl) (hv : S.gl.contains j = true := by rfl) (hs : isStar a = false := by rfl) : Ev F S ρ (.Call (.Name "tuple" p) [a] [] pos) (m.bind fun q => (rangeL q.1 q.2).bind fun l => .ret (.tup l)) := fun X sc en => by
  obtain ⟨h1, h2, h3, q1⟩ := sc.glOk hv hj
  obtain ⟨t, pr, im⟩ := h X sc en
  refine peW (pe_tupRg sc.calm h1 (by rw [sc.mg]; exact q1) pr (star_cons hs _ _)) fun σ H Q ⟨Hs, τ, e0, w⟩ => im _ _ _ ⟨Hs, τ, e0, T.wp_mono (T.wp_bind.mp w) (fun q w1 H1 Hs1 e1 s1 => ?_) fun _ _ k => k⟩
  unfold rangeL at w1
  split at w1
  · refine ⟨by assumption, fun r hr => ?_⟩
    have s' : Sub Hs1 (upd Hs1 r (.tup (rgV q.1 q.2))) := sub_upd (e1.wd.none_in hr).1
    exact w1 (.ref r) _ _ (e1.alloc hr _) (Sub.trans s1 s') (.tup (.inl upd_same) ((rep_rg q.1 q.2)))
  · exact w1.elim
end
end MS

/-! Part 7: isinstance, tables of defs, locals that hold defs, what is walked, comprehensions. -/
namespace MS
open PySem PySem.Spec PyProof.Rows L2
section
variable {F : Fx} {S : Sx} {ρ : DEnv} {e a b c o tg iter elt : Expr} {es rest : List Expr} {pos pos' p : Pos} {k : Nat} {f x : Str}
/-! ### isinstance -/
/-- a built-in class as a value -/
theorem ev_ty (j : Nat) {id : String} (hb : bootBuiltins x = some (.type id)) (hj : F.G[j]? = some (x, .blt) := by rfl) (hv : S.gl.contains j = true := by rfl) : Ev F S ρ (.Name x pos) (.ret (.ty id)) := fun X sc en => by
  obtain ⟨h1, h2, h3, q1⟩ := sc.glOk hv hj
  exact peW (pe_bltn (v := .ty id) h1 (by rw [sc.mg]; exact q1) hb rfl h3 h2) fun σ H Q ⟨Hs, τ, e0, w⟩ => w _ H Hs e0 (Sub.refl _) (.ty _)
/-- a class of the text as a value -/
theorem ev_cls (j : Nat) {flds : List Str} {eq : Option (Nat × (List D → T D))} (hj : F.G[j]? = some (x, .cls flds eq) := by rfl) (hv : S.gl.contains j = true := by rfl) : Ev F S ρ (.Name x pos) (.ret (.fn x)) := fun X sc en => by
  obtain ⟨h1, h2, h3, Cl, q1, _⟩ := sc.glOk hv hj
  refine peW (pe_glob (v := .ref Cl) h1 (by rw [sc.mg]; exact q1.mg) rfl h2) fun σ H Q ⟨Hs, τ, e0, w⟩ => w _ H Hs e0 (Sub.refl _) (.fn q1.mg)
/-- .. where no more is known of it -/
theorem ev_clv (j : Nat) (hj : F.G[j]? = some (x, .clv) := by rfl) (hv : S.gl.contains j = true := by rfl) : Ev F S ρ (.Name x pos) (.ret (.fn x)) := fun X sc en => by
  obtain ⟨h1, h2, h3, Cl, q1⟩ := sc.glOk hv hj
  refine peW (pe_glob (v := .ref Cl) h1 (by rw [sc.mg]; exact q1) rfl h2) fun σ H Q ⟨Hs, τ, e0, w⟩ => w _ H Hs e0 (Sub.refl _) (.fn q1)
def tyNm : D → Option String
  | .non => some "NoneType"
  | .bl _ => some "bool"
  | .int _ => some "int"
  | .str _ => some "str"
  | .tup _ => some "tuple"
  | .lst _ => some "list"
  | _ => none
def subTy (a b : String) : Bool := (a == b) || (a == "bool" && b == "int")
theorem kit_sub : ∀ a ∈ btys, ∀ b ∈ btys, kitB a b = some (subTy a b) := by decide +kernel
theorem tyNm_mem {d : D} {t : String} (h : tyNm d = some t) : t ∈ btys := by
  cases d <;> first | (cases h; decide) | cases h
/-- is it of that class? -/
def isOne (clss : List Str) (d : D) : D → Option Bool
  | .ty t => if btys.contains t then (match d with
    | .ins c _ => some false
    | d => (tyNm d).map fun a => subTy a t) else none
  | .fn c => if clss.contains c then (match d with
    | .ins c' _ => some (decide (c' = c))
    | d => (tyNm d).map fun _ => false) else none
  | _ => none
def isAny (clss : List Str) (d : D) : List D → Option Bool
  | [] => some false
  | c :: cs => (match isOne clss d c with
    | some true => some true
    | some false => isAny clss d cs
    | none => none)
def isM (clss : List Str) : List D → T D
  | [d, .tup cs] => (match isAny clss d cs with
    | some b => .ret (.bl b)
    | none => .stuck)
  | [d, c] => (match isOne clss d c with
    | some b => .ret (.bl b)
    | none => .stuck)
  | _ => .stuck
/-- the class of a value, as the rules take it -/
inductive TyD (F : Fx) : D → Value → Prop
  | bt {d : D} {t : String} (h : tyNm d = some t) : TyD F d (.type t)
  | ins {c : Str} {fs : List (Str × D)} {Cl : Addr} (hm : c ∈ F.clss) (hg : F.mg c = some (.ref Cl)) : TyD F (.ins c fs) (.ref Cl)
theorem ty_of {en : Ent} {Hs H : Hp} {τ : List (Addr × D)} {σ : L2.St} {d : D} {v : V} (e : EnvOk F.C en Hs τ ρ σ H) (r : RepO F.C en Hs ρ σ d v) (h : (tyNm d).isSome = true ∨ ∃ c fs, d = .ins c fs) : ∃ t, TyD F d t ∧ TyX F.K H v t := by
  have rn := r.now e
  cases d with
  | non => cases rn; exact ⟨_, .bt rfl, .base .non⟩
  | bl b => cases rn; exact ⟨_, .bt rfl, .base (.bl b)⟩
  | int i => cases rn; exact ⟨_, .bt rfl, .base (.int i)⟩
  | str i => cases rn; exact ⟨_, .bt rfl, .base (.str i)⟩
  | lst l =>
    cases rn with
    | lst q _ => exact ⟨_, .bt rfl, .base (.lst q)⟩
  | tup l =>
    cases rn with
    | tup q _ =>
      rcases q with q | ⟨ob, its, n, q, q2, _⟩
      · exact ⟨_, .bt rfl, .base (.tup q)⟩
      · exact ⟨_, .bt rfl, .kTuple q q2⟩
  | ins c fs =>
    cases rn with
    | ins hc hH rf => exact ⟨_, .ins hc.mem hc.mg, .base (.ins hH hc.cls hc.ha hc.hn hc.htk hc.hm)⟩
  | _ => rcases h with h | ⟨c, fs, h⟩ <;> cases h
theorem one_some {clss : List Str} {d c : D} {t : Bool} (h : isOne clss d c = some t) : (tyNm d).isSome = true ∨ ∃ c fs, d = .ins c fs := by
  cases d with
  | ins c fs => exact .inr ⟨c, fs, rfl⟩
  | _ =>
    cases c <;> first | (cases h; done) | skip
    all_goals
      unfold isOne at h
      simp only at h
      split at h
      · first | exact .inl rfl | cases h
      · cases h
theorem one_ok {X : Cx} (sc : SC F S X) {g : Gh} {H : Hp} {d c : D} {cv : V} {t : Bool} {ty : Value} (hd : TyD F d ty) (rc : Rep F.C g H c cv) (h : isOne F.clss d c = some t) : ∃ u, ClsV cv u ∧ PySem.W.kitOne F.K ty u = some t := by
  cases c with
  | ty tt =>
    cases rc
    refine ⟨_, .ty tt, ?_⟩
    unfold isOne at h
    simp only at h
    split at h
    · rename_i hm
      have hm' : tt ∈ btys := by simpa using hm
      cases hd with
      | ins q1 q2 =>
        cases h
        exact ((sc.kit.1 _ q1 _ q2).1 tt hm').1
      | bt q =>
        rename_i ta
        have h' : (tyNm d).map (fun a => subTy a tt) = some t := by
          cases d <;> first | exact h | cases q
        rw [q] at h'
        cases h'
        exact kit_ty (kit_sub ta (tyNm_mem q) tt hm')
    · cases h
  | fn cc =>
    cases rc with
    | fn hf =>
      rename_i Cl
      refine ⟨_, .own Cl, ?_⟩
      unfold isOne at h
      simp only at h
      split at h
      · rename_i hm
        have hm' : cc ∈ F.clss := by simpa using hm
        cases hd with
        | ins q1 q2 =>
          cases h
          exact (sc.kit.1 cc hm' Cl hf).2 _ q1 _ q2
        | bt q =>
          rename_i ta
          have h' : (tyNm d).map (fun _ => false) = some t := by
            cases d <;> first | exact h | cases q
          rw [q] at h'
          cases h'
          exact ((sc.kit.1 cc hm' Cl hf).1 ta (tyNm_mem q)).2
      · cases h
  | _ => cases h
def clsD : D → Bool
  | .ty _ | .fn _ => true
  | _ => false
theorem cls_any {C : Ct} {g : Gh} {H : Hp} {c : D} {cv : V} (h : clsD c = true) (rc : Rep C g H c cv) : ∃ u, ClsV cv u := by
  cases rc <;> first | cases h | skip
  · exact ⟨_, .own _⟩
  · exact ⟨_, .ty _⟩
theorem any_ok {X : Cx} (sc : SC F S X) {g : Gh} {H : Hp} {d : D} {ty : Value} (hd : TyD F d ty) : ∀ {cs : List D} {cvs : List V} {t : Bool}, RepL F.C g H cs cvs → cs.all clsD = true → isAny F.clss d cs = some t → ∃ us, Paired ClsV cvs us ∧ PySem.W.kitAny F.K ty us = some t
  | [], _, t, .nil, _, h => by
    cases h
    exact ⟨[], .nil, rfl⟩
  | c :: cs, _, t, .cons (v := cv) (vs := cvs) r rs, hc, h => by
    rw [List.all_cons, Bool.and_eq_true] at hc
    unfold isAny at h
    cases q : isOne F.clss d c with
    | none => rw [q] at h; cases h
    | some b =>
      rw [q] at h
      obtain ⟨u, q1, q2⟩ := one_ok sc hd r q
      cases b with
      | true =>
        cases h
        have more : ∀ {cs : List D} {cvs : List V}, RepL F.C g H cs cvs → cs.all clsD = true → ∃ us, Paired ClsV cvs us := fun {cs} => by
          induction cs with
          | nil => intro cvs r _; cases r; exact ⟨[], .nil⟩
          | cons c cs ih =>
            intro cvs r hc
            rw [List.all_cons, Bool.and_eq_true] at hc
            cases r with
            | cons r1 r2 =>
              obtain ⟨u, hu⟩ := cls_any hc.1 r1
              obtain ⟨us, hus⟩ := ih r2 hc.2
              exact ⟨u :: us, .cons hu hus⟩
        obtain ⟨us, hus⟩ := more rs hc.2
        exact ⟨u :: us, .cons q1 hus, kitAny_cons q2 (fun z => nomatch z) fun _ => rfl⟩
      | false =>
        obtain ⟨us, q3, q4⟩ := any_ok sc hd rs hc.2 h
        exact ⟨u :: us, .cons q1 q3, kitAny_cons q2 (fun _ => q4) fun z => nomatch z⟩
theorem any_some {clss : List Str} {d : D} {cs : List D} {t : Bool} (h : isAny clss d cs = some t) (hne : cs ≠ []) : (tyNm d).isSome = true ∨ ∃ c fs, d = .ins c fs := by
  cases cs with
  | nil => exact absurd rfl hne
  | cons c cs =>
    unfold isAny at h
    cases q : isOne clss d c with
    | none => rw [q] at h; cases h
    | some b => exact one_some q
def isinM (clss : List Str) : List D → T D
  | [d, .tup cs] => if cs ≠ [] ∧ cs.all clsD = true then (match isAny clss d cs with
    | some b => .ret (.bl b)
    | none => .stuck) else .stuck
  | [d, c] => (match isOne clss d c with
    | some b => .ret (.bl b)
    | none => .stuck)
  | _ => .stuck
theorem cd_isin : CallD F S (.builtin "isinstance") (isinM F.clss) := fun X sc pins s σ H xs us Q I r ⟨en, Hs, τ, ρ, σ', ds, e0, rs, w⟩ => by
  unfold isinM at w
  split at w
  · rename_i d cs
    split at w
    · rename_i hc
      split at w
      · rename_i b hb
        cases rs with
        | cons r1 t =>
          cases t with
          | cons r2 t =>
            cases t
            obtain ⟨ty, q1, q2⟩ := ty_of e0 r1 (any_some hb hc.1)
            cases r2.told e0 (fun _ z => nomatch z) with
            | tup hq rl =>
              obtain ⟨ws, q3, q4⟩ := any_ok sc q1 rl hc.2 hb
              rcases TupAt.sub e0.wd.sub hq with hq | ⟨ob, its, n, k1, k2, k3, k4, k5⟩
              · exact call_isiT pins s σ H _ us Q I r ⟨_, _, _, ty, ws, b, rfl, hq, q3, by rw [sc.K]; exact q2, by rw [sc.K]; exact q4, w _ H Hs e0 (Sub.refl _) (.bl _)⟩
              · have e3 := ClsV.all q3 k5
                obtain ⟨oc, od, dt, sl⟩ := ob
                simp only at k2 k3
                subst k2 k3
                exact call_isiK pins s σ H _ us Q I r ⟨_, _, od, ws, n, sl, ty, b, rfl, by rw [sc.K, ← e3]; exact k1, by rw [sc.K]; exact q2, by rw [sc.K]; exact q4, w _ H Hs e0 (Sub.refl _) (.bl _)⟩
      · exact w.elim
    · exact w.elim
  · split at w
    · rename_i hb
      cases rs with
      | cons r1 t =>
        cases t with
        | cons r2 t =>
          cases t
          obtain ⟨ty, q1, q2⟩ := ty_of e0 r1 (one_some hb)
          obtain ⟨u, q3, q4⟩ := one_ok sc q1 (r2.now e0) hb
          exact call_isi pins s σ H _ us Q I r ⟨_, _, ty, u, _, rfl, q3, by rw [sc.K]; exact q2, by rw [sc.K]; exact q4, w _ H Hs e0 (Sub.refl _) (.bl _)⟩
    · exact w.elim
  · exact w.elim
theorem ev_isin (j : Nat) {ms : T (List D)} (h : EvA F S ρ [a, b] ms) (hj : F.G[j]? = some ((("isinstance" : Str)), GE.blt) := by rfl) (hv : S.gl.contains j = true := by rfl) (hs : [a, b].all (fun e => !isStar e) = true := by rfl) : Ev F S ρ (.Call (.Name "isinstance" p) [a, b] [] pos) (ms.bind (isinM F.clss)) := cd_isin.ev j h (by decide +kernel) hj hv hs

/-! ### tables of defs -/
def tabIn (kvs : List (Str × Str)) : D → T D
  | .str z => .ret (.bl (kvs.lookup z).isSome)
  | _ => .stuck
def tabNot (kvs : List (Str × Str)) : D → T D
  | .str z => .ret (.bl (!(kvs.lookup z).isSome))
  | _ => .stuck
def tabGet (kvs : List (Str × Str)) : D → T D
  | .str z => (match kvs.lookup z with
    | some y => .ret (.fn y)
    | none => .stuck)
  | _ => .stuck
theorem ns_isSome {kvs : List (Str × Str)} {z : Str} {d : Addr} {r : Option Value} (h : match kvs.lookup z with
    | some y => ∃ f, F.mg y = some (.ref f) ∧ PySem.W.nsIn F.K d z = some (some (.ref f))
    | none => PySem.W.nsIn F.K d z = some none) : ∃ r : Option Value, PySem.W.nsIn F.K d z = some r ∧ r.isSome = (kvs.lookup z).isSome := by
  split at h
  · rename_i y hy
    obtain ⟨f, _, q⟩ := h
    exact ⟨_, q, by rw [hy]; rfl⟩
  · rename_i hy
    exact ⟨_, h, by rw [hy]; rfl⟩
theorem ev_inTab (j : Nat) {kvs : List (Str × Str)} {m : T D} (h : Ev F S ρ a m) (hj : F.G[j]? = some (x, .tab kvs) := by rfl) (hv : S.gl.contains j = true := by rfl) : Ev F S ρ (.Compare a [.In] [.Name x p] pos) (m.bind (tabIn kvs)) := fun X sc en => by
  obtain ⟨h1, h2, h3, d, es, n, q1, q2, q3⟩ := sc.glOk hv hj
  have D2 : KDict X.K X.w d es n := by rw [sc.K, sc.w]; exact q2
  refine peW (pe_cmpR (op_in_kd D2) (h X sc en) (pe_glob (v := .ref d) h1 (by rw [sc.mg]; exact q1) rfl h2) rfl) fun σ H Q ⟨Hs, τ, e0, w⟩ => ⟨Hs, τ, e0, T.wp_mono (T.wp_bind.mp w) (fun dd w1 v H1 Hs1 e1 s1 r1 => ?_) fun _ _ k => k⟩
  cases dd with
  | str z =>
    cases r1
    obtain ⟨r, y1, y2⟩ := ns_isSome (r := none) (q3 z)
    exact ⟨z, r, rfl, rfl, by rw [sc.K]; exact y1, by rw [y2]; exact w1 _ H1 Hs1 e1 s1 (.bl _)⟩
  | _ => exact w1.elim
theorem evt_inTab (j : Nat) {kvs : List (Str × Str)} {m : T D} (h : Ev F S ρ a m) (hj : F.G[j]? = some (x, .tab kvs) := by rfl) (hv : S.gl.contains j = true := by rfl) : EvT F S ρ (.Compare a [.In] [.Name x p] pos) ((m.bind (tabIn kvs)).bind asBool) := fun X sc en => by
  obtain ⟨h1, h2, h3, d, es, n, q1, q2, q3⟩ := sc.glOk hv hj
  have D2 : KDict X.K X.w d es n := by rw [sc.K, sc.w]; exact q2
  refine ptW (pt_cmpR (op_in_kd D2) (h X sc en) (pe_glob (v := .ref d) h1 (by rw [sc.mg]; exact q1) rfl h2) rfl) fun σ H Q ⟨Hs, τ, e0, w⟩ => ⟨Hs, τ, e0, T.wp_mono (T.wp_bind.mp (T.wp_bind.mp w)) (fun dd w1 v H1 Hs1 e1 s1 r1 => ?_) fun _ _ k => k⟩
  cases dd with
  | str z =>
    cases r1
    obtain ⟨r, y1, y2⟩ := ns_isSome (r := none) (q3 z)
    exact ⟨z, r, rfl, rfl, by rw [sc.K]; exact y1, _, rfl, by rw [y2]; exact w1 H1 Hs1 e1 s1⟩
  | _ => exact w1.elim
theorem evt_notTab (j : Nat) {kvs : List (Str × Str)} {m : T D} (h : Ev F S ρ a m) (hj : F.G[j]? = some (x, .tab kvs) := by rfl) (hv : S.gl.contains j = true := by rfl) : EvT F S ρ (.Compare a [.NotIn] [.Name x p] pos) ((m.bind (tabNot kvs)).bind asBool) := fun X sc en => by
  obtain ⟨h1, h2, h3, d, es, n, q1, q2, q3⟩ := sc.glOk hv hj
  have D2 : KDict X.K X.w d es n := by rw [sc.K, sc.w]; exact q2
  refine ptW (pt_cmpR (op_notIn_kd D2) (h X sc en) (pe_glob (v := .ref d) h1 (by rw [sc.mg]; exact q1) rfl h2) rfl) fun σ H Q ⟨Hs, τ, e0, w⟩ => ⟨Hs, τ, e0, T.wp_mono (T.wp_bind.mp (T.wp_bind.mp w)) (fun dd w1 v H1 Hs1 e1 s1 r1 => ?_) fun _ _ k => k⟩
  cases dd with
  | str z =>
    cases r1
    obtain ⟨r, y1, y2⟩ := ns_isSome (r := none) (q3 z)
    exact ⟨z, r, rfl, rfl, by rw [sc.K]; exact y1, _, rfl, by rw [y2]; exact w1 H1 Hs1 e1 s1⟩
  | _ => exact w1.elim
theorem ev_tab (j : Nat) {kvs : List (Str × Str)} {m : T D} (h : Ev F S ρ b m) (hj : F.G[j]? = some (x, .tab kvs) := by rfl) (hv : S.gl.contains j = true := by rfl) (hp : ∀ o i, subscripted b false o i = operate [o, i] (getItem o i) := by intro _ _; rfl) : Ev F S ρ (.Subscript (.Name x p) b pos) (m.bind (tabGet kvs)) := fun X sc en => by
  obtain ⟨h1, h2, h3, d, es, n, q1, q2, q3⟩ := sc.glOk hv hj
  have D2 : KDict X.K X.w d es n := by rw [sc.K, sc.w]; exact q2
  have rule : IxR X (fun x y H Q => ∃ (z : Str) (u0 : Value) (v0 : V), x = .ref d ∧ y = .str z ∧ PySem.W.nsIn X.K d z = some (some u0) ∧ RelV v0 u0 ∧ Q v0 H) := by
    intro value slice pins s σ H x y v u Q I rx ry h hs
    obtain ⟨z, u0, v0, rfl, rfl, q⟩ := h
    cases rx
    exact tail_any (kd_type D2 I) slot_dict_getitem.lookup (op_item_kd D2 pins s σ H (.ref d) (.str z) _ u Q I rfl ry ⟨z, u0, v0, rfl, rfl, q⟩) hs
  refine peW (pe_ix rule (pe_glob (v := .ref d) h1 (by rw [sc.mg]; exact q1) rfl h2) (h X sc en) hp) fun σ H Q ⟨Hs, τ, e0, w⟩ => ⟨Hs, τ, e0, T.wp_mono (T.wp_bind.mp w) (fun dd w1 v H1 Hs1 e1 s1 r1 => ?_) fun _ _ k => k⟩
  cases dd with
  | str z =>
    cases r1
    have := q3 z
    unfold tabGet at w1
    simp only at w1
    split at w1
    · rename_i y hy
      rw [hy] at this
      obtain ⟨g, y1, y2⟩ := this
      exact ⟨z, _, .ref g, rfl, rfl, by rw [sc.K]; exact y2, rfl, w1 _ H1 Hs1 e1 s1 (.fn y1)⟩
    · exact w1.elim
  | _ => exact w1.elim
/-! ### a local that holds a def -/
def callL (tbl : List (Str × (List D → T D))) (d : D) (ms : T (List D)) : T D := match d with
  | .fn y => (match tbl.lookup y with
    | some m => ms.bind m
    | none => .stuck)
  | _ => .stuck
def TblOk (F : Fx) (S : Sx) : List (Str × (List D → T D)) → Prop
  | [] => True
  | (y, m) :: r => (∃ (j lev : Nat) (ps : List Str) (kw : List (List Str × List Nat)), S.kn.contains j = true ∧ F.G[j]? = some (y, .fn lev ps m kw) ∧ Nat.ble lev S.L = true) ∧ TblOk F S r
theorem tbl_get {y : Str} {m : List D → T D} : ∀ {tbl : List (Str × (List D → T D))}, TblOk F S tbl → tbl.lookup y = some m → ∃ (j lev : Nat) (ps : List Str) (kw : List (List Str × List Nat)), S.kn.contains j = true ∧ F.G[j]? = some (y, .fn lev ps m kw) ∧ Nat.ble lev S.L = true
  | [], _, h => by cases h
  | (z, m') :: r, ⟨h1, h2⟩, h => by
    rw [List.lookup_cons] at h
    cases q : y == z with
    | true =>
      rw [q] at h
      have e : y = z := eq_of_beq q
      cases h
      rw [e]
      exact h1
    | false =>
      rw [q] at h
      exact tbl_get h2 h
theorem ev_callL (i : Nat) {d : D} (tbl : List (Str × (List D → T D))) {ms : T (List D)} (h : EvV F S ρ (e :: es) ms) (ht : TblOk F S tbl) (hρ : ρ[i]? = some (some (false, d)) := by rfl) (hi : S.N[i]? = some x := by rfl) (hv : S.vl.contains i = true := by rfl)
    (hs : (e :: es).all (fun e => !isStar e) = true := by rfl) : Ev F S ρ (.Call (.Name x p) (e :: es) [] pos) (callL tbl d ms) := fun X sc en => by
  obtain ⟨h1, h2, h3⟩ := sc.visOk hv hi
  rw [List.all_cons, Bool.and_eq_true, Bool.not_eq_true'] at hs
  refine ⟨fun pins s σ H Q I hr => ?_⟩
  obtain ⟨Hs, τ, e0, w⟩ := hr
  unfold callL at w
  split at w
  · rename_i y
    split at w
    · rename_i m hl
      obtain ⟨j, lev, ps, kw, k1, k2, k3⟩ := tbl_get ht hl
      obtain ⟨hm, g', fd, q1, q2, q3, q4, q5⟩ := sc.ke j y _ k1 k2
      have FO : FnOk X.prog X.w X.K X.mg X.base F.CX lev g' fd ps (spM F ps.length m) := by rw [sc.prog, sc.w, sc.K, sc.mg, sc.base]; exact q2
      obtain ⟨v, y1, y2⟩ := e0.fro i _ hρ
      cases y2 with
      | fn hf =>
        rename_i g
        have hg : F.mg y = some (.ref g) := hf
        rw [q1] at hg
        cases hg
        refine (pe_callL (i := i) (ds := []) (dvs := []) FO (sc.room.mono (Nat.le_of_ble_eq_true k3)) (by rw [sc.N]; exact hi) h1 (by rw [sc.K]; exact q3) (by rw [sc.K]; exact q4) .nil sc.pass (h X sc en) h2 h3 (star_cons hs.1 _ _) (noStar _ hs.2 _ _)).run pins s σ H Q I ⟨y1, Hs, τ, e0, T.wp_mono (T.wp_bind.mp w) (fun ds w1 vs H1 Hs1 e1 s1 r1 => ?_) fun _ _ k => k⟩
        show spM F ps.length m (vs ++ []) H1 Q S.E
        rw [List.append_nil]
        refine ⟨en.g, Hs1, ds, e1.wd.sub, e1.wd.deal, e1.wd.gout, r1, ?_, T.wp_mono w1 (fun d k v Hs' H' w' r => k v H' Hs' (e1.step (Wd.trans e1.wd w') w'.ext w'.new fun a u ng q _ => w'.same a u ng q) (Sub.trans s1 w'.ext) r) fun c fs k => excP.in e1.wd (Sub.refl _) (fun _ _ q => .inl q) k⟩
        by_cases hd : ds.length = ps.length
        · exact hd
        · rw [hm ds hd] at w1
          exact w1.elim
    · exact w.elim
  · exact w.elim
end
end MS

/-! Part 8: what is walked; comprehensions. -/
namespace MS
open PySem PySem.Spec PyProof.Rows L2
/-! ### enumerate of a tuple -/
theorem meets_enumT (l : Addr) (items : Array Value) (n : Nat) (dct : Option Addr) (sl : Array (Option Value)) :
    Meets (Builtin.«enumerate.__new__» ⟨[.type "enumerate", .ref l], []⟩) (fun _ R s => s.heap.get? l = some { cls := .type "tuple", data := .seq items n, dict := dct, slots := sl } ∧
      R (.ok (.ret (.ref (s.heap.push { cls := .type "tuple_iterator", data := .fields #[.ref l, .int 0 0] }).objs.size)))
        { s with heap := (s.heap.push { cls := .type "tuple_iterator", data := .fields #[.ref l, .int 0 0] }).push { data := .fields #[.none, .bool false, .ref s.heap.objs.size, rawInt 0, .none, .none], cls := .type "enumerate" } }) :=
  .of_wp fun prog w A R s h => by
    obtain ⟨hp, g, d, tk, os⟩ := s
    obtain ⟨hl, h⟩ := h
    have hsub := sub_enumerate
    have hL : Heap.IsTuple (Shared.heap ⟨hp, g, d, tk, os⟩) l items := ⟨_, hl, rfl, n, rfl⟩
    wp_walk using AutoSeq1.wpAny_loadPart' hl
    refine wpAny_stack_any fun st => wpAny_pure ?_
    split
    · rename_i c _ _ _ _ _
      cases (c == Value.type "enumerate")
      all_goals
        wp_walk using AutoSeq1.wpAny_loadPart' hl, wpAny_pyIter_tuple hL
        exact ⟨_, rfl, h⟩
    · wp_walk using AutoSeq1.wpAny_loadPart' hl, wpAny_pyIter_tuple hL
      exact ⟨_, rfl, h⟩
section
variable {prog : Program} {w : World} {A : Around} {E : Value → Shared → Prop} {s : Shared}
theorem call_enumT {l : Addr} {items : Array Value} {Q : Value → Shared → Prop} (hL : s.heap.IsTuple l items)
    (h : ∀ h', IsEnum h' (s.heap.objs.size + 1) s.heap.objs.size 0 .none → h'.IsTupleIter s.heap.objs.size l 0 → h'.objs.size = s.heap.objs.size + 2 → (∀ b o, s.heap.get? b = some o → h'.get? b = some o) → Q (.ref (s.heap.objs.size + 1)) { s with heap := h' }) :
    wpAny (model prog w) A (call (.type "enumerate") [.ref l]) Q E s := by
  obtain ⟨⟨c, dct, dt, sl⟩, hl, hc, n, hd⟩ := hL
  have hc' : c = .type "tuple" := hc
  have hd' : dt = .seq items n := hd
  subst hc' hd'
  refine callType_new F.called_enumerate (by decide) (F.typeCall_enumerate_1 _) (F.newCall_enumerate_1 _) (fun obj => F.args_object_init_2 obj _) F.entry_enumerate_new (meets_enumT l items n dct sl) ⟨hl, ?_⟩
  have hz : (s.heap.push { cls := .type "tuple_iterator", data := .fields #[.ref l, .int 0 0] }).objs.size = s.heap.objs.size + 1 := Heap.size_push ..
  show _ ∧ _
  rw [hz]
  have he : IsEnum ((s.heap.push { cls := .type "tuple_iterator", data := .fields #[.ref l, .int 0 0] }).push { data := .fields #[.none, .bool false, .ref s.heap.objs.size, rawInt 0, .none, .none], cls := .type "enumerate" }) (s.heap.objs.size + 1) s.heap.objs.size 0 .none := by
    have q := Heap.get?_push_size (s.heap.push { cls := .type "tuple_iterator", data := .fields #[.ref l, .int 0 0] }) (o := { data := .fields #[.none, .bool false, .ref s.heap.objs.size, rawInt 0, .none, .none], cls := .type "enumerate" }) rfl
    rw [hz] at q
    exact q
  exact ⟨⟨_, he, rfl⟩, h _ he ⟨_, Heap.get?_push_of_some _ (Heap.get?_push_size _ rfl), rfl, rfl⟩ (by rw [Heap.size_push, hz]) fun b o x => Heap.get?_push_of_some _ (Heap.get?_push_of_some _ x)⟩
end
/-- the tuple at a, each item in a new pair with its number -/
def IteT (K : PySem.W.Frag) (a : Addr) : It :=
  ⟨fun i H => ∃ (xs : List V) (x : V), SqT K H a xs ∧ xs[i]? = some x, fun i H v H' => ∃ T x, v = .ref T ∧ H T = none ∧ H' = upd H T (.tup [.int (i : Nat), x]) ∧ ∀ xs, SqT K H a xs → xs[i]? = some x, fun i H => ∃ xs : List V, SqT K H a xs ∧ xs.length = i⟩
theorem turn_enumT {P : Program} {w : World} {K : PySem.W.Frag} {elts : List Expr} {kk : Nat} {tpos : Pos} (a e it : Addr) :
    Turn P w K (.Tuple elts kk tpos) (IteT K a) [e, it] e (fun i h => (∃ old, IsEnum h e it ((i : Nat) : Int) old) ∧ h.IsTupleIter it a i ∧ e ≠ it ∧ a ≠ it ∧ a ≠ e) where
  mem := by simp
  obj := fun i h st b hb => by
    obtain ⟨⟨old, he⟩, ⟨o, ho, hc, hd⟩, _⟩ := st
    have e' : b = e ∨ b = it := by simpa using hb
    rcases e' with z | z
    · subst z
      exact ⟨_, he, fun v q => nomatch q⟩
    · subst z
      exact ⟨o, ho, fun v q => by rw [hd] at q; cases q⟩
  keep := fun i h h' st k => let ⟨⟨old, he⟩, hi, hne⟩ := st; ⟨⟨old, k e (by simp) _ he⟩, hi.at fun o q => k it (by simp) o q, hne⟩
  item := by
    intro X hP hw hK hc i pins s σ H E I hf st hg
    subst hP hw hK
    obtain ⟨⟨old, he⟩, hit, hne, hai, hae⟩ := st
    obtain ⟨xs, x, hq, hx⟩ := hg
    obtain ⟨its, rv, pt, hz⟩ := I.tuple hq
    obtain ⟨u, hu, ru⟩ := rv.get hx
    have hel : e < s.heap.objs.size := Heap.lt_size he
    have hil : it < s.heap.objs.size := by obtain ⟨_, q, _⟩ := hit; exact Heap.lt_size q
    have hlt : i < its.toArray.size := by
      rw [List.size_toArray]
      exact (List.getElem?_eq_some_iff.mp hu).1
    refine wpAny_pyNext_enum_itemD (Draws.tuple (prog := X.prog) (w := X.w) (A := X.A.in1) (I.ok.hd hc) it a hai its.toArray) he ⟨hit, show s.heap.IsTuple a its.toArray from pt⟩ hlt hne (by simp; exact ⟨hne, Ne.symm hae⟩) fun y h' tk hy ho hst' hT hsz hk => ?_
    have ey : y = u := by
      have q : its[i]? = some y := by simpa using hy
      rw [hu] at q
      exact (Option.some.inj q).symm
    subst ey
    refine ⟨_, rfl, wpAny_letOwnedTupleGo_enum (s := { s with heap := h', toks := tk + 1 }) ho fun h'' he' sb => ?_⟩
    have hT2 : h''.get? s.heap.objs.size = some { cls := .type "tuple", data := .seq #[.int i tk, y] } := (sb.2 _ (Nat.ne_of_gt hel)).trans hT
    have new : ObjOk X.prog X.w (upd H s.heap.objs.size (.tup [.int (i : Nat), x])) h'' s.heap.objs.size (.tup [.int (i : Nat), x]) :=
      ⟨by show 2 ≤ sizeLine; decide, [.int i tk, y], .cons ⟨_, rfl⟩ (.cons ru .nil), ⟨_, hT2, rfl, _, rfl⟩⟩
    have I1 : Inv X pins σ (upd H s.heap.objs.size (.tup [.int (i : Nat), x])) { s with heap := h'', toks := tk + 1 } :=
      I.turnedNew (ch := [e, it]) (fun b ob hb q => (sb.2 b (fun z => hb (by simp [z]))).trans (hk b ob (fun z => hb (by simp [z])) (fun z => hb (by simp [z])) q)) hf (Nat.le_refl _) new
    refine ⟨.ref s.heap.objs.size, _, I1, rfl, ⟨_, x, rfl, I.hok.fresh (Nat.le_refl _), rfl, fun ys hy => by rw [I.tuple_inj hy hq]; exact hx⟩, ⟨⟨y, ?_⟩, hst'.1.at fun o q => (sb.2 it (Ne.symm hne)).trans q, hne, hai, hae⟩, fun b hb => ?_⟩
    · have e1 : ((i + 1 : Nat) : Int) = (i : Int) + 1 := by omega
      rw [e1]
      exact he'
    · have hb' : b < s.heap.objs.size := by
        have e' : b = e ∨ b = it := by simpa using hb
        rcases e' with z | z
        · subst z; exact hel
        · subst z; exact hil
      rw [upd_ne (Nat.ne_of_lt hb')]
      exact (hf b hb).1
  done := by
    intro X hP hw hK hc i pins s σ H E I hf st hg
    subst hP hw hK
    obtain ⟨⟨old, he⟩, hit, hne, hai, hae⟩ := st
    obtain ⟨xs, hq, hx⟩ := hg
    obtain ⟨its, rv, pt, hz⟩ := I.tuple hq
    obtain ⟨f0, f1, f2, f3, f4, f5⟩ := hf it (by simp)
    have hl := rv.length
    have hpt : s.heap.IsTuple a its.toArray := pt
    have hn : its.toArray.size = i := by rw [List.size_toArray, ← hl]; exact hx
    exact wpAny_pyNext_enum_endD (Draws.tuple (prog := X.prog) (w := X.w) (A := X.A.in1) (I.ok.hd hc) it a hai its.toArray) he ⟨by rw [hn]; exact hit, hpt⟩ fun h' eb => ⟨rfl, I.turned (t' := s.toks) (fun b o hb q => eb b o hb q) f0 f1 f3 f4 f5⟩
  self := fun A i s Q E st h => let ⟨⟨_, he⟩, _⟩ := st; wpAny_pyIter_enum he h

/-! ### what is walked, by values -/
section
variable {F : Fx} {S : Sx} {ρ : DEnv} {e a b c o tg iter elt : Expr} {es rest : List Expr} {pos pos' p : Pos} {k : Nat} {f x : Str}
/-- the source stays as it is -/
def Keeps (src : Option Nat) (ρ : DEnv) (σ : L2.St) (ρ2 : DEnv) (σ2 : L2.St) : Prop := match src with
  | none => True
  | some i => ρ2[i]? = ρ[i]? ∧ σ2[i]? = σ[i]?
/-- J yields these, one after another -/
def YOk (C : Ct) (en : Ent) (J : It) (Hs : Hp) (items : List D) (src : Option Nat) (ρ : DEnv) (σ : L2.St) : Prop := ∀ Hs2 τ2 ρ2 σ2 H2 n, EnvOk C en Hs2 τ2 ρ2 σ2 H2 → Sub Hs Hs2 → Keeps src ρ σ ρ2 σ2 → n ≤ items.length →
  (n = items.length → J.stop n H2) ∧ ∀ d, items[n]? = some d → J.go n H2 ∧ ∀ x H3, J.yld n H2 x H3 → ∃ Hs3, EnvOk C en Hs3 τ2 ρ2 σ2 H3 ∧ Sub Hs2 Hs3 ∧ Rep C en.g Hs3 d x
def EvI (F : Fx) (S : Sx) (ρ : DEnv) (tg iter : Expr) (src : Option Nat) (m : T (List D)) : Prop := ∀ X, SC F S X → ∀ en, ∃ wi, PI X tg iter wi ∧ ∀ σ H R, (∃ Hs τ, EnvOk F.C en Hs τ ρ σ H ∧
  m.wp (fun items => ∀ J H' Hs', EnvOk F.C en Hs' τ ρ σ H' → Sub Hs Hs' → YOk F.C en J Hs' items src ρ σ → R J H') (excP F S.E en)) → wi σ H R
/-- a list or a tuple -/
def iSeq (K : PySem.W.Frag) (tl : TE) : TI := fun σ H R => tl σ H fun x H1 => ∃ a, x = .ref a ∧ (((∃ xs, SqL K H1 a xs) ∧ R (Itl K a) H1) ∨ ((∃ xs, SqT K H1 a xs) ∧ R (Itt K a) H1))
theorem pi_seq {X : Cx} {l : Expr} {tl : TE} (hl : PE X l tl) : PI X tg l (iSeq X.K tl) := by
  refine ⟨fun pins s σ H R I h => ?_⟩
  refine thn (hl.run pins s σ H _ I h) fun v s1 ⟨x, H1, I1, r1, q1⟩ => ?_
  obtain ⟨a, ex, q⟩ := q1
  subst ex
  cases r1
  have fp : ∀ b ∈ [s1.heap.objs.size], FpOk X pins H1 b := fun b hb => by
    have eb : b = s1.heap.objs.size := by simpa using hb
    subst eb
    exact I1.fpOk (Nat.le_refl _) (I1.hok.fresh (Nat.le_refl _))
  rcases q with ⟨⟨xs, hq⟩, q⟩ | ⟨⟨xs, hq⟩, q⟩
  · obtain ⟨its, rv, pl, hz⟩ := I1.list hq
    refine wpAny_pyIter_list pl.isList ?_
    exact ⟨s1.heap.objs.size, [s1.heap.objs.size], _, _, H1, rfl, I1.kept (t' := s1.toks) fun b o e => Heap.get?_push_of_some _ e, turn_list a _, ⟨_, Heap.get?_push_size _ rfl, rfl, rfl⟩, fp, q⟩
  · obtain ⟨its, rv, pl, hz⟩ := I1.tuple hq
    refine wpAny_pyIter_tuple (show s1.heap.IsTuple a its.toArray from pl) ?_
    exact ⟨s1.heap.objs.size, [s1.heap.objs.size], _, _, H1, rfl, I1.kept (t' := s1.toks) fun b o e => Heap.get?_push_of_some _ e, turn_tuple a _, ⟨_, Heap.get?_push_size _ rfl, rfl, rfl⟩, fp, q⟩
def seqM : D → T (List D)
  | .tup l => .ret l
  | .lst l => .ret l
  | _ => .stuck
theorem yok_list {C : Ct} {en : Ent} {Hs : Hp} {p : Addr} {ds : List D} {src : Option Nat} {σ : L2.St} (h : ∀ Hs2 τ2 ρ2 σ2 H2, EnvOk C en Hs2 τ2 ρ2 σ2 H2 → Sub Hs Hs2 → Keeps src ρ σ ρ2 σ2 → ∃ vs, SqL C.K H2 p vs ∧ RepL C en.g Hs2 ds vs) : YOk C en (Itl C.K p) Hs ds src ρ σ := fun Hs2 τ2 ρ2 σ2 H2 n e s kp hn => by
  obtain ⟨vs, hq, rl⟩ := h Hs2 τ2 ρ2 σ2 H2 e s kp
  refine ⟨fun en => ⟨vs, hq, by rw [en, rl.length]; exact Nat.le_refl _⟩, fun d hd => ?_⟩
  obtain ⟨v, hv, rv⟩ := rl.get hd
  refine ⟨⟨vs, v, hq, hv⟩, fun x H3 y => ?_⟩
  obtain ⟨rfl, y⟩ := y
  have := (y vs hq).symm.trans hv
  cases this
  exact ⟨Hs2, e, Sub.refl _, rv⟩
theorem yok_tup {C : Ct} {en : Ent} {Hs : Hp} {p : Addr} {ds : List D} {vs : List V} {src : Option Nat} {σ : L2.St} (hq : TupAt C.K Hs p vs) (rl : RepL C en.g Hs ds vs) : YOk C en (Itt C.K p) Hs ds src ρ σ := fun Hs2 τ2 ρ2 σ2 H2 n e s kp hn => by
  have hq2 : SqT C.K H2 p vs := ((hq.sub s).sub e.wd.sub).seq
  refine ⟨fun en => ⟨vs, hq2, by rw [en, rl.length]; exact Nat.le_refl _⟩, fun d hd => ?_⟩
  obtain ⟨v, hv, rv⟩ := rl.get hd
  refine ⟨⟨vs, v, hq2, hv⟩, fun x H3 y => ?_⟩
  obtain ⟨rfl, y⟩ := y
  have := (y vs hq2).symm.trans hv
  cases this
  exact ⟨Hs2, e, Sub.refl _, rv.sub s⟩
theorem evi_seq {m : T D} (h : Ev F S ρ iter m) : EvI F S ρ tg iter none (m.bind seqM) := fun X sc en => by
  refine ⟨_, pi_seq (h X sc en), fun σ H R ⟨Hs, τ, e0, w⟩ => ⟨Hs, τ, e0, T.wp_mono (T.wp_bind.mp w) (fun d w1 v H1 Hs1 e1 s1 r1 => ?_) fun _ _ k => k⟩⟩
  rw [sc.K]
  cases d with
  | tup ds =>
    cases r1 with
    | tup hq rl => exact ⟨_, rfl, .inr ⟨⟨_, (hq.sub e1.wd.sub).seq⟩, w1 _ H1 Hs1 e1 s1 (yok_tup hq rl)⟩⟩
  | lst ds =>
    cases r1 with
    | lst hq rl => exact ⟨_, rfl, .inl ⟨⟨_, SqL.of (e1.wd.sub _ _ hq)⟩, w1 _ H1 Hs1 e1 s1 (yok_list fun Hs2 τ2 ρ2 σ2 H2 e s _ => ⟨_, SqL.of (e.wd.sub _ _ (s _ _ hq)), rl.sub s⟩)⟩⟩
  | _ => exact w1.elim
/-- a list of one's own that a name holds -/
theorem evi_own (i : Nat) {x : Str} {ds : List D} (hρ : ρ[i]? = some (some (true, .lst ds)) := by rfl) (hi : S.N[i]? = some x := by rfl) (hv : S.vl.contains i = true := by rfl) : EvI F S ρ tg (.Name x pos) (some i) (.ret ds) := fun X sc en => by
  obtain ⟨h1, h2, h3⟩ := sc.visOk hv hi
  refine ⟨_, pi_seq (pe_var (i := i) (by rw [sc.N]; exact hi) h1 h2 h3), fun σ H R ⟨Hs, τ, e0, w⟩ => ?_⟩
  obtain ⟨a, q1, q2⟩ := e0.own i _ hρ
  have get : ∀ Hs2 τ2 ρ2 σ2 H2, EnvOk F.C en Hs2 τ2 ρ2 σ2 H2 → Sub Hs Hs2 → Keeps (some i) ρ σ ρ2 σ2 → ∃ vs, SqL F.C.K H2 a vs ∧ RepL F.C en.g Hs2 ds vs := fun Hs2 τ2 ρ2 σ2 H2 e s kp => by
    obtain ⟨k1, k2⟩ := kp
    obtain ⟨a', y1, y2⟩ := e.own i _ (k1.trans hρ)
    have ea : a' = a := by
      have z := y1.symm.trans (k2.trans q1)
      cases z
      rfl
    subst ea
    obtain ⟨u, y3, y4⟩ := y2.obj
    cases y4 with
    | lst r => exact ⟨_, SqL.of y3, r⟩
  obtain ⟨vs, g1, g2⟩ := get Hs τ ρ σ H e0 (Sub.refl _) ⟨rfl, rfl⟩
  refine ⟨.ref a, q1, a, rfl, .inl ⟨⟨vs, by rw [sc.K]; exact g1⟩, w _ H Hs e0 (Sub.refl _) ?_⟩⟩
  rw [sc.K]
  exact yok_list get
/-! range -/
theorem rng_get {a : Int} {n i : Nat} {d : D} (h : ((List.range n).map fun i => D.int (a + (i : Nat)))[i]? = some d) : i < n ∧ d = .int (a + (i : Nat)) := by
  rw [List.getElem?_map] at h
  by_cases hi : i < n
  · rw [List.getElem?_range hi] at h
    cases h
    exact ⟨hi, rfl⟩
  · rw [List.getElem?_eq_none (by simpa using hi)] at h
    cases h
theorem yok_rng {C : Ct} {en : Ent} {Hs : Hp} {a : Int} {k : Nat} {src : Option Nat} {σ : L2.St} : YOk C en (Itr a k) Hs ((List.range k).map fun i => D.int (a + (i : Nat))) src ρ σ := fun Hs2 τ2 ρ2 σ2 H2 n e s kp hn => by
  refine ⟨fun en => ?_, fun d hd => ?_⟩
  · show k ≤ n
    rw [en, List.length_map, List.length_range]
    exact Nat.le_refl _
  · obtain ⟨h1, h2⟩ := rng_get hd
    subst h2
    refine ⟨h1, fun x H3 y => ?_⟩
    obtain ⟨y1, y2⟩ := y
    subst y1 y2
    exact ⟨Hs2, e, Sub.refl _, .int _⟩
def rng1M : List D → T (List D)
  | [.int j] => rangeD 0 j
  | _ => .stuck
def rng2M : List D → T (List D)
  | [.int i, .int j] => rangeD i j
  | _ => .stuck
theorem evi_rng1 (j : Nat) {ms : T (List D)} (h : EvV F S ρ [a] ms) (hj : F.G[j]? = some ((("range" : Str)), GE.blt) := by rfl) (hv : S.gl.contains j = true := by rfl) (hs : isStar a = false := by rfl) : EvI F S ρ tg (.Call (.Name "range" p) [a] [] pos) none (ms.bind rng1M) := fun X sc en => by
  obtain ⟨h1, h2, h3, q1⟩ := sc.glOk hv hj
  refine ⟨_, pi_range1 h1 (by rw [sc.mg]; exact q1) (h X sc en) (star_cons hs [] _), fun σ H R ⟨Hs, τ, e0, w⟩ => ⟨Hs, τ, e0, T.wp_mono (T.wp_bind.mp w) (fun ds w1 vs H1 Hs1 e1 s1 r1 => ?_) fun _ _ k => k⟩⟩
  unfold rng1M at w1
  split at w1
  · rename_i jj
    cases r1 with
    | cons r1 t =>
      cases t
      cases r1
      unfold rangeD at w1
      split at w1
      · rename_i hr
        obtain ⟨_, _, z1, z2, z3⟩ := hr
        refine ⟨jj, rfl, z1, z2, ?_⟩
        have ez : (jj - 0).toNat = jj.toNat := by rw [Int.sub_zero]
        rw [ez] at w1
        exact w1 _ H1 Hs1 e1 s1 yok_rng
      · exact w1.elim
  · exact w1.elim
theorem evi_rng2 (j : Nat) {ms : T (List D)} (h : EvV F S ρ [a, b] ms) (hj : F.G[j]? = some ((("range" : Str)), GE.blt) := by rfl) (hv : S.gl.contains j = true := by rfl) (hs : isStar a = false := by rfl) (hs2 : isStar b = false := by rfl) : EvI F S ρ tg (.Call (.Name "range" p) [a, b] [] pos) none (ms.bind rng2M) := fun X sc en => by
  obtain ⟨h1, h2, h3, q1⟩ := sc.glOk hv hj
  refine ⟨_, pi_range2 h1 (by rw [sc.mg]; exact q1) (h X sc en) (by rw [star_cons hs, star_cons hs2]; rfl) (by rw [star_cons hs2]; rfl), fun σ H R ⟨Hs, τ, e0, w⟩ => ⟨Hs, τ, e0, T.wp_mono (T.wp_bind.mp w) (fun ds w1 vs H1 Hs1 e1 s1 r1 => ?_) fun _ _ k => k⟩⟩
  unfold rng2M at w1
  split at w1
  · rename_i ii jj
    cases r1 with
    | cons r1 t =>
      cases t with
      | cons r2 t =>
        cases t
        cases r1
        cases r2
        unfold rangeD at w1
        split at w1
        · rename_i hr
          obtain ⟨z1, z2, z3, z4, z5⟩ := hr
          exact ⟨ii, jj, rfl, ⟨z1, z2, z3, z4⟩, w1 _ H1 Hs1 e1 s1 yok_rng⟩
        · exact w1.elim
  · exact w1.elim
/-! pairs -/
def enumD : Nat → List D → List D
  | _, [] => []
  | n, d :: ds => .tup [.int (n : Nat), d] :: enumD (n + 1) ds
theorem enumD_length : ∀ (n : Nat) (ds : List D), (enumD n ds).length = ds.length
  | _, [] => rfl
  | n, _ :: ds => by
    unfold enumD
    rw [List.length_cons, List.length_cons, enumD_length]
theorem enumD_get : ∀ {k : Nat} {ds : List D} {i : Nat} {e : D}, (enumD k ds)[i]? = some e → ∃ d, ds[i]? = some d ∧ e = .tup [.int ((k + i : Nat) : Int), d]
  | _, [], i, e, h => by
    unfold enumD at h
    simp at h
  | k, d :: ds, 0, e, h => by
    unfold enumD at h
    simp at h
    exact ⟨d, rfl, h.symm⟩
  | k, d :: ds, i + 1, e, h => by
    unfold enumD at h
    rw [List.getElem?_cons_succ] at h
    obtain ⟨d', h1, h2⟩ := enumD_get h
    refine ⟨d', by rw [List.getElem?_cons_succ]; exact h1, ?_⟩
    rw [h2]
    have : k + 1 + i = k + (i + 1) := by omega
    rw [this]
def enumM : List D → T (List D)
  | [.tup l] => .ret (enumD 0 l)
  | [.lst l] => .ret (enumD 0 l)
  | _ => .stuck
def iEnumA (K : PySem.W.Frag) (ta : TA) : TI := fun σ H R => ta σ H fun vs H1 => ∃ a xs, vs = [.ref a] ∧ ((SqL K H1 a xs ∧ R (Ite K a) H1) ∨ (SqT K H1 a xs ∧ R (IteT K a) H1))
theorem pi_enumA {X : Cx} {e : Expr} {ta : TA} {p pos tpos : Pos} {elts : List Expr} {kk : Nat} (hg : Gl X "enumerate") (hm : X.mg "enumerate" = none) (ha : PA X [e] ta) (hs : starEach [e] X.env = [(false, eval e X.env)] := by rfl) :
    PI X (.Tuple elts kk tpos) (.Call (.Name "enumerate" p) [e] [] pos) (iEnumA X.K ta) := by
  refine ⟨fun pins s σ H R I h => ?_⟩
  refine Call_ (ld_blt I hg hm boot_enumerate (PyProof.Rows.callWith_type1 (thn (ha.run pos pins s σ H _ I h) fun us s1 ⟨vs, H1, I1, r1, q1⟩ => ?_) hs rfl))
  obtain ⟨a, xs, ex, q1⟩ := q1
  subst ex
  cases r1 with
  | cons r rr =>
    cases rr
    cases r
    have fp : ∀ b ∈ [s1.heap.objs.size + 1, s1.heap.objs.size], FpOk X pins H1 b := fun b hb => by
      have e' : b = s1.heap.objs.size + 1 ∨ b = s1.heap.objs.size := by simpa using hb
      have hle : s1.heap.objs.size ≤ b := by
        rcases e' with z | z
        · rw [z]; exact Nat.le_add_right _ _
        · rw [z]; exact Nat.le_refl _
      exact I1.fpOk hle (I1.hok.fresh hle)
    rcases q1 with ⟨hq, q⟩ | ⟨hq, q⟩
    · obtain ⟨its, rv, p', hz⟩ := I1.list hq
      refine call_enumerate_list p'.isList fun h' he hit hsz hk => wpAny_pyIter_enum he ?_
      exact ⟨s1.heap.objs.size + 1, [s1.heap.objs.size + 1, s1.heap.objs.size], _, _, H1, rfl, I1.kept (t' := s1.toks) hk, turn_enum a (s1.heap.objs.size + 1) s1.heap.objs.size, ⟨⟨.none, he⟩, hit, Nat.succ_ne_self _⟩, fp, q⟩
    · obtain ⟨its, rv, p', hz⟩ := I1.tuple hq
      have p2 : s1.heap.IsTuple a its.toArray := p'
      have hal : a < s1.heap.objs.size := by
        obtain ⟨_, z, _⟩ := p2
        exact Heap.lt_size z
      refine call_enumT p2 fun h' he hit hsz hk => wpAny_pyIter_enum he ?_
      exact ⟨s1.heap.objs.size + 1, [s1.heap.objs.size + 1, s1.heap.objs.size], _, _, H1, rfl, I1.kept (t' := s1.toks) hk, turn_enumT a (s1.heap.objs.size + 1) s1.heap.objs.size, ⟨⟨.none, he⟩, hit, Nat.succ_ne_self _, Nat.ne_of_lt hal, Nat.ne_of_lt (Nat.lt_succ_of_lt hal)⟩, fp, q⟩
/-- a new pair is told -/
theorem pair_told {C : Ct} {en : Ent} {Hs2 H2 : Hp} {τ2 : List (Addr × D)} {ρ2 : DEnv} {σ2 : L2.St} (e : EnvOk C en Hs2 τ2 ρ2 σ2 H2) {t : Addr} (ht : H2 t = none) {d1 d2 : D} {x y : V} (r1 : Rep C en.g Hs2 d1 x) (r2 : Rep C en.g Hs2 d2 y) :
    ∃ Hs3, EnvOk C en Hs3 τ2 ρ2 σ2 (upd H2 t (.tup [x, y])) ∧ Sub Hs2 Hs3 ∧ Rep C en.g Hs3 (.tup [d1, d2]) (.ref t) := by
  have s' : Sub Hs2 (upd Hs2 t (.tup [x, y])) := sub_upd (e.wd.none_in ht).1
  exact ⟨_, e.alloc ht _, s', .tup (.inl upd_same) (.cons (r1.sub s') (.cons (r2.sub s') .nil))⟩
theorem evi_enum (j : Nat) {elts : List Expr} {kk : Nat} {tpos : Pos} {ms : T (List D)} (h : EvV F S ρ [a] ms) (hj : F.G[j]? = some ((("enumerate" : Str)), GE.blt) := by rfl) (hv : S.gl.contains j = true := by rfl) (hs : isStar a = false := by rfl) : EvI F S ρ (.Tuple elts kk tpos) (.Call (.Name "enumerate" p) [a] [] pos) none (ms.bind enumM) := fun X sc en => by
  obtain ⟨h1, h2, h3, q1⟩ := sc.glOk hv hj
  refine ⟨_, pi_enumA h1 (by rw [sc.mg]; exact q1) (h X sc en) (star_cons hs [] _), fun σ H R ⟨Hs, τ, e0, w⟩ => ⟨Hs, τ, e0, T.wp_mono (T.wp_bind.mp w) (fun ds w1 vs H1 Hs1 e1 s1 r1 => ?_) fun _ _ k => k⟩⟩
  rw [sc.K]
  unfold enumM at w1
  split at w1
  · rename_i l
    cases r1 with
    | cons r1 t =>
      cases t
      cases r1 with
      | tup hq rl =>
        rename_i vs1 q
        refine ⟨_, _, rfl, .inr ⟨(hq.sub e1.wd.sub).seq, w1 _ H1 Hs1 e1 s1 fun Hs2 τ2 ρ2 σ2 H2 n e s kp hn => ?_⟩⟩
        have hq2 : SqT F.K H2 q vs1 := ((hq.sub s).sub e.wd.sub).seq
        refine ⟨fun ee => ⟨_, hq2, by rw [ee, enumD_length, rl.length]⟩, fun d hd => ?_⟩
        obtain ⟨d', k1, k2⟩ := enumD_get hd
        obtain ⟨v, hv', rv⟩ := rl.get k1
        refine ⟨⟨_, v, hq2, hv'⟩, fun x H3 y => ?_⟩
        obtain ⟨t, x', y1, y2, y3, y4⟩ := y
        have := (y4 _ hq2).symm.trans hv'
        cases this
        subst y1 y3 k2
        rw [Nat.zero_add]
        exact pair_told e y2 (.int _) (rv.sub s)
  · rename_i l
    cases r1 with
    | cons r1 t =>
      cases t
      cases r1 with
      | lst hq rl =>
        refine ⟨_, _, rfl, .inl ⟨SqL.of (e1.wd.sub _ _ hq), w1 _ H1 Hs1 e1 s1 fun Hs2 τ2 ρ2 σ2 H2 n e s kp hn => ?_⟩⟩
        have hq2 := SqL.of (K := F.K) (e.wd.sub _ _ (s _ _ hq))
        refine ⟨fun ee => ⟨_, hq2, by rw [ee, enumD_length, rl.length]; exact Nat.le_refl _⟩, fun d hd => ?_⟩
        obtain ⟨d', k1, k2⟩ := enumD_get hd
        obtain ⟨v, hv', rv⟩ := rl.get k1
        refine ⟨⟨_, v, hq2, hv'⟩, fun x H3 y => ?_⟩
        obtain ⟨t, x', y1, y2, y3, y4⟩ := y
        have := (y4 _ hq2).symm.trans hv'
        cases this
        subst y1 y3 k2
        rw [Nat.zero_add]
        exact pair_told e y2 (.int _) (rv.sub s)
  · exact w1.elim
def zipD (l m : List D) : List D := List.zipWith (fun x y => .tup [x, y]) l m
def zipM : List D → T (List D)
  | [.tup l, .tup m] => .ret (zipD l m)
  | [.lst l, .lst m] => .ret (zipD l m)
  | _ => .stuck
theorem zipD_get {l m : List D} {i : Nat} {e : D} (h : (zipD l m)[i]? = some e) : ∃ x y, l[i]? = some x ∧ m[i]? = some y ∧ e = .tup [x, y] := by
  unfold zipD at h
  rw [List.getElem?_zipWith] at h
  split at h
  · rename_i x y h1 h2
    cases h
    exact ⟨x, y, h1, h2, rfl⟩
  · cases h
theorem evi_zip (j : Nat) {elts : List Expr} {kk : Nat} {tpos : Pos} {ms : T (List D)} (h : EvV F S ρ [a, b] ms) (hj : F.G[j]? = some ((("zip" : Str)), GE.blt) := by rfl) (hv : S.gl.contains j = true := by rfl) (hs : isStar a = false := by rfl) (hs2 : isStar b = false := by rfl) : EvI F S ρ (.Tuple elts kk tpos) (.Call (.Name "zip" p) [a, b] [] pos) none (ms.bind zipM) := fun X sc en => by
  obtain ⟨h1, h2, h3, q1⟩ := sc.glOk hv hj
  refine ⟨_, RZ.pi_zipA h1 (by rw [sc.mg]; exact q1) (h X sc en) (star_cons hs _ _) (by rw [star_cons hs2]; rfl), fun σ H R ⟨Hs, τ, e0, w⟩ => ⟨Hs, τ, e0, T.wp_mono (T.wp_bind.mp w) (fun ds w1 vs H1 Hs1 e1 s1 r1 => ?_) fun _ _ k => k⟩⟩
  rw [sc.K]
  unfold zipM at w1
  split at w1
  · rename_i l m
    cases r1 with
    | cons r1 t =>
      cases t with
      | cons r2 t =>
        cases t
        cases r1 with
        | tup hq rl =>
          cases r2 with
          | tup hq' rl' =>
            refine ⟨_, _, _, _, rfl, .inr ⟨(hq.sub e1.wd.sub).seq, (hq'.sub e1.wd.sub).seq, w1 _ H1 Hs1 e1 s1 fun Hs2 τ2 ρ2 σ2 H2 n e s kp hn => ?_⟩⟩
            have hq2 := ((hq.sub s).sub e.wd.sub).seq
            have hq2' := ((hq'.sub s).sub e.wd.sub).seq
            refine ⟨fun ee => ⟨_, _, hq2, hq2', ?_⟩, fun d hd => ?_⟩
            · rw [ee, ← rl.length, ← rl'.length]
              unfold zipD
              rw [List.length_zipWith]
              omega
            · obtain ⟨d1, d2, k1, k2, k3⟩ := zipD_get hd
              obtain ⟨v, hv1, rv1⟩ := rl.get k1
              obtain ⟨v', hv2, rv2⟩ := rl'.get k2
              refine ⟨⟨_, _, v, v', hq2, hq2', hv1, hv2⟩, fun x H3 y => ?_⟩
              obtain ⟨t, x', x'', y1, y2, y3, y4, y5⟩ := y
              have := (y4 _ hq2).symm.trans hv1
              cases this
              have := (y5 _ hq2').symm.trans hv2
              cases this
              subst y1 y3 k3
              exact pair_told e y2 (rv1.sub s) (rv2.sub s)
  · rename_i l m
    cases r1 with
    | cons r1 t =>
      cases t with
      | cons r2 t =>
        cases t
        cases r1 with
        | lst hq rl =>
          cases r2 with
          | lst hq' rl' =>
            refine ⟨_, _, _, _, rfl, .inl ⟨SqL.of (e1.wd.sub _ _ hq), SqL.of (e1.wd.sub _ _ hq'), w1 _ H1 Hs1 e1 s1 fun Hs2 τ2 ρ2 σ2 H2 n e s kp hn => ?_⟩⟩
            have hq2 := SqL.of (K := F.K) (e.wd.sub _ _ (s _ _ hq))
            have hq2' := SqL.of (K := F.K) (e.wd.sub _ _ (s _ _ hq'))
            refine ⟨fun ee => ⟨_, _, hq2, hq2', ?_⟩, fun d hd => ?_⟩
            · rw [ee, ← rl.length, ← rl'.length]
              unfold zipD
              rw [List.length_zipWith]
              omega
            · obtain ⟨d1, d2, k1, k2, k3⟩ := zipD_get hd
              obtain ⟨v, hv1, rv1⟩ := rl.get k1
              obtain ⟨v', hv2, rv2⟩ := rl'.get k2
              refine ⟨⟨_, _, v, v', hq2, hq2', hv1, hv2⟩, fun x H3 y => ?_⟩
              obtain ⟨t, x', x'', y1, y2, y3, y4, y5⟩ := y
              have := (y4 _ hq2).symm.trans hv1
              cases this
              have := (y5 _ hq2').symm.trans hv2
              cases this
              subst y1 y3 k3
              exact pair_told e y2 (rv1.sub s) (rv2.sub s)
  · exact w1.elim
end
end MS

/-! Part 9: targets, comprehensions. -/
namespace MS
open PySem PySem.Spec PyProof.Rows L2
/-- exceptions are out of reach -/
def T.noX {α : Type} : T α → T α
  | .ret a => .ret a
  | .exc _ _ => .stuck
  | .stuck => .stuck
  | .draw n k => .draw n fun i => (k i).noX
theorem T.noX_wp {α : Type} {m : T α} {Q : α → Prop} {E E' : Str → List (Str × D) → Prop} (h : m.noX.wp Q E) : m.wp Q E' := by
  induction m with
  | ret a => exact h
  | exc c fs => exact h.elim
  | stuck => exact h
  | draw n k ih => exact fun i hi => ih i (h i hi)
/-! ### slots that are bound -/
def bindD : List Nat → List D → DEnv → DEnv
  | j :: js, d :: ds, ρ => bindD js ds (ρ.set j (some (false, d)))
  | _, _, ρ => ρ
def bindV : List Nat → List V → L2.St → L2.St
  | j :: js, v :: vs, σ => bindV js vs (σ.set j (some v))
  | _, _, σ => σ
theorem bindV_length : ∀ (js : List Nat) (vs : List V) (σ : L2.St), (bindV js vs σ).length = σ.length
  | [], _, _ => rfl
  | _ :: _, [], _ => rfl
  | j :: js, v :: vs, σ => by
    unfold bindV
    rw [bindV_length, List.length_set]
theorem bindV_ne {i : Nat} : ∀ {js : List Nat} {vs : List V} {σ : L2.St}, i ∉ js → (bindV js vs σ)[i]? = σ[i]?
  | [], _, _, _ => rfl
  | _ :: _, [], _, _ => rfl
  | j :: js, v :: vs, σ, h => by
    unfold bindV
    rw [bindV_ne (fun z => h (List.mem_cons_of_mem _ z)), List.getElem?_set_ne fun (z : j = i) => h (by rw [z]; exact List.mem_cons_self ..)]
theorem bindD_length : ∀ (js : List Nat) (vs : List D) (σ : DEnv), (bindD js vs σ).length = σ.length
  | [], _, _ => rfl
  | _ :: _, [], _ => rfl
  | j :: js, v :: vs, σ => by
    unfold bindD
    rw [bindD_length, List.length_set]
theorem bindD_ne {i : Nat} : ∀ {js : List Nat} {vs : List D} {σ : DEnv}, i ∉ js → (bindD js vs σ)[i]? = σ[i]?
  | [], _, _, _ => rfl
  | _ :: _, [], _, _ => rfl
  | j :: js, v :: vs, σ, h => by
    unfold bindD
    rw [bindD_ne (fun z => h (List.mem_cons_of_mem _ z)), List.getElem?_set_ne fun (z : j = i) => h (by rw [z]; exact List.mem_cons_self ..)]
section
variable {C : Ct} {en : Ent} {Hs H Hs' H' : Hp} {τ : List (Addr × D)} {ρ : DEnv} {σ : L2.St}
theorem EnvOk.binds : ∀ {js : List Nat} {ds : List D} {vs : List V} {ρ : DEnv} {σ : L2.St}, EnvOk C en Hs τ ρ σ H → RepL C en.g Hs ds vs → EnvOk C en Hs τ (bindD js ds ρ) (bindV js vs σ) H
  | [], _, _, _, _, e, _ => e
  | _ :: _, _, _, _, _, e, .nil => e
  | j :: js, _, _, ρ, σ, e, .cons r rs => EnvOk.binds (js := js) (e.set j r) rs
/-- not known -/
def unkC (ρ : DEnv) (vs : List Nat) : Bool := vs.all fun v => match ρ[v]? with
  | some (some _) => false
  | _ => true
theorem unk_not {vs : List Nat} (h : unkC ρ vs = true) {i : Nat} {y : Bool × D} (hi : ρ[i]? = some (some y)) : i ∉ vs := fun z => by
  unfold unkC at h
  rw [List.all_eq_true] at h
  have := h i z
  rw [hi] at this
  cases this
theorem EnvOk.unbind {js : List Nat} {ds : List D} {vs : List V} (h : unkC ρ js = true) (e : EnvOk C en Hs τ (bindD js ds ρ) (bindV js vs σ) H) : EnvOk C en Hs τ ρ σ H :=
  e.less (by rw [← bindD_length js ds ρ, ← bindV_length js vs σ]; exact e.len) fun i y q => by
    have n := unk_not h q
    rw [bindD_ne n, bindV_ne n]
    exact ⟨q, rfl⟩
theorem wipe_ne {i : Nat} : ∀ {vs : List Nat}, i ∉ vs → (wipe σ vs)[i]? = σ[i]?
  | [], _ => rfl
  | v :: vs, h => by
    unfold wipe
    rw [List.getElem?_set_ne fun (z : v = i) => h (by rw [z]; exact List.mem_cons_self ..), wipe_ne fun z => h (List.mem_cons_of_mem _ z)]
theorem wipe_mem {i : Nat} {σ : L2.St} (hl : i < σ.length) : ∀ {vs : List Nat}, i ∈ vs → (wipe σ vs)[i]? = some none
  | [], h => by cases h
  | v :: vs, h => by
    unfold wipe
    by_cases z : v = i
    · subst z
      exact List.getElem?_set_self (by rw [wipe_length]; exact hl)
    · rw [List.getElem?_set_ne z]
      rcases List.mem_cons.mp h with q | q
      · exact absurd q.symm z
      · exact wipe_mem hl q
theorem wipe_eq {σ1 σ2 : L2.St} {vs : List Nat} (hl : σ1.length = σ2.length) (h : ∀ i, i ∉ vs → σ1[i]? = σ2[i]?) : wipe σ1 vs = wipe σ2 vs := by
  apply List.ext_getElem?
  intro i
  by_cases m : i ∈ vs
  · by_cases hi : i < σ1.length
    · rw [wipe_mem hi m, wipe_mem (by rw [← hl]; exact hi) m]
    · rw [List.getElem?_eq_none (by rw [wipe_length]; omega), List.getElem?_eq_none (by rw [wipe_length]; omega)]
  · rw [wipe_ne m, wipe_ne m]
    exact h i m
theorem wipe_bind {js vs : List Nat} {xs : List V} {σ : L2.St} (h : ∀ j ∈ js, j ∈ vs) : wipe (bindV js xs (wipe σ vs)) vs = wipe σ vs := by
  apply wipe_eq
  · rw [bindV_length, wipe_length]
  · intro i m
    rw [bindV_ne fun z => m (h i z), wipe_ne m]
theorem EnvOk.wipe {vs : List Nat} (h : unkC ρ vs = true) (e : EnvOk C en Hs τ ρ σ H) : EnvOk C en Hs τ ρ (wipe σ vs) H :=
  e.less (by rw [wipe_length]; exact e.len) fun i y q => ⟨q, wipe_ne (unk_not h q)⟩
theorem EnvOk.unwipe {vs : List Nat} (h : unkC ρ vs = true) (e : EnvOk C en Hs τ ρ (L2.wipe σ vs) H) : EnvOk C en Hs τ ρ σ H :=
  e.less (by rw [← wipe_length σ vs]; exact e.len) fun i y q => ⟨q, (wipe_ne (unk_not h q)).symm⟩
/-! ### what is owned changes -/
theorem Wd.mut {d : D} {p : Addr} {o : HO} (w : Wd en Hs H) (q : Own C en Hs H d p) : Wd en Hs (upd H p o) := by
  refine ⟨fun a u h => ?_, w.ext, w.new, fun a u ng h => ?_, w.deal.keep fun a h => upd_ne fun z => q.outg (by rw [← z]; exact h), w.gout⟩
  · rw [upd_ne fun z => ?_]
    · exact w.sub a u h
    · rw [z, q.outs] at h
      cases h
  · rw [upd_ne fun z => ?_]
    · exact w.same a u ng h
    · rw [z, q.out] at h
      cases h
theorem Own.mut_ne {d : D} {a p : Addr} {o : HO} (q : Own C en Hs H d a) (ne : a ≠ p) : Own C en Hs (upd H p o) d a := by
  obtain ⟨u, h1, h2⟩ := q.obj
  exact ⟨q.out, q.outs, q.outg, u, by rw [upd_ne ne]; exact h1, h2⟩
theorem Own.mut_eq {d : D} {p : Addr} (q : Own C en Hs H d p) {ds : List D} {vs : List V} (r : RepL C en.g Hs ds vs) : Own C en Hs (upd H p (.lst vs)) (.lst ds) p :=
  ⟨q.out, q.outs, q.outg, _, upd_same, .lst r⟩
theorem EnvOk.mutT {p : Addr} {d : D} (e : EnvOk C en Hs ((p, d) :: τ) ρ σ H) {ds : List D} {vs : List V} (r : RepL C en.g Hs ds vs) : EnvOk C en Hs ((p, .lst ds) :: τ) ρ σ (upd H p (.lst vs)) := by
  have q := e.tmp _ (List.mem_cons_self ..)
  have nd := List.nodup_cons.mp e.tdis
  refine ⟨e.wd.mut q, e.fro, fun i d' h => ?_, e.dis, fun x hx => ?_, e.tdis, fun i d' x hx h1 h2 => ?_, e.len⟩
  · obtain ⟨a, h1, h2⟩ := e.own i d' h
    exact ⟨a, h1, h2.mut_ne fun z => e.tsl i d' _ (List.mem_cons_self ..) h (by rw [h1, z])⟩
  · rcases List.mem_cons.mp hx with rfl | hx
    · exact q.mut_eq r
    · exact (e.tmp x (List.mem_cons_of_mem _ hx)).mut_ne fun z => nd.1 (List.mem_map.mpr ⟨x, hx, z⟩)
  · rcases List.mem_cons.mp hx with rfl | hx
    · exact e.tsl i d' (p, d) (List.mem_cons_self ..) h1 h2
    · exact e.tsl i d' x (List.mem_cons_of_mem _ hx) h1 h2
theorem EnvOk.mutO {i : Nat} {p : Addr} {d : D} (e : EnvOk C en Hs τ ρ σ H) (hρ : ρ[i]? = some (some (true, d))) (hσ : σ[i]? = some (some (.ref p))) {ds : List D} {vs : List V} (r : RepL C en.g Hs ds vs) : EnvOk C en Hs τ (ρ.set i (some (true, .lst ds))) σ (upd H p (.lst vs)) := by
  obtain ⟨a, h1, q⟩ := e.own i d hρ
  rw [hσ] at h1
  cases h1
  have hl : i < ρ.length := by
    by_cases hl : i < ρ.length
    · exact hl
    · rw [List.getElem?_eq_none (by simpa using hl)] at hρ
      cases hρ
  have old : ∀ {j : Nat} {y : Bool × D}, (ρ.set i (some (true, .lst ds)))[j]? = some (some y) → (j = i ∧ y = (true, .lst ds)) ∨ (j ≠ i ∧ ρ[j]? = some (some y)) := fun {j y} h => by
    by_cases hj : j = i
    · subst hj
      rw [List.getElem?_set_self hl] at h
      exact .inl ⟨rfl, (Option.some.inj (Option.some.inj h)).symm⟩
    · rw [List.getElem?_set_ne (Ne.symm hj)] at h
      exact .inr ⟨hj, h⟩
  have was : ∀ {j : Nat} {d' : D}, (ρ.set i (some (true, .lst ds)))[j]? = some (some (true, d')) → ∃ d'', ρ[j]? = some (some (true, d'')) := fun {j d'} h => by
    rcases old h with ⟨rfl, _⟩ | ⟨_, z⟩
    · exact ⟨_, hρ⟩
    · exact ⟨_, z⟩
  refine ⟨e.wd.mut q, fun j d' h => ?_, fun j d' h => ?_, fun j k d1 d2 a ne k1 k2 k3 k4 => ?_, fun x hx => ?_, e.tdis, fun j d' x hx k1 k2 => ?_, by rw [List.length_set]; exact e.len⟩
  · rcases old h with ⟨rfl, z⟩ | ⟨ne, z⟩
    · cases z
    · exact e.fro j d' z
  · rcases old h with ⟨rfl, z⟩ | ⟨ne, z⟩
    · cases z
      exact ⟨p, hσ, q.mut_eq r⟩
    · obtain ⟨a, h1, h2⟩ := e.own j d' z
      exact ⟨a, h1, h2.mut_ne fun y => e.dis j i _ _ p ne z hρ (by rw [h1, y]) hσ⟩
  · obtain ⟨_, z1⟩ := was k1
    obtain ⟨_, z2⟩ := was k2
    exact e.dis j k _ _ a ne z1 z2 k3 k4
  · exact (e.tmp x hx).mut_ne fun z => e.tsl i d x hx hρ (by rw [hσ, z])
  · obtain ⟨_, z1⟩ := was k1
    exact e.tsl j _ x hx z1 k2
end
/-! ### targets -/
section
variable {F : Fx} {S S' : Sx} {ρ : DEnv} {e a b c o tg iter elt : Expr} {es rest : List Expr} {pos pos' p : Pos} {k : Nat} {f x y z : Str}
def EvG (F : Fx) (S : Sx) (tg : Expr) (js : List Nat) (un : D → Option (List D)) : Prop := ∃ t, (∀ X, SC F S X → PG X tg t) ∧ ∀ (en : Ent) (Hs : Hp) (τ : List (Addr × D)) (ρ : DEnv) (σ : L2.St) (H : Hp) (d : D) (ds : List D) (v : V) (Q : L2.St → Hp → Prop),
  EnvOk F.C en Hs τ ρ σ H → Rep F.C en.g Hs d v → un d = some ds → (∀ vs, RepL F.C en.g Hs ds vs → Q (bindV js vs σ) H) → t v σ H Q
def un1 (d : D) : Option (List D) := some [d]
def un2 : D → Option (List D)
  | .tup [x, y] => some [x, y]
  | _ => none
def un3 : D → Option (List D)
  | .tup [x, y, z] => some [x, y, z]
  | _ => none
theorem SC.pg {X : Cx} (c : SC F S X) {i : Nat} {x : Str} (hv : S.ll.contains i = true) (hi : S.N[i]? = some x) : PG X (.Name x pos) (gName i) := by
  obtain ⟨h1, h2⟩ := c.locOk hv hi
  exact pg_name (by rw [c.N]; exact c.nd) (by rw [c.N]; exact hi) h1 h2
theorem evg_1 (i : Nat) {x : Str} (hi : S.N[i]? = some x := by rfl) (hv : S.ll.contains i = true := by rfl) : EvG F S (.Name x pos) [i] un1 := ⟨_, fun X sc => sc.pg hv hi, fun en Hs τ ρ σ H d ds v Q e r u h => by
  cases u
  exact h [v] (.cons r .nil)⟩
theorem evg_2 (i j : Nat) {x y : Str} {px py : Pos} (hi : S.N[i]? = some x := by rfl) (hj : S.N[j]? = some y := by rfl) (hv : S.ll.contains i = true := by rfl) (hw : S.ll.contains j = true := by rfl) : EvG F S (.Tuple [.Name x px, .Name y py] k pos) [i, j] un2 :=
  ⟨gTup F.K 2 (gCons (gName i) (gCons (gName j) gNil)), fun X sc => by
    rw [← sc.K]
    exact pg_tup sc.calm (pgs_cons (sc.pg hv hi) (pgs_cons (sc.pg hw hj) pgs_nil)), fun en Hs τ ρ σ H d ds v Q e r u h => by
    unfold un2 at u
    split at u
    · rename_i d1 d2
      cases u
      cases r with
      | tup hq rl =>
        cases rl with
        | cons r1 rl =>
          cases rl with
          | cons r2 rl =>
            cases rl
            exact ⟨_, _, rfl, (hq.sub e.wd.sub).seq, rfl, _, _, rfl, _, _, rfl, rfl, h _ (.cons r1 (.cons r2 .nil))⟩
    · cases u⟩
theorem evg_3 (i j l : Nat) {x y z : Str} {px py pz : Pos} (hi : S.N[i]? = some x := by rfl) (hj : S.N[j]? = some y := by rfl) (hl : S.N[l]? = some z := by rfl) (hv : S.ll.contains i = true := by rfl) (hw : S.ll.contains j = true := by rfl) (hu : S.ll.contains l = true := by rfl) : EvG F S (.Tuple [.Name x px, .Name y py, .Name z pz] k pos) [i, j, l] un3 :=
  ⟨gTup F.K 3 (gCons (gName i) (gCons (gName j) (gCons (gName l) gNil))), fun X sc => by
    rw [← sc.K]
    exact pg_tup sc.calm (pgs_cons (sc.pg hv hi) (pgs_cons (sc.pg hw hj) (pgs_cons (sc.pg hu hl) pgs_nil))), fun en Hs τ ρ σ H d ds v Q e r u h => by
    unfold un3 at u
    split at u
    · rename_i d1 d2 d3
      cases u
      cases r with
      | tup hq rl =>
        cases rl with
        | cons r1 rl =>
          cases rl with
          | cons r2 rl =>
            cases rl with
            | cons r3 rl =>
              cases rl
              exact ⟨_, _, rfl, (hq.sub e.wd.sub).seq, rfl, _, _, rfl, _, _, rfl, _, _, rfl, rfl, h _ (.cons r1 (.cons r2 (.cons r3 .nil)))⟩
    · cases u⟩
/-! ### comprehensions -/
def compM (B : D → T (Option D)) : List D → T (List D)
  | [] => .ret []
  | d :: ds => (B d).bind fun o => (compM B ds).bind fun r => .ret (o.toList ++ r)
def compN (B : D → T (Option D)) (items : List D) : T (List D) := if items.length ≤ sizeLine then compM (fun d => (B d).noX) items else .stuck
/-- the comprehension's block, by the names -/
def compC (GN : List Str) (S S' : Sx) (scope : Scope) (own : List (Str × Nat)) (js : List Nat) : Bool :=
  blkC S.N S.sc scope own && decide (S'.N = S.N) && visC S'.N S'.sc S'.vl && locC S'.N S'.sc S'.cl S'.ll && glC GN S'.sc S'.gl && (S'.gl.all fun i => S.gl.contains i || S.kn.contains i) && (S'.kn.all fun i => S.kn.contains i) &&
    (S'.cl.all fun i => match S'.N[i]? with
      | some x => scope.names.lookup x == some .cell
      | none => true) && decide (S'.L ≤ S.L) && (js.all fun j => (own.map (·.2)).contains j) && !S'.top
theorem SC.blk {X : Cx} (c : SC F S X) {GN : List Str} {scope : Scope} {own : List (Str × Nat)} {js : List Nat} (hG : F.G.map (·.1) = GN) (h : compC GN S S' scope own js = true) (hs : S'.sc = relS scope S.sc) (hE : S'.E = E0) (s : Shared) (H : Hp) (C : Addr) (cl : List (Str × Addr)) (fp : List Addr) :
    SC F S' (X.blk s H scope (compEnvC scope cl C X.env) fp) := by
  unfold compC at h
  simp only [Bool.and_eq_true, decide_eq_true_eq] at h
  obtain ⟨⟨⟨⟨⟨⟨⟨⟨⟨⟨h1, h2⟩, h3⟩, h4⟩, h5⟩, h6⟩, h7⟩, h8⟩, h9⟩, h10⟩, h11⟩ := h
  refine { prog := c.prog, w := c.w, K := c.K, mg := c.mg, base := c.base, N := c.N.trans h2.symm, nd := by rw [h2]; exact c.nd, sc := ?_, calm := c.calm, room := c.room.mono h9, pass := ?_, tk := by rw [hE]; exact takes_none5, top := (fun z => by rw [z] at h11; cases h11), own := PassesOwn.never, vis := h3, fnc := ?_, loc := h4, glc := by rw [hG]; exact h5, kit := c.kit, ge := ?_, ke := ?_, cx := c.cx }
  · rw [hs, ← c.sc]
    rfl
  · rw [hE]
    exact fun pins σ H s e s' I z => (c.cx _ _ _ _ _ z).elim
  · intro i x hi hx
    rw [List.all_eq_true] at h8
    have q := h8 i (by simpa using hi)
    rw [hx] at q
    exact q
  · intro j x ge hj hx
    rw [List.all_eq_true] at h6
    have q := h6 j (by simpa using hj)
    rw [Bool.or_eq_true] at q
    rcases q with q | q
    · exact c.ge j x ge q hx
    · exact c.ke j x ge q hx
  · intro j x ge hj hx
    rw [List.all_eq_true] at h7
    exact c.ke j x ge (h7 j (by simpa using hj)) hx
theorem excP0 {en : Ent} {α : Type} {m : T α} {Q : α → Prop} {E : Str → List (Str × D) → Prop} (hE : S'.E = E0) (h : m.noX.wp Q E) : m.wp Q (excP F S'.E en) := T.noX_wp h
/-- a turn's test and item: what is wanted -/
def TurnW (F : Fx) (ρ : DEnv) (js : List Nat) (un : D → Option (List D)) (B : D → T (Option D)) (en : Ent) (tt : TT) (te : TE) : Prop := ∀ d ds, un d = some ds → ∀ σ H Hs τ (R : Option D → Prop) (Qt : VK) (Qf : Hp → Prop), EnvOk F.C en Hs τ (bindD js ds ρ) σ H → (B d).noX.wp R (fun _ _ => False) →
  (∀ y H4 Hs4 dy, EnvOk F.C en Hs4 τ (bindD js ds ρ) σ H4 → Sub Hs Hs4 → Rep F.C en.g Hs4 dy y → R (some dy) → Qt y H4) → (∀ H3 Hs3, EnvOk F.C en Hs3 τ (bindD js ds ρ) σ H3 → Sub Hs Hs3 → R none → Qf H3) →
  tt σ H fun b H3 => if b = true then te σ H3 Qt else Qf H3
def TurnOk (F : Fx) (S' : Sx) (ρ : DEnv) (js : List Nat) (un : D → Option (List D)) (ifs : List Expr) (elt : Expr) (B : D → T (Option D)) : Prop := ∀ en : Ent, ∃ (tt : TT) (te : TE), (∀ X, SC F S' X → PTs X ifs tt ∧ PE X elt te) ∧ TurnW F ρ js un B en tt te
theorem T.noX_bind {α β : Type} (m : T α) (f : α → T β) : (m.bind f).noX = m.noX.bind fun a => (f a).noX := by
  induction m with
  | ret a => rfl
  | exc c fs => rfl
  | stuck => rfl
  | draw n k ih =>
    show T.draw n _ = T.draw n _
    congr 1
    funext i
    exact ih i
theorem turn_all {js : List Nat} {un : D → Option (List D)} {me : D → T D} (he : ∀ d ds, un d = some ds → Ev F S' (bindD js ds ρ) elt (me d)) : TurnOk F S' ρ js un [] elt (fun d => (me d).bind fun y => .ret (some y)) := fun en => by
  refine ⟨tYes, fun σ H Q => ∃ d ds, un d = some ds ∧ rd F S'.E en (bindD js ds ρ) (me d) σ H Q, fun X sc => ⟨pts_nil, ⟨fun pins s σ H Q I ⟨d, ds, hu, h⟩ => (he d ds hu X sc en).run pins s σ H Q I h⟩⟩, fun d ds hu σ H Hs τ R Qt Qf e w ht hf => ?_⟩
  simp only [tYes, ↓reduceIte]
  refine ⟨d, ds, hu, Hs, τ, e, ?_⟩
  have w' : ((me d).bind fun y => T.ret (some y)).noX.wp R (fun _ _ => False) := w
  rw [T.noX_bind] at w'
  exact T.noX_wp (E := fun _ _ => False) (T.wp_mono (T.wp_bind.mp w') (fun dy k v H' Hs' e' s' r => ht v H' Hs' dy e' s' r k) fun _ _ k => k)
theorem turn_if {js : List Nat} {un : D → Option (List D)} {mc : D → T Bool} {me : D → T D} (hc : ∀ d ds, un d = some ds → EvT F S' (bindD js ds ρ) c (mc d)) (he : ∀ d ds, un d = some ds → Ev F S' (bindD js ds ρ) elt (me d)) :
    TurnOk F S' ρ js un [c] elt (fun d => (mc d).bind fun t => bif t then (me d).bind fun y => .ret (some y) else .ret none) := fun en => by
  refine ⟨fun σ H Q => ∃ d ds, un d = some ds ∧ rdT F S'.E en (bindD js ds ρ) (mc d) σ H Q, fun σ H Q => ∃ d ds, un d = some ds ∧ rd F S'.E en (bindD js ds ρ) (me d) σ H Q,
    fun X sc => ⟨pts_one ⟨fun pins s σ H Q I ⟨d, ds, hu, h⟩ => (hc d ds hu X sc en).run pins s σ H Q I h⟩, ⟨fun pins s σ H Q I ⟨d, ds, hu, h⟩ => (he d ds hu X sc en).run pins s σ H Q I h⟩⟩, fun d ds hu σ H Hs τ R Qt Qf e w ht hf => ?_⟩
  refine ⟨d, ds, hu, Hs, τ, e, ?_⟩
  have w' : ((mc d).bind fun t => bif t then (me d).bind fun y => T.ret (some y) else .ret none).noX.wp R (fun _ _ => False) := w
  rw [T.noX_bind] at w'
  refine T.noX_wp (E := fun _ _ => False) (T.wp_mono (T.wp_bind.mp w') (fun b k H' Hs' e' s' => ?_) fun _ _ k => k)
  cases b with
  | true =>
    rw [if_pos rfl]
    refine ⟨d, ds, hu, Hs', τ, e', ?_⟩
    have k' : ((me d).bind fun y => T.ret (some y)).noX.wp R (fun _ _ => False) := k
    rw [T.noX_bind] at k'
    exact T.noX_wp (E := fun _ _ => False) (T.wp_mono (T.wp_bind.mp k') (fun dy k v H2 Hs2 e2 s2 r => ht v H2 Hs2 dy e2 (Sub.trans s' s2) r k) fun _ _ k => k)
  | false =>
    rw [if_neg Bool.false_ne_true]
    exact hf H' Hs' e' s' k
theorem unk_sub {ρ : DEnv} {vs js : List Nat} (h : unkC ρ vs = true) (hj : ∀ j ∈ js, j ∈ vs) : unkC ρ js = true := by
  unfold unkC at h ⊢
  rw [List.all_eq_true] at h ⊢
  exact fun j m => h j (hj j m)
/-- the walk of a comprehension, whatever is done with the list -/
theorem comp_walk {own : List (Str × Nat)} {js : List Nat} {un : D → Option (List D)} {src : Option Nat} {B : D → T (Option D)} {en : Ent} {g : TG} {tt : TT} {te : TE} {E : Str → List (Str × D) → Prop}
    (hjs : ∀ j ∈ js, j ∈ own.map (·.2)) (hu : unkC ρ (own.map (·.2)) = true) (hsrc : ∀ i, src = some i → ∃ y, ρ[i]? = some (some y)) (hst : ∀ d, un d = none → B d = .stuck)
    (hg : ∀ (en : Ent) (Hs : Hp) (τ : List (Addr × D)) (ρ : DEnv) (σ : L2.St) (H : Hp) (d : D) (ds : List D) (v : V) (Q : L2.St → Hp → Prop), EnvOk F.C en Hs τ ρ σ H → Rep F.C en.g Hs d v → un d = some ds → (∀ vs, RepL F.C en.g Hs ds vs → Q (bindV js vs σ) H) → g v σ H Q)
    (ht : TurnW F ρ js un B en tt te)
    {σ : L2.St} {H Hs : Hp} {τ : List (Addr × D)} {items : List D} {J : It} {Q : VK} {D0 : Addr} (e : EnvOk F.C en Hs τ ρ σ H) (hD : H D0 = none) (hy : YOk F.C en J Hs items src ρ σ)
    (w : (compN B items).wp (fun r => ∀ H' Hs', EnvOk F.C en Hs' ((D0, .lst r) :: τ) ρ σ H' → Sub Hs Hs' → Q (.ref D0) H') E) :
    ∃ W : Nat → Nat → Hp → Prop, (∃ m, W 0 m (upd H D0 (.lst []))) ∧ ∀ i m H, W i m H →
      (J.stop i H ∧ Q (.ref D0) H) ∨ (J.go i H ∧ ∃ Nx : Hp → Prop, (∀ H', Nx H' → ∃ m', m' < m ∧ W (i + 1) m' H') ∧ ∀ x H', J.yld i H x H' → g x (wipe σ (own.map (·.2))) H' fun σ2 H2 => wipe σ2 (own.map (·.2)) = wipe σ (own.map (·.2)) ∧ tt σ2 H2 fun b H3 =>
        if b = true then te σ2 H3 fun y H4 => ∃ acc, H4 D0 = some (.lst acc) ∧ acc.length < sizeLine ∧ Nx (upd H4 D0 (.lst (acc ++ [y]))) else Nx H3) := by
  unfold compN at w
  split at w
  case isFalse => exact w.elim
  rename_i hz
  have w0 : (compM (fun d => (B d).noX) items).wp (fun r => ∀ H' Hs', EnvOk F.C en Hs' ((D0, .lst r) :: τ) ρ σ H' → Sub Hs Hs' → Q (.ref D0) H') (fun _ _ => False) := by
    clear hy hg ht
    have aux : ∀ (l : List D) (R : List D → Prop), (compM (fun d => (B d).noX) l).wp R E → (compM (fun d => (B d).noX) l).wp R (fun _ _ => False) := fun l => by
      have nx : ∀ {α : Type} (m : T α) (R : α → Prop), m.noX.wp R E → m.noX.wp R (fun _ _ => False) := fun m R h => by
        induction m with
        | ret a => exact h
        | exc c fs => exact h
        | stuck => exact h
        | draw n k ih => exact fun i hi => ih i (h i hi)
      induction l with
      | nil => exact fun R h => h
      | cons d l ih =>
        intro R h
        refine T.wp_bind.mpr (nx _ _ (T.wp_mono (T.wp_bind.mp h) (fun o k => ?_) fun _ _ k => k))
        exact T.wp_bind.mpr (ih _ (T.wp_bind.mp k))
    exact aux items _ w
  have hz' : items.length ≤ sizeLine := hz
  refine ⟨fun i m H' => m = items.length - i ∧ i ≤ items.length ∧ ∃ Hs1 acc, EnvOk F.C en Hs1 ((D0, .lst acc) :: τ) ρ (wipe σ (own.map (·.2))) H' ∧ Sub Hs Hs1 ∧ acc.length ≤ i ∧
    (compM (fun d => (B d).noX) (items.drop i)).wp (fun r => ∀ H2 Hs2, EnvOk F.C en Hs2 ((D0, .lst (acc ++ r)) :: τ) ρ σ H2 → Sub Hs1 Hs2 → Q (.ref D0) H2) (fun _ _ => False), ⟨items.length, by simp, Nat.zero_le _, Hs, [], (e.allocT hD .nil).wipe hu, Sub.refl _, Nat.le_refl _, ?_⟩, ?_⟩
  · rw [List.drop_zero]
    exact w0
  · rintro i m H1 ⟨rfl, hi, Hs1, acc, e1, s1, hl, w1⟩
    have kp : Keeps src ρ σ ρ (wipe σ (own.map (·.2))) := by
      cases src with
      | none => trivial
      | some i =>
        obtain ⟨y, hy'⟩ := hsrc i rfl
        exact ⟨rfl, wipe_ne (unk_not hu hy')⟩
    obtain ⟨y1, y2⟩ := hy Hs1 _ ρ _ H1 i e1 s1 kp hi
    by_cases hlt : i < items.length
    · right
      have hd : items[i]? = some items[i] := by simp [hlt]
      obtain ⟨go, y3⟩ := y2 _ hd
      have hdr : items.drop i = items[i] :: items.drop (i + 1) := by rw [List.drop_eq_getElem_cons hlt]
      rw [hdr] at w1
      have w2 := T.wp_bind.mp w1
      refine ⟨go, fun H' => ∃ Hs2 acc2, EnvOk F.C en Hs2 ((D0, .lst acc2) :: τ) ρ (wipe σ (own.map (·.2))) H' ∧ Sub Hs Hs2 ∧ acc2.length ≤ i + 1 ∧
        (compM (fun d => (B d).noX) (items.drop (i + 1))).wp (fun r => ∀ H2 Hs3, EnvOk F.C en Hs3 ((D0, .lst (acc2 ++ r)) :: τ) ρ σ H2 → Sub Hs2 Hs3 → Q (.ref D0) H2) (fun _ _ => False),
        fun H' h => ⟨items.length - (i + 1), by omega, rfl, hlt, h⟩, fun x H' yl => ?_⟩
      obtain ⟨Hs3, e3, s3, rx⟩ := y3 x H' yl
      cases un' : un items[i] with
      | none =>
        have w3 : (B items[i]).noX.wp _ (fun _ _ => False) := w2
        rw [hst _ un'] at w3
        exact w3.elim
      | some ds =>
        refine hg en Hs3 _ ρ _ H' items[i] ds x _ e3 rx un' fun xs rxs => ⟨wipe_bind hjs, ?_⟩
        have unj : unkC ρ js = true := unk_sub hu hjs
        refine ht items[i] ds un' (bindV js xs (wipe σ (own.map (·.2)))) H' Hs3 ((D0, .lst acc) :: τ) (fun o => (compM (fun d => (B d).noX) (items.drop (i + 1))).wp (fun r => ∀ H2 Hs2, EnvOk F.C en Hs2 ((D0, .lst (acc ++ (o.toList ++ r))) :: τ) ρ σ H2 → Sub Hs1 Hs2 → Q (.ref D0) H2) (fun _ _ => False)) _ _ (e3.binds rxs)
          (T.wp_mono w2 (fun o k => T.wp_mono (T.wp_bind.mp k) (fun r k => k) fun _ _ k => k) fun _ _ k => k) (fun y H4 Hs4 dy e4 s4 ry k => ?_) (fun H4 Hs4 e4 s4 k => ?_)
        · have e5 := e4.unbind unj
          obtain ⟨u, u1, u2⟩ := (e5.tmp _ (List.mem_cons_self ..)).obj
          cases u2 with
          | lst r5 =>
            rename_i vs5
            refine ⟨vs5, u1, by rw [← r5.length]; omega, Hs4, acc ++ [dy], e5.mutT (r5.append (.cons ry .nil)), Sub.trans s1 (Sub.trans s3 s4), by rw [List.length_append]; simp; omega, T.wp_mono k (fun r k H2 Hs2 e6 s6 => k H2 Hs2 (by
              have ea : acc ++ ((some dy).toList ++ r) = acc ++ [dy] ++ r := by simp
              rw [ea]
              exact e6) (Sub.trans s3 (Sub.trans s4 s6))) fun _ _ k => k⟩
        · refine ⟨Hs4, acc, e4.unbind unj, Sub.trans s1 (Sub.trans s3 s4), by omega, T.wp_mono k (fun r k H2 Hs2 e6 s6 => k H2 Hs2 e6 (Sub.trans s3 (Sub.trans s4 s6))) fun _ _ k => k⟩
    · left
      have ei : i = items.length := by omega
      subst ei
      refine ⟨y1 rfl, ?_⟩
      rw [List.drop_length] at w1
      have := w1 H1 Hs1
      rw [List.append_nil] at this
      exact this (e1.unwipe hu) (Sub.refl _)
theorem compC_js {GN : List Str} {scope : Scope} {own : List (Str × Nat)} {js : List Nat} (h : compC GN S S' scope own js = true) : blkC S.N S.sc scope own = true ∧ ∀ j ∈ js, j ∈ own.map (·.2) := by
  unfold compC at h
  simp only [Bool.and_eq_true, decide_eq_true_eq] at h
  obtain ⟨⟨⟨⟨⟨⟨⟨⟨⟨⟨h1, h2⟩, h3⟩, h4⟩, h5⟩, h6⟩, h7⟩, h8⟩, h9⟩, h10⟩, h11⟩ := h
  rw [List.all_eq_true] at h10
  exact ⟨h1, fun j hj => by simpa using h10 j hj⟩
def srcOk (ρ : DEnv) : Option Nat → Bool
  | none => true
  | some i => match ρ[i]? with
    | some (some _) => true
    | _ => false
theorem srcOk_iff {src : Option Nat} (h : srcOk ρ src = true) : ∀ i, src = some i → ∃ y, ρ[i]? = some (some y) := fun i e => by
  subst e
  have h' : (match ρ[i]? with
    | some (some _) => true
    | _ => false) = true := h
  split at h'
  · exact ⟨_, by assumption⟩
  · cases h'
/-- [elt for tg in iter if ..] -/
theorem evl_comp {scope : Scope} {own : List (Str × Nat)} {js : List Nat} {un : D → Option (List D)} {src : Option Nat} {mi : T (List D)} {B : D → T (Option D)} {GN : List Str} {ifs : List Expr}
    (hi : EvI F S ρ tg iter src mi) (hg : EvG F S' tg js un) (ht : TurnOk F S' ρ js un ifs elt B) (hst : ∀ d, un d = none → B d = .stuck) (hG : F.G.map (·.1) = GN) (hc : compC GN S S' scope own js = true) (hs : S'.sc = relS scope S.sc) (hE : S'.E = E0) (hu : unkC ρ (own.map (·.2)) = true) (hsrc : srcOk ρ src = true)
    (hf : ∀ (env : Env) x, foldedSetIterable iter env x = pure x) : EvL F S ρ (.ListComp elt [⟨tg, iter, ifs, 0⟩] scope pos) (mi.bind (compN B)) := fun X sc en => by
  obtain ⟨wi, hwi, hw⟩ := hi X sc en
  obtain ⟨g, hg1, hg2⟩ := hg
  obtain ⟨tt, te, ht1, ht2⟩ := ht en
  obtain ⟨c1, c2⟩ := compC_js hc
  refine peW (pe_lc (own := own) sc.calm (by rw [sc.N]; exact sc.nd) hwi (blkOk_by (by rw [sc.N, sc.sc]; exact c1)) (fun s H C cl fp => hg1 _ (sc.blk hG hc hs hE s H C cl fp)) (fun s H C cl fp => (ht1 _ (sc.blk hG hc hs hE s H C cl fp)).1) (fun s H C cl fp => (ht1 _ (sc.blk hG hc hs hE s H C cl fp)).2) (hf _)) fun σ H Q ⟨Hs, τ, e0, w⟩ => ?_
  refine hw σ H _ ⟨Hs, τ, e0, T.wp_mono (T.wp_bind.mp w) (fun items w1 J H1 Hs1 e1 s1 y1 D0 hD => ?_) fun _ _ k => k⟩
  exact comp_walk c2 hu (srcOk_iff hsrc) hst hg2 ht2 e1 hD y1 (T.wp_mono w1 (fun r k H' Hs' e' s' => k D0 H' Hs' e' (Sub.trans s1 s')) fun _ _ k => k)
end
end MS

/-! Part 10: statements. -/
namespace MS
open PySem PySem.Spec PyProof.Rows L2
/-- where a block may end -/
structure Js where
  nx : DEnv → T D → Prop
  bk : DEnv → T D → Prop
  ct : DEnv → T D → Prop
def Back (F : Fx) (E : XK) (en : Ent) (Hs : Hp) (Rt : D → Prop) (j : DEnv → T D → Prop) (q : L2.St → Hp → Prop) : Prop := ∀ ρ' m' σ' H' Hs', j ρ' m' → Sub Hs Hs' → EnvOk F.C en Hs' [] ρ' σ' H' → m'.wp Rt (excP F E en) → q σ' H'
theorem Back.later {F : Fx} {E : XK} {en : Ent} {Hs Hs1 : Hp} {Rt : D → Prop} {j : DEnv → T D → Prop} {q : L2.St → Hp → Prop} (b : Back F E en Hs Rt j q) (s : Sub Hs Hs1) : Back F E en Hs1 Rt j q := fun ρ' m' σ' H' Hs' h s' => b ρ' m' σ' H' Hs' h (Sub.trans s s')
def blR (F : Fx) (E : XK) (en : Ent) (J : Js) (ρ : DEnv) (m : T D) : TS := fun Dn σ H => ∃ (Hs : Hp) (Rt : D → Prop), EnvOk F.C en Hs [] ρ σ H ∧ m.wp Rt (excP F E en) ∧
  (∀ d, Rt d → ∀ v Hs' H', Wd en Hs' H' → Rep F.C en.g Hs' d v → Dn.rt v H') ∧ Back F E en Hs Rt J.nx Dn.nx ∧ Back F E en Hs Rt J.bk Dn.bk ∧ Back F E en Hs Rt J.ct Dn.ct
def Bl (F : Fx) (S : Sx) (ρ : DEnv) (sts : List Stmt) (J : Js) (m : T D) : Prop := ∀ X, SC F S X → ∀ en, PSs X sts (blR F S.E en J ρ m)
inductive Less : DEnv → DEnv → Prop
  | nil : Less [] []
  | keep {a : Option (Bool × D)} {l m : DEnv} (h : Less l m) : Less (a :: l) (a :: m)
  | drop {a : Option (Bool × D)} {l m : DEnv} (h : Less l m) : Less (a :: l) (none :: m)
theorem Less.len {l m : DEnv} (h : Less l m) : m.length = l.length := by
  induction h with
  | nil => rfl
  | keep _ ih => simp [ih]
  | drop _ ih => simp [ih]
theorem Less.get {l m : DEnv} (h : Less l m) : ∀ (i : Nat) (y : Bool × D), m[i]? = some (some y) → l[i]? = some (some y) := by
  induction h with
  | nil => exact fun i y e => e
  | keep _ ih =>
    exact fun i y e => match i, e with
      | 0, e => e
      | i + 1, e => ih i y e
  | drop _ ih =>
    exact fun i y e => match i, e with
      | 0, e => nomatch e
      | i + 1, e => ih i y e
theorem Less.refl : ∀ l : DEnv, Less l l
  | [] => .nil
  | _ :: l => .keep (Less.refl l)
theorem EnvOk.lessen {C : Ct} {en : Ent} {Hs H : Hp} {τ : List (Addr × D)} {ρ ρ' : DEnv} {σ : L2.St} (h : Less ρ ρ') (e : EnvOk C en Hs τ ρ σ H) : EnvOk C en Hs τ ρ' σ H :=
  e.less (by rw [h.len]; exact e.len) fun i y q => ⟨h.get i y q, rfl⟩
section
variable {F : Fx} {S : Sx} {ρ ρ' : DEnv} {e a b c o tg iter elt : Expr} {es : List Expr} {rest body body' sts : List Stmt} {pos pos' p : Pos} {k0 : Nat} {f x y : Str} {J : Js} {m m' : T D}
theorem pssCons {X : Cx} {st : Stmt} {rest : List Stmt} {t u w : TS} (h1 : PS X st t) (h2 : PSs X rest u) (h : ∀ D σ H, w D σ H → tSeq t u D σ H) : PSs X (st :: rest) w := pssW (pss_cons h1 h2) h
theorem bl_nil (h : J.nx ρ m) : Bl F S ρ [] J m := fun X sc en => pssW pss_nil fun D σ H ⟨Hs, Rt, e, w, r, n, _, _⟩ => n ρ m σ H Hs h (Sub.refl _) e w
theorem bl_stuck : Bl F S ρ sts J .stuck := fun X sc en => pssW pss_never fun D σ H ⟨Hs, Rt, e, w, _⟩ => w.elim
theorem bl_less (hl : Less ρ ρ') (h : Bl F S ρ' sts J m) : Bl F S ρ sts J m := fun X sc en => pssW (h X sc en) fun D σ H ⟨Hs, Rt, e, w, r⟩ => ⟨Hs, Rt, e.lessen hl, w, r⟩
theorem bl_eq (he : m = m') (h : Bl F S ρ sts J m') : Bl F S ρ sts J m := by rw [he]; exact h
theorem bl_imp {J' : Js} (h1 : ∀ ρ m, J.nx ρ m → J'.nx ρ m) (h2 : ∀ ρ m, J.bk ρ m → J'.bk ρ m) (h3 : ∀ ρ m, J.ct ρ m → J'.ct ρ m) (h : Bl F S ρ sts J m) : Bl F S ρ sts J' m := fun X sc en => pssW (h X sc en) fun D σ H ⟨Hs, Rt, e, w, r, n, b, c⟩ =>
  ⟨Hs, Rt, e, w, r, fun ρ' m' σ' H' Hs' j => n ρ' m' σ' H' Hs' (h1 _ _ j), fun ρ' m' σ' H' Hs' j => b ρ' m' σ' H' Hs' (h2 _ _ j), fun ρ' m' σ' H' Hs' j => c ρ' m' σ' H' Hs' (h3 _ _ j)⟩
/-! ### the small ones -/
theorem bl_ret (h : Ev F S ρ e m) : Bl F S ρ (.Return (some e) pos :: rest) J m := fun X sc en => pssCons (ps_ret (h X sc en)) pss_never fun D σ H ⟨Hs, Rt, e0, w, r, _⟩ =>
  ⟨Hs, [], e0, T.wp_mono w (fun d k v H' Hs' e' s' rr => r d k v Hs' H' e'.wd rr) fun _ _ k => k⟩
theorem bl_retN : Bl F S ρ (.Return none pos :: rest) J (.ret .non) := fun X sc en => pssCons ps_retN pss_never fun D σ H ⟨Hs, Rt, e0, w, r, _⟩ => r _ w .non Hs H e0.wd .non
/-- a list of one's own that a name holds, given back -/
theorem bl_retO (i : Nat) {x : Str} {ds : List D} (hρ : ρ[i]? = some (some (true, .lst ds)) := by rfl) (hi : S.N[i]? = some x := by rfl) (hv : S.vl.contains i = true := by rfl) : Bl F S ρ (.Return (some (.Name x p)) pos :: rest) J (.ret (.lst ds)) := fun X sc en => by
  obtain ⟨h1, h2, h3⟩ := sc.visOk hv hi
  refine pssCons (ps_ret (pe_var (i := i) (by rw [sc.N]; exact hi) h1 h2 h3)) pss_never fun D σ H ⟨Hs, Rt, e0, w, r, _⟩ => ?_
  obtain ⟨a, q1, q2⟩ := e0.own i _ hρ
  have nd : (([] : List (Addr × MS.D)).map (·.1)).Nodup := .nil
  have e1 : EnvOk F.C en Hs [(a, .lst ds)] (ρ.map fun _ => none) (σ.map fun _ => none) H := by
    refine ⟨e0.wd, fun j d h => ?_, fun j d h => ?_, fun j k d d' b ne h => ?_, fun p hp => ?_, ?_, fun j d p hp h => ?_, by rw [List.length_map, List.length_map]; exact e0.len⟩
    · rw [List.getElem?_map] at h
      cases q : ρ[j]? <;> rw [q] at h <;> cases h
    · rw [List.getElem?_map] at h
      cases q : ρ[j]? <;> rw [q] at h <;> cases h
    · rw [List.getElem?_map] at h
      cases q : ρ[j]? <;> rw [q] at h <;> cases h
    · have : p = (a, .lst ds) := by simpa using hp
      subst this
      exact q2
    · simp
    · rw [List.getElem?_map] at h
      cases q : ρ[j]? <;> rw [q] at h <;> cases h
  obtain ⟨vs, h4, e2, r2, s2⟩ := e1.freeze
  exact ⟨.ref a, q1, r _ w _ _ H e2.wd (.lst upd_same r2)⟩
theorem bl_pass (h : Bl F S ρ rest J m) : Bl F S ρ (.Pass pos :: rest) J m := fun X sc en => pssCons ps_pass (h X sc en) fun D σ H h => h
theorem bl_break (h : J.bk ρ m) : Bl F S ρ (.Break pos :: rest) J m := fun X sc en => pssCons ps_break pss_never fun D σ H ⟨Hs, Rt, e0, w, r, _, b, _⟩ => b ρ m σ H Hs h (Sub.refl _) e0 w
theorem bl_cont (h : J.ct ρ m) : Bl F S ρ (.Continue pos :: rest) J m := fun X sc en => pssCons ps_continue pss_never fun D σ H ⟨Hs, Rt, e0, w, r, _, _, c⟩ => c ρ m σ H Hs h (Sub.refl _) e0 w
/-! ### a name is set -/
theorem bl_set (i : Nat) {x : Str} {k : D → T D} (h : Ev F S ρ e m) (hk : ∀ d, Bl F S (ρ.set i (some (false, d))) rest J (k d)) (hi : S.N[i]? = some x := by rfl) (hv : S.ll.contains i = true := by rfl) (hs : ∀ tgt line env, swapsWith e (some tgt) line env = pure false := by intros; rfl) :
    Bl F S ρ (.Assign [.Name x p] e pos :: rest) J (m.bind k) := fun X sc en => by
  obtain ⟨h1, h2⟩ := sc.locOk hv hi
  have hr : PSs X rest (fun D σ H => ∃ d, blR F S.E en J (ρ.set i (some (false, d))) (k d) D σ H) := ⟨fun pins s σ H D I ⟨d, h⟩ => (hk d X sc en).run pins s σ H D I h⟩
  refine pssCons (ps_set (by rw [sc.N]; exact sc.nd) (by rw [sc.N]; exact hi) h1 (h X sc en) (hs _ _ _) h2) hr fun D σ H ⟨Hs, Rt, e0, w, r, n, b, c⟩ => ?_
  exact ⟨Hs, [], e0, T.wp_mono (T.wp_bind.mp w) (fun d w1 v H1 Hs1 e1 s1 r1 => ⟨d, Hs1, Rt, e1.set i r1, w1, r, n.later s1, b.later s1, c.later s1⟩) fun _ _ k => k⟩
theorem bl_setL (i : Nat) {x : Str} {ml : T (List D)} {k : List D → T D} (h : EvL F S ρ e ml) (hk : ∀ ds, Bl F S (ρ.set i (some (true, .lst ds))) rest J (k ds)) (hi : S.N[i]? = some x := by rfl) (hv : S.ll.contains i = true := by rfl) (hs : ∀ tgt line env, swapsWith e (some tgt) line env = pure false := by intros; rfl) :
    Bl F S ρ (.Assign [.Name x p] e pos :: rest) J (ml.bind k) := fun X sc en => by
  obtain ⟨h1, h2⟩ := sc.locOk hv hi
  have hr : PSs X rest (fun D σ H => ∃ ds, blR F S.E en J (ρ.set i (some (true, .lst ds))) (k ds) D σ H) := ⟨fun pins s σ H D I ⟨d, h⟩ => (hk d X sc en).run pins s σ H D I h⟩
  refine pssCons (ps_set (by rw [sc.N]; exact sc.nd) (by rw [sc.N]; exact hi) h1 (h X sc en) (hs _ _ _) h2) hr fun D σ H ⟨Hs, Rt, e0, w, r, n, b, c⟩ => ?_
  exact ⟨Hs, [], e0, T.wp_mono (T.wp_bind.mp w) (fun ds w1 a H1 Hs1 e1 s1 => ⟨ds, Hs1, Rt, e1.take i, w1, r, n.later s1, b.later s1, c.later s1⟩) fun _ _ k => k⟩
/-- x = [..], stored in passing -/
def swC (sc scope : Scope) (y : Str) (py pos : Pos) : Bool := (match sc.kind with
  | .function => true
  | _ => false) && decide (sc.names.lookup y = some .local) && (py.line == pos.line) && !(scope.names.any fun (n, k) => n == y && (k == .local || k == .cell))
theorem bl_setC (i : Nat) {y : Str} {py spos : Pos} {scope : Scope} {own : List (Str × Nat)} {js : List Nat} {un : D → Option (List D)} {src : Option Nat} {mi : T (List D)} {B : D → T (Option D)} {GN : List Str} {ifs : List Expr} {S' : Sx} {k : List D → T D}
    (hi : EvI F S ρ tg iter src mi) (hg : EvG F S' tg js un) (ht : TurnOk F S' ρ js un ifs elt B) (hst : ∀ d, un d = none → B d = .stuck) (hG : F.G.map (·.1) = GN) (hc : compC GN S S' scope own js = true) (hs : S'.sc = relS scope S.sc) (hE : S'.E = E0) (hu : unkC ρ (own.map (·.2)) = true) (hsrc : srcOk ρ src = true)
    (hf : ∀ (env : Env) x, foldedSetIterable iter env x = pure x) (hw : swC S.sc scope y py pos = true) (hy : S.N[i]? = some y) (hk : ∀ ds, Bl F S (ρ.set i (some (true, .lst ds))) rest J (k ds)) :
    Bl F S ρ (.Assign [.Name y py] (.ListComp elt [⟨tg, iter, ifs, 0⟩] scope pos) spos :: rest) J ((mi.bind (compN B)).bind k) := fun X sc en => by
  obtain ⟨wi, hwi, hw'⟩ := hi X sc en
  obtain ⟨g, hg1, hg2⟩ := hg
  obtain ⟨tt, te, ht1, ht2⟩ := ht en
  obtain ⟨c1, c2⟩ := compC_js hc
  unfold swC at hw
  simp only [Bool.and_eq_true, decide_eq_true_eq, Bool.not_eq_true'] at hw
  obtain ⟨⟨⟨w1, w2⟩, w3⟩, w4⟩ := hw
  have kf : S.sc.kind = .function := by
    split at w1
    · assumption
    · cases w1
  have hr : PSs X rest (fun D σ H => ∃ ds, blR F S.E en J (ρ.set i (some (true, .lst ds))) (k ds) D σ H) := ⟨fun pins s σ H D I ⟨d, h⟩ => (hk d X sc en).run pins s σ H D I h⟩
  refine pssCons (ps_setLc (own := own) (i := i) sc.calm (by rw [sc.N]; exact sc.nd) (by rw [sc.N]; exact hy) (by rw [sc.sc]; exact w2) (sw_true (by rw [sc.sc]; exact kf) (by rw [sc.sc]; exact w2) w3 w4) hwi (blkOk_by (by rw [sc.N, sc.sc]; exact c1)) (fun s H C cl fp => hg1 _ (sc.blk hG hc hs hE s H C cl fp)) (fun s H C cl fp => (ht1 _ (sc.blk hG hc hs hE s H C cl fp)).1) (fun s H C cl fp => (ht1 _ (sc.blk hG hc hs hE s H C cl fp)).2) (hf _)) hr fun D σ H ⟨Hs, Rt, e0, w, r, n, b, c⟩ => ?_
  refine hw' σ H _ ⟨Hs, [], e0, T.wp_mono (T.wp_bind.mp (T.wp_bind.mp w)) (fun items w1 J1 H1 Hs1 e1 s1 y1 D0 hD => ?_) fun _ _ k => k⟩
  exact comp_walk (Q := fun v H' => ∃ ds, blR F S.E en J (ρ.set i (some (true, .lst ds))) (k ds) D (σ.set i (some v)) H') c2 hu (srcOk_iff hsrc) hst hg2 ht2 e1 hD y1 (T.wp_mono w1 (fun r0 k0 H' Hs' e' s' => ⟨r0, Hs', Rt, e'.take i, k0, r, n.later (Sub.trans s1 s'), b.later (Sub.trans s1 s'), c.later (Sub.trans s1 s')⟩) fun _ _ k => k)
/-! ### branches -/
theorem bl_if {mc : T Bool} {ma mb : T D} (hc : EvT F S ρ c mc) (ha : Bl F S ρ body ⟨fun ρ' m' => Bl F S ρ' rest J m', J.bk, J.ct⟩ ma) (hb : Bl F S ρ body' ⟨fun ρ' m' => Bl F S ρ' rest J m', J.bk, J.ct⟩ mb) :
    Bl F S ρ (.If c body body' pos :: rest) J (mc.bind fun t => bif t then ma else mb) := fun X sc en => by
  have hr : PSs X rest (fun D σ H => ∃ ρ' m', Bl F S ρ' rest J m' ∧ blR F S.E en J ρ' m' D σ H) := ⟨fun pins s σ H D I ⟨ρ', m', hb, h⟩ => (hb X sc en).run pins s σ H D I h⟩
  refine pssCons (ps_if (hc X sc en) (ha X sc en) (hb X sc en)) hr fun D σ H ⟨Hs, Rt, e0, w, r, n, b, c⟩ => ?_
  refine ⟨Hs, [], e0, T.wp_mono (T.wp_bind.mp w) (fun t w1 H1 Hs1 e1 s1 => ?_) fun _ _ k => k⟩
  have join : Back F S.E en Hs1 Rt (fun ρ' m' => Bl F S ρ' rest J m') (fun σ H => ∃ ρ' m', Bl F S ρ' rest J m' ∧ blR F S.E en J ρ' m' D σ H) := fun ρ' m' σ' H' Hs' j s' e' w' => ⟨ρ', m', j, Hs', Rt, e', w', r, n.later (Sub.trans s1 s'), b.later (Sub.trans s1 s'), c.later (Sub.trans s1 s')⟩
  cases t with
  | true => exact ⟨Hs1, Rt, e1, w1, r, join, b.later s1, c.later s1⟩
  | false => exact ⟨Hs1, Rt, e1, w1, r, join, b.later s1, c.later s1⟩
/-- both branches lead on -/
def ifJ {St : Type} (mc : T Bool) (ma mb : (St → T D) → T D) (k : St → T D) : T D := mc.bind fun t => bif t then ma k else mb k
theorem bl_ifJ {St : Type} (inv : St → DEnv) {mc : T Bool} {ma mb : (St → T D) → T D} {k : St → T D} (hc : EvT F S ρ c mc) (ha : ∀ k, Bl F S ρ body ⟨fun ρ' m' => ∃ s, Less ρ' (inv s) ∧ m' = k s, J.bk, J.ct⟩ (ma k)) (hb : ∀ k, Bl F S ρ body' ⟨fun ρ' m' => ∃ s, Less ρ' (inv s) ∧ m' = k s, J.bk, J.ct⟩ (mb k))
    (hk : ∀ s, Bl F S (inv s) rest J (k s)) : Bl F S ρ (.If c body body' pos :: rest) J (ifJ mc ma mb k) :=
  have to : ∀ ρ' m', (∃ s, Less ρ' (inv s) ∧ m' = k s) → Bl F S ρ' rest J m' := fun ρ' m' ⟨s, h1, h2⟩ => by
    subst h2
    exact bl_less h1 (hk s)
  bl_if hc (bl_imp (J := ⟨fun ρ' m' => ∃ s, Less ρ' (inv s) ∧ m' = k s, J.bk, J.ct⟩) to (fun _ _ h => h) (fun _ _ h => h) (ha k)) (bl_imp (J := ⟨fun ρ' m' => ∃ s, Less ρ' (inv s) ∧ m' = k s, J.bk, J.ct⟩) to (fun _ _ h => h) (fun _ _ h => h) (hb k))
/-! ### loops -/
def forM {St : Type} (B : D → St → (St → T D) → (St → T D) → T D) (k : St → T D) : List D → St → T D
  | [], s => k s
  | d :: ds, s => B d s (fun s' => forM B k ds s') k
/-- what ends a turn: a state -/
def To {St : Type} (inv : St → DEnv) (k : St → T D) : DEnv → T D → Prop := fun ρ' m' => ∃ s, Less ρ' (inv s) ∧ m' = k s
theorem bl_for {St : Type} (inv : St → DEnv) {s0 : St} {js : List Nat} {un : D → Option (List D)} {mi : T (List D)} {B : D → St → (St → T D) → (St → T D) → T D} {k : St → T D} (hi : EvI F S ρ tg iter none mi) (hg : EvG F S tg js un) (h0 : Less ρ (inv s0))
    (hb : ∀ d ds s nxt brk, un d = some ds → Bl F S (bindD js ds (inv s)) body ⟨To inv nxt, To inv brk, To inv nxt⟩ (B d s nxt brk)) (hst : ∀ d s nxt brk, un d = none → B d s nxt brk = .stuck) (hk : ∀ s, Bl F S (inv s) rest J (k s))
    (hf : ∀ (env : Env) x, foldedSetIterable iter env x = pure x := by intros; rfl) : Bl F S ρ (.For tg iter body [] pos :: rest) J (mi.bind fun items => forM B k items s0) := fun X sc en => by
  obtain ⟨wi, hwi, hw⟩ := hi X sc en
  obtain ⟨g, hg1, hg2⟩ := hg
  have hr : PSs X rest (fun D σ H => ∃ s, blR F S.E en J (inv s) (k s) D σ H) := ⟨fun pins s σ H D I ⟨d, h⟩ => (hk d X sc en).run pins s σ H D I h⟩
  have hbd : PSs X body (fun D σ H => ∃ d ds s nxt brk, un d = some ds ∧ blR F S.E en ⟨To inv nxt, To inv brk, To inv nxt⟩ (bindD js ds (inv s)) (B d s nxt brk) D σ H) := ⟨fun pins s σ H D I ⟨d, ds, s1, nxt, brk, hu, h⟩ => (hb d ds s1 nxt brk hu X sc en).run pins s σ H D I h⟩
  refine pssCons (ps_for sc.own sc.calm hwi (hg1 X sc) hbd (hf _)) hr fun D σ H ⟨Hs, Rt, e0, w, r, n, b, c⟩ => ?_
  refine hw σ H _ ⟨Hs, [], e0, T.wp_mono (T.wp_bind.mp w) (fun items w1 J1 H1 Hs1 e1 s1 y1 => ?_) fun _ _ k => k⟩
  refine ⟨fun i m σ2 H2 => m = items.length - i ∧ i ≤ items.length ∧ ∃ Hs2 s, EnvOk F.C en Hs2 [] (inv s) σ2 H2 ∧ Sub Hs1 Hs2 ∧ (forM B k (items.drop i) s).wp Rt (excP F S.E en), ⟨items.length, by simp, Nat.zero_le _, Hs1, s0, e1.lessen h0, Sub.refl _, w1⟩, ?_⟩
  rintro i m σ2 H2 ⟨rfl, hi', Hs2, s, e2, s2, w2⟩
  obtain ⟨y2, y3⟩ := y1 Hs2 [] (inv s) σ2 H2 i e2 s2 trivial hi'
  by_cases hlt : i < items.length
  · right
    obtain ⟨go, y4⟩ := y3 items[i] (by simp [hlt])
    have hdr : items.drop i = items[i] :: items.drop (i + 1) := by rw [List.drop_eq_getElem_cons hlt]
    rw [hdr] at w2
    have w3 : (B items[i] s (fun s' => forM B k (items.drop (i + 1)) s') k).wp Rt (excP F S.E en) := w2
    refine ⟨go, fun σ' H' => ∃ Hs' s', EnvOk F.C en Hs' [] (inv s') σ' H' ∧ Sub Hs1 Hs' ∧ (forM B k (items.drop (i + 1)) s').wp Rt (excP F S.E en), fun σ' H' h => ⟨items.length - (i + 1), by omega, rfl, hlt, h⟩, fun xv H' yl => ?_⟩
    obtain ⟨Hs3, e3, s3, rx⟩ := y4 xv H' yl
    cases hu : un items[i] with
    | none =>
      rw [hst _ _ _ _ hu] at w3
      exact w3.elim
    | some ds =>
      refine hg2 en Hs3 _ _ _ H' _ ds xv _ e3 rx hu fun vs rvs => ?_
      refine ⟨items[i], ds, s, _, _, hu, Hs3, Rt, e3.binds rvs, w3, r, fun ρ' m' σ' H' Hs' ⟨s', l', q'⟩ sb e' w' => ?_, fun ρ' m' σ' H' Hs' ⟨s', l', q'⟩ sb e' w' => ?_, fun ρ' m' σ' H' Hs' ⟨s', l', q'⟩ sb e' w' => ?_⟩
      · subst q'
        exact ⟨Hs', s', e'.lessen l', Sub.trans s2 (Sub.trans s3 sb), w'⟩
      · subst q'
        have sa := Sub.trans s1 (Sub.trans s2 (Sub.trans s3 sb))
        exact ⟨s', Hs', Rt, e'.lessen l', w', r, n.later sa, b.later sa, c.later sa⟩
      · subst q'
        exact ⟨Hs', s', e'.lessen l', Sub.trans s2 (Sub.trans s3 sb), w'⟩
  · left
    have ei : i = items.length := by omega
    have sa := Sub.trans s1 s2
    refine ⟨y2 ei, s, Hs2, Rt, e2, ?_, r, n.later sa, b.later sa, c.later sa⟩
    rw [ei, List.drop_length] at w2
    exact w2
/-- turns as long as there is fuel -/
def whileM {St : Type} (B : St → (St → T D) → T D) : Nat → St → T D
  | 0, _ => .stuck
  | n + 1, s => B s (fun s' => whileM B n s')
theorem bl_while {St : Type} (inv : St → DEnv) {s0 : St} {mc : St → T Bool} {mb : St → (St → T D) → (St → T D) → T D} {k : St → T D} (fuel : Nat) (hc : ∀ s, EvT F S (inv s) c (mc s)) (h0 : Less ρ (inv s0)) (hb : ∀ s nxt brk, Bl F S (inv s) body ⟨To inv nxt, To inv brk, To inv nxt⟩ (mb s nxt brk))
    (hk : ∀ s, Bl F S (inv s) rest J (k s)) : Bl F S ρ (.While c body [] pos :: rest) J (whileM (fun s nxt => (mc s).bind fun t => bif t then mb s nxt k else k s) fuel s0) := fun X sc en => by
  have hr : PSs X rest (fun D σ H => ∃ s, blR F S.E en J (inv s) (k s) D σ H) := ⟨fun pins s σ H D I ⟨d, h⟩ => (hk d X sc en).run pins s σ H D I h⟩
  have hbd : PSs X body (fun D σ H => ∃ s nxt brk, blR F S.E en ⟨To inv nxt, To inv brk, To inv nxt⟩ (inv s) (mb s nxt brk) D σ H) := ⟨fun pins s σ H D I ⟨s1, nxt, brk, h⟩ => (hb s1 nxt brk X sc en).run pins s σ H D I h⟩
  have ht : PT X c (fun σ H Q => ∃ s, rdT F S.E en (inv s) (mc s) σ H Q) := ⟨fun pins s σ H D I ⟨s1, h⟩ => (hc s1 X sc en).run pins s σ H D I h⟩
  refine pssCons (ps_while sc.own ht hbd) hr fun D σ H ⟨Hs, Rt, e0, w, r, n, b, c⟩ => ?_
  refine ⟨fun m σ2 H2 => ∃ Hs2 s, EnvOk F.C en Hs2 [] (inv s) σ2 H2 ∧ Sub Hs Hs2 ∧ (whileM (fun s nxt => (mc s).bind fun t => bif t then mb s nxt k else k s) m s).wp Rt (excP F S.E en), ⟨fuel, Hs, s0, e0.lessen h0, Sub.refl _, w⟩, ?_⟩
  rintro m σ2 H2 ⟨Hs2, s, e2, s2, w2⟩
  cases m with
  | zero => exact w2.elim
  | succ m =>
    have w3 : ((mc s).bind fun t => bif t then mb s (fun s' => whileM (fun s nxt => (mc s).bind fun t => bif t then mb s nxt k else k s) m s') k else k s).wp Rt (excP F S.E en) := w2
    refine ⟨s, Hs2, [], e2, T.wp_mono (T.wp_bind.mp w3) (fun t w4 H4 Hs4 e4 s4 => ?_) fun _ _ k => k⟩
    have sa := Sub.trans s2 s4
    cases t with
    | true =>
      refine ⟨fun σ' H' => ∃ Hs' s', EnvOk F.C en Hs' [] (inv s') σ' H' ∧ Sub Hs Hs' ∧ (whileM (fun s nxt => (mc s).bind fun t => bif t then mb s nxt k else k s) m s').wp Rt (excP F S.E en), fun σ' H' h => ⟨m, Nat.lt_succ_self m, h⟩, s, _, _, Hs4, Rt, e4, w4, r, fun ρ' m' σ' H' Hs' ⟨s', l', q'⟩ sb e' w' => ?_, fun ρ' m' σ' H' Hs' ⟨s', l', q'⟩ sb e' w' => ?_, fun ρ' m' σ' H' Hs' ⟨s', l', q'⟩ sb e' w' => ?_⟩
      · subst q'
        exact ⟨Hs', s', e'.lessen l', Sub.trans sa sb, w'⟩
      · subst q'
        have sc := Sub.trans sa sb
        exact ⟨s', Hs', Rt, e'.lessen l', w', r, n.later sc, b.later sc, c.later sc⟩
      · subst q'
        exact ⟨Hs', s', e'.lessen l', Sub.trans sa sb, w'⟩
    | false => exact ⟨s, Hs4, Rt, e4, w4, r, n.later sa, b.later sa, c.later sa⟩
end
end MS

/-! Part 11: lists that change, tuple targets, parallel assignments. -/
namespace MS
open PySem PySem.Spec PyProof.Rows L2
section
variable {F : Fx} {S : Sx} {ρ ρ' : DEnv} {e a b c o tg iter elt : Expr} {es : List Expr} {rest body body' sts : List Stmt} {pos pos' p p' apos : Pos} {k0 : Nat} {f x y : Str} {J : Js} {m m' : T D}
/-- a told list that is one's own from now on is no more than told: freezing a slot -/
theorem bl_frz (i : Nat) {ds : List D} (hρ : ρ[i]? = some (some (true, .lst ds)) := by rfl) (h : Bl F S (ρ.set i (some (false, .lst ds))) sts J m) : Bl F S ρ sts J m := fun X sc en => pssW (h X sc en) fun Dn σ H ⟨Hs, Rt, e0, w, r, n, b, c⟩ => by
  obtain ⟨a, q1, q2⟩ := e0.own i _ hρ
  have old : ∀ {j : Nat} {y : Option (Bool × D)} {v : Bool × D}, (ρ.set i y)[j]? = some (some v) → j ≠ i → ρ[j]? = some (some v) := fun {j y v} h ne => by
    rw [List.getElem?_set_ne (Ne.symm ne)] at h
    exact h
  have no : ∀ {j : Nat} {v : Bool × D}, (ρ.set i none)[j]? = some (some v) → j ≠ i := fun {j v} h z => by
    subst z
    by_cases hl : j < ρ.length
    · rw [List.getElem?_set_self hl] at h
      cases h
    · rw [List.getElem?_eq_none (by simpa using hl)] at h
      cases h
  have e1 : EnvOk F.C en Hs [(a, .lst ds)] (ρ.set i none) σ H := by
    refine ⟨e0.wd, fun j d h => e0.fro j d (old h (no h)), fun j d h => e0.own j d (old h (no h)), fun j k d d' b ne h h' => e0.dis j k d d' b ne (old h (no h)) (old h' (no h')), fun p hp => ?_, ?_, fun j d p hp h k => ?_, by rw [List.length_set]; exact e0.len⟩
    · have : p = (a, .lst ds) := by simpa using hp
      subst this
      exact q2
    · simp
    · have : p = (a, .lst ds) := by simpa using hp
      subst this
      exact e0.dis j i _ _ a (no h) (old h (no h)) hρ k q1
  obtain ⟨vs, h4, e2, r2, s2⟩ := e1.freeze
  have e3 : EnvOk F.C en (upd Hs a (.lst vs)) [] ((ρ.set i none).set i (some (false, .lst ds))) (σ.set i (some (.ref a))) H := e2.set i (.lst upd_same r2)
  have es : σ.set i (some (.ref a)) = σ := by
    apply List.ext_getElem?
    intro j
    by_cases z : i = j
    · subst z
      have hl : i < σ.length := by
        by_cases hl : i < σ.length
        · exact hl
        · rw [List.getElem?_eq_none (by simpa using hl)] at q1
          cases q1
      rw [List.getElem?_set_self hl, q1]
    · rw [List.getElem?_set_ne z]
  rw [es, List.set_set] at e3
  exact ⟨_, Rt, e3, w, r, n.later s2, b.later s2, c.later s2⟩
/-! ### append, extend -/
theorem tyV_own {C : Ct} {K : PySem.W.Frag} {H : Hp} {a : Addr} {vs : List V} (h : H a = some (.lst vs)) : tyV K "list" (.ref a) H := Or.inl ⟨rfl, _, Or.inl (Or.inl h)⟩
theorem bl_app (i : Nat) {x : Str} {ds : List D} {k : D → T D} (h : Ev F S ρ e m) (hk : ∀ d, Bl F S (ρ.set i (some (true, .lst (ds ++ [d])))) rest J (k d)) (hρ : ρ[i]? = some (some (true, .lst ds)) := by rfl) (hi : S.N[i]? = some x := by rfl) (hv : S.vl.contains i = true := by rfl) (hs : isStar e = false := by rfl)
    (hline : (apos.endLine == p'.line) = true := by rfl) : Bl F S ρ (.Expr (.Call (.Attribute (.Name x p) "append" apos) [e] [] p') pos :: rest) J (m.bind fun d => if ds.length < sizeLine then k d else .stuck) := fun X sc en => by
  obtain ⟨h1, h2, h3⟩ := sc.visOk hv hi
  have hr : PSs X rest (fun D σ H => ∃ d, blR F S.E en J (ρ.set i (some (true, .lst (ds ++ [d])))) (k d) D σ H) := ⟨fun pins s σ H D I ⟨d, h⟩ => (hk d X sc en).run pins s σ H D I h⟩
  have hva : PA X [e] (rdV F S.E en ρ (m.bind fun d => (T.ret []).bind fun ds => .ret (d :: ds))) := evv_cons h evv_nil hs X sc en
  refine pssCons (ps_expr (pe_bm PySem.F.plainAttrs_list PySem.F.slot_list_append PySem.F.type_list_append mt_append (pe_var (i := i) (by rw [sc.N]; exact hi) h1 h2 h3) hva (by rfl) (by rw [star_cons hs]; rfl) hline (star_cons hs _ _) (by rfl)) (by rfl)) hr fun D σ H ⟨Hs, Rt, e0, w, r, n, b, c⟩ => ?_
  obtain ⟨a, q1, q2⟩ := e0.own i _ hρ
  obtain ⟨u, q3, q4⟩ := q2.obj
  cases q4 with
  | lst rl0 =>
    refine ⟨.ref a, q1, tyV_own (C := F.C) q3, Hs, [], e0, ?_⟩
    refine T.wp_bind.mpr (T.wp_mono (T.wp_bind.mp w) (fun d w1 => ?_) fun _ _ k => k)
    intro vs H1 Hs1 e1 s1 r1
    split at w1
    · rename_i hz
      cases r1 with
      | cons r1 t =>
        cases t
        obtain ⟨a', y1, y2⟩ := e1.own i _ hρ
        have ea := q1.symm.trans y1
        cases ea
        obtain ⟨u', y3, y4⟩ := y2.obj
        cases y4 with
        | lst rl =>
          exact ⟨_, _, _, rfl, rfl, y3, by rw [← rl.length]; exact hz, d, Hs1, Rt, e1.mutO hρ q1 (rl.append (.cons r1 .nil)), w1, r, n.later s1, b.later s1, c.later s1⟩
    · exact w1.elim
theorem bl_ext (i : Nat) {x : Str} {ds : List D} {k : List D → T D} (h : Ev F S ρ e m) (hk : ∀ l, Bl F S (ρ.set i (some (true, .lst (ds ++ l)))) rest J (k l)) (hρ : ρ[i]? = some (some (true, .lst ds)) := by rfl) (hi : S.N[i]? = some x := by rfl) (hv : S.vl.contains i = true := by rfl) (hs : isStar e = false := by rfl)
    (hline : (apos.endLine == p'.line) = true := by rfl) : Bl F S ρ (.Expr (.Call (.Attribute (.Name x p) "extend" apos) [e] [] p') pos :: rest) J (m.bind fun d => match d with
      | .lst l => if ds.length + l.length ≤ sizeLine then k l else .stuck
      | _ => .stuck) := fun X sc en => by
  obtain ⟨h1, h2, h3⟩ := sc.visOk hv hi
  have hr : PSs X rest (fun D σ H => ∃ d, blR F S.E en J (ρ.set i (some (true, .lst (ds ++ d)))) (k d) D σ H) := ⟨fun pins s σ H D I ⟨d, h⟩ => (hk d X sc en).run pins s σ H D I h⟩
  have hva : PA X [e] (rdV F S.E en ρ (m.bind fun d => (T.ret []).bind fun ds => .ret (d :: ds))) := evv_cons h evv_nil hs X sc en
  refine pssCons (ps_expr (pe_bm PySem.F.plainAttrs_list PySem.F.slot_list_extend PySem.F.type_list_extend mt_extend (pe_var (i := i) (by rw [sc.N]; exact hi) h1 h2 h3) hva (by rfl) (by rw [star_cons hs]; rfl) hline (star_cons hs _ _) (by rfl)) (by rfl)) hr fun D σ H ⟨Hs, Rt, e0, w, r, n, b, c⟩ => ?_
  obtain ⟨a, q1, q2⟩ := e0.own i _ hρ
  obtain ⟨u, q3, q4⟩ := q2.obj
  cases q4 with
  | lst rl0 =>
    refine ⟨.ref a, q1, tyV_own (C := F.C) q3, Hs, [], e0, ?_⟩
    refine T.wp_bind.mpr (T.wp_mono (T.wp_bind.mp w) (fun d w1 => ?_) fun _ _ k => k)
    intro vs H1 Hs1 e1 s1 r1
    split at w1
    · rename_i l
      split at w1
      · rename_i hz
        cases r1 with
        | cons r1 t =>
          cases t
          cases r1 with
          | lst hq rl2 =>
            obtain ⟨a', y1, y2⟩ := e1.own i _ hρ
            have ea := q1.symm.trans y1
            cases ea
            obtain ⟨u', y3, y4⟩ := y2.obj
            cases y4 with
            | lst rl =>
              exact ⟨_, _, _, _, rfl, rfl, y3, e1.wd.sub _ _ hq, by rw [← rl.length, ← rl2.length]; exact hz, l, Hs1, Rt, e1.mutO hρ q1 (rl.append rl2), w1, r, n.later s1, b.later s1, c.later s1⟩
      · exact w1.elim
    · exact w1.elim
/-! ### pop -/
def rdP (F : Fx) (E : XK) (en : Ent) (ρ : DEnv) (j : Nat) (m : T (D × List D)) : TE := fun σ H Q => ∃ Hs τ, EnvOk F.C en Hs τ ρ σ H ∧ m.wp (fun p => ∀ v H' Hs', EnvOk F.C en Hs' τ (ρ.set j (some (true, .lst p.2))) σ H' → Sub Hs Hs' → Rep F.C en.g Hs' p.1 v → Q v H') (excP F E en)
def EvQ (F : Fx) (S : Sx) (ρ : DEnv) (e : Expr) (j : Nat) (m : T (D × List D)) : Prop := ∀ X, SC F S X → ∀ en, PE X e (rdP F S.E en ρ j m)
def pop0M (ds : List D) : T (D × List D) := match ds[ds.length - 1]? with
  | some d => .ret (d, ds.dropLast)
  | none => .stuck
def popM (ds : List D) : D → T (D × List D)
  | .int i => if -(2 ^ 63) ≤ i ∧ i < 2 ^ 63 then (match seqIndex? i ds.length with
    | some k => (match ds[k]? with
      | some d => .ret (d, ds.eraseIdx k)
      | none => .stuck)
    | none => .stuck) else .stuck
  | _ => .stuck
theorem evq_pop0 (j : Nat) {x : Str} {ds : List D} (hρ : ρ[j]? = some (some (true, .lst ds)) := by rfl) (hi : S.N[j]? = some x := by rfl) (hv : S.vl.contains j = true := by rfl) (hline : (apos.endLine == p'.line) = true := by rfl) : EvQ F S ρ (.Call (.Attribute (.Name x p) "pop" apos) [] [] p') j (pop0M ds) := fun X sc en => by
  obtain ⟨h1, h2, h3⟩ := sc.visOk hv hi
  refine peW (pe_bm0 PySem.F.plainAttrs_list PySem.F.slot_list_pop PySem.F.type_list_pop mt_pop (pe_var (i := j) (by rw [sc.N]; exact hi) h1 h2 h3) (by rfl) hline) fun σ H Q ⟨Hs, τ, e0, w⟩ => ?_
  obtain ⟨a, q1, q2⟩ := e0.own j _ hρ
  obtain ⟨u, q3, q4⟩ := q2.obj
  cases q4 with
  | lst rl =>
    refine ⟨.ref a, q1, tyV_own (C := F.C) q3, ?_⟩
    unfold pop0M at w
    split at w
    · rename_i d hd
      obtain ⟨v, hv1, hv2⟩ := rl.get hd
      exact ⟨_, _, v, rfl, rfl, q3, by rw [← rl.length]; exact hv1, w v _ Hs (e0.mutO hρ q1 rl.dropLast) (Sub.refl _) hv2⟩
    · exact w.elim
theorem evq_pop (j : Nat) {x : Str} {ds : List D} (h : Ev F S ρ e m) (hρ : ρ[j]? = some (some (true, .lst ds)) := by rfl) (hi : S.N[j]? = some x := by rfl) (hv : S.vl.contains j = true := by rfl) (hs : isStar e = false := by rfl) (hline : (apos.endLine == p'.line) = true := by rfl) : EvQ F S ρ (.Call (.Attribute (.Name x p) "pop" apos) [e] [] p') j (m.bind (popM ds)) := fun X sc en => by
  obtain ⟨h1, h2, h3⟩ := sc.visOk hv hi
  have hva : PA X [e] (rdV F S.E en ρ (m.bind fun d => (T.ret []).bind fun ds => .ret (d :: ds))) := evv_cons h evv_nil hs X sc en
  refine peW (pe_bm PySem.F.plainAttrs_list PySem.F.slot_list_pop PySem.F.type_list_pop mt_popAt (pe_var (i := j) (by rw [sc.N]; exact hi) h1 h2 h3) hva (by rfl) (by rw [star_cons hs]; rfl) hline (star_cons hs _ _) (by rfl)) fun σ H Q ⟨Hs, τ, e0, w⟩ => ?_
  obtain ⟨a, q1, q2⟩ := e0.own j _ hρ
  obtain ⟨u, q3, q4⟩ := q2.obj
  cases q4 with
  | lst rl0 =>
    refine ⟨.ref a, q1, tyV_own (C := F.C) q3, Hs, τ, e0, ?_⟩
    refine T.wp_bind.mpr (T.wp_mono (T.wp_bind.mp w) (fun d w1 => ?_) fun _ _ k => k)
    intro vs H1 Hs1 e1 s1 r1
    unfold popM at w1
    split at w1
    · rename_i i
      split at w1
      · rename_i hb
        split at w1
        · rename_i k hk
          split at w1
          · rename_i d' hd
            cases r1 with
            | cons r1 t =>
              cases t
              cases r1
              obtain ⟨a', y1, y2⟩ := e1.own j _ hρ
              have ea := q1.symm.trans y1
              cases ea
              obtain ⟨u', y3, y4⟩ := y2.obj
              cases y4 with
              | lst rl =>
                obtain ⟨v, hv1, hv2⟩ := rl.get hd
                exact ⟨_, _, i, k, v, rfl, rfl, y3, hb.1, hb.2, by rw [← rl.length]; exact hk, hv1, w1 v _ Hs1 (e1.mutO hρ q1 (rl.eraseIdx k)) s1 hv2⟩
          · exact w1.elim
        · exact w1.elim
      · exact w1.elim
    · exact w1.elim
/-- what is done with what was popped -/
def popB (mp : T (D × List D)) (k : D → List D → T D) : T D := mp.bind fun q => k q.1 q.2
def popA (ds : List D) (mp : T (D × List D)) (k : D → List D → T D) : T D := mp.bind fun q => if ds.length < sizeLine then k q.1 q.2 else .stuck
theorem bl_setP (i : Nat) {j : Nat} {x : Str} {mp : T (D × List D)} {k : D → List D → T D} (h : EvQ F S ρ e j mp) (hk : ∀ d l, Bl F S ((ρ.set j (some (true, .lst l))).set i (some (false, d))) rest J (k d l)) (hi : S.N[i]? = some x := by rfl) (hv : S.ll.contains i = true := by rfl) (hs : ∀ tgt line env, swapsWith e (some tgt) line env = pure false := by intros; rfl) :
    Bl F S ρ (.Assign [.Name x p] e pos :: rest) J (popB mp k) := fun X sc en => by
  obtain ⟨h1, h2⟩ := sc.locOk hv hi
  have hr : PSs X rest (fun D σ H => ∃ d l, blR F S.E en J ((ρ.set j (some (true, .lst l))).set i (some (false, d))) (k d l) D σ H) := ⟨fun pins s σ H D I ⟨d, l, h⟩ => (hk d l X sc en).run pins s σ H D I h⟩
  refine pssCons (ps_set (by rw [sc.N]; exact sc.nd) (by rw [sc.N]; exact hi) h1 (h X sc en) (hs _ _ _) h2) hr fun D σ H ⟨Hs, Rt, e0, w, r, n, b, c⟩ => ?_
  exact ⟨Hs, [], e0, T.wp_mono (T.wp_bind.mp w) (fun q w1 v H1 Hs1 e1 s1 r1 => ⟨q.1, q.2, Hs1, Rt, e1.set i r1, w1, r, n.later s1, b.later s1, c.later s1⟩) fun _ _ k => k⟩
theorem bl_dropP {j : Nat} {mp : T (D × List D)} {k : D → List D → T D} (h : EvQ F S ρ e j mp) (hk : ∀ d l, Bl F S (ρ.set j (some (true, .lst l))) rest J (k d l)) (hs : ∀ line env, swapsWith e none line env = pure false := by intros; rfl) :
    Bl F S ρ (.Expr e pos :: rest) J (popB mp k) := fun X sc en => by
  have hr : PSs X rest (fun D σ H => ∃ d l, blR F S.E en J (ρ.set j (some (true, .lst l))) (k d l) D σ H) := ⟨fun pins s σ H D I ⟨d, l, h⟩ => (hk d l X sc en).run pins s σ H D I h⟩
  refine pssCons (ps_expr (h X sc en) (hs _ _)) hr fun D σ H ⟨Hs, Rt, e0, w, r, n, b, c⟩ => ?_
  exact ⟨Hs, [], e0, T.wp_mono (T.wp_bind.mp w) (fun q w1 v H1 Hs1 e1 s1 r1 => ⟨q.1, q.2, Hs1, Rt, e1, w1, r, n.later s1, b.later s1, c.later s1⟩) fun _ _ k => k⟩
/-- x.append(y.pop(..)) -/
theorem bl_appP (i : Nat) {j : Nat} {x : Str} {ds : List D} {mp : T (D × List D)} {k : D → List D → T D} (h : EvQ F S ρ e j mp) (hk : ∀ d l, Bl F S ((ρ.set j (some (true, .lst l))).set i (some (true, .lst (ds ++ [d])))) rest J (k d l)) (hij : j ≠ i := by decide) (hρ : ρ[i]? = some (some (true, .lst ds)) := by rfl) (hi : S.N[i]? = some x := by rfl) (hv : S.vl.contains i = true := by rfl) (hs : isStar e = false := by rfl)
    (hline : (apos.endLine == p'.line) = true := by rfl) : Bl F S ρ (.Expr (.Call (.Attribute (.Name x p) "append" apos) [e] [] p') pos :: rest) J (popA ds mp k) := fun X sc en => by
  obtain ⟨h1, h2, h3⟩ := sc.visOk hv hi
  have hr : PSs X rest (fun D σ H => ∃ d l, blR F S.E en J ((ρ.set j (some (true, .lst l))).set i (some (true, .lst (ds ++ [d])))) (k d l) D σ H) := ⟨fun pins s σ H D I ⟨d, l, h⟩ => (hk d l X sc en).run pins s σ H D I h⟩
  have hva := pa_cons (h X sc en) pa_nil (star_cons hs [] _)
  refine pssCons (ps_expr (pe_bm PySem.F.plainAttrs_list PySem.F.slot_list_append PySem.F.type_list_append mt_append (pe_var (i := i) (by rw [sc.N]; exact hi) h1 h2 h3) hva (by rfl) (by rw [star_cons hs]; rfl) hline (star_cons hs _ _) (by rfl)) (by rfl)) hr fun D σ H ⟨Hs, Rt, e0, w, r, n, b, c⟩ => ?_
  obtain ⟨a, q1, q2⟩ := e0.own i _ hρ
  obtain ⟨u, q3, q4⟩ := q2.obj
  cases q4 with
  | lst rl0 =>
    refine ⟨.ref a, q1, tyV_own (C := F.C) q3, Hs, [], e0, ?_⟩
    refine T.wp_mono (T.wp_bind.mp w) (fun q w1 => ?_) fun _ _ k => k
    intro v H1 Hs1 e1 s1 r1
    split at w1
    · rename_i hz
      have hρ2 : (ρ.set j (some (true, .lst q.2)))[i]? = some (some (true, .lst ds)) := by rw [List.getElem?_set_ne hij]; exact hρ
      obtain ⟨a', y1, y2⟩ := e1.own i _ hρ2
      have ea := q1.symm.trans y1
      cases ea
      obtain ⟨u', y3, y4⟩ := y2.obj
      cases y4 with
      | lst rl =>
        exact ⟨_, _, _, rfl, rfl, y3, by rw [← rl.length]; exact hz, q.1, q.2, Hs1, Rt, e1.mutO hρ2 q1 (rl.append (.cons r1 .nil)), w1, r, n.later s1, b.later s1, c.later s1⟩
    · exact w1.elim
/-! ### tuple targets -/
theorem bl_tgt {js : List Nat} {un : D → Option (List D)} {k : D → T D} (h : Ev F S ρ e m) (hg : EvG F S tg js un) (hk : ∀ d ds, un d = some ds → Bl F S (bindD js ds ρ) rest J (k d)) (hst : ∀ d, un d = none → k d = .stuck)
    (hs : ∀ line env, swapsWithSole [tg] e line env = pure false := by intros; rfl) (hw : ∀ env, swappedStores [tg] e env = pure none := by intros; rfl) (h1 : ∀ env, (assignEach [tg] env).map (·.2) = [assign tg env] := by intros; rfl) : Bl F S ρ (.Assign [tg] e pos :: rest) J (m.bind k) := fun X sc en => by
  obtain ⟨g, hg1, hg2⟩ := hg
  have hr : PSs X rest (fun D σ H => ∃ d ds, un d = some ds ∧ blR F S.E en J (bindD js ds ρ) (k d) D σ H) := ⟨fun pins s σ H D I ⟨d, l, hu, h⟩ => (hk d l hu X sc en).run pins s σ H D I h⟩
  refine pssCons (ps_asg (h X sc en) (hg1 X sc) (hs _ _) (hw _) (h1 _)) hr fun D σ H ⟨Hs, Rt, e0, w, r, n, b, c⟩ => ?_
  refine ⟨Hs, [], e0, T.wp_mono (T.wp_bind.mp w) (fun d w1 v H1 Hs1 e1 s1 r1 => ?_) fun _ _ k => k⟩
  cases hu : un d with
  | none =>
    rw [hst d hu] at w1
    exact w1.elim
  | some ds => exact hg2 en Hs1 [] ρ σ H1 d ds v _ e1 r1 hu fun vs rvs => ⟨d, ds, hu, Hs1, Rt, e1.binds rvs, w1, r, n.later s1, b.later s1, c.later s1⟩
theorem bl_tgtP {j : Nat} {js : List Nat} {un : D → Option (List D)} {mp : T (D × List D)} {k : D → List D → T D} (h : EvQ F S ρ e j mp) (hg : EvG F S tg js un) (hk : ∀ d ds l, un d = some ds → Bl F S (bindD js ds (ρ.set j (some (true, .lst l)))) rest J (k d l)) (hst : ∀ d l, un d = none → k d l = .stuck)
    (hs : ∀ line env, swapsWithSole [tg] e line env = pure false := by intros; rfl) (hw : ∀ env, swappedStores [tg] e env = pure none := by intros; rfl) (h1 : ∀ env, (assignEach [tg] env).map (·.2) = [assign tg env] := by intros; rfl) : Bl F S ρ (.Assign [tg] e pos :: rest) J (mp.bind fun q => k q.1 q.2) := fun X sc en => by
  obtain ⟨g, hg1, hg2⟩ := hg
  have hr : PSs X rest (fun D σ H => ∃ d ds l, un d = some ds ∧ blR F S.E en J (bindD js ds (ρ.set j (some (true, .lst l)))) (k d l) D σ H) := ⟨fun pins s σ H D I ⟨d, ds, l, hu, h⟩ => (hk d ds l hu X sc en).run pins s σ H D I h⟩
  refine pssCons (ps_asg (h X sc en) (hg1 X sc) (hs _ _) (hw _) (h1 _)) hr fun D σ H ⟨Hs, Rt, e0, w, r, n, b, c⟩ => ?_
  refine ⟨Hs, [], e0, T.wp_mono (T.wp_bind.mp w) (fun q w1 v H1 Hs1 e1 s1 r1 => ?_) fun _ _ k => k⟩
  cases hu : un q.1 with
  | none =>
    rw [hst q.1 q.2 hu] at w1
    exact w1.elim
  | some ds => exact hg2 en Hs1 [] _ σ H1 q.1 ds v _ e1 r1 hu fun vs rvs => ⟨q.1, ds, q.2, hu, Hs1, Rt, e1.binds rvs, w1, r, n.later s1, b.later s1, c.later s1⟩
/-! ### a list of one's own by + -/
def catM : D → D → T (List D)
  | .lst a, .lst b => if a.length + b.length ≤ sizeLine then .ret (a ++ b) else .stuck
  | _, _ => .stuck
theorem evl_add {ma mb : T D} (ha : EvO F S ρ a ma) (hb : EvO F S ρ b mb) : EvL F S ρ (.BinOp a .Add b pos) (ma.bind fun x => mb.bind fun y => catM x y) := fun X sc en =>
  peW (pe_op op_cat (ha X sc en) (hb X sc en)) fun σ H Q ⟨Hs, τ, e0, w⟩ => ⟨Hs, τ, e0, T.wp_mono (T.wp_bind.mp w) (fun d w1 v H1 Hs1 e1 s1 r1 => ⟨Hs1, τ, e1, T.wp_mono (T.wp_bind.mp w1) (fun d2 w2 v2 H2 Hs2 e2 s2 r2 => by
    unfold catM at w2
    split at w2
    · rename_i l l2
      split at w2
      · rename_i hz
        obtain ⟨p, xs, rfl, h1, q1⟩ := (r1.sub s2).list e2
        obtain ⟨q, ys, rfl, h2, q2⟩ := r2.list e2
        exact ⟨p, q, xs, ys, rfl, rfl, h1, h2, by rw [← q1.length, ← q2.length]; exact hz, fun t ht => w2 t _ Hs2 (e2.allocT ht (q1.append q2)) (Sub.trans s1 s2)⟩
      · exact w2.elim
    · exact w2.elim) fun _ _ k => k⟩) fun _ _ k => k⟩
end
end MS

/-! Part 12: parallel assignments. -/
namespace MS
open PySem PySem.Spec PyProof.Rows L2
/-! ### which way the stores go -/
def isFnK : ScopeKind → Bool
  | .function => true
  | _ => false
def swB (sc : Scope) (x y : Str) (px py : Pos) (a b : Expr) : Bool := isFnK sc.kind && (sc.names.lookup x == some .local) && (sc.names.lookup y == some .local) && (px.line == py.line) && !(y == x) && !isStar a && !isStar b && !(foldedForSure 8 a && foldedForSure 8 b) && !(constantsAlone 8 a && constantsAlone 8 b)
def nsB (sc : Scope) (x y : Str) (a b : Expr) : Bool := isFnK sc.kind && (!(sc.names.lookup x == some .local) || !(sc.names.lookup y == some .local) || (foldedForSure 8 a && foldedForSure 8 b)) && !isStar a && !isStar b
theorem bk_fn {env : Env} {sc : Scope} (h : env.scope = sc) (hk : isFnK sc.kind = true) : env.blockKind = .function := by
  unfold Env.blockKind
  rw [h]
  cases q : sc.kind <;> rw [q] at hk <;> first | rfl | cases hk
theorem sw_some {env : Env} {sc : Scope} {x y : Str} {px py pt pt2 : Pos} {kt k2 : Nat} {a b : Expr} (he : env.scope = sc) (h : swB sc x y px py a b = true) : swappedStores [.Tuple [.Name x px, .Name y py] kt pt] (.Tuple [a, b] k2 pt2) env = pure (some [x, y]) := by
  unfold swB at h
  simp only [Bool.and_eq_true, Bool.not_eq_true'] at h
  obtain ⟨⟨⟨⟨⟨⟨⟨⟨h1, h2⟩, h3⟩, h4⟩, h5⟩, h6⟩, h7⟩, h8⟩, h9⟩ := h
  have hb := bk_fn he h1
  have kx : (env.kindOf x == some .local) = true := by unfold Env.kindOf; rw [he]; exact h2
  have ky : (env.kindOf y == some .local) = true := by unfold Env.kindOf; rw [he]; exact h3
  have l2 : (py.line == px.line) = true := by
    have : px.line = py.line := by simpa using h4
    simp [this]
  have ne : ¬ y = x := by simpa using h5
  have ne' : ¬ x = y := fun z => ne z.symm
  have kx' : env.kindOf x = some .local := by simpa using kx
  have ky' : env.kindOf y = some .local := by simpa using ky
  have l2' : py.line = px.line := by simpa using l2
  simp only [swappedStores]
  simp [hb, h8, h9, Expr.pos, List.filterMap_cons, kx', ky', l2', List.eraseDups_cons, ne, ne']
  intro h
  exfalso
  rcases h with h | h
  · clear h8 h9
    cases a <;> first | (cases h6; done) | (cases h; done)
  · clear h8 h9
    cases b <;> first | (cases h7; done) | (cases h; done)
theorem sw_none {env : Env} {sc : Scope} {x y : Str} {px py pt pt2 : Pos} {kt k2 : Nat} {a b : Expr} (he : env.scope = sc) (h : nsB sc x y a b = true) : swappedStores [.Tuple [.Name x px, .Name y py] kt pt] (.Tuple [a, b] k2 pt2) env = pure none := by
  unfold nsB at h
  simp only [Bool.and_eq_true, Bool.not_eq_true', Bool.or_eq_true] at h
  obtain ⟨⟨⟨h1, h2⟩, h6⟩, h7⟩ := h
  have hb := bk_fn he h1
  have kn : env.kindOf = fun n => sc.names.lookup n := by
    funext n
    unfold Env.kindOf
    rw [he]
  simp only [swappedStores]
  rcases h2 with (h2 | h2) | h2
  · have k : ¬ sc.names.lookup x = some .local := by simpa using h2
    simp [hb, Expr.pos, kn, List.filterMap_cons, k]
    intro _ _ z
    exfalso
    split at z <;> simp at z
  · have k : ¬ sc.names.lookup y = some .local := by simpa using h2
    simp [hb, Expr.pos, kn, List.filterMap_cons, k]
    intro _ _ z
    exfalso
    split at z <;> simp at z
  · simp [hb, h2, Expr.pos]
/-! ### pairs of values, told or one's own -/
section
variable {F : Fx} {S : Sx} {ρ ρ' : DEnv} {e a b c o tg iter elt : Expr} {es : List Expr} {rest body body' sts : List Stmt} {pos pos' p p' apos : Pos} {k0 : Nat} {f x y : Str} {J : Js} {m m' : T D}
def EvB (F : Fx) (S : Sx) (ρ : DEnv) (e : Expr) (own : Bool) (m : T D) : Prop := ∀ X, SC F S X → ∀ en, PE X e (fun σ H Q => ∃ Hs τ, EnvOk F.C en Hs τ ρ σ H ∧ m.wp (fun d => match own with
  | true => ∀ a H' Hs', EnvOk F.C en Hs' ((a, d) :: τ) ρ σ H' → Sub Hs Hs' → Q (.ref a) H'
  | false => ∀ v H' Hs', EnvOk F.C en Hs' τ ρ σ H' → Sub Hs Hs' → Rep F.C en.g Hs' d v → Q v H') (excP F S.E en))
theorem Ev.ob (h : Ev F S ρ e m) : EvB F S ρ e false m := fun X sc en => peW (h X sc en) fun σ H Q h => h
theorem EvL.ob {ml : T (List D)} (h : EvL F S ρ e ml) : EvB F S ρ e true (ml.bind fun ds => .ret (.lst ds)) := fun X sc en => peW (h X sc en) fun σ H Q ⟨Hs, τ, e0, w⟩ => ⟨Hs, τ, e0, T.wp_mono (T.wp_bind.mp w) (fun ds k => k) fun _ _ k => k⟩
theorem EnvOk.turn {C : Ct} {en : Ent} {Hs H : Hp} {q r : Addr × D} {τ : List (Addr × D)} {σ : L2.St} (e : EnvOk C en Hs (q :: r :: τ) ρ σ H) : EnvOk C en Hs (r :: q :: τ) ρ σ H := by
  have mm : ∀ z, z ∈ r :: q :: τ → z ∈ q :: r :: τ := fun z hz => by
    rcases List.mem_cons.mp hz with h | hz
    · exact h ▸ List.mem_cons_of_mem _ (List.mem_cons_self ..)
    · rcases List.mem_cons.mp hz with h | hz
      · exact h ▸ List.mem_cons_self ..
      · exact List.mem_cons_of_mem _ (List.mem_cons_of_mem _ hz)
  refine ⟨e.wd, e.fro, e.own, e.dis, fun z hz => e.tmp z (mm z hz), ?_, fun i d z hz => e.tsl i d z (mm z hz), e.len⟩
  have := e.tdis
  simp only [List.map_cons, List.nodup_cons, List.mem_cons, not_or] at this ⊢
  exact ⟨⟨fun z => this.1.1 z.symm, this.2.1⟩, this.1.2, this.2.2⟩
theorem par_core {X : Cx} {en : Ent} {o1 o2 : Bool} {m1 m2 : T D} (sc : SC F S X) (h1 : EvB F S ρ a o1 m1) (h2 : EvB F S ρ b o2 m2) (hs : isStar a = false) (hs2 : isStar b = false) (i j : Nat) :
    PA X [a, b] (fun σ H Q => ∃ Hs, EnvOk F.C en Hs [] ρ σ H ∧ (m1.bind fun d1 => m2.bind fun d2 => T.ret (d1, d2)).wp (fun q => ∀ v w H' Hs', EnvOk F.C en Hs' [] ((ρ.set i (some (o1, q.1))).set j (some (o2, q.2))) ((σ.set i (some v)).set j (some w)) H' → Sub Hs Hs' →
      (∀ t, H' t = none → EnvOk F.C en Hs' [] ((ρ.set i (some (o1, q.1))).set j (some (o2, q.2))) ((σ.set i (some v)).set j (some w)) (upd H' t (.tup [v, w]))) → Q [v, w] H') (excP F S.E en)) := by
  refine paW (pa_cons (h1 X sc en) (pa_cons (h2 X sc en) pa_nil (star_cons hs2 _ _)) (star_cons hs _ _)) fun σ H Q ⟨Hs, e0, w⟩ => ?_
  refine ⟨Hs, [], e0, T.wp_mono (T.wp_bind.mp w) (fun d1 w1 => ?_) fun _ _ k => k⟩
  have fin : ∀ {d2 : D} {ρ2 : DEnv} {σ2 : L2.St} {v w : V} {H' Hs' : Hp}, EnvOk F.C en Hs' [] ρ2 σ2 H' → ∀ t, H' t = none → EnvOk F.C en Hs' [] ρ2 σ2 (upd H' t (.tup [v, w])) := fun e t ht => e.step (e.wd.alloc' ht _) (Sub.refl _) (fun _ _ q => .inl q) fun a u _ q _ => sub_upd ht a u q
  cases o1 with
  | true =>
    intro a1 H1 Hs1 e1 s1
    refine ⟨Hs1, _, e1, T.wp_mono (T.wp_bind.mp w1) (fun d2 w2 => ?_) fun _ _ k => k⟩
    cases o2 with
    | true =>
      intro a2 H2 Hs2 e2 s2
      have e3 := (e2.turn.take i).take j
      exact w2 _ _ _ _ e3 (Sub.trans s1 s2) (fin (d2 := d2) e3)
    | false =>
      intro v2 H2 Hs2 e2 s2 r2
      have e3 := (e2.take i).set j r2
      exact w2 _ _ _ _ e3 (Sub.trans s1 s2) (fin (d2 := d2) e3)
  | false =>
    intro v1 H1 Hs1 e1 s1 r1
    refine ⟨Hs1, _, e1, T.wp_mono (T.wp_bind.mp w1) (fun d2 w2 => ?_) fun _ _ k => k⟩
    cases o2 with
    | true =>
      intro a2 H2 Hs2 e2 s2
      have e3 : EnvOk F.C en Hs2 ((a2, d2) :: []) (ρ.set i (some (false, d1))) (σ.set i (some v1)) H2 := e2.set i (r1.sub s2)
      have e4 := e3.take j
      exact w2 _ _ _ _ e4 (Sub.trans s1 s2) (fin (d2 := d2) e4)
    | false =>
      intro v2 H2 Hs2 e2 s2 r2
      have e3 := (e2.set i (r1.sub s2)).set j r2
      exact w2 _ _ _ _ e3 (Sub.trans s1 s2) (fin (d2 := d2) e3)
theorem bl_parB (i j : Nat) {x y : Str} {px py pt pt2 : Pos} {kt k2 : Nat} {o1 o2 : Bool} {m1 m2 : T D} {k : D → D → T D} (h1 : EvB F S ρ a o1 m1) (h2 : EvB F S ρ b o2 m2) (hk : ∀ d1 d2, Bl F S ((ρ.set i (some (o1, d1))).set j (some (o2, d2))) rest J (k d1 d2))
    (hw : swB S.sc x y px py a b = true ∨ nsB S.sc x y a b = true) (hi : S.N[i]? = some x) (hj : S.N[j]? = some y) (hv : S.ll.contains i = true) (hv2 : S.ll.contains j = true) (hne : i ≠ j) :
    Bl F S ρ (.Assign [.Tuple [.Name x px, .Name y py] kt pt] (.Tuple [a, b] k2 pt2) pos :: rest) J (m1.bind fun d1 => m2.bind fun d2 => k d1 d2) := fun X sc en => by
  have hr : PSs X rest (fun D σ H => ∃ d1 d2, blR F S.E en J ((ρ.set i (some (o1, d1))).set j (some (o2, d2))) (k d1 d2) D σ H) := ⟨fun pins s σ H D I ⟨d1, d2, h⟩ => (hk d1 d2 X sc en).run pins s σ H D I h⟩
  have hst : isStar a = false ∧ isStar b = false := by
    rcases hw with h | h
    · unfold swB at h
      simp only [Bool.and_eq_true, Bool.not_eq_true'] at h
      exact ⟨h.1.1.1.2, h.1.1.2⟩
    · unfold nsB at h
      simp only [Bool.and_eq_true, Bool.not_eq_true'] at h
      exact ⟨h.1.2, h.2⟩
  have hp := par_core (en := en) sc h1 h2 hst.1 hst.2 i j
  have core : ∀ {D : Ends} {σ : L2.St} {H : Hp}, blR F S.E en J ρ (m1.bind fun d1 => m2.bind fun d2 => k d1 d2) D σ H → ∀ (Q : List V → Hp → Prop), (∀ v w H', ((∃ d1 d2, blR F S.E en J ((ρ.set i (some (o1, d1))).set j (some (o2, d2))) (k d1 d2) D ((σ.set i (some v)).set j (some w)) H') ∧ ∀ t, H' t = none → ∃ d1 d2, blR F S.E en J ((ρ.set i (some (o1, d1))).set j (some (o2, d2))) (k d1 d2) D ((σ.set i (some v)).set j (some w)) (upd H' t (.tup [v, w]))) → Q [v, w] H') →
      (fun σ H Q => ∃ Hs, EnvOk F.C en Hs [] ρ σ H ∧ (m1.bind fun d1 => m2.bind fun d2 => T.ret (d1, d2)).wp (fun q => ∀ v w H' Hs', EnvOk F.C en Hs' [] ((ρ.set i (some (o1, q.1))).set j (some (o2, q.2))) ((σ.set i (some v)).set j (some w)) H' → Sub Hs Hs' →
      (∀ t, H' t = none → EnvOk F.C en Hs' [] ((ρ.set i (some (o1, q.1))).set j (some (o2, q.2))) ((σ.set i (some v)).set j (some w)) (upd H' t (.tup [v, w]))) → Q [v, w] H') (excP F S.E en)) σ H Q := fun {D σ H} ⟨Hs, Rt, e0, w, r, n, b, c⟩ Q hQ => by
    refine ⟨Hs, e0, ?_⟩
    refine T.wp_bind.mpr (T.wp_mono (T.wp_bind.mp w) (fun d1 w1 => ?_) fun _ _ k => k)
    refine T.wp_bind.mpr (T.wp_mono (T.wp_bind.mp w1) (fun d2 w2 => ?_) fun _ _ k => k)
    intro v w H' Hs' e' s' ht
    exact hQ v w H' ⟨⟨d1, d2, Hs', Rt, e', w2, r, n.later s', b.later s', c.later s'⟩, fun t z => ⟨d1, d2, Hs', Rt, ht t z, w2, r, n.later s', b.later s', c.later s'⟩⟩
  rcases hw with hw | hw
  · have hw' := hw
    unfold swB at hw'
    simp only [Bool.and_eq_true, Bool.not_eq_true', beq_iff_eq] at hw'
    obtain ⟨⟨⟨⟨⟨⟨⟨⟨g1, g2⟩, g3⟩, g4⟩, g5⟩, g6⟩, g7⟩, g8⟩, g9⟩ := hw'
    refine pssCons (ps_par sc.calm (by rw [sc.N]; exact sc.nd) (by rw [sc.N]; exact hi) (by rw [sc.N]; exact hj) hne (by rw [sc.sc]; exact g2) (by rw [sc.sc]; exact g3) hp (sw_some sc.sc hw)) hr fun D σ H h => ?_
    exact core h (fun vs H1 => ∃ v w, vs = [v, w] ∧ ∃ d1 d2, blR F S.E en J ((ρ.set i (some (o1, d1))).set j (some (o2, d2))) (k d1 d2) D ((σ.set i (some v)).set j (some w)) H1) fun v w H' q => ⟨v, w, rfl, q.1⟩
  · refine pssCons (ps_asg (pe_tup hp) (pg_tup sc.calm (pgs_cons (sc.pg hv hi) (pgs_cons (sc.pg hv2 hj) pgs_nil))) (by rfl) (sw_none sc.sc hw)) hr fun D σ H h => ?_
    refine core h (fun vs H1 => vs.length ≤ sizeLine ∧ ∀ t, H1 t = none → gTup X.K 2 (gCons (gName i) (gCons (gName j) gNil)) (.ref t) σ (upd H1 t (.tup vs)) fun σ' H' => ∃ d1 d2, blR F S.E en J ((ρ.set i (some (o1, d1))).set j (some (o2, d2))) (k d1 d2) D σ' H') fun v w H' q => ⟨by show 2 ≤ sizeLine; decide, fun t ht => ⟨t, [v, w], rfl, .inl (.inl upd_same), rfl, v, [w], rfl, w, [], rfl, rfl, q.2 t ht⟩⟩
def asL (d : D) (k : List D → T D) : T D := match d with
  | .lst ds => k ds
  | _ => .stuck
theorem bl_par (i j : Nat) {x y : Str} {px py pt pt2 : Pos} {kt k2 : Nat} {m1 m2 : T D} {k : D → D → T D} (h1 : Ev F S ρ a m1) (h2 : Ev F S ρ b m2) (hk : ∀ d1 d2, Bl F S ((ρ.set i (some (false, d1))).set j (some (false, d2))) rest J (k d1 d2))
    (hw : (swB S.sc x y px py a b || nsB S.sc x y a b) = true) (hi : S.N[i]? = some x := by rfl) (hj : S.N[j]? = some y := by rfl) (hv : S.ll.contains i = true := by rfl) (hv2 : S.ll.contains j = true := by rfl) (hne : i ≠ j := by decide) :
    Bl F S ρ (.Assign [.Tuple [.Name x px, .Name y py] kt pt] (.Tuple [a, b] k2 pt2) pos :: rest) J (m1.bind fun d1 => m2.bind fun d2 => k d1 d2) := bl_parB i j h1.ob h2.ob hk (by rwa [Bool.or_eq_true] at hw) hi hj hv hv2 hne
theorem bl_parLL (i j : Nat) {x y : Str} {px py pt pt2 : Pos} {kt k2 : Nat} {m1 m2 : T (List D)} {k : List D → List D → T D} (h1 : EvL F S ρ a m1) (h2 : EvL F S ρ b m2) (hk : ∀ d1 d2, Bl F S ((ρ.set i (some (true, .lst d1))).set j (some (true, .lst d2))) rest J (k d1 d2))
    (hw : (swB S.sc x y px py a b || nsB S.sc x y a b) = true) (hi : S.N[i]? = some x := by rfl) (hj : S.N[j]? = some y := by rfl) (hv : S.ll.contains i = true := by rfl) (hv2 : S.ll.contains j = true := by rfl) (hne : i ≠ j := by decide) :
    Bl F S ρ (.Assign [.Tuple [.Name x px, .Name y py] kt pt] (.Tuple [a, b] k2 pt2) pos :: rest) J (m1.bind fun d1 => m2.bind fun d2 => k d1 d2) := by
  have h := bl_parB (pos := pos) (pt := pt) (pt2 := pt2) (kt := kt) (k2 := k2) (px := px) (py := py) (rest := rest) (J := J) (k := fun d1 d2 => asL d1 fun l1 => asL d2 fun l2 => k l1 l2) i j h1.ob h2.ob (fun d1 d2 => by
    unfold asL
    split
    · split
      · exact hk _ _
      · exact bl_stuck
    · exact bl_stuck) (by rwa [Bool.or_eq_true] at hw) hi hj hv hv2 hne
  rw [T.bind_assoc] at h
  simp only [T.bind_ret] at h
  refine bl_eq ?_ h
  congr 1
  funext d1
  rw [T.bind_assoc]
  rfl
theorem bl_parFL (i j : Nat) {x y : Str} {px py pt pt2 : Pos} {kt k2 : Nat} {m1 : T D} {m2 : T (List D)} {k : D → List D → T D} (h1 : Ev F S ρ a m1) (h2 : EvL F S ρ b m2) (hk : ∀ d1 d2, Bl F S ((ρ.set i (some (false, d1))).set j (some (true, .lst d2))) rest J (k d1 d2))
    (hw : (swB S.sc x y px py a b || nsB S.sc x y a b) = true) (hi : S.N[i]? = some x := by rfl) (hj : S.N[j]? = some y := by rfl) (hv : S.ll.contains i = true := by rfl) (hv2 : S.ll.contains j = true := by rfl) (hne : i ≠ j := by decide) :
    Bl F S ρ (.Assign [.Tuple [.Name x px, .Name y py] kt pt] (.Tuple [a, b] k2 pt2) pos :: rest) J (m1.bind fun d1 => m2.bind fun d2 => k d1 d2) := by
  have h := bl_parB (pos := pos) (pt := pt) (pt2 := pt2) (kt := kt) (k2 := k2) (px := px) (py := py) (rest := rest) (J := J) (k := fun d1 d2 => asL d2 fun l2 => k d1 l2) i j h1.ob h2.ob (fun d1 d2 => by
    unfold asL
    split
    · exact hk _ _
    · exact bl_stuck) (by rwa [Bool.or_eq_true] at hw) hi hj hv hv2 hne
  refine bl_eq ?_ h
  congr 1
  funext d1
  rw [T.bind_assoc]
  rfl
theorem bl_parLF (i j : Nat) {x y : Str} {px py pt pt2 : Pos} {kt k2 : Nat} {m1 : T (List D)} {m2 : T D} {k : List D → D → T D} (h1 : EvL F S ρ a m1) (h2 : Ev F S ρ b m2) (hk : ∀ d1 d2, Bl F S ((ρ.set i (some (true, .lst d1))).set j (some (false, d2))) rest J (k d1 d2))
    (hw : (swB S.sc x y px py a b || nsB S.sc x y a b) = true) (hi : S.N[i]? = some x := by rfl) (hj : S.N[j]? = some y := by rfl) (hv : S.ll.contains i = true := by rfl) (hv2 : S.ll.contains j = true := by rfl) (hne : i ≠ j := by decide) :
    Bl F S ρ (.Assign [.Tuple [.Name x px, .Name y py] kt pt] (.Tuple [a, b] k2 pt2) pos :: rest) J (m1.bind fun d1 => m2.bind fun d2 => k d1 d2) := by
  have h := bl_parB (pos := pos) (pt := pt) (pt2 := pt2) (kt := kt) (k2 := k2) (px := px) (py := py) (rest := rest) (J := J) (k := fun d1 d2 => asL d1 fun l1 => k l1 d2) i j h1.ob h2.ob (fun d1 d2 => by
    unfold asL
    split
    · exact hk _ _
    · exact bl_stuck) (by rwa [Bool.or_eq_true] at hw) hi hj hv hv2 hne
  rw [T.bind_assoc] at h
  simp only [T.bind_ret] at h
  exact h
end
end MS

/-! tuples are sorted, of which some may be empty. -/
namespace MS
open PySem PySem.Spec PyProof.Rows
open PySem.SeqAt PySem.Calls
open PySem.W (AllAlike Sortable alike alikeAll EachIs SortsAt dataKind dataLt Looks oneLt_alike)
section
variable {P : Program} {w : World} {A : Around} {E : Value → Shared → Prop} {s : Shared}
theorem tup_lt {l b : Addr} {is js : Array Value} {e r : Nat → Bool} {Q : Value → Shared → Prop} (hl : s.heap.IsTuple l is) (hb : s.heap.IsTuple b js) (he : ∀ j (h1 : j < is.size) (h2 : j < js.size), EqAt A.in1 s is[j] js[j] (e j))
    (hr : ∀ j (h1 : j < is.size) (h2 : j < js.size), e j = false → RcLt A.in1 s is[j] js[j] (r j)) (h : Q (.bool (firstLt e r (decide (is.size < js.size)) (List.range (min is.size js.size)))) s) :
    wpAny (model P w) A (call (.builtin "tuple.__lt__") [.ref l, .ref b]) Q E s := by
  obtain ⟨⟨c1, d1, x1, s1⟩, g1, t1, m1, y1⟩ := id hl
  obtain ⟨⟨c2, d2, x2, s2⟩, g2, t2, m2, y2⟩ := id hb
  simp only at t1 y1 t2 y2
  subst t1 y1 t2 y2
  exact call_meets F.slot_tuple_lt ⟨_, g1, rfl⟩ F.entry_tuple_lt (F.args_tuple_lt_2 _ _) (tuple_ltAt l b is js m1 m2 d1 d2 s1 s2 e r) ⟨g1, g2, he, hr, h⟩
/-- one tuple against another, as a list of tuples is sorted whose first is empty -/
theorem tups_lt {xs ys : List PyData} {a b : Value} {as bs : List Addr} {Q : Bool → Shared → Prop} (ra : Reads s.heap a (.tuple xs) as) (rb : Reads s.heap b (.tuple ys) bs) (h : alike (.tuple xs) (.tuple ys) = true)
    (hu : A.units + min (PyData.tuple xs).depth (PyData.tuple ys).depth < cLine) (hq : Q (dataLt (.tuple xs) (.tuple ys)) s) : wpAny (model P w) A (oneLt' true a b) Q E s := by
  have hal : PySem.W.alikeAll xs ys = true := by simpa [alike] using h
  cases ra with
  | @tuple l o vs n _ as₁ h1 h2 h3 h4 =>
    cases rb with
    | @tuple l' o' vs' n' _ bs₁ k1 k2 k3 k4 =>
      have n1 : vs.size = xs.length := by simpa using SeqAt.ReadsAll.length _ _ _ h4
      have n2 : vs'.size = ys.length := by simpa using SeqAt.ReadsAll.length _ _ _ k4
      rw [PySem.W.dataLt_tuple, ← PySem.W.firstLt_toks xs ys hal, ← n1, ← n2] at hq
      rw [oneLt'_eq]
      simp only [if_true]
      refine wpAny_bind (wpAny_cRoomFor (room_here hu) ?_)
      have sl := F.slot_tuple_lt
      refine wpAny_bind (wpAny_callSpecialIfBound?_slot (T := "tuple") ⟨_, h1, h2⟩ sl (tup_lt (e := pairEq xs ys) (r := fun j => dataLt (xs.getD j .none) (ys.getD j .none)) ⟨_, h1, h2, _, h3⟩ ⟨_, k1, k2, _, k3⟩ (fun j j1 j2 => ?_) (fun j j1 j2 hj => ?_) (wpAny_truthy_bool hq)))
      · have q := PySem.W.eqAt_alikeAll xs ys A.in1 s vs.toList vs'.toList _ _ h4 k4 hal (room_in hu) j (by simpa using j1) (by simpa using j2)
        simpa using q
      · have q := PySem.W.rcLt_alikeAll xs ys A.in1 s vs.toList vs'.toList _ _ h4 k4 hal (room_in hu) j (by simpa using j1) (by simpa using j2) hj
        simpa using q
/-- no empty tuple -/
def full : PyData → Bool
  | .tuple [] => false
  | _ => true
/-- which of them have a first item -/
theorem tups_firsts {M : Model} : ∀ {vs : List Value} {ds : List PyData} {Q : List (Option Value) → Shared → Prop}, EachIs (fun v d => ∃ as, Reads s.heap v d as) vs ds → (∀ d ∈ ds, ∃ xs, d = .tuple xs) →
    (∀ fs : List (Option Value), fs.map Option.isSome = ds.map full → Q fs s) → wpAny M A (vs.mapM firstOfTuple') Q E s
  | _, _, Q, .nil, _, h => by
    rw [List.mapM_nil]
    exact wpAny_pure (h [] rfl)
  | v :: vs, d :: ds, Q, .cons ⟨as, r⟩ t, ht, h => by
    obtain ⟨xs, rfl⟩ := ht d (List.mem_cons_self ..)
    rw [List.mapM_cons]
    refine wpAny_bind ?_
    rw [PySem.W.kas_first_eq]
    refine wpAny_bind ((PySem.W.looks_reads r).here ?_)
    have nt : ((PySem.W.dataType (.tuple xs) != Value.type "tuple") = true) = False := by simp [PySem.W.dataType]
    rw [if_neg (by rw [nt]; exact id)]
    cases r with
    | @tuple l o is n _ _ g1 g2 g3 g4 =>
      refine wpAny_bind (listItems_at g1 g3 (wpAny_pure ?_))
      refine wpAny_bind (tups_firsts (Q := fun fs s' => wpAny M A (pure (is[0]? :: fs)) Q E s') t (fun d hd => ht d (List.mem_cons_of_mem _ hd)) fun fs hf => wpAny_pure (h _ ?_))
      have ln : is.size = xs.length := by simpa using SeqAt.ReadsAll.length _ _ _ g4
      rw [List.map_cons, List.map_cons, hf]
      congr 1
      cases xs with
      | nil =>
        have : is[0]? = none := by simp at ln; simp [ln]
        rw [this]
        rfl
      | cons x xs =>
        have : 0 < is.size := by rw [ln]; exact Nat.succ_pos _
        simp [this, full]
theorem tups_sort {vs : List Value} {ds : List PyData} (e : EachIs (fun v d => ∃ as, Reads s.heap v d as) vs ds) (hal : AllAlike ds) (ht : ∀ d ∈ ds, ∃ xs, d = .tuple xs) (hem : .tuple [] ∈ ds) (hu : ∀ d, d ∈ ds → A.units + d.depth < cLine) : SortsAt P w A s (dataKind s.heap ds) vs := by
  have room : ∀ {d d' : PyData}, d ∈ ds → A.units + min d.depth d'.depth < cLine := fun {d d'} hd => by
    have := hu d hd
    have := Nat.min_le_left d.depth d'.depth
    omega
  refine ⟨fun v hv => ?_, ?_⟩
  · obtain ⟨d, hd, as, r⟩ := e.left v hv
    exact ⟨_, PySem.W.dataKind_some hal hd r⟩
  have look : ∀ v ∈ vs, Looks (model P w) s.heap (typeOf v) (Value.type "tuple") := fun v hv => by
    obtain ⟨d, hd, as, r⟩ := e.left v hv
    obtain ⟨xs, rfl⟩ := ht d hd
    exact PySem.W.looks_reads r
  have gen : ∀ (b : Bool) (E : Value → Shared → Prop) (x y : Value) (p q : List (Int ⊕ List Nat)) {Q : Bool → Shared → Prop}, (dataKind s.heap ds).keyOf x = some p → (dataKind s.heap ds).keyOf y = some q → Q ((dataKind s.heap ds).blt p q) s → wpAny (model P w) A (oneLt' b x y) Q E s := by
    intro b E x y p q Q hp hq hQ
    obtain ⟨d, as, hd, ra, rfl⟩ := PySem.W.dataKind_inv hp
    obtain ⟨d', as', hd', rb, rfl⟩ := PySem.W.dataKind_inv hq
    have hdd := hal d hd d' hd'
    obtain ⟨xs, rfl⟩ := ht d hd
    obtain ⟨ys, rfl⟩ := ht d' hd'
    cases b with
    | false => exact oneLt_alike (fun h => nomatch h) ra rb hdd (by simp) (room hd) hQ
    | true => exact tups_lt ra rb hdd (room hd) hQ
  have hany : ds.all full = false := by
    rw [List.all_eq_false]
    exact ⟨_, hem, by simp [full]⟩
  have notall : ∀ fs : List (Option Value), fs.map Option.isSome = ds.map full → ¬ (fs.toArray.all fun x => x.isSome) = true := fun fs hf h => by
    rw [List.all_toArray] at h
    have e1 : (fs.map Option.isSome).all id = fs.all fun x => x.isSome := by rw [List.all_map]; rfl
    have e2 : (ds.map full).all id = ds.all full := by rw [List.all_map]; rfl
    rw [← e1, hf, e2, hany] at h
    cases h
  have head : ∀ fs : List (Option Value), fs.map Option.isSome = ds.map full → (fs.toArray[0]?.bind id).isSome = decide ((ds.map full)[0]? = some true) := fun fs hf => by
    rw [← hf]
    cases fs with
    | nil => simp
    | cons f fs => cases f <;> simp
  by_cases hd0 : (ds.map full)[0]? = some true
  · refine ⟨general', fun E x y p q Q hp hq hQ => gen false E x y p q hp hq hQ, fun h2 E Q hq => ?_⟩
    rw [kat_kind_eq, List.mapM_toArray, map_eq_pure_bind]
    refine wpAny_bind (wpAny_bind (tups_firsts e ht fun fs hf => wpAny_pure ?_))
    rw [if_neg (notall fs hf), if_pos (by rw [head fs hf]; exact decide_eq_true hd0)]
    exact wpAny_pure hq
  · refine ⟨oneType', fun E x y p q Q hp hq hQ => gen true E x y p q hp hq hQ, fun h2 E Q hq => ?_⟩
    rw [kat_kind_eq, List.mapM_toArray, map_eq_pure_bind]
    refine wpAny_bind (wpAny_bind (tups_firsts e ht fun fs hf => wpAny_pure ?_))
    rw [if_neg (notall fs hf), if_neg (by rw [head fs hf]; simpa using hd0), oneTypeOnly'_eq, List.mapM_toArray, map_eq_pure_bind]
    refine wpAny_bind (wpAny_bind (wpAny_bind (PySem.W.kas_mapM (r := Value.type "tuple") _ (fun v hv Q' hq' => (look v hv).here hq') (wpAny_pure ?_))))
    have one : ((List.map (fun _ => Value.type "tuple") vs).toArray.all fun x => x == Value.type "tuple") = true := by
      rw [List.all_toArray, List.all_map, List.all_eq_true]
      intro _ _
      simp
    have first : (List.map (fun _ => Value.type "tuple") vs).toArray[0]? = some (Value.type "tuple") := by
      cases vs with
      | nil => simp at h2
      | cons v vs => simp
    rw [first]
    simp only [one, if_true]
    exact wpAny_pure (wpAny_pure hq)
/-- alike data of which all are tuples, or none is -/
theorem data_sort {vs : List Value} {ds : List PyData} (e : EachIs (fun v d => ∃ as, Reads s.heap v d as) vs ds) (hal : AllAlike ds) (ht : Sortable ds ∨ ∀ d ∈ ds, ∃ xs, d = .tuple xs) (hu : ∀ d, d ∈ ds → A.units + d.depth < cLine) : SortsAt P w A s (dataKind s.heap ds) vs := by
  rcases ht with ht | ht
  · exact SortsAt.data e hal ht hu
  · by_cases hem : ds.all full = true
    · refine SortsAt.data e hal (.inl fun d hd => ?_) hu
      obtain ⟨xs, rfl⟩ := ht d hd
      rw [List.all_eq_true] at hem
      have := hem _ hd
      cases xs with
      | nil => cases this
      | cons x r => exact ⟨x, r, rfl⟩
    · rw [List.all_eq_true] at hem
      refine tups_sort e hal ht ?_ hu
      by_cases q : PyData.tuple [] ∈ ds
      · exact q
      · refine absurd (fun d hd => ?_) hem
        obtain ⟨xs, rfl⟩ := ht d hd
        cases xs with
        | nil => exact absurd hd q
        | cons x r => rfl
/-! ### a tuple's items in a new list -/
theorem collect_tup {l : Addr} {vs : List Value} {Q : List Value → Shared → Prop} (hl : s.heap.IsTuple l vs.toArray) (hz : vs.length ≤ sizeLine)
    (h : Q vs { s with heap := (s.heap.push (seqObj "list" #[] 0)).update s.heap.objs.size (Obj.mapSeq (· ++ vs.toArray)) }) : wpAny (model P w) A (collect (.ref l)) Q E s := by
  obtain ⟨o, g1, g2, n, g3⟩ := id hl
  have g1' : (s.heap.push (seqObj "list" #[] 0)).get? l = some o := Heap.get?_push_of_some _ g1
  have gn : (s.heap.push (seqObj "list" #[] 0)).get? s.heap.objs.size = some (seqObj "list" #[] 0) := Heap.get?_push_size _ rfl
  unfold collect
  refine wpAny_bind (wpAny_runValue (codeAny_builtin entry_proto_collect' ?_))
  show wpAny _ _ (do again (.builtin "list.__iadd__" ⟨[← newList [], .ref l], []⟩)) _ _ s
  refine wpAny_bind (wpAny_newList (wpAny_pure ⟨Code.quiet_builtin _ (by decide +kernel), codeAny_builtin entry_list_iadd' ?_⟩))
  show wpAny _ _ (Builtin.List.listExtendWith (.ref s.heap.objs.size) (.ref l) (.ref s.heap.objs.size)) _ _ { s with heap := s.heap.push (seqObj "list" #[] 0) }
  unfold Builtin.List.listExtendWith
  refine wpAny_bind (wpAny_typeOf (T := "tuple") ⟨o, g1', g2⟩ ?_)
  have ht : (Value.type "tuple" == Value.type "tuple") = true := by rfl
  rw [if_pos (by rw [ht]; simp)]
  refine wpAny_bind (listItems_at g1' g3 ?_)
  refine wpAny_bind (listItems_at gn rfl ?_)
  rw [if_neg (by simp)]
  refine wpAny_bind (listUpdate_at gn rfl ?_ (Nat.zero_le _) (by show (#[] ++ vs.toArray).size ≤ sizeLine + 1; simp only [Array.size_append, List.size_toArray, List.length_nil]; omega))
  refine wpAny_pure ?_
  refine wpAny_bind (wpAny_load (get?_update_seq gn _) ?_)
  show wpAny _ _ (pure ((#[] : Array Value) ++ vs.toArray).toList) Q E _
  rw [show ((#[] : Array Value) ++ vs.toArray).toList = vs by simp]
  exact wpAny_pure h
theorem sort_of_tup {l : Addr} {vs : List Value} {kw : List (Str × Value)} {Q : Value → Shared → Prop} (hl : s.heap.IsTuple l vs.toArray) (hz : vs.length ≤ sizeLine) (ha1 : argsOk "sorted" ⟨[.ref l], kw⟩) (ha2 : ∀ x, argsOk "list.sort" ⟨[.ref x], kw⟩)
    (body : ∀ E' : Value → Shared → Prop, wpAny (model P w) A.in1.in1 (Builtin.«list.sort» ⟨[.ref (s.heap.objs.size + 1)], kw⟩) (fun f s' => f = .done (.ret .none) ∧ Q (.ref (s.heap.objs.size + 1)) s') E' { s with heap := PySem.W.copyHeap s.heap vs }) :
    wpAny (model P w) A (call (.builtin "sorted") [.ref l] kw) Q E s := by
  refine call_function_entry_kw kind_sorted plain_sorted entry_sorted ha1 ?_
  unfold Builtin.«sorted»
  refine wpAny_bind (m := checkCount "sorted" 1 1 _) (wpAny_pure ?_)
  refine wpAny_bind (collect_tup hl hz ?_)
  refine wpAny_bind (wpAny_newList ?_ hz)
  have hs : ((s.heap.push (seqObj "list" #[] 0)).update s.heap.objs.size (Obj.mapSeq (· ++ vs.toArray))).objs.size = s.heap.objs.size + 1 := by rw [Heap.size_update, size_push']
  show wpAny _ _ _ _ _ { s with heap := PySem.W.copyHeap s.heap vs }
  rw [hs]
  refine wpAny_bind (wpAny_holding (wpAny_call_entry_kw slot_list_sort ⟨_, PySem.W.copyHeap_at s.heap vs, rfl⟩ entry_list_sort ?_ (ha2 _)))
  refine wpAny_mono (body _) (fun f s' hf => ?_) fun _ _ e => e
  obtain ⟨rfl, hq⟩ := hf
  exact ⟨_, rfl, wpAny_pure ⟨_, rfl, hq⟩⟩
theorem sorted_tup_vals {l : Addr} {vs : List Value} {κ : KeyKind} {Q : Value → Shared → Prop} (hl : s.heap.IsTuple l vs.toArray) (S : SortsAt P w A.in1.in1 { s with heap := PySem.W.sortingHeap (PySem.W.copyHeap s.heap vs) (s.heap.objs.size + 1) vs } κ vs) (hz : vs.length ≤ sizeLine)
    (h : Q (.ref (s.heap.objs.size + 1)) { s with heap := sortedAll s.heap vs (PySem.W.sortVals κ false vs vs).toArray }) : wpAny (model P w) A (call (.builtin "sorted") [.ref l]) Q E s :=
  sort_of_tup hl hz (args_sorted1 _) (fun _ => args_list_sort _) fun _ => PySem.W.list_sort_vals (s := { s with heap := PySem.W.copyHeap s.heap vs }) (PySem.W.copyHeap_at s.heap vs) S hz ⟨rfl, h⟩
end
end MS

/-! Part 13: sorted. -/
namespace MS
open PySem PySem.Spec PyProof.Rows L2
open PySem.W (AllAlike Sortable alike dataLe EachIs)
section
variable {F : Fx} {S : Sx} {ρ ρ' : DEnv} {e a b c o tg iter elt : Expr} {es : List Expr} {rest body body' sts : List Stmt} {pos pos' p p' apos : Pos} {k0 : Nat} {f x y : Str} {J : Js} {m m' : T D}
def isCons : D → Bool
  | .tup (_ :: _) => true
  | _ => false
def isOther : D → Bool
  | .tup _ => false
  | .non => false
  | _ => true
def isTupl : D → Bool
  | .tup _ => true
  | _ => false
def sortableC (ds : List D) : Bool := ds.all isData && (ds.all fun a => ds.all fun b => alike (toP a) (toP b)) && (ds.all isTupl || ds.all isOther) && decide (ds.length ≤ sizeLine) && ds.all fun d => decide ((toP d).depth ≤ 40)
def sortD (ds : List D) : List D := ds.mergeSort (dataLe false toP)
def sortedM : List D → T (List D)
  | [.lst ds] => if sortableC ds = true then .ret (sortD ds) else .stuck
  | [.tup ds] => if sortableC ds = true then .ret (sortD ds) else .stuck
  | _ => .stuck
theorem isData_all {ds : List D} (h : ds.all isData = true) : isDatas ds = true := by
  induction ds with
  | nil => rfl
  | cons d ds ih =>
    rw [List.all_cons, Bool.and_eq_true] at h
    show (isData d && isDatas ds) = true
    rw [h.1, ih h.2]
    rfl
theorem sortable_of {ds : List D} (hd : ds.all isData = true) (h : (ds.all isTupl || ds.all isOther) = true) : Sortable (ds.map toP) ∨ ∀ d ∈ ds.map toP, ∃ xs, d = .tuple xs := by
  rw [Bool.or_eq_true] at h
  rw [List.all_eq_true] at hd
  rcases h with h | h
  · right
    intro d hm
    obtain ⟨b, hb, rfl⟩ := List.mem_map.mp hm
    rw [List.all_eq_true] at h
    have := h b hb
    unfold isTupl at this
    split at this
    · rename_i l
      exact ⟨toPs l, by simp [toP]⟩
    · cases this
  · left
    right
    intro d hm
    obtain ⟨b, hb, rfl⟩ := List.mem_map.mp hm
    rw [List.all_eq_true] at h
    have h1 := h b hb
    have h2 := hd b hb
    cases b <;> first | (cases h1; done) | (cases h2; done) | exact ⟨by simp [toP], by simp [toP]⟩
theorem sorted_reads {X : Cx} {pins : List (Addr × Obj)} {s : Shared} {σ : L2.St} {H : Hp} {g : Gh} {Hs : Hp} (I : Inv X pins σ H s) (hK : X.K = F.K) (sb : Sub Hs H) : ∀ {ds : List D} {vs : List V} {us : List Value}, ds.all isData = true → RepL F.C g Hs ds vs → Vals vs us →
    EachIs (fun u d => ∃ x, RelV x u ∧ Rep F.C g Hs d x) us ds ∧ EachIs (fun u d => ∃ as, Reads s.heap u (toP d) as) us ds
  | [], _, _, _, .nil, .nil => ⟨.nil, .nil⟩
  | d :: ds, _, _, h, .cons r rs, .cons q qs => by
    rw [List.all_cons, Bool.and_eq_true] at h
    obtain ⟨h1, h2⟩ := sorted_reads I hK sb h.2 rs qs
    exact ⟨.cons ⟨_, q, r⟩ h1, .cons (L2.Dp.reads I (toP d) _ _ (by rw [hK]; exact Rep.dp d (r.sub sb) h.1) q) h2⟩
theorem each_rep {g : Gh} {Hs : Hp} : ∀ {us : List Value} {ds : List D}, EachIs (fun u d => ∃ x, RelV x u ∧ Rep F.C g Hs d x) us ds → ∃ xs, Vals xs us ∧ RepL F.C g Hs ds xs
  | _, _, .nil => ⟨[], .nil, .nil⟩
  | _, _, .cons ⟨x, h1, h2⟩ t => by
    obtain ⟨xs, h3, h4⟩ := each_rep t
    exact ⟨x :: xs, .cons h1 h3, .cons h2 h4⟩
theorem sorted_core {X : Cx} {pins : List (Addr × Obj)} {s : Shared} {σ σ' : L2.St} {H Hs : Hp} {en : Ent} {τ : List (Addr × D)} {vs : List V} {its : List Value} {ds : List D} {a : Addr} {Q : VK} (sc : SC F S X) (I : Inv X pins σ H s) (e0 : EnvOk F.C en Hs τ ρ σ' H)
    (rl : RepL F.C en.g Hs ds vs) (rv : Vals vs its) (hc : sortableC ds = true) (w : ∀ p H' Hs', EnvOk F.C en Hs' ((p, .lst (sortD ds)) :: τ) ρ σ' H' → Sub Hs Hs' → Q (.ref p) H')
    (run : ∀ {κ : PyProof.Rows.KeyKind} {R : Value → Shared → Prop}, PySem.W.SortsAt X.prog X.w X.A.in1.in1 { s with heap := PySem.W.sortingHeap (PySem.W.copyHeap s.heap its) (s.heap.objs.size + 1) its } κ its → R (.ref (s.heap.objs.size + 1)) { s with heap := PyProof.Rows.sortedAll s.heap its (PySem.W.sortVals κ false its its).toArray } →
      wpAny (model X.prog X.w) X.A (call (.builtin "sorted") [.ref a]) R X.xe s) :
    wpAny (model X.prog X.w) X.A (call (.builtin "sorted") [.ref a]) (EP X pins σ Q) X.xe s := by
  unfold sortableC at hc
  simp only [Bool.and_eq_true, decide_eq_true_eq] at hc
  obtain ⟨⟨⟨⟨h1, h2⟩, h3⟩, h4⟩, h5⟩ := hc
  obtain ⟨q1, q2⟩ := sorted_reads I sc.K e0.wd.sub h1 rl rv
  have hal : AllAlike (ds.map toP) := fun d hd d' hd' => by
    obtain ⟨b, hb, rfl⟩ := List.mem_map.mp hd
    obtain ⟨b', hb', rfl⟩ := List.mem_map.mp hd'
    rw [List.all_eq_true] at h2
    have := h2 b hb
    rw [List.all_eq_true] at this
    exact this b' hb'
  have q3 : EachIs (fun v b => ∃ as, Reads (PySem.W.sortingHeap (PySem.W.copyHeap s.heap its) (s.heap.objs.size + 1) its) v (toP b) as) its ds := q2.mono fun _ _ ⟨as, r⟩ => ⟨as, PyProof.Rows.Reads.keeps (fun _ _ => PySem.W.sorting_copy_old) r⟩
  have q4 := PySem.W.each_map (R := fun v k => ∃ as, Reads (PySem.W.sortingHeap (PySem.W.copyHeap s.heap its) (s.heap.objs.size + 1) its) v k as) toP q3
  refine run (κ := PySem.W.dataKind (PySem.W.sortingHeap (PySem.W.copyHeap s.heap its) (s.heap.objs.size + 1) its) (ds.map toP)) (data_sort (s := { s with heap := PySem.W.sortingHeap (PySem.W.copyHeap s.heap its) (s.heap.objs.size + 1) its }) q4 hal (sortable_of h1 h3) (fun d hd => ?_)) ?_
  · obtain ⟨b, hb, rfl⟩ := List.mem_map.mp hd
    rw [List.all_eq_true] at h5
    have := of_decide_eq_true (h5 b hb)
    have hu := sc.hu
    have e2 : X.A.in1.in1.units = X.A.units + 2 := rfl
    omega
  · have he := PySem.W.sortVals_data (enc := toP) false q1 q3 hal
    generalize PySem.W.sortVals (PySem.W.dataKind (PySem.W.sortingHeap (PySem.W.copyHeap s.heap its) (s.heap.objs.size + 1) its) (ds.map toP)) false its its = out at he ⊢
    obtain ⟨ys, y1, y2⟩ := each_rep he
    obtain ⟨ep, he'⟩ := PyProof.Rows.sortedAll_at s.heap its out.toArray
    have hf := I.hok.fresh (Nat.le_succ s.heap.objs.size)
    have hlen : ys.length ≤ sizeLine := by
      rw [← y2.length]
      show (sortD ds).length ≤ sizeLine
      unfold sortD
      rw [List.length_mergeSort]
      exact h4
    exact ⟨.ref _, upd H (s.heap.objs.size + 1) (.lst ys), I.laid (t' := s.toks) (fun _ _ => PyProof.Rows.sortedAll_old) (Nat.le_succ _) ⟨hlen, out, ep, y1, he'⟩, rfl, w _ _ Hs (e0.allocT hf y2) (Sub.refl _)⟩
theorem cd_sorted : CallDL F S (.builtin "sorted") sortedM := fun X sc pins s σ H xs us Q I r ⟨en, Hs, τ, ρ, σ', ds, e0, rs, w⟩ => by
  unfold sortedM at w
  split at w
  · rename_i ds
    split at w
    · rename_i hc
      cases rs with
      | cons r1 t =>
        cases t
        obtain ⟨a, vs, rfl, hH, rl⟩ := r1.list e0
        obtain ⟨its, rv, hl, hz⟩ := I.list (SqL.of (K := X.K) hH)
        have lv := rv.length
        rw [Vals.ref1 r]
        exact sorted_core sc I e0 rl rv hc w fun S0 q => PySem.W.sorted_vals hl.isList S0 (by omega) q
    · exact w.elim
  · rename_i ds
    split at w
    · rename_i hc
      cases rs with
      | cons r1 t =>
        cases t
        obtain ⟨a, vs, rfl, hH, rl⟩ := r1.tup e0
        obtain ⟨its, rv, hl, hz⟩ := I.tuple (by rw [sc.K]; exact hH)
        have lv := rv.length
        rw [Vals.ref1 r]
        exact sorted_core sc I e0 rl rv hc w fun S0 q => sorted_tup_vals hl S0 (by omega) q
    · exact w.elim
  · exact w.elim
theorem evl_sorted (j : Nat) {ms : T (List D)} (h : EvA F S ρ [a] ms) (hj : F.G[j]? = some ((("sorted" : Str)), GE.blt) := by rfl) (hv : S.gl.contains j = true := by rfl) (hs : [a].all (fun e => !isStar e) = true := by rfl) : EvL F S ρ (.Call (.Name "sorted" p) [a] [] pos) (ms.bind sortedM) := cd_sorted.ev j h (by decide +kernel) hj hv hs
end
end MS

/-! Part 14: calls by keywords, a class's own ==, defs, law. -/
namespace MS
open PySem PySem.Spec PyProof.Rows L2
section
variable {F : Fx} {S : Sx} {ρ ρ' : DEnv} {e a b c o tg iter elt : Expr} {es : List Expr} {rest body body' sts : List Stmt} {pos pos' p p' apos : Pos} {k0 : Nat} {f x y : Str} {J : Js} {m m' : T D}
/-! ### keywords -/
def EvK (F : Fx) (S : Sx) (ρ : DEnv) (kws : List Keyword) (m : T (List D)) : Prop := ∀ X, SC F S X → ∀ en, PK X kws (rdV F S.E en ρ m)
theorem pkW {X : Cx} {kws : List Keyword} {t t' : TA} (h : PK X kws t) (i : ∀ σ H Q, t' σ H Q → t σ H Q) : PK X kws t' := ⟨fun pos pins s σ H Q I q => h.run pos pins s σ H Q I (i σ H Q q)⟩
theorem evk_nil : EvK F S ρ [] (.ret []) := fun X sc en => pkW pk_nil fun σ H Q ⟨Hs, τ, e0, w⟩ => w [] H Hs e0 (Sub.refl _) .nil
theorem evk_cons {nm : Option Str} {kws : List Keyword} {ms : T (List D)} (h1 : Ev F S ρ e m) (h2 : EvK F S ρ kws ms) : EvK F S ρ (⟨nm, e, p⟩ :: kws) (m.bind fun d => ms.bind fun ds => .ret (d :: ds)) := fun X sc en =>
  pkW (pk_cons (h1 X sc en) (h2 X sc en)) fun σ H Q ⟨Hs, τ, e0, w⟩ => ⟨Hs, τ, e0, T.wp_mono (T.wp_bind.mp w) (fun d w1 v H1 Hs1 e1 s1 r1 => ⟨Hs1, τ, e1, T.wp_mono (T.wp_bind.mp w1) (fun ds w2 vs H2 Hs2 e2 s2 r2 =>
    w2 (v :: vs) H2 Hs2 e2 (Sub.trans s1 s2) (.cons (r1.sub s2) r2)) fun _ _ k => k⟩) fun _ _ k => k⟩
theorem perm_rep {C : Ct} {g : Gh} {Hs : Hp} {ds : List D} {vs : List V} (r : RepL C g Hs ds vs) : ∀ pm : List Nat, RepL C g Hs (pm.map fun i => ds.getD i .non) (pm.map fun i => vs.getD i .non)
  | [] => .nil
  | i :: pm => .cons (by
      show Rep C g Hs (ds.getD i .non) (vs.getD i .non)
      rw [List.getD_eq_getElem?_getD, List.getD_eq_getElem?_getD]
      cases q : ds[i]? with
      | none =>
        have : vs[i]? = none := by
          rw [List.getElem?_eq_none_iff] at q ⊢
          rw [← r.length]
          exact q
        rw [this]
        exact .non
      | some d =>
        obtain ⟨v, h1, h2⟩ := r.get q
        rw [h1]
        exact h2) (perm_rep r pm)
theorem perm_val {vs : List V} {us : List Value} (r : Vals vs us) : ∀ pm : List Nat, Vals (pm.map fun i => vs.getD i .non) (pm.map fun i => us.getD i .none)
  | [] => .nil
  | i :: pm => .cons (by
      show RelV (vs.getD i .non) (us.getD i .none)
      rw [List.getD_eq_getElem?_getD, List.getD_eq_getElem?_getD]
      cases q : vs[i]? with
      | none =>
        have : us[i]? = none := by
          rw [List.getElem?_eq_none_iff] at q ⊢
          rw [← r.length]
          exact q
        rw [this]
        exact rfl
      | some d =>
        obtain ⟨v, h1, h2⟩ := r.get q
        rw [h1]
        exact h2) (perm_val r pm)
theorem ev_callK (j : Nat) {lev : Nat} {ps ks : List Str} {pm : List Nat} {m : List D → T D} {kw : List (List Str × List Nat)} {kws : List Keyword} {ms : T (List D)} (h : EvK F S ρ kws ms) (hq : (ks, pm) ∈ kw) (hj : F.G[j]? = some (x, .fn lev ps m kw) := by rfl) (hv : S.gl.contains j = true := by rfl) (hl : Nat.ble lev S.L = true := by rfl)
    (hall : ∀ env, (backToKw pos (keywordEach kws env)).all (·.1.isSome) = true := by intros; rfl) (hks : ∀ env, (backToKw pos (keywordEach kws env)).filterMap (·.1) = ks := by intros; rfl) (hpl : ∀ env, ((backTo pos (starEach [] env)).any (·.1) || (backToKw pos (keywordEach kws env)).any (·.1.isNone)) = false := by intros; rfl) (hlen : kws.length = ks.length := by rfl) (hmlen : ∀ ds ∈ [ms], True := by simp) :
    Ev F S ρ (.Call (.Name x p) [] kws pos) (ms.bind fun ds => if ds.length = ks.length then m (pm.map fun i => ds.getD i .non) else .stuck) := fun X sc en => by
  obtain ⟨h1, h2, h3, hm, f, fd, q1, q2, q3, q4, q5⟩ := sc.glOk hv hj
  have FO : FnOk X.prog X.w X.K X.mg X.base F.CX lev f fd ps (spM F ps.length m) := by rw [sc.prog, sc.w, sc.K, sc.mg, sc.base]; exact q2
  refine ⟨fun pins s σ H Q I ⟨Hs, τ, e0, w⟩ => ?_⟩
  refine wpAny_Call_Name_kw (ld_glob I h1 (by rw [sc.mg]; exact q1) ?_ h2)
  refine PySem.W.callWith_KW0 (h₀ := X.base) I.ok.mod.kin (by rw [sc.K]; exact q3) (hall _) ?_ (hpl _)
  refine thn ((h X sc en).run pos pins s σ H (fun vs H1 => ∃ ds Hs1, EnvOk F.C en Hs1 τ ρ σ H1 ∧ Sub Hs Hs1 ∧ RepL F.C en.g Hs1 ds vs ∧ (if ds.length = ks.length then m (pm.map fun i => ds.getD i .non) else .stuck).wp (fun d => ∀ v H' Hs', EnvOk F.C en Hs' τ ρ σ H' → Sub Hs Hs' → Rep F.C en.g Hs' d v → Q v H') (excP F S.E en))
    I ⟨Hs, τ, e0, T.wp_mono (T.wp_bind.mp w) (fun ds w1 vs H1 Hs1 e1 s1 r1 => ⟨ds, Hs1, e1, s1, r1, w1⟩) fun _ _ k => k⟩) fun ws s2 ⟨zs, H2, I2, rz, ds, Hs1, e1, s1, r1, w1⟩ => ⟨I2.kIn, ?_⟩
  rw [hks]
  split at w1
  · rename_i hd
    have hb := q5 _ hq s2 ws (by rw [← sc.K]; exact I2.kIn) (by rw [← rz.length, ← r1.length]; exact hd)
    have r2 := perm_rep r1 pm
    have rv := perm_val rz pm
    by_cases hpl : pm.length = ps.length
    · have hsp : spM F ps.length m (pm.map fun i => zs.getD i .non) H2 Q S.E := by
        refine ⟨en.g, Hs1, _, e1.wd.sub, e1.wd.deal, e1.wd.gout, r2, by rw [List.length_map]; exact hpl, T.wp_mono w1 (fun d k v Hs' H' w' r => k v H' Hs' (e1.step (Wd.trans e1.wd w') w'.ext w'.new fun a u ng q _ => w'.same a u ng q) (Sub.trans s1 w'.ext) r) fun c fs k => excP.in e1.wd (Sub.refl _) (fun _ _ q => .inl q) k⟩
      refine wpAny_call (codeAny_mono (FO.run X.A X.stack s2 H2 ⟨[] ++ [], ks.zip ws⟩ _ _ Q S.E (sc.room.mono (Nat.le_of_ble_eq_true hl)) I2.env0 hb rv hsp) fun r s' hq => ?_)
      cases r with
      | error e => exact sc.pass pins σ H2 s2 e s' I2 hq
      | ok fl =>
        cases fl with
        | ret u => exact I2.after hq
        | next => exact False.elim hq
        | brk => exact False.elim hq
        | cont => exact False.elim hq
    · rw [hm _ (by rw [List.length_map]; exact hpl)] at w1
      exact w1.elim
  · exact w1.elim
/-! a class, called by keywords alone -/
theorem ev_makeK (j : Nat) {flds : List Str} {eq : Option (Nat × (List D → T D))} {kws : List Keyword} {ms : T (List D)} (h : EvK F S ρ kws ms) (hj : F.G[j]? = some (x, .cls flds eq) := by rfl) (hv : S.gl.contains j = true := by rfl) (hl : Nat.ble 2 S.L = true := by rfl)
    (hall : ∀ env, (backToKw pos (keywordEach kws env)).all (·.1.isSome) = true := by intros; rfl) (hks : ∀ env, (backToKw pos (keywordEach kws env)).filterMap (·.1) = flds := by intros; rfl) (hpl : ∀ env, ((backTo pos (starEach [] env)).any (·.1) || (backToKw pos (keywordEach kws env)).any (·.1.isNone)) = false := by intros; rfl) :
    Ev F S ρ (.Call (.Name x p) [] kws pos) (ms.bind (insM x flds)) := fun X sc en => by
  obtain ⟨h1, h2, h3, Cl, q1, ⟨f, fd, q2, q3, q4, q6⟩, q5⟩ := sc.glOk hv hj
  have FO : FnOk X.prog X.w X.K X.mg X.base F.CX 1 f fd (("self" : Str) :: flds) (spI F.K flds) := by rw [sc.prog, sc.w, sc.K, sc.mg, sc.base]; exact q3
  refine peW (pe_makeK0 (E := S.E) (by rw [sc.K]; exact q2) FO (sc.room.mono (Nat.le_of_ble_eq_true hl)) h1 (by rw [sc.mg]; exact q1.mg) (by rw [sc.K]; exact q6) sc.pass (h X sc en) (hall _) (hks _) h2 (hpl _)) fun σ H Q ⟨Hs, τ, e0, w⟩ => ⟨Hs, τ, e0, T.wp_mono (T.wp_bind.mp w) (fun ds w1 vs H1 Hs1 e1 s1 r1 => ?_) fun _ _ k => k⟩
  unfold insM at w1
  split at w1
  · rename_i hlen
    refine ⟨rfl, by rw [← r1.length]; exact hlen, fun a dx na ndx ne => ?_⟩
    have n1 : upd H1 dx (.own a) a = none := by rw [upd_ne ne.symm]; exact na
    have e2 := e1.step (e1.wd.alloc' ndx (.own a)) (Sub.refl _) (fun _ _ q => .inl q) fun b u _ q _ => sub_upd ndx b u q
    have e3 := e2.alloc n1 (.ins Cl dx (flds.zip vs))
    have s3 : Sub Hs1 (upd Hs1 a (.ins Cl dx (flds.zip vs))) := sub_upd (e2.wd.none_in n1).1
    refine ⟨a, dx, Cl, vs, rfl, upd_same, q1.cls, q1.na, by rw [← r1.length]; exact hlen, rfl, ?_⟩
    have ee : upd (upd (upd H1 dx (.own a)) a (.ins Cl dx [])) a (.ins Cl dx (flds.zip vs)) = upd (upd H1 dx (.own a)) a (.ins Cl dx (flds.zip vs)) := upd_upd
    rw [ee]
    refine w1 (.ref a) _ _ e3 (Sub.trans s1 s3) (.ins ?_ upd_same ((repF_zip flds r1).sub s3))
    have ef : (flds.zip ds).map (·.1) = flds := by
      rw [List.map_fst_zip (by omega)]
    rw [ef]
    exact q1
  · exact w1.elim
/-! ### a class's own == -/
def asBl : D → T D
  | .bl b => .ret (.bl b)
  | _ => .stuck
def insEqM (c : Str) (m : List D → T D) : D → D → T D
  | .ins c1 fs1, .ins c2 fs2 => if c1 = c ∧ c2 = c then (m [.ins c1 fs1, .ins c2 fs2]).bind asBl else .stuck
  | _, _ => .stuck
theorem ev_eqIns (j : Nat) {c : Str} {flds : List Str} {lev : Nat} {m : List D → T D} {ma mb : T D} (ha : Ev F S ρ a ma) (hb : Ev F S ρ b mb) (hj : F.G[j]? = some (c, .cls flds (some (lev, m))) := by rfl) (hv : S.kn.contains j = true := by rfl) (hl : Nat.ble lev S.L = true := by rfl) (hmk : isSet b = false := by rfl) :
    Ev F S ρ (.Compare a [.Eq] [b] pos) (ma.bind fun x => mb.bind fun y => insEqM c m x y) := fun X sc en => by
  obtain ⟨Cl, g1, _, g2⟩ := sc.ke j c _ hv hj
  obtain ⟨f, fd, ps, q1, q2, q3, q4⟩ := g2 _ rfl
  have FO : FnOk X.prog X.w X.K X.mg X.base F.CX lev f fd ps (spM F 2 m) := by rw [sc.prog, sc.w, sc.K, sc.mg, sc.base]; exact q1
  have op : OpR X (compareOp .Eq) (fun x y H Q => ∃ en Hs τ ρ σ dx dy, EnvOk F.C en Hs τ ρ σ H ∧ Rep F.C en.g Hs dx x ∧ Rep F.C en.g Hs dy y ∧
    (insEqM c m dx dy).wp (fun d => ∀ v H' Hs', EnvOk F.C en Hs' τ ρ σ H' → Sub Hs Hs' → Rep F.C en.g Hs' d v → Q v H') (excP F S.E en)) := by
    intro pins s σ H x y v u Q I rx ry ⟨en, Hs, τ, ρ, σ', dx, dy, e0, r1, r2, w⟩
    unfold insEqM at w
    split at w
    · rename_i c1 fs1 c2 fs2
      split at w
      · rename_i hc
        obtain ⟨hc1, hc2⟩ := hc
        subst hc1
        have hc2' := hc2
        subst hc2'
        cases r1 with
        | ins cl1 h1 rf1 =>
          cases r2 with
          | ins cl2 h2 rf2 =>
            rename_i vfs1 a1 C1 dx1 vfs2 a2 C2 dx2
            have e1 : C1 = Cl := by
              have := cl1.mg.symm.trans g1.mg
              cases this
              rfl
            have e2 : C2 = Cl := by
              have := cl2.mg.symm.trans g1.mg
              cases this
              rfl
            subst e1
            subst e2
            cases rx
            cases ry
            have r1' : Rep F.C en.g Hs (.ins c2 fs1) (.ref a1) := .ins cl1 h1 rf1
            have r2' : Rep F.C en.g Hs (.ins c2 fs2) (.ref a2) := .ins cl2 h2 rf2
            obtain ⟨mA, J, _⟩ := ins_get I.hok (e0.wd.sub _ _ h1)
            obtain ⟨mB, J', _⟩ := ins_get I.hok (e0.wd.sub _ _ h2)
            obtain ⟨od, J, _⟩ := J.look
            obtain ⟨od', J', _⟩ := J'.look
            obtain ⟨mF, hF⟩ := I.fr
            show wpAny (model X.prog X.w) X.A (richCompare .Eq (.ref a1) (.ref a2)) (EP X pins σ Q) X.xe s
            refine PySem.W.cmp_K (op := .Eq) (tb := .ref C2) sc.room.units0 hF I.ok.mod.kin J J'.type (by simp [PySem.W.notFirst]) (by rw [sc.K]; exact q2) (by rw [sc.K]; exact q3) ?_
            have hsp : spM F 2 m [.ref a1, .ref a2] H (fun v H' => ∃ b, v = .bl b ∧ Q v H') S.E := by
              refine ⟨en.g, Hs, [.ins c2 fs1, .ins c2 fs2], e0.wd.sub, e0.wd.deal, e0.wd.gout, .cons r1' (.cons r2' .nil), rfl, T.wp_mono (T.wp_bind.mp w) (fun d k v Hs' H' w' r => ?_) fun c fs k => excP.in e0.wd (Sub.refl _) (fun _ _ q => .inl q) k⟩
              unfold asBl at k
              split at k
              · rename_i bb
                cases r
                exact ⟨bb, rfl, k _ H' Hs' (e0.step (Wd.trans e0.wd w') w'.ext w'.new fun a u ng q _ => w'.same a u ng q) w'.ext (.bl _)⟩
              · exact k.elim
            have hlen := FO.len _ _ _ _ hsp
            refine wpAny_call (codeAny_mono (FO.run X.A X.stack s H ⟨[.ref a1, .ref a2], []⟩ [.ref a1, .ref a2] [.ref a1, .ref a2] _ S.E (sc.room.mono (Nat.le_of_ble_eq_true hl)) I.env0 (by
              have := q4 s [.ref a1, .ref a2] (by rw [← sc.K]; exact I.kIn) (by simpa using hlen)
              simpa using this) (.cons rfl (.cons rfl .nil)) hsp) fun r s' hq => ?_)
            cases r with
            | error e => exact sc.pass pins σ H s e s' I hq
            | ok fl =>
              cases fl with
              | ret z =>
                obtain ⟨v, H', I', rz, ⟨bb, ez, q⟩⟩ := I.after hq
                subst ez
                cases rz
                exact ⟨.bl bb, H', I', rfl, q⟩
              | next => exact False.elim hq
              | brk => exact False.elim hq
              | cont => exact False.elim hq
      · exact w.elim
    · exact w.elim
  exact peW (pe_cmpR op (ha X sc en) (hb X sc en) (noBehind hmk)) fun σ H Q ⟨Hs, τ, e0, w⟩ => ⟨Hs, τ, e0, T.wp_mono (T.wp_bind.mp w) (fun d w1 v H1 Hs1 e1 s1 r1 => ⟨Hs1, τ, e1, T.wp_mono (T.wp_bind.mp w1) (fun d2 w2 v2 H2 Hs2 e2 s2 r2 =>
    ⟨en, Hs2, τ, ρ, σ, d, d2, e2, r1.sub s2, r2, T.wp_mono w2 (fun d3 w3 v3 H3 Hs3 e3 s3 r3 => w3 v3 H3 Hs3 e3 (Sub.trans (Sub.trans s1 s2) s3) r3) fun _ _ k => k⟩) fun _ _ k => k⟩) fun _ _ k => k⟩
end
end MS

/-! Part 15: powers, int, abs; defs; the law's def. -/
namespace MS
open PySem PySem.Spec PyProof.Rows L2
section
variable {F : Fx} {S : Sx} {ρ ρ' : DEnv} {e a b c o tg iter elt : Expr} {es : List Expr} {rest body body' sts : List Stmt} {pos pos' p p' apos : Pos} {k0 : Nat} {f x y : Str} {J : Js} {m m' : T D}
def powM (x y : D) : T D := match x, y with
  | .int i, .int j => if 0 ≤ j ∧ j ≤ 1000000 ∧ i.natAbs < 2 ^ 64 then .ret (.int (i ^ j.toNat)) else .stuck
  | _, _ => .stuck
theorem opd_pow : OpD F S (binaryOp .Pow) powM := fun X sc pins s σ H x y v u Q I rx ry ⟨en, Hs, τ, ρ, σ', dx, dy, e0, r1, r2, w⟩ => by
  unfold powM at w
  split at w
  · rename_i i j
    split at w
    · rename_i hc
      cases r1.told e0 (fun _ z => nomatch z)
      cases r2.told e0 (fun _ z => nomatch z)
      exact op_pow pins s σ H _ _ v u Q I rx ry ⟨i, j, rfl, rfl, hc, w _ H Hs e0 (Sub.refl _) (.int _)⟩
    · exact w.elim
  · exact w.elim
theorem ev_pow {ma mb : T D} (ha : EvO F S ρ a ma) (hb : EvO F S ρ b mb) : Ev F S ρ (.BinOp a .Pow b pos) (ma.bind fun x => mb.bind fun y => powM x y) := opd_pow.ev ha hb
def intM : List D → T D
  | [.int i] => .ret (.int i)
  | [.bl k] => .ret (.int (if k then 1 else 0))
  | _ => .stuck
theorem cd_int : CallD F S (.type "int") intM := fun X sc pins s σ H xs us Q I r ⟨en, Hs, τ, ρ, σ', ds, e0, rs, w⟩ => by
  unfold intM at w
  split at w
  · rename_i i
    cases rs with
    | cons r1 t =>
      cases t
      cases r1.told e0 (fun _ z => nomatch z)
      exact call_int1 pins s σ H _ us Q I r (.inl ⟨i, rfl, w _ H Hs e0 (Sub.refl _) (.int _)⟩)
  · rename_i i
    cases rs with
    | cons r1 t =>
      cases t
      cases r1.told e0 (fun _ z => nomatch z)
      exact call_int1 pins s σ H _ us Q I r (.inr ⟨i, rfl, w _ H Hs e0 (Sub.refl _) (.int _)⟩)
  · exact w.elim
theorem ev_int1 (j : Nat) {ms : T (List D)} (h : EvA F S ρ [a] ms) (hj : F.G[j]? = some ((("int" : Str)), GE.blt) := by rfl) (hv : S.gl.contains j = true := by rfl) (hs : [a].all (fun e => !isStar e) = true := by rfl) : Ev F S ρ (.Call (.Name "int" p) [a] [] pos) (ms.bind intM) := cd_int.evT j h (by decide +kernel) hj hv hs
def absM : List D → T D
  | [.int i] => .ret (.int (if i < 0 then -i else i))
  | _ => .stuck
theorem cd_abs : CallD F S (.builtin "abs") absM := fun X sc pins s σ H xs us Q I r ⟨en, Hs, τ, ρ, σ', ds, e0, rs, w⟩ => by
  unfold absM at w
  split at w
  · rename_i i
    cases rs with
    | cons r1 t =>
      cases t
      cases r1.told e0 (fun _ z => nomatch z)
      exact call_abs pins s σ H _ us Q I r ⟨i, rfl, w _ H Hs e0 (Sub.refl _) (.int _)⟩
  · exact w.elim
theorem ev_abs (j : Nat) {ms : T (List D)} (h : EvA F S ρ [a] ms) (hj : F.G[j]? = some ((("abs" : Str)), GE.blt) := by rfl) (hv : S.gl.contains j = true := by rfl) (hs : [a].all (fun e => !isStar e) = true := by rfl) : Ev F S ρ (.Call (.Name "abs" p) [a] [] pos) (ms.bind absM) := cd_abs.ev j h (by decide +kernel) hj hv hs
end
/-! ### defs -/
def J0 : Js := ⟨fun _ m => m = .ret .non, fun _ _ => False, fun _ _ => False⟩
def startD (N : List Str) (ds : List D) : DEnv := ds.map (fun d => some (false, d)) ++ List.replicate (N.length - ds.length) none
theorem start_ok {C : Ct} {g : Gh} {H Hs : Hp} {N : List Str} {ds : List D} {vs : List V} (sb : Sub Hs H) (dl : DealOk g H) (go : ∀ a, inG g a → Hs a = none) (r : RepL C g Hs ds vs) : EnvOk C ⟨g, H, Hs⟩ Hs [] (startD N ds) (start N vs) H := by
  have fz : ∀ {i : Nat} {y : Bool × D}, (startD N ds)[i]? = some (some y) → ∃ d, ds[i]? = some d ∧ y = (false, d) := fun {i y} h => by
    unfold startD at h
    by_cases hi : i < ds.length
    · rw [List.getElem?_append_left (by simpa using hi), List.getElem?_map] at h
      cases q : ds[i]? with
      | none => rw [q] at h; cases h
      | some d =>
        rw [q] at h
        cases h
        exact ⟨d, rfl, rfl⟩
    · rw [List.getElem?_append_right (by simpa using hi), List.getElem?_replicate] at h
      split at h <;> cases h
  have no : ∀ {i : Nat} {d : D}, (startD N ds)[i]? = some (some (true, d)) → False := fun h => by
    obtain ⟨_, _, q⟩ := fz h
    cases q
  refine ⟨Wd.start sb dl go, fun i d h => ?_, fun i d h => (no h).elim, fun i j d d' a _ h => (no h).elim, fun p hp => by simp at hp, .nil, fun i d p hp => by simp at hp, ?_⟩
  · obtain ⟨d', q1, q2⟩ := fz h
    cases q2
    obtain ⟨v, q3, q4⟩ := r.get q1
    refine ⟨v, ?_, q4⟩
    have hi : i < vs.length := (List.getElem?_eq_some_iff.mp q3).1
    unfold L2.start
    rw [List.getElem?_append_left (by simpa using hi), List.getElem?_map, q3]
    rfl
  · unfold startD L2.start
    rw [List.length_append, List.length_append, List.length_map, List.length_map, List.length_replicate, List.length_replicate, r.length]
def GEs (F : Fx) : List Nat → Prop
  | [] => True
  | j :: js => (∀ x ge, F.G[j]? = some (x, ge) → GEok F x ge) ∧ GEs F js
theorem GEs.get {F : Fx} : ∀ {js : List Nat}, GEs F js → ∀ (j : Nat) (x : Str) (ge : GE), js.contains j = true → F.G[j]? = some (x, ge) → GEok F x ge
  | [], _, j, x, ge, h, _ => by simp at h
  | i :: js, ⟨h1, h2⟩, j, x, ge, h, hj => by
    rw [List.contains_cons, Bool.or_eq_true] at h
    rcases h with h | h
    · have : j = i := by simpa using h
      subst this
      exact h1 x ge hj
    · exact GEs.get h2 j x ge h hj
theorem GEs.one {F : Fx} {j : Nat} {y : Str} {g : GE} (hj : F.G[j]? = some (y, g)) (h : GEok F y g) : ∀ x ge, F.G[j]? = some (x, ge) → GEok F x ge := fun x ge e => by
  rw [hj] at e
  cases e
  exact h
/-- what a def's names are checked for -/
def scOk (GN : List Str) (S : Sx) : Bool := visC S.N S.sc S.vl && locC S.N S.sc S.cl S.ll && glC GN S.sc S.gl
theorem sc_fn {F : Fx} {qual : Str} {scope : Scope} {f : Addr} {cd : Value} {A : Around} {outer : List Env} {s : Shared} {H : Hp} {E : XK} {S : Sx} {GN : List Str} (hCX : F.CX = L2.CX F.P F.w) (hG : F.G.map (·.1) = GN) (hS : S.sc = scope) (hSE : S.E = E) (hnd : S.N.Nodup) (hr : Room S.L (A.deeper (envOfC qual scope s.heap.objs.size f cd))) (hk : scOk GN S = true) (kit : KitOk F) (ge : GEs F S.gl) (ke : GEs F S.kn) :
    SC F S (cxOf F.CX F.P F.w F.K F.mg F.base S.N qual scope f cd A outer s H E) := by
  unfold scOk at hk
  simp only [Bool.and_eq_true] at hk
  have tk : Takes (cxOf F.CX F.P F.w F.K F.mg F.base S.N qual scope f cd A outer s H E) (fun cls d _ H => S.E cls d H) := by
    rw [hCX, hSE]
    exact takes_of rfl rfl rfl rfl
  exact { prog := rfl, w := rfl, K := rfl, mg := rfl, base := rfl, N := rfl, nd := hnd, sc := hS.symm, calm := rfl, room := hr, pass := by
            have h := passes_call (E := S.E) tk fun _ _ _ _ h => h
            intro pins σ H s e s' I c
            rw [hCX] at c
            exact h pins σ H s e s' I c, tk := tk, top := fun _ => ⟨rfl, rfl⟩, own := PassesOwn.leaving, vis := hk.1.1, fnc := fun _ _ _ _ => rfl, loc := hk.1.2, glc := by rw [hG]; exact hk.2, kit := kit, ge := ge.get, ke := ke.get, cx := by
            rw [hCX]
            exact fun _ _ _ _ _ ⟨_, _, _, _, _, _, _, _, _, _, _, _, h⟩ => h }
/-- the law's own def lets nothing out -/
theorem sc_law {F : Fx} {qual : Str} {scope : Scope} {f : Addr} {cd : Value} {A : Around} {outer : List Env} {s : Shared} {H : Hp} {E : XK} {S : Sx} {GN : List Str} (hCX : F.CX = L2.CX F.P F.w) (hG : F.G.map (·.1) = GN) (hS : S.sc = scope) (hSE : S.E = E0) (hnd : S.N.Nodup) (hr : Room S.L (A.deeper (envOfC qual scope s.heap.objs.size f cd))) (hk : scOk GN S = true) (kit : KitOk F) (ge : GEs F S.gl) (ke : GEs F S.kn) :
    SC F S (cxOf CX0 F.P F.w F.K F.mg F.base S.N qual scope f cd A outer s H E) := by
  unfold scOk at hk
  simp only [Bool.and_eq_true] at hk
  have cx : ∀ outer H s e s', ¬ F.CX outer H s E0 e s' := by
    rw [hCX]
    exact fun _ _ _ _ _ ⟨_, _, _, _, _, _, _, _, _, _, _, _, h⟩ => h
  exact { prog := rfl, w := rfl, K := rfl, mg := rfl, base := rfl, N := rfl, nd := hnd, sc := hS.symm, calm := rfl, room := hr, pass := by
            rw [hSE]
            exact fun _ _ _ _ _ _ _ h => (cx _ _ _ _ _ h).elim, tk := by
            rw [hSE]
            exact takes_none5, top := fun _ => ⟨rfl, rfl⟩, own := PassesOwn.leaving, vis := hk.1.1, fnc := fun _ _ _ _ => rfl, loc := hk.1.2, glc := by rw [hG]; exact hk.2, kit := kit, ge := ge.get, ke := ke.get, cx := cx }
theorem fn_ok {F : Fx} {x qual : Str} {args : Arguments} {body : List Stmt} {scope : Scope} {f : Addr} {fd : FuncData} {ps N : List Str} {k : Nat} {m : List D → T D} {GN : List Str} (S : XK → Sx) (D0 : FunD F.K x qual args body scope [] [] f fd) (hsc : FnScope N ps scope) (hCX : F.CX = L2.CX F.P F.w) (hG : F.G.map (·.1) = GN) (hN : ∀ E, (S E).N = N) (hS : ∀ E, (S E).sc = scope) (hL : ∀ E, (S E).L = k) (hE : ∀ E, (S E).E = E)
    (hk : ∀ E, scOk GN (S E) = true) (kit : KitOk F) (ge : ∀ E, GEs F (S E).gl) (ke : ∀ E, GEs F (S E).kn) (hb : ∀ E ds, ds.length = ps.length → Bl F (S E) (startD N ds) body J0 (m ds)) : FnOk F.P F.w F.K F.mg F.base F.CX (k + 1) f fd ps (spM F ps.length m) := by
  refine D0.ok hsc (fun vs H Q E h => ?_) fun cdv A outer s H vs Q E hr h => ?_
  · obtain ⟨g, Hs, ds, _, _, _, r, hl, _⟩ := h
    rw [← r.length]
    exact hl
  · obtain ⟨g, Hs, ds, sb, dl, go, r, hl, w⟩ := h
    have sc : SC F (S E) (cxOf F.CX F.P F.w F.K F.mg F.base N qual scope f cdv A outer s H E) := by
      have := sc_fn (f := f) (cd := cdv) (A := A) (outer := outer) (s := s) (H := H) (E := E) (qual := qual) hCX hG (hS E) (hE E) (by rw [hN]; exact hsc.nd) (by rw [hL]; exact hr) (hk E) kit (ge E) (ke E)
      rw [hN] at this
      exact this
    refine ⟨_, hb E ds hl _ sc ⟨g, H, Hs⟩, Hs, fun d => ∀ v Hs' H', Wd ⟨g, H, Hs⟩ Hs' H' → Rep F.C g Hs' d v → Q v H', start_ok sb dl go r, by rw [hE]; exact w, fun d rt v Hs' H' wd rr => rt v Hs' H' wd rr, fun ρ' m' σ' H' Hs' j sb' e' w' => ?_, fun ρ' m' σ' H' Hs' j => j.elim, fun ρ' m' σ' H' Hs' j => j.elim⟩
    have j' : m' = .ret .non := j
    subst j'
    exact w' .non Hs' H' e'.wd .non
theorem ge_fn {F : Fx} {x : Str} {ps : List Str} {k : Nat} {m : List D → T D} {f : Addr} {fd : FuncData} (hCX : F.CX = L2.CX F.P F.w) (hm : F.mg x = some (.ref f)) (ok : FnOk F.P F.w F.K F.mg F.base F.CX k f fd ps (spM F ps.length m)) (kp : PySem.W.keepIn F.K (.ref f) = true) (b : Binds F.K fd ps []) (st : ∀ ds, ds.length ≠ ps.length → m ds = .stuck) {kw : List (List Str × List Nat)} (hkw : ∀ q ∈ kw, KwB F.K fd ps q.1 q.2) :
    GEok F x (.fn k ps m kw) := ⟨st, f, fd, hm, ok, kp, b, hkw⟩
/-! ### the law's def: the deal is drawn first -/
/-- what lies in a drawn deal -/
def dealVal (d : D) : Prop := ∃ (ns : List Int) (m : Int), d = .lst [.lst (ns.map D.int), .int m] ∧ (∀ n ∈ ns, 0 ≤ n ∧ n.natAbs < 2 ^ 8000) ∧ ns.length ≤ 64 ∧ 0 ≤ m ∧ m < 2147483648
theorem deal_lies {C : Ct} {g : Gh} {Hs H : Hp} {d : D} {v : V} (h : dealVal d) (sb : Sub Hs H) (r : Rep C g Hs d v) : ∃ a b, v = .ref a ∧ DealOk (some (a, b)) H := by
  obtain ⟨ns, m, rfl, h1, h2, h3, h4⟩ := h
  cases r with
  | lst hH rl =>
    rename_i vs a
    cases rl with
    | cons r1 rl =>
      cases rl with
      | cons r2 rl =>
        cases rl
        cases r2
        cases r1 with
        | lst hB rb =>
          rename_i ws b
          refine ⟨a, b, rfl, fun z => ?_, ns, m, sb _ _ hH, ?_, h1, h2, h3, h4⟩
          · subst z
            rw [hH] at hB
            have := rb.ints
            subst this
            cases ns with
            | nil => simp at hB
            | cons n ns =>
              cases ns with
              | nil => simp at hB
              | cons n' ns => simp at hB
          · rw [rb.ints] at hB
            exact sb _ _ hB
/-- the law: a list of ints comes in, True goes out -/
def spLaw (K : PySem.W.Frag) (many : Nat) : Sp := fun vs H Q _ => ∃ (a : Addr) (ns : List Int), vs = [.ref a] ∧ SqL K H a (ns.map V.int) ∧ ns.length ≤ many ∧ ∀ H', Q (.bl true) H'
/-- whatever is drawn: True -/
def Tru (k : T D) : Prop := k.wp (fun d => d = .bl true) (fun _ _ => False)
theorem law_ok {F : Fx} {x qual dx : Str} {args : Arguments} {rest : List Stmt} {scope : Scope} {f : Addr} {fd : FuncData} {ps N : List Str} {k many : Nat} {GN : List Str} {e : Expr} {p pos : Pos} {md : List Int → T D} {k2 : T D} (S : XK → Sx) (D0 : FunD F.K x qual args (.Assign [.Name dx p] e pos :: rest) scope [] [] f fd) (hsc : FnScope N ps scope) (hCX : F.CX = L2.CX F.P F.w) (hG : F.G.map (·.1) = GN) (hN : ∀ E, (S E).N = N) (hS : ∀ E, (S E).sc = scope) (hL : ∀ E, (S E).L = k) (hE : ∀ E, (S E).E = E)
    (hk : ∀ E, scOk GN (S E) = true) (kit : KitOk F) (ge : ∀ E, GEs F (S E).gl) (ke : ∀ E, GEs F (S E).kn) (hps : ps.length = 1) (hi : N[1]? = some dx) (hv : ∀ E, (S E).ll.contains 1 = true) (hs : ∀ tgt line env, swapsWith e (some tgt) line env = pure false := by intros; rfl)
    (hd : ∀ E (ns : List Int), Ev F (S E) (startD N [.scr ns]) e (md ns)) (hdv : ∀ ns : List Int, ns.length ≤ many → ∃ d, md ns = .ret d ∧ dealVal d) (hb : ∀ E, Bl F (S E) ((List.replicate N.length none).set 1 (some (false, .deal))) rest J0 k2) (hk2 : Tru k2) : FnOk F.P F.w F.K F.mg F.base CX0 (k + 1) f fd ps (spLaw F.K many) := by
  refine D0.ok hsc (fun vs H Q E h => ?_) fun cdv A outer s H vs Q E hr h => ?_
  · obtain ⟨a, ns, rfl, _⟩ := h
    rw [hps]
    rfl
  · obtain ⟨a, ns, rfl, hH, hl, hQ⟩ := h
    have sc : SC F (S E0) (cxOf CX0 F.P F.w F.K F.mg F.base N qual scope f cdv A outer s H E) := by
      have := sc_law (f := f) (cd := cdv) (A := A) (outer := outer) (s := s) (H := H) (E := E) (qual := qual) hCX hG (hS E0) (hE E0) (by rw [hN]; exact hsc.nd) (by rw [hL]; exact hr) (hk E0) kit (ge E0) (ke E0)
      rw [hN] at this
      exact this
    obtain ⟨l1, l2⟩ := sc.locOk (i := 1) (x := dx) (hv E0) (by rw [hN]; exact hi)
    obtain ⟨d, hd1, hd2⟩ := hdv ns hl
    have hr : PSs (cxOf CX0 F.P F.w F.K F.mg F.base N qual scope f cdv A outer s H E) rest (fun Dn σ H' => ∃ en, blR F (S E0).E en J0 ((List.replicate N.length none).set 1 (some (false, .deal))) k2 Dn σ H') := ⟨fun pins s σ H D I ⟨en, h⟩ => (hb E0 _ sc en).run pins s σ H D I h⟩
    let Hs : Hp := fun b => if b = a then H a else none
    have sb : Sub Hs H := fun b o h => by
      show H b = some o
      have h' : (if b = a then H a else none) = some o := h
      split at h'
      · rename_i e
        rw [e]
        exact h'
      · cases h'
    have hHa : Hs a = H a := by
      show (if a = a then H a else none) = _
      rw [if_pos rfl]
    have hS : SqL F.K Hs a (ns.map V.int) := by
      rcases hH with (h | ⟨o, h⟩) | h
      · exact .inl (.inl (hHa.trans h))
      · exact .inl (.inr ⟨o, hHa.trans h⟩)
      · exact .inr h
    have rr : RepL F.C none Hs [D.scr ns] [V.ref a] := .cons (.scr hS) .nil
    refine ⟨_, pss_cons (ps_set (by exact hsc.nd) hi l1 (hd E0 ns _ sc ⟨none, H, Hs⟩) (hs _ _ _) l2) hr, ?_⟩
    refine ⟨Hs, [], start_ok (N := N) sb trivial (fun _ z => z.elim) rr, ?_⟩
    rw [hd1]
    intro v H' Hs' e' s' r'
    obtain ⟨a', b', ev, dl⟩ := deal_lies hd2 e'.wd.sub r'
    subst ev
    refine ⟨⟨some (a', b'), H', fun _ => none⟩, fun _ => none, fun d => d = .bl true, ?_, T.wp_mono (show k2.wp (fun d => d = .bl true) (fun _ _ => False) from hk2) (fun _ h => h) fun _ _ h => h.elim, fun d hd v Hs2 H2 _ r2 => ?_, fun ρ' m' σ' H2 Hs2 j _ _ w' => ?_, fun _ _ _ _ _ j => j.elim, fun _ _ _ _ _ j => j.elim⟩
    · refine ⟨Wd.start (fun _ _ h => nomatch h) dl fun _ _ => rfl, fun i d h => ?_, fun i d h => ?_, fun i j d d' b ne h => ?_, fun p hp => by simp at hp, .nil, fun i d p hp => by simp at hp, ?_⟩
      · by_cases z : i = 1
        · subst z
          by_cases hl : 1 < N.length
          · rw [List.getElem?_set_self (by simpa using hl)] at h
            cases h
            refine ⟨.ref a', ?_, .deal rfl⟩
            rw [List.getElem?_set_self]
            unfold L2.start
            simp
            omega
          · rw [List.getElem?_eq_none (by simpa using hl)] at h
            cases h
        · rw [List.getElem?_set_ne (Ne.symm z), List.getElem?_replicate] at h
          split at h <;> cases h
      · by_cases z : i = 1
        · subst z
          by_cases hl : 1 < N.length
          · rw [List.getElem?_set_self (by simpa using hl)] at h
            cases h
          · rw [List.getElem?_eq_none (by simpa using hl)] at h
            cases h
        · rw [List.getElem?_set_ne (Ne.symm z), List.getElem?_replicate] at h
          split at h <;> cases h
      · by_cases z : i = 1
        · subst z
          by_cases hl : 1 < N.length
          · rw [List.getElem?_set_self (by simpa using hl)] at h
            cases h
          · rw [List.getElem?_eq_none (by simpa using hl)] at h
            cases h
        · rw [List.getElem?_set_ne (Ne.symm z), List.getElem?_replicate] at h
          split at h <;> cases h
      · have hl : 1 ≤ N.length := by
          have := (List.getElem?_eq_some_iff.mp hi).1
          omega
        unfold L2.start
        simp
        omega
    · subst hd
      cases r2
      exact hQ H2
    · have j' : m' = .ret .non := j
      subst j'
      cases w'
end MS

/-! Part 16: the draw out of a deal. -/
namespace MS
open PySem PySem.Spec PyProof.Rows L2
/-- the text of the draw, from line L on -/
def anyBody (L : Nat) : List Stmt := [ (PySem.Stmt.While (test := (PySem.Expr.BoolOp (op := PySem.BoolOp.And) (values := [ (PySem.Expr.Compare (left := (PySem.Expr.Call (func := (PySem.Expr.Name "len" ⟨L + 2, 10, L + 2, 13⟩)) (args := [ (PySem.Expr.Subscript (value := (PySem.Expr.Name "deal" ⟨L + 2, 14, L + 2, 18⟩)) (slice := (PySem.Expr.Constant (PySem.Const.int 0) 0 ⟨L + 2, 19, L + 2, 20⟩)) (pos := ⟨L + 2, 14, L + 2, 21⟩))]) (keywords := []) (pos := ⟨L + 2, 10, L + 2, 22⟩))) (ops := [PySem.CmpOp.Gt]) (comparators := [(PySem.Expr.Constant (PySem.Const.int 0) 0 ⟨L + 2, 25, L + 2, 26⟩)]) (pos := ⟨L + 2, 10, L + 2, 26⟩)), (PySem.Expr.Compare (left := (PySem.Expr.Subscript (value := (PySem.Expr.Subscript (value := (PySem.Expr.Name "deal" ⟨L + 2, 31, L + 2, 35⟩)) (slice := (PySem.Expr.Constant (PySem.Const.int 0) 0 ⟨L + 2, 36, L + 2, 37⟩)) (pos := ⟨L + 2, 31, L + 2, 38⟩))) (slice := (PySem.Expr.UnaryOp (op := PySem.UnaryOp.USub) (operand := (PySem.Expr.Constant (PySem.Const.int 1) 0 ⟨L + 2, 40, L + 2, 41⟩)) (pos := ⟨L + 2, 39, L + 2, 41⟩))) (pos := ⟨L + 2, 31, L + 2, 42⟩))) (ops := [PySem.CmpOp.Eq]) (comparators := [(PySem.Expr.Constant (PySem.Const.int 0) 0 ⟨L + 2, 46, L + 2, 47⟩)]) (pos := ⟨L + 2, 31, L + 2, 47⟩))]) (pos := ⟨L + 2, 10, L + 2, 47⟩))) (body := [ (PySem.Stmt.Expr (value := (PySem.Expr.Call (func := (PySem.Expr.Attribute (value := (PySem.Expr.Subscript (value := (PySem.Expr.Name "deal" ⟨L + 3, 8, L + 3, 12⟩)) (slice := (PySem.Expr.Constant (PySem.Const.int 0) 0 ⟨L + 3, 13, L + 3, 14⟩)) (pos := ⟨L + 3, 8, L + 3, 15⟩))) (attr := "pop") (pos := ⟨L + 3, 8, L + 3, 19⟩))) (args := []) (keywords := []) (pos := ⟨L + 3, 8, L + 3, 21⟩))) (pos := ⟨L + 3, 8, L + 3, 21⟩))]) (orelse := []) (pos := ⟨L + 2, 4, L + 3, 21⟩)), (PySem.Stmt.If (test := (PySem.Expr.Compare (left := (PySem.Expr.Call (func := (PySem.Expr.Name "len" ⟨L + 4, 7, L + 4, 10⟩)) (args := [ (PySem.Expr.Subscript (value := (PySem.Expr.Name "deal" ⟨L + 4, 11, L + 4, 15⟩)) (slice := (PySem.Expr.Constant (PySem.Const.int 0) 0 ⟨L + 4, 16, L + 4, 17⟩)) (pos := ⟨L + 4, 11, L + 4, 18⟩))]) (keywords := []) (pos := ⟨L + 4, 7, L + 4, 19⟩))) (ops := [PySem.CmpOp.Gt]) (comparators := [(PySem.Expr.Constant (PySem.Const.int 0) 0 ⟨L + 4, 22, L + 4, 23⟩)]) (pos := ⟨L + 4, 7, L + 4, 23⟩))) (body := [ (PySem.Stmt.Assign (targets := [(PySem.Expr.Name "rest" ⟨L + 5, 8, L + 5, 12⟩)]) (value := (PySem.Expr.Call (func := (PySem.Expr.Name "int" ⟨L + 5, 15, L + 5, 18⟩)) (args := [ (PySem.Expr.Call (func := (PySem.Expr.Attribute (value := (PySem.Expr.Subscript (value := (PySem.Expr.Name "deal" ⟨L + 5, 19, L + 5, 23⟩)) (slice := (PySem.Expr.Constant (PySem.Const.int 0) 0 ⟨L + 5, 24, L + 5, 25⟩)) (pos := ⟨L + 5, 19, L + 5, 26⟩))) (attr := "pop") (pos := ⟨L + 5, 19, L + 5, 30⟩))) (args := []) (keywords := []) (pos := ⟨L + 5, 19, L + 5, 32⟩))]) (keywords := []) (pos := ⟨L + 5, 15, L + 5, 33⟩))) (pos := ⟨L + 5, 8, L + 5, 33⟩)), (PySem.Stmt.Expr (value := (PySem.Expr.Call (func := (PySem.Expr.Attribute (value := (PySem.Expr.Subscript (value := (PySem.Expr.Name "deal" ⟨L + 6, 8, L + 6, 12⟩)) (slice := (PySem.Expr.Constant (PySem.Const.int 0) 0 ⟨L + 6, 13, L + 6, 14⟩)) (pos := ⟨L + 6, 8, L + 6, 15⟩))) (attr := "append") (pos := ⟨L + 6, 8, L + 6, 22⟩))) (args := [ (PySem.Expr.BinOp (left := (PySem.Expr.Name "rest" ⟨L + 6, 23, L + 6, 27⟩)) (op := PySem.Operator.FloorDiv) (right := (PySem.Expr.Name "bound" ⟨L + 6, 31, L + 6, 36⟩)) (pos := ⟨L + 6, 23, L + 6, 36⟩))]) (keywords := []) (pos := ⟨L + 6, 8, L + 6, 37⟩))) (pos := ⟨L + 6, 8, L + 6, 37⟩)), (PySem.Stmt.Return (value := (some (PySem.Expr.BinOp (left := (PySem.Expr.Name "rest" ⟨L + 7, 15, L + 7, 19⟩)) (op := PySem.Operator.Mod) (right := (PySem.Expr.Name "bound" ⟨L + 7, 22, L + 7, 27⟩)) (pos := ⟨L + 7, 15, L + 7, 27⟩)))) (pos := ⟨L + 7, 8, L + 7, 27⟩))]) (orelse := []) (pos := ⟨L + 4, 4, L + 7, 27⟩)), (PySem.Stmt.Assign (targets := [ (PySem.Expr.Subscript (value := (PySem.Expr.Name "deal" ⟨L + 8, 4, L + 8, 8⟩)) (slice := (PySem.Expr.Constant (PySem.Const.int 1) 0 ⟨L + 8, 9, L + 8, 10⟩)) (pos := ⟨L + 8, 4, L + 8, 11⟩))]) (value := (PySem.Expr.BinOp (left := (PySem.Expr.Call (func := (PySem.Expr.Name "int" ⟨L + 8, 14, L + 8, 17⟩)) (args := [ (PySem.Expr.BinOp (left := (PySem.Expr.BinOp (left := (PySem.Expr.Subscript (value := (PySem.Expr.Name "deal" ⟨L + 8, 18, L + 8, 22⟩)) (slice := (PySem.Expr.Constant (PySem.Const.int 1) 0 ⟨L + 8, 23, L + 8, 24⟩)) (pos := ⟨L + 8, 18, L + 8, 25⟩))) (op := PySem.Operator.Mult) (right := (PySem.Expr.Constant (PySem.Const.int 48271) 0 ⟨L + 8, 28, L + 8, 33⟩)) (pos := ⟨L + 8, 18, L + 8, 33⟩))) (op := PySem.Operator.Add) (right := (PySem.Expr.Constant (PySem.Const.int 31) 0 ⟨L + 8, 36, L + 8, 38⟩)) (pos := ⟨L + 8, 18, L + 8, 38⟩))]) (keywords := []) (pos := ⟨L + 8, 14, L + 8, 39⟩))) (op := PySem.Operator.Mod) (right := (PySem.Expr.Constant (PySem.Const.int 2147483647) 0 ⟨L + 8, 42, L + 8, 52⟩)) (pos := ⟨L + 8, 14, L + 8, 52⟩))) (pos := ⟨L + 8, 4, L + 8, 52⟩)), (PySem.Stmt.Return (value := (some (PySem.Expr.BinOp (left := (PySem.Expr.Call (func := (PySem.Expr.Name "int" ⟨L + 9, 11, L + 9, 14⟩)) (args := [ (PySem.Expr.BinOp (left := (PySem.Expr.Subscript (value := (PySem.Expr.Name "deal" ⟨L + 9, 15, L + 9, 19⟩)) (slice := (PySem.Expr.Constant (PySem.Const.int 1) 0 ⟨L + 9, 20, L + 9, 21⟩)) (pos := ⟨L + 9, 15, L + 9, 22⟩))) (op := PySem.Operator.FloorDiv) (right := (PySem.Expr.Constant (PySem.Const.int 64) 0 ⟨L + 9, 26, L + 9, 28⟩)) (pos := ⟨L + 9, 15, L + 9, 28⟩))]) (keywords := []) (pos := ⟨L + 9, 11, L + 9, 29⟩))) (op := PySem.Operator.Mod) (right := (PySem.Expr.Name "bound" ⟨L + 9, 32, L + 9, 37⟩)) (pos := ⟨L + 9, 11, L + 9, 37⟩)))) (pos := ⟨L + 9, 4, L + 9, 37⟩))]
def anyM : List D → T D
  | [.deal, .int b] => if 0 < b ∧ b < 2 ^ 64 then .draw b.toNat fun i => .ret (.int (i : Nat)) else .stuck
  | _ => .stuck
section
variable {F : Fx} {X : Cx} {H0 : Hp} {a c : Addr} {bd : Int} {L : Nat} {p p2 p3 pos : Pos} {k : Nat}
/-- the heap while a draw runs -/
def Hd (H0 : Hp) (a c : Addr) (ns : List Int) (m : Int) : Hp := upd (upd H0 a (.lst [.ref c, .int m])) c (.lst (ns.map V.int))
theorem Hd_a {ns : List Int} {m : Int} (h : a ≠ c) : Hd H0 a c ns m a = some (.lst [.ref c, .int m]) := by
  unfold Hd
  rw [upd_ne h, upd_same]
theorem Hd_c {ns : List Int} {m : Int} : Hd H0 a c ns m c = some (.lst (ns.map V.int)) := upd_same
theorem Hd_updc {ns ns' : List Int} {m : Int} : upd (Hd H0 a c ns m) c (.lst (ns'.map V.int)) = Hd H0 a c ns' m := upd_upd
theorem Hd_upda {ns : List Int} {m m' : Int} (h : a ≠ c) : upd (Hd H0 a c ns m) a (.lst [.ref c, .int m']) = Hd H0 a c ns m' := by
  funext x
  unfold Hd upd
  by_cases h1 : x = a
  · subst h1
    simp [h]
  · by_cases h2 : x = c
    · subst h2
      simp [h1]
    · simp [h1, h2]
def SA (a : Addr) (bd : Int) (r : Option V) : L2.St := [some (.ref a), some (.int bd), r]
/-- a reading at such a state -/
def RA (H0 : Hp) (a c : Addr) (bd : Int) (pre : Option V → List Int → Int → Prop) (val : Option V → List Int → Int → V) : TE := fun σ H Q => ∃ r ns m, σ = SA a bd r ∧ H = Hd H0 a c ns m ∧ pre r ns m ∧ Q (val r ns m) H
structure AnyX (X : Cx) : Prop where
  N : X.N = [("deal" : Str), ("bound" : Str), ("rest" : Str)]
  v0 : X.env.scope.names.lookup ("deal" : Str) = some NameKind.local
  v1 : X.env.scope.names.lookup ("bound" : Str) = some NameKind.local
  v2 : X.env.scope.names.lookup ("rest" : Str) = some NameKind.local
  gl : Gl X "len"
  gi : Gl X "int"
  ml : X.mg "len" = none
  mi : X.mg "int" = none
  calm : X.calm = true
  own : PassesOwn (model X.prog X.w) X.A X.env X.xe
abbrev tt3 : Option V → List Int → Int → Prop := fun _ _ _ => True
theorem any_deal (x : AnyX X) : PE X (.Name "deal" p) (RA H0 a c bd tt3 fun _ _ _ => .ref a) := peW (pe_var (i := 0) (by rw [x.N]; rfl) (.inl x.v0) (by decide) (by decide)) fun σ H Q ⟨r, ns, m, e1, e2, _, q⟩ => by
  subst e1
  exact ⟨_, rfl, q⟩
theorem any_bound (x : AnyX X) : PE X (.Name "bound" p) (RA H0 a c bd tt3 fun _ _ _ => .int bd) := peW (pe_var (i := 1) (by rw [x.N]; rfl) (.inl x.v1) (by decide) (by decide)) fun σ H Q ⟨r, ns, m, e1, e2, _, q⟩ => by
  subst e1
  exact ⟨_, rfl, q⟩
theorem any_rest (x : AnyX X) {n : Int} : PE X (.Name "rest" p) (RA H0 a c bd (fun r _ _ => r = some (.int n)) fun _ _ _ => .int n) := peW (pe_var (i := 2) (by rw [x.N]; rfl) (.inl x.v2) (by decide) (by decide)) fun σ H Q ⟨r, ns, m, e1, e2, e3, q⟩ => by
  subst e1 e3
  exact ⟨_, rfl, q⟩
/-- deal[0], deal[1] -/
theorem any_d0 (hne : a ≠ c) (x : AnyX X) : PE X (.Subscript (.Name "deal" p) (.Constant (.int 0) k p2) pos) (RA H0 a c bd tt3 fun _ _ _ => .ref c) := peW (pe_ix ix_seq (any_deal (H0 := H0) (a := a) (c := c) (bd := bd) x) pe_int (by intro _ _; rfl)) fun σ H Q ⟨r, ns, m, e1, e2, e3, q⟩ => by
  subst e2
  exact ⟨r, ns, m, e1, rfl, e3, .inl ⟨a, [.ref c, .int m], 0, .ref c, rfl, rfl, SqL.of (Hd_a hne), rfl, q⟩⟩
theorem any_d1 (hne : a ≠ c) (x : AnyX X) : PE X (.Subscript (.Name "deal" p) (.Constant (.int 1) k p2) pos) (RA H0 a c bd tt3 fun _ _ m => .int m) := peW (pe_ix ix_seq (any_deal (H0 := H0) (a := a) (c := c) (bd := bd) x) pe_int (by intro _ _; rfl)) fun σ H Q ⟨r, ns, m, e1, e2, e3, q⟩ => by
  subst e2
  exact ⟨r, ns, m, e1, rfl, e3, .inl ⟨a, [.ref c, .int m], 1, .int m, rfl, rfl, SqL.of (Hd_a hne), rfl, q⟩⟩
/-- len(deal[0]) > 0 -/
theorem any_len (hne : a ≠ c) (x : AnyX X) {p4 p5 p6 : Pos} {k2 : Nat} : PT X (.Compare (.Call (.Name "len" p) [.Subscript (.Name "deal" p2) (.Constant (.int 0) k p3) p4] [] p5) [.Gt] [.Constant (.int 0) k2 p6] pos) (fun σ H Q => ∃ r ns m, σ = SA a bd r ∧ H = Hd H0 a c ns m ∧ Q (decide (0 < ns.length)) H) :=
  ptW (pt_cmpR op_gt (pe_callB call_len x.gl x.ml boot_len (pa_cons (any_d0 (H0 := H0) (bd := bd) hne x) pa_nil)) pe_int (noBehind rfl)) fun σ H Q ⟨r, ns, m, e1, e2, q⟩ => by
    subst e2
    refine ⟨r, ns, m, e1, rfl, trivial, _, (ns.map V.int).length, rfl, .inl ⟨_, SqL.of Hd_c, rfl⟩, _, _, rfl, rfl, decide (0 < ns.length), ?_, q⟩
    rw [List.length_map]
    congr 1
    simp
/-- deal[0][-1] == 0 -/
theorem any_last (hne : a ≠ c) (x : AnyX X) (hu : X.A.units + 64 < cLine) {p4 p5 p6 p7 : Pos} {k2 k3 : Nat} : PT X (.Compare (.Subscript (.Subscript (.Name "deal" p) (.Constant (.int 0) k p2) p3) (.UnaryOp .USub (.Constant (.int 1) k2 p4) p5) p6) [.Eq] [.Constant (.int 0) k3 p7] pos)
    (fun σ H Q => ∃ r ns m n, σ = SA a bd r ∧ H = Hd H0 a c ns m ∧ ns[ns.length - 1]? = some n ∧ Q (decide (n = 0)) H) :=
  ptW (pt_cmpR op_eq (pe_ix ix_seq (any_d0 (H0 := H0) (bd := bd) hne x) (pe_un un_neg pe_int) (by intro _ _; rfl)) pe_int (noBehind rfl)) fun σ H Q ⟨r, ns, m, n, e1, e2, e3, q⟩ => by
    subst e2
    have hl : ns.length ≠ 0 := fun z => by
      rw [List.length_eq_zero_iff] at z
      rw [z] at e3
      cases e3
    have ha : atI (ns.map V.int) (-1) = some (.int n) := by
      unfold atI ixN
      rw [List.length_map, if_neg (by decide), if_pos (by omega)]
      show (ns.map V.int)[(-1 + (ns.length : Int)).toNat]? = _
      have : (-1 + (ns.length : Int)).toNat = ns.length - 1 := by omega
      rw [this, List.getElem?_map, e3]
      rfl
    refine ⟨r, ns, m, e1, rfl, trivial, 1, rfl, .inl ⟨c, ns.map V.int, -1, .int n, rfl, rfl, SqL.of Hd_c, ha, ?_⟩⟩
    exact ⟨rfl, _, rfl, by
      have e : decide (V.int n = V.int 0) = decide (n = 0) := by simp
      rw [e]
      exact q⟩
def goodD (ns : List Int) (m : Int) : Prop := (∀ n ∈ ns, 0 ≤ n ∧ n.natAbs < 2 ^ 8000) ∧ ns.length ≤ 64 ∧ 0 ≤ m ∧ m < 2147483648
/-- the loop: noughts at the end are left out -/
theorem any_while (hne : a ≠ c) (x : AnyX X) (hu : X.A.units + 64 < cLine) {pb : Stmt} {q1 q2 : Pos} {t1 t2 : Expr}
    (h1 : PT X t1 (fun σ H Q => ∃ r ns m, σ = SA a bd r ∧ H = Hd H0 a c ns m ∧ Q (decide (0 < ns.length)) H)) (h2 : PT X t2 (fun σ H Q => ∃ r ns m n, σ = SA a bd r ∧ H = Hd H0 a c ns m ∧ ns[ns.length - 1]? = some n ∧ Q (decide (n = 0)) H))
    (hb : PS X pb (fun D σ H => ∃ r ns m n, σ = SA a bd r ∧ H = Hd H0 a c ns m ∧ ns[ns.length - 1]? = some n ∧ D.nx σ (Hd H0 a c ns.dropLast m))) : PS X (.While (.BoolOp .And [t1, t2] q1) [pb] [] q2) (fun D σ H => ∃ r ns m, σ = SA a bd r ∧ H = Hd H0 a c ns m ∧ ∀ ns', (∃ t, ns = ns' ++ t) → D.nx σ (Hd H0 a c ns' m)) := by
  refine ⟨fun pins s σ H D I ⟨r, ns, m, e1, e2, q⟩ => ?_⟩
  refine (ps_while x.own (pw_and h1 (pw_and1 h2)).pt (pss_one hb)).run pins s σ H D I ?_
  refine ⟨fun k σ' H' => ∃ ns1, σ' = σ ∧ H' = Hd H0 a c ns1 m ∧ (∃ t, ns = ns1 ++ t) ∧ ns1.length = k, ⟨_, ns, rfl, e2, ⟨[], by simp⟩, rfl⟩, ?_⟩
  rintro k σ' H' ⟨ns1, rfl, rfl, ⟨t, ht⟩, hk⟩
  refine ⟨r, ns1, m, e1, rfl, ?_⟩
  by_cases hz : 0 < ns1.length
  · rw [decide_eq_true hz]
    obtain ⟨n, hn⟩ : ∃ n, ns1[ns1.length - 1]? = some n := ⟨ns1[ns1.length - 1], by simp⟩
    refine iteT ⟨r, ns1, m, n, e1, rfl, hn, ?_⟩
    by_cases h0 : n = 0
    · rw [decide_eq_true h0]
      refine iteT ⟨fun σ2 H2 => σ2 = σ' ∧ H2 = Hd H0 a c ns1.dropLast m, fun σ2 H2 ⟨z1, z2⟩ => ⟨ns1.dropLast.length, by rw [List.length_dropLast]; omega, ns1.dropLast, z1, z2, ⟨n :: t, ?_⟩, rfl⟩, r, ns1, m, n, e1, rfl, hn, rfl, rfl⟩
      rw [ht]
      have : ns1 = ns1.dropLast ++ [n] := by
        have hne' : ns1 ≠ [] := fun z => by rw [z] at hz; exact absurd hz (by decide)
        have hl := List.dropLast_concat_getLast hne'
        rw [List.getLast_eq_getElem hne'] at hl
        have hn' : ns1[ns1.length - 1] = n := by
          have := hn
          rw [List.getElem?_eq_getElem (by omega)] at this
          exact Option.some.inj this
        rw [hn'] at hl
        exact hl.symm
      conv => lhs; rw [this]
      simp
    · rw [decide_eq_false h0]
      exact iteF (q ns1 ⟨t, ht⟩)
  · rw [decide_eq_false hz]
    exact iteF (iteF (q ns1 ⟨t, ht⟩))
/-- deal[0].pop() as a statement -/
theorem any_pop (hne : a ≠ c) (x : AnyX X) {p1 p2 p3 p4 p5 : Pos} {k2 : Nat} (hl : (p4.endLine == p5.line) = true) : PE X (.Call (.Attribute (.Subscript (.Name "deal" p1) (.Constant (.int 0) k2 p2) p3) "pop" p4) [] [] p5) (fun σ H Q => ∃ r ns m n, σ = SA a bd r ∧ H = Hd H0 a c ns m ∧ ns[ns.length - 1]? = some n ∧ Q (.int n) (Hd H0 a c ns.dropLast m)) :=
  peW (pe_bm0 PySem.F.plainAttrs_list PySem.F.slot_list_pop PySem.F.type_list_pop mt_pop (any_d0 (H0 := H0) (bd := bd) hne x) (by rfl) hl) fun σ H Q ⟨r, ns, m, n, e1, e2, e3, q⟩ => by
    subst e2
    refine ⟨r, ns, m, e1, rfl, trivial, Or.inl ⟨rfl, _, Or.inl (Or.inl Hd_c)⟩, c, ns.map V.int, .int n, rfl, rfl, Hd_c, by rw [List.length_map, List.getElem?_map, e3]; rfl, ?_⟩
    have : (ns.map V.int).dropLast = ns.dropLast.map V.int := by rw [List.map_dropLast]
    rw [this, Hd_updc]
    exact q
/-- rest = int(deal[0].pop()) -/
theorem any_s1 (hne : a ≠ c) (x : AnyX X) (hnd : X.N.Nodup) {e : Expr} {p1 p2 p3 p4 : Pos} (h : PE X e (fun σ H Q => ∃ r ns m n, σ = SA a bd r ∧ H = Hd H0 a c ns m ∧ ns[ns.length - 1]? = some n ∧ Q (.int n) (Hd H0 a c ns.dropLast m))) (hs : isStar e = false) :
    PS X (.Assign [.Name "rest" p1] (.Call (.Name "int" p2) [e] [] p3) p4) (fun D σ H => ∃ r ns m n, σ = SA a bd r ∧ H = Hd H0 a c ns m ∧ ns[ns.length - 1]? = some n ∧ D.nx (SA a bd (some (.int n))) (Hd H0 a c ns.dropLast m)) := by
  refine ⟨fun pins s σ H D I ⟨r, ns, m, n, e1, e2, e3, q⟩ => ?_⟩
  refine (ps_set (i := 2) hnd (by rw [x.N]; rfl) (.inl x.v2) (pe_callTy call_int1 x.gi x.mi (by decide +kernel) (pa_cons h pa_nil (star_cons hs _ _)) (by decide) (by decide) (star_cons hs _ _)) (by rfl) (.inr x.v2)).run pins s σ H D I ?_
  subst e1 e2
  exact ⟨r, ns, m, n, rfl, rfl, e3, .inl ⟨n, rfl, q⟩⟩
/-- deal[0].append(rest // bound) -/
theorem any_s2 (hne : a ≠ c) (x : AnyX X) (h0 : 0 < bd) (hb : bd < 2 ^ 64) {p1 p2 p3 p4 p5 p6 p7 p8 p9 : Pos} {k2 : Nat} (hl : (p4.endLine == p5.line) = true) :
    PS X (.Expr (.Call (.Attribute (.Subscript (.Name "deal" p1) (.Constant (.int 0) k2 p2) p3) "append" p4) [.BinOp (.Name "rest" p6) .FloorDiv (.Name "bound" p7) p8] [] p5) p9) (fun D σ H => ∃ ns m n, σ = SA a bd (some (.int n)) ∧ H = Hd H0 a c ns m ∧ ns.length ≤ 64 ∧ D.nx σ (Hd H0 a c (ns ++ [n / bd]) m)) := by
  refine ⟨fun pins s σ H D I ⟨ns, m, n, e1, e2, e3, q⟩ => ?_⟩
  refine (ps_expr (pe_bm PySem.F.plainAttrs_list PySem.F.slot_list_append PySem.F.type_list_append mt_append (any_d0 (H0 := H0) (bd := bd) hne x) (pa_cons (pe_op op_fdivW (any_rest (H0 := H0) (a := a) (c := c) (bd := bd) x (n := n)) (any_bound (H0 := H0) (a := a) (c := c) (bd := bd) x)) pa_nil) (by rfl) (by rfl) hl) (by rfl)).run pins s σ H D I ?_
  subst e1 e2
  have hz : sizeLine = 16777216 := sizeLine_eq
  refine ⟨_, ns, m, rfl, rfl, trivial, Or.inl ⟨rfl, _, Or.inl (Or.inl Hd_c)⟩, _, ns, m, rfl, rfl, rfl, _, ns, m, rfl, rfl, trivial, n, bd, rfl, rfl, ⟨h0, ?_⟩, c, ns.map V.int, .int (n / bd), rfl, rfl, Hd_c, by rw [List.length_map]; omega, ?_⟩
  · have : bd.natAbs < 2 ^ 64 := by omega
    by_cases hn : bd.natAbs = 0
    · omega
    · have := (Nat.log2_lt hn).mpr this
      omega
  · have : ns.map V.int ++ [V.int (n / bd)] = (ns ++ [n / bd]).map V.int := by simp
    rw [this, Hd_updc]
    exact q
/-- return rest % bound -/
theorem any_s3 (x : AnyX X) (h0 : 0 < bd) {p1 p2 p3 p4 : Pos} : PS X (.Return (some (.BinOp (.Name "rest" p1) .Mod (.Name "bound" p2) p3)) p4) (fun D σ H => ∃ ns m n, σ = SA a bd (some (.int n)) ∧ H = Hd H0 a c ns m ∧ D.rt (.int (n % bd)) H) := by
  refine ⟨fun pins s σ H D I ⟨ns, m, n, e1, e2, q⟩ => ?_⟩
  refine (ps_ret (pe_op op_mod (any_rest (H0 := H0) (a := a) (c := c) (bd := bd) x (n := n)) (any_bound (H0 := H0) (a := a) (c := c) (bd := bd) x))).run pins s σ H D I ?_
  subst e1 e2
  exact ⟨_, ns, m, rfl, rfl, rfl, _, ns, m, rfl, rfl, trivial, n, bd, rfl, rfl, h0, q⟩
/-- deal[1] = int(deal[1] * 48271 + 31) % 2147483647 -/
theorem any_s4 (hne : a ≠ c) (x : AnyX X) {q1 q2 q3 q4 q5 q6 q7 q8 q9 r1 r2 r3 r4 r5 r6 : Pos} {k1 k2 k3 k4 k5 : Nat} :
    PS X (.Assign [.Subscript (.Name "deal" q1) (.Constant (.int 1) k1 q2) q3] (.BinOp (.Call (.Name "int" q4) [.BinOp (.BinOp (.Subscript (.Name "deal" q5) (.Constant (.int 1) k2 q6) q7) .Mult (.Constant (.int 48271) k3 q8) q9) .Add (.Constant (.int 31) k4 r1) r2] [] r3) .Mod (.Constant (.int 2147483647) k5 r4) r5) r6)
      (fun D σ H => ∃ r ns m, σ = SA a bd r ∧ H = Hd H0 a c ns m ∧ (0 ≤ m ∧ m < 2147483648) ∧ D.nx σ (Hd H0 a c ns ((m * 48271 + 31) % 2147483647))) := by
  refine ⟨fun pins s σ H D I ⟨r, ns, m, e1, e2, hm, q⟩ => ?_⟩
  refine (ps_asg (pe_op op_mod (pe_callTy call_int1 x.gi x.mi (by decide +kernel) (pa_cons (pe_op op_add (pe_op op_mulW (any_d1 (H0 := H0) (bd := bd) hne x) pe_int) pe_int) pa_nil)) pe_int) (pg_sub (any_deal (H0 := H0) (a := a) (c := c) (bd := bd) x) pe_int set_list)).run pins s σ H D I ?_
  subst e1 e2
  refine ⟨r, ns, m, rfl, rfl, trivial, m, 48271, rfl, rfl, ?_, _, _, rfl, rfl, .inl ⟨_, rfl, _, _, rfl, rfl, (show (0 : Int) < 2147483647 by decide), r, ns, m, rfl, rfl, trivial, a, [.ref c, .int m], 1, 1, rfl, rfl, Hd_a hne, rfl, ?_⟩⟩
  · show m.natAbs.log2 + (48271 : Int).natAbs.log2 < 1000000
    have h1 : m.natAbs < 2 ^ 32 := by omega
    have h2 : m.natAbs.log2 ≤ 32 := by
      by_cases hn : m.natAbs = 0
      · rw [hn]
        decide
      · exact Nat.le_of_lt ((Nat.log2_lt hn).mpr h1)
    have h3 : (48271 : Int).natAbs.log2 = 15 := by decide +kernel
    omega
  · show D.nx _ (upd (Hd H0 a c ns m) a (.lst [.ref c, .int ((m * 48271 + 31) % 2147483647)]))
    rw [Hd_upda hne]
    exact q
/-- return int(deal[1] // 64) % bound -/
theorem any_s5 (hne : a ≠ c) (x : AnyX X) (h0 : 0 < bd) {q1 q2 q3 q4 q5 q6 q7 q8 q9 : Pos} {k1 k2 : Nat} :
    PS X (.Return (some (.BinOp (.Call (.Name "int" q1) [.BinOp (.Subscript (.Name "deal" q2) (.Constant (.int 1) k1 q3) q4) .FloorDiv (.Constant (.int 64) k2 q5) q6] [] q7) .Mod (.Name "bound" q8) q9)) pos) (fun D σ H => ∃ r ns m, σ = SA a bd r ∧ H = Hd H0 a c ns m ∧ D.rt (.int ((m / 64) % bd)) H) := by
  refine ⟨fun pins s σ H D I ⟨r, ns, m, e1, e2, q⟩ => ?_⟩
  refine (ps_ret (pe_op op_mod (pe_callTy call_int1 x.gi x.mi (by decide +kernel) (pa_cons (pe_op op_fdivW (any_d1 (H0 := H0) (bd := bd) hne x) pe_int) pa_nil)) (any_bound (H0 := H0) (a := a) (c := c) (bd := bd) x))).run pins s σ H D I ?_
  subst e1 e2
  exact ⟨r, ns, m, rfl, rfl, trivial, m, 64, rfl, rfl, ⟨by decide, by decide +kernel⟩, .inl ⟨_, rfl, r, ns, m, rfl, rfl, trivial, _, _, rfl, rfl, h0, q⟩⟩
/-- deal[0].pop() -/
theorem any_s0 (hne : a ≠ c) (x : AnyX X) {p1 p2 p3 p4 p5 p6 : Pos} {k2 : Nat} (hl : (p4.endLine == p5.line) = true) : PS X (.Expr (.Call (.Attribute (.Subscript (.Name "deal" p1) (.Constant (.int 0) k2 p2) p3) "pop" p4) [] [] p5) p6) (fun D σ H => ∃ r ns m n, σ = SA a bd r ∧ H = Hd H0 a c ns m ∧ ns[ns.length - 1]? = some n ∧ D.nx σ (Hd H0 a c ns.dropLast m)) :=
  ⟨fun pins s σ H D I ⟨r, ns, m, n, e1, e2, e3, q⟩ => (ps_expr (any_pop (H0 := H0) (bd := bd) hne x hl) (by rfl)).run pins s σ H D I ⟨r, ns, m, n, e1, e2, e3, q⟩⟩
/-- the draw's body -/
theorem any_body (hne : a ≠ c) (x : AnyX X) (hu : X.A.units + 64 < cLine) (hnd : X.N.Nodup) (h0 : 0 < bd) (hb : bd < 2 ^ 64) : PSs X (anyBody L) (fun D σ H => ∃ r ns m, σ = SA a bd r ∧ H = Hd H0 a c ns m ∧ goodD ns m ∧ ∀ (i : Nat) ns' m', i < bd.toNat → goodD ns' m' → D.rt (.int (i : Nat)) (Hd H0 a c ns' m')) := by
  have hl2 : ∀ n, (L + n == L + n) = true := fun n => by simp
  refine pssW (pss_cons (any_while (H0 := H0) (bd := bd) hne x hu (any_len hne x) (any_last hne x hu) (any_s0 hne x (hl2 _))) (pss_cons (ps_if (any_len (H0 := H0) (bd := bd) hne x) (pss_cons (any_s1 (H0 := H0) (bd := bd) hne x hnd (any_pop hne x (hl2 _)) (by rfl)) (pss_cons (any_s2 (H0 := H0) (bd := bd) hne x h0 hb (hl2 _)) (pss_one (any_s3 (H0 := H0) (a := a) (c := c) (bd := bd) x h0)))) pss_nil) (pss_cons (any_s4 (H0 := H0) (bd := bd) hne x) (pss_one (any_s5 (H0 := H0) (bd := bd) hne x h0))))) ?f
  rintro D σ H ⟨r, ns, m, e1, e2, ⟨g1, g2, g3⟩, q⟩
  refine ⟨r, ns, m, e1, e2, fun ns' ⟨t, ht⟩ => ?_⟩
  have g1' : ∀ n ∈ ns', 0 ≤ n ∧ n.natAbs < 2 ^ 8000 := fun n hn => g1 n (by rw [ht]; exact List.mem_append_left _ hn)
  have g2' : ns'.length ≤ 64 := by
    rw [ht, List.length_append] at g2
    omega
  refine ⟨r, ns', m, e1, rfl, ?_⟩
  by_cases hz : 0 < ns'.length
  · rw [decide_eq_true hz]
    have hn : ns'[ns'.length - 1]? = some ns'[ns'.length - 1] := by simp
    have hm := g1' ns'[ns'.length - 1] (List.getElem_mem _)
    refine iteT ⟨r, ns', m, _, e1, rfl, hn, ns'.dropLast, m, _, rfl, rfl, by rw [List.length_dropLast]; omega, _, m, _, rfl, rfl, ?_⟩
    have e3 := Int.emod_nonneg ns'[ns'.length - 1] (Int.ne_of_gt h0)
    have e4 := Int.emod_lt_of_pos ns'[ns'.length - 1] h0
    have e5 := q (ns'[ns'.length - 1] % bd).toNat (ns'.dropLast ++ [ns'[ns'.length - 1] / bd]) m (by omega) ⟨fun n hn => ?_, by rw [List.length_append, List.length_dropLast]; simp; omega, g3⟩
    · rw [Int.toNat_of_nonneg e3] at e5
      exact e5
    · rcases List.mem_append.mp hn with hn | hn
      · exact g1' n (List.dropLast_subset _ hn)
      · have : n = ns'[ns'.length - 1] / bd := by simpa using hn
        subst this
        have d1 : 0 ≤ ns'[ns'.length - 1] / bd := Int.ediv_nonneg hm.1 (Int.le_of_lt h0)
        have d2 : ns'[ns'.length - 1] / bd ≤ ns'[ns'.length - 1] := Int.ediv_le_self _ hm.1
        exact ⟨d1, by omega⟩
  · rw [decide_eq_false hz]
    refine iteF ⟨r, ns', m, e1, rfl, g3, r, ns', _, e1, rfl, ?_⟩
    have f1 := Int.emod_nonneg (m * 48271 + 31) (show (2147483647 : Int) ≠ 0 by decide)
    have f2 := Int.emod_lt_of_pos (m * 48271 + 31) (show (0 : Int) < 2147483647 by decide)
    have e3 := Int.emod_nonneg ((m * 48271 + 31) % 2147483647 / 64) (Int.ne_of_gt h0)
    have e4 := Int.emod_lt_of_pos ((m * 48271 + 31) % 2147483647 / 64) h0
    have e5 := q ((m * 48271 + 31) % 2147483647 / 64 % bd).toNat ns' ((m * 48271 + 31) % 2147483647) (by omega) ⟨g1', g2', f1, by omega⟩
    rw [Int.toNat_of_nonneg e3] at e5
    exact e5
end
theorem draw_ok {F : Fx} {x qual : Str} {args : Arguments} {scope : Scope} {f : Addr} {fd : FuncData} {k L : Nat} (D0 : FunD F.K x qual args (anyBody L) scope [] [] f fd) (hsc : FnScope [("deal" : Str), ("bound" : Str), ("rest" : Str)] [("deal" : Str), ("bound" : Str)] scope)
    (v0 : scope.names.lookup ("deal" : Str) = some NameKind.local) (v1 : scope.names.lookup ("bound" : Str) = some NameKind.local) (v2 : scope.names.lookup ("rest" : Str) = some NameKind.local) (v3 : scope.names.lookup ("len" : Str) = some NameKind.globalImplicit) (v4 : scope.names.lookup ("int" : Str) = some NameKind.globalImplicit)
    (ml : F.mg "len" = none) (mi : F.mg "int" = none) : FnOk F.P F.w F.K F.mg F.base F.CX (k + 1) f fd [("deal" : Str), ("bound" : Str)] (spM F 2 anyM) := by
  refine D0.ok hsc (fun vs H Q E h => ?_) fun cdv A outer s H vs Q E hr h => ?_
  · obtain ⟨g, Hs, ds, _, _, _, r, hl, _⟩ := h
    rw [← r.length]
    exact hl
  · obtain ⟨g, Hs, ds, sb, dl, go, r, hl, w⟩ := h
    have hx : AnyX (cxOf F.CX F.P F.w F.K F.mg F.base [("deal" : Str), ("bound" : Str), ("rest" : Str)] qual scope f cdv A outer s H E) := ⟨rfl, v0, v1, v2, v3, v4, ml, mi, rfl, PassesOwn.leaving⟩
    unfold anyM at w
    split at w
    · rename_i bd
      split at w
      · rename_i hb
        cases r with
        | cons r1 r =>
          cases r with
          | cons r2 r =>
            cases r
            cases r2
            cases r1 with
            | deal hg =>
              rename_i a c
              subst hg
              obtain ⟨hne, ns, m, ha, hc, g1, g2, g3, g4⟩ := dl
              refine ⟨_, any_body (H0 := H) (a := a) (c := c) (bd := bd) (L := L) hne hx (by have := hr.units; exact this) hsc.nd hb.1 hb.2, none, ns, m, rfl, ?_, ⟨g1, g2, g3, g4⟩, fun i ns' m' hi hg' => ?_⟩
              · funext y
                unfold Hd upd
                by_cases h1 : y = c
                · subst h1
                  simp [hc]
                · by_cases h2 : y = a
                  · subst h2
                    simp [h1, ha]
                  · simp [h1, h2]
              · have wd : Wd ⟨some (a, c), H, Hs⟩ Hs (Hd H a c ns' m') := by
                  have out : ∀ y, y ≠ a → y ≠ c → Hd H a c ns' m' y = H y := fun y h1 h2 => by
                    unfold Hd
                    rw [upd_ne h2, upd_ne h1]
                  refine ⟨fun y o hy => ?_, Sub.refl _, fun y o hy => .inl hy, fun y o ng hy => ?_, ⟨hne, ns', m', Hd_a hne, Hd_c, hg'⟩, go⟩
                  · have h1 : y ≠ a := fun z => by
                      have := go y (.inl z)
                      rw [hy] at this
                      cases this
                    have h2 : y ≠ c := fun z => by
                      have := go y (.inr z)
                      rw [hy] at this
                      cases this
                    rw [out y h1 h2]
                    exact sb y o hy
                  · rw [out y (fun z => ng (.inl z)) fun z => ng (.inr z)]
                    exact hy
                exact w i hi (.int (i : Nat)) Hs _ wd (.int _)
      · exact w.elim
    · exact w.elim
theorem anyM_stuck (ds : List D) (h : ds.length ≠ 2) : anyM ds = .stuck := by
  unfold anyM
  split
  · exact absurd rfl h
  · rfl
end MS

/-! Part 17: a record's __init__. -/
namespace MS
open PySem PySem.Spec PyProof.Rows L2
/-- self.f = f, one behind another -/
inductive InitB : List Str → List Stmt → Prop
  | nil : InitB [] []
  | cons {f : Str} {fs : List Str} {sts : List Stmt} {p p' p2 pos : Pos} (h : InitB fs sts) : InitB (f :: fs) (.Assign [.Attribute (.Name ("self" : Str) p) f p'] (.Name f p2) pos :: sts)
theorem putF_new (f : Str) (v : V) : ∀ {fs : List (Str × V)}, f ∉ fs.map (·.1) → putF f v fs = fs ++ [(f, v)]
  | [], _ => rfl
  | (g, y) :: r, h => by
    have h1 : ¬ g = f := fun z => h (by rw [List.map_cons, z]; exact List.mem_cons_self ..)
    show (if g = f then (g, v) :: r else (g, y) :: putF f v r) = _
    rw [if_neg h1, putF_new f v fun z => h (List.mem_cons_of_mem _ z)]
    rfl
theorem init_walk {X : Cx} {flds : List Str} (hN : X.N = ("self" : Str) :: flds) (hnd : X.N.Nodup) (hsc : ∀ f ∈ X.N, X.env.scope.names.lookup f = some NameKind.local) (hdb : ∀ f ∈ X.N, (f == ("__debug__" : Str)) = false ∧ (f == ("__classdict__" : Str)) = false) {x dx Cl : Addr} {args : List V} (hc : Cls X.K Cl) (hna : ∀ f ∈ flds, NoAttr X.K Cl f) (hl : args.length = flds.length) (h1000 : flds.length < 1000) :
    ∀ {pre rest : List Str} {sts : List Stmt}, flds = pre ++ rest → InitB rest sts → ∃ t, PSs X sts t ∧ ∀ (D : Ends) (H : Hp), H x = some (.ins Cl dx ((flds.zip args).take pre.length)) → D.nx (L2.start X.N (.ref x :: args)) (upd H x (.ins Cl dx (flds.zip args))) → t D (L2.start X.N (.ref x :: args)) H := by
  intro pre rest sts he hib
  induction hib generalizing pre with
  | nil =>
    refine ⟨_, pss_nil, fun D H hx hq => ?_⟩
    have e1 : (flds.zip args).take pre.length = flds.zip args := by
      rw [List.append_nil] at he
      rw [List.take_of_length_le]
      rw [List.length_zip, hl, he]
      simp
    rw [e1] at hx
    have e2 : upd H x (.ins Cl dx (flds.zip args)) = H := by
      funext y
      unfold upd
      split
      · rename_i z
        rw [z, hx]
      · rfl
    rw [e2] at hq
    exact hq
  | cons h ih =>
    rename_i f fs sts _ _ _ _
    obtain ⟨t, ht, hw⟩ := ih (pre := pre ++ [f]) (by rw [he]; simp)
    have hi : X.N[pre.length + 1]? = some f := by
      rw [hN, List.getElem?_cons_succ, he, List.getElem?_append_right (Nat.le_refl _), Nat.sub_self]
      rfl
    have hpl : pre.length < args.length := by
      rw [hl, he, List.length_append, List.length_cons]
      omega
    have hm : f ∈ X.N := List.mem_of_getElem? hi
    have hs : ("self" : Str) ∈ X.N := by rw [hN]; exact List.mem_cons_self ..
    have ha := fun q => pe_var (X := X) (pos := q) (i := 0) (x := ("self" : Str)) (by rw [hN]; rfl) (.inl (hsc _ hs)) (hdb _ hs).1 (hdb _ hs).2
    have hv := fun q => pe_var (X := X) (pos := q) (i := pre.length + 1) (x := f) hi (.inl (hsc _ hm)) (hdb _ hm).1 (hdb _ hm).2
    refine ⟨_, pss_cons (ps_fld (ha _) (hv _) (by rfl)) ht, fun D H hx hq => ?_⟩
    have st0 : (L2.start X.N (.ref x :: args))[0]? = some (some (.ref x)) := by
      unfold L2.start
      rfl
    have st1 : (L2.start X.N (.ref x :: args))[pre.length + 1]? = some (some args[pre.length]) := by
      unfold L2.start
      rw [List.getElem?_append_left (by simp; omega), List.getElem?_map, List.getElem?_cons_succ, List.getElem?_eq_getElem hpl]
      rfl
    have hfl : pre.length < flds.length := by omega
    have hff : flds[pre.length] = f := by
      have := hi
      rw [hN, List.getElem?_cons_succ, List.getElem?_eq_getElem hfl] at this
      exact Option.some.inj this
    have hzl : pre.length < (flds.zip args).length := by
      rw [List.length_zip]
      omega
    have nf : f ∉ ((flds.zip args).take pre.length).map (·.1) := by
      rw [List.map_take, List.map_fst_zip (by omega)]
      rw [he, List.take_left]
      have nd : flds.Nodup := by
        rw [hN] at hnd
        exact (List.nodup_cons.mp hnd).2
      rw [he] at nd
      intro z
      exact (List.nodup_append.mp nd).2.2 f z f (List.mem_cons_self ..) rfl
    have eput : putF f args[pre.length] ((flds.zip args).take pre.length) = (flds.zip args).take (pre.length + 1) := by
      rw [putF_new _ _ nf, List.take_succ_eq_append_getElem hzl]
      congr 1
      rw [List.getElem_zip, hff]
    refine ⟨_, st1, _, st0, x, Cl, dx, _, rfl, hx, hc, hna f (by rw [he]; simp), ?_, hw D _ ?_ ?_⟩
    · rw [List.length_take, List.length_zip]
      omega
    · rw [upd_same, eput, List.length_append]
      rfl
    · rw [upd_upd]
      exact hq
theorem init_ok {F : Fx} {x qual : Str} {args : Arguments} {body : List Stmt} {scope : Scope} {f : Addr} {fd : FuncData} {flds : List Str} (D0 : FunD F.K x qual args body scope [] [] f fd) (hib : InitB flds body) (hsc : FnScope (("self" : Str) :: flds) (("self" : Str) :: flds) scope)
    (hl : ((("self" : Str) :: flds).all fun f => decide (scope.names.lookup f = some NameKind.local) && !(f == ("__debug__" : Str)) && !(f == ("__classdict__" : Str))) = true) (h1000 : flds.length < 1000) : FnOk F.P F.w F.K F.mg F.base F.CX 1 f fd (("self" : Str) :: flds) (spI F.K flds) := by
  rw [List.all_eq_true] at hl
  refine D0.ok (k := 0) hsc (fun vs H Q E h => ?_) fun cdv A outer s H vs Q E hr h => ?_
  · obtain ⟨x, dx, Cl, args, rfl, _, _, _, hl, _⟩ := h
    rw [List.length_cons, List.length_cons, hl]
  · obtain ⟨x, dx, Cl, as, rfl, hH, hc, hna, hlen, hQ⟩ := h
    obtain ⟨t, ht, hw⟩ := init_walk (X := cxOf F.CX F.P F.w F.K F.mg F.base (("self" : Str) :: flds) qual scope f cdv A outer s H E) (flds := flds) rfl hsc.nd (fun f hf => by
      have := hl f hf
      simp only [Bool.and_eq_true, decide_eq_true_eq] at this
      exact this.1.1) (fun f hf => by
      have := hl f hf
      simp only [Bool.and_eq_true, Bool.not_eq_true'] at this
      exact ⟨this.1.2, this.2⟩) (x := x) (dx := dx) hc hna hlen h1000 (pre := []) rfl hib
    exact ⟨t, ht, hw _ H hH hQ⟩
end MS

/-! Part 18: forms for printed derivations. -/
namespace MS
open PySem PySem.Spec PyProof.Rows L2
def un2M {α : Type} (d : D) (k : D → D → T α) : T α := match d with
  | .tup [x, y] => k x y
  | _ => .stuck
def un3M {α : Type} (d : D) (k : D → D → D → T α) : T α := match d with
  | .tup [x, y, z] => k x y z
  | _ => .stuck
theorem un2_none {α : Type} {d : D} (k : D → D → T α) (h : un2 d = none) : un2M d k = .stuck := by
  unfold un2M
  split
  · cases h
  · rfl
theorem un2_some {α : Type} {d : D} {ds : List D} (k : D → D → T α) (h : un2 d = some ds) : ∃ x y, ds = [x, y] ∧ un2M d k = k x y := by
  unfold un2 at h
  split at h
  · cases h
    exact ⟨_, _, rfl, rfl⟩
  · cases h
theorem un3_none {α : Type} {d : D} (k : D → D → D → T α) (h : un3 d = none) : un3M d k = .stuck := by
  unfold un3M
  split
  · cases h
  · rfl
theorem un3_some {α : Type} {d : D} {ds : List D} (k : D → D → D → T α) (h : un3 d = some ds) : ∃ x y z, ds = [x, y, z] ∧ un3M d k = k x y z := by
  unfold un3 at h
  split at h
  · cases h
    exact ⟨_, _, _, rfl, rfl⟩
  · cases h
/-- an argument ahead of the others -/
abbrev consM (m : T D) (ms : T (List D)) : T (List D) := T.bind m fun d => T.bind ms fun ds => .ret (d :: ds)
/-- a comprehension's turn: one item -/
def cE (m : T D) : T (Option D) := m.bind fun y => .ret (some y)
def cI (mc : T Bool) (m : T D) : T (Option D) := mc.bind fun t => bif t then m.bind fun y => .ret (some y) else .ret none
section
variable {F : Fx} {S S' : Sx} {ρ ρ' : DEnv} {e a b c o tg iter elt : Expr} {es : List Expr} {rest body body' sts : List Stmt} {pos pos' p p' apos : Pos} {k0 : Nat} {f x y : Str} {J : Js} {m m' : T D}
/-- what a comprehension's turn is, with its targets -/
structure CompD (F : Fx) (S' : Sx) (ρ : DEnv) (tg : Expr) (ifs : List Expr) (elt : Expr) (js : List Nat) (un : D → Option (List D)) (B : D → T (Option D)) : Prop where
  g : EvG F S' tg js un
  t : TurnOk F S' ρ js un ifs elt B
  st : ∀ d, un d = none → B d = .stuck
theorem cd1 {i : Nat} {me : D → T D} (hg : EvG F S' tg [i] un1) (he : ∀ d, Ev F S' (bindD [i] [d] ρ) elt (me d)) : CompD F S' ρ tg [] elt [i] un1 (fun d => cE (me d)) := ⟨hg, turn_all fun d ds hu => by
  cases hu
  exact he d, fun d h => by cases h⟩
theorem cd1i {i : Nat} {mc : D → T Bool} {me : D → T D} (hg : EvG F S' tg [i] un1) (hc : ∀ d, EvT F S' (bindD [i] [d] ρ) c (mc d)) (he : ∀ d, Ev F S' (bindD [i] [d] ρ) elt (me d)) : CompD F S' ρ tg [c] elt [i] un1 (fun d => cI (mc d) (me d)) := ⟨hg, turn_if (fun d ds hu => by
  cases hu
  exact hc d) fun d ds hu => by
  cases hu
  exact he d, fun d h => by cases h⟩
theorem cd2 {i j : Nat} {me : D → D → T D} (hg : EvG F S' tg [i, j] un2) (he : ∀ x y, Ev F S' (bindD [i, j] [x, y] ρ) elt (me x y)) : CompD F S' ρ tg [] elt [i, j] un2 (fun d => cE (un2M d me)) := ⟨hg, turn_all fun d ds hu => by
  obtain ⟨x, y, h1, h2⟩ := un2_some me hu
  rw [h1, h2]
  exact he x y, fun d h => by
    show (un2M d me).bind _ = _
    rw [un2_none me h]
    rfl⟩
theorem cd2i {i j : Nat} {mc : D → D → T Bool} {me : D → D → T D} (hg : EvG F S' tg [i, j] un2) (hc : ∀ x y, EvT F S' (bindD [i, j] [x, y] ρ) c (mc x y)) (he : ∀ x y, Ev F S' (bindD [i, j] [x, y] ρ) elt (me x y)) : CompD F S' ρ tg [c] elt [i, j] un2 (fun d => cI (un2M d mc) (un2M d me)) := ⟨hg, turn_if (fun d ds hu => by
  obtain ⟨x, y, h1, h2⟩ := un2_some mc hu
  rw [h1, h2]
  exact hc x y) fun d ds hu => by
  obtain ⟨x, y, h1, h2⟩ := un2_some me hu
  rw [h1, h2]
  exact he x y, fun d h => by
    show (un2M d mc).bind _ = _
    rw [un2_none mc h]
    rfl⟩
theorem cd3 {i j l : Nat} {me : D → D → D → T D} (hg : EvG F S' tg [i, j, l] un3) (he : ∀ x y z, Ev F S' (bindD [i, j, l] [x, y, z] ρ) elt (me x y z)) : CompD F S' ρ tg [] elt [i, j, l] un3 (fun d => cE (un3M d me)) := ⟨hg, turn_all fun d ds hu => by
  obtain ⟨x, y, z, h1, h2⟩ := un3_some me hu
  rw [h1, h2]
  exact he x y z, fun d h => by
    show (un3M d me).bind _ = _
    rw [un3_none me h]
    rfl⟩
theorem cd3i {i j l : Nat} {mc : D → D → D → T Bool} {me : D → D → D → T D} (hg : EvG F S' tg [i, j, l] un3) (hc : ∀ x y z, EvT F S' (bindD [i, j, l] [x, y, z] ρ) c (mc x y z)) (he : ∀ x y z, Ev F S' (bindD [i, j, l] [x, y, z] ρ) elt (me x y z)) : CompD F S' ρ tg [c] elt [i, j, l] un3 (fun d => cI (un3M d mc) (un3M d me)) := ⟨hg, turn_if (fun d ds hu => by
  obtain ⟨x, y, z, h1, h2⟩ := un3_some mc hu
  rw [h1, h2]
  exact hc x y z) fun d ds hu => by
  obtain ⟨x, y, z, h1, h2⟩ := un3_some me hu
  rw [h1, h2]
  exact he x y z, fun d h => by
    show (un3M d mc).bind _ = _
    rw [un3_none mc h]
    rfl⟩
theorem comp {scope : Scope} (own : List (Str × Nat)) {js : List Nat} {un : D → Option (List D)} {src : Option Nat} {mi : T (List D)} {B : D → T (Option D)} {GN : List Str} {ifs : List Expr}
    (hi : EvI F S ρ tg iter src mi) (hd : CompD F S' ρ tg ifs elt js un B) (hG : F.G.map (·.1) = GN) (hc : compC GN S S' scope own js = true) (hs : S'.sc = relS scope S.sc := by rfl) (hE : S'.E = E0 := by rfl) (hu : unkC ρ (own.map (·.2)) = true := by rfl) (hsrc : srcOk ρ src = true := by rfl)
    (hf : ∀ (env : Env) x, foldedSetIterable iter env x = pure x := by intros; rfl) : EvL F S ρ (.ListComp elt [⟨tg, iter, ifs, 0⟩] scope pos) (mi.bind (compN B)) := evl_comp hi hd.g hd.t hd.st hG hc hs hE hu hsrc hf
theorem bl_comp (i : Nat) {y : Str} {py spos : Pos} {scope : Scope} (own : List (Str × Nat)) {js : List Nat} {un : D → Option (List D)} {src : Option Nat} {mi : T (List D)} {B : D → T (Option D)} {GN : List Str} {ifs : List Expr} {k : List D → T D}
    (hi : EvI F S ρ tg iter src mi) (hd : CompD F S' ρ tg ifs elt js un B) (hG : F.G.map (·.1) = GN) (hc : compC GN S S' scope own js = true) (hw : swC S.sc scope y py pos = true) (hk : ∀ ds, Bl F S (ρ.set i (some (true, .lst ds))) rest J (k ds)) (hy : S.N[i]? = some y := by rfl) (hs : S'.sc = relS scope S.sc := by rfl) (hE : S'.E = E0 := by rfl) (hu : unkC ρ (own.map (·.2)) = true := by rfl) (hsrc : srcOk ρ src = true := by rfl)
    (hf : ∀ (env : Env) x, foldedSetIterable iter env x = pure x := by intros; rfl) : Bl F S ρ (.Assign [.Name y py] (.ListComp elt [⟨tg, iter, ifs, 0⟩] scope pos) spos :: rest) J ((mi.bind (compN B)).bind k) := bl_setC i hi hd.g hd.t hd.st hG hc hs hE hu hsrc hf hw hy hk
/-- a name that comprehensions capture takes a comprehension -/
theorem sw_cell {elt : Expr} {gs : List Comprehension} {scope : Scope} {pos py : Pos} {y : Str} {l : Nat} {env : Env} {sc : Scope} (he : env.scope = sc) (hy : sc.names.lookup y = some .cell) : swapsWith (.ListComp elt gs scope pos) (some (.Name y py)) l env = pure false := by
  have ky : env.kindOf y = some .cell := by unfold Env.kindOf; rw [he]; exact hy
  have kc : (NameKind.cell == NameKind.local) = false := rfl
  unfold swapsWith
  simp [ky, kc]
theorem bl_compCell (i : Nat) {y : Str} {py spos : Pos} {scope : Scope} {gs : List Comprehension} {ml : T (List D)} {k : List D → T D} (h : EvL F S ρ (.ListComp elt gs scope pos) ml) (hcell : S.sc.names.lookup y = some .cell) (hk : ∀ ds, Bl F S (ρ.set i (some (true, .lst ds))) rest J (k ds)) (hi : S.N[i]? = some y := by rfl) (hv : S.ll.contains i = true := by rfl) :
    Bl F S ρ (.Assign [.Name y py] (.ListComp elt gs scope pos) spos :: rest) J (ml.bind k) := fun X sc en => by
  obtain ⟨h1, h2⟩ := sc.locOk hv hi
  have hr : PSs X rest (fun D σ H => ∃ ds, blR F S.E en J (ρ.set i (some (true, .lst ds))) (k ds) D σ H) := ⟨fun pins s σ H D I ⟨d, h⟩ => (hk d X sc en).run pins s σ H D I h⟩
  refine pssCons (ps_set (by rw [sc.N]; exact sc.nd) (by rw [sc.N]; exact hi) h1 (h X sc en) (sw_cell sc.sc hcell) h2) hr fun D σ H ⟨Hs, Rt, e0, w, r, n, b, c⟩ => ?_
  exact ⟨Hs, [], e0, T.wp_mono (T.wp_bind.mp w) (fun ds w1 a H1 Hs1 e1 s1 => ⟨ds, Hs1, Rt, e1.take i, w1, r, n.later s1, b.later s1, c.later s1⟩) fun _ _ k => k⟩
/-! for, with its targets -/
theorem bl_for1 {St : Type} (inv : St → DEnv) {s0 : St} {i : Nat} {mi : T (List D)} {B : D → St → (St → T D) → (St → T D) → T D} {k : St → T D} (hi : EvI F S ρ tg iter none mi) (hg : EvG F S tg [i] un1) (h0 : Less ρ (inv s0))
    (hb : ∀ d s nxt brk, Bl F S (bindD [i] [d] (inv s)) body ⟨To inv nxt, To inv brk, To inv nxt⟩ (B d s nxt brk)) (hk : ∀ s, Bl F S (inv s) rest J (k s))
    (hf : ∀ (env : Env) x, foldedSetIterable iter env x = pure x := by intros; rfl) : Bl F S ρ (.For tg iter body [] pos :: rest) J (mi.bind fun items => forM B k items s0) :=
  bl_for inv hi hg h0 (fun d ds s nxt brk hu => by cases hu; exact hb d s nxt brk) (fun d s nxt brk h => by cases h) hk hf
theorem bl_for2 {St : Type} (inv : St → DEnv) {s0 : St} {i j : Nat} {mi : T (List D)} {B : D → D → St → (St → T D) → (St → T D) → T D} {k : St → T D} (hi : EvI F S ρ tg iter none mi) (hg : EvG F S tg [i, j] un2) (h0 : Less ρ (inv s0))
    (hb : ∀ x y s nxt brk, Bl F S (bindD [i, j] [x, y] (inv s)) body ⟨To inv nxt, To inv brk, To inv nxt⟩ (B x y s nxt brk)) (hk : ∀ s, Bl F S (inv s) rest J (k s))
    (hf : ∀ (env : Env) x, foldedSetIterable iter env x = pure x := by intros; rfl) : Bl F S ρ (.For tg iter body [] pos :: rest) J (mi.bind fun items => forM (fun d s nxt brk => un2M d fun x y => B x y s nxt brk) k items s0) :=
  bl_for inv hi hg h0 (fun d ds s nxt brk hu => by
    obtain ⟨x, y, h1, h2⟩ := un2_some (fun x y => B x y s nxt brk) hu
    rw [h1, h2]
    exact hb x y s nxt brk) (fun d s nxt brk h => un2_none _ h) hk hf
theorem bl_tgt2 {i j : Nat} {k : D → D → T D} (h : Ev F S ρ e m) (hg : EvG F S tg [i, j] un2) (hk : ∀ x y, Bl F S (bindD [i, j] [x, y] ρ) rest J (k x y))
    (hs : ∀ line env, swapsWithSole [tg] e line env = pure false := by intros; rfl) (hw : ∀ env, swappedStores [tg] e env = pure none := by intros; rfl) (h1 : ∀ env, (assignEach [tg] env).map (·.2) = [assign tg env] := by intros; rfl) : Bl F S ρ (.Assign [tg] e pos :: rest) J (m.bind fun d => un2M d k) :=
  bl_tgt h hg (fun d ds hu => by
    obtain ⟨x, y, h1, h2⟩ := un2_some k hu
    rw [h1, h2]
    exact hk x y) (fun d h => un2_none _ h) hs hw h1
def popB2 (mp : T (D × List D)) (k : D → D → List D → T D) : T D := mp.bind fun q => un2M q.1 fun x y => k x y q.2
theorem bl_tgtP2 {l i j : Nat} {mp : T (D × List D)} {k : D → D → List D → T D} (h : EvQ F S ρ e l mp) (hg : EvG F S tg [i, j] un2) (hk : ∀ x y r, Bl F S (bindD [i, j] [x, y] (ρ.set l (some (true, .lst r)))) rest J (k x y r))
    (hs : ∀ line env, swapsWithSole [tg] e line env = pure false := by intros; rfl) (hw : ∀ env, swappedStores [tg] e env = pure none := by intros; rfl) (h1 : ∀ env, (assignEach [tg] env).map (·.2) = [assign tg env] := by intros; rfl) : Bl F S ρ (.Assign [tg] e pos :: rest) J (popB2 mp k) :=
  bl_tgtP h hg (k := fun d r => un2M d fun x y => k x y r) (fun d ds r hu => by
    obtain ⟨x, y, h1, h2⟩ := un2_some (fun x y => k x y r) hu
    rw [h1, h2]
    exact hk x y r) (fun d r h => un2_none _ h) hs hw h1
/-! the slots as they stand, written out -/
theorem at_ (h : Bl F S ρ sts J m) : Bl F S ρ sts J m := h
theorem atE (h : Ev F S ρ e m) : Ev F S ρ e m := h
theorem atT {mt : T Bool} (h : EvT F S ρ e mt) : EvT F S ρ e mt := h
end
end MS

/-! Part 19: the head's facts. -/
namespace MS
open PySem PySem.Spec PyProof.Rows L2
open He (ga ma fAd Fa DefD Tab eqO eqO_ok ba)
/-- a class of the text, what the kinds of its instances lean on -/
def clsX (K : PySem.W.Frag) (x : Str) : Bool := eqO (PySem.W.findIn K (.ref (ga K x)) "__class__") (some (some (.builtin "object.__class__"))) && (eqO (PySem.W.specialIn K (.builtin "object.__class__") "__get__") (some (some (.builtin "getset_descriptor.__get__"))) &&
  (decide (PySem.W.takesIn K (.builtin "object.__class__") = some true) && decide (PySem.W.mroIn K (ga K x) (.type "object") = some true)))
def kitX (K : PySem.W.Frag) (cl : List Str) : Bool := cl.all fun x => (btys.all fun t => decide (PySem.W.kitOne K (.ref (ga K x)) (.type t) = some false) && decide (PySem.W.kitOne K (.type t) (.ref (ga K x)) = some false)) &&
  cl.all fun y => decide (PySem.W.kitOne K (.ref (ga K y)) (.ref (ga K x)) = some (decide (y = x)))
abbrev Tb : Type := Str × List (Str × Str)
def tabX (K : PySem.W.Frag) (t : Tb) : Bool := He.valsB K (ga K t.1) (t.2.map fun q => (q.1, .glo q.2))
abbrev Xt : Type := Str × List Str × List Str
/-- an exception's class: over Exception, by own classes alone -/
def oexB (K : PySem.W.Frag) (C : Addr) : Bool := (match K.lookup C with
  | some ⟨.type "type", _, .cls cd, sl⟩ => (match cd.mro, sl.toList with
    | .ref C' :: bm, [_, _, _, _, some (.builtin n), _] => C' == C && n == "Exception.__new__" && !cd.hasDel && cd.hasDict && PySem.W.excTail exB bm
    | _, _ => false)
  | _ => false) && (eqO (PySem.W.findIn K (.ref C) "__setattr__") (some (some (.builtin "object.__setattr__"))) && (decide (PySem.W.subIn K (.ref C) (.type "BaseException") = some true) && (decide (PySem.W.typeIn K (.ref C) = some (.type "type")) && PySem.W.keepIn K (.ref C))))
theorem oexB_ok {K : PySem.W.Frag} {C : Addr} (h : oexB K C = true) : OexE K C := by
  obtain ⟨h1, h⟩ := ba h
  obtain ⟨h2, h⟩ := ba h
  obtain ⟨h3, h⟩ := ba h
  obtain ⟨h4, h5⟩ := ba h
  refine ⟨?_, eqO_ok h2, of_decide_eq_true h3, of_decide_eq_true h4, h5⟩
  split at h1
  · rename_i dd cd sl ho
    split at h1
    · rename_i C' bm k0 k1 k2 k3 n k5 hm hs
      simp only [Bool.and_eq_true, beq_iff_eq, Bool.not_eq_true'] at h1
      obtain ⟨⟨⟨⟨rfl, rfl⟩, hdel⟩, hdct⟩, ht⟩ := h1
      obtain ⟨nm, bs, mro, ns, qn, hd, sn, sub, ab, col, del⟩ := cd
      dsimp only at hm hdel hdct
      subst hm hdel hdct
      have hsl : sl = #[k0, k1, k2, k3, some (.builtin "Exception.__new__"), k5] := by
        obtain ⟨l⟩ := sl
        simp only at hs
        rw [hs]
      subst hsl
      exact ⟨nm, qn, ns, bs, bm, sn, sub, ab, col, dd, k0, k1, k2, k3, k5, ho, ht⟩
    · cases h1
  · cases h1
/-- one row: an exception of the text -/
def excX (K : PySem.W.Frag) (ex : List Xt) (p : Xt) : Bool := oexB K (ga K p.1) && (xfB K (ga K p.1) && ((p.2.2.all fun f => eqO (PySem.W.findIn K (.ref (ga K p.1)) f) (some none)) &&
  ((ex.all fun q => decide (PySem.W.exmOne K (.ref (ga K p.1)) (.ref (ga K q.1)) = some (p.2.1.contains q.1))) &&
  (p.2.2.isEmpty || (eqO (PySem.W.findIn K (.ref (ga K p.1)) "__init__") (some (some (.ref (ma K (ga K p.1) "__init__")))) && decide (PySem.W.typeIn K (.ref (ma K (ga K p.1) "__init__")) = some (.type "function")))))))
def allX (cl : List Str) (tb : List Tb) (ex : List Xt) (K : PySem.W.Frag) : Bool := cl.all (clsX K) && (kitX K cl && (tb.all (tabX K) && ex.all (excX K ex)))
def tbs (tb : List Tb) : List Tab := tb.map fun t => (fun K => ga K t.1, t.2.map (·.1))
abbrev AlM : Type := He.AlT × Bool
def obsM (fa : List Fa) (fn : List DefD) (tb : List Tb) (cl : List Str) (ex : List Xt) (K : PySem.W.Frag) : AlM := (He.obsT fa fn (tbs tb) K, allX cl tb ex K)
def valM (fn : List DefD) (tb : List Tb) (w : World) : AlM := (He.valT fn (tbs tb) w, true)
def SaysM (fa : List Fa) (fn : List DefD) (tb : List Tb) (cl : List Str) (ex : List Xt) (w : World) (K : PySem.W.Frag) : Prop := obsM fa fn tb cl ex K = valM fn tb w
def obsMG (n : Nat) (fa : List Fa) (fn : List DefD) (tb : List Tb) (cl : List Str) (ex : List Xt) (g : Addr → Option Obj) : AlM := obsM fa fn tb cl ex (He.frG g (He.asD g n))
def hookM (n : Nat) (fa : List Fa) (fn : List DefD) (tb : List Tb) (cl : List Str) (ex : List Xt) : PySem.W.Hook where
  α := AlM
  obs := fun s => obsMG n fa fn tb cl ex s.heap.get?
  val := fun w => valM fn tb w
  says := fun w h => ∃ K : PySem.W.Frag, K.In h ∧ SaysM fa fn tb cl ex w K
  of := fun _ _ e => ⟨_, He.frG_in, e⟩
  keeps := fun _ _ _ ⟨K, hK, c⟩ k => ⟨K, PySem.W.Frag.In.keeps hK k, c⟩
theorem obsMG_eq {n : Nat} {fa : List Fa} {fn : List DefD} {tb : List Tb} {cl : List Str} {ex : List Xt} {g : Addr → Option Obj} {s : Shared} (h : ∀ a, g a = s.heap.get? a) : obsMG n fa fn tb cl ex g = (hookM n fa fn tb cl ex).obs s := by
  have e : g = s.heap.get? := funext h
  rw [e] <;> rfl
section
variable {fa : List Fa} {fn : List DefD} {tb : List Tb} {cl : List Str} {ex : List Xt} {w : World} {K : PySem.W.Frag}
theorem SaysM.t (c : SaysM fa fn tb cl ex w K) : He.SaysT fa fn (tbs tb) w K := congrArg (fun z : AlM => z.1) c
theorem SaysM.d (c : SaysM fa fn tb cl ex w K) : He.SaysD fa fn K := c.t.d
theorem SaysM.x (c : SaysM fa fn tb cl ex w K) : allX cl tb ex K = true := congrArg (fun z : AlM => z.2) c
theorem SaysM.fact (c : SaysM fa fn tb cl ex w K) (f : Fa) (h : f ∈ fa) : f.ok K = true := by
  have c1 := (ba (show ((fa.all fun f => f.ok K) && fn.all fun d => d.ok K) = true from congrArg (fun z : He.AlD => z.1) c.d)).1
  exact List.all_eq_true.mp c1 f h
theorem SaysM.cls (c : SaysM fa fn tb cl ex w K) {x : Str} (h : x ∈ cl) : clsX K x = true := List.all_eq_true.mp (ba c.x).1 x h
theorem SaysM.kit (c : SaysM fa fn tb cl ex w K) : kitX K cl = true := (ba (ba c.x).2).1
theorem SaysM.tabV (c : SaysM fa fn tb cl ex w K) {t : Tb} (h : t ∈ tb) : tabX K t = true := List.all_eq_true.mp (ba (ba (ba c.x).2).2).1 t h
theorem SaysM.exc (c : SaysM fa fn tb cl ex w K) {p : Xt} (h : p ∈ ex) : excX K ex p = true := List.all_eq_true.mp (ba (ba (ba c.x).2).2).2 p h
theorem SaysM.tabK (c : SaysM fa fn tb cl ex w K) {t : Tb} (h : t ∈ tb) : He.dicW K (ga K t.1) = some (He.keysIn w.params (t.2.map (·.1))) := by
  have e : (tbs tb).map (fun t => He.dicW K (t.1 K)) = (tbs tb).map fun t => some (He.keysIn w.params t.2) := congrArg (fun z : He.AlT => z.2) c.t
  obtain ⟨i, hi⟩ := List.getElem?_of_mem h
  have e2 : ((tbs tb).map fun t => He.dicW K (t.1 K))[i]? = ((tbs tb).map fun t => some (He.keysIn w.params t.2))[i]? := by rw [e]
  unfold tbs at e2
  simp only [List.map_map, List.getElem?_map, hi, Option.map_some, Function.comp] at e2
  exact Option.some.inj e2
end
/-! ### the facts of the names -/
section
variable {F : Fx} {h : Heap}
theorem kit0_ok {w : World} {fa : List Fa} {fn : List DefD} {tb : List Tb} {cl : List Str} {ex : List Xt} (c : SaysM fa fn tb cl ex w F.K) (hc : F.clss = cl) (hg : ∀ x ∈ cl, F.mg x = some (.ref (ga F.K x))) : KitOk0 F := by
  have k := c.kit
  unfold kitX at k
  rw [List.all_eq_true] at k
  intro x hx Cl hm
  rw [hc] at hx
  have e := (hg x hx).symm.trans hm
  cases e
  obtain ⟨k1, k2⟩ := ba (k x hx)
  refine ⟨fun t ht => ?_, fun y hy Cl' hm' => ?_⟩
  · rw [List.all_eq_true] at k1
    obtain ⟨q1, q2⟩ := ba (k1 t ht)
    exact ⟨of_decide_eq_true q1, of_decide_eq_true q2⟩
  · rw [hc] at hy
    have e := (hg y hy).symm.trans hm'
    cases e
    rw [List.all_eq_true] at k2
    exact of_decide_eq_true (k2 y hy)
theorem exs_ok {w : World} {fa : List Fa} {fn : List DefD} {tb : List Tb} {cl : List Str} {ex : List Xt} (c : SaysM fa fn tb cl ex w F.K) (he : F.exs = ex) (hg : ∀ p ∈ ex, F.mg p.1 = some (.ref (ga F.K p.1))) : ExOk F := by
  intro p hp C hC
  rw [he] at hp
  have k := c.exc hp
  have e := (hg p hp).symm.trans hC
  cases e
  obtain ⟨k1, k⟩ := ba k
  obtain ⟨k2, k⟩ := ba k
  obtain ⟨k3, k⟩ := ba k
  obtain ⟨k4, k5⟩ := ba k
  refine ⟨⟨xfB_ok k2, fun f hf => eqO_ok (List.all_eq_true.mp k3 f hf)⟩, fun q hq D hD => ?_⟩
  rw [he] at hq
  have e := (hg q hq).symm.trans hD
  cases e
  exact of_decide_eq_true (List.all_eq_true.mp k4 q hq)
theorem kit_ok {w : World} {fa : List Fa} {fn : List DefD} {tb : List Tb} {cl : List Str} {ex : List Xt} (c : SaysM fa fn tb cl ex w F.K) (hc : F.clss = cl) (he : F.exs = ex) (hg : ∀ x ∈ cl, F.mg x = some (.ref (ga F.K x))) (hx : ∀ p ∈ ex, F.mg p.1 = some (.ref (ga F.K p.1))) : KitOk F := ⟨kit0_ok c hc hg, exs_ok c he hx⟩
theorem ge_exc {w : World} {fa : List Fa} {fn : List DefD} {tb : List Tb} {cl : List Str} {ex : List Xt} {p : Xt} {fd : FuncData} (c : SaysM fa fn tb cl ex w F.K) (hp : p ∈ ex) (hg : F.mg p.1 = some (.ref (ga F.K p.1))) (hne : p.2.2.isEmpty = false) (hl : p.2.2.length ≤ 900)
    (ok : FnOk F.P F.w F.K F.mg F.base F.CX 1 (ma F.K (ga F.K p.1) "__init__") fd (("self" : Str) :: p.2.2) (spX F.K p.2.2)) (b : Binds F.K fd (("self" : Str) :: p.2.2) []) : GEok F p.1 (.exc p.2.2) := by
  have k := c.exc hp
  obtain ⟨k1, k⟩ := ba k
  obtain ⟨k2, k⟩ := ba k
  obtain ⟨k3, k⟩ := ba k
  obtain ⟨k4, k5⟩ := ba k
  rw [hne, Bool.false_or] at k5
  obtain ⟨k6, k7⟩ := ba k5
  exact ⟨ga F.K p.1, _, fd, hg, oexB_ok k1, eqO_ok k6, of_decide_eq_true k7, ok, b, fun f hf => eqO_ok (List.all_eq_true.mp k3 f hf), hl⟩
theorem clsF_ok {w : World} {fa : List Fa} {fn : List DefD} {tb : List Tb} {cl : List Str} {ex : List Xt} {x : Str} {flds : List Str} (c : SaysM fa fn tb cl ex w F.K) (hc : F.clss = cl) (hx : x ∈ cl) (hg : F.mg x = some (.ref (ga F.K x))) (h1 : Fa.cls x ∈ fa) (h2 : ∀ f ∈ flds, Fa.noat x f ∈ fa) : ClsF F.C x (ga F.K x) flds := by
  have k := c.cls hx
  unfold clsX at k
  obtain ⟨k1, k⟩ := ba k
  obtain ⟨k2, k⟩ := ba k
  obtain ⟨k3, k4⟩ := ba k
  exact ⟨hg, by show x ∈ F.clss; rw [hc]; exact hx, He.cls_ok (c.fact _ h1), fun f hf => He.noat_ok (c.fact _ (h2 f hf)), eqO_ok k1, eqO_ok k2, of_decide_eq_true k3, of_decide_eq_true k4⟩
theorem ge_int {x : Str} {i : Int} (h : ∃ t, F.mg x = some (.int i t)) : GEok F x (.con (.int i)) := by
  obtain ⟨t, h⟩ := h
  exact ⟨.int i, _, h, ⟨t, rfl⟩, fun g Hs => .int i⟩
theorem ge_str {x z : Str} (h : ∃ t, F.mg x = some (.str z t)) : GEok F x (.con (.str z)) := by
  obtain ⟨t, h⟩ := h
  exact ⟨.str z, _, h, ⟨t, rfl⟩, fun g Hs => .str z⟩
theorem keys_none {P : Params} : ∀ {l : List DictEntry} {ks : List Str} {z : Str}, l.map He.keyOf = He.keysIn P ks → z ∉ ks → l.find? (·.key.isStr z) = none ∧ l.any (·.refKey) = false
  | [], _, _, _, _ => ⟨rfl, rfl⟩
  | e :: r, [], z, h, _ => by cases h
  | e :: r, k :: ks, z, h, hz => by
    have h1 : He.keyOf e :: r.map He.keyOf = some (k, PyData.keyHash P k) :: He.keysIn P ks := h
    injection h1 with h2 h3
    obtain ⟨q1, q2⟩ := keys_none h3 fun m => hz (List.mem_cons_of_mem _ m)
    have ek : ∃ t, e.key = .str k t := by
      unfold He.keyOf at h2
      split at h2
      · rename_i x t q
        have h4 := (Prod.mk.inj (Option.some.inj h2)).1
        exact ⟨t, by rw [q, h4]⟩
      · cases h2
    obtain ⟨t, ek⟩ := ek
    have hk : ¬ k = z := fun m => hz (by rw [← m]; exact List.mem_cons_self ..)
    refine ⟨?_, ?_⟩
    · rw [List.find?_cons, ek]
      have : (Value.str k t).isStr z = false := by
        simp [Value.isStr, hk]
      rw [this]
      exact q1
    · rw [List.any_cons, q2, Bool.or_false]
      unfold DictEntry.refKey
      rw [ek]
theorem look_mem {α : Type} {z : Str} {y : α} : ∀ {l : List (Str × α)}, l.lookup z = some y → (z, y) ∈ l
  | [], h => by cases h
  | q :: r, h => by
    rw [List.lookup_cons] at h
    cases e : z == q.1 with
    | true =>
      rw [e] at h
      cases h
      have : z = q.1 := eq_of_beq e
      rw [this]
      exact List.mem_cons_self ..
    | false =>
      rw [e] at h
      exact List.mem_cons_of_mem _ (look_mem h)
theorem look_none {α : Type} {z : Str} : ∀ {l : List (Str × α)}, l.lookup z = none → z ∉ l.map (·.1)
  | [], h => by simp
  | q :: r, h => by
    rw [List.lookup_cons] at h
    cases e : z == q.1 with
    | true => rw [e] at h; cases h
    | false =>
      rw [e] at h
      intro m
      rcases List.mem_cons.mp m with m | m
      · rw [m] at e
        simp at e
      · exact look_none h m
theorem ge_tab {fa : List Fa} {fn : List DefD} {tb : List Tb} {cl : List Str} {ex : List Xt} {x : Str} {kvs : List (Str × Str)} (c : SaysM fa fn tb cl ex F.w F.K) (ht : (x, kvs) ∈ tb) (hg : F.mg x = some (.ref (ga F.K x))) (hv : ∀ q ∈ kvs, F.mg q.2 = some (.ref (ga F.K q.2))) : GEok F x (.tab kvs) := by
  have hk := c.tabK ht
  have hvv := c.tabV ht
  obtain ⟨es, n, D0⟩ := He.dicW_ok hk
  refine ⟨ga F.K x, es, n, hg, D0, fun z => ?_⟩
  split
  · rename_i y hy
    have hm : (z, y) ∈ kvs := look_mem hy
    obtain ⟨u, e1, e2⟩ := He.valsB_ok hvv (q := (z, .glo y)) (List.mem_map.mpr ⟨(z, y), hm, rfl⟩)
    have e3 : u = .ref (ga F.K y) := e2
    subst e3
    exact ⟨ga F.K y, hv _ hm, e1⟩
  · rename_i hy
    have hz : z ∉ kvs.map (·.1) := look_none hy
    have hk2 := hk
    unfold He.dicW at hk2
    rw [D0.at_] at hk2
    have hl := D0.low
    simp [hl] at hk2
    obtain ⟨f1, f2⟩ := keys_none hk2 hz
    unfold PySem.W.nsIn
    rw [D0.at_]
    show (match es.toList.find? (·.key.isStr z) with
      | some e => some (some e.val)
      | none => if es.toList.any (·.refKey) then none else some none) = some none
    rw [f1, f2]
    rfl
theorem kwB_of {K : PySem.W.Frag} {x qual : Str} {params : Arguments} {body : List Stmt} {scope : Scope} {kws : List (Str × V)} {f : Addr} {fd : FuncData} {ps ks : List Str} {pm : List Nat} (D0 : FunD K x qual params body scope [] kws f fd)
    (h : ∀ (kV doc pm' : Value) (an : Option Addr) (cdv ct : Value) (ws : List Value), ws.length = ks.length → bindArgs (PySem.W.fnOf x qual params body scope .none kV doc pm' an cdv ct) ⟨[], ks.zip ws⟩ = pure (ps.zip (pm.map fun i => ws.getD i .none))) : KwB K fd ps ks pm := by
  obtain ⟨oc, od, dV, kV, doc, pm', an, cdv, ct, osl, rfl, lk, hcd, hD, hK⟩ := D0.ex
  rcases hD with ⟨_, rfl⟩ | ⟨e, _⟩
  · exact fun s ws _ hl => .of_eq (h kV doc pm' an cdv ct ws hl)
  · exact absurd rfl e
theorem kbn_of {K : PySem.W.Frag} {x qual : Str} {params : Arguments} {body : List Stmt} {scope : Scope} {kws : List (Str × V)} {f : Addr} {fd : FuncData} {ps ks : List Str} (D0 : FunD K x qual params body scope [] kws f fd)
    (h : ∀ (kV doc pm' : Value) (an : Option Addr) (cdv ct : Value) (us ws : List Value), us.length = 1 → ws.length = ks.length → bindArgs (PySem.W.fnOf x qual params body scope .none kV doc pm' an cdv ct) ⟨us, ks.zip ws⟩ = pure (ps.zip (us ++ ws))) : KBn K fd ps 1 ks (fun us ws => us ++ ws) (fun vs zs => vs ++ zs) := by
  obtain ⟨oc, od, dV, kV, doc, pm', an, cdv, ct, osl, rfl, lk, hcd, hD, hK⟩ := D0.ex
  rcases hD with ⟨_, rfl⟩ | ⟨e, _⟩
  · exact ⟨fun s us ws _ h1 h2 => .of_eq (h kV doc pm' an cdv ct us ws h1 h2), fun r1 r2 => r1.append r2⟩
  · exact absurd rfl e
end
end MS

/-! Part 20: plain rules for mirrors. -/
namespace MS
open PySem PySem.Spec PyProof.Rows L2
/-- ends well, no exception (a box of its own: no goal is looked through) -/
structure T.ok {α : Type} (m : T α) (Q : α → Prop) : Prop where
  of : m.wp Q (fun _ _ => False)
section
variable {α β : Type}
theorem ok_ret {a : α} {Q : α → Prop} (h : Q a) : (T.ret a).ok Q := ⟨h⟩
theorem ok_bind {m : T α} {f : α → T β} {Q : β → Prop} (h : m.ok fun a => (f a).ok Q) : (m.bind f).ok Q := ⟨T.wp_bind.mpr (T.wp_mono h.of (fun _ x => x.of) fun _ _ z => z)⟩
theorem ok_mono {m : T α} {Q Q' : α → Prop} (h : m.ok Q) (i : ∀ a, Q a → Q' a) : m.ok Q' := ⟨T.wp_mono h.of i fun _ _ z => z⟩
theorem ok_eq {m : T α} {a : α} {Q : α → Prop} (e : m = .ret a) (h : Q a) : m.ok Q := by rw [e]; exact ⟨h⟩
theorem ok_bindE {m : T α} {a : α} {f : α → T β} {Q : β → Prop} (e : m = .ret a) (h : (f a).ok Q) : (m.bind f).ok Q := by rw [e]; exact h
theorem ok_draw {n : Nat} {k : Nat → T α} {Q : α → Prop} (h : ∀ i, i < n → (k i).ok Q) : (T.draw n k).ok Q := ⟨fun i hi => (h i hi).of⟩
theorem bind_eq {m : T α} {a : α} {f : α → T β} (e : m = .ret a) : m.bind f = f a := by rw [e]; rfl
theorem ok_noX {m : T α} {Q : α → Prop} (h : m.ok Q) : m.noX.ok Q := by
  induction m with
  | ret a => exact h
  | exc c fs => exact ⟨h.of⟩
  | stuck => exact h
  | draw n k ih => exact ⟨fun i hi => (ih i ⟨h.of i hi⟩).of⟩
theorem noX_ret (a : α) : (T.ret a).noX = .ret a := rfl
theorem ok_and {m : T α} {Q Q' : α → Prop} (h : m.ok Q) (h' : m.ok Q') : m.ok fun a => Q a ∧ Q' a := by
  induction m with
  | ret a => exact ⟨h.of, h'.of⟩
  | exc c fs => exact ⟨h.of⟩
  | stuck => exact ⟨h.of⟩
  | draw n k ih => exact ⟨fun i hi => (ih i ⟨h.of i hi⟩ ⟨h'.of i hi⟩).of⟩
end
theorem ok_consM {m : T D} {ms : T (List D)} {Q : List D → Prop} (h : m.ok fun d => ms.ok fun ds => Q (d :: ds)) : (consM m ms).ok Q := ok_bind (ok_mono h fun d hd => ok_bind (ok_mono hd fun ds h => ok_ret h))
/-! comprehensions -/
theorem compM_ret {B : D → T (Option D)} {g : D → Option D} : ∀ {items : List D}, (∀ d ∈ items, B d = .ret (g d)) → compM B items = .ret (items.filterMap g)
  | [], _ => rfl
  | d :: ds, h => by
    show (B d).bind _ = _
    rw [h d (List.mem_cons_self ..), T.bind_ret, compM_ret fun x hx => h x (List.mem_cons_of_mem _ hx), T.bind_ret]
    congr 1
    cases q : g d with
    | none => rw [List.filterMap_cons_none q]; rfl
    | some y => rw [List.filterMap_cons_some q]; rfl
theorem compN_ret {B : D → T (Option D)} {items : List D} (g : D → Option D) (hz : items.length ≤ sizeLine) (h : ∀ d ∈ items, B d = .ret (g d)) : compN B items = .ret (items.filterMap g) := by
  unfold compN
  rw [if_pos hz]
  exact compM_ret fun d hd => by rw [h d hd]; rfl
theorem filterMap_some {α β : Type} {f : α → β} (l : List α) : l.filterMap (fun a => some (f a)) = l.map f := congrFun List.filterMap_eq_map l
theorem compN_map {B : D → T (Option D)} {items : List D} (g : D → D) (hz : items.length ≤ sizeLine) (h : ∀ d ∈ items, B d = .ret (some (g d))) : compN B items = .ret (items.map g) := by
  rw [compN_ret (fun d => some (g d)) hz h, filterMap_some]
theorem compM_ok {B : D → T (Option D)} {A : D → Prop} : ∀ {items : List D}, (∀ d ∈ items, (B d).ok fun o => ∀ y, o = some y → A y) → (compM B items).ok fun l => (∀ y ∈ l, A y) ∧ l.length ≤ items.length
  | [], _ => ok_ret ⟨fun y hy => (nomatch hy), Nat.le_refl _⟩
  | d :: ds, h => ok_bind (ok_mono (h d (List.mem_cons_self ..)) fun o ho => ok_bind (ok_mono (compM_ok fun x hx => h x (List.mem_cons_of_mem _ hx)) fun r hr => by
    refine ok_ret ⟨fun y hy => ?_, ?_⟩
    · rcases List.mem_append.mp hy with hy | hy
      · cases o with
        | none => cases hy
        | some z =>
          have : y = z := by simpa using hy
          rw [this]
          exact ho z rfl
      · exact hr.1 y hy
    · have := hr.2
      cases o with
      | none => simp; omega
      | some z => simp; omega))
/-- each item does so -/
theorem compN_ok {B : D → T (Option D)} {items : List D} (A : D → Prop) (hz : items.length ≤ sizeLine) (h : ∀ d ∈ items, (B d).ok fun o => ∀ y, o = some y → A y) : (compN B items).ok fun l => (∀ y ∈ l, A y) ∧ l.length ≤ items.length := by
  unfold compN
  rw [if_pos hz]
  exact compM_ok fun d hd => ok_noX (h d hd)
theorem compM_okE {B : D → T (Option D)} {A : D → Prop} : ∀ {items : List D}, (∀ d ∈ items, (B d).ok fun o => ∃ y, o = some y ∧ A y) → (compM B items).ok fun l => (∀ y ∈ l, A y) ∧ l.length = items.length
  | [], _ => ok_ret ⟨fun y hy => (nomatch hy), rfl⟩
  | d :: ds, h => ok_bind (ok_mono (h d (List.mem_cons_self ..)) fun o ho => ok_bind (ok_mono (compM_okE fun x hx => h x (List.mem_cons_of_mem _ hx)) fun r hr => by
    obtain ⟨z, rfl, hz⟩ := ho
    refine ok_ret ⟨fun y hy => ?_, ?_⟩
    · rcases List.mem_append.mp hy with hy | hy
      · have : y = z := by simpa using hy
        rw [this]
        exact hz
      · exact hr.1 y hy
    · have := hr.2
      simp
      omega))
theorem compN_okE {B : D → T (Option D)} {items : List D} (A : D → Prop) (hz : items.length ≤ sizeLine) (h : ∀ d ∈ items, (B d).ok fun o => ∃ y, o = some y ∧ A y) : (compN B items).ok fun l => (∀ y ∈ l, A y) ∧ l.length = items.length := by
  unfold compN
  rw [if_pos hz]
  exact compM_okE fun d hd => ok_noX (ok_mono (h d hd) fun o h => h)
theorem cE_ret {m : T D} {y : D} (h : m = .ret y) : cE m = .ret (some y) := by rw [h]; rfl
theorem cI_ret {mc : T Bool} {m : T D} {b : Bool} {y : D} (h : mc = .ret b) (hm : b = true → m = .ret y) : cI mc m = .ret (if b then some y else none) := by
  rw [h]
  cases b with
  | true => rw [hm rfl]; rfl
  | false => rfl
/-! loops -/
theorem forM_fold {St : Type} {B : D → St → (St → T D) → (St → T D) → T D} {k : St → T D} (f : D → St → St) (P : St → Prop) : ∀ {items : List D}, (∀ d ∈ items, ∀ s, P s → P (f d s) ∧ ∀ nx bk, B d s nx bk = nx (f d s)) → ∀ s, P s → forM B k items s = k (items.foldl (fun s d => f d s) s) ∧ P (items.foldl (fun s d => f d s) s)
  | [], _, s, hs => ⟨rfl, hs⟩
  | d :: ds, h, s, hs => by
    obtain ⟨h1, h2⟩ := h d (List.mem_cons_self ..) s hs
    obtain ⟨h3, h4⟩ := forM_fold f P (items := ds) (fun x hx => h x (List.mem_cons_of_mem _ hx)) (f d s) h1
    refine ⟨?_, h4⟩
    show B d s _ k = _
    rw [h2]
    exact h3
/-- by an invariant over what is still to be walked -/
theorem forM_ok {St : Type} {B : D → St → (St → T D) → (St → T D) → T D} {k : St → T D} {Q : D → Prop} (P : Nat → St → Prop) : ∀ {items : List D} (i : Nat), (∀ j d, items[j]? = some d → ∀ s, P (i + j) s → ∀ nx, (∀ s', P (i + j + 1) s' → (nx s').ok Q) → (B d s nx k).ok Q) → (∀ s, P (i + items.length) s → (k s).ok Q) → ∀ s, P i s → (forM B k items s).ok Q
  | [], i, _, hk, s, hs => hk s hs
  | d :: ds, i, h, hk, s, hs => by
    show (B d s _ k).ok Q
    refine h 0 d rfl s hs _ fun s' hs' => ?_
    refine forM_ok P (items := ds) (i + 1) (fun j x hx s2 p2 nx hnx => ?_) (fun s2 p2 => hk s2 ?_) s' hs'
    · have e1 : i + 1 + j = i + (j + 1) := by omega
      rw [e1] at p2 hnx
      exact h (j + 1) x hx s2 p2 nx hnx
    · have e1 : i + (d :: ds).length = i + 1 + ds.length := by rw [List.length_cons]; omega
      rw [e1]
      exact p2
theorem sizeLine_val : sizeLine = 16777216 := sizeLine_eq
theorem and_true {m m2 x : T D} (e : m = .ret (.bl true)) : (T.bind m fun d => T.bind (asBool d) fun t => cond t m2 x) = m2 := by rw [e]; rfl
theorem and_false {m m2 x : T D} (e : m = .ret (.bl false)) : (T.bind m fun d => T.bind (asBool d) fun t => cond t m2 x) = x := by rw [e]; rfl
theorem if_true' {α : Type} {m : T Bool} {a b : T α} (e : m = .ret true) : (T.bind m fun t => cond t a b) = a := by rw [e]; rfl
theorem if_false' {α : Type} {m : T Bool} {a b : T α} (e : m = .ret false) : (T.bind m fun t => cond t a b) = b := by rw [e]; rfl
/-! data that may be compared -/
inductive Fine : Nat → D → Prop
  | non {n : Nat} : Fine n .non
  | bl {n : Nat} (b : Bool) : Fine n (.bl b)
  | int {n : Nat} (i : Int) : Fine n (.int i)
  | str {n : Nat} (x : Str) (h : PyData.strOk x = true) : Fine n (.str x)
  | tup {n : Nat} {l : List D} (h : ∀ x ∈ l, Fine n x) (z : l.length ≤ sizeLine) : Fine (n + 1) (.tup l)
  | lst {n : Nat} {l : List D} (h : ∀ x ∈ l, Fine n x) (z : l.length ≤ sizeLine) : Fine (n + 1) (.lst l)
theorem Fine.mono {n m : Nat} {d : D} (h : Fine n d) : n ≤ m → Fine m d := by
  induction h generalizing m with
  | non => exact fun _ => .non
  | bl b => exact fun _ => .bl b
  | int i => exact fun _ => .int i
  | str x h => exact fun _ => .str x h
  | tup h z ih =>
    intro hm
    obtain ⟨k, rfl⟩ : ∃ k, m = k + 1 := ⟨m - 1, by omega⟩
    exact .tup (fun x hx => ih x hx (by omega)) z
  | lst h z ih =>
    intro hm
    obtain ⟨k, rfl⟩ : ∃ k, m = k + 1 := ⟨m - 1, by omega⟩
    exact .lst (fun x hx => ih x hx (by omega)) z
theorem fine_all {n : Nat} : ∀ {l : List D}, (∀ x ∈ l, isData x = true ∧ (toP x).canLay0 = true ∧ (toP x).depth ≤ n) → isDatas l = true ∧ PyData.canLayAll0 (toPs l) = true ∧ PyData.depthAll (toPs l) ≤ n
  | [], _ => ⟨rfl, by simp [toPs, PyData.canLayAll0], by simp [toPs, PyData.depthAll]⟩
  | d :: ds, h => by
    obtain ⟨a1, a2, a3⟩ := h d (List.mem_cons_self ..)
    obtain ⟨b1, b2, b3⟩ := fine_all fun x hx => h x (List.mem_cons_of_mem _ hx)
    refine ⟨?_, ?_, ?_⟩
    · show (isData d && isDatas ds) = true
      rw [a1, b1]
      rfl
    · simp [toPs, PyData.canLayAll0, a2, b2]
    · simp [toPs, PyData.depthAll]
      omega
theorem toPs_length : ∀ l : List D, (toPs l).length = l.length
  | [] => rfl
  | _ :: l => by
    show (toPs l).length + 1 = l.length + 1
    rw [toPs_length l]
theorem fine_data {n : Nat} {d : D} (h : Fine n d) : isData d = true ∧ (toP d).canLay0 = true ∧ (toP d).depth ≤ n := by
  induction h with
  | non => exact ⟨rfl, by simp [toP, PyData.canLay0], by simp [toP, PyData.depth]⟩
  | bl b => exact ⟨rfl, by simp [toP, PyData.canLay0], by simp [toP, PyData.depth]⟩
  | int i => exact ⟨rfl, by simp [toP, PyData.canLay0], by simp [toP, PyData.depth]⟩
  | str x h => exact ⟨rfl, by simp [toP, PyData.canLay0, h], by simp [toP, PyData.depth]⟩
  | tup h z ih =>
    obtain ⟨b1, b2, b3⟩ := fine_all ih
    exact ⟨b1, by simp [toP, PyData.canLay0, b2, toPs_length, z], by simp [toP, PyData.depth, b3]⟩
  | lst h z ih =>
    obtain ⟨b1, b2, b3⟩ := fine_all ih
    exact ⟨b1, by simp [toP, PyData.canLay0, b2, toPs_length, z], by simp [toP, PyData.depth, b3]⟩
theorem okD_fine {n : Nat} {d : D} (h : Fine n d) (hn : n ≤ 64) : okD d = true := by
  obtain ⟨a1, a2, a3⟩ := fine_data h
  unfold okD SeqAt.shaped
  rw [a1, a2, decide_eq_true (by omega)]
  rfl
theorem eqD_int (i j : Int) : eqD (.int i) (.int j) = decide (i = j) := by
  show (i == j) = _
  rw [Bool.eq_iff_iff]
  simp
theorem eqD_nil (l : List D) : eqD (.lst l) (.lst []) = l.isEmpty := by
  cases l with
  | nil => rfl
  | cons d ds => rfl
theorem eqD_nilT (l : List D) : eqD (.tup l) (.tup []) = l.isEmpty := by
  cases l with
  | nil => rfl
  | cons d ds => rfl
/-- [..] == [] -/
theorem eq_nil {n : Nat} {l : List D} (h : Fine n (.lst l)) (hn : n ≤ 64) : cmpM .Eq (.lst l) (.lst []) = .ret (.bl l.isEmpty) := by
  show eqM _ _ = _
  unfold eqM
  rw [okD_fine h hn, okD_fine (Fine.lst (n := 0) (l := []) (by simp) (by simp)) (by omega), eqD_nil]
  rfl
theorem ne_nil {n : Nat} {l : List D} (h : Fine n (.lst l)) (hn : n ≤ 64) : cmpM .NotEq (.lst l) (.lst []) = .ret (.bl (!l.isEmpty)) := by
  show neM _ _ = _
  unfold neM
  rw [okD_fine h hn, okD_fine (Fine.lst (n := 0) (l := []) (by simp) (by simp)) (by omega), eqD_nil]
  rfl
/-- whole numbers in a row -/
abbrev L (l : List Nat) : List D := l.map fun n => D.int (n : Nat)
theorem fine_L (l : List Nat) : ∀ x ∈ L l, Fine 0 x := fun x hx => by
  obtain ⟨n, _, rfl⟩ := List.mem_map.mp hx
  exact .int _
theorem any_L (l : List Nat) (n : Nat) : ((L l).any fun z => eqD z (.int (n : Nat))) = decide (n ∈ l) := by
  rw [Bool.eq_iff_iff]
  simp only [List.any_eq_true, decide_eq_true_eq]
  constructor
  · rintro ⟨x, hx, h⟩
    obtain ⟨m, hm, rfl⟩ := List.mem_map.mp hx
    rw [eqD_int, decide_eq_true_eq] at h
    have : m = n := by omega
    rwa [← this]
  · intro h
    exact ⟨_, List.mem_map.mpr ⟨n, h, rfl⟩, by rw [eqD_int]; simp⟩
theorem in_L {l : List Nat} (n : Nat) (hz : l.length ≤ sizeLine) : cmpM .In (.int (n : Nat)) (.tup (L l)) = .ret (.bl (decide (n ∈ l))) := by
  have hb : (okD (.int (n : Nat)) && okD (.tup (L l))) = true := by
    rw [okD_fine (Fine.int (n := 0) _) (by omega), okD_fine (Fine.tup (n := 0) (fine_L l) (by simpa using hz)) (by omega)]
    rfl
  have e : cmpM .In (.int (n : Nat)) (.tup (L l)) = if (okD (.int (n : Nat)) && okD (.tup (L l))) = true then .ret (.bl ((L l).any fun z => eqD z (.int (n : Nat)))) else .stuck := rfl
  rw [e, if_pos hb, any_L]
theorem notin_L {l : List Nat} (n : Nat) (hz : l.length ≤ sizeLine) : cmpM .NotIn (.int (n : Nat)) (.tup (L l)) = .ret (.bl (!decide (n ∈ l))) := by
  have hb : (okD (.int (n : Nat)) && okD (.tup (L l))) = true := by
    rw [okD_fine (Fine.int (n := 0) _) (by omega), okD_fine (Fine.tup (n := 0) (fine_L l) (by simpa using hz)) (by omega)]
    rfl
  have e : cmpM .NotIn (.int (n : Nat)) (.tup (L l)) = if (okD (.int (n : Nat)) && okD (.tup (L l))) = true then .ret (.bl (!((L l).any fun z => eqD z (.int (n : Nat))))) else .stuck := rfl
  rw [e, if_pos hb, any_L]
end MS

/-! Part 21: rewriting rules for mirrors (to be used by name or with simp only). -/
namespace MS
open PySem PySem.Spec PyProof.Rows L2
theorem consM_ret (d : D) (ds : List D) : consM (.ret d) (.ret ds) = .ret (d :: ds) := rfl
theorem consM_bind (d : D) (m : T (List D)) : consM (.ret d) m = m.bind fun ds => .ret (d :: ds) := rfl
theorem tupM_le {ds : List D} (h : ds.length ≤ 1000) : tupM ds = .ret (.tup ds) := if_pos (by have := sizeLine_val; omega)
theorem lstM_le {ds : List D} (h : ds.length ≤ 1000) : lstM ds = .ret ds := if_pos (by have := sizeLine_val; omega)
theorem tup0 : tupM [] = .ret (.tup []) := tupM_le (by simp)
theorem tup1 (a : D) : tupM [a] = .ret (.tup [a]) := tupM_le (by simp)
theorem tup2 (a b : D) : tupM [a, b] = .ret (.tup [a, b]) := tupM_le (by simp)
theorem tup3 (a b c : D) : tupM [a, b, c] = .ret (.tup [a, b, c]) := tupM_le (by simp)
theorem tup4 (a b c d : D) : tupM [a, b, c, d] = .ret (.tup [a, b, c, d]) := tupM_le (by simp)
theorem tup5 (a b c d e : D) : tupM [a, b, c, d, e] = .ret (.tup [a, b, c, d, e]) := tupM_le (by simp)
theorem lst0 : lstM [] = .ret [] := lstM_le (by simp)
theorem lst1 (a : D) : lstM [a] = .ret [a] := lstM_le (by simp)
theorem lst2 (a b : D) : lstM [a, b] = .ret [a, b] := lstM_le (by simp)
theorem lst3 (a b c : D) : lstM [a, b, c] = .ret [a, b, c] := lstM_le (by simp)
theorem lst4 (a b c d : D) : lstM [a, b, c, d] = .ret [a, b, c, d] := lstM_le (by simp)
theorem lst5 (a b c d e : D) : lstM [a, b, c, d, e] = .ret [a, b, c, d, e] := lstM_le (by simp)
theorem lst6 (a b c d e f : D) : lstM [a, b, c, d, e, f] = .ret [a, b, c, d, e, f] := lstM_le (by simp)
theorem seq_tup (l : List D) : seqM (.tup l) = .ret l := rfl
theorem seq_lst (l : List D) : seqM (.lst l) = .ret l := rfl
theorem list_tup (l : List D) : listM [.tup l] = .ret l := rfl
theorem list_lst (l : List D) : listM [.lst l] = .ret l := rfl
theorem tuple_tup (l : List D) : tupleM [.tup l] = .ret (.tup l) := rfl
theorem tuple_lst (l : List D) : tupleM [.lst l] = .ret (.tup l) := rfl
theorem asBool_bl (b : Bool) : asBool (.bl b) = .ret b := rfl
theorem asInt_int (i : Int) : asInt (.int i) = .ret i := rfl
theorem len_tup (l : List D) : lenM [.tup l] = .ret (.int (l.length : Nat)) := rfl
theorem len_lst (l : List D) : lenM [.lst l] = .ret (.int (l.length : Nat)) := rfl
theorem lt_int (i j : Int) : cmpM .Lt (.int i) (.int j) = .ret (.bl (decide (i < j))) := rfl
theorem le_int (i j : Int) : cmpM .LtE (.int i) (.int j) = .ret (.bl (decide (i ≤ j))) := rfl
theorem gt_int (i j : Int) : cmpM .Gt (.int i) (.int j) = .ret (.bl (decide (j < i))) := rfl
theorem ge_int' (i j : Int) : cmpM .GtE (.int i) (.int j) = .ret (.bl (decide (j ≤ i))) := rfl
theorem add_int (i j : Int) : addD (.int i) (.int j) = .ret (.int (i + j)) := rfl
theorem sub_int (i j : Int) : subD (.int i) (.int j) = .ret (.int (i - j)) := rfl
theorem cond_same {α : Type} {mc : T Bool} {A B : T α} {a : α} {b0 : Bool} (hc : mc = .ret b0) (hA : A = .ret a) (hB : B = .ret a) : (mc.bind fun t => cond t A B) = .ret a := by
  rw [hc, hA, hB]
  cases b0 <;> rfl
theorem ok_if {α : Type} {c : Prop} [Decidable c] {a b : T α} {Q : α → Prop} (h : c) (h2 : a.ok Q) : (if c then a else b).ok Q := by
  rw [if_pos h]
  exact h2
theorem ok_ifJ {St : Type} {mc : T Bool} {ma mb : (St → T D) → T D} {k : St → T D} {b : Bool} {Q : D → Prop} (hc : mc = .ret b) (h1 : b = true → (ma k).ok Q) (h2 : b = false → (mb k).ok Q) : (ifJ mc ma mb k).ok Q := by
  unfold ifJ
  rw [hc]
  cases b
  · exact h2 rfl
  · exact h1 rfl
theorem cat_le {a b : List D} (h : a.length + b.length ≤ 10000000) : catM (.lst a) (.lst b) = .ret (a ++ b) := if_pos (by have := sizeLine_val; omega)
end MS

/-! a tuple turned round. -/
namespace MS
open PySem PySem.Spec PyProof.Rows L2
section
variable {P : Program} {w : World} {A : Around} {E : Value → Shared → Prop} {s : Shared}
theorem adjust_rev (n : Nat) : Builtin.Slice.sliceAdjust none none (-1) (n : Int) = ((n : Int) - 1, -1) := by
  have h1 : ((-1 : Int) < 0) := by omega
  unfold Builtin.Slice.sliceAdjust
  simp only [h1, if_true]
theorem places_rev (n : Nat) : Builtin.Slice.slicePlaces ((n : Int) - 1) (-1) (-1) = n := by
  unfold Builtin.Slice.slicePlaces
  have h1 : ¬ ((-1 : Int) > 0) := by omega
  have h2 : (- -1 : Int) = 1 := by decide
  simp only [h1, if_false, h2, Int.ediv_one]
  split <;> omega
theorem fm_congr {α β : Type} {f g : α → Option β} : ∀ {l : List α}, (∀ a ∈ l, f a = g a) → l.filterMap f = l.filterMap g
  | [], _ => rfl
  | a :: l, h => by
    rw [List.filterMap_cons, List.filterMap_cons, h a (List.mem_cons_self ..), fm_congr fun x hx => h x (List.mem_cons_of_mem _ hx)]
theorem pick_rev (xs : Array Value) : ((List.range xs.size).filterMap fun (k : Nat) => xs[(((xs.size : Int) - 1) + (k : Int) * (-1)).toNat]?).toArray = xs.toList.reverse.toArray := by
  congr 1
  have e : (List.range xs.size).filterMap (fun (k : Nat) => xs[(((xs.size : Int) - 1) + (k : Int) * (-1)).toNat]?) = (List.range xs.size).filterMap fun k => xs.toList.reverse[k]? := by
    refine fm_congr fun k hk => ?_
    have hk' := List.mem_range.mp hk
    have h1 : (((xs.size : Int) - 1) + (k : Int) * (-1)).toNat = xs.size - 1 - k := by omega
    rw [h1, List.getElem?_reverse (by simpa using hk')]
    simp
  rw [e]
  have all : ∀ (l : List Value), (List.range l.length).filterMap (fun k => l[k]?) = l := fun l => by
    induction l with
    | nil => rfl
    | cons a l ih =>
      rw [List.length_cons, List.range_succ_eq_map, List.filterMap_cons]
      simp only [List.getElem?_cons_zero]
      rw [List.filterMap_map]
      congr 1
  have := all xs.toList.reverse
  rw [List.length_reverse, Array.length_toList] at this
  exact this
theorem rev_applied {sl : Addr} {t : Tok} {n : Nat} {Q : Int × Int × Nat → Shared → Prop} (hs : s.heap.IsSliceOf sl .none .none (.int (-1) t)) (h : Q ((n : Int) - 1, -1, n) s) : wpAny (model P w) A (Builtin.Slice.sliceApplied (.ref sl) (pure (n : Int))) Q E s := by
  obtain ⟨os, hos, hcs, hds⟩ := id hs
  unfold Builtin.Slice.sliceApplied Builtin.Slice.sliceFields
  refine wpAny_bind (wpAny_bind (wpAny_field hos hds (x := .none) rfl (wpAny_bind (wpAny_field hos hds (x := .none) rfl (wpAny_bind (wpAny_field hos hds (x := .int (-1) t) rfl (wpAny_pure ?_)))))))
  refine wpAny_bind (slicePart_int ?_)
  show wpAny _ _ (if ((-1 : Int) == 0) = true then _ else _) _ _ s
  rw [if_neg (by decide)]
  refine wpAny_bind (slicePart_none (wpAny_bind (slicePart_none (wpAny_bind (wpAny_pure ?_)))))
  show wpAny _ _ (match Builtin.Slice.sliceAdjust none none (-1) (n : Int) with | (lo, hi) => pure (lo, (-1 : Int), Builtin.Slice.slicePlaces lo hi (-1))) _ _ s
  rw [adjust_rev]
  show wpAny _ _ (pure (((n : Int) - 1), (-1 : Int), Builtin.Slice.slicePlaces ((n : Int) - 1) (-1) (-1))) _ _ s
  rw [places_rev]
  exact wpAny_pure h
theorem tup_rev {t sl : Addr} {items : Array Value} {k : Tok} {Q : Value → Shared → Prop} (ht : IsTup s.heap t items) (hs : s.heap.IsSliceOf sl .none .none (.int (-1) k)) (hz : items.size ≤ sizeLine)
    (h : Q (.ref s.heap.objs.size) { s with heap := s.heap.push { cls := .type "tuple", data := .seq items.toList.reverse.toArray } }) : wpAny (model P w) A (getItem (.ref t) (.ref sl)) Q E s := by
  have hok : sizeOk (.seq items.toList.reverse.toArray) := by
    show items.toList.reverse.toArray.size ≤ sizeLine
    rw [List.size_toArray, List.length_reverse, Array.length_toList]
    exact hz
  obtain ⟨os, hos, hcs, hds⟩ := id hs
  have hTs : s.TypeIs (.ref sl) "slice" := ⟨os, hos, hcs⟩
  unfold getItem
  try with_reducible refine wpAny_holding ?_
  first | refine wpAny_bind (wpAny_pure ?_) | skip
  refine wpAny_bind (wpAny_sequenceKey ht.typeIs (by decide) ?_)
  refine wpAny_bind (wpAny_callSpecial?_slot (name := Str.ofString "__getitem__") ht.typeIs PyProof.Rows.slot_tuple_getitem (wpAny_call_entry PyProof.Rows.slot_tuple_getitem ht.typeIs entry_tuple_getitem ?_ (args_tuple_getitem _ _)))
  show wpAny _ _ (Builtin.Tuple.tupleItemsOf (.ref t) >>= _) _ _ s
  refine wpAny_bind (tupleItemsOf_ ht ?_)
  refine wpAny_bind (wpAny_typeOf hTs ?_)
  rw [if_pos (by decide)]
  refine wpAny_bind (rev_applied hs ?_)
  have no : ¬ ((((items.size : Int) - 1) == 0 && (-1 : Int) == 1 && items.size == items.size) = true) := by simp
  show wpAny _ _ (if (((items.size : Int) - 1) == 0 && (-1 : Int) == 1 && items.size == items.size) = true then _ else _) _ _ s
  rw [if_neg no, pick_rev]
  first
    | exact wpAny_bind (m := Builtin.Tuple.tupleExact _) (wpAny_newObj_type (wpAny_pure ⟨_, rfl, wpAny_pure h⟩) hok)
    | exact wpAny_bind (m := Builtin.Tuple.tupleExact _) (wpAny_newObj_type (wpAny_bind (wpAny_pure (wpAny_pure ⟨_, rfl, wpAny_pure h⟩))) hok)
    | exact wpAny_bind (wpAny_bind (m := Builtin.Tuple.tupleExact _) (wpAny_newObj_type (wpAny_pure (wpAny_pure ⟨_, rfl, wpAny_pure h⟩)) hok))
    | exact wpAny_bind (wpAny_bind (m := Builtin.Tuple.tupleExact _) (wpAny_newObj_type (wpAny_pure ⟨_, rfl, wpAny_pure h⟩) hok))
end
def tRevT (K : PySem.W.Frag) (te : TE) : TE := fun σ H Q => te σ H fun x H1 => ∃ a xs, x = .ref a ∧ SqT K H1 a xs ∧ ∀ p, H1 p = none → Q (.ref p) (upd H1 p (.tup xs.reverse))
theorem pe_revT {X : Cx} {e : Expr} {te : TE} {k : Nat} {p1 p2 p3 pos : Pos} (he : PE X e te) : PE X (.Subscript e (.Slice none none (some (.UnaryOp .USub (.Constant (.int 1) k p1) p2)) p3) pos) (tRevT X.K te) := by
  refine ⟨fun pins s σ H Q I h => ?_⟩
  refine Subscript_ (thn (he.run pins s σ H _ I h) fun v s1 ⟨x, H1, I1, r1, a, xs, ex, hx, q⟩ => ?_)
  subst ex
  cases r1
  have hst : PO X (some (.UnaryOp .USub (.Constant (.int 1) k p1) p2)) (tPart (tUn (rU fun i => .int (-i)) (tC (.int 1)))) := po_some (pe_un un_neg pe_int)
  refine wpAny_Slice (thn (po_none.run pins s1 σ H1 (fun o H2 => o = none ∧ H2 = H1) I1 ⟨rfl, rfl⟩) fun vl s2 ⟨l, H2, I2, pl, el, e2⟩ => ?_)
  subst el e2
  refine thn (po_none.run pins s2 σ H2 (fun o H3 => o = none ∧ H3 = H2) I2 ⟨rfl, rfl⟩) fun vu s3 ⟨u, H3, I3, pu, eu, e3⟩ => ?_
  subst eu e3
  refine thn (hst.run pins s3 σ H3 (fun o H4 => o = some (-1) ∧ H4 = H3) I3 ⟨1, rfl, -1, rfl, rfl, rfl⟩) fun vs s4 ⟨o, H4, I4, ps, eo, e4⟩ => ?_
  subst eo e4
  cases pl
  cases pu
  cases ps with
  | int i t =>
    have I5 : Inv X pins σ H4 { s4 with heap := s4.heap.push { cls := .type "slice", data := .fields #[.none, .none, .int (-1) t] } } := I4.kept (t' := s4.toks) fun b ob q => Heap.get?_push_of_some _ q
    obtain ⟨its, r, ht, hz⟩ := I5.tuple hx
    have hlen := r.length
    show wpAny (model X.prog X.w) X.A (subscriptTail e (.Slice none none (some (.UnaryOp .USub (.Constant (.int 1) k p1) p2)) p3) (.ref a) (.ref s4.heap.objs.size)) (EP X pins σ Q) X.xe { s4 with heap := s4.heap.push { cls := .type "slice", data := .fields #[.none, .none, .int (-1) t] } }
    refine tail_any (ops := [.ref a, .ref s4.heap.objs.size]) ht.typeIs (PyProof.Rows.slot_tuple_getitem.lookup) ?_ (by with_unfolding_all rfl)
    refine tup_rev ht (Heap.IsSliceOf.new _ _ _ _) (by rw [List.size_toArray]; omega) ?_
    refine ⟨.ref _, _, I5.laid (t' := s4.toks) (o := .tup xs.reverse) (fun b ob q => Heap.get?_push_of_some _ q) (Nat.le_refl _) ?_, rfl, q _ (I5.hok.fresh (Nat.le_refl _))⟩
    exact ⟨by rw [List.length_reverse]; exact hz, _, r.reverse, IsTup.new _ _⟩
section
variable {F : Fx} {S : Sx} {ρ : DEnv} {a : Expr} {pos : Pos}
def revT : D → T D
  | .tup l => .ret (.tup l.reverse)
  | _ => .stuck
theorem ev_revT {ma : T D} {kk : Nat} {p1 p2 p3 : Pos} (ha : Ev F S ρ a ma) : Ev F S ρ (.Subscript a (.Slice none none (some (.UnaryOp .USub (.Constant (.int 1) kk p1) p2)) p3) pos) (ma.bind revT) := fun X sc en =>
  peW (pe_revT (ha X sc en)) fun σ H Q ⟨Hs, τ, e0, w⟩ => ⟨Hs, τ, e0, T.wp_mono (T.wp_bind.mp w) (fun d w1 v H1 Hs1 e1 s1 r1 => by
    cases d with
    | tup ds =>
      cases r1 with
      | tup hq rl =>
        rename_i vs p
        refine ⟨_, vs, rfl, by rw [sc.K]; exact (TupAt.sub e1.wd.sub hq).seq, fun q hp => ?_⟩
        have s' : Sub Hs1 (upd Hs1 q (.tup vs.reverse)) := sub_upd (e1.wd.none_in hp).1
        exact w1 _ _ _ (e1.alloc hp _) (Sub.trans s1 s') (.tup (.inl upd_same) (rl.reverse.sub s'))
    | _ => exact w1.elim) fun _ _ k => k⟩
end
end MS

/-! Part 22: sorted by a key of one's own. -/
namespace MS
open PySem PySem.Spec PyProof.Rows L2
open PySem.W (AllAlike Sortable alike dataLe EachIs SortsAt dataKind sortVals KeyedOut)
/-! ### the machine -/
/-- what a key's call must give -/
def KeyF (F : Fx) (X : Cx) (A : Around) (en : Ent) (ρ : DEnv) (σ σ' : L2.St) (f : Value) (kf : List D → T D) : Prop := ∀ (pins : List (Addr × Obj)) (τ : List (Addr × D)) (Hs H : Hp) (s : Shared) (d : D) (v : V) (u : Value) (R : D → Prop),
  Inv X pins σ' H s → EnvOk F.C en Hs τ ρ σ H → Rep F.C en.g Hs d v → RelV v u → (kf [d]).noX.wp R (fun _ _ => False) →
    wpAny (model X.prog X.w) A (call f [u]) (fun u' s' => ∃ (v' : V) (H' Hs' : Hp) (d' : D), Inv X pins σ' H' s' ∧ RelV v' u' ∧ EnvOk F.C en Hs' τ ρ σ H' ∧ Sub Hs Hs' ∧ Rep F.C en.g Hs' d' v' ∧ R d') (fun _ _ => False) s
/-- the keys, one behind another -/
def keysM (kf : List D → T D) : List D → T (List D)
  | [] => .ret []
  | d :: ds => (kf [d]).noX.bind fun k => (keysM kf ds).bind fun ks => .ret (k :: ks)
def sortByD (ds ks : List D) : List D := ((ks.zip ds).mergeSort (dataLe false fun p => toP p.1)).map (·.2)
def sortKM (kf : List D → T D) : List D → T (List D)
  | [.lst ds] => if ds.length ≤ sizeLine then (keysM kf ds).bind fun ks => if sortableC ks = true then .ret (sortByD ds ks) else .stuck else .stuck
  | _ => .stuck
section
variable {X : Cx} {pins : List (Addr × Obj)} {σ : L2.St} {H : Hp} {s : Shared}
/-- an object that nobody told of is told of -/
theorem inv_track {a : Addr} {o : HO} (I : Inv X pins σ H s) (hn : H a = none) (h0 : X.s_0.heap.objs.size ≤ a) (hl : a ≠ X.env.locals) (hc : ∀ x c, X.env.cells.lookup x = some c → c ≠ a) (hp : ∀ p ∈ X.pn ++ pins, p.1 ≠ a) (new : ObjOk X.prog X.w (upd H a o) s.heap a o) : Inv X pins σ (upd H a o) s := by
  have other : ∀ b, b ≠ a → upd H a o b = H b := fun b h => upd_ne h
  have old : ∀ b u, X.s_0.heap.get? b = some u → b ≠ a := fun b u e z => by
    exact absurd (Heap.lt_size e) (by rw [z]; exact Nat.not_lt.mpr h0)
  have was : ∀ b u, H b = some u → b ≠ a := fun b u e z => by
    rw [z, hn] at e
    cases e
  refine ⟨I.ok, I.os, I.bare, ⟨I.base.keep, I.base.slot, ?_, I.base.there, ?_, ?_, ?_⟩, I.loc, I.cell, ?_, ?_, ?_, HOk.laidN I.hok (fun _ _ e => e) hn new, I.len⟩
  · intro b u e n x
    rw [other b (old b u e)]
    exact I.base.free b u e n x
  · intro b xs e
    have q := I.base.tups b xs e
    rw [other b (was b _ q)]
    exact q
  · intro b u v e
    have q := I.base.frzs b u v e
    rw [other b (was b _ q)]
    exact q
  · intro b ps e
    obtain ⟨more, q⟩ := I.base.tbls b ps e
    exact ⟨more, by rw [other b (was b _ q)]; exact q⟩
  · rw [other _ (Ne.symm hl)]
    exact I.free
  · intro x c e
    rw [other _ (hc x c e)]
    exact I.freeC x c e
  · intro p m
    obtain ⟨q1, q2, q3⟩ := I.pin p m
    exact ⟨q1, by rw [other _ (hp p m)]; exact q2, q3⟩
end
section
variable {P : Program} {w : World} {A : Around} {E : Value → Shared → Prop} {s : Shared} {R : PySem.Fin → Shared → Prop}
/-- the sort itself, once the keys stand -/
theorem sort_keys {a kS e1 : Nat} {keys : Array Value} {vs : List Value} {κ : PyProof.Rows.KeyKind} (S : SortsAt P w A s κ keys.toList) (hk : keys.size = vs.length)
    (h : ∀ st : SortSt, failedOf st = none → (if (false : Bool) = true then ((arrOf st).map (·.2)).reverse else (arrOf st).map (·.2)) = (sortVals κ false keys.toList vs).toArray → wpAny (model P w) A (ksk_tail a false e1 (.ref kS) st) R E s) :
    wpAny (model P w) A (ksk_end a false vs.toArray e1 (.ref kS) keys) R E s := by
  have K0 : PyProof.Rows.KeysOf κ (keys.zip vs.toArray) := PySem.W.keysOf_zip S.keys
  have z0 : (keys.zip vs.toArray).size = vs.length := by rw [Array.size_zip, hk, List.size_toArray, Nat.min_self]
  have out : ∀ st : SortSt, (arrOf st).Perm (keys.zip vs.toArray) → SortedToK κ (arrOf st) (keys.zip vs.toArray).size → Stable κ (arrOf st) (keys.zip vs.toArray) →
      (if (false : Bool) = true then ((arrOf st).map (·.2)).reverse else (arrOf st).map (·.2)) = (sortVals κ false keys.toList vs).toArray := fun st p1 p2 p3 => by
    have q := congrArg List.toArray (PySem.W.sort_out (rev := false) (keys := keys) (items := vs.toArray) (xs := arrOf st) (κ := κ) K0 p1 p2 p3)
    rwa [Array.toArray_toList] at q
  obtain ⟨kd, h1, h2⟩ := S.kind
  unfold ksk_end
  by_cases hs : vs.toArray.size < 2
  · simp only [Bool.false_eq_true, if_false]
    rw [if_pos hs, if_pos hs]
    refine wpAny_bind (wpAny_pure ?_)
    rw [StateT.run_pure]
    refine wpAny_bind (wpAny_pure ?_)
    refine h _ rfl (out (SortSt.mk' general' (keys.zip vs.toArray) #[] 7 none) (Array.Perm.refl _) (fun i j hij hj => ?_) (Stable.refl _))
    rw [z0] at hj
    rw [List.size_toArray] at hs
    obtain rfl : i = j := by omega
    exact KeyOrd.kle_refl _
  · simp only [Bool.false_eq_true, if_false]
    rw [if_neg hs, if_neg hs]
    rw [List.size_toArray] at hs
    have l0 : keys.toList.length = vs.length := by rw [Array.length_toList]; exact hk
    refine wpAny_bind (h2 (by omega) _ ?_)
    refine wpAny_bind (wpAny_mono (H.wpS_sortRunsSt (κ := κ) (kd := kd) (a₀ := keys.zip vs.toArray) (st := SortSt.mk' kd (keys.zip vs.toArray) #[] 7 none)
      (Q := fun _ st => failedOf st = none ∧ (if (false : Bool) = true then ((arrOf st).map (·.2)).reverse else (arrOf st).map (·.2)) = (sortVals κ false keys.toList vs).toArray)
      h1 K0 ⟨Array.Perm.refl _, rfl, rfl⟩ rfl (Stable.refl _) (by rw [z0]; omega) fun st a1 a2 a3 a4 => ⟨a2, out st a1 a3 a4⟩) ?_ fun _ _ e => e)
    rintro ⟨⟨⟩, st⟩ s' ⟨rfl, hf, ho⟩
    exact h st hf ho
end
section
variable {F : Fx} {X : Cx} {A : Around} {pins : List (Addr × Obj)} {σ σ' : L2.St} {ρ : DEnv} {en : Ent} {s : Shared} {R : PySem.Fin → Shared → Prop} {E : Value → Shared → Prop}
theorem own_list {C : Ct} {Hs H : Hp} {ds : List D} {a : Addr} (o : Own C en Hs H (.lst ds) a) : ∃ vs, H a = some (.lst vs) ∧ RepL C en.g Hs ds vs := by
  obtain ⟨u, h1, h2⟩ := o.obj
  cases h2 with
  | lst r => exact ⟨_, h1, r⟩
theorem vals_get : ∀ {vs : List V} {us : List Value} {j : Nat} {u : Value}, Vals vs us → us[j]? = some u → ∃ v, vs[j]? = some v ∧ RelV v u
  | _, _, _, _, .nil, e => by simp at e
  | _, _, 0, _, .cons r _, e => by simp at e; subst e; exact ⟨_, rfl, r⟩
  | _, _, j + 1, u, .cons _ t, e => by
    obtain ⟨v, h1, h2⟩ := vals_get (j := j) (u := u) t (by simpa using e)
    exact ⟨v, by simpa using h1, h2⟩
theorem each_zip {g : Gh} {Hs : Hp} {C : Ct} : ∀ {us : List Value} {vs : List V} {ds ks : List D}, ks.length = ds.length → Vals vs us → RepL C g Hs ds vs → EachIs (fun (u : Value) (p : D × D) => ∃ x, RelV x u ∧ Rep C g Hs p.2 x) us (ks.zip ds)
  | _, _, [], _, _, .nil, .nil => by rw [List.zip_nil_right]; exact .nil
  | _, _, d :: ds, [], h, .cons _ _, .cons _ _ => by simp at h
  | _, _, d :: ds, k :: ks, h, .cons r rs, .cons q qs => .cons ⟨_, r, q⟩ (each_zip (by simpa using h) rs qs)
theorem each_snd {C : Ct} {g : Gh} {Hs : Hp} : ∀ {us : List Value} {ps : List (D × D)}, EachIs (fun (u : Value) (p : D × D) => ∃ x, RelV x u ∧ Rep C g Hs p.2 x) us ps → ∃ xs, Vals xs us ∧ RepL C g Hs (ps.map (·.2)) xs
  | _, _, .nil => ⟨[], .nil, .nil⟩
  | _, _, .cons ⟨x, h1, h2⟩ t => by
    obtain ⟨xs, h3, h4⟩ := each_snd t
    exact ⟨x :: xs, .cons h1 h3, .cons h2 h4⟩
theorem map_zip_fst {f : D → PyData} : ∀ {ks ds : List D}, ks.length = ds.length → (ks.zip ds).map (fun p => f p.1) = ks.map f
  | [], _, _ => rfl
  | k :: ks, [], h => by simp at h
  | k :: ks, d :: ds, h => by
    rw [List.zip_cons_cons, List.map_cons, List.map_cons, map_zip_fst (by simpa using h)]
/-- the keys are asked, then the sort -/
theorem key_walk {a kS e1 : Nat} {f : Value} {kf : List D → T D} {its : List Value} {vs : List V} {ds : List D} {Hs H : Hp} {τ : List (Addr × D)} {W : List D → Prop}
    (KF : KeyF F X A en ρ σ σ' f kf) (hK : X.K = F.K) (hu : A.units + 60 < cLine) (I : Inv X ((a, seqObj "list" #[] e1) :: pins) σ' H s) (e0 : EnvOk F.C en Hs ((kS, .lst []) :: τ) ρ σ H) (hz : its.length ≤ sizeLine) (rv : Vals vs its) (rl : RepL F.C en.g Hs ds vs)
    (h0 : X.s_0.heap.objs.size ≤ a) (hp : ∀ p ∈ X.pn ++ pins, p.1 ≠ a) (w : (keysM kf ds).wp W (fun _ _ => False)) (hW : ∀ ks, W ks → sortableC ks = true)
    (hR : ∀ (Hs2 H2 : Hp) (ks : List D) (ys : List V) (s2 : Shared), Inv X pins σ' (upd H2 a (.lst ys)) s2 → H2 a = none → W ks → EnvOk F.C en Hs2 τ ρ σ H2 → Sub Hs Hs2 → RepL F.C en.g Hs2 (sortByD ds ks) ys → R (.done (.ret .none)) s2) :
    wpAny (model X.prog X.w) A (ksk_rest a f false its.toArray e1 (.ref kS)) R E s := by
  have ll : ds.length = its.length := by rw [rl.length, rv.length]
  unfold ksk_rest
  refine wpAny_bind (wpAny_rule ?_)
  rw [List.forIn_toArray]
  refine wpAny_bind (ksk_fold (fun i s' => ∃ (Hs' H' : Hp) (kd : List D), Inv X ((a, seqObj "list" #[] e1) :: pins) σ' H' s' ∧ EnvOk F.C en Hs' ((kS, .lst kd) :: τ) ρ σ H' ∧ Sub Hs Hs' ∧ kd.length = i ∧ (keysM kf (ds.drop i)).wp (fun ks => W (kd ++ ks)) (fun _ _ => False)) its 0 s ⟨Hs, H, [], I, e0, Sub.refl _, rfl, w⟩ ?step ?done)
  case step =>
    rintro j x s' hx ⟨Hs', H', kd, I', e', sb, hl, w'⟩
    rw [Nat.zero_add] at hl w' ⊢
    have hj : j < its.length := (List.getElem?_eq_some_iff.mp hx).1
    obtain ⟨v, hv, rx⟩ := vals_get rv hx
    obtain ⟨d, hd, rd⟩ := rl.getV hv
    have hd2 : ds.drop j = d :: ds.drop (j + 1) := by
      rw [List.drop_eq_getElem_cons (by omega)]
      congr 1
      rw [List.getElem?_eq_getElem (by omega)] at hd
      exact Option.some.inj hd
    rw [hd2] at w'
    have w1 := T.wp_bind.mp w'
    refine wpAny_bind (wpAny_attempt (wpAny_mono (KF _ _ _ _ s' d v x _ I' e' (rd.sub sb) rx w1) (fun u' s'' he => ?_) fun _ _ h => h.elim))
    obtain ⟨v', H2, Hs2, d', I2, ru, e2, sb2, r2, w2⟩ := he
    obtain ⟨kvs, hkv, rkv⟩ := own_list (e2.tmp _ (List.mem_cons_self ..))
    obtain ⟨zk, kits, n, rvk, lk, gk⟩ := I2.lstM hkv
    have lkd := rkv.length
    have q1 : (kits.toArray).size ≤ sizeLine := by rw [List.size_toArray]; omega
    dsimp only
    refine wpAny_bind (listUpdate_at gk rfl ?_ q1 (by rw [Array.size_push]; omega))
    refine wpAny_pure ⟨rfl, Hs2, upd H2 kS (.lst (kvs ++ [v'])), kd ++ [d'], ?_, e2.mutT (RepL.append rkv (.cons r2 .nil)), Sub.trans sb sb2, by rw [List.length_append, hl]; rfl, ?_⟩
    · exact I2.lset (its' := kits ++ [u']) (t' := s''.toks) hkv gk (by simp) (rvk.append (.cons ru .nil)) (by rw [List.length_append, List.length_singleton]; omega)
    · refine T.wp_mono (T.wp_bind.mp w2) (fun ks q => ?_) fun _ _ z => z
      have q' : W (kd ++ (d' :: ks)) := q
      rw [List.append_assoc]
      exact q'
  case done =>
    rintro s' ⟨Hs', H', kd, I', e', sb, hl, w'⟩
    rw [Nat.zero_add] at hl w'
    rw [List.drop_eq_nil_of_le (by omega)] at w'
    have w1 : W (kd ++ []) := w'
    rw [List.append_nil] at w1
    have hs := hW kd w1
    unfold sortableC at hs
    simp only [Bool.and_eq_true, decide_eq_true_eq] at hs
    obtain ⟨⟨⟨⟨h1, h2⟩, h3⟩, h4⟩, h5⟩ := hs
    obtain ⟨kvs, hkv, rkv⟩ := own_list (e'.tmp _ (List.mem_cons_self ..))
    obtain ⟨zk, kits, n, rvk, lk, gk⟩ := I'.lstM hkv
    have lkd := rkv.length
    obtain ⟨-, q2⟩ := sorted_reads I' hK e'.wd.sub h1 rkv rvk
    have q3 := PySem.W.each_map (R := fun v k => ∃ as, Reads s'.heap v k as) toP q2
    have hal : AllAlike (kd.map toP) := fun d hd d' hd' => by
      obtain ⟨b, hb, rfl⟩ := List.mem_map.mp hd
      obtain ⟨b', hb', rfl⟩ := List.mem_map.mp hd'
      rw [List.all_eq_true] at h2
      have := h2 b hb
      rw [List.all_eq_true] at this
      exact this b' hb'
    refine wpAny_bind (listItems_at gk rfl ?_)
    have q3' : EachIs (fun v k => ∃ as, Reads s'.heap v k as) kits.toArray.toList (kd.map toP) := q3
    have hsz : kits.toArray.size = its.length := by rw [List.size_toArray]; omega
    refine sort_keys (κ := dataKind s'.heap (kd.map toP)) (data_sort q3' hal (sortable_of h1 h3) fun d hd => ?_) hsz fun st hf ho => ?_
    · obtain ⟨b, hb, rfl⟩ := List.mem_map.mp hd
      rw [List.all_eq_true] at h5
      have := of_decide_eq_true (h5 b hb)
      omega
    have hko : KeyedOut false (kd.map toP) its (sortVals (dataKind s'.heap (kd.map toP)) false kits.toArray.toList its) := ⟨s'.heap, kits.toArray.toList, hal, rfl, q3'⟩
    have hol := hko.length (by rw [List.length_map]; omega)
    generalize sortVals (dataKind s'.heap (kd.map toP)) false kits.toArray.toList its = out at ho hol hko
    rw [← map_zip_fst (f := toP) (ds := ds) (by omega)] at hko
    have hea := PySem.W.keyedOut_each (fun p : D × D => toP p.1) hko (each_zip (by omega) rv rl)
    obtain ⟨ys, y1, y2⟩ := each_snd hea
    have ly := y1.length
    have I3 := I'.lset (f := fun _ => #[]) (its' := []) (ys := []) (t' := s'.toks) hkv gk rfl .nil (Nat.zero_le _)
    obtain ⟨ga, hna, hal', hafs, hcell⟩ := I3.pin (a, seqObj "list" #[] e1) (List.mem_append_right _ (List.mem_cons_self ..))
    unfold ksk_tail
    dsimp only
    rw [ho]
    refine wpAny_bind (listUpdate_at gk rfl ?_ (by rw [hsz]; exact hz) (Nat.zero_le _))
    refine wpAny_bind (wpAny_letGo ?_)
    refine wpAny_bind (seqEpoch_at ga rfl ?_)
    refine wpAny_bind (listUpdate_at ga rfl ?_ (Nat.zero_le _) (by show (out.toArray).size ≤ _; rw [List.size_toArray]; omega))
    rw [hf]
    simp only [bne_self_eq_false, Bool.false_eq_true, if_false]
    have hcl : ∀ x c, X.env.cells.lookup x = some c → c ≠ a := fun x c e z => by
      obtain ⟨v, o, q1, q2⟩ := I3.cell x c e
      rw [z, ga] at q1
      cases q1
      cases q2
    have I4 : Inv X pins σ' (upd H' kS (.lst [])) _ := I3.pins_of (pins' := pins) fun p hp' => I3.pin p (List.mem_append_right _ (List.mem_cons_of_mem _ hp'))
    have I5 := I4.turned (it := a) (t' := s'.toks) (h' := (s'.heap.update kS (Obj.mapSeq fun _ => #[])).update a (Obj.mapSeq fun _ => out.toArray)) (fun b o hb hu => (Heap.get?_update_other _ _ (Ne.symm hb)).trans hu) hna hal' (.inr h0) hcl hp
    have g5 := PySem.IsL.update ga (fun _ => out.toArray)
    refine wpAny_pure (hR Hs' (upd H' kS (.lst [])) kd ys _ (inv_track I5 hna h0 hal' hcl hp ⟨by omega, out, _, y1, g5⟩) hna w1 (e'.mutT (ds := []) .nil).drop sb (y2.sub sb))
end
section
variable {F : Fx} {S : Sx} {ρ : DEnv}
/-- a def of the text as a key -/
theorem keyF_fn {X : Cx} {A : Around} {en : Ent} {σ σ' : L2.St} {lev : Nat} {f : Addr} {fd : FuncData} {p1 : Str} {m : List D → T D} (sc : SC F S X) (FO : FnOk X.prog X.w X.K X.mg X.base F.CX lev f fd [p1] (spM F 1 m)) (hb : Binds X.K fd [p1] []) (sb : L2.Sub X lev A) :
    KeyF F X A en ρ σ σ' (.ref f) m := by
  intro pins τ Hs H s d v u R I e r ru w
  have e0 : Env0 X.prog X.w X.K X.mg X.base A X.stack s H := by
    have z := I.env0
    exact ⟨by rw [sb.fr]; exact z.frames, z.mod, z.bs, z.bsz, z.funs, z.frf, z.hok, z.bare⟩
  have hsp : spM F 1 m [v] H (fun v' H' => ∃ (Hs' : Hp) (d' : D), EnvOk F.C en Hs' τ ρ σ H' ∧ Sub Hs Hs' ∧ Rep F.C en.g Hs' d' v' ∧ R d') E0 := by
    refine ⟨en.g, Hs, [d], e.wd.sub, e.wd.deal, e.wd.gout, .cons r .nil, rfl, T.noX_wp (T.wp_mono w (fun d' k v' Hs' H' w' r' => ?_) fun _ _ z => z)⟩
    exact ⟨Hs', d', e.step (Wd.trans e.wd w') w'.ext w'.new fun a u ng q _ => w'.same a u ng q, w'.ext, r', k⟩
  have hbs := hb s [u] I.kIn rfl
  refine wpAny_call (codeAny_mono (FO.run A X.stack s H ⟨[u], []⟩ [u] [v] _ E0 sb.room e0 (by simpa using hbs) (.cons ru .nil) hsp) fun r s' hq => ?_)
  cases r with
  | error x => exact (sc.cx _ _ _ _ _ hq).elim
  | ok fl =>
    cases fl with
    | ret u' =>
      obtain ⟨v', H', I', ru', Hs', d', q1, q2, q3, q4⟩ := I.after hq
      exact ⟨v', H', Hs', d', I', ru', q1, q2, q3, q4⟩
    | next => exact False.elim hq
    | brk => exact False.elim hq
    | cont => exact False.elim hq
def rSortK (F : Fx) (f : Addr) (m : List D → T D) : List V → List V → Hp → VK → Prop := fun vs zs H Q => ∃ en Hs τ ρ σ ds, EnvOk F.C en Hs τ ρ σ H ∧ Paired (RepO F.C en Hs ρ σ) ds vs ∧ zs = [.ref f] ∧
  (sortKM m ds).wp (fun l => ∀ a H' Hs', EnvOk F.C en Hs' ((a, .lst l) :: τ) ρ σ H' → Sub Hs Hs' → Q (.ref a) H') (fun _ _ => False)
theorem cr_sortK {X : Cx} {lev : Nat} {f : Addr} {fd : FuncData} {p1 : Str} {m : List D → T D} (sc : SC F S X) (FO : FnOk X.prog X.w X.K X.mg X.base F.CX lev f fd [p1] (spM F 1 m)) (hb : Binds X.K fd [p1] []) (hr : Room (lev + 2) X.A) :
    CallRK X (.builtin "sorted") [Str.ofString "key"] (rSortK F f m) := by
  intro pins s σ' H xs zs us ws Q I r rz ⟨en, Hs, τ, ρ, σ, ds, e0, rs, ez, w⟩
  subst ez
  obtain ⟨u0, rfl, ru0⟩ := rz.one
  cases ru0
  unfold sortKM at w
  split at w
  · rename_i ds
    split at w
    · rename_i hlen
      cases rs with
      | cons r1 t =>
        cases t
        obtain ⟨a0, vs, rfl, hH, rl⟩ := r1.list e0
        obtain ⟨its, rv, hl, hz⟩ := I.list (SqL.of (K := X.K) hH)
        rw [Vals.ref1 r]
        have lv := rv.length
        have sb : L2.Sub X lev X.A.in1.in1 := (Sub.in1 (Sub.in1 (⟨hr, rfl⟩ : L2.Sub X (lev + 2) X.A)))
        have hun := sb.room.un
        refine PySem.W.sorted_of_sort hl.isList (by omega) (ksk_s1 _ _) (fun _ => ksk_l1 _ _) fun E' => ?_
        show wpAny _ _ (Builtin.«list.sort» ⟨[.ref (s.heap.objs.size + 1)], [(Str.ofString "key", .ref f)]⟩) _ _ _
        rw [ksk_t1]
        unfold ksk_tree
        have ho := PySem.W.copyHeap_at s.heap its
        have hzi : its.toArray.size ≤ sizeLine := by rw [List.size_toArray]; omega
        obtain ⟨e1, ho1⟩ : ∃ e1, ((PySem.W.copyHeap s.heap its).update (s.heap.objs.size + 1) (Obj.mapSeq fun _ => (#[] : Array Value))).get? (s.heap.objs.size + 1) = some (seqObj "list" #[] e1) := ⟨_, get?_update_seq ho fun _ => #[]⟩
        refine wpAny_bind (listItems_at ho rfl ?_)
        refine wpAny_bind (listUpdate_at ho rfl ?_ hzi (Nat.zero_le _))
        refine wpAny_bind (seqEpoch_at ho1 rfl ?_)
        refine wpAny_bind (wpAny_newTuple ?_ (by show its.toArray.toList.length ≤ _; simpa using hzi))
        refine wpAny_bind (wpAny_newList ?_ (Nat.zero_le _))
        refine wpAny_holding ?_
        have hk0 : s.heap.objs.size + 1 < (((PySem.W.copyHeap s.heap its).update (s.heap.objs.size + 1) (Obj.mapSeq fun _ => (#[] : Array Value))).push (seqObj "tuple" its.toArray 0)).objs.size := Heap.lt_size (Heap.get?_push_of_some _ ho1)
        have gk : ((((PySem.W.copyHeap s.heap its).update (s.heap.objs.size + 1) (Obj.mapSeq fun _ => (#[] : Array Value))).push (seqObj "tuple" its.toArray 0)).push (seqObj "list" #[] 0)).get? (((PySem.W.copyHeap s.heap its).update (s.heap.objs.size + 1) (Obj.mapSeq fun _ => (#[] : Array Value))).push (seqObj "tuple" its.toArray 0)).objs.size = some (seqObj "list" #[] 0) := Heap.get?_push_size _ rfl
        have ga := Heap.get?_push_of_some (seqObj "list" #[] 0) (Heap.get?_push_of_some (seqObj "tuple" its.toArray 0) ho1)
        have old : ∀ b u, s.heap.get? b = some u → ((((PySem.W.copyHeap s.heap its).update (s.heap.objs.size + 1) (Obj.mapSeq fun _ => (#[] : Array Value))).push (seqObj "tuple" its.toArray 0)).push (seqObj "list" #[] 0)).get? b = some u := fun _ _ => PySem.W.sorting_copy_old
        generalize (((PySem.W.copyHeap s.heap its).update (s.heap.objs.size + 1) (Obj.mapSeq fun _ => (#[] : Array Value))).push (seqObj "tuple" its.toArray 0)).objs.size = kS at hk0 gk ⊢
        have frk : H kS = none := I.hok.fresh (by omega)
        have I1 := I.laid (a := kS) (o := .lst []) (t' := s.toks) old (by omega) ⟨Nat.zero_le _, [], 0, .nil, gk⟩
        have nea : (s.heap.objs.size + 1 : Nat) ≠ kS := by omega
        have loc := I.lt
        have I2 := I1.pins_of (pins' := (s.heap.objs.size + 1, seqObj "list" #[] e1) :: pins) fun p hp => by
          rcases List.mem_cons.mp hp with rfl | hp
          · refine ⟨ga, ?_, fun z => ?_, I.nofs (Nat.le_succ _), fun v z => by cases z⟩
            · rw [upd_ne nea]
              exact I.hok.fresh (Nat.le_succ _)
            · have z' : s.heap.objs.size + 1 = X.env.locals := z
              rw [← z'] at loc
              exact absurd loc (Nat.not_lt.mpr (Nat.le_succ _))
          · exact I1.pin p (List.mem_append_right _ hp)
        refine key_walk (keyF_fn (σ := σ) (ρ := ρ) (en := en) sc FO hb sb) sc.K (by omega) I2 (e0.allocT frk .nil) (by omega) rv rl (Nat.le_succ_of_le I.sz) (fun p hp z => ?_) (T.wp_bind.mp w) (fun ks hks => ?_) fun Hs2 H2 ks ys s2 I3 hn wk e2 sb2 r2 => ⟨rfl, .ref _, _, I3, rfl, ?_⟩
        · have q := Heap.lt_size (I.pin p hp).1
          rw [z] at q
          exact absurd q (Nat.not_lt.mpr (Nat.le_succ _))
        · by_cases h : sortableC ks = true
          · exact h
          · rw [if_neg h] at hks
            exact hks.elim
        · by_cases h : sortableC ks = true
          · rw [if_pos h] at wk
            exact wk _ _ _ (e2.allocT hn r2) sb2
          · rw [if_neg h] at wk
            exact wk.elim
    · exact w.elim
  · exact w.elim
theorem paired_sub {C : Ct} {en : Ent} {Hs Hs' : Hp} {σ : L2.St} (s : Sub Hs Hs') : ∀ {ds : List D} {vs : List V}, Paired (RepO C en Hs ρ σ) ds vs → Paired (RepO C en Hs' ρ σ) ds vs
  | _, _, .nil => .nil
  | _, _, .cons r t => .cons (r.sub s) (paired_sub s t)
theorem noX_any {α : Type} {m : T α} {Q : α → Prop} {E E' : Str → List (Str × D) → Prop} (h : m.noX.wp Q E) : m.noX.wp Q E' := by
  induction m with
  | ret a => exact h
  | exc c fs => exact h
  | stuck => exact h
  | draw n k ih => exact fun i hi => ih i (h i hi)
theorem keysM_any {kf : List D → T D} {E E' : Str → List (Str × D) → Prop} : ∀ {ds : List D} {Q : List D → Prop}, (keysM kf ds).wp Q E → (keysM kf ds).wp Q E'
  | [], _, h => h
  | d :: ds, Q, h => by
    refine T.wp_bind.mpr (T.wp_mono (noX_any (T.wp_bind.mp h)) (fun k hk => ?_) fun _ _ z => z)
    exact T.wp_bind.mpr (T.wp_mono (keysM_any (T.wp_bind.mp hk)) (fun ks z => z) fun _ _ z => z)
theorem sortKM_any {kf : List D → T D} {E E' : Str → List (Str × D) → Prop} {l : List D} {Q : List D → Prop} (h : (sortKM kf l).wp Q E) : (sortKM kf l).wp Q E' := by
  unfold sortKM at h
  split at h
  · rename_i ds
    split at h
    · rename_i hz
      show (if ds.length ≤ sizeLine then (keysM kf ds).bind fun ks => if sortableC ks = true then T.ret (sortByD ds ks) else .stuck else .stuck).wp Q E'
      rw [if_pos hz]
      refine T.wp_bind.mpr (T.wp_mono (keysM_any (T.wp_bind.mp h)) (fun ks hk => ?_) fun _ _ z => z)
      split at hk
      · rename_i hs
        rw [if_pos hs]
        exact hk
      · exact hk.elim
    · exact h.elim
  · exact h.elim
/-- sorted(xs, key=f) -/
theorem evl_sortK (j jf : Nat) {a : Expr} {xf p1 : Str} {lev : Nat} {m : List D → T D} {kw : List (List Str × List Nat)} {ms : T (List D)} {p pf pk pos : Pos} (h : EvA F S ρ [a] ms) (hj : F.G[j]? = some ((("sorted" : Str)), GE.blt) := by rfl) (hv : S.gl.contains j = true := by rfl)
    (hjf : F.G[jf]? = some (xf, .fn lev [p1] m kw) := by rfl) (hvf : S.gl.contains jf = true := by rfl) (hl : Nat.ble (lev + 2) S.L = true := by rfl) (hs : [a].all (fun e => !isStar e) = true := by rfl) :
    EvL F S ρ (.Call (.Name "sorted" p) [a] [⟨some "key", .Name xf pf, pk⟩] pos) (ms.bind (sortKM m)) := fun X sc en => by
  obtain ⟨h1, h2, h3, q1⟩ := sc.glOk hv hj
  obtain ⟨g1, g2, g3, hm, f, fd, k1, k2, k3, k4, k5⟩ := sc.glOk hvf hjf
  rw [List.all_cons, Bool.and_eq_true, Bool.not_eq_true'] at hs
  have FO : FnOk X.prog X.w X.K X.mg X.base F.CX lev f fd [p1] (spM F 1 m) := by rw [sc.prog, sc.w, sc.K, sc.mg, sc.base]; exact k2
  have hc := cr_sortK sc FO (by rw [sc.K]; exact k4) (sc.room.mono (Nat.le_of_ble_eq_true hl))
  have hk := evk_cons (nm := some "key") (p := pk) (ev_fnv (F := F) (S := S) (ρ := ρ) (pos := pf) jf hjf hvf) evk_nil
  refine peW (pe_callBK hc h1 (by rw [sc.mg]; exact q1) (by decide +kernel) (h X sc en) (hk X sc en) h3 h2 (by rw [star_cons hs.1]; rfl) (by rw [star_cons hs.1]; rfl)) fun σ H Q ⟨Hs, τ, e0, w⟩ => ?_
  refine ⟨Hs, τ, e0, T.wp_mono (T.wp_bind.mp w) (fun ds w1 vs H1 Hs1 e1 s1 r1 => ⟨Hs1, τ, e1, ?_⟩) fun _ _ k => k⟩
  intro zs H2 Hs2 e2 s2 r2
  cases r2 with
  | cons r3 t =>
    cases t
    cases r3 with
    | fn hx =>
      obtain rfl : f = _ := by
        have q := k1.symm.trans hx
        injection q with q
        injection q
      refine ⟨en, Hs2, τ, ρ, σ, ds, e2, ?_, rfl, T.wp_mono (sortKM_any w1) (fun l k a H' Hs' e' s' => k a H' Hs' e' (Sub.trans s1 (Sub.trans s2 s'))) fun _ _ z => z⟩
      exact paired_sub s2 r1
end
end MS

/-! Exceptions 2: an exception's __init__; raise. -/
namespace MS
open PySem PySem.Spec PyProof.Rows L2
/-- the state between two of its rows -/
def exSt (H : Hp) (x Cl : Addr) (od : Option Addr) (fs : List (Str × V)) : Hp := match od with
  | none => H
  | some dx => upd (upd H dx (exd dx fs)) x (exo x Cl (some dx))
theorem initx_walk {X : Cx} {flds : List Str} (hN : X.N = ("self" : Str) :: flds) (hnd : X.N.Nodup) (hsc : ∀ f ∈ X.N, X.env.scope.names.lookup f = some NameKind.local) (hdb : ∀ f ∈ X.N, (f == ("__debug__" : Str)) = false ∧ (f == ("__classdict__" : Str)) = false) {x Cl : Addr} {args : List V} (hc : OexE X.K Cl) (hna : ∀ f ∈ flds, PySem.W.findIn X.K (.ref Cl) f = some none) (hl : args.length = flds.length) (h1000 : flds.length < 900) :
    ∀ {pre rest : List Str} {sts : List Stmt}, flds = pre ++ rest → InitB rest sts → ∃ t, PSs X sts t ∧ ∀ (D : Ends) (H : Hp), H x = some (exo x Cl none) →
      (pre = [] → (∀ dx, H dx = none → dx ≠ x → D.nx (L2.start X.N (.ref x :: args)) (upd (upd H dx (exd dx (flds.zip args).reverse)) x (exo x Cl (some dx)))) → rest ≠ [] → t D (L2.start X.N (.ref x :: args)) H) ∧
      (∀ dx, H dx = none → dx ≠ x → pre ≠ [] → D.nx (L2.start X.N (.ref x :: args)) (upd (upd H dx (exd dx (flds.zip args).reverse)) x (exo x Cl (some dx))) →
        t D (L2.start X.N (.ref x :: args)) (upd (upd H dx (exd dx ((flds.zip args).take pre.length).reverse)) x (exo x Cl (some dx)))) := by
  intro pre rest sts he hib
  induction hib generalizing pre with
  | nil =>
    refine ⟨_, pss_nil, fun D H hx => ⟨fun _ _ z => absurd rfl z, fun dx hd hne _ hq => ?_⟩⟩
    have e1 : (flds.zip args).take pre.length = flds.zip args := by
      rw [List.append_nil] at he
      rw [List.take_of_length_le]
      rw [List.length_zip, hl, he]
      simp
    rw [e1]
    exact hq
  | cons h ih =>
    rename_i f fs sts _ _ _ _
    obtain ⟨t, ht, hw⟩ := ih (pre := pre ++ [f]) (by rw [he]; simp)
    have hi : X.N[pre.length + 1]? = some f := by
      rw [hN, List.getElem?_cons_succ, he, List.getElem?_append_right (Nat.le_refl _), Nat.sub_self]
      rfl
    have hpl : pre.length < args.length := by
      rw [hl, he, List.length_append, List.length_cons]
      omega
    have hm : f ∈ X.N := List.mem_of_getElem? hi
    have hs : ("self" : Str) ∈ X.N := by rw [hN]; exact List.mem_cons_self ..
    have ha := fun q => pe_var (X := X) (pos := q) (i := 0) (x := ("self" : Str)) (by rw [hN]; rfl) (.inl (hsc _ hs)) (hdb _ hs).1 (hdb _ hs).2
    have hv := fun q => pe_var (X := X) (pos := q) (i := pre.length + 1) (x := f) hi (.inl (hsc _ hm)) (hdb _ hm).1 (hdb _ hm).2
    have st0 : (L2.start X.N (.ref x :: args))[0]? = some (some (.ref x)) := by
      unfold L2.start
      rfl
    have st1 : (L2.start X.N (.ref x :: args))[pre.length + 1]? = some (some args[pre.length]) := by
      unfold L2.start
      rw [List.getElem?_append_left (by simp; omega), List.getElem?_map, List.getElem?_cons_succ, List.getElem?_eq_getElem hpl]
      rfl
    have hfl : pre.length < flds.length := by omega
    have hff : flds[pre.length] = f := by
      have := hi
      rw [hN, List.getElem?_cons_succ, List.getElem?_eq_getElem hfl] at this
      exact Option.some.inj this
    have hzl : pre.length < (flds.zip args).length := by
      rw [List.length_zip]
      omega
    have eput : ((flds.zip args).take (pre.length + 1)).reverse = (f, args[pre.length]) :: ((flds.zip args).take pre.length).reverse := by
      rw [List.take_succ_eq_append_getElem hzl, List.reverse_append, List.getElem_zip, hff]
      rfl
    have el : (pre ++ [f]).length = pre.length + 1 := by simp
    have hnf : PySem.W.findIn X.K (.ref Cl) f = some none := hna f (by rw [he]; simp)
    refine ⟨_, pss_cons (ps_est (ha _) (hv _) (by rfl)) ht, fun D H hx => ⟨fun hp hq _ => ?_, fun dx hd hne hp hq => ?_⟩⟩
    · subst hp
      refine ⟨_, st1, _, st0, x, Cl, rfl, hc, hnf, .inl ⟨hx, fun dx hd hne => ?_⟩⟩
      have := (hw D H hx).2 dx hd hne (by simp) (hq dx hd hne)
      rw [el, eput] at this
      exact this
    · have hlz : ((flds.zip args).take pre.length).reverse.length ≤ 900 := by
        rw [List.length_reverse, List.length_take, List.length_zip]
        omega
      refine ⟨_, st1, _, st0, x, Cl, rfl, hc, hnf, .inr ⟨dx, _, upd_same, by rw [upd_ne hne, upd_same], hlz, ?_⟩⟩
      have := (hw D H hx).2 dx hd hne (by simp) hq
      rw [el, eput] at this
      have e2 : upd (upd (upd H dx (exd dx ((flds.zip args).take pre.length).reverse)) x (exo x Cl (some dx))) dx (exd dx ((f, args[pre.length]) :: ((flds.zip args).take pre.length).reverse)) = upd (upd H dx (exd dx ((f, args[pre.length]) :: ((flds.zip args).take pre.length).reverse))) x (exo x Cl (some dx)) := by
        funext y
        unfold upd
        by_cases h1 : y = dx
        · subst h1
          rw [if_pos rfl, if_neg hne, if_pos rfl]
        · rw [if_neg h1]
          by_cases h2 : y = x
          · rw [if_pos h2, if_pos h2]
          · rw [if_neg h2, if_neg h2, if_neg h1, if_neg h1]
      rw [e2]
      exact this
theorem initx_ok {F : Fx} {x qual : Str} {args : Arguments} {body : List Stmt} {scope : Scope} {f : Addr} {fd : FuncData} {flds : List Str} (D0 : FunD F.K x qual args body scope [] [] f fd) (hib : InitB flds body) (hsc : FnScope (("self" : Str) :: flds) (("self" : Str) :: flds) scope)
    (hl : ((("self" : Str) :: flds).all fun f => decide (scope.names.lookup f = some NameKind.local) && !(f == ("__debug__" : Str)) && !(f == ("__classdict__" : Str))) = true) (h1000 : flds.length < 900) (hne : flds ≠ []) : FnOk F.P F.w F.K F.mg F.base F.CX 1 f fd (("self" : Str) :: flds) (spX F.K flds) := by
  rw [List.all_eq_true] at hl
  refine D0.ok (k := 0) hsc (fun vs H Q E h => ?_) fun cdv A outer s H vs Q E hr h => ?_
  · obtain ⟨x, Cl, args, rfl, _, _, _, hl, _⟩ := h
    rw [List.length_cons, List.length_cons, hl]
  · obtain ⟨x, Cl, as, rfl, hH, hc, hna, hlen, hQ⟩ := h
    obtain ⟨t, ht, hw⟩ := initx_walk (X := cxOf F.CX F.P F.w F.K F.mg F.base (("self" : Str) :: flds) qual scope f cdv A outer s H E) (flds := flds) rfl hsc.nd (fun f hf => by
      have := hl f hf
      simp only [Bool.and_eq_true, decide_eq_true_eq] at this
      exact this.1.1) (fun f hf => by
      have := hl f hf
      simp only [Bool.and_eq_true, Bool.not_eq_true'] at this
      exact ⟨this.1.2, this.2⟩) (x := x) hc hna hlen h1000 (pre := []) rfl hib
    exact ⟨t, ht, (hw _ H hH).1 rfl (fun dx h1 h2 => hQ dx h1 h2) hne⟩
/-! ### raise -/
def raiseM (c : Str) (flds : List Str) (ds : List D) : T D := if ds.length = flds.length then .exc c (flds.zip ds).reverse else .stuck
theorem repF_append {C : Ct} {g : Gh} {H : Hp} : ∀ {fs gs : List (Str × D)} {vs ws : List (Str × V)}, RepF C g H fs vs → RepF C g H gs ws → RepF C g H (fs ++ gs) (vs ++ ws)
  | _, _, _, _, .nil, k => k
  | _, _, _, _, .cons r t, k => .cons r (repF_append t k)
theorem repF_reverse {C : Ct} {g : Gh} {H : Hp} : ∀ {fs : List (Str × D)} {vs : List (Str × V)}, RepF C g H fs vs → RepF C g H fs.reverse vs.reverse
  | _, _, .nil => .nil
  | _, _, .cons r t => by
    rw [List.reverse_cons, List.reverse_cons]
    exact repF_append (repF_reverse t) (.cons r .nil)
section
variable {F : Fx} {S : Sx} {ρ : DEnv} {e : Expr} {es : List Expr} {pos pos' p : Pos} {x : Str} {J : Js}
theorem bl_raise (j : Nat) {flds : List Str} {ms : T (List D)} (h : EvV F S ρ (e :: es) ms) (hj : F.G[j]? = some (x, .exc flds) := by rfl) (hv : S.gl.contains j = true := by rfl) (hl : Nat.ble 2 S.L = true := by rfl)
    (hs : (e :: es).all (fun e => !isStar e) = true := by rfl) : Bl F S ρ [.Raise (some (.Call (.Name x p) (e :: es) [] pos)) none pos'] J (ms.bind (raiseM x flds)) := fun X sc en => by
  obtain ⟨h1, h2, h3, Cl, fI, fd, q1, q2, q3, q4, q5, q6, q7, q8⟩ := sc.glOk hv hj
  rw [List.all_cons, Bool.and_eq_true, Bool.not_eq_true'] at hs
  have FO : FnOk X.prog X.w X.K X.mg X.base F.CX 1 fI fd (("self" : Str) :: flds) (spX F.K flds) := by rw [sc.prog, sc.w, sc.K, sc.mg, sc.base]; exact q5
  have hp := ps_raise (pos := pos') sc.calm sc.tk (pmk_oexE (p := p) (pos := pos) (ds := []) (dvs := []) (by rw [sc.K]; exact q2) (by rw [sc.K]; exact q3) (by rw [sc.K]; exact q4) FO (sc.room.mono (Nat.le_of_ble_eq_true hl)) (by rw [sc.K]; exact q6) .nil (fun _ _ _ _ _ _ _ c => (sc.cx _ _ _ _ _ c).elim) h1 (by rw [sc.mg]; exact q1) (h X sc en) h2 (star_cons hs.1 _ _) (noStar _ hs.2 _ _))
  refine pssW (pss_one hp) fun D σ H ⟨Hs, Rt, e0, w, r, n, b, c⟩ => ?_
  refine ⟨Hs, [], e0, T.wp_mono (T.wp_bind.mp w) (fun ds w1 vs H1 Hs1 e1 s1 r1 => ?_) fun _ _ k => k⟩
  unfold raiseM at w1
  split at w1
  · rename_i hlen
    refine ⟨by rw [← r1.length, hlen]; omega, fun a na => ?_⟩
    rw [List.append_nil]
    refine ⟨a, Cl, vs, rfl, upd_same, q2, q7, by rw [← r1.length]; exact hlen, fun dx ndx ne => ⟨rfl, dx, _, upd_same, by rw [upd_ne ne, upd_same], ?_, ?_⟩⟩
    · rw [upd_ne ne] at ndx
      exact ndx
    · rw [upd_ne ne] at ndx
      have e3 : upd (del (upd (upd (upd H1 a (exo a Cl none)) dx (exd dx (flds.zip vs).reverse)) a (exo a Cl (some dx))) a) dx (.xd (flds.zip vs).reverse) = upd H1 dx (.xd (flds.zip vs).reverse) := by
        funext y
        unfold upd del
        by_cases h1 : y = dx
        · rw [if_pos h1, if_pos h1]
        · rw [if_neg h1, if_neg h1]
          by_cases h2 : y = a
          · rw [if_pos h2, h2, na]
          · simp [h1, h2]
      rw [e3]
      exact w1 _ _ _ _ (e1.wd.alloc ndx _) (.mk q1 upd_same ((repF_reverse (repF_zip flds r1)).sub (sub_upd (e1.wd.none_in ndx).1)))
  · exact w1.elim
end
end MS

/-! Exceptions 3: try, its clauses with and without names. -/
namespace MS
open PySem PySem.Spec PyProof.Rows L2
abbrev HdW : Type := Value × Option Nat × (Addr → Value → Option Addr → TS)
def endsOf : Option Nat → Ends → Ends
  | none, D => D
  | some i, D => { nx := fun σ' H' => D.nx (σ'.set i none) H', rt := D.rt, bk := fun σ' H' => D.bk (σ'.set i none) H', ct := fun σ' H' => D.ct (σ'.set i none) H' }
def atOf : Option Nat → L2.St → Addr → L2.St
  | none, σ, _ => σ
  | some i, σ, a => σ.set i (some (.ref a))
/-- what the clauses wish of an exception of the body -/
def wMix (K : PySem.W.Frag) (Wout : WX) (D : Ends) : List HdW → WX
  | [] => Wout
  | (c, oi, ts) :: r => fun cls d σ H => ∃ b, PySem.W.exmOne K cls c = some b ∧ (b = true → ∀ a, H a = none → ts a cls d (endsOf oi D) (atOf oi σ a) H) ∧ (b = false → wMix K Wout D r cls d σ H)
/-- a clause's suite keeps what is told of it -/
def SuiteOk (X : Cx) (sts : List Stmt) (ts : Addr → Value → Option Addr → TS) : Prop := ∀ (a : Addr) (oe : Obj) (cls : Value) (d : Option Addr) (pn : List (Addr × Obj)), Zc cls d oe → (∃ vs, oe.data = .fields vs) → PSs (X.suite a ((a, oe) :: pn)) sts (ts a cls d)
inductive HdX (X : Cx) : List ExceptHandler → List HdW → Prop
  | nil : HdX X [] []
  | one {x : Str} {c : Value} {ts : Addr → Value → Option Addr → TS} {b₀ : Stmt} {suite : List Stmt} {np pos' : Pos} {hds : List ExceptHandler} {l : List HdW} (hc : Names X x c) (hsu : SuiteOk X (b₀ :: suite) ts) (r : HdX X hds l) :
      HdX X (.ExceptHandler (some (.Name x np)) none (b₀ :: suite) pos' :: hds) ((c, none, ts) :: l)
  | as {x n : Str} {i : Nat} {c : Value} {ts : Addr → Value → Option Addr → TS} {b₀ : Stmt} {suite : List Stmt} {np pos' : Pos} {hds : List ExceptHandler} {l : List HdW} (hc : Names X x c) (hi : X.N[i]? = some n) (hln : X.env.kindOf n = some .local) (hsu : SuiteOk X (b₀ :: suite) ts) (r : HdX X hds l) :
      HdX X (.ExceptHandler (some (.Name x np)) (some n) (b₀ :: suite) pos' :: hds) ((c, some i, ts) :: l)
section
variable {X Y : Cx} {pins pins' : List (Addr × Obj)} {D : Ends} {f : Flow} {s : Shared}
/-- an end in one context is an end in another -/
theorem sp_lift (h : ∀ σ H, Inv Y pins' σ H s → Inv X pins σ H s) (q : SP Y pins' D f s) : SP X pins D f s := by
  cases f with
  | ret u => exact q.elim fun v ⟨σ, H, I, r⟩ => ⟨v, σ, H, h σ H I, r⟩
  | _ => exact q.elim fun σ ⟨H, I, r⟩ => ⟨σ, H, h σ H I, r⟩
/-- an end of a clause with a name: the name goes -/
theorem sp_gone {i : Nat} {n : Str} {pos : Pos} (h : ∀ σ H, Inv Y pins' σ H s → Inv X pins σ H s) (hN : X.N.Nodup) (hi : X.N[i]? = some n) (hl : X.env.kindOf n = some .local) (q : SP Y pins' (endsOf (some i) D) f s) :
    wpAny (model X.prog X.w) X.A (do bindName X.env n .none; unbindBehindTheSuite X.env n pos) (fun _ s7 => SP X pins D f s7) X.xe s := by
  cases f with
  | ret u =>
    obtain ⟨v, σ, H, I, r, z⟩ := q
    exact gone_ok (h σ H I) hN hi hl fun s7 J => ⟨v, _, _, J, r, z⟩
  | _ =>
    obtain ⟨σ, H, I, z⟩ := q
    exact gone_ok (h σ H I) hN hi hl fun s7 J => ⟨_, _, J, z⟩
end
section
variable {X : Cx} {hds : List ExceptHandler} {l : List HdW} {pins : List (Addr × Obj)} {σ : L2.St} {H : Hp} {D : Ends} {cls : Value} {d : Option Addr} {a : Addr} {B : Heap} {s : Shared} {Wout : WX}
/-- the clauses, one behind another, an exception having landed -/
theorem clauses_ok (hf : X.env.frame = some X.env.locals) (hN : X.N.Nodup) (ok : X.Ok) (na : H a = none) (nL : a ≠ X.env.locals) (nF : a ∉ X.fs) (fl : HandSPX.FlyingZ B (X.env :: X.outer) a (Zc cls d) s.heap)
    (hI : ∀ h, B.StaysIn h → s.heap.UpToSlots h → Inv X pins σ H { s with heap := h }) (hout : Wout cls d σ H → ∀ h, HandSPX.HeldZ B (X.env :: X.outer) a (Zc cls d) X.env.locals h → s.heap.UpToSlots h → X.xe (.ref a) { s with heap := h })
    (hk : HdX X hds l) (w : wMix X.K Wout D l cls d σ H) : wpAny (model X.prog X.w) X.A (handleBy (.ref a) X.env hds) (SP X pins D) X.xe s := by
  have J : Inv X pins σ H s := hI s.heap fl.1 (Heap.UpToSlots.refl _)
  obtain ⟨oe, vs, he, hz, hd⟩ := fl.there
  have S := J.suite he hd na nL nF
  have hty : PySem.W.Looks (model X.prog X.w) s.heap (typeOf (.ref a)) cls := fun A Q E s k q => wpAny_typeOf_ref (k _ _ he) (by rw [hz.1]; exact q)
  have named : ∀ {x : Str} {c : Value} {np : Pos} {Q : Value → Shared → Prop} {E : Value → Shared → Prop}, Names X x c → Q c s → wpAny (model X.prog X.w) (X.A.mark (some (.ref a))) (eval (.Name x np) X.env) Q E s := fun {x c np Q E} ⟨hg, hb, hc⟩ q => by
    rcases hc with hm | ⟨hm, hv, hnn⟩
    · exact ld_glob (X := X.suite a ((a, oe) :: (X.pn ++ pins))) S hg hm q hb
    · exact ld_blt (X := X.suite a ((a, oe) :: (X.pn ++ pins))) S hg hm hv q hnn hb
  have lands : ∀ {A : Around} {E : Value → Shared → Prop} {Q : Unit → Shared → Prop}, (∀ h oe, Inv (X.suite a ((a, oe) :: (X.pn ++ pins))) [] σ H { s with heap := h } → Zc cls d oe → (∃ vs, oe.data = .fields vs) → Q () { s with heap := h }) →
      wpAny (model X.prog X.w) A (setFlight (.ref a) none) Q E s := fun {A E Q} q => HandSPX.lands_againZ fl fun h fl' up => by
    obtain ⟨oe', vs', he', hz', hd'⟩ := fl'.there
    exact q h oe' ((hI h fl'.1 up).suite he' hd' na nL nF) hz' ⟨_, hd'⟩
  induction hk with
  | nil =>
    refine wpAny_handleBy_nil ?_
    obtain ⟨_, _, _, oe2, vs2, T, _, _, he2, _, hd2, h1, _⟩ := id fl
    have up : wpAny (model X.prog X.w) X.A (setFlight (.ref a) X.env.frame) (fun _ s4 => wpAny (model X.prog X.w) X.A (throw (.ref a) : Sem Flow) (SP X pins D) X.xe s4) X.xe s := by
      rw [hf]
      exact HandSPX.setFlight_upZ fl fun h hh u => wpAny_throw (hout w h hh u)
    unfold PySem.passOn
    refine wpAny_bind (wpAny_field he2 hd2 h1 ?_)
    rw [if_neg (by simp)]
    first
      | exact wpAny_bind (wpAny_pure (wpAny_bind up))
      | exact wpAny_bind up
  | one hc hsu r ih =>
    obtain ⟨b, hb, hyes, hno⟩ := w
    refine wpAny_handleBy_cons (codeAny_handlers_test (named hc ((PySem.W.exm_one (M := model X.prog X.w) J.kIn hty hb).here ?_))) (by intro q; cases q)
    cases b with
    | true =>
      refine codeAny_handlers_suite (lands fun h oe' S4 hz' hd' => ?_)
      exact wpAny_mono ((hsu a oe' cls d (X.pn ++ pins) hz' hd').run [] _ _ _ D S4 (hyes rfl a na)) (fun f s6 q => sp_lift (X := X) (pins := pins) (fun _ _ I => I.unsuite ok) q) fun _ _ z => z.elim
    | false => exact ih (hno rfl)
  | as hc hi hln hsu r ih =>
    obtain ⟨b, hb, hyes, hno⟩ := w
    refine wpAny_handleBy_cons (codeAny_handlers_test (named hc ((PySem.W.exm_one (M := model X.prog X.w) J.kIn hty hb).here ?_))) (by intro q; cases q)
    cases b with
    | true =>
      refine codeAny_handlers_suite_as (lands fun h oe' S4 hz' hd' => ?_)
      refine store_ok (X := X.suite a ((a, oe') :: (X.pn ++ pins))) (v := .ref a) S4 hN hi (.inl hln) rfl (fun s5 S5 => ?_) (.inr hln)
      exact wpAny_mono ((hsu a oe' cls d (X.pn ++ pins) hz' hd').run [] s5 _ _ _ S5 (hyes rfl a na)) (fun f s6 q => sp_gone (fun _ _ I => I.unsuite ok) hN hi hln q) fun _ _ z => z.elim
    | false => exact ih (hno rfl)
end
section
variable {X : Cx} {body : List Stmt} {h₀ : ExceptHandler} {hds : List ExceptHandler} {l : List HdW} {pos : Pos} {tb : WX → TS} {Wout : WX}
theorem ps_try_mix (hs : X.stack = X.env :: X.outer) (hf : X.env.frame = some X.env.locals) (hN : X.N.Nodup) (tk : Takes X Wout)
    (hb : ∀ (W : WX) (pn : List (Addr × Obj)) (xe : Value → Shared → Prop), Takes (X.tr pn xe) W → PassesOwn (model X.prog X.w) X.A X.env xe → PSs (X.tr pn xe) body (tb W))
    (hh : HdX X (h₀ :: hds) l) : PS X (.Try body (h₀ :: hds) [] [] pos) (fun D σ H => tb (wMix X.K Wout D l) D σ H) := by
  refine ⟨fun pins s σ H D I h => wpAny_Try_except ?_⟩
  have ok := I.ok
  have hfr : X.A.frames = some (X.env :: X.outer) := by rw [ok.frames, hs]
  let caught : Value → Shared → Prop := fun e s₁ => wpAny (model X.prog X.w) X.A (noteFrame e X.env) (fun _ s₂ => wpAny (model X.prog X.w) X.A (setFlight e none) (fun _ s₃ => wpAny (model X.prog X.w) X.A (handleBy e X.env (h₀ :: hds)) (SP X pins D) X.xe s₃) X.xe s₂) X.xe s₁
  have tk' : Takes (X.tr (X.pn ++ pins) caught) (wMix X.K Wout D l) := fun u s' ⟨a, B, sI, pins', σ', H', cls, d, e, J', nb, up, sky, na, os, ag, w⟩ => by
    subst e
    have J : Inv X pins σ' H' sI := J'.ofTry ok
    show wpAny (model X.prog X.w) X.A (noteFrame (.ref a) X.env) _ _ _
    refine Sky.land (outer := X.outer) (L := X.env.locals) Zc.steady hfr hf (by rw [← hs]; exact sky) fun h3 fl up3 => ?_
    have nfr : a ∉ frs (X.env :: X.outer) := fun hm => by
      obtain ⟨_, _, _, hd, q⟩ := fl.there
      obtain ⟨_, o', e', hnf⟩ := fl.2.2.1.mem hm
      have q2 := fl.there
      obtain ⟨oe, vs, he, _, hd⟩ := q2
      rw [he] at e'
      cases e'
      exact hnf _ hd
    refine clauses_ok (s := { s' with heap := h3 }) hf hN ok na (fun z => nfr (List.mem_filterMap.mpr ⟨X.env, List.mem_cons_self, by rw [hf, z]⟩)) (fun hm => ?_) fl (fun h st u => J.landed nb st ((up.trans up3).trans u) os ag) (fun w h hh u => tk _ _ ⟨a, B, sI, pins, σ', H', cls, d, rfl, J, nb, (up.trans up3).trans u, .inr (.inr (by rw [hs]; exact hh)), na, os, ag, w⟩) hh w
    obtain ⟨e, he, q⟩ := List.mem_filterMap.mp hm
    exact nfr (List.mem_filterMap.mpr ⟨e, List.mem_cons_of_mem _ he, q⟩)
  refine wpAny_mono ((hb _ _ _ tk' PassesOwn.looking).run [] s σ H D (I.toTry _) h) (fun f s1 q => ?_) fun e s1 he => he
  have q' : SP X pins D f s1 := sp_lift (fun _ _ I => I.ofTry ok) q
  cases f with
  | next => exact wpAny_execs_nil q'
  | _ => exact q'
end
end MS

/-! Exceptions 4: try by values. -/
namespace MS
open PySem PySem.Spec PyProof.Rows L2
/-! ### the mirrors -/
def tryK {α β : Type} (m : T α) (h : Str → List (Str × D) → T β) (k : α → T β) : T β := match m with
  | .ret a => k a
  | .exc c fs => h c fs
  | .stuck => .stuck
  | .draw n f => .draw n fun i => tryK (f i) h k
theorem wp_try {α β : Type} {m : T α} {h : Str → List (Str × D) → T β} {k : α → T β} {Q : β → Prop} {E : Str → List (Str × D) → Prop} : (tryK m h k).wp Q E ↔ m.wp (fun a => (k a).wp Q E) (fun c fs => (h c fs).wp Q E) := by
  induction m with
  | ret a => exact Iff.rfl
  | exc c fs => exact Iff.rfl
  | stuck => exact Iff.rfl
  | draw n f ih => exact ⟨fun z i hi => (ih i).mp (z i hi), fun z i hi => (ih i).mpr (z i hi)⟩
abbrev Hdl : Type := Str × (List (Str × D) → T D)
def pickM (anc : List Str) (c : Str) (fs : List (Str × D)) : List Hdl → T D
  | [] => .exc c fs
  | (x, h) :: r => bif anc.contains x then (h fs).noX else pickM anc c fs r
def catchM (exs : List (Str × List Str × List Str)) (hs : List Hdl) (c : Str) (fs : List (Str × D)) : T D := match exs.lookup c with
  | some (anc, fl) => bif fs.all fun q => fl.contains q.1 then pickM anc c fs hs else .stuck
  | none => .stuck
/-- e.f, e what was caught -/
def fldX (f : Str) (fs : List (Str × D)) : T D := match fs.lookup f with
  | some d => .ret d
  | none => .stuck
theorem noX_false {α : Type} {m : T α} {Q : α → Prop} {E : Str → List (Str × D) → Prop} (h : m.noX.wp Q E) : m.noX.wp Q (fun _ _ => False) := by
  induction m with
  | ret a => exact h
  | exc c fs => exact h.elim
  | stuck => exact h.elim
  | draw n k ih => exact fun i hi => ih i (h i hi)
/-! ### what is told in a clause's suite -/
def FsAt (F : Fx) (en : Ent) (Hs : Hp) (Cl : Addr) (d : Option Addr) (fs : List (Str × D)) : Prop :=
  XfC F.K Cl ∧ (∀ q ∈ fs, PySem.W.findIn F.K (.ref Cl) q.1 = some none) ∧ (fs = [] ∨ ∃ dd vfs, d = some dd ∧ Hs dd = some (.xd vfs) ∧ RepF F.C en.g Hs fs vfs)
theorem FsAt.sub {F : Fx} {en : Ent} {Hs Hs' : Hp} {Cl : Addr} {d : Option Addr} {fs : List (Str × D)} (s : Sub Hs Hs') (h : FsAt F en Hs Cl d fs) : FsAt F en Hs' Cl d fs := by
  obtain ⟨h1, h2, h3⟩ := h
  refine ⟨h1, h2, h3.imp id fun ⟨dd, vfs, a, b, c⟩ => ⟨dd, vfs, a, s _ _ b, c.sub s⟩⟩
def SlotAt (oi : Option Nat) (a : Addr) (σ : L2.St) : Prop := ∀ i, oi = some i → σ[i]? = some (some (.ref a))
def rdX (F : Fx) (en : Ent) (oi : Option Nat) (a Cl : Addr) (d : Option Addr) (m : List (Str × D) → T D) : TE := fun σ H Q => SlotAt oi a σ ∧ ∃ Hs fs, Wd en Hs H ∧ FsAt F en Hs Cl d fs ∧ (m fs).wp (fun d' => ∀ v H' Hs', Wd en Hs' H' → Sub Hs Hs' → Rep F.C en.g Hs' d' v → Q v H') (fun _ _ => False)
def rdXA (F : Fx) (en : Ent) (oi : Option Nat) (a Cl : Addr) (d : Option Addr) (m : List (Str × D) → T (List D)) : TA := fun σ H Q => SlotAt oi a σ ∧ ∃ Hs fs, Wd en Hs H ∧ FsAt F en Hs Cl d fs ∧ (m fs).wp (fun ds => ∀ vs H' Hs', Wd en Hs' H' → Sub Hs Hs' → RepL F.C en.g Hs' ds vs → Q vs H') (fun _ _ => False)
def EvX (F : Fx) (S : Sx) (oi : Option Nat) (e : Expr) (m : List (Str × D) → T D) : Prop := ∀ X, SC F S X → ∀ (en : Ent) (a : Addr) (oe : Obj) (Cl : Addr) (d : Option Addr) (pn : List (Addr × Obj)), Zc (.ref Cl) d oe → (∃ vs, oe.data = .fields vs) → PE (X.suite a ((a, oe) :: pn)) e (rdX F en oi a Cl d m)
def EvXA (F : Fx) (S : Sx) (oi : Option Nat) (es : List Expr) (m : List (Str × D) → T (List D)) : Prop := ∀ X, SC F S X → ∀ (en : Ent) (a : Addr) (oe : Obj) (Cl : Addr) (d : Option Addr) (pn : List (Addr × Obj)), Zc (.ref Cl) d oe → (∃ vs, oe.data = .fields vs) → PA (X.suite a ((a, oe) :: pn)) es (rdXA F en oi a Cl d m)
section
variable {F : Fx} {S : Sx} {ρ : DEnv} {e : Expr} {es : List Expr} {pos pos' p : Pos} {k i : Nat} {x n f : Str} {J : Js} {oi : Option Nat} {m : List (Str × D) → T D} {ms : List (Str × D) → T (List D)}
theorem x_int {i : Int} : EvX F S oi (.Constant (.int i) k pos) (fun _ => .ret (.int i)) := fun X sc en a oe Cl d pn hz hd => peW pe_int fun σ H Q ⟨_, Hs, fs, w, _, q⟩ => q _ H Hs w (Sub.refl _) (.int i)
theorem x_bool {i : Bool} : EvX F S oi (.Constant (.bool i) k pos) (fun _ => .ret (.bl i)) := fun X sc en a oe Cl d pn hz hd => peW pe_bl fun σ H Q ⟨_, Hs, fs, w, _, q⟩ => q _ H Hs w (Sub.refl _) (.bl i)
theorem x_none : EvX F S oi (.Constant .none k pos) (fun _ => .ret .non) := fun X sc en a oe Cl d pn hz hd => peW pe_non fun σ H Q ⟨_, Hs, fs, w, _, q⟩ => q _ H Hs w (Sub.refl _) .non
theorem x_str {z : Str} : EvX F S oi (.Constant (.str z) k pos) (fun _ => .ret (.str z)) := fun X sc en a oe Cl d pn hz hd => peW pe_str fun σ H Q ⟨_, Hs, fs, w, _, q⟩ => q _ H Hs w (Sub.refl _) (.str z)
theorem x_fld (hi : S.N[i]? = some n := by rfl) (hv : S.vl.contains i = true := by rfl) (hb : ∀ env : Env, attributeBase (.Name n p) f env (eval (.Name n p) env) = eval (.Name n p) env := by intros; rfl) : EvX F S (some i) (.Attribute (.Name n p) f pos) (fldX f) := fun X sc en a oe Cl d pn hz hd => by
  obtain ⟨h1, h2, h3⟩ := sc.visOk hv hi
  refine ⟨fun pins s σ H Q I ⟨sl, Hs, fs, w, at_, q⟩ => ?_⟩
  unfold fldX at q
  split at q
  · rename_i d' hl
    obtain ⟨xf, hno, fa⟩ := at_
    have hm : (f, d') ∈ fs := look_mem hl
    rcases fa with fa | ⟨dd, vfs, ed, hH, rf⟩
    · rw [fa] at hm
      cases hm
    · obtain ⟨v, y1, y2⟩ := rf.look hl
      exact (pe_xf (X := X) (C := Cl) (by rw [sc.K]; exact xf) (by rw [sc.K]; exact hno _ hm) hz hd (pe_var (X := X.suite a ((a, oe) :: pn)) (i := i) (by show X.N[i]? = _; rw [sc.N]; exact hi) h1 h2 h3) (hb _)).run pins s σ H Q I
        ⟨_, sl i rfl, rfl, rfl, dd, vfs, v, ed, w.sub _ _ hH, y1, q v H Hs w (Sub.refl _) y2⟩
  · exact q.elim
theorem xa_nil : EvXA F S oi [] (fun _ => .ret []) := fun X sc en a oe Cl d pn hz hd => paW pa_nil fun σ H Q ⟨_, Hs, fs, w, _, q⟩ => q _ H Hs w (Sub.refl _) .nil
theorem xa_cons (h1 : EvX F S oi e m) (h2 : EvXA F S oi es ms) (hs : isStar e = false := by rfl) : EvXA F S oi (e :: es) (fun fs => consM (m fs) (ms fs)) := fun X sc en a oe Cl d pn hz hd => by
  refine ⟨fun pos pins s σ H Q I ⟨sl, Hs, fs, w, at_, q⟩ => ?_⟩
  refine (pa_cons (h1 X sc en a oe Cl d pn hz hd) (h2 X sc en a oe Cl d pn hz hd) (star_cons hs es _)).run pos pins s σ H Q I ⟨sl, Hs, fs, w, at_, T.wp_mono (T.wp_bind.mp q) (fun d1 q1 v H1 Hs1 w1 s1 r1 => ⟨sl, Hs1, fs, w1, at_.sub s1, T.wp_mono (T.wp_bind.mp q1) (fun ds q2 vs H2 Hs2 w2 s2 r2 => ?_) fun _ _ z => z⟩) fun _ _ z => z⟩
  exact q2 (v :: vs) H2 Hs2 w2 (Sub.trans s1 s2) (.cons (r1.sub s2) r2)
theorem x_tup (h : EvXA F S oi es ms) : EvX F S oi (.Tuple es k pos) (fun fs => (ms fs).bind tupM) := fun X sc en a oe Cl d pn hz hd => by
  refine ⟨fun pins s σ H Q I ⟨sl, Hs, fs, w, at_, q⟩ => ?_⟩
  refine (pe_tup (h X sc en a oe Cl d pn hz hd)).run pins s σ H Q I ⟨sl, Hs, fs, w, at_, T.wp_mono (T.wp_bind.mp q) (fun ds q1 vs H1 Hs1 w1 s1 r1 => ?_) fun _ _ z => z⟩
  unfold tupM at q1
  split at q1
  · rename_i hz
    refine ⟨by rw [← r1.length]; exact hz, fun p hp => ?_⟩
    have n1 := (w1.none_in hp).1
    exact q1 (.ref p) _ _ (w1.alloc hp (.tup vs)) (Sub.trans s1 (sub_upd n1)) (.tup (.inl upd_same) (r1.sub (sub_upd n1)))
  · exact q1.elim
/-! ### clauses -/
def tsu (F : Fx) (en : Ent) (oi : Option Nat) (h : List (Str × D) → T D) (a : Addr) (cls : Value) (d : Option Addr) : TS := fun Dn σ H => ∃ Cl, cls = .ref Cl ∧ SlotAt oi a σ ∧ ∃ Hs fs, ∃ Rt : D → Prop, Wd en Hs H ∧ FsAt F en Hs Cl d fs ∧ (h fs).noX.wp Rt (fun _ _ => False) ∧
  ∀ d', Rt d' → ∀ v Hs' H', Wd en Hs' H' → Rep F.C en.g Hs' d' v → Dn.rt v H'
/-- a suite that gives something back -/
def SuD (F : Fx) (S : Sx) (oi : Option Nat) (sts : List Stmt) (h : List (Str × D) → T D) : Prop := ∀ X, SC F S X → ∀ en : Ent, SuiteOk X sts (tsu F en oi h)
theorem su_ret {rest : List Stmt} (he : EvX F S oi e m) : SuD F S oi (.Return (some e) pos :: rest) m := fun X sc en a oe cls d pn hz hd => by
  refine ⟨fun pins s σ H Dn I ⟨Cl, ec, sl, Hs, fs, Rt, w, at_, q, hr⟩ => ?_⟩
  subst ec
  refine (pss_cons (ps_ret (he X sc en a oe Cl d pn hz hd)) pss_never).run pins s σ H Dn I ⟨sl, Hs, fs, w, at_, T.wp_mono (T.noX_wp q) (fun d' k v H' Hs' w' _ r => hr d' k v Hs' H' w' r) fun _ _ z => z⟩
theorem su_retN {rest : List Stmt} : SuD F S oi (.Return none pos :: rest) (fun _ => .ret .non) := fun X sc en a oe cls d pn hz hd => by
  refine ⟨fun pins s σ H Dn I ⟨Cl, ec, sl, Hs, fs, Rt, w, at_, q, hr⟩ => ?_⟩
  exact (pss_cons ps_retN pss_never).run pins s σ H Dn I (hr _ q .non Hs H w .non)
def clsG : GE → Bool
  | .exc _ | .clv => true
  | _ => false
theorem clsG_at {F : Fx} {x : Str} {ge : GE} (h : clsG ge = true) (g : GEok F x ge) : ∃ C, F.mg x = some (.ref C) := by
  cases ge with
  | exc fl =>
    obtain ⟨Cl, _, _, h1, _⟩ := g
    exact ⟨Cl, h1⟩
  | clv => exact g
  | _ => cases h
inductive HdD (F : Fx) (S : Sx) : List ExceptHandler → List Hdl → Prop
  | nil : HdD F S [] []
  | one {j : Nat} {x : Str} {ge : GE} {h : List (Str × D) → T D} {b₀ : Stmt} {suite : List Stmt} {np pos' : Pos} {hds : List ExceptHandler} {l : List Hdl} (hj : F.G[j]? = some (x, ge)) (hc : clsG ge = true) (hv : S.gl.contains j = true) (hx : (F.exs.lookup x).isSome = true) (hsu : SuD F S none (b₀ :: suite) h) (r : HdD F S hds l) :
      HdD F S (.ExceptHandler (some (.Name x np)) none (b₀ :: suite) pos' :: hds) ((x, h) :: l)
  | as {i j : Nat} {x n : Str} {ge : GE} {h : List (Str × D) → T D} {b₀ : Stmt} {suite : List Stmt} {np pos' : Pos} {hds : List ExceptHandler} {l : List Hdl} (hj : F.G[j]? = some (x, ge)) (hc : clsG ge = true) (hv : S.gl.contains j = true) (hx : (F.exs.lookup x).isSome = true) (hi : S.N[i]? = some n) (hn : S.sc.names.lookup n = some .local) (hsu : SuD F S (some i) (b₀ :: suite) h) (r : HdD F S hds l) :
      HdD F S (.ExceptHandler (some (.Name x np)) (some n) (b₀ :: suite) pos' :: hds) ((x, h) :: l)
/-- the clauses as the lower layer has them -/
theorem hdd_hdx {X : Cx} (sc : SC F S X) (en : Ent) {hds : List ExceptHandler} {l : List Hdl} (h : HdD F S hds l) : ∃ lw : List HdW, HdX X hds lw ∧ ∀ (Wout : WX) (Dn : Ends) (c : Str) (anc fl : List Str) (fs : List (Str × D)) (Cl : Addr) (d : Option Addr) (Hs H : Hp) (σ : L2.St) (Rt : D → Prop) (E : Str → List (Str × D) → Prop),
    F.exs.lookup c = some (anc, fl) → F.mg c = some (.ref Cl) → Wd en Hs H → FsAt F en Hs Cl d fs → σ.length = X.N.length → (E c fs → Wout (.ref Cl) d σ H) → (∀ d', Rt d' → ∀ v Hs' H', Wd en Hs' H' → Rep F.C en.g Hs' d' v → Dn.rt v H') → (pickM anc c fs l).wp Rt E → wMix X.K Wout Dn lw (.ref Cl) d σ H := by
  have key : ∀ {x c : Str} {C Cl : Addr} {anc fl : List Str}, (F.exs.lookup x).isSome = true → F.mg x = some (.ref C) → F.exs.lookup c = some (anc, fl) → F.mg c = some (.ref Cl) → PySem.W.exmOne X.K (.ref Cl) (.ref C) = some (anc.contains x) := fun {x c C Cl anc fl} hx hm hc hmc => by
    obtain ⟨q, hq⟩ := Option.isSome_iff_exists.mp hx
    rw [sc.K]
    exact (sc.kit.2 _ (look_mem hc) Cl hmc).2 _ (look_mem hq) C hm
  induction h with
  | nil => exact ⟨[], .nil, fun Wout Dn c anc fl fs Cl d Hs H σ Rt E _ _ _ _ _ ho _ w => ho w⟩
  | @one j x ge h b₀ suite np pos' hds l hj hc hv hx hsu r ih =>
    obtain ⟨lw, k1, k2⟩ := ih
    obtain ⟨g1, g2, g3, g4⟩ := sc.glOk hv hj
    obtain ⟨C, hC⟩ := clsG_at hc g4
    refine ⟨(.ref C, none, tsu F en none h) :: lw, .one ⟨g1, g2, .inl (by rw [sc.mg]; exact hC)⟩ (hsu X sc en) k1, fun Wout Dn c anc fl fs Cl d Hs H σ Rt E y1 y2 y3 y4 yl y5 y6 w => ?_⟩
    refine ⟨anc.contains x, key hx hC y1 y2, fun hb a na => ?_, fun hb => k2 Wout Dn c anc fl fs Cl d Hs H σ Rt E y1 y2 y3 y4 yl y5 y6 ?_⟩
    · unfold pickM at w
      rw [hb] at w
      exact ⟨Cl, rfl, fun i z => (nomatch z), Hs, fs, Rt, y3, y4, noX_false w, y6⟩
    · unfold pickM at w
      rw [hb] at w
      exact w
  | @as i j x n ge h b₀ suite np pos' hds l hj hc hv hx hi hn hsu r ih =>
    obtain ⟨lw, k1, k2⟩ := ih
    obtain ⟨g1, g2, g3, g4⟩ := sc.glOk hv hj
    obtain ⟨C, hC⟩ := clsG_at hc g4
    refine ⟨(.ref C, some i, tsu F en (some i) h) :: lw, .as ⟨g1, g2, .inl (by rw [sc.mg]; exact hC)⟩ (by rw [sc.N]; exact hi) (by unfold Env.kindOf; rw [sc.sc]; exact hn) (hsu X sc en) k1, fun Wout Dn c anc fl fs Cl d Hs H σ Rt E y1 y2 y3 y4 yl y5 y6 w => ?_⟩
    refine ⟨anc.contains x, key hx hC y1 y2, fun hb a na => ?_, fun hb => k2 Wout Dn c anc fl fs Cl d Hs H σ Rt E y1 y2 y3 y4 yl y5 y6 ?_⟩
    · unfold pickM at w
      rw [hb] at w
      refine ⟨Cl, rfl, fun i' z => ?_, Hs, fs, Rt, y3, y4, noX_false w, y6⟩
      cases z
      have hlt : i < σ.length := by
        rw [yl, sc.N]
        exact (List.getElem?_eq_some_iff.mp hi).1
      exact List.getElem?_set_self hlt
    · unfold pickM at w
      rw [hb] at w
      exact w
end
end MS

/-! Exceptions 5: try statements. -/
namespace MS
open PySem PySem.Spec PyProof.Rows L2
section
variable {F : Fx} {S : Sx} {ρ : DEnv} {e : Expr} {body rest : List Stmt} {pos pos' p p' : Pos} {x : Str} {J : Js} {hds : List ExceptHandler} {h₀ : ExceptHandler} {l : List Hdl} {me : T D} {k : D → T D}
/-- the context of a body that is tried -/
theorem sc_try {X : Cx} (sc : SC F S X) (hCX : F.CX = L2.CX F.P F.w) {pn : List (Addr × Obj)} {xe : Value → Shared → Prop} {W : WX} {E' : XK} (tk : Takes (X.tr pn xe) W) (own : PassesOwn (model X.prog X.w) X.A X.env xe) (hW : ∀ cls d H', E' cls d H' → ∀ σ' : L2.St, σ'.length = X.N.length → W cls d σ' H') : SC F { S with E := E' } (X.tr pn xe) := by
  have tk' : Takes (X.tr pn xe) (fun cls d _ H => E' cls d H) := fun u s' ⟨a, B, sI, pins, σ, H, cls, d, e, I, nb, up, sky, na, os, ag, w⟩ => tk u s' ⟨a, B, sI, pins, σ, H, cls, d, e, I, nb, up, sky, na, os, ag, hW cls d H w σ I.len⟩
  exact { prog := sc.prog, w := sc.w, K := sc.K, mg := sc.mg, base := sc.base, N := sc.N, nd := sc.nd, sc := sc.sc, calm := sc.calm, room := sc.room, pass := by
            have h := passes_call (E := E') tk' fun _ _ _ _ h => h
            intro pins σ H s e s' I c
            refine h pins σ H s e s' I ?_
            rw [hCX, ← sc.prog, ← sc.w] at c
            exact c, tk := tk', top := sc.top, own := own, vis := sc.vis, fnc := sc.fnc, loc := sc.loc, glc := sc.glc, kit := sc.kit, ge := sc.ge, ke := sc.ke, cx := sc.cx }
theorem try_core {X : Cx} (sc : SC F S X) (hCX : F.CX = L2.CX F.P F.w) (hT : S.top = true) {lw : List HdW} (hh : HdX X (h₀ :: hds) lw) {tb0 : XK → TS} (hb : ∀ E' X', SC F { S with E := E' } X' → PSs X' body (tb0 E')) :
    PS X (.Try body (h₀ :: hds) [] [] pos) (fun D σ H => ∃ E' : XK, (∀ cls d H', E' cls d H' → ∀ σ' : L2.St, σ'.length = X.N.length → wMix X.K (fun cls d _ H => S.E cls d H) D lw cls d σ' H') ∧ tb0 E' D σ H) := by
  obtain ⟨t1, t2⟩ := sc.top hT
  exact ps_try_mix (tb := fun W D σ H => ∃ E' : XK, (∀ cls d H', E' cls d H' → ∀ σ' : L2.St, σ'.length = X.N.length → W cls d σ' H') ∧ tb0 E' D σ H) t1 t2 (by rw [sc.N]; exact sc.nd) sc.tk
    (fun W pn xe tk own => ⟨fun pins s σ H D I ⟨E', hW, h⟩ => (hb E' _ (sc_try sc hCX tk own hW)).run pins s σ H D I h⟩) hh
/-- an exception of the body at the clauses -/
theorem catch_ok {X : Cx} (sc : SC F S X) {en : Ent} {lw : List HdW} {Dn : Ends} {Hs0 H0 : Hp} {Rt : D → Prop} (w0 : Wd en Hs0 H0)
    (k2 : ∀ (Wout : WX) (Dn : Ends) (c : Str) (anc fl : List Str) (fs : List (Str × D)) (Cl : Addr) (d : Option Addr) (Hs H : Hp) (σ : L2.St) (Rt : D → Prop) (E : Str → List (Str × D) → Prop), F.exs.lookup c = some (anc, fl) → F.mg c = some (.ref Cl) → Wd en Hs H → FsAt F en Hs Cl d fs → σ.length = X.N.length → (E c fs → Wout (.ref Cl) d σ H) → (∀ d', Rt d' → ∀ v Hs' H', Wd en Hs' H' → Rep F.C en.g Hs' d' v → Dn.rt v H') → (pickM anc c fs l).wp Rt E → wMix X.K Wout Dn lw (.ref Cl) d σ H)
    (hr : ∀ d', Rt d' → ∀ v Hs' H', Wd en Hs' H' → Rep F.C en.g Hs' d' v → Dn.rt v H') :
    ∃ E' : XK, (∀ cls d H', E' cls d H' → ∀ σ' : L2.St, σ'.length = X.N.length → wMix X.K (fun cls d _ H => S.E cls d H) Dn lw cls d σ' H') ∧ ∀ c fs, (catchM F.exs l c fs).wp Rt (excP F S.E en) → excP F E' en c fs := by
  refine ⟨fun cls d H' => ∃ c anc fl fs Cl Hs, cls = .ref Cl ∧ F.exs.lookup c = some (anc, fl) ∧ F.mg c = some (.ref Cl) ∧ Wd en Hs H' ∧ FsAt F en Hs Cl d fs ∧ (excP F S.E en c fs → S.E (.ref Cl) d H') ∧ (pickM anc c fs l).wp Rt (excP F S.E en), ?_, ?_⟩
  · rintro cls d H' ⟨c, anc, fl, fs, Cl, Hs, rfl, y1, y2, y3, y4, y5, y6⟩ σ' hl
    exact k2 _ Dn c anc fl fs Cl d Hs H' σ' Rt (excP F S.E en) y1 y2 y3 y4 hl y5 hr y6
  · intro c fs w ev oa Hs H wd xr
    unfold catchM at w
    split at w
    · rename_i anc fl hl
      cases hb : (fs.all fun q => fl.contains q.1) with
      | false =>
        rw [hb] at w
        exact w.elim
      | true =>
        rw [hb] at w
        have facts : ∀ Cl, F.mg c = some (.ref Cl) → XfC F.K Cl ∧ ∀ q ∈ fs, PySem.W.findIn F.K (.ref Cl) q.1 = some none := fun Cl hC => by
          obtain ⟨⟨f1, f2⟩, _⟩ := sc.kit.2 _ (look_mem hl) Cl hC
          refine ⟨f1, fun q hq => f2 _ ?_⟩
          have := List.all_eq_true.mp hb q hq
          simpa using this
        have xr' := xr
        cases xr with
        | mk hc h r =>
          obtain ⟨f1, f2⟩ := facts _ hc
          exact ⟨c, anc, fl, fs, _, Hs, rfl, hl, hc, wd, ⟨f1, f2, .inr ⟨_, _, rfl, h, r⟩⟩, fun k => k _ _ Hs H wd xr', w⟩
        | bare hc =>
          obtain ⟨f1, f2⟩ := facts _ hc
          exact ⟨c, anc, fl, [], _, Hs, rfl, hl, hc, wd, ⟨f1, f2, .inl rfl⟩, fun k => k _ _ Hs H wd xr', w⟩
    · exact w.elim
/-- try: return e -/
theorem bl_tryRet (hh : HdD F S (h₀ :: hds) l) (he : ∀ E', Ev F { S with E := E' } ρ e me) (hCX : F.CX = L2.CX F.P F.w := by rfl) (hT : S.top = true := by rfl) : Bl F S ρ (.Try [.Return (some e) p] (h₀ :: hds) [] [] pos :: rest) J (tryK me (catchM F.exs l) .ret) := fun X sc en => by
  obtain ⟨lw, k1, k2⟩ := hdd_hdx sc en hh
  refine pssCons (try_core (tb0 := fun E' => tSeq (tRet (rd F E' en ρ me)) tNever) sc hCX hT k1 fun E' X' sc' => pss_cons (ps_ret (he E' X' sc' en)) pss_never) pss_never fun D σ H ⟨Hs, Rt, e0, w, r, n, b, c⟩ => ?_
  obtain ⟨E', h1, h2⟩ := catch_ok (Dn := { D with nx := tNever D }) (Rt := Rt) sc e0.wd k2 r
  refine ⟨E', h1, Hs, [], e0, T.wp_mono (wp_try.mp w) (fun d k v H' Hs' e' s' rr => r d k v Hs' H' e'.wd rr) fun c fs k => h2 c fs k⟩
end
end MS

/-! Texts: join, strip, str, f-texts. -/
namespace MS
open PySem PySem.Spec PyProof.Rows L2
def strsOf : List D → Option (List Str)
  | [] => some []
  | .str s :: r => (strsOf r).map (s :: ·)
  | _ :: _ => none
theorem strsOf_eq : ∀ {l : List D} {ys : List Str}, strsOf l = some ys → l = ys.map D.str
  | [], ys, h => by cases h; rfl
  | .str s :: r, ys, h => by
    have h' : (strsOf r).map (s :: ·) = some ys := h
    cases e : strsOf r with
    | none => rw [e] at h'; cases h'
    | some zs =>
      rw [e] at h'
      cases h'
      rw [strsOf_eq e]
      rfl
theorem strsOf_map : ∀ ys : List Str, strsOf (ys.map D.str) = some ys
  | [] => rfl
  | y :: ys => by
    show (strsOf (ys.map D.str)).map (y :: ·) = _
    rw [strsOf_map ys]
    rfl
theorem RepL.strs {C : Ct} {g : Gh} {H : Hp} : ∀ {ys : List Str} {vs : List V}, RepL C g H (ys.map D.str) vs → vs = ys.map V.str
  | [], _, .nil => rfl
  | _ :: _, _, .cons (.str _) t => by rw [RepL.strs t]; rfl
def joinS (a : Str) (l : List D) : T D := match strsOf l with
  | some ys => if (ys.map (·.length)).sum + ys.length * a.length ≤ 16777216 then .ret (.str (Str.join a ys)) else .stuck
  | none => .stuck
def asStr : D → T Str
  | .str a => .ret a
  | _ => .stuck
def joinM (a : Str) : D → T D
  | .lst l => joinS a l
  | .tup l => joinS a l
  | _ => .stuck
def stripM : D → T D
  | .str a => if a.length ≤ sizeLine then .ret (.str (Txt.strip a)) else .stuck
  | _ => .stuck
def strM : List D → T D
  | [.int i] => if i.natAbs.log2 < 1920 then .ret (.str (toString i)) else .stuck
  | [.str a] => .ret (.str a)
  | _ => .stuck
def fmtM : D → T D
  | .int i => if i.natAbs.log2 < 1920 then .ret (.str (toString i)) else .stuck
  | .str a => if a.length ≤ sizeLine then .ret (.str a) else .stuck
  | _ => .stuck
/-- texts, one behind the other -/
def glueS : Str → List D → T D
  | acc, [] => .ret (.str acc)
  | acc, .str y :: r => if (acc ++ y).length ≤ sizeLine then glueS (acc ++ y) r else .stuck
  | _, _ :: _ => .stuck
section
variable {F : Fx} {S : Sx} {ρ : DEnv} {a b o e : Expr} {es : List Expr} {pos p apos : Pos} {m mo me : T D}
theorem ev_join (ho : Ev F S ρ o mo) (he : EvO F S ρ e me) (hs : isStar e = false := by rfl) (hbase : ∀ env : Env, attributeBase o "join" env (eval o env) = eval o env := by intros; rfl) (hline : (apos.endLine == pos.line) = true := by rfl) :
    Ev F S ρ (.Call (.Attribute o "join" apos) [e] [] pos) (mo.bind fun x => (asStr x).bind fun a => me.bind fun y => joinM a y) := fun X sc en => by
  refine peW (pe_join (ho X sc en) (he X sc en) (star_cons hs [] _) (hbase _) hline) fun σ H Q ⟨Hs, τ, e0, w⟩ => ?_
  refine ⟨Hs, τ, e0, T.wp_mono (T.wp_bind.mp w) (fun x w1 v H1 Hs1 e1 s1 r1 => ?_) fun _ _ k => k⟩
  cases x with
  | str a =>
    cases r1
    refine ⟨⟨a, rfl⟩, Hs1, τ, e1, T.wp_mono (T.wp_bind.mp w1) (fun y w2 u H2 Hs2 e2 s2 r2 => ?_) fun _ _ k => k⟩
    have key : ∀ {l : List D}, (joinS a l).wp (fun d => ∀ v H' Hs', EnvOk F.C en Hs' τ ρ σ H' → Sub Hs Hs' → Rep F.C en.g Hs' d v → Q v H') (excP F S.E en) → ∃ ys : List Str, l = ys.map D.str ∧ (ys.map (·.length)).sum + ys.length * a.length ≤ 16777216 ∧ Q (.str (Txt.join a ys)) H2 := fun {l} w3 => by
      unfold joinS at w3
      split at w3
      · rename_i ys hy
        split at w3
        · rename_i hz
          refine ⟨ys, strsOf_eq hy, hz, ?_⟩
          rw [TL.join_eq]
          exact w3 _ H2 Hs2 e2 (Sub.trans s1 s2) (.str _)
        · exact w3.elim
      · exact w3.elim
    cases y with
    | lst l =>
      obtain ⟨ys, rfl, hz, q⟩ := key w2
      obtain ⟨pa, vs, rfl, h1, h2⟩ := r2.list e2
      rw [h2.strs] at h1
      exact ⟨a, pa, ys, rfl, rfl, .inl (SqL.of h1), hz, q⟩
    | tup l =>
      obtain ⟨ys, rfl, hz, q⟩ := key w2
      obtain ⟨pa, vs, rfl, h1, h2⟩ := r2.tup e2
      rw [h2.strs] at h1
      exact ⟨a, pa, ys, rfl, rfl, .inr (by rw [sc.K]; exact h1), hz, q⟩
    | _ => exact w2.elim
  | _ => exact w1.elim
theorem ev_strip (ho : Ev F S ρ o mo) (hbase : ∀ env : Env, attributeBase o "strip" env (eval o env) = eval o env := by intros; rfl) (hline : (apos.endLine == pos.line) = true := by rfl) :
    Ev F S ρ (.Call (.Attribute o "strip" apos) [] [] pos) (mo.bind stripM) := fun X sc en => by
  refine peW (pe_strip (ho X sc en) (hbase _) hline) fun σ H Q ⟨Hs, τ, e0, w⟩ => ?_
  refine ⟨Hs, τ, e0, T.wp_mono (T.wp_bind.mp w) (fun x w1 v H1 Hs1 e1 s1 r1 => ?_) fun _ _ k => k⟩
  unfold stripM at w1
  split at w1
  · rename_i a
    split at w1
    · rename_i hz
      cases r1
      exact ⟨⟨a, rfl⟩, a, rfl, rfl, hz, w1 _ H1 Hs1 e1 s1 (.str _)⟩
    · exact w1.elim
  · exact w1.elim
theorem cd_str : CallD F S (.type "str") strM := fun X sc pins s σ H xs us Q I r ⟨en, Hs, τ, ρ, σ', ds, e0, rs, w⟩ => by
  unfold strM at w
  split at w
  · rename_i i
    split at w
    · rename_i hz
      cases rs with
      | cons r1 t =>
        cases t
        cases r1.told e0 (fun _ z => nomatch z)
        exact call_str_int pins s σ H _ us Q I r ⟨i, rfl, hz, w _ H Hs e0 (Sub.refl _) (.str _)⟩
    · exact w.elim
  · rename_i a
    cases rs with
    | cons r1 t =>
      cases t
      cases r1.told e0 (fun _ z => nomatch z)
      exact SkE.call_str_str pins s σ H _ us Q I r ⟨a, rfl, w _ H Hs e0 (Sub.refl _) (.str _)⟩
  · exact w.elim
theorem ev_str1 (j : Nat) {ms : T (List D)} (h : EvA F S ρ [a] ms) (hj : F.G[j]? = some ((("str" : Str)), GE.blt) := by rfl) (hv : S.gl.contains j = true := by rfl) (hs : [a].all (fun e => !isStar e) = true := by rfl) : Ev F S ρ (.Call (.Name "str" p) [a] [] pos) (ms.bind strM) := cd_str.evT j h (by decide +kernel) hj hv hs
theorem ev_fmt (h : Ev F S ρ e m) : Ev F S ρ (.FormattedValue e (-1) none pos) (m.bind fmtM) := fun X sc en => by
  refine peW (pe_fmt (h X sc en)) fun σ H Q ⟨Hs, τ, e0, w⟩ => ⟨Hs, τ, e0, T.wp_mono (T.wp_bind.mp w) (fun x w1 v H1 Hs1 e1 s1 r1 => ?_) fun _ _ k => k⟩
  unfold fmtM at w1
  split at w1
  · rename_i i
    split at w1
    · rename_i hz
      cases r1
      exact .inr ⟨i, rfl, hz, w1 _ H1 Hs1 e1 s1 (.str _)⟩
    · exact w1.elim
  · rename_i a
    split at w1
    · rename_i hz
      cases r1
      exact .inl ⟨a, rfl, hz, w1 _ H1 Hs1 e1 s1 (.str _)⟩
    · exact w1.elim
  · exact w1.elim
/-- the parts of an f-text: each a text -/
inductive EvJ (F : Fx) (S : Sx) (ρ : DEnv) : List Expr → (Str → T D) → Prop
  | nil : EvJ F S ρ [] (fun acc => .ret (.str acc))
  | cons {e : Expr} {es : List Expr} {m : T D} {k : Str → T D} (h : Ev F S ρ e m) (r : EvJ F S ρ es k) : EvJ F S ρ (e :: es) (fun acc => m.bind fun x => (asStr x).bind fun y => if (acc ++ y).length ≤ sizeLine then k (acc ++ y) else .stuck)
theorem evj_run {es : List Expr} {k : Str → T D} (h : EvJ F S ρ es k) : ∀ X, SC F S X → ∀ en, ∃ ts : List TE, PJ X es ts ∧ ∀ (acc : Str) (σ : L2.St) (H : Hp) (Q : Str → Hp → Prop) (Hs : Hp) (τ : List (Addr × D)), EnvOk F.C en Hs τ ρ σ H → (k acc).wp (fun d => ∀ out, d = .str out → ∀ H' Hs', EnvOk F.C en Hs' τ ρ σ H' → Sub Hs Hs' → Q out H') (excP F S.E en) → tJs ts acc σ H Q := by
  intro X sc en
  induction h with
  | nil => exact ⟨[], .nil, fun acc σ H Q Hs τ e0 w => w acc rfl H Hs e0 (Sub.refl _)⟩
  | cons h r ih =>
    obtain ⟨ts, h1, h2⟩ := ih
    refine ⟨_ :: ts, .cons (h X sc en) h1, fun acc σ H Q Hs τ e0 w => ?_⟩
    refine ⟨Hs, τ, e0, T.wp_mono (T.wp_bind.mp w) (fun x w1 v H1 Hs1 e1 s1 r1 => ?_) fun _ _ k => k⟩
    cases x with
    | str y =>
      cases r1
      have w2 : (if (acc ++ y).length ≤ sizeLine then _ else T.stuck).wp _ _ := w1
      split at w2
      · rename_i hz
        exact ⟨y, rfl, hz, h2 (acc ++ y) σ H1 Q Hs1 τ e1 (T.wp_mono w2 (fun d k out e H' Hs' e' s' => k out e H' Hs' e' (Sub.trans s1 s')) fun _ _ k => k)⟩
      · exact w2.elim
    | _ => exact w1.elim
theorem ev_joined {v1 v2 : Expr} {rest : List Expr} {k : Str → T D} (h : EvJ F S ρ (v1 :: v2 :: rest) k) : Ev F S ρ (.JoinedStr (v1 :: v2 :: rest) pos) ((k Str.empty).bind fun d => (asStr d).bind fun y => .ret (.str y)) := fun X sc en => by
  obtain ⟨ts, h1, h2⟩ := evj_run h X sc en
  refine peW (pe_joined h1) fun σ H Q ⟨Hs, τ, e0, w⟩ => h2 Str.empty σ H _ Hs τ e0 (T.wp_mono (T.wp_bind.mp w) (fun d w1 out e H' Hs' e' s' => ?_) fun _ _ k => k)
  subst e
  exact w1 _ H' Hs' e' s' (.str _)
end
end MS

/-! A class's own == beside values of any kind. -/
namespace MS
open PySem PySem.Spec PyProof.Rows L2
def eqAnyM (c : Str) (m : List D → T D) (x y : D) : T D := match x with
  | .ins c1 fs => if c1 = c then (match y with
    | .ins c2 fs2 => if c2 = c then (m [.ins c1 fs, .ins c2 fs2]).bind asBl else .stuck
    | y => if (tyNm y).isSome then (m [.ins c1 fs, y]).bind asBl else .stuck) else .stuck
  | _ => .stuck
theorem subIn_ty {K : PySem.W.Frag} {t : String} (h : t ∈ btys) (C : Addr) : PySem.W.subIn K (.type t) (.ref C) = some false := by
  have h' : t ∈ ["int", "bool", "str", "NoneType", "tuple", "list", "dict"] := h
  simp only [List.mem_cons, List.mem_nil_iff, or_false] at h'
  rcases h' with rfl | rfl | rfl | rfl | rfl | rfl | rfl <;> kernel_rfl
section
variable {F : Fx} {S : Sx} {ρ : DEnv} {a b : Expr} {pos : Pos}
theorem ev_eqAny (j : Nat) {c : Str} {flds : List Str} {lev : Nat} {m : List D → T D} {ma mb : T D} (ha : Ev F S ρ a ma) (hb : Ev F S ρ b mb) (hj : F.G[j]? = some (c, .cls flds (some (lev, m))) := by rfl) (hv : S.kn.contains j = true := by rfl) (hl : Nat.ble lev S.L = true := by rfl) (hmk : isSet b = false := by rfl) :
    Ev F S ρ (.Compare a [.Eq] [b] pos) (ma.bind fun x => mb.bind fun y => eqAnyM c m x y) := fun X sc en => by
  obtain ⟨Cl, g1, _, g2⟩ := sc.ke j c _ hv hj
  obtain ⟨f, fd, ps, q1, q2, q3, q4⟩ := g2 _ rfl
  have FO : FnOk X.prog X.w X.K X.mg X.base F.CX lev f fd ps (spM F 2 m) := by rw [sc.prog, sc.w, sc.K, sc.mg, sc.base]; exact q1
  have op : OpR X (compareOp .Eq) (fun x y H Q => ∃ en Hs τ ρ σ dx dy, EnvOk F.C en Hs τ ρ σ H ∧ Rep F.C en.g Hs dx x ∧ Rep F.C en.g Hs dy y ∧
    (eqAnyM c m dx dy).wp (fun d => ∀ v H' Hs', EnvOk F.C en Hs' τ ρ σ H' → Sub Hs Hs' → Rep F.C en.g Hs' d v → Q v H') (excP F S.E en)) := by
    intro pins s σ H x y v u Q I rx ry ⟨en, Hs, τ, ρ, σ', dx, dy, e0, r1, r2, w⟩
    have core : ∀ {fs : List (Str × D)} {tb : Value}, dx = .ins c fs → PySem.W.Looks (model X.prog X.w) s.heap (typeOf u) tb → PySem.W.notFirst X.K Cl tb = true →
        ((m [.ins c fs, dy]).bind asBl).wp (fun d => ∀ v H' Hs', EnvOk F.C en Hs' τ ρ σ' H' → Sub Hs Hs' → Rep F.C en.g Hs' d v → Q v H') (excP F S.E en) → wpAny (model X.prog X.w) X.A (compareOp .Eq v u) (EP X pins σ Q) X.xe s := fun {fs tb} ed lt nf wc => by
      clear w
      subst ed
      cases r1 with
      | ins cl1 h1 rf1 =>
        rename_i vfs1 a1 C1 dx1
        have e1 : C1 = Cl := by
          have := cl1.mg.symm.trans g1.mg
          cases this
          rfl
        subst e1
        cases rx
        have r1' : Rep F.C en.g Hs (.ins c fs) (.ref a1) := .ins cl1 h1 rf1
        obtain ⟨mA, J, _⟩ := ins_get I.hok (e0.wd.sub _ _ h1)
        obtain ⟨od, J, _⟩ := J.look
        obtain ⟨mF, hF⟩ := I.fr
        show wpAny (model X.prog X.w) X.A (richCompare .Eq (.ref a1) u) (EP X pins σ Q) X.xe s
        refine PySem.W.cmp_K (op := .Eq) (tb := tb) sc.room.units0 hF I.ok.mod.kin J lt nf (by rw [sc.K]; exact q2) (by rw [sc.K]; exact q3) ?_
        have hsp : spM F 2 m [.ref a1, y] H (fun v H' => ∃ b, v = .bl b ∧ Q v H') S.E := by
          refine ⟨en.g, Hs, [.ins c fs, dy], e0.wd.sub, e0.wd.deal, e0.wd.gout, .cons r1' (.cons r2 .nil), rfl, T.wp_mono (T.wp_bind.mp wc) (fun d k v Hs' H' w' r => ?_) fun c fs k => excP.in e0.wd (Sub.refl _) (fun _ _ q => .inl q) k⟩
          unfold asBl at k
          split at k
          · rename_i bb
            cases r
            exact ⟨bb, rfl, k _ H' Hs' (e0.step (Wd.trans e0.wd w') w'.ext w'.new fun a u ng q _ => w'.same a u ng q) w'.ext (.bl _)⟩
          · exact k.elim
        have hlen := FO.len _ _ _ _ hsp
        refine wpAny_call (codeAny_mono (FO.run X.A X.stack s H ⟨[.ref a1, u], []⟩ [.ref a1, u] [.ref a1, y] _ S.E (sc.room.mono (Nat.le_of_ble_eq_true hl)) I.env0 (by
          have := q4 s [.ref a1, u] (by rw [← sc.K]; exact I.kIn) (by simpa using hlen)
          simpa using this) (.cons rfl (.cons ry .nil)) hsp) fun r s' hq => ?_)
        cases r with
        | error e => exact sc.pass pins σ H s e s' I hq
        | ok fl =>
          cases fl with
          | ret z =>
            obtain ⟨v, H', I', rz, ⟨bb, ez, q⟩⟩ := I.after hq
            subst ez
            cases rz
            exact ⟨.bl bb, H', I', rfl, q⟩
          | next => exact False.elim hq
          | brk => exact False.elim hq
          | cont => exact False.elim hq
    unfold eqAnyM at w
    split at w
    · rename_i c1 fs1
      split at w
      · rename_i hc1
        subst hc1
        split at w
        · rename_i c2 fs2
          split at w
          · rename_i hc2
            have hc2' := hc2
            subst hc2'
            have r2' := r2
            cases r2' with
            | ins cl2 h2 rf2 =>
              rename_i vfs2 a2 C2 dx2
              have e2 : C2 = Cl := by
                have := cl2.mg.symm.trans g1.mg
                cases this
                rfl
              subst e2
              cases ry
              obtain ⟨mB, J', _⟩ := ins_get I.hok (e0.wd.sub _ _ h2)
              obtain ⟨od', J', _⟩ := J'.look
              exact core rfl J'.type (by simp [PySem.W.notFirst]) w
          · exact w.elim
        · split at w
          · rename_i ht
            obtain ⟨t, ety⟩ := Option.isSome_iff_exists.mp ht
            have hd := ty_of e0 (.inl r2) (.inl ht)
            obtain ⟨ty, td, tx⟩ := hd
            have et : ty = .type t := by
              cases td with
              | bt h =>
                rw [h] at ety
                cases ety
                rfl
              | ins h1 h2 => cases ety
            subst et
            obtain ⟨P, kx, hP, _⟩ := kit_of I ry (by rw [sc.K]; exact tx)
            refine core rfl (kx.ty _ _ I.kIn hP) ?_ w
            unfold PySem.W.notFirst
            rw [subIn_ty (tyNm_mem ety) Cl]
            simp
          · exact w.elim
      · exact w.elim
    · exact w.elim
  exact peW (pe_cmpR op (ha X sc en) (hb X sc en) (noBehind hmk)) fun σ H Q ⟨Hs, τ, e0, w⟩ => ⟨Hs, τ, e0, T.wp_mono (T.wp_bind.mp w) (fun d w1 v H1 Hs1 e1 s1 r1 => ⟨Hs1, τ, e1, T.wp_mono (T.wp_bind.mp w1) (fun d2 w2 v2 H2 Hs2 e2 s2 r2 =>
    ⟨en, Hs2, τ, ρ, σ, d, d2, e2, r1.sub s2, r2, T.wp_mono w2 (fun d3 w3 v3 H3 Hs3 e3 s3 r3 => w3 v3 H3 Hs3 e3 (Sub.trans (Sub.trans s1 s2) s3) r3) fun _ _ k => k⟩) fun _ _ k => k⟩) fun _ _ k => k⟩
end
end MS

set_option maxHeartbeats 4000000
/-! the mirrors -/
namespace K03
open PySem PySem.Spec PyProof.Rows L2 MS
abbrev CLSS : List Str := [("Rule" : Str), ("Web" : Str)]
abbrev EXS : List (Str × List Str × List Str) := []
abbrev FUEL : Nat := 1000000000000
abbrev t_LETS : List (Str × Str) := [(("apart" : Str), ("apart_lets" : Str)), (("most" : Str), ("most_lets" : Str)), (("room" : Str), ("room_lets" : Str))]
abbrev t_TELLS : List (Str × Str) := [(("apart" : Str), ("apart_line" : Str)), (("most" : Str), ("most_line" : Str)), (("room" : Str), ("room_line" : Str))]
abbrev m__law_any : List D → T D := anyM
def m_is_within : List D → T D
  | [v_lot, v_other] => (T.bind (T.bind (T.bind (T.bind (.ret v_lot) seqM) (compN (fun v_thing1 => cI (T.bind (.ret v_thing1) fun x => T.bind (.ret v_other) fun y => T.bind (cmpM .NotIn x y) asBool) (.ret v_thing1)))) fun ds => .ret (.lst ds)) fun x => T.bind (T.bind (T.bind (.ret []) lstM) fun ds => .ret (.lst ds)) fun y => cmpM .Eq x y)
  | _ => .stuck
def m_cut : List D → T D
  | [v_lot, v_other] => (T.bind (consM (T.bind (T.bind (T.bind (.ret v_lot) seqM) (compN (fun v_thing2 => cI (T.bind (.ret v_thing2) fun x => T.bind (.ret v_other) fun y => T.bind (cmpM .In x y) asBool) (.ret v_thing2)))) fun ds => .ret (.lst ds)) (.ret [])) tupleM)
  | _ => .stuck
def m_all_lots : List D → T D
  | [v_things] => (T.bind (T.bind (consM (T.bind (.ret []) tupM) (.ret [])) lstM) fun v_found3 => (T.bind (T.bind (T.bind (T.bind (consM (.ret v_things) (.ret [])) sortedM) fun ds => .ret (.lst ds)) seqM) fun items => forM (St := (List D)) (fun v_thing7 s4 nx5 bk6 => (T.bind (T.bind (T.bind (T.bind (T.bind (T.bind (consM (.ret (.lst s4)) (.ret [])) listM) fun ds => .ret (.lst ds)) seqM) (compN (fun v_lot9 => cE (T.bind (.ret v_lot9) fun x => T.bind (T.bind (consM (.ret v_thing7) (.ret [])) tupM) fun y => addD x y)))) fun ds => .ret (.lst ds)) fun d => match d with | D.lst v_l8 => (if List.length s4 + List.length v_l8 ≤ sizeLine then (nx5 (s4 ++ v_l8)) else .stuck) | _ => .stuck)) (fun s4 => (T.bind (T.bind (consM (.ret (.lst s4)) (.ret [])) sortedM) fun ds => .ret (.lst ds))) items v_found3))
  | _ => .stuck
def m_weight_in : List D → T D
  | [v_part, v_standing] => (T.bind (consM (T.bind (T.bind (T.bind (.ret v_standing) seqM) (compN (fun v_thing10 => cE (T.bind (T.bind (.ret v_part) fun x => T.bind (.ret (.int 1)) fun y => ixM x y) fun x => T.bind (.ret v_thing10) fun y => ixM x y)))) fun ds => .ret (.lst ds)) (.ret [])) sumM)
  | _ => .stuck
def m_things_of : List D → T D
  | [v_web] => (T.bind (T.bind (T.bind (consM (T.bind (.ret v_web) (fldM ("names" : Str))) (.ret [])) lenM) fun d => T.bind (asInt d) fun i => .ret ((0 : Int), i)) fun q => T.bind (rangeL q.1 q.2) fun l => .ret (.tup l))
  | _ => .stuck
def m_named_things : List D → T D
  | [v_web, v_standing] => (T.bind (consM (T.bind (T.bind (T.bind (.ret v_standing) seqM) (compN (fun v_thing11 => cE (T.bind (T.bind (.ret v_web) (fldM ("names" : Str))) fun x => T.bind (.ret v_thing11) fun y => ixM x y)))) fun ds => .ret (.lst ds)) (.ret [])) tupleM)
  | _ => .stuck
def m_size_and_lot : List D → T D
  | [v_lot] => (T.bind (consM (T.bind (consM (.ret v_lot) (.ret [])) lenM) (consM (.ret v_lot) (.ret []))) tupM)
  | _ => .stuck
def m_room_line : List D → T D
  | [v_web, v_part] => (T.bind (T.bind (T.bind (consM (T.bind (.ret v_web) (fldM ("names" : Str))) (consM (T.bind (.ret v_part) fun x => T.bind (.ret (.int 1)) fun y => ixM x y) (.ret []))) zipM) (compN (fun d => cI (un2M d fun v_name14 v_number15 => (T.bind (.ret v_number15) fun x => T.bind (.ret (.int 0)) fun y => T.bind (cmpM .Gt x y) asBool)) (un2M d fun v_name14 v_number15 => (T.bind ((fun acc => T.bind (T.bind (.ret v_name14) fmtM) fun x => T.bind (asStr x) fun y => if Str.length (acc ++ y) ≤ sizeLine then (fun acc => T.bind (.ret (.str " ")) fun x => T.bind (asStr x) fun y => if Str.length (acc ++ y) ≤ sizeLine then (fun acc => T.bind (T.bind (.ret v_number15) fmtM) fun x => T.bind (asStr x) fun y => if Str.length (acc ++ y) ≤ sizeLine then (fun acc => .ret (.str acc)) (acc ++ y) else .stuck) (acc ++ y) else .stuck) (acc ++ y) else .stuck) Str.empty) fun d => T.bind (asStr d) fun y => .ret (.str y)))))) fun v_loads12 => (T.bind (T.bind ((fun acc => T.bind (T.bind (.ret (.str "room")) fmtM) fun x => T.bind (asStr x) fun y => if Str.length (acc ++ y) ≤ sizeLine then (fun acc => T.bind (.ret (.str " ")) fun x => T.bind (asStr x) fun y => if Str.length (acc ++ y) ≤ sizeLine then (fun acc => T.bind (T.bind (T.bind (.ret v_part) fun x => T.bind (.ret (.int 2)) fun y => ixM x y) fmtM) fun x => T.bind (asStr x) fun y => if Str.length (acc ++ y) ≤ sizeLine then (fun acc => T.bind (.ret (.str " ")) fun x => T.bind (asStr x) fun y => if Str.length (acc ++ y) ≤ sizeLine then (fun acc => T.bind (T.bind (.ret (.str ":")) fmtM) fun x => T.bind (asStr x) fun y => if Str.length (acc ++ y) ≤ sizeLine then (fun acc => .ret (.str acc)) (acc ++ y) else .stuck) (acc ++ y) else .stuck) (acc ++ y) else .stuck) (acc ++ y) else .stuck) (acc ++ y) else .stuck) Str.empty) fun d => T.bind (asStr d) fun y => .ret (.str y)) fun v_head13 => (T.bind (T.bind (.ret (.lst v_loads12)) fun x => T.bind (T.bind (T.bind (.ret []) lstM) fun ds => .ret (.lst ds)) fun y => T.bind (cmpM .Eq x y) asBool) fun t => cond t (.ret v_head13) (T.bind ((fun acc => T.bind (T.bind (.ret v_head13) fmtM) fun x => T.bind (asStr x) fun y => if Str.length (acc ++ y) ≤ sizeLine then (fun acc => T.bind (.ret (.str " ")) fun x => T.bind (asStr x) fun y => if Str.length (acc ++ y) ≤ sizeLine then (fun acc => T.bind (T.bind (T.bind (.ret (.str ", ")) fun x => T.bind (asStr x) fun a => T.bind (.ret (.lst v_loads12)) fun y => joinM a y) fmtM) fun x => T.bind (asStr x) fun y => if Str.length (acc ++ y) ≤ sizeLine then (fun acc => .ret (.str acc)) (acc ++ y) else .stuck) (acc ++ y) else .stuck) (acc ++ y) else .stuck) Str.empty) fun d => T.bind (asStr d) fun y => .ret (.str y)))))
  | _ => .stuck
def m__law_deal : List D → T D
  | [v_script, v_salt] => (T.bind (T.bind (T.bind (T.bind (T.bind (T.bind (T.bind (.ret (.int 10)) fun x => T.bind (.ret (.int 64)) fun y => powM x y) fun x => T.bind (T.bind (.ret (.int 10)) fun x => T.bind (.ret (.int 64)) fun y => powM x y) fun y => mulD x y) fun x => T.bind (T.bind (.ret (.int 10)) fun x => T.bind (.ret (.int 64)) fun y => powM x y) fun y => mulD x y) fun x => T.bind (T.bind (.ret (.int 10)) fun x => T.bind (.ret (.int 64)) fun y => powM x y) fun y => mulD x y) fun x => T.bind (T.bind (.ret (.int 10)) fun x => T.bind (.ret (.int 64)) fun y => powM x y) fun y => mulD x y) fun x => T.bind (T.bind (.ret (.int 10)) fun x => T.bind (.ret (.int 64)) fun y => powM x y) fun y => mulD x y) fun v_wide16 => (T.bind (T.bind (T.bind (T.bind (T.bind (.ret v_script) fun x => T.bind (.ret none) fun l => T.bind (T.bind (.ret (.int 63)) fun d => T.bind (asInt d) fun i => .ret (some i)) fun h => slL l h x) fun ds => .ret (.lst ds)) seqM) (compN (fun v_cell25 => cE (T.bind (T.bind (consM (T.bind (consM (T.bind (consM (.ret v_cell25) (.ret [])) intM) (.ret [])) absM) (.ret [])) intM) fun x => T.bind (.ret v_wide16) fun y => modD x y)))) fun v_cells17 => (T.bind (T.bind (.ret (.int 70001)) fun x => T.bind (T.bind (.ret (.int 7919)) fun x => T.bind (.ret v_salt) fun y => mulD x y) fun y => addD x y) fun v_mix18 => (T.bind (T.bind (.ret (.lst v_cells17)) seqM) fun items => forM (St := (D)) (fun v_cell22 s19 nx20 bk21 => (T.bind (T.bind (T.bind (consM (T.bind (T.bind (T.bind (.ret s19) fun x => T.bind (.ret (.int 69621)) fun y => mulD x y) fun x => T.bind (T.bind (T.bind (consM (.ret v_cell22) (.ret [])) intM) fun x => T.bind (.ret (.int 2147483563)) fun y => modD x y) fun y => addD x y) fun x => T.bind (.ret (.int 23)) fun y => addD x y) (.ret [])) intM) fun x => T.bind (.ret (.int 2147483647)) fun y => modD x y) fun v_mix23 => (nx20 v_mix23))) (fun s19 => (T.bind (T.bind (consM (T.bind (T.bind (T.bind (T.bind (T.bind (.ret (.lst v_cells17)) seqM) (compN (fun v_cell24 => cI (T.bind (.ret v_cell24) fun x => T.bind (T.bind (.ret (.int 10)) fun x => T.bind (.ret (.int 18)) fun y => powM x y) fun y => T.bind (cmpM .GtE x y) asBool) (.ret v_cell24)))) fun ds => .ret (.lst ds)) revL) fun ds => .ret (.lst ds)) (consM (.ret s19) (.ret []))) lstM) fun ds => .ret (.lst ds))) items v_mix18))))
  | _ => .stuck
def m__law_is_kind : List D → T D
  | [v_told, v_due] => (T.bind (T.bind (.ret v_due) fun x => T.bind (.ret .non) fun y => T.bind (cmpM .Is x y) asBool) fun t => bif t then (T.bind (.ret v_told) fun x => T.bind (.ret .non) fun y => cmpM .Is x y) else (T.bind (T.bind (T.bind (.ret v_due) fun x => T.bind (.ret (.bl true)) fun y => T.bind (cmpM .Is x y) asBool) fun t => cond t (.ret true) (T.bind (.ret v_due) fun x => T.bind (.ret (.bl false)) fun y => T.bind (cmpM .Is x y) asBool)) fun t => bif t then (T.bind (T.bind (.ret v_due) asBool) fun t => cond t (T.bind (.ret v_told) fun x => T.bind (.ret (.bl true)) fun y => cmpM .Is x y) (T.bind (.ret v_told) fun x => T.bind (.ret (.bl false)) fun y => cmpM .Is x y)) else (T.bind (T.bind (T.bind (consM (.ret v_due) (consM (.ret (.ty "str")) (.ret []))) (isinM CLSS)) asBool) fun t => bif t then (T.bind (T.bind (consM (.ret v_told) (consM (.ret (.ty "str")) (.ret []))) (isinM CLSS)) fun d => T.bind (asBool d) fun t => cond t (T.bind (.ret v_told) fun x => T.bind (.ret v_due) fun y => cmpM .Eq x y) (.ret (.bl false))) else (T.bind (T.bind (consM (.ret v_told) (consM (.ret (.ty "int")) (.ret []))) (isinM CLSS)) fun d => T.bind (asBool d) fun t => cond t (T.bind (T.bind (T.bind (consM (.ret v_told) (consM (.ret (.ty "bool")) (.ret []))) (isinM CLSS)) fun d => T.bind (asBool d) fun t => .ret (.bl (!t))) fun d => T.bind (asBool d) fun t => cond t (T.bind (.ret v_told) fun x => T.bind (.ret v_due) fun y => cmpM .Eq x y) (.ret (.bl false))) (.ret (.bl false))))))
  | _ => .stuck
def m__law_marks : List D → T D
  | [v_many, v_lot] => (T.bind (consM (T.bind (T.bind (T.bind (consM (.ret v_many) (.ret [])) rng1M) (compN (fun v_at26 => cE (T.bind (T.bind (.ret v_at26) fun x => T.bind (.ret v_lot) fun y => T.bind (cmpM .In x y) asBool) fun t => cond t (.ret (.int 1)) (.ret (.int 0)))))) fun ds => .ret (.lst ds)) (.ret [])) tupleM)
  | _ => .stuck
def m__law_part_fine : List D → T D
  | [v_part, v_marks] => (T.bind (T.bind (T.bind (.ret v_part) fun x => T.bind (.ret (.int 0)) fun y => ixM x y) fun x => T.bind (.ret (.str "room")) fun y => T.bind (cmpM .Eq x y) asBool) fun t => bif t then (T.bind (T.bind (consM (T.bind (T.bind (T.bind (consM (T.bind (.ret v_part) fun x => T.bind (.ret (.int 1)) fun y => ixM x y) (consM (.ret v_marks) (.ret []))) zipM) (compN (fun d => cE (un2M d fun v_load27 v_mark28 => (T.bind (.ret v_load27) fun x => T.bind (.ret v_mark28) fun y => mulD x y))))) fun ds => .ret (.lst ds)) (.ret [])) sumM) fun x => T.bind (T.bind (.ret v_part) fun x => T.bind (.ret (.int 2)) fun y => ixM x y) fun y => cmpM .LtE x y) else (T.bind (T.bind (.ret v_part) fun x => T.bind (T.bind (T.bind (consM (.ret v_part) (.ret [])) lenM) fun x => T.bind (.ret (.int 1)) fun y => subD x y) fun y => ixM x y) fun v_lot29 => (T.bind (T.bind (consM (T.bind (T.bind (T.bind (.ret v_lot29) seqM) (compN (fun v_at31 => cE (T.bind (.ret v_marks) fun x => T.bind (.ret v_at31) fun y => ixM x y)))) fun ds => .ret (.lst ds)) (.ret [])) sumM) fun v_count30 => (T.bind (T.bind (T.bind (.ret v_part) fun x => T.bind (.ret (.int 0)) fun y => ixM x y) fun x => T.bind (.ret (.str "apart")) fun y => T.bind (cmpM .Eq x y) asBool) fun t => cond t (T.bind (.ret v_count30) fun x => T.bind (T.bind (consM (.ret v_lot29) (.ret [])) lenM) fun y => cmpM .Lt x y) (T.bind (.ret v_count30) fun x => T.bind (T.bind (.ret v_part) fun x => T.bind (.ret (.int 1)) fun y => ixM x y) fun y => cmpM .LtE x y)))))
  | _ => .stuck
def m__law_rule_row : List D → T D
  | [v_names, v_part] => (T.bind (T.bind (T.bind (.ret v_part) fun x => T.bind (.ret (.int 0)) fun y => ixM x y) fun x => T.bind (.ret (.str "room")) fun y => T.bind (cmpM .Eq x y) asBool) fun t => bif t then (T.bind (T.bind (T.bind (consM (T.bind (consM (.ret v_names) (.ret [])) lenM) (.ret [])) rng1M) (compN (fun v_at33 => cI (T.bind (T.bind (T.bind (.ret v_part) fun x => T.bind (.ret (.int 1)) fun y => ixM x y) fun x => T.bind (.ret v_at33) fun y => ixM x y) fun x => T.bind (.ret (.int 0)) fun y => T.bind (cmpM .Gt x y) asBool) (T.bind (T.bind (T.bind (.ret v_names) fun x => T.bind (.ret v_at33) fun y => ixM x y) fun x => T.bind (.ret (.str " ")) fun y => addD x y) fun x => T.bind (T.bind (consM (T.bind (T.bind (.ret v_part) fun x => T.bind (.ret (.int 1)) fun y => ixM x y) fun x => T.bind (.ret v_at33) fun y => ixM x y) (.ret [])) strM) fun y => addD x y)))) fun v_loads32 => (T.bind (T.bind (T.bind (T.bind (.ret (.str "room ")) fun x => T.bind (T.bind (consM (T.bind (.ret v_part) fun x => T.bind (.ret (.int 2)) fun y => ixM x y) (.ret [])) strM) fun y => addD x y) fun x => T.bind (.ret (.str " : ")) fun y => addD x y) fun x => T.bind (T.bind (.ret (.str ", ")) fun x => T.bind (asStr x) fun a => T.bind (.ret (.lst v_loads32)) fun y => joinM a y) fun y => addD x y) stripM)) else (T.bind (T.bind (T.bind (T.bind (.ret v_part) fun x => T.bind (.ret (.int 0)) fun y => ixM x y) fun x => T.bind (.ret (.str "apart")) fun y => T.bind (cmpM .Eq x y) asBool) fun t => cond t (.ret (.str "apart")) (T.bind (T.bind (.ret (.str "most ")) fun x => T.bind (T.bind (consM (T.bind (.ret v_part) fun x => T.bind (.ret (.int 1)) fun y => ixM x y) (.ret [])) strM) fun y => addD x y) fun x => T.bind (.ret (.str " :")) fun y => addD x y)) fun v_head34 => (T.bind (.ret (.str " ")) fun x => T.bind (asStr x) fun a => T.bind (T.bind (T.bind (T.bind (consM (.ret v_head34) (.ret [])) lstM) fun ds => .ret (.lst ds)) fun x => T.bind (T.bind (T.bind (T.bind (T.bind (.ret v_part) fun x => T.bind (T.bind (T.bind (consM (.ret v_part) (.ret [])) lenM) fun x => T.bind (.ret (.int 1)) fun y => subD x y) fun y => ixM x y) seqM) (compN (fun v_at35 => cE (T.bind (.ret v_names) fun x => T.bind (.ret v_at35) fun y => ixM x y)))) fun ds => .ret (.lst ds)) fun y => addD x y) fun y => joinM a y)))
  | _ => .stuck
def m_apart_lets : List D → T D
  | [v_part, v_standing] => (T.bind (T.bind (consM (T.bind (.ret v_part) fun x => T.bind (.ret (.int 1)) fun y => ixM x y) (consM (.ret v_standing) (.ret []))) m_is_within) fun d => T.bind (asBool d) fun t => .ret (.bl (!t)))
  | _ => .stuck
def m_most_lets : List D → T D
  | [v_part, v_standing] => (T.bind (T.bind (consM (T.bind (consM (T.bind (.ret v_part) fun x => T.bind (.ret (.int 2)) fun y => ixM x y) (consM (.ret v_standing) (.ret []))) m_cut) (.ret [])) lenM) fun x => T.bind (T.bind (.ret v_part) fun x => T.bind (.ret (.int 1)) fun y => ixM x y) fun y => cmpM .LtE x y)
  | _ => .stuck
def m_room_lets : List D → T D
  | [v_part, v_standing] => (T.bind (T.bind (consM (.ret v_part) (consM (.ret v_standing) (.ret []))) m_weight_in) fun x => T.bind (T.bind (.ret v_part) fun x => T.bind (.ret (.int 2)) fun y => ixM x y) fun y => cmpM .LtE x y)
  | _ => .stuck
def m_apart_line : List D → T D
  | [v_web, v_part] => (T.bind (.ret (.str " ")) fun x => T.bind (asStr x) fun a => T.bind (T.bind (T.bind (consM (.ret (.str "apart")) (.ret [])) tupM) fun x => T.bind (T.bind (consM (.ret v_web) (consM (T.bind (.ret v_part) fun x => T.bind (.ret (.int 1)) fun y => ixM x y) (.ret []))) m_named_things) fun y => addD x y) fun y => joinM a y)
  | _ => .stuck
def m_most_line : List D → T D
  | [v_web, v_part] => (T.bind (.ret (.str " ")) fun x => T.bind (asStr x) fun a => T.bind (T.bind (T.bind (consM (.ret (.str "most")) (consM (T.bind (consM (T.bind (.ret v_part) fun x => T.bind (.ret (.int 1)) fun y => ixM x y) (.ret [])) strM) (consM (.ret (.str ":")) (.ret [])))) tupM) fun x => T.bind (T.bind (consM (.ret v_web) (consM (T.bind (.ret v_part) fun x => T.bind (.ret (.int 2)) fun y => ixM x y) (.ret []))) m_named_things) fun y => addD x y) fun y => joinM a y)
  | _ => .stuck
def m__law_of : List D → T D
  | [v_deal, v_some] => (T.bind (.ret v_some) fun x => T.bind (T.bind (consM (.ret v_deal) (consM (T.bind (consM (.ret v_some) (.ret [])) lenM) (.ret []))) m__law_any) fun y => ixM x y)
  | _ => .stuck
def m__law_same : List D → T D
  | [v_told, v_due] => (T.bind (T.bind (consM (T.bind (consM (.ret v_told) (consM (.ret v_due) (.ret []))) tupM) (.ret [])) lstM) fun v_todo36 => (whileM (St := (List D)) (fun s37 nx38 => T.bind (T.bind (T.bind (consM (.ret (.lst s37)) (.ret [])) lenM) fun x => T.bind (.ret (.int 0)) fun y => T.bind (cmpM .Gt x y) asBool) fun t => bif t then (fun bk39 => (popB2 (pop0M s37) fun v_one40 v_other41 v_todo42 => (ifJ (St := (List D)) (T.bind (T.bind (consM (.ret v_other41) (consM (.ret (.ty "tuple")) (.ret []))) (isinM CLSS)) asBool) (fun k44 => (T.bind (T.bind (T.bind (T.bind (T.bind (consM (.ret v_one40) (consM (.ret (.ty "tuple")) (.ret []))) (isinM CLSS)) asBool) fun b => .ret (!b)) fun t => cond t (.ret true) (T.bind (T.bind (consM (.ret v_one40) (.ret [])) lenM) fun x => T.bind (T.bind (consM (.ret v_other41) (.ret [])) lenM) fun y => T.bind (cmpM .NotEq x y) asBool)) fun t => bif t then (.ret (.bl false)) else (T.bind (T.bind (consM (T.bind (consM (.ret v_other41) (.ret [])) lenM) (.ret [])) rng1M) fun items => forM (St := (List D)) (fun v_at48 s45 nx46 bk47 => (T.bind (T.bind (consM (T.bind (.ret v_one40) fun x => T.bind (.ret v_at48) fun y => ixM x y) (consM (T.bind (.ret v_other41) fun x => T.bind (.ret v_at48) fun y => ixM x y) (.ret []))) tupM) fun v_e49 => if List.length s45 < sizeLine then (nx46 (s45 ++ [v_e49])) else .stuck)) (fun s45 => (k44 s45)) items v_todo42))) (fun k44 => (T.bind (T.bind (T.bind (T.bind (consM (.ret v_one40) (consM (T.bind (consM (.ret (.ty "tuple")) (consM (.ret (.ty "list")) (consM (.ret (.ty "dict")) (.ret [])))) tupM) (.ret []))) (isinM CLSS)) asBool) fun t => cond t (.ret true) (T.bind (T.bind (T.bind (consM (.ret v_one40) (consM (.ret v_other41) (.ret []))) m__law_is_kind) asBool) fun b => .ret (!b))) fun t => bif t then (.ret (.bl false)) else (k44 v_todo42))) fun s43 => (nx38 s43)))) (fun (s37 : (List D)) => ((.ret (.bl true)) : T D)) else (fun (s37 : (List D)) => ((.ret (.bl true)) : T D)) s37) FUEL v_todo36))
  | _ => .stuck
def m__law_drawn_few : List D → T D
  | [v_deal, v_things, v_most] => (T.bind (T.bind (consM (.ret v_things) (.ret [])) listM) fun v_left50 => T.bind (T.bind (.ret []) lstM) fun v_found51 => (T.bind (T.bind (consM (T.bind (consM (T.bind (consM (.ret (.lst v_left50)) (.ret [])) lenM) (consM (T.bind (.ret (.int 1)) fun x => T.bind (T.bind (consM (.ret v_deal) (consM (.ret v_most) (.ret []))) m__law_any) fun y => addD x y) (.ret []))) minM) (.ret [])) rng1M) fun items => forM (St := (List D × List D)) (fun v_turn55 s52 nx53 bk54 => (popA s52.1 (T.bind (T.bind (consM (.ret v_deal) (consM (T.bind (consM (.ret (.lst s52.2)) (.ret [])) lenM) (.ret []))) m__law_any) (popM s52.2)) fun v_e56 v_left57 => (nx53 ((s52.1 ++ [v_e56]), v_left57)))) (fun s52 => (T.bind (consM (T.bind (T.bind (consM (.ret (.lst s52.1)) (.ret [])) sortedM) fun ds => .ret (.lst ds)) (.ret [])) tupleM)) items (v_found51, v_left50)))
  | _ => .stuck
def m__law_fine : List D → T D
  | [v_parts, v_marks] => (T.bind (T.bind (.ret v_parts) seqM) fun items => forM (St := Unit) (fun v_part61 s58 nx59 bk60 => (T.bind (T.bind (T.bind (T.bind (consM (.ret v_part61) (consM (.ret v_marks) (.ret []))) m__law_part_fine) asBool) fun b => .ret (!b)) fun t => bif t then (.ret (.bl false)) else (nx59 ()))) (fun s58 => (.ret (.bl true))) items ())
  | _ => .stuck
def m__law_rule_text : List D → T D
  | [v_names, v_parts] => (T.bind (.ret (.str "\n")) fun x => T.bind (asStr x) fun a => T.bind (T.bind (T.bind (T.bind (.ret v_parts) seqM) (compN (fun v_part62 => cE (T.bind (consM (.ret v_names) (consM (.ret v_part62) (.ret []))) m__law_rule_row)))) fun ds => .ret (.lst ds)) fun y => joinM a y)
  | _ => .stuck
def m__law_near_parts : List D → T D
  | [v_deal, v_parts, v_many] => (T.bind (T.bind (T.bind (consM (T.bind (.ret v_parts) fun x => T.bind (T.bind (consM (T.bind (consM (.ret (.str "apart")) (consM (T.bind (consM (T.bind (.ret v_many) fun x => T.bind (.ret (.int 1)) fun y => subD x y) (.ret [])) tupM) (.ret []))) tupM) (.ret [])) tupM) fun y => addD x y) (consM (T.bind (T.bind (consM (T.bind (consM (.ret (.str "most")) (consM (.ret (.int 0)) (consM (T.bind (consM (.ret (.int 0)) (.ret [])) tupM) (.ret [])))) tupM) (.ret [])) tupM) fun x => T.bind (.ret v_parts) fun y => addD x y) (.ret []))) lstM) fun ds => .ret (.lst ds)) fun v_found63 => (ifJ (St := (D)) (T.bind (T.bind (consM (.ret v_parts) (.ret [])) lenM) fun x => T.bind (.ret (.int 0)) fun y => T.bind (cmpM .Gt x y) asBool) (fun k65 => (T.bind (T.bind (consM (.ret v_deal) (consM (T.bind (consM (.ret v_parts) (.ret [])) lenM) (.ret []))) m__law_any) fun v_at66 => (T.bind (T.bind (.ret v_parts) fun x => T.bind (.ret v_at66) fun y => ixM x y) fun v_part67 => (T.bind (T.bind (T.bind (T.bind (.ret v_part67) fun x => T.bind (.ret (.int 0)) fun y => ixM x y) fun x => T.bind (.ret (.str "apart")) fun y => T.bind (cmpM .Eq x y) asBool) fun t => cond t (T.bind (consM (.ret (.str "apart")) (consM (T.bind (T.bind (.ret v_part67) fun x => T.bind (.ret (.int 1)) fun y => ixM x y) fun x => T.bind (T.bind (consM (.ret v_many) (.ret [])) tupM) fun y => addD x y) (.ret []))) tupM) (T.bind (T.bind (T.bind (.ret v_part67) fun x => T.bind (.ret (.int 0)) fun y => ixM x y) fun x => T.bind (.ret (.str "most")) fun y => T.bind (cmpM .Eq x y) asBool) fun t => cond t (T.bind (consM (.ret (.str "most")) (consM (T.bind (T.bind (.ret v_part67) fun x => T.bind (.ret (.int 1)) fun y => ixM x y) fun x => T.bind (.ret (.int 1)) fun y => addD x y) (consM (T.bind (.ret v_part67) fun x => T.bind (.ret (.int 2)) fun y => ixM x y) (.ret [])))) tupM) (T.bind (consM (.ret (.str "room")) (consM (T.bind (.ret v_part67) fun x => T.bind (.ret (.int 1)) fun y => ixM x y) (consM (T.bind (T.bind (.ret v_part67) fun x => T.bind (.ret (.int 2)) fun y => ixM x y) fun x => T.bind (.ret (.int 1)) fun y => addD x y) (.ret [])))) tupM))) fun v_late68 => (T.bind (T.bind (.ret v_found63) fun x => T.bind (T.bind (T.bind (consM (T.bind (T.bind (.ret v_parts) fun x => T.bind (.ret none) fun l => T.bind (T.bind (.ret v_at66) fun d => T.bind (asInt d) fun i => .ret (some i)) fun h => slM l h x) fun x => T.bind (T.bind (.ret v_parts) fun x => T.bind (T.bind (T.bind (.ret v_at66) fun x => T.bind (.ret (.int 1)) fun y => addD x y) fun d => T.bind (asInt d) fun i => .ret (some i)) fun l => T.bind (.ret none) fun h => slM l h x) fun y => addD x y) (consM (T.bind (T.bind (T.bind (.ret v_parts) fun x => T.bind (.ret none) fun l => T.bind (T.bind (.ret v_at66) fun d => T.bind (asInt d) fun i => .ret (some i)) fun h => slM l h x) fun x => T.bind (T.bind (consM (.ret v_part67) (.ret [])) tupM) fun y => addD x y) fun x => T.bind (T.bind (.ret v_parts) fun x => T.bind (T.bind (.ret v_at66) fun d => T.bind (asInt d) fun i => .ret (some i)) fun l => T.bind (.ret none) fun h => slM l h x) fun y => addD x y) (consM (T.bind (T.bind (T.bind (.ret v_parts) fun x => T.bind (.ret none) fun l => T.bind (T.bind (.ret v_at66) fun d => T.bind (asInt d) fun i => .ret (some i)) fun h => slM l h x) fun x => T.bind (T.bind (consM (.ret v_late68) (.ret [])) tupM) fun y => addD x y) fun x => T.bind (T.bind (.ret v_parts) fun x => T.bind (T.bind (T.bind (.ret v_at66) fun x => T.bind (.ret (.int 1)) fun y => addD x y) fun d => T.bind (asInt d) fun i => .ret (some i)) fun l => T.bind (.ret none) fun h => slM l h x) fun y => addD x y) (.ret [])))) lstM) fun ds => .ret (.lst ds)) fun y => addD x y) fun v_found69 => (k65 v_found69)))))) (fun k65 => (k65 v_found63)) fun s64 => (T.bind (.ret s64) fun x => T.bind (T.bind (T.bind (T.bind (.ret v_parts) revT) fun x => T.bind (.ret v_parts) fun y => T.bind (cmpM .NotEq x y) asBool) fun t => cond t (T.bind (T.bind (consM (T.bind (.ret v_parts) revT) (.ret [])) lstM) fun ds => .ret (.lst ds)) (T.bind (T.bind (.ret []) lstM) fun ds => .ret (.lst ds))) fun y => addD x y)))
  | _ => .stuck
def m_Rule___eq__ : List D → T D
  | [v_self, v_other] => (T.bind (T.bind (consM (.ret v_other) (consM (.ret (.fn ("Rule" : Str))) (.ret []))) (isinM CLSS)) fun d => T.bind (asBool d) fun t => cond t (T.bind (T.bind (.ret v_self) (fldM ("parts" : Str))) fun x => T.bind (T.bind (.ret v_other) (fldM ("parts" : Str))) fun y => cmpM .Eq x y) (.ret (.bl false)))
  | _ => .stuck
def m_part_lets : List D → T D
  | [v_part, v_standing] => (T.bind (T.bind (T.bind (.ret v_part) fun x => T.bind (.ret (.int 0)) fun y => ixM x y) (tabGet t_LETS)) fun v_look70 => (callL [(("apart_lets" : Str), m_apart_lets), (("most_lets" : Str), m_most_lets), (("room_lets" : Str), m_room_lets)] v_look70 (consM (.ret v_part) (consM (.ret v_standing) (.ret [])))))
  | _ => .stuck
def m_Web___eq__ : List D → T D
  | [v_self, v_other] => (T.bind (T.bind (T.bind (T.bind (consM (.ret v_other) (consM (.ret (.fn ("Web" : Str))) (.ret []))) (isinM CLSS)) asBool) fun b => .ret (!b)) fun t => bif t then (.ret (.bl false)) else (T.bind (T.bind (T.bind (.ret v_self) (fldM ("names" : Str))) fun x => T.bind (T.bind (.ret v_other) (fldM ("names" : Str))) fun y => cmpM .Eq x y) fun d => T.bind (asBool d) fun t => cond t (T.bind (T.bind (T.bind (.ret v_self) (fldM ("weights" : Str))) fun x => T.bind (T.bind (.ret v_other) (fldM ("weights" : Str))) fun y => cmpM .Eq x y) fun d => T.bind (asBool d) fun t => cond t (T.bind (T.bind (.ret v_self) (fldM ("lots" : Str))) fun x => T.bind (T.bind (.ret v_other) (fldM ("lots" : Str))) fun y => cmpM .Eq x y) (.ret (.bl false))) (.ret (.bl false))))
  | _ => .stuck
def m_part_line : List D → T D
  | [v_web, v_part] => (T.bind (T.bind (T.bind (.ret v_part) fun x => T.bind (.ret (.int 0)) fun y => ixM x y) (tabGet t_TELLS)) fun v_tell71 => (callL [(("apart_line" : Str), m_apart_line), (("most_line" : Str), m_most_line), (("room_line" : Str), m_room_line)] v_tell71 (consM (.ret v_web) (consM (.ret v_part) (.ret [])))))
  | _ => .stuck
def m__law_all : List D → T D
  | [v_pairs] => (T.bind (T.bind (consM (T.bind (T.bind (T.bind (.ret v_pairs) seqM) (compN (fun d => cI (un2M d fun v_told72 v_due73 => (T.bind (T.bind (T.bind (consM (.ret v_told72) (consM (.ret v_due73) (.ret []))) m__law_same) asBool) fun b => .ret (!b))) (un2M d fun v_told72 v_due73 => (.ret v_told72))))) fun ds => .ret (.lst ds)) (.ret [])) lenM) fun x => T.bind (.ret (.int 0)) fun y => cmpM .Eq x y)
  | _ => .stuck
def m__law_bearers : List D → T D
  | [v_deal, v_thing] => (T.bind (T.bind (T.bind (.ret v_thing) fun x => T.bind (.ret (.int 0)) fun y => T.bind (cmpM .Eq x y) asBool) fun t => cond t (.ret true) (T.bind (T.bind (consM (.ret v_deal) (consM (.ret (.int 6)) (.ret []))) m__law_any) fun x => T.bind (.ret (.int 0)) fun y => T.bind (cmpM .Eq x y) asBool)) fun t => bif t then (T.bind (consM (T.bind (.ret []) tupM) (.ret [])) tupM) else (T.bind (T.bind (consM (.ret v_deal) (consM (T.bind (T.bind (T.bind (T.bind (consM (.ret (.int 0)) (consM (T.bind (.ret v_thing) fun x => T.bind (.ret (.int 3)) fun y => subD x y) (.ret []))) maxM) fun d => T.bind (asInt d) fun i => T.bind (.ret v_thing) fun d2 => T.bind (asInt d2) fun i2 => .ret (i, i2)) fun q => rangeL q.1 q.2) fun ds => .ret (.lst ds)) (consM (.ret (.int 2)) (.ret [])))) m__law_drawn_few) fun v_one74 => T.bind (T.bind (consM (.ret v_deal) (consM (T.bind (T.bind (T.bind (.ret v_thing) fun d => T.bind (asInt d) fun i => .ret ((0 : Int), i)) fun q => rangeL q.1 q.2) fun ds => .ret (.lst ds)) (consM (.ret (.int 2)) (.ret [])))) m__law_drawn_few) fun v_other75 => (T.bind (T.bind (T.bind (consM (T.bind (T.bind (T.bind (.ret v_one74) seqM) (compN (fun v_x77 => cI (T.bind (.ret v_x77) fun x => T.bind (.ret v_other75) fun y => T.bind (cmpM .In x y) asBool) (.ret (.int 1))))) fun ds => .ret (.lst ds)) (.ret [])) lenM) fun x => T.bind (T.bind (T.bind (consM (T.bind (consM (.ret v_one74) (.ret [])) lenM) (consM (T.bind (consM (.ret v_other75) (.ret [])) lenM) (.ret []))) lstM) fun ds => .ret (.lst ds)) fun y => cmpM .In x y) fun v_near76 => (T.bind (T.bind (T.bind (.ret v_near76) asBool) fun t => cond t (.ret true) (T.bind (T.bind (consM (.ret v_deal) (consM (.ret (.int 2)) (.ret []))) m__law_any) fun x => T.bind (.ret (.int 0)) fun y => T.bind (cmpM .Eq x y) asBool)) fun t => cond t (T.bind (consM (.ret v_one74) (.ret [])) tupM) (T.bind (consM (T.bind (T.bind (consM (T.bind (T.bind (consM (.ret v_one74) (consM (.ret v_other75) (.ret []))) lstM) fun ds => .ret (.lst ds)) (.ret [])) sortedM) fun ds => .ret (.lst ds)) (.ret [])) tupleM)))))
  | _ => .stuck
def m__law_part : List D → T D
  | [v_deal, v_many] => (T.bind (T.bind (consM (.ret v_deal) (consM (.ret (.int 4)) (.ret []))) m__law_any) fun v_sort78 => (T.bind (T.bind (.ret v_sort78) fun x => T.bind (.ret (.int 2)) fun y => T.bind (cmpM .Lt x y) asBool) fun t => bif t then (T.bind (consM (.ret (.str "apart")) (consM (T.bind (consM (.ret v_deal) (consM (T.bind (T.bind (T.bind (.ret v_many) fun d => T.bind (asInt d) fun i => .ret ((0 : Int), i)) fun q => rangeL q.1 q.2) fun ds => .ret (.lst ds)) (consM (T.bind (.ret (.int 1)) fun x => T.bind (T.bind (consM (.ret v_deal) (consM (.ret (.int 3)) (.ret []))) m__law_any) fun y => addD x y) (.ret [])))) m__law_drawn_few) (.ret []))) tupM) else (T.bind (T.bind (.ret v_sort78) fun x => T.bind (.ret (.int 2)) fun y => T.bind (cmpM .Eq x y) asBool) fun t => bif t then (T.bind (T.bind (consM (.ret v_deal) (consM (T.bind (T.bind (T.bind (.ret v_many) fun d => T.bind (asInt d) fun i => .ret ((0 : Int), i)) fun q => rangeL q.1 q.2) fun ds => .ret (.lst ds)) (consM (.ret v_many) (.ret [])))) m__law_drawn_few) fun v_lot79 => (T.bind (consM (.ret (.str "most")) (consM (T.bind (consM (.ret v_deal) (consM (T.bind (T.bind (consM (.ret v_lot79) (.ret [])) lenM) fun x => T.bind (.ret (.int 1)) fun y => addD x y) (.ret []))) m__law_any) (consM (.ret v_lot79) (.ret [])))) tupM)) else (T.bind (T.bind (consM (T.bind (T.bind (T.bind (consM (.ret v_many) (.ret [])) rng1M) (compN (fun v_at81 => cE (T.bind (consM (.ret v_deal) (consM (T.bind (T.bind (consM (.ret (.int 0)) (consM (.ret (.int 0)) (consM (.ret (.int 1)) (consM (.ret (.int 1)) (consM (.ret (.int 2)) (consM (.ret (.int 3)) (.ret []))))))) lstM) fun ds => .ret (.lst ds)) (.ret []))) m__law_of)))) fun ds => .ret (.lst ds)) (.ret [])) tupleM) fun v_weights80 => (T.bind (consM (.ret (.str "room")) (consM (.ret v_weights80) (consM (T.bind (consM (.ret v_deal) (consM (T.bind (T.bind (consM (.ret v_weights80) (.ret [])) sumM) fun x => T.bind (.ret (.int 2)) fun y => addD x y) (.ret []))) m__law_any) (.ret [])))) tupM)))))
  | _ => .stuck
def m_lets : List D → T D
  | [v_rule, v_standing] => (T.bind (T.bind (T.bind (T.bind (T.bind (.ret v_rule) (fldM ("parts" : Str))) seqM) (compN (fun v_part82 => cI (T.bind (T.bind (T.bind (consM (.ret v_part82) (consM (.ret v_standing) (.ret []))) m_part_lets) asBool) fun b => .ret (!b)) (.ret v_part82)))) fun ds => .ret (.lst ds)) fun x => T.bind (T.bind (T.bind (.ret []) lstM) fun ds => .ret (.lst ds)) fun y => cmpM .Eq x y)
  | _ => .stuck
def m_lots_by_size : List D → T D
  | [v_web] => (T.bind (T.bind (consM (T.bind (consM (T.bind (consM (.ret v_web) (.ret [])) m_things_of) (.ret [])) m_all_lots) (.ret [])) (sortKM m_size_and_lot)) fun ds => .ret (.lst ds))
  | _ => .stuck
def m_rule_text : List D → T D
  | [v_web, v_rule] => (T.bind (.ret (.str "\n")) fun x => T.bind (asStr x) fun a => T.bind (T.bind (T.bind (T.bind (T.bind (.ret v_rule) (fldM ("parts" : Str))) seqM) (compN (fun v_part83 => cE (T.bind (consM (.ret v_web) (consM (.ret v_part83) (.ret []))) m_part_line)))) fun ds => .ret (.lst ds)) fun y => joinM a y)
  | _ => .stuck
def m__law_stock : List D → T D
  | [v_deal, v_least, v_most] => (T.bind (T.bind (.ret v_least) fun x => T.bind (T.bind (consM (.ret v_deal) (consM (T.bind (T.bind (.ret v_most) fun x => T.bind (.ret v_least) fun y => subD x y) fun x => T.bind (.ret (.int 1)) fun y => addD x y) (.ret []))) m__law_any) fun y => addD x y) fun v_many84 => (T.bind (T.bind (consM (T.bind (T.bind (T.bind (consM (.ret v_many84) (.ret [])) rng1M) (compN (fun v_at86 => cE (T.bind (T.bind (.ret (.str "wv")) fun x => T.bind (T.bind (consM (.ret v_deal) (consM (.ret (.int 2)) (.ret []))) m__law_any) fun y => ixM x y) fun x => T.bind (T.bind (.ret (.str "abcdefgh")) fun x => T.bind (.ret v_at86) fun y => ixM x y) fun y => addD x y)))) fun ds => .ret (.lst ds)) (.ret [])) tupleM) fun v_names85 => (T.bind (consM (.ret v_names85) (consM (T.bind (consM (T.bind (T.bind (T.bind (consM (.ret v_many84) (.ret [])) rng1M) (compN (fun v_at88 => cE (T.bind (.ret (.int 1)) fun x => T.bind (T.bind (consM (.ret v_deal) (consM (.ret (.int 3)) (.ret []))) m__law_any) fun y => addD x y)))) fun ds => .ret (.lst ds)) (.ret [])) tupleM) (consM (T.bind (consM (T.bind (T.bind (T.bind (consM (.ret v_many84) (.ret [])) rng1M) (compN (fun v_at87 => cE (T.bind (consM (.ret v_deal) (consM (.ret v_at87) (.ret []))) m__law_bearers)))) fun ds => .ret (.lst ds)) (.ret [])) tupleM) (.ret [])))) tupM)))
  | _ => .stuck
def m__law_parts_of_rule : List D → T D
  | [v_deal, v_many, v_most] => (T.bind (T.bind (T.bind (consM (T.bind (consM (.ret v_deal) (consM (T.bind (.ret v_most) fun x => T.bind (.ret (.int 1)) fun y => addD x y) (.ret []))) m__law_any) (.ret [])) rng1M) (compN (fun v_turn91 => cE (T.bind (consM (.ret v_deal) (consM (.ret v_many) (.ret []))) m__law_part)))) fun v_found89 => (T.bind (consM (T.bind (T.bind (T.bind (.ret (.lst v_found89)) seqM) (compN (fun v_part90 => cI (T.bind (T.bind (T.bind (.ret v_part90) fun x => T.bind (.ret (.int 0)) fun y => ixM x y) fun x => T.bind (.ret (.str "apart")) fun y => T.bind (cmpM .NotEq x y) asBool) fun t => cond t (.ret true) (T.bind (T.bind (T.bind (consM (T.bind (.ret v_part90) fun x => T.bind (.ret (.int 1)) fun y => ixM x y) (.ret [])) lenM) fun x => T.bind (.ret (.int 1)) fun y => T.bind (cmpM .Gt x y) asBool) fun t => cond t (.ret true) (T.bind (T.bind (consM (.ret v_deal) (consM (.ret (.int 4)) (.ret []))) m__law_any) fun x => T.bind (.ret (.int 0)) fun y => T.bind (cmpM .Eq x y) asBool))) (.ret v_part90)))) fun ds => .ret (.lst ds)) (.ret [])) tupleM))
  | _ => .stuck
def m__law_web : List D → T D
  | [v_stock] => (T.bind (consM (T.bind (.ret v_stock) fun x => T.bind (.ret (.int 0)) fun y => ixM x y) (consM (T.bind (.ret v_stock) fun x => T.bind (.ret (.int 1)) fun y => ixM x y) (consM (T.bind (.ret v_stock) fun x => T.bind (.ret (.int 2)) fun y => ixM x y) (.ret [])))) (insM ("Web" : Str) [("names" : Str), ("weights" : Str), ("lots" : Str)]))
  | _ => .stuck
def m_same_rule : List D → T D
  | [v_web, v_one, v_other] => (T.bind (T.bind (T.bind (consM (.ret v_web) (.ret [])) m_lots_by_size) seqM) fun items => forM (St := Unit) (fun v_lot95 s92 nx93 bk94 => (T.bind (T.bind (T.bind (consM (.ret v_one) (consM (.ret v_lot95) (.ret []))) m_lets) fun x => T.bind (T.bind (consM (.ret v_other) (consM (.ret v_lot95) (.ret []))) m_lets) fun y => T.bind (cmpM .NotEq x y) asBool) fun t => bif t then (.ret v_lot95) else (nx93 ()))) (fun s92 => (.ret .non)) items ())
  | _ => .stuck
def m_lawd (v_ns : List Int) : T D := (T.bind (consM (.ret (.scr v_ns)) (consM (.ret (.int 4003)) (.ret []))) m__law_deal)
def m_law : T D := (T.bind (T.bind (.ret []) lstM) fun v_pairs96 => (T.bind (T.bind (consM (.ret (.int 9)) (.ret [])) rng1M) fun items => forM (St := (List D)) (fun v_turn100 s97 nx98 bk99 => (T.bind (T.bind (consM (.ret .deal) (consM (.ret (.int 2)) (consM (.ret (.int 6)) (.ret [])))) m__law_stock) fun v_stock101 => (T.bind (T.bind (consM (.ret v_stock101) (.ret [])) m__law_web) fun v_web102 => T.bind (T.bind (consM (T.bind (.ret v_stock101) fun x => T.bind (.ret (.int 0)) fun y => ixM x y) (.ret [])) lenM) fun v_many103 => (T.bind (T.bind (consM (.ret .deal) (consM (.ret v_many103) (consM (.ret (.int 5)) (.ret [])))) m__law_parts_of_rule) fun v_parts104 => (T.bind (T.bind (T.bind (.ret v_turn100) fun x => T.bind (.ret (.int 0)) fun y => T.bind (cmpM .Gt x y) asBool) fun t => cond t (T.bind (consM (.ret v_parts104) (.ret [])) (insM ("Rule" : Str) [("parts" : Str)])) (T.bind (consM (.ret v_parts104) (.ret [])) (insM ("Rule" : Str) [("parts" : Str)]))) fun v_rule105 => (T.bind (T.bind (.ret (.lst s97)) fun x => T.bind (T.bind (T.bind (consM (T.bind (consM (T.bind (.ret v_rule105) (fldM ("parts" : Str))) (consM (.ret v_parts104) (.ret []))) tupM) (consM (T.bind (consM (T.bind (.ret v_rule105) fun x => T.bind (T.bind (consM (.ret v_parts104) (.ret [])) (insM ("Rule" : Str) [("parts" : Str)])) fun y => insEqM ("Rule" : Str) m_Rule___eq__ x y) (consM (.ret (.bl true)) (.ret []))) tupM) (consM (T.bind (consM (T.bind (T.bind (consM (.ret v_parts104) (.ret [])) (insM ("Rule" : Str) [("parts" : Str)])) fun x => T.bind (.ret v_rule105) fun y => insEqM ("Rule" : Str) m_Rule___eq__ x y) (consM (.ret (.bl true)) (.ret []))) tupM) (consM (T.bind (consM (T.bind (.ret v_rule105) fun x => T.bind (.ret v_parts104) fun y => eqAnyM ("Rule" : Str) m_Rule___eq__ x y) (consM (.ret (.bl false)) (.ret []))) tupM) (consM (T.bind (consM (T.bind (.ret v_rule105) fun x => T.bind (.ret (.int 0)) fun y => eqAnyM ("Rule" : Str) m_Rule___eq__ x y) (consM (.ret (.bl false)) (.ret []))) tupM) (.ret [])))))) lstM) fun ds => .ret (.lst ds)) fun y => catM x y) fun v_pairs106 => (T.bind (T.bind (.ret (.lst v_pairs106)) fun x => T.bind (T.bind (T.bind (consM (T.bind (consM (T.bind (.ret v_rule105) fun x => T.bind (T.bind (consM (T.bind (consM (T.bind (T.bind (consM (.ret v_parts104) (.ret [])) listM) fun ds => .ret (.lst ds)) (.ret [])) tupleM) (.ret [])) (insM ("Rule" : Str) [("parts" : Str)])) fun y => insEqM ("Rule" : Str) m_Rule___eq__ x y) (consM (.ret (.bl true)) (.ret []))) tupM) (.ret [])) lstM) fun ds => .ret (.lst ds)) fun y => catM x y) fun v_pairs107 => (T.bind (T.bind (T.bind (.ret v_turn100) fun x => T.bind (.ret (.int 0)) fun y => T.bind (cmpM .Gt x y) asBool) fun t => cond t (T.bind (consM (.ret v_web102) (consM (.ret v_rule105) (.ret []))) m_rule_text) (T.bind (consM (.ret v_rule105) (consM (.ret v_web102) (.ret []))) fun ds => if ds.length = 2 then m_rule_text ([1, 0].map fun i => ds.getD i .non) else .stuck)) fun v_text108 => (T.bind (T.bind (consM (.ret v_text108) (consM (T.bind (consM (T.bind (.ret v_stock101) fun x => T.bind (.ret (.int 0)) fun y => ixM x y) (consM (.ret v_parts104) (.ret []))) m__law_rule_text) (.ret []))) tupM) fun v_e109 => if List.length v_pairs107 < sizeLine then (T.bind (T.bind (T.bind (consM (.ret .deal) (consM (.ret v_parts104) (consM (.ret v_many103) (.ret [])))) m__law_near_parts) seqM) fun items => forM (St := (List D)) (fun v_late113 s110 nx111 bk112 => (T.bind (T.bind (.ret (.lst s110)) fun x => T.bind (T.bind (T.bind (consM (T.bind (consM (T.bind (.ret v_rule105) fun x => T.bind (T.bind (consM (.ret v_late113) (.ret [])) (insM ("Rule" : Str) [("parts" : Str)])) fun y => insEqM ("Rule" : Str) m_Rule___eq__ x y) (consM (.ret (.bl false)) (.ret []))) tupM) (consM (T.bind (consM (T.bind (T.bind (consM (.ret v_late113) (.ret [])) (insM ("Rule" : Str) [("parts" : Str)])) fun x => T.bind (.ret v_rule105) fun y => insEqM ("Rule" : Str) m_Rule___eq__ x y) (consM (.ret (.bl false)) (.ret []))) tupM) (.ret []))) lstM) fun ds => .ret (.lst ds)) fun y => catM x y) fun v_pairs114 => (nx111 v_pairs114))) (fun s110 => (T.bind (T.bind (consM (T.bind (.ret v_parts104) fun x => T.bind (.ret v_parts104) fun y => addD x y) (.ret [])) (insM ("Rule" : Str) [("parts" : Str)])) fun v_twice115 => T.bind (T.bind (consM (T.bind (.ret v_parts104) revT) (.ret [])) (insM ("Rule" : Str) [("parts" : Str)])) fun v_turned116 => (T.bind (T.bind (.ret (.lst s110)) fun x => T.bind (T.bind (T.bind (consM (T.bind (consM (T.bind (consM (.ret v_web102) (consM (.ret v_rule105) (consM (.ret v_twice115) (.ret [])))) m_same_rule) (consM (.ret .non) (.ret []))) tupM) (consM (T.bind (consM (T.bind (consM (.ret v_web102) (consM (.ret v_rule105) (consM (.ret v_turned116) (.ret [])))) m_same_rule) (consM (.ret .non) (.ret []))) tupM) (consM (T.bind (consM (T.bind (.ret v_rule105) fun x => T.bind (.ret v_twice115) fun y => insEqM ("Rule" : Str) m_Rule___eq__ x y) (consM (T.bind (T.bind (consM (.ret v_parts104) (.ret [])) lenM) fun x => T.bind (.ret (.int 0)) fun y => cmpM .Eq x y) (.ret []))) tupM) (.ret [])))) lstM) fun ds => .ret (.lst ds)) fun y => catM x y) fun v_pairs117 => (T.bind (T.bind (.ret (.lst v_pairs117)) fun x => T.bind (T.bind (T.bind (consM (T.bind (consM (T.bind (T.bind (consM (.ret v_web102) (consM (.ret v_twice115) (.ret []))) m_rule_text) fun x => T.bind (.ret v_text108) fun y => cmpM .Eq x y) (consM (T.bind (T.bind (consM (.ret v_parts104) (.ret [])) lenM) fun x => T.bind (.ret (.int 0)) fun y => cmpM .Eq x y) (.ret []))) tupM) (.ret [])) lstM) fun ds => .ret (.lst ds)) fun y => catM x y) fun v_pairs118 => (T.bind (T.bind (consM (.ret .deal) (consM (T.bind (T.bind (T.bind (.ret v_many103) fun d => T.bind (asInt d) fun i => .ret ((0 : Int), i)) fun q => rangeL q.1 q.2) fun ds => .ret (.lst ds)) (consM (.ret v_many103) (.ret [])))) m__law_drawn_few) fun v_lot119 => (T.bind (T.bind (consM (T.bind (consM (.ret v_turned116) (consM (.ret v_lot119) (.ret []))) m_lets) (consM (T.bind (consM (.ret v_parts104) (consM (T.bind (consM (.ret v_many103) (consM (.ret v_lot119) (.ret []))) m__law_marks) (.ret []))) m__law_fine) (.ret []))) tupM) fun v_e120 => if List.length v_pairs118 < sizeLine then (nx98 (v_pairs118 ++ [v_e120])) else .stuck)))))) items (v_pairs107 ++ [v_e109])) else .stuck))))))))) (fun s97 => (T.bind (consM (T.bind (.ret (.lst s97)) fun x => T.bind (T.bind (T.bind (consM (T.bind (consM (T.bind (T.bind (consM (T.bind (.ret []) tupM) (.ret [])) (insM ("Rule" : Str) [("parts" : Str)])) fun x => T.bind (T.bind (consM (T.bind (T.bind (.ret []) lstM) fun ds => .ret (.lst ds)) (.ret [])) (insM ("Rule" : Str) [("parts" : Str)])) fun y => insEqM ("Rule" : Str) m_Rule___eq__ x y) (consM (.ret (.bl false)) (.ret []))) tupM) (consM (T.bind (consM (T.bind (consM (T.bind (consM (T.bind (consM (.ret (.str "a")) (.ret [])) tupM) (consM (T.bind (consM (.ret (.int 1)) (.ret [])) tupM) (consM (T.bind (consM (T.bind (consM (T.bind (.ret []) tupM) (.ret [])) tupM) (.ret [])) tupM) (.ret [])))) (insM ("Web" : Str) [("names" : Str), ("weights" : Str), ("lots" : Str)])) (consM (T.bind (consM (T.bind (.ret []) tupM) (.ret [])) (insM ("Rule" : Str) [("parts" : Str)])) (.ret []))) m_rule_text) (consM (.ret (.str "")) (.ret []))) tupM) (.ret []))) lstM) fun ds => .ret (.lst ds)) fun y => addD x y) (.ret [])) m__law_all)) items v_pairs96))
end K03

/-! generic: rules, by plain values -/
namespace K03
open PySem PySem.Spec PyProof.Rows L2 MS
/-! ### the deal -/
def W : Int := 10 ^ 384
theorem wide_eq : (T.bind (T.bind (T.bind (T.bind (T.bind (T.bind (T.ret (D.int 10)) fun x => T.bind (.ret (.int 64)) fun y => powM x y) fun x => T.bind (T.bind (.ret (.int 10)) fun x => T.bind (.ret (.int 64)) fun y => powM x y) fun y => mulD x y) fun x => T.bind (T.bind (.ret (.int 10)) fun x => T.bind (.ret (.int 64)) fun y => powM x y) fun y => mulD x y) fun x => T.bind (T.bind (.ret (.int 10)) fun x => T.bind (.ret (.int 64)) fun y => powM x y) fun y => mulD x y) fun x => T.bind (T.bind (.ret (.int 10)) fun x => T.bind (.ret (.int 64)) fun y => powM x y) fun y => mulD x y) fun x => T.bind (T.bind (.ret (.int 10)) fun x => T.bind (.ret (.int 64)) fun y => powM x y) fun y => mulD x y) = .ret (.int W) := by kernel_rfl
theorem W_pos : (0 : Int) < W := by decide +kernel
theorem W_lt : W ≤ 2 ^ 8000 := by decide +kernel
theorem mod_eq (x m : Int) (h : 0 < m) : modD (.int x) (.int m) = .ret (.int (x % m)) := by
  exact if_pos h
theorem mul_eq (x y : Int) (h : x.natAbs.log2 + y.natAbs.log2 < 1000000) : mulD (.int x) (.int y) = .ret (.int (x * y)) := by
  exact if_pos h
theorem log_small {x : Int} (h : x.natAbs < 2 ^ 64) : x.natAbs.log2 < 64 := by
  by_cases hn : x.natAbs = 0
  · rw [hn]
    decide
  · exact (Nat.log2_lt hn).mpr h
theorem cut_ints (ns : List Int) (lo hi : Option Int) : ∃ ms : List Int, MS.cutD (ns.map D.int) lo hi = ms.map D.int ∧ ms.length ≤ ns.length := by
  unfold MS.cutD
  refine ⟨List.take (HT.sIx (ns.map D.int).length (ns.map D.int).length hi - HT.sIx (ns.map D.int).length 0 lo) (List.drop (HT.sIx (ns.map D.int).length 0 lo) ns), ?_, ?_⟩
  · rw [List.map_take, List.map_drop]
  · rw [List.length_take, List.length_drop]
    omega
def mixF (d s : D) : D := match d, s with
  | .int c, .int m => .int ((m * 69621 + c % 2147483563 + 23) % 2147483647)
  | _, s => s
theorem deal_ok (salt : Int) (h0 : 0 ≤ salt) (h1 : salt < 100000) (ns : List Int) (hl : ns.length ≤ 63) : ∃ d, m__law_deal [.scr ns, .int salt] = .ret d ∧ dealVal d := by
  obtain ⟨ms, e1, e2⟩ := cut_ints ns none (some 63)
  have hsz : sizeLine = 16777216 := sizeLine_val
  have hc : ∀ d ∈ ms.map D.int, (fun v_cell16 => cE (T.bind (T.bind (consM (T.bind (consM (T.bind (consM (.ret v_cell16) (.ret [])) intM) (.ret [])) absM) (.ret [])) intM) fun x => T.bind (.ret (.int W)) fun y => modD x y)) d = .ret (some ((fun d => match d with
      | .int n => .int ((if n < 0 then -n else n) % W)
      | d => d) d)) := fun d hd => by
    obtain ⟨n, _, rfl⟩ := List.mem_map.mp hd
    refine cE_ret ?_
    show modD (.int (if n < 0 then -n else n)) (.int W) = _
    exact mod_eq _ _ W_pos
  have hcells := compN_map _ (by rw [List.length_map]; omega) hc
  let cs : List Int := ms.map fun n => (if n < 0 then -n else n) % W
  have ecs : (ms.map D.int).map (fun d => match d with
      | .int n => .int ((if n < 0 then -n else n) % W)
      | d => d) = cs.map D.int := by
    rw [List.map_map, List.map_map]
    rfl
  rw [ecs] at hcells
  have hcs : ∀ c ∈ cs, 0 ≤ c ∧ c < W := fun c hc => by
    obtain ⟨n, _, rfl⟩ := List.mem_map.mp hc
    exact ⟨Int.emod_nonneg _ (Int.ne_of_gt W_pos), Int.emod_lt_of_pos _ W_pos⟩
  have hcl : cs.length ≤ 63 := by
    show (ms.map _).length ≤ 63
    rw [List.length_map]
    omega
  have hmix : mulD (.int 7919) (.int salt) = .ret (.int (7919 * salt)) := mul_eq _ _ (by
    have := log_small (x := 7919) (by decide)
    have := log_small (x := salt) (by omega)
    omega)
  have hstep : ∀ d ∈ cs.map D.int, ∀ s, (∃ m, s = D.int m ∧ 0 ≤ m ∧ m < 2147483648) → (∃ m, mixF d s = D.int m ∧ 0 ≤ m ∧ m < 2147483648) ∧ ∀ (nx bk : D → T D), (fun v_cell13 s10 nx11 bk12 => (T.bind (T.bind (T.bind (consM (T.bind (T.bind (T.bind (.ret s10) fun x => T.bind (.ret (.int 69621)) fun y => mulD x y) fun x => T.bind (T.bind (T.bind (consM (.ret v_cell13) (.ret [])) intM) fun x => T.bind (.ret (.int 2147483563)) fun y => modD x y) fun y => addD x y) fun x => T.bind (.ret (.int 23)) fun y => addD x y) (.ret [])) intM) fun x => T.bind (.ret (.int 2147483647)) fun y => modD x y) fun v_mix14 => (nx11 v_mix14))) d s nx bk = nx (mixF d s) := fun d hd s ⟨m, es, m0, m1⟩ => by
    obtain ⟨c, _, rfl⟩ := List.mem_map.mp hd
    subst es
    refine ⟨⟨_, rfl, Int.emod_nonneg _ (by decide), ?_⟩, fun nx bk => ?_⟩
    · have := Int.emod_lt_of_pos (m * 69621 + c % 2147483563 + 23) (show (0 : Int) < 2147483647 by decide)
      omega
    · have h2 : mulD (.int m) (.int 69621) = .ret (.int (m * 69621)) := mul_eq _ _ (by
        have := log_small (x := 69621) (by decide)
        have := log_small (x := m) (by omega)
        omega)
      simp only [consM, T.bind_ret, h2, intM, mod_eq _ 2147483563 (by decide), mod_eq _ 2147483647 (by decide), addD, mixF]
  have hlast : ∀ d ∈ cs.map D.int, (fun v_cell15 => cI (T.bind (.ret v_cell15) fun x => T.bind (T.bind (.ret (.int 10)) fun x => T.bind (.ret (.int 18)) fun y => powM x y) fun y => T.bind (cmpM .GtE x y) asBool) (.ret v_cell15)) d = .ret ((fun d => match d with
      | .int n => if decide (10 ^ 18 ≤ n) = true then some (D.int n) else none
      | _ => none) d) := fun d hd => by
    obtain ⟨c, _, rfl⟩ := List.mem_map.mp hd
    exact cI_ret (b := decide (10 ^ 18 ≤ c)) (by kernel_rfl) fun _ => rfl
  have hfin := compN_ret _ (by rw [List.length_map]; omega) hlast
  let fs : List Int := cs.filterMap fun n => if decide (10 ^ 18 ≤ n) = true then some n else none
  have efs : (cs.map D.int).filterMap (fun d => match d with
      | .int n => if decide (10 ^ 18 ≤ n) = true then some (D.int n) else none
      | _ => none) = fs.map D.int := by
    show _ = List.map D.int (List.filterMap _ cs)
    rw [List.filterMap_map, List.map_filterMap]
    congr 1
    funext n
    show (if decide (10 ^ 18 ≤ n) = true then some (D.int n) else none) = Option.map D.int (if decide (10 ^ 18 ≤ n) = true then some n else none)
    split <;> rfl
  rw [efs] at hfin
  obtain ⟨f1, m, f2, f3, f4⟩ := forM_fold (k := fun s10 => (T.bind (T.bind (consM (T.bind (T.bind (T.bind (T.bind (T.bind (.ret (.lst (cs.map D.int))) seqM) (compN (fun v_cell15 => cI (T.bind (.ret v_cell15) fun x => T.bind (T.bind (.ret (.int 10)) fun x => T.bind (.ret (.int 18)) fun y => powM x y) fun y => T.bind (cmpM .GtE x y) asBool) (.ret v_cell15)))) fun ds => .ret (.lst ds)) revL) fun ds => .ret (.lst ds)) (consM (.ret s10) (.ret []))) lstM) fun ds => .ret (.lst ds))) mixF (fun s => ∃ m, s = D.int m ∧ 0 ≤ m ∧ m < 2147483648) hstep (.int (70001 + 7919 * salt)) ⟨_, rfl, by omega, by omega⟩
  refine ⟨.lst [.lst (fs.reverse.map D.int), .int m], ?_, fs.reverse, m, rfl, fun n hn => ?_, ?_, f3, f4⟩
  · unfold m__law_deal
    refine (bind_eq wide_eq).trans ?_
    refine (bind_eq (a := cs.map D.int) ?_).trans ?_
    · show compN _ (MS.cutD (ns.map D.int) none (some 63)) = _
      rw [e1]
      exact hcells
    refine (bind_eq (a := D.int (70001 + 7919 * salt)) ?_).trans ?_
    · show (mulD (.int 7919) (.int salt)).bind _ = _
      rw [hmix]
      rfl
    refine f1.trans ?_
    rw [f2]
    refine (bind_eq (a := [D.lst (fs.reverse.map D.int), D.int m]) ?_).trans rfl
    refine (bind_eq (a := [D.lst (fs.reverse.map D.int), D.int m]) ?_).trans ?_
    · refine (bind_eq (a := D.lst (fs.reverse.map D.int)) ?_).trans rfl
      refine (bind_eq (a := (fs.reverse.map D.int)) ?_).trans rfl
      refine (bind_eq (a := D.lst (fs.map D.int)) ?_).trans ?_
      · refine (bind_eq (a := fs.map D.int) ?_).trans rfl
        exact hfin
      · show T.ret (fs.map D.int).reverse = _
        rw [List.map_reverse]
    · exact if_pos (by show 2 ≤ sizeLine; omega)
  · rw [List.mem_reverse] at hn
    obtain ⟨c, hc1, hc2⟩ := List.mem_filterMap.mp hn
    have : c = n := by
      split at hc2
      · exact Option.some.inj hc2
      · cases hc2
    subst this
    obtain ⟨g1, g2⟩ := hcs c hc1
    have := W_lt
    exact ⟨g1, by omega⟩
  · rw [List.length_reverse]
    have : fs.length ≤ cs.length := List.length_filterMap_le _ _
    omega
abbrev lineN : Nat := 1000
theorem small_line {n : Nat} (h : n ≤ lineN) : n ≤ sizeLine := by
  have := sizeLine_val
  show n ≤ sizeLine
  have h' : n ≤ 1000 := h
  omega
theorem bind_ret' {α β : Type} {m : T α} {a : α} {f : α → T β} {b : β} (e : m = .ret a) (h : f a = .ret b) : m.bind f = .ret b := (bind_eq e).trans h
/-! comprehensions over whole numbers -/
theorem filt_L {B : D → T (Option D)} {l : List Nat} (p : Nat → Bool) (hz : l.length ≤ lineN) (h : ∀ n ∈ l, B (.int (n : Nat)) = .ret (if p n then some (.int (n : Nat)) else none)) : compN B (L l) = .ret (L (l.filter p)) := by
  rw [compN_ret (fun d => match d with
    | .int i => if p i.toNat then some (.int i) else none
    | _ => none) (by rw [List.length_map]; exact small_line hz) fun d hd => by
      obtain ⟨n, hn, rfl⟩ := List.mem_map.mp hd
      exact h n hn]
  congr 1
  show List.filterMap _ (List.map _ l) = List.map _ (List.filter p l)
  rw [List.filterMap_map, ← List.filterMap_eq_filter, List.map_filterMap]
  congr 1
  funext n
  have e : ((fun d => match d with
    | D.int i => if p i.toNat = true then some (D.int i) else none
    | _ => none) ∘ fun n : Nat => D.int (n : Nat)) n = if p n = true then some (D.int (n : Nat)) else none := rfl
  rw [e]
  unfold Option.guard
  by_cases q : p n = true
  · simp [q]
  · simp [q]
theorem map_L {B : D → T (Option D)} {l : List Nat} (f : Nat → Nat) (hz : l.length ≤ lineN) (h : ∀ n ∈ l, B (.int (n : Nat)) = .ret (some (.int (f n : Nat)))) : compN B (L l) = .ret (L (l.map f)) := by
  rw [compN_map (fun d => match d with
    | .int i => .int (f i.toNat : Nat)
    | d => d) (by rw [List.length_map]; exact small_line hz) fun d hd => by
      obtain ⟨n, hn, rfl⟩ := List.mem_map.mp hd
      exact h n hn]
  congr 1
  show List.map _ (List.map _ l) = List.map _ (List.map f l)
  rw [List.map_map, List.map_map]
  rfl
theorem L_isEmpty (l : List Nat) : (L l).isEmpty = l.isEmpty := by cases l <;> rfl
theorem fine_lstL {l : List Nat} (hz : l.length ≤ lineN) : Fine 1 (.lst (L l)) := .lst (fine_L l) (by rw [List.length_map]; exact small_line hz)
theorem fine_tupL {l : List Nat} (hz : l.length ≤ lineN) : Fine 1 (.tup (L l)) := .tup (fine_L l) (by rw [List.length_map]; exact small_line hz)
theorem filter_len {l : List Nat} {p : Nat → Bool} (hz : l.length ≤ lineN) : (l.filter p).length ≤ lineN := Nat.le_trans (List.length_filter_le _ _) hz
theorem intsOf_L : ∀ l : List Nat, intsOf (L l) = some (l.map fun n : Nat => (n : Int))
  | [] => rfl
  | n :: l => by
    show (intsOf (L l)).map _ = _
    rw [intsOf_L l]
    rfl
theorem sum_cast : ∀ l : List Nat, (l.map fun n : Nat => (n : Int)).sum = ((l.sum : Nat) : Int)
  | [] => rfl
  | n :: l => by
    rw [List.map_cons, List.sum_cons, List.sum_cons, sum_cast l]
    omega
theorem sum_L (l : List Nat) : sumM [.lst (L l)] = .ret (.int (l.sum : Nat)) := by
  show (match intsOf (L l) with
    | some ns => T.ret (D.int ns.sum)
    | none => .stuck) = _
  rw [intsOf_L]
  show T.ret (D.int (l.map fun n : Nat => (n : Int)).sum) = _
  rw [sum_cast]
theorem sum_LT (l : List Nat) : sumM [.tup (L l)] = .ret (.int (l.sum : Nat)) := by
  show (match intsOf (L l) with
    | some ns => T.ret (D.int ns.sum)
    | none => .stuck) = _
  rw [intsOf_L]
  show T.ret (D.int (l.map fun n : Nat => (n : Int)).sum) = _
  rw [sum_cast]
theorem atI_L {l : List Nat} {i : Nat} (h : i < l.length) : L2.atI (L l) (i : Nat) = some (.int ((l.getD i 0 : Nat) : Int)) := by
  unfold L2.atI ixN
  rw [if_pos (by omega), if_pos (by rw [List.length_map]; omega)]
  show (L l)[((i : Nat) : Int).toNat]? = _
  rw [Int.toNat_natCast, List.getElem?_map, List.getElem?_eq_getElem h, List.getD_eq_getElem?_getD, List.getElem?_eq_getElem h]
  rfl
theorem ix_L {l : List Nat} {i : Nat} (h : i < l.length) : ixM (.tup (L l)) (.int (i : Nat)) = .ret (.int ((l.getD i 0 : Nat) : Int)) := by
  show (match L2.atI (L l) (i : Nat) with
    | some d => T.ret d
    | none => .stuck) = _
  rw [atI_L h]
/-! words -/
/-! ### parts -/
inductive Part where
  | apart (l : List Nat)
  | most (n : Nat) (l : List Nat)
  | room (ws : List Nat) (b : Nat)
  deriving DecidableEq
def Part.enc : Part → D
  | .apart l => .tup [.str "apart", .tup (L l)]
  | .most n l => .tup [.str "most", .int (n : Nat), .tup (L l)]
  | .room ws b => .tup [.str "room", .tup (L ws), .int (b : Nat)]
/-- a part of a web of so many things -/
def Part.Ok (many : Nat) : Part → Prop
  | .apart l => l.Pairwise (· < ·) ∧ l ≠ [] ∧ ∀ x ∈ l, x < many
  | .most _ l => l.Pairwise (· < ·) ∧ l ≠ [] ∧ ∀ x ∈ l, x < many
  | .room ws _ => ws.length = many
def Part.lets (s : List Nat) : Part → Bool
  | .apart l => !decide (∀ x ∈ l, x ∈ s)
  | .most n l => decide ((l.filter fun x => decide (x ∈ s)).length ≤ n)
  | .room ws b => decide ((s.map fun x => ws.getD x 0).sum ≤ b)
def Part.len : Part → Nat
  | .apart l => l.length
  | .most _ l => l.length
  | .room ws _ => ws.length
theorem strOk_apart : PyData.strOk "apart" = true := by decide +kernel
theorem strOk_most : PyData.strOk "most" = true := by decide +kernel
theorem strOk_room : PyData.strOk "room" = true := by decide +kernel
theorem fine_part {p : Part} (hl : p.len ≤ lineN) : Fine 2 p.enc := by
  have hz : sizeLine = 16777216 := sizeLine_val
  have mk : ∀ {l : List D}, l.length ≤ 3 → (∀ x ∈ l, Fine 1 x) → Fine 2 (.tup l) := fun h1 h2 => .tup h2 (by omega)
  cases p with
  | apart l =>
    refine mk (by simp) fun x hx => ?_
    rcases List.mem_cons.mp hx with rfl | hx
    · exact .str _ strOk_apart
    · have : x = .tup (L l) := by simpa using hx
      subst this
      exact fine_tupL hl
  | most n l =>
    refine mk (by simp) fun x hx => ?_
    rcases List.mem_cons.mp hx with rfl | hx
    · exact .str _ strOk_most
    · rcases List.mem_cons.mp hx with rfl | hx
      · exact .int _
      · have : x = .tup (L l) := by simpa using hx
        subst this
        exact fine_tupL hl
  | room ws b =>
    refine mk (by simp) fun x hx => ?_
    rcases List.mem_cons.mp hx with rfl | hx
    · exact .str _ strOk_room
    · rcases List.mem_cons.mp hx with rfl | hx
      · exact fine_tupL hl
      · have : x = .int (b : Nat) := by simpa using hx
        subst this
        exact .int _
/-! ### rules -/
def rule (ps : List Part) : D := .ins ("Rule" : Str) [(("parts" : Str), .tup (ps.map Part.enc))]
/-- a rule of parts that are -/
structure Rok (many : Nat) (ps : List Part) : Prop where
  ok : ∀ p ∈ ps, p.Ok many ∧ p.len ≤ lineN
  len : ps.length ≤ lineN
theorem filt_P {B : D → T (Option D)} {ps : List Part} (q : Part → Bool) (hz : ps.length ≤ lineN) (h : ∀ p ∈ ps, B p.enc = .ret (if q p then some p.enc else none)) : compN B (ps.map Part.enc) = .ret ((ps.filter q).map Part.enc) := by
  unfold compN
  rw [if_pos (by rw [List.length_map]; exact small_line hz)]
  clear hz
  induction ps with
  | nil => rfl
  | cons p ps ih =>
    show (T.noX (B p.enc)).bind _ = _
    rw [h p (List.mem_cons_self ..)]
    show (T.bind (compM (fun d => (B d).noX) (ps.map Part.enc)) _) = _
    rw [ih fun x hx => h x (List.mem_cons_of_mem _ hx)]
    cases e : q p with
    | true => rw [List.filter_cons_of_pos e]; rfl
    | false => rw [List.filter_cons_of_neg (by rw [e]; exact Bool.false_ne_true)]; rfl
/-- a web by its names, weights, lots -/
def web (names weights lots : D) : D := .ins ("Web" : Str) [(("names" : Str), names), (("weights" : Str), weights), (("lots" : Str), lots)]

end K03

/-! a rule lets a standing. -/
namespace K03
open PySem PySem.Spec PyProof.Rows L2 MS
theorem within {a b : List Nat} (ha : a.length ≤ lineN) (hb : b.length ≤ lineN) : m_is_within [.tup (L a), .tup (L b)] = .ret (.bl (decide (∀ x ∈ a, x ∈ b))) := by
  refine (bind_eq (a := D.lst (L (a.filter fun n => !decide (n ∈ b)))) ?_).trans ?_
  · refine (bind_eq (a := L (a.filter fun n => !decide (n ∈ b))) ?_).trans rfl
    refine filt_L _ ha fun n hn => cI_ret (b := !decide (n ∈ b)) ?_ fun _ => rfl
    show T.bind (cmpM .NotIn (.int (n : Nat)) (.tup (L b))) asBool = _
    exact bind_ret' (notin_L n (small_line hb)) rfl
  · refine (eq_nil (fine_lstL (filter_len ha)) (by omega)).trans ?_
    congr 2
    rw [L_isEmpty, Bool.eq_iff_iff, List.isEmpty_iff, List.filter_eq_nil_iff, decide_eq_true_eq]
    exact ⟨fun h x hx => by simpa using h x hx, fun h x hx => by simpa using h x hx⟩
theorem cut {a b : List Nat} (ha : a.length ≤ lineN) (hb : b.length ≤ lineN) : m_cut [.tup (L a), .tup (L b)] = .ret (.tup (L (a.filter fun n => decide (n ∈ b)))) := by
  refine (bind_eq (a := [D.lst (L (a.filter fun n => decide (n ∈ b)))]) ?_).trans rfl
  refine (bind_eq (a := D.lst (L (a.filter fun n => decide (n ∈ b)))) ?_).trans rfl
  refine (bind_eq (a := L (a.filter fun n => decide (n ∈ b))) ?_).trans rfl
  refine filt_L _ ha fun n hn => cI_ret (b := decide (n ∈ b)) ?_ fun _ => rfl
  show T.bind (cmpM .In (.int (n : Nat)) (.tup (L b))) asBool = _
  exact bind_ret' (in_L n (small_line hb)) rfl
theorem dec_le (a b : Nat) : (D.bl (decide ((a : Int) ≤ (b : Int)))) = .bl (decide (a ≤ b)) := by
  congr 1
  simp
theorem weight_in {ws s : List Nat} {b : D} (hs : s.length ≤ lineN) (h : ∀ x ∈ s, x < ws.length) (t : D) : m_weight_in [.tup [t, .tup (L ws), b], .tup (L s)] = .ret (.int ((s.map fun x => ws.getD x 0).sum : Nat)) := by
  refine (bind_eq (a := [D.lst (L (s.map fun x => ws.getD x 0))]) ?_).trans (sum_L _)
  refine (bind_eq (a := D.lst (L (s.map fun x => ws.getD x 0))) ?_).trans rfl
  refine (bind_eq (a := L (s.map fun x => ws.getD x 0)) ?_).trans rfl
  exact map_L _ hs fun n hn => cE_ret (ix_L (h n hn))
theorem part_lets {p : Part} {many : Nat} {s : List Nat} (hp : p.Ok many) (hl : p.len ≤ lineN) (hs : s.length ≤ lineN) (h : ∀ x ∈ s, x < many) : m_part_lets [p.enc, .tup (L s)] = .ret (.bl (p.lets s)) := by
  cases p with
  | apart l =>
    show m_apart_lets [.tup [.str "apart", .tup (L l)], .tup (L s)] = _
    exact bind_ret' (within hl hs) rfl
  | most n l =>
    show m_most_lets [.tup [.str "most", .int (n : Nat), .tup (L l)], .tup (L s)] = _
    refine (bind_eq (a := D.int (((L (l.filter fun x => decide (x ∈ s))).length : Nat) : Int)) ?_).trans ?_
    · refine (bind_eq (a := [D.tup (L (l.filter fun x => decide (x ∈ s)))]) ?_).trans rfl
      exact (bind_eq (cut hl hs)).trans rfl
    · show T.ret (D.bl (decide (((L (l.filter fun x => decide (x ∈ s))).length : Int) ≤ (n : Int)))) = _
      rw [dec_le, List.length_map]
      rfl
  | room ws b =>
    show m_room_lets [.tup [.str "room", .tup (L ws), .int (b : Nat)], .tup (L s)] = _
    have hw : ws.length = many := hp
    refine (bind_eq (weight_in hs (by rw [hw]; exact h) _)).trans ?_
    show T.ret (D.bl (decide ((((s.map fun x => ws.getD x 0).sum : Nat) : Int) ≤ (b : Int)))) = _
    rw [dec_le]
    rfl
theorem lets {many : Nat} {ps : List Part} {s : List Nat} (hp : Rok many ps) (hs : s.length ≤ lineN) (h : ∀ x ∈ s, x < many) : m_lets [rule ps, .tup (L s)] = .ret (.bl (ps.all fun p => p.lets s)) := by
  refine (bind_eq (a := D.lst ((ps.filter fun p => !p.lets s).map Part.enc)) ?_).trans ?_
  · refine (bind_eq (a := (ps.filter fun p => !p.lets s).map Part.enc) ?_).trans rfl
    refine filt_P _ hp.len fun p hm => cI_ret (b := !p.lets s) ?_ fun _ => rfl
    refine (bind_eq (a := p.lets s) ?_).trans rfl
    exact bind_ret' (part_lets (hp.ok p hm).1 (hp.ok p hm).2 hs h) rfl
  · refine (eq_nil (n := 3) (.lst (fun x hx => ?_) ?_) (by omega)).trans ?_
    · obtain ⟨p, hm, rfl⟩ := List.mem_map.mp hx
      exact fine_part (hp.ok p (List.mem_filter.mp hm).1).2
    · rw [List.length_map]
      exact small_line (Nat.le_trans (List.length_filter_le _ _) hp.len)
    · congr 2
      rw [Bool.eq_iff_iff, List.isEmpty_iff, List.map_eq_nil_iff, List.filter_eq_nil_iff, List.all_eq_true]
      exact ⟨fun h x hx => by simpa using h x hx, fun h x hx => by simpa using h x hx⟩

end K03

/-! what is drawn -/
namespace K03
open PySem PySem.Spec PyProof.Rows L2 MS
theorem any_ok {Q : D → Prop} {b : Nat} (h0 : 0 < b) (hb : b < 2 ^ 60) (h : ∀ i, i < b → Q (.int (i : Nat))) : (m__law_any [.deal, .int (b : Nat)]).ok Q := by
  have e : m__law_any [.deal, .int (b : Nat)] = if (0 : Int) < (b : Nat) ∧ ((b : Nat) : Int) < 2 ^ 64 then .draw ((b : Nat) : Int).toNat fun i => .ret (.int (i : Nat)) else .stuck := rfl
  rw [e, if_pos ⟨by omega, by omega⟩]
  refine ok_draw fun i hi => ?_
  rw [Int.toNat_natCast] at hi
  exact ok_ret (h i hi)
/-- a draw into a partial thing: no goal with the thing's own tests is looked into -/
theorem any_eq {β : Type} {Q : β → Prop} {g : D → T β} {b : Nat} (h0 : 0 < b) (hb : b < 2 ^ 60) (h : ∀ i, i < b → ∃ x, g (.int (i : Nat)) = .ret x ∧ Q x) : (m__law_any [.deal, .int (b : Nat)]).ok fun d => (g d).ok Q :=
  any_ok h0 hb fun i hi => by
    obtain ⟨x, e, q⟩ := h i hi
    rw [e]
    exact ok_ret q
theorem ok_eq2 {β : Type} {m : T D} {d : D} {g : List D → T β} {a : β} {Q : β → Prop} (e : m = .ret d) (e2 : g [d] = .ret a) (h : Q a) : m.ok fun d => (T.ret []).ok fun ds => (g (d :: ds)).ok Q := by
  rw [e]
  refine ok_ret (ok_ret ?_)
  rw [e2]
  exact ok_ret h
theorem alike_int (i j : Int) : PySem.W.alike (.int i) (.int j) = true := by simp [PySem.W.alike]
theorem sortable_L {l : List Nat} (hl : l.length ≤ lineN) : sortableC (L l) = true := by
  unfold sortableC
  simp only [Bool.and_eq_true, decide_eq_true_eq, List.all_eq_true, Bool.or_eq_true]
  refine ⟨⟨⟨⟨fun d hd => ?_, fun d hd d' hd' => ?_⟩, .inr fun d hd => ?_⟩, ?_⟩, fun d hd => ?_⟩
  · obtain ⟨n, _, rfl⟩ := List.mem_map.mp hd
    rfl
  · obtain ⟨n, _, rfl⟩ := List.mem_map.mp hd
    obtain ⟨n', _, rfl⟩ := List.mem_map.mp hd'
    exact alike_int _ _
  · obtain ⟨n, _, rfl⟩ := List.mem_map.mp hd
    rfl
  · rw [List.length_map]
    exact small_line hl
  · obtain ⟨n, _, rfl⟩ := List.mem_map.mp hd
    simp [toP, PyData.depth]
def srt (l : List Nat) : List Nat := l.mergeSort (fun a b => decide (a ≤ b))
theorem sort_L (l : List Nat) : sortD (L l) = L (srt l) := by
  unfold sortD srt
  refine (List.map_mergeSort (f := fun n : Nat => D.int (n : Nat)) fun a _ b _ => ?_).symm
  show decide (a ≤ b) = !PySem.W.dataLt (.int (b : Nat)) (.int (a : Nat))
  rw [PySem.W.dataLt_int]
  by_cases h : a ≤ b
  · have h' : ¬ ((b : Nat) : Int) < (a : Nat) := by omega
    simp [h, h']
  · have h' : ((b : Nat) : Int) < (a : Nat) := by omega
    simp [h, h']
theorem srt_perm (l : List Nat) : (srt l).Perm l := List.mergeSort_perm _ _
theorem srt_lt {l : List Nat} (h : l.Nodup) : (srt l).Pairwise (· < ·) := by
  have h1 : (srt l).Pairwise (fun a b => decide (a ≤ b) = true) := List.pairwise_mergeSort (fun a b c h1 h2 => by simp at h1 h2 ⊢; omega) (fun a b => by simp; omega) l
  have h2 : (srt l).Nodup := (srt_perm l).nodup_iff.mpr h
  exact (h1.and h2).imp fun {a b} ⟨x, y⟩ => by
    have x' : a ≤ b := by simpa using x
    omega
theorem idx_nat {i n : Nat} (h : i < n) : seqIndex? (i : Nat) n = some i := by
  have h1 : ¬ ((i : Nat) : Int) < 0 := by omega
  have h2 : ((0 : Int) ≤ (i : Nat) && ((i : Nat) : Int) < (n : Nat)) = true := by
    simp only [Bool.and_eq_true, decide_eq_true_eq]
    omega
  show (if ((0 : Int) ≤ (if ((i : Nat) : Int) < 0 then (i : Int) + n else i) && (if ((i : Nat) : Int) < 0 then (i : Int) + n else i) < (n : Nat)) = true then some (if ((i : Nat) : Int) < 0 then (i : Int) + n else i).toNat else none) = some i
  rw [if_neg h1, if_pos h2, Int.toNat_natCast]
theorem erase_map {α β : Type} (f : α → β) : ∀ (l : List α) (i : Nat), (l.map f).eraseIdx i = (l.eraseIdx i).map f
  | [], _ => rfl
  | _ :: _, 0 => rfl
  | a :: l, i + 1 => by
    show f a :: (l.map f).eraseIdx i = f a :: (l.eraseIdx i).map f
    rw [erase_map f l i]
theorem pop_L {l : List Nat} {i : Nat} (hl : l.length ≤ lineN) (h : i < l.length) : popM (L l) (.int (i : Nat)) = .ret (.int ((l.getD i 0 : Nat) : Int), L (l.eraseIdx i)) := by
  have hl' : l.length ≤ 1000 := hl
  have hb : (-(2 ^ 63) : Int) ≤ (i : Nat) ∧ ((i : Nat) : Int) < 2 ^ 63 := by omega
  have e : popM (L l) (.int (i : Nat)) = if (-(2 ^ 63) : Int) ≤ (i : Nat) ∧ ((i : Nat) : Int) < 2 ^ 63 then (match seqIndex? (i : Nat) (L l).length with
    | some k => (match (L l)[k]? with
      | some d => .ret (d, (L l).eraseIdx k)
      | none => .stuck)
    | none => .stuck) else .stuck := rfl
  rw [e, if_pos hb, List.length_map, idx_nat h]
  simp only
  rw [List.getElem?_map, List.getElem?_eq_getElem h, List.getD_eq_getElem?_getD, List.getElem?_eq_getElem h]
  simp only [Option.map_some, Option.getD_some]
  rw [erase_map]
theorem perm_get : ∀ {l : List Nat} {i : Nat} (h : i < l.length), (l.getD i 0 :: l.eraseIdx i).Perm l
  | a :: l, 0, _ => .refl _
  | a :: l, i + 1, h => by
    have ih := perm_get (l := l) (i := i) (by simpa using h)
    show ((l.getD i 0) :: a :: l.eraseIdx i).Perm (a :: l)
    exact (List.Perm.swap ..).trans (ih.cons a)
theorem perm_pop {f l : List Nat} {i : Nat} (h : i < l.length) : ((f ++ [l.getD i 0]) ++ l.eraseIdx i).Perm (f ++ l) := by
  rw [List.append_assoc]
  exact List.Perm.append_left f (perm_get h)
/-- a drawn lot: some of these, in order -/
def Lot (ts : List Nat) (d : D) : Prop := ∃ r : List Nat, d = .tup (L r) ∧ r.Pairwise (· < ·) ∧ (∀ x ∈ r, x ∈ ts) ∧ (ts ≠ [] → r ≠ []) ∧ r.length ≤ ts.length
theorem rng1 {n : Nat} (h : n ≤ lineN) : rng1M [.int (n : Nat)] = .ret (L (List.range n)) := by
  have h' : n ≤ 1000 := h
  show rangeD 0 (n : Nat) = _
  unfold rangeD
  have c : (-(2 ^ 62) : Int) ≤ 0 ∧ (0 : Int) < 2 ^ 62 ∧ (-(2 ^ 62) : Int) ≤ (n : Nat) ∧ ((n : Nat) : Int) < 2 ^ 62 ∧ (((n : Nat) : Int) - 0).toNat ≤ 16777216 := ⟨by decide, by decide, by omega, by omega, by omega⟩
  rw [if_pos c]
  have e2 : (((n : Nat) : Int) - 0).toNat = n := by omega
  rw [e2]
  congr 1
  refine List.map_congr_left fun i _ => ?_
  rw [Int.zero_add]
theorem few_loop {v_deal : D} (hv : v_deal = .deal) {ts : List Nat} {c : Nat} (hl : ts.length ≤ lineN) (hn : ts.Nodup) (hc : c ≤ ts.length) (hc0 : ts ≠ [] → 0 < c) : T.ok (MS.forM (St := (List D × List D)) (fun v_turn43 s40 nx41 bk42 => (popA s40.1 (T.bind (T.bind (consM (.ret v_deal) (consM (T.bind (consM (.ret (.lst s40.2)) (.ret [])) lenM) (.ret []))) m__law_any) (popM s40.2)) fun v_e44 v_left45 => (nx41 ((s40.1 ++ [v_e44]), v_left45)))) (fun s40 => (T.bind (consM (T.bind (T.bind (consM (.ret (.lst s40.1)) (.ret [])) sortedM) fun ds => .ret (.lst ds)) (.ret [])) tupleM)) (L (List.range c)) ([], L ts)) (Lot ts) := by
  subst hv
  have hl' : ts.length ≤ 1000 := hl
  refine forM_ok (P := fun j (s : List D × List D) => ∃ f r : List Nat, s = (L f, L r) ∧ (f ++ r).Perm ts ∧ f.length = j) 0 (fun j d hd s ⟨f, r, es, hp, hf⟩ nx hnx => ?_) (fun s ⟨f, r, es, hp, hf⟩ => ?_) ([], L ts) ⟨[], ts, rfl, .refl _, rfl⟩
  · subst es
    have hj : j < c := by
      have := (List.getElem?_eq_some_iff.mp hd).1
      simpa using this
    have hlen := hp.length_eq
    rw [List.length_append] at hlen
    have hr : 0 < r.length := by omega
    refine ok_bind ?_
    refine ok_bind ?_
    refine ok_bind ?_
    refine ok_consM ?_
    refine ok_ret ?_
    refine ok_consM ?_
    refine ok_eq (a := D.int ((L r).length : Nat)) rfl ?_
    refine ok_ret ?_
    have hlr : (L r).length = r.length := List.length_map ..
    rw [hlr]
    refine any_eq hr (by omega) fun i hi => ⟨_, pop_L (show r.length ≤ lineN by show r.length ≤ 1000; omega) hi, ?_⟩
    show T.ok (if (L f).length < sizeLine then _ else _) _
    rw [if_pos (by rw [List.length_map]; have := sizeLine_val; omega)]
    refine hnx _ ⟨f ++ [r.getD i 0], r.eraseIdx i, ?_, ?_, ?_⟩
    · show (L f ++ [D.int ((r.getD i 0 : Nat) : Int)], L (r.eraseIdx i)) = _
      have z : L (f ++ [r.getD i 0]) = L f ++ L [r.getD i 0] := List.map_append ..
      rw [z]
      rfl
    · exact (perm_pop hi).trans hp
    · rw [List.length_append]
      simp
      omega
  · subst es
    have hlen := hp.length_eq
    rw [List.length_append] at hlen
    have hfn : f.Nodup := (List.nodup_append.mp (hp.nodup_iff.mpr hn)).1
    have hfl : f.length ≤ lineN := by show f.length ≤ 1000; omega
    refine ok_eq (a := D.tup (L (srt f))) ?_ ⟨srt f, rfl, srt_lt hfn, fun x hx => hp.subset (List.mem_append_left _ ((srt_perm f).subset hx)), fun h => ?_, ?_⟩
    · refine (bind_eq (a := [D.lst (L (srt f))]) ?_).trans rfl
      refine (bind_eq (a := D.lst (L (srt f))) ?_).trans rfl
      refine (bind_eq (a := L (srt f)) ?_).trans rfl
      show (if sortableC (L f) = true then T.ret (sortD (L f)) else .stuck) = _
      rw [if_pos (sortable_L hfl), sort_L]
    · intro z
      have h1 := (srt_perm f).length_eq
      rw [z] at h1
      have h2 := hc0 h
      have h3 : (L (List.range c)).length = c := by simp
      have h4 : f.length = 0 + (L (List.range c)).length := hf
      rw [h3] at h4
      simp at h1
      omega
    · rw [(srt_perm f).length_eq]
      omega
theorem drawn_few {ts : List Nat} {m : Nat} (hl : ts.length ≤ lineN) (hn : ts.Nodup) (h0 : 0 < m) (hm : m ≤ lineN) : (m__law_drawn_few [.deal, .lst (L ts), .int (m : Nat)]).ok (Lot ts) := by
  have hl' : ts.length ≤ 1000 := hl
  have hm' : m ≤ 1000 := hm
  refine ok_bindE (a := L ts) rfl ?_
  refine ok_bindE (a := []) rfl ?_
  -- how many
  refine ok_bind ?_
  refine ok_bind ?_
  refine ok_consM ?_
  refine ok_bind ?_
  refine ok_consM ?_
  refine ok_eq (a := D.int ((L ts).length : Nat)) rfl ?_
  refine ok_consM ?_
  refine ok_bindE (a := D.int 1) rfl ?_
  refine ok_bind ?_
  refine any_ok h0 (by omega) fun y hy => ?_
  refine ok_eq (a := D.int ((1 : Int) + (y : Nat))) rfl ?_
  refine ok_ret ?_
  have hmin : ∃ c : Nat, minM [.int ((L ts).length : Nat), .int ((1 : Int) + (y : Nat))] = .ret (.int (c : Nat)) ∧ c ≤ ts.length ∧ (ts ≠ [] → 0 < c) := by
    have e : minM [.int ((L ts).length : Nat), .int ((1 : Int) + (y : Nat))] = .ret (.int (if (1 : Int) + (y : Nat) < ((L ts).length : Nat) then (1 : Int) + (y : Nat) else ((L ts).length : Nat))) := rfl
    have hlen : (L ts).length = ts.length := List.length_map ..
    rw [e, hlen]
    by_cases q : (1 : Int) + (y : Nat) < (ts.length : Nat)
    · rw [if_pos q]
      refine ⟨1 + y, ?_, by omega, fun _ => by omega⟩
      have z : ((1 + y : Nat) : Int) = (1 : Int) + (y : Nat) := by omega
      rw [z]
    · rw [if_neg q]
      exact ⟨ts.length, rfl, Nat.le_refl _, fun z => List.length_pos_iff.mpr z⟩
  obtain ⟨c, e, hc, hc0⟩ := hmin
  have e2 := rng1 (show c ≤ lineN by show c ≤ 1000; omega)
  exact ok_eq2 e e2 (few_loop rfl hl hn hc hc0)
theorem ixl_L {l : List Nat} {i : Nat} (h : i < l.length) : ixM (.lst (L l)) (.int (i : Nat)) = .ret (.int ((l.getD i 0 : Nat) : Int)) := by
  show (match L2.atI (L l) (i : Nat) with
    | some d => T.ret d
    | none => .stuck) = _
  rw [atI_L h]
theorem law_of {ls : List Nat} (h0 : ls ≠ []) (hl : ls.length ≤ lineN) {Q : D → Prop} (h : ∀ x ∈ ls, Q (.int (x : Nat))) : (m__law_of [.deal, .lst (L ls)]).ok Q := by
  have hl' : ls.length ≤ 1000 := hl
  have hz : 0 < ls.length := List.length_pos_iff.mpr h0
  refine ok_bindE (a := D.lst (L ls)) rfl ?_
  refine ok_bind ?_
  refine ok_bindE (a := [D.deal, .int ((L ls).length : Nat)]) rfl ?_
  have e : (L ls).length = ls.length := List.length_map ..
  rw [e]
  refine any_eq hz (by omega) fun i hi => ⟨_, ixl_L hi, ?_⟩
  refine h _ ?_
  rw [List.getD_eq_getElem?_getD, List.getElem?_eq_getElem hi]
  exact List.getElem_mem hi
/-- some whole number from 0 -/
theorem any_any {Q : D → Prop} (n : Nat) (hn : 0 < n ∧ n < 2 ^ 60) (h : ∀ i, i < n → Q (.int (i : Nat))) : (m__law_any [.deal, .int (n : Nat)]).ok Q := any_ok hn.1 hn.2 h
theorem toPs_L : ∀ l : List Nat, toPs (L l) = (l.map fun n : Nat => (n : Int)).map .int
  | [] => rfl
  | a :: l => by
    show PyData.int (a : Nat) :: toPs (L l) = _
    rw [toPs_L l]
    rfl
theorem alike_tups (a b : List Nat) : PySem.W.alike (toP (.tup (L a))) (toP (.tup (L b))) = true := by
  show PySem.W.alike (.tuple (toPs (L a))) (.tuple (toPs (L b))) = true
  rw [toPs_L, toPs_L]
  simpa [PySem.W.alike] using PySem.W.alike_ints (a.map fun n : Nat => (n : Int)) (b.map fun n : Nat => (n : Int))
theorem isDatas_L : ∀ l : List Nat, isDatas (L l) = true
  | [] => rfl
  | _ :: l => by
    show (true && isDatas (L l)) = true
    rw [isDatas_L l]
    rfl
theorem depths_L : ∀ l : List Nat, PyData.depthAll (toPs (L l)) ≤ 1
  | [] => by simp [toPs, PyData.depthAll]
  | _ :: l => by
    have h : PyData.depthAll (toPs (l.map fun n : Nat => D.int (n : Nat))) ≤ 1 := depths_L l
    simp only [List.map_cons, toPs, toP, PyData.depthAll, PyData.depth]
    omega
theorem sortable_two {a b : List Nat} (ha : a ≠ []) (hb : b ≠ []) : sortableC [.tup (L a), .tup (L b)] = true := by
  unfold sortableC
  simp only [Bool.and_eq_true, decide_eq_true_eq, List.all_eq_true, Bool.or_eq_true]
  have two : ∀ {P : D → Prop}, P (.tup (L a)) → P (.tup (L b)) → ∀ d ∈ [D.tup (L a), .tup (L b)], P d := fun h1 h2 d hd => by
    rcases List.mem_cons.mp hd with rfl | hd
    · exact h1
    · rw [List.mem_singleton.mp hd]
      exact h2
  refine ⟨⟨⟨⟨two (isDatas_L a) (isDatas_L b), two (two (alike_tups a a) (alike_tups a b)) (two (alike_tups b a) (alike_tups b b))⟩, .inl (two rfl rfl)⟩, ?_⟩, two ?_ ?_⟩
  · have := sizeLine_val
    show 2 ≤ sizeLine
    omega
  · have := depths_L a
    simp only [toP, PyData.depth]
    omega
  · have := depths_L b
    simp only [toP, PyData.depth]
    omega
theorem max0 (n : Nat) : maxM [.int 0, .int ((n : Int) - 3)] = .ret (.int ((n - 3 : Nat) : Int)) := by
  show T.ret (D.int (if (n : Int) - 3 > 0 then (n : Int) - 3 else 0)) = _
  by_cases q : (n : Int) - 3 > 0
  · rw [if_pos q]
    have e : (n : Int) - 3 = ((n - 3 : Nat) : Int) := by omega
    rw [e]
  · rw [if_neg q]
    have e : (0 : Int) = ((n - 3 : Nat) : Int) := by omega
    rw [← e]
theorem range_L {a b : Nat} (ha : a ≤ lineN) (h : b ≤ lineN) : rangeL (a : Nat) (b : Nat) = .ret (L (List.range' a (b - a))) := by
  have h' : b ≤ 1000 := h
  have ha' : a ≤ 1000 := ha
  unfold rangeL
  rw [if_pos ⟨by omega, by omega, by omega, by omega, by omega⟩]
  have e : (((b : Nat) : Int) - (a : Nat)).toNat = b - a := by omega
  rw [e, List.range'_eq_map_range]
  congr 1
  show _ = List.map _ (List.map _ _)
  rw [List.map_map]
  refine List.map_congr_left fun i _ => ?_
  show D.int ((a : Int) + (i : Nat)) = D.int ((a + i : Nat) : Int)
  congr 1
theorem consM_eq {m : T D} {ms : T (List D)} {d : D} {ds : List D} (e : m = .ret d) (e2 : ms = .ret ds) : consM m ms = .ret (d :: ds) := by
  rw [e, e2]
  rfl
theorem eqI (i j : Int) : cmpM .Eq (.int i) (.int j) = .ret (.bl (decide (i = j))) := by
  have hb : (okD (.int i) && okD (.int j)) = true := by
    rw [okD_fine (Fine.int (n := 0) _) (by omega), okD_fine (Fine.int (n := 0) _) (by omega)]
    rfl
  have e : cmpM .Eq (.int i) (.int j) = if (okD (.int i) && okD (.int j)) = true then .ret (.bl (eqD (.int i) (.int j))) else .stuck := rfl
  rw [e, if_pos hb, eqD_int]
theorem neI (i j : Int) : cmpM .NotEq (.int i) (.int j) = .ret (.bl (!decide (i = j))) := by
  have hb : (okD (.int i) && okD (.int j)) = true := by
    rw [okD_fine (Fine.int (n := 0) _) (by omega), okD_fine (Fine.int (n := 0) _) (by omega)]
    rfl
  have e : cmpM .NotEq (.int i) (.int j) = if (okD (.int i) && okD (.int j)) = true then .ret (.bl (!eqD (.int i) (.int j))) else .stuck := rfl
  rw [e, if_pos hb, eqD_int]
theorem inlst_L {l : List Nat} (n : Nat) (hz : l.length ≤ sizeLine) : cmpM .In (.int (n : Nat)) (.lst (L l)) = .ret (.bl (decide (n ∈ l))) := by
  have hb : (okD (.int (n : Nat)) && okD (.lst (L l))) = true := by
    rw [okD_fine (Fine.int (n := 0) _) (by omega), okD_fine (Fine.lst (n := 0) (fine_L l) (by simpa using hz)) (by omega)]
    rfl
  have e : cmpM .In (.int (n : Nat)) (.lst (L l)) = if (okD (.int (n : Nat)) && okD (.lst (L l))) = true then .ret (.bl ((L l).any fun z => eqD z (.int (n : Nat)))) else .stuck := rfl
  rw [e, if_pos hb, any_L]
/-- a draw, and then a branch: both ways -/
theorem ok_cond {α : Type} {m : T Bool} {a b : T α} {Q : α → Prop} (hm : m.ok fun _ => True) (ha : a.ok Q) (hb : b.ok Q) : (m.bind fun t => bif t then a else b).ok Q :=
  ok_bind (ok_mono hm fun t _ => by
    cases t
    · exact hb
    · exact ha)
/-- is a drawn number 0 -/
theorem any_zero (n : Nat) (hn : 0 < n ∧ n < 2 ^ 60) : (T.bind (T.bind (consM (.ret D.deal) (consM (.ret (.int (n : Nat))) (.ret []))) m__law_any) fun x => T.bind (.ret (.int 0)) fun y => T.bind (cmpM .Eq x y) asBool).ok fun _ => True := by
  refine ok_bind ?_
  refine ok_bindE (a := [D.deal, .int (n : Nat)]) rfl ?_
  refine any_eq (Q := fun _ => True) (g := fun x => T.bind (.ret (.int 0)) fun y => T.bind (cmpM .Eq x y) asBool) hn.1 hn.2 fun i _ => ⟨decide ((i : Int) = 0), ?_, trivial⟩
  show T.bind (cmpM .Eq (.int (i : Nat)) (.int 0)) asBool = _
  rw [eqI]
  rfl
theorem lot_range {a b m : Nat} (ha : a ≤ lineN) (h : b ≤ lineN) (h0 : 0 < m) (hm : m ≤ lineN) : (m__law_drawn_few [.deal, .lst (L (List.range' a (b - a))), .int (m : Nat)]).ok (Lot (List.range' a (b - a))) := by
  have h' : b ≤ 1000 := h
  exact drawn_few (by rw [List.length_range']; show b - a ≤ 1000; omega) (List.nodup_range' (h := by decide)) h0 hm
theorem lot_then {Q : D → Prop} {a b m : Nat} (ha : a ≤ lineN) (h : b ≤ lineN) (h0 : 0 < m) (hm : m ≤ lineN) (hq : ∀ r : List Nat, r.Pairwise (· < ·) → (∀ x ∈ r, a ≤ x ∧ x < b) → (a < b → r ≠ []) → r.length ≤ b → Q (.tup (L r))) : (m__law_drawn_few [.deal, .lst (L (List.range' a (b - a))), .int (m : Nat)]).ok Q :=
  ok_mono (lot_range ha h h0 hm) fun d hd => by
    obtain ⟨r, rfl, hp, hx, hr, hl⟩ := hd
    rw [List.length_range'] at hl
    refine hq r hp (fun x z => ?_) (fun z => hr ?_) (by omega)
    · have := List.mem_range'_1.mp (hx x z)
      omega
    · intro z2
      have := congrArg List.length z2
      rw [List.length_range'] at this
      simp at this
      omega
theorem bearers {n : Nat} (hn : n ≤ lineN) : (m__law_bearers [.deal, .int (n : Nat)]).ok fun _ => True := by
  have hn' : n ≤ 1000 := hn
  by_cases z : n = 0
  · subst z
    refine ok_bindE (a := true) ?_ (ok_ret trivial)
    refine bind_ret' (a := true) ?_ rfl
    show T.bind (cmpM .Eq (.int 0) (.int 0)) asBool = _
    rw [eqI]
    rfl
  refine ok_cond ?_ (ok_ret trivial) ?_
  · refine ok_bindE (a := false) ?_ (any_zero 6 (by omega))
    show T.bind (cmpM .Eq (.int (n : Nat)) (.int 0)) asBool = _
    rw [eqI, decide_eq_false (by omega)]
    rfl
  refine ok_bind ?_
  refine ok_bindE (a := [D.deal, .lst (L (List.range' (n - 3) (n - (n - 3)))), .int (2 : Nat)]) ?_ ?_
  · refine consM_eq rfl (consM_eq ?_ rfl)
    refine bind_ret' (a := L (List.range' (n - 3) (n - (n - 3)))) ?_ rfl
    refine bind_ret' (a := (((n - 3 : Nat) : Int), ((n : Nat) : Int))) ?_ (range_L (show n - 3 ≤ lineN by show n - 3 ≤ 1000; omega) hn)
    refine bind_ret' (a := D.int (n - 3 : Nat)) ?_ rfl
    exact bind_ret' (a := [.int 0, .int ((n : Int) - 3)]) rfl (max0 n)
  refine lot_then (show n - 3 ≤ lineN by show n - 3 ≤ 1000; omega) hn (by omega) (by decide) fun r _ _ hr hrl => ?_
  refine ok_bind ?_
  refine ok_bindE (a := [D.deal, .lst (L (List.range' 0 (n - 0))), .int (2 : Nat)]) ?_ ?_
  · refine consM_eq rfl (consM_eq ?_ rfl)
    refine bind_ret' (a := L (List.range' 0 (n - 0))) ?_ rfl
    exact bind_ret' (a := (((0 : Nat) : Int), ((n : Nat) : Int))) rfl (range_L (show 0 ≤ lineN by show 0 ≤ 1000; omega) hn)
  refine lot_then (show 0 ≤ lineN by show 0 ≤ 1000; omega) hn (by omega) (by decide) fun s _ _ hs hsl => ?_
  have hr0 : r ≠ [] := hr (by omega)
  have hs0 : s ≠ [] := hs (by omega)
  have hrl' : (L r).length = r.length := List.length_map ..
  have hsl' : (L s).length = s.length := List.length_map ..
  have sz := sizeLine_val
  -- near
  refine ok_bind ?_
  refine ok_bind ?_
  refine ok_bind ?_
  refine ok_consM ?_
  refine ok_bind ?_
  refine ok_bindE (a := L r) rfl ?_
  refine ok_mono (compN_ok (fun _ => True) (by rw [hrl']; omega) fun d hd => ?_) ?_
  · obtain ⟨x, _, rfl⟩ := List.mem_map.mp hd
    have e : (cI (T.bind (.ret (.int (x : Nat))) fun x => T.bind (.ret (.tup (L s))) fun y => T.bind (cmpM .In x y) asBool) (.ret (.int 1))) = .ret (if decide (x ∈ s) then some (.int 1) else none) := by
      refine cI_ret ?_ fun _ => rfl
      show T.bind (cmpM .In (.int (x : Nat)) (.tup (L s))) asBool = _
      rw [in_L x (by omega)]
      rfl
    exact ok_eq e fun _ _ => trivial
  rintro l -
  refine ok_ret ?_
  refine ok_ret ?_
  refine ok_eq (a := D.int (l.length : Nat)) rfl ?_
  refine ok_bindE (a := D.lst (L [r.length, s.length])) ?_ ?_
  · show T.ret (D.lst [.int ((L r).length : Nat), .int ((L s).length : Nat)]) = _
    rw [hrl', hsl']
    rfl
  refine ok_eq (inlst_L l.length (by show 2 ≤ sizeLine; omega)) ?_
  refine ok_cond ?_ (ok_ret trivial) ?_
  · refine ok_bindE (a := decide (l.length ∈ [r.length, s.length])) rfl ?_
    cases decide (l.length ∈ [r.length, s.length])
    · exact any_zero 2 (by omega)
    · exact ok_ret trivial
  · refine ok_bindE (a := [D.lst (sortD [.tup (L r), .tup (L s)])]) ?_ (ok_ret trivial)
    refine consM_eq ?_ rfl
    refine bind_ret' (a := sortD [.tup (L r), .tup (L s)]) ?_ rfl
    show (if sortableC [.tup (L r), .tup (L s)] = true then T.ret (sortD [.tup (L r), .tup (L s)]) else .stuck) = _
    rw [if_pos (sortable_two hr0 hs0)]
theorem all_L : ∀ {l : List D}, (∀ y ∈ l, ∃ n : Nat, y = .int (n : Nat)) → ∃ ws : List Nat, l = L ws
  | [], _ => ⟨[], rfl⟩
  | d :: l, h => by
    obtain ⟨n, rfl⟩ := h d (List.mem_cons_self ..)
    obtain ⟨ws, rfl⟩ := all_L fun y hy => h y (List.mem_cons_of_mem _ hy)
    exact ⟨n :: ws, rfl⟩
theorem ix_str {s : Str} {i : Nat} (hs : s.length ≤ sizeLine) (h : i < s.cps.toList.length) : ∃ c, c ∈ s.cps.toList ∧ ixM (.str s) (.int (i : Nat)) = .ret (.str ⟨#[c]⟩) := by
  refine ⟨s.cps.toList[i], List.getElem_mem h, ?_⟩
  have e : ixM (.str s) (.int (i : Nat)) = if s.length ≤ sizeLine then (match L2.atI s.cps.toList (i : Nat) with
    | some c => T.ret (.str ⟨#[c]⟩)
    | none => .stuck) else .stuck := rfl
  rw [e, if_pos hs]
  have e2 : L2.atI s.cps.toList (i : Nat) = some s.cps.toList[i] := by
    unfold L2.atI ixN
    rw [if_pos (by omega), if_pos (by omega)]
    show s.cps.toList[((i : Nat) : Int).toNat]? = _
    rw [Int.toNat_natCast, List.getElem?_eq_getElem h]
  rw [e2]
theorem add_str (a b : Nat) : addD (.str ⟨#[a]⟩) (.str ⟨#[b]⟩) = .ret (.str (⟨#[a]⟩ ++ ⟨#[b]⟩)) := by
  have e : addD (.str ⟨#[a]⟩) (.str ⟨#[b]⟩) = if 1 + 1 ≤ sizeLine then .ret (.str (⟨#[a]⟩ ++ ⟨#[b]⟩)) else .stuck := rfl
  have := sizeLine_val
  rw [e, if_pos (by omega)]
theorem wv_small : ∀ c ∈ (("wv" : Str)).cps.toList, c < 128 := by decide +kernel
theorem abc_small : ∀ c ∈ (("abcdefgh" : Str)).cps.toList, c < 128 := by decide +kernel
theorem ascii_two {a b : Nat} (ha : a < 128) (hb : b < 128) : ∀ c ∈ ((⟨#[a]⟩ : Str) ++ ⟨#[b]⟩).cps.toList, c < 128 := by
  intro c hc
  have e : ((⟨#[a]⟩ : Str) ++ ⟨#[b]⟩).cps.toList = [a, b] := rfl
  rw [e] at hc
  rcases List.mem_cons.mp hc with rfl | hc
  · exact ha
  · rw [List.mem_singleton.mp hc]
    exact hb
theorem len_range (k : Nat) : (L (List.range k)).length = k := by simp
theorem in_range {k : Nat} {d : D} (h : d ∈ L (List.range k)) : ∃ i : Nat, d = .int (i : Nat) ∧ i < k := by
  obtain ⟨i, hi, rfl⟩ := List.mem_map.mp h
  exact ⟨i, rfl, List.mem_range.mp hi⟩
/-- a drawn web's makings -/
def Stock (lo hi : Nat) (d : D) : Prop := ∃ (names : List D) (ws : List Nat) (lots : D), d = .tup [.tup names, .tup (L ws), lots] ∧ lo ≤ names.length ∧ names.length ≤ hi ∧ ws.length = names.length ∧ ∀ x ∈ ws, x ≤ 3
/-- .. its lots told as a tuple -/
def StockT (lo hi : Nat) (d : D) : Prop := ∃ (names : List D) (ws : List Nat) (lots : List D), d = .tup [.tup names, .tup (L ws), .tup lots] ∧ lo ≤ names.length ∧ names.length ≤ hi ∧ ws.length = names.length ∧ (∀ x ∈ ws, x ≤ 3) ∧ lots.length = names.length
/-- .. its names told as texts of two signs -/
def StockN (lo hi : Nat) (d : D) : Prop := ∃ (names : List D) (ws : List Nat) (lots : List D), d = .tup [.tup names, .tup (L ws), .tup lots] ∧ lo ≤ names.length ∧ names.length ≤ hi ∧ ws.length = names.length ∧ (∀ x ∈ ws, x ≤ 3) ∧ lots.length = names.length ∧ ∀ y ∈ names, ∃ z : Str, y = .str z ∧ z.length = 2 ∧ ∀ c ∈ z.cps.toList, c < 128
theorem stockN {lo hi : Nat} (h1 : lo ≤ hi) (h9 : hi ≤ 8) : (m__law_stock [.deal, .int (lo : Nat), .int (hi : Nat)]).ok (StockN lo hi) := by
  have sz := sizeLine_val
  refine ok_bind ?_
  refine ok_bindE (a := D.int (lo : Nat)) rfl ?_
  refine ok_bind ?_
  refine ok_bindE (a := [D.deal, .int ((hi - lo + 1 : Nat) : Int)]) ?_ ?_
  · refine consM_eq rfl (consM_eq ?_ rfl)
    refine bind_ret' (a := D.int ((hi : Int) - (lo : Int))) rfl ?_
    refine bind_ret' (a := D.int 1) rfl ?_
    show T.ret (D.int ((hi : Int) - (lo : Int) + 1)) = _
    have z : ((hi - lo + 1 : Nat) : Int) = (hi : Int) - (lo : Int) + 1 := by omega
    rw [z]
  refine any_ok (by omega) (by omega) fun i hi2 => ?_
  have e : addD (.int (lo : Nat)) (.int (i : Nat)) = .ret (.int ((lo + i : Nat) : Int)) := by
    show T.ret (D.int ((lo : Int) + (i : Nat))) = _
    have z : ((lo + i : Nat) : Int) = (lo : Int) + (i : Nat) := by omega
    rw [z]
  refine ok_eq e ?_
  have h2 : lo ≤ lo + i := by omega
  have h8 : lo + i ≤ hi := by omega
  generalize lo + i = k at h2 h8
  have hk : k ≤ lineN := by show k ≤ 1000; omega
  have rg : T.bind (consM (.ret (.int (k : Nat))) (.ret [])) rng1M = .ret (L (List.range k)) := by
    have h := rng1 hk
    rw [bind_eq (consM_eq (d := D.int (k : Nat)) rfl rfl), h]
  have hz : (L (List.range k)).length ≤ sizeLine := by rw [len_range]; omega
  refine ok_bind ?_
  refine ok_bind ?_
  refine ok_consM ?_
  refine ok_bind ?_
  refine ok_bindE rg ?_
  refine ok_mono (compN_okE (fun y => ∃ z : Str, y = .str z ∧ z.length = 2 ∧ ∀ c ∈ z.cps.toList, c < 128) hz fun d hd => ?_) fun names hn => ?_
  · obtain ⟨a, rfl, ha⟩ := in_range hd
    refine ok_bind ?_
    refine ok_bind ?_
    refine ok_bind ?_
    refine ok_ret ?_
    refine ok_bind ?_
    refine ok_bindE (a := [D.deal, .int (2 : Nat)]) rfl ?_
    refine any_ok (by omega) (by omega) fun j hj => ?_
    obtain ⟨c, hc, ec⟩ := ix_str (s := "wv") (i := j) (by show 2 ≤ sizeLine; omega) (by show j < 2; exact hj)
    refine ok_eq ec ?_
    obtain ⟨c2, hc2, ec2⟩ := ix_str (s := "abcdefgh") (i := a) (by show 8 ≤ sizeLine; omega) (by show a < 8; omega)
    refine ok_bindE (bind_ret' (a := D.str "abcdefgh") rfl (bind_ret' (a := D.int (a : Nat)) rfl ec2)) ?_
    refine ok_eq (add_str c c2) ?_
    exact ok_ret ⟨_, rfl, _, rfl, rfl, ascii_two (wv_small c hc) (abc_small c2 hc2)⟩
  refine ok_ret (ok_ret ?_)
  refine ok_eq (a := D.tup names) rfl ?_
  have hnl : names.length = k := hn.2.trans (len_range k)
  -- the rest
  refine ok_bind ?_
  refine ok_consM ?_
  refine ok_ret ?_
  refine ok_consM ?_
  refine ok_bind ?_
  refine ok_consM ?_
  refine ok_bind ?_
  refine ok_bindE rg ?_
  refine ok_mono (compN_okE (fun y => ∃ n : Nat, y = .int (n : Nat) ∧ n ≤ 3) hz fun d hd => ?_) fun l hl => ?_
  · refine ok_bind ?_
    refine ok_bindE (a := D.int 1) rfl ?_
    refine ok_bind ?_
    refine ok_bindE (a := [D.deal, .int (3 : Nat)]) rfl ?_
    refine any_ok (by omega) (by omega) fun j hj => ?_
    refine ok_eq (a := D.int ((1 : Int) + (j : Nat))) rfl ?_
    exact ok_ret ⟨_, rfl, 1 + j, by congr 1, by omega⟩
  obtain ⟨ws, rfl⟩ := all_L fun y hy => ⟨_, (hl.1 y hy).choose_spec.1⟩
  have hw3 : ∀ x ∈ ws, x ≤ 3 := fun x hx => by
    obtain ⟨n, e, h⟩ := hl.1 (.int (x : Nat)) (List.mem_map.mpr ⟨x, hx, rfl⟩)
    have e2 : (x : Int) = (n : Int) := by injection e
    omega
  have hwl : ws.length = k := by
    have := hl.2
    rw [len_range, List.length_map] at this
    exact this
  refine ok_ret (ok_ret ?_)
  refine ok_eq (a := D.tup (L ws)) rfl ?_
  refine ok_consM ?_
  refine ok_bind ?_
  refine ok_consM ?_
  refine ok_bind ?_
  refine ok_bindE rg ?_
  refine ok_mono (compN_okE (fun _ => True) hz fun d hd => ?_) fun lots hlo => ?_
  · obtain ⟨a, rfl, ha⟩ := in_range hd
    refine ok_bind ?_
    refine ok_bindE (a := [D.deal, .int (a : Nat)]) rfl ?_
    refine ok_mono (bearers (show a ≤ lineN by show a ≤ 1000; omega)) fun x _ => ?_
    exact ok_ret ⟨_, rfl, trivial⟩
  refine ok_ret (ok_ret ?_)
  refine ok_eq (a := D.tup lots) rfl ?_
  refine ok_ret ?_
  refine ok_eq (a := D.tup [.tup names, .tup (L ws), .tup lots]) rfl ?_
  exact ⟨names, ws, _, rfl, by omega, by omega, by omega, hw3, by rw [hlo.2, len_range]; omega, hn.1⟩
theorem stockT {lo hi : Nat} (h1 : lo ≤ hi) (h9 : hi ≤ 8) : (m__law_stock [.deal, .int (lo : Nat), .int (hi : Nat)]).ok (StockT lo hi) := ok_mono (stockN h1 h9) fun d ⟨names, ws, lots, e, a, b, c, w, l, _⟩ => ⟨names, ws, lots, e, a, b, c, w, l⟩
theorem stock {lo hi : Nat} (h1 : lo ≤ hi) (h9 : hi ≤ 8) : (m__law_stock [.deal, .int (lo : Nat), .int (hi : Nat)]).ok (Stock lo hi) := ok_mono (stockT h1 h9) fun d ⟨names, ws, lots, e, a, b, c, w, _⟩ => ⟨names, ws, _, e, a, b, c, w⟩
theorem rng_lst {n : Nat} (hn : n ≤ lineN) : (T.bind (T.bind (T.bind (.ret (D.int (n : Nat))) fun d => T.bind (asInt d) fun i => .ret ((0 : Int), i)) fun q => rangeL q.1 q.2) fun ds => .ret (D.lst ds)) = .ret (.lst (L (List.range' 0 (n - 0)))) := by
  refine bind_ret' (a := L (List.range' 0 (n - 0))) ?_ rfl
  exact bind_ret' (a := (((0 : Nat) : Int), ((n : Nat) : Int))) rfl (range_L (show 0 ≤ lineN by show 0 ≤ 1000; omega) hn)
/-- its weights are small -/
def Part.Small : Part → Prop
  | .room ws _ => ∀ x ∈ ws, x ≤ 3
  | _ => True
/-- its numbers are small -/
def Part.Few : Part → Prop
  | .apart l => l.length ≤ 20
  | .most n l => n < 200 ∧ l.length ≤ 20
  | .room ws b => (∀ x ∈ ws, x < 200) ∧ b < 200
/-- a part as drawn -/
def Drawn (many : Nat) (d : D) : Prop := ∃ p : Part, d = p.enc ∧ (p.Ok many ∧ p.len ≤ lineN) ∧ p.Small ∧ p.Few
theorem sum_le {n : Nat} : ∀ {l : List Nat}, (∀ x ∈ l, x ≤ n) → l.sum ≤ n * l.length
  | [], _ => by simp
  | a :: l, h => by
    have h1 := h a (List.mem_cons_self ..)
    have h2 := sum_le fun x hx => h x (List.mem_cons_of_mem _ hx)
    rw [List.sum_cons, List.length_cons, Nat.mul_succ]
    omega
theorem part {many : Nat} (h2 : 1 ≤ many) (h8 : many ≤ 8) : (m__law_part [.deal, .int (many : Nat)]).ok (Drawn many) := by
  have sz := sizeLine_val
  have hk : many ≤ lineN := by show many ≤ 1000; omega
  have h0 : (0 : Nat) ≤ lineN := by show 0 ≤ 1000; omega
  refine ok_bind ?_
  refine ok_bindE (a := [D.deal, .int (4 : Nat)]) rfl ?_
  refine any_ok (by omega) (by omega) fun i hi => ?_
  refine ok_cond ?_ ?_ ?_
  · refine ok_bindE (a := D.int (i : Nat)) rfl ?_
    refine ok_bindE (a := D.int 2) rfl ?_
    exact ok_bindE (a := D.bl (decide ((i : Int) < 2))) rfl (ok_ret trivial)
  · refine ok_bind ?_
    refine ok_consM ?_
    refine ok_ret ?_
    refine ok_consM ?_
    refine ok_bind ?_
    refine ok_consM ?_
    refine ok_ret ?_
    refine ok_consM ?_
    refine ok_eq (rng_lst hk) ?_
    refine ok_consM ?_
    refine ok_bind ?_
    refine ok_ret ?_
    refine ok_bind ?_
    refine ok_bindE (a := [D.deal, .int (3 : Nat)]) rfl ?_
    refine any_ok (by omega) (by omega) fun j hj => ?_
    refine ok_eq (a := D.int ((1 + j : Nat) : Int)) ?_ ?_
    · show T.ret (D.int (1 + (j : Nat))) = _
      have z : ((1 + j : Nat) : Int) = 1 + (j : Nat) := by omega
      rw [z]
    refine ok_ret ?_
    refine lot_then h0 hk (by omega) (by show 1 + j ≤ 1000; omega) fun r hp hx hr hl => ?_
    refine ok_ret ?_
    refine ok_eq (a := (Part.apart r).enc) rfl ?_
    exact ⟨.apart r, rfl, ⟨⟨hp, hr (by omega), fun x z => (hx x z).2⟩, by show r.length ≤ 1000; omega⟩, trivial, by show r.length ≤ 20; omega⟩
  refine ok_cond ?_ ?_ ?_
  · refine ok_bindE (a := D.int (i : Nat)) rfl ?_
    refine ok_bindE (a := D.int 2) rfl ?_
    exact ok_bindE (eqI _ _) (ok_ret trivial)
  · refine ok_bind ?_
    refine ok_bindE (a := [D.deal, .lst (L (List.range' 0 (many - 0))), .int (many : Nat)]) (consM_eq rfl (consM_eq (rng_lst hk) rfl)) ?_
    refine lot_then h0 hk (by omega) hk fun r hp hx hr hl => ?_
    refine ok_bind ?_
    refine ok_consM ?_
    refine ok_ret ?_
    refine ok_consM ?_
    refine ok_bindE (a := [D.deal, .int ((r.length + 1 : Nat) : Int)]) ?_ ?_
    · refine consM_eq rfl (consM_eq ?_ rfl)
      show T.ret (D.int (((L r).length : Nat) + 1)) = _
      rw [List.length_map]
      rfl
    refine any_ok (by omega) (by omega) fun j hj => ?_
    refine ok_consM ?_
    refine ok_ret ?_
    refine ok_ret ?_
    refine ok_eq (a := (Part.most j r).enc) rfl ?_
    exact ⟨.most j r, rfl, ⟨⟨hp, hr (by omega), fun x z => (hx x z).2⟩, by show r.length ≤ 1000; omega⟩, trivial, by show j < 200 ∧ r.length ≤ 20; omega⟩
  · have rg : T.bind (consM (.ret (.int (many : Nat))) (.ret [])) rng1M = .ret (L (List.range many)) := by
      have h := rng1 hk
      rw [bind_eq (consM_eq (d := D.int (many : Nat)) rfl rfl), h]
    have hz : (L (List.range many)).length ≤ sizeLine := by rw [len_range]; omega
    refine ok_bind ?_
    refine ok_bind ?_
    refine ok_consM ?_
    refine ok_bind ?_
    refine ok_bindE rg ?_
    refine ok_mono (compN_okE (fun y => ∃ n : Nat, y = .int (n : Nat) ∧ n ≤ 3) hz fun d hd => ?_) fun l hl => ?_
    · refine ok_bind ?_
      refine ok_bindE (a := [D.deal, .lst (L [0, 0, 1, 1, 2, 3])]) rfl ?_
      refine law_of (by simp) (by show 6 ≤ 1000; omega) fun x hx => ?_
      refine ok_ret ⟨_, rfl, x, rfl, ?_⟩
      simp at hx
      omega
    obtain ⟨ws, rfl⟩ := all_L fun y hy => ⟨_, (hl.1 y hy).choose_spec.1⟩
    have hwl : ws.length = many := by
      have := hl.2
      rw [len_range, List.length_map] at this
      exact this
    have hw3 : ∀ x ∈ ws, x ≤ 3 := fun x hx => by
      obtain ⟨n, e, h⟩ := hl.1 (.int (x : Nat)) (List.mem_map.mpr ⟨x, hx, rfl⟩)
      have e2 : (x : Int) = (n : Int) := by injection e
      omega
    have hs := sum_le hw3
    refine ok_ret (ok_ret ?_)
    refine ok_eq (a := D.tup (L ws)) rfl ?_
    refine ok_bind ?_
    refine ok_consM ?_
    refine ok_ret ?_
    refine ok_consM ?_
    refine ok_ret ?_
    refine ok_consM ?_
    refine ok_bindE (a := [D.deal, .int ((ws.sum + 2 : Nat) : Int)]) ?_ ?_
    · refine consM_eq rfl (consM_eq ?_ rfl)
      refine bind_ret' (a := D.int (ws.sum : Nat)) ?_ rfl
      exact bind_ret' (a := [D.tup (L ws)]) rfl (sum_LT ws)
    refine any_ok (by omega) (by omega) fun j hj => ?_
    refine ok_ret ?_
    refine ok_eq (a := (Part.room ws j).enc) rfl ?_
    exact ⟨.room ws j, rfl, ⟨hwl, by show ws.length ≤ 1000; omega⟩, hw3, fun x hx => by have := hw3 x hx; omega, by omega⟩
theorem cI_ok {mc : T Bool} {y : D} {A : D → Prop} (h : mc.ok fun _ => True) (ha : A y) : (cI mc (.ret y)).ok fun o => ∀ z, o = some z → A z :=
  ok_bind (ok_mono h fun t _ => by
    cases t
    · exact ok_ret fun z e => nomatch e
    · exact ok_ret fun z e => by
        cases e
        exact ha)
theorem all_parts {many : Nat} : ∀ {l : List D}, (∀ y ∈ l, Drawn many y) → ∃ ps : List Part, l = ps.map Part.enc ∧ ∀ p ∈ ps, (p.Ok many ∧ p.len ≤ lineN) ∧ p.Small ∧ p.Few
  | [], _ => ⟨[], rfl, fun _ h => nomatch h⟩
  | d :: l, h => by
    obtain ⟨p, rfl, hp⟩ := h d (List.mem_cons_self ..)
    obtain ⟨ps, rfl, hps⟩ := all_parts fun y hy => h y (List.mem_cons_of_mem _ hy)
    refine ⟨p :: ps, rfl, fun q hq => ?_⟩
    rcases List.mem_cons.mp hq with rfl | hq
    · exact hp
    · exact hps q hq
theorem parts_few {many most : Nat} (h2 : 1 ≤ many) (h8 : many ≤ 8) (hmost : most ≤ 20) : (m__law_parts_of_rule [.deal, .int (many : Nat), .int (most : Nat)]).ok fun d => ∃ ps : List Part, d = .tup (ps.map Part.enc) ∧ Rok many ps ∧ ps.length ≤ most ∧ ∀ p ∈ ps, p.Small ∧ p.Few := by
  have sz := sizeLine_val
  refine ok_bind ?_
  refine ok_bind ?_
  refine ok_bind ?_
  refine ok_consM ?_
  refine ok_bindE (a := [D.deal, .int ((most + 1 : Nat) : Int)]) rfl ?_
  refine any_ok (by omega) (by omega) fun k hk => ?_
  have e2 := rng1 (show k ≤ lineN by show k ≤ 1000; omega)
  have hz : (L (List.range k)).length ≤ sizeLine := by rw [len_range]; omega
  refine ok_ret ?_
  refine ok_eq e2 ?_
  refine ok_mono (compN_okE (Drawn many) hz fun d hd => ?_) fun l hl => ?_
  · refine ok_bind ?_
    refine ok_bindE (a := [D.deal, .int (many : Nat)]) rfl ?_
    exact ok_mono (part h2 h8) fun x hx => ok_ret ⟨x, rfl, hx⟩
  have hll : l.length ≤ most := by
    have := hl.2
    rw [len_range] at this
    omega
  refine ok_bind ?_
  refine ok_consM ?_
  refine ok_bind ?_
  refine ok_bindE (a := l) rfl ?_
  refine ok_mono (compN_ok (Drawn many) (by omega) fun d hd => ?_) fun l2 hl2 => ?_
  · refine cI_ok ?_ (hl.1 d hd)
    obtain ⟨p, rfl, _⟩ := hl.1 d hd
    cases p with
    | apart r =>
      refine ok_bindE (a := false) (by kernel_rfl) ?_
      refine ok_bind (ok_mono (Q := fun _ => True) ?_ fun t _ => ?_)
      · exact ok_bindE (a := D.int ((L r).length : Nat)) rfl (ok_bindE (a := D.int 1) rfl (ok_bindE (a := D.bl (decide ((1 : Int) < ((L r).length : Nat)))) rfl (ok_ret trivial)))
      · cases t
        · exact any_zero 4 (by omega)
        · exact ok_ret trivial
    | most n r => exact ok_bindE (a := true) (by kernel_rfl) (ok_ret trivial)
    | room ws b => exact ok_bindE (a := true) (by kernel_rfl) (ok_ret trivial)
  obtain ⟨ps, rfl, hps⟩ := all_parts hl2.1
  have hpl : ps.length ≤ most := by
    have := hl2.2
    rw [List.length_map] at this
    omega
  refine ok_ret (ok_ret ?_)
  refine ok_eq (a := D.tup (ps.map Part.enc)) rfl ?_
  exact ⟨ps, rfl, ⟨fun p hp => (hps p hp).1, by show ps.length ≤ 1000; omega⟩, hpl, fun p hp => (hps p hp).2⟩
theorem parts_of_rule {many most : Nat} (h2 : 1 ≤ many) (h8 : many ≤ 8) (hmost : most ≤ 20) : (m__law_parts_of_rule [.deal, .int (many : Nat), .int (most : Nat)]).ok fun d => ∃ ps : List Part, d = .tup (ps.map Part.enc) ∧ Rok many ps ∧ ps.length ≤ most ∧ ∀ p ∈ ps, p.Small :=
  ok_mono (parts_few h2 h8 hmost) fun d ⟨ps, e, a, b, c⟩ => ⟨ps, e, a, b, fun p hp => (c p hp).1⟩
theorem rgM {k : Nat} (hk : k ≤ lineN) : T.bind (consM (.ret (.int (k : Nat))) (.ret [])) rng1M = .ret (L (List.range k)) := by
  have h := rng1 hk
  rw [bind_eq (consM_eq (d := D.int (k : Nat)) rfl rfl), h]
theorem eq_self {n : Nat} {d : D} (h : Fine n d) (hn : n ≤ 64) : cmpM .Eq d d = .ret (.bl true) := by
  show eqM _ _ = _
  unfold eqM
  rw [okD_fine h hn]
  show T.ret (D.bl (PyData.eqv (toP d) (toP d))) = _
  rw [SeqAt.eqv_refl _ (fine_data h).2.1]
theorem fine_parts {ps : List Part} {many : Nat} (h : Rok many ps) : Fine 3 (.tup (ps.map Part.enc)) := by
  refine .tup (fun x hx => ?_) ?_
  · obtain ⟨p, hp, rfl⟩ := List.mem_map.mp hx
    exact fine_part (h.ok p hp).2
  · rw [List.length_map]
    exact small_line h.len

end K03

/-! marks, rules asked at marks -/
namespace K03
open PySem PySem.Spec PyProof.Rows L2 MS
def marksOf (many : Nat) (lot : List Nat) : List Nat := (List.range many).map fun i => if decide (i ∈ lot) = true then 1 else 0
def lotOf (marks : List Nat) : List Nat := (List.range marks.length).filter fun i => decide (marks.getD i 0 = 1)
theorem marks {many : Nat} {lot : List Nat} (hm : many ≤ lineN) (hl : lot.length ≤ lineN) : m__law_marks [.int (many : Nat), .tup (L lot)] = .ret (.tup (L (marksOf many lot))) := by
  refine bind_ret' (a := [D.lst (L (marksOf many lot))]) ?_ rfl
  refine consM_eq ?_ rfl
  refine bind_ret' (a := L (marksOf many lot)) ?_ rfl
  refine bind_ret' (rgM hm) ?_
  refine map_L _ (by rw [List.length_range]; exact hm) fun n hn => cE_ret ?_
  refine bind_ret' (a := decide (n ∈ lot)) ?_ ?_
  · refine bind_ret' (a := D.int (n : Nat)) rfl ?_
    refine bind_ret' (a := D.tup (L lot)) rfl ?_
    exact bind_ret' (in_L n (small_line hl)) rfl
  · cases decide (n ∈ lot) <;> rfl
theorem lotOf_lt {marks : List Nat} : ∀ x ∈ lotOf marks, x < marks.length := fun x h => List.mem_range.mp (List.mem_filter.mp h).1
theorem lotOf_asc (marks : List Nat) : (lotOf marks).Pairwise (· < ·) := List.Pairwise.filter _ List.pairwise_lt_range
theorem lotOf_len (marks : List Nat) : (lotOf marks).length ≤ marks.length := by
  have := List.length_filter_le (fun i => decide (marks.getD i 0 = 1)) (List.range marks.length)
  rwa [List.length_range] at this
theorem marksOf_len (many : Nat) (lot : List Nat) : (marksOf many lot).length = many := by
  unfold marksOf
  rw [List.length_map, List.length_range]
theorem in_lot {marks : List Nat} {x : Nat} : x ∈ lotOf marks ↔ x < marks.length ∧ marks.getD x 0 = 1 := by
  unfold lotOf
  rw [List.mem_filter, List.mem_range, decide_eq_true_eq]
theorem getD_le {marks : List Nat} (hb : ∀ x ∈ marks, x ≤ 1) (i : Nat) : marks.getD i 0 ≤ 1 := by
  rw [List.getD_eq_getElem?_getD]
  by_cases h : i < marks.length
  · rw [List.getElem?_eq_getElem h]
    exact hb _ (List.getElem_mem h)
  · rw [List.getElem?_eq_none (by omega)]
    exact Nat.zero_le _
theorem count_in {marks : List Nat} (hb : ∀ x ∈ marks, x ≤ 1) : ∀ {l : List Nat}, (∀ x ∈ l, x < marks.length) → (l.map fun x => marks.getD x 0).sum = (l.filter fun x => decide (x ∈ lotOf marks)).length
  | [], _ => rfl
  | a :: l, h => by
    have ih := count_in hb fun x hx => h x (List.mem_cons_of_mem _ hx)
    have h1 := getD_le hb a
    have h2 := h a (List.mem_cons_self ..)
    rw [List.map_cons, List.sum_cons, ih, List.filter_cons]
    by_cases q : marks.getD a 0 = 1
    · rw [if_pos (decide_eq_true (in_lot.mpr ⟨h2, q⟩)), List.length_cons, q]
      omega
    · rw [if_neg (by rw [decide_eq_true_eq]; exact fun z => q (in_lot.mp z).2)]
      omega
theorem all_in {l s : List Nat} : (l.filter fun x => decide (x ∈ s)).length < l.length ↔ ¬ ∀ x ∈ l, x ∈ s := by
  have h1 := List.length_filter_le (fun x => decide (x ∈ s)) l
  have h2 : (l.filter fun x => decide (x ∈ s)).length = l.length ↔ ∀ x ∈ l, x ∈ s := by
    rw [List.length_filter_eq_length_iff]
    simp
  rw [← h2]
  omega
theorem lotOf_cons (m : Nat) (marks : List Nat) : lotOf (m :: marks) = (if m = 1 then [0] else []) ++ (lotOf marks).map (· + 1) := by
  unfold lotOf
  rw [List.length_cons, List.range_succ_eq_map, List.filter_cons, List.filter_map]
  have e : ((fun i => decide ((m :: marks).getD i 0 = 1)) ∘ Nat.succ) = fun i => decide (marks.getD i 0 = 1) := rfl
  rw [e]
  by_cases q : m = 1
  · rw [if_pos (show decide ((m :: marks).getD 0 0 = 1) = true from decide_eq_true q), if_pos q]
    rfl
  · rw [if_neg (show ¬ decide ((m :: marks).getD 0 0 = 1) = true by rw [decide_eq_true_eq]; exact q), if_neg q]
    rfl
theorem load_in : ∀ {ws marks : List Nat}, (∀ x ∈ marks, x ≤ 1) → ws.length = marks.length → ((ws.zip marks).map fun p => p.1 * p.2).sum = ((lotOf marks).map fun x => ws.getD x 0).sum
  | [], [], _, _ => rfl
  | [], _ :: _, _, h => by simp at h
  | _ :: _, [], _, h => by simp at h
  | w :: ws, m :: marks, hb, h => by
    have ih := load_in (ws := ws) (marks := marks) (fun x hx => hb x (List.mem_cons_of_mem _ hx)) (by simpa using h)
    have h1 := hb m (List.mem_cons_self ..)
    rw [List.zip_cons_cons, List.map_cons, List.sum_cons, ih, lotOf_cons, List.map_append, List.sum_append, List.map_map]
    have e : ((fun x => (w :: ws).getD x 0) ∘ fun x => x + 1) = fun x => ws.getD x 0 := rfl
    rw [e]
    congr 1
    by_cases q : m = 1
    · rw [if_pos q, q]
      simp
    · have z : m = 0 := by omega
      rw [z]
      simp
theorem countM {l marks : List Nat} (hl : l.length ≤ lineN) (h : ∀ x ∈ l, x < marks.length) : T.bind (consM (T.bind (T.bind (T.bind (.ret (D.tup (L l))) seqM) (compN (fun v => cE (T.bind (.ret (D.tup (L marks))) fun x => T.bind (.ret v) fun y => ixM x y)))) fun ds => .ret (D.lst ds)) (.ret [])) sumM = .ret (.int ((l.map fun x => marks.getD x 0).sum : Nat)) := by
  refine bind_ret' (a := [D.lst (L (l.map fun x => marks.getD x 0))]) ?_ (sum_L _)
  refine consM_eq ?_ rfl
  refine bind_ret' (a := L (l.map fun x => marks.getD x 0)) ?_ rfl
  refine bind_ret' (a := L l) rfl ?_
  refine map_L _ hl fun n hn => cE_ret ?_
  refine bind_ret' (a := D.tup (L marks)) rfl ?_
  exact bind_ret' (a := D.int (n : Nat)) rfl (ix_L (h n hn))
def prodD : D → D
  | .tup [.int a, .int b] => .int (a * b)
  | _ => .non
theorem zip_L : ∀ (ws marks : List Nat), (zipD (L ws) (L marks)).map prodD = L ((ws.zip marks).map fun p => p.1 * p.2)
  | [], _ => rfl
  | _ :: _, [] => rfl
  | w :: ws, m :: marks => by
    show D.int ((w : Int) * (m : Int)) :: (zipD (L ws) (L marks)).map prodD = D.int ((w * m : Nat) : Int) :: L ((ws.zip marks).map fun p => p.1 * p.2)
    rw [zip_L ws marks]
    congr 1
theorem zip_mem : ∀ {ws marks : List Nat} {d : D}, d ∈ zipD (L ws) (L marks) → ∃ w m : Nat, d = .tup [.int (w : Nat), .int (m : Nat)] ∧ w ∈ ws ∧ m ∈ marks
  | [], _, _, h => nomatch h
  | _ :: _, [], _, h => nomatch h
  | w :: ws, m :: marks, d, h => by
    rcases List.mem_cons.mp (show d ∈ D.tup [.int (w : Nat), .int (m : Nat)] :: zipD (L ws) (L marks) from h) with rfl | h
    · exact ⟨w, m, rfl, List.mem_cons_self .., List.mem_cons_self ..⟩
    · obtain ⟨a, b, e, h1, h2⟩ := zip_mem h
      exact ⟨a, b, e, List.mem_cons_of_mem _ h1, List.mem_cons_of_mem _ h2⟩
theorem part_fine {p : Part} {many : Nat} {marks : List Nat} (hp : p.Ok many) (hl : p.len ≤ lineN) (hs : p.Small) (hm : marks.length = many) (hb : ∀ x ∈ marks, x ≤ 1) : m__law_part_fine [p.enc, .tup (L marks)] = .ret (.bl (p.lets (lotOf marks))) := by
  cases p with
  | apart l =>
    have hx : ∀ x ∈ l, x < marks.length := by rw [hm]; exact hp.2.2
    refine bind_ret' (a := false) (by kernel_rfl) ?_
    refine bind_ret' (a := D.tup (L l)) rfl ?_
    refine bind_ret' (countM hl hx) ?_
    refine bind_ret' (a := true) (by kernel_rfl) ?_
    show T.ret (D.bl (decide (((l.map fun x => marks.getD x 0).sum : Int) < ((L l).length : Nat)))) = _
    rw [List.length_map, count_in hb hx]
    congr 2
    show _ = !decide (∀ x ∈ l, x ∈ lotOf marks)
    by_cases q : ∀ x ∈ l, x ∈ lotOf marks
    · rw [decide_eq_true q, decide_eq_false]
      · rfl
      · have := mt (all_in (l := l) (s := lotOf marks)).mp (fun z => z q)
        omega
    · rw [decide_eq_false q, decide_eq_true]
      · rfl
      · have := (all_in (l := l) (s := lotOf marks)).mpr q
        omega
  | most n l =>
    have hx : ∀ x ∈ l, x < marks.length := by rw [hm]; exact hp.2.2
    refine bind_ret' (a := false) (by kernel_rfl) ?_
    refine bind_ret' (a := D.tup (L l)) rfl ?_
    refine bind_ret' (countM hl hx) ?_
    refine bind_ret' (a := false) (by kernel_rfl) ?_
    show T.ret (D.bl (decide (((l.map fun x => marks.getD x 0).sum : Int) ≤ (n : Nat)))) = _
    rw [dec_le, count_in hb hx]
    rfl
  | room ws b =>
    have hw : ws.length = many := hp
    have hl' : ws.length ≤ 1000 := hl
    refine bind_ret' (a := true) (by kernel_rfl) ?_
    refine bind_ret' (a := D.int (((ws.zip marks).map fun p => p.1 * p.2).sum : Nat)) ?_ ?_
    · refine bind_ret' (a := [D.lst (L ((ws.zip marks).map fun p => p.1 * p.2))]) ?_ (sum_L _)
      refine consM_eq ?_ rfl
      refine bind_ret' (a := L ((ws.zip marks).map fun p => p.1 * p.2)) ?_ rfl
      refine bind_ret' (a := zipD (L ws) (L marks)) rfl ?_
      rw [← zip_L]
      refine compN_map prodD ?_ fun d hd => cE_ret ?_
      · unfold zipD
        rw [List.length_zipWith, List.length_map, List.length_map]
        have := sizeLine_val
        omega
      · obtain ⟨w, m, rfl, h1, h2⟩ := zip_mem hd
        have hw3 : w ≤ 3 := hs w h1
        have hm1 := hb m h2
        have a1 : ((w : Nat) : Int).natAbs.log2 ≤ w := by rw [Int.natAbs_natCast]; exact Nat.log2_le_self w
        have a2 : ((m : Nat) : Int).natAbs.log2 ≤ m := by rw [Int.natAbs_natCast]; exact Nat.log2_le_self m
        show (if ((w : Nat) : Int).natAbs.log2 + ((m : Nat) : Int).natAbs.log2 < 1000000 then T.ret (D.int ((w : Int) * (m : Int))) else .stuck) = _
        rw [if_pos (by omega)]
        rfl
    · show T.ret (D.bl (decide (((((ws.zip marks).map fun p : Nat × Nat => p.1 * p.2).sum : Nat) : Int) ≤ ((b : Nat) : Int)))) = _
      rw [dec_le, load_in hb (by omega)]
      rfl
theorem fine_loop {many : Nat} {marks : List Nat} {B : D → Unit → (Unit → T D) → (Unit → T D) → T D} {k : Unit → T D} (hm : marks.length = many) (hb : ∀ x ∈ marks, x ≤ 1) (hB : ∀ d s nx bk, B d s nx bk = (T.bind (T.bind (T.bind (T.bind (consM (.ret d) (consM (.ret (.tup (L marks))) (.ret []))) m__law_part_fine) asBool) fun b => .ret (!b)) fun t => bif t then (.ret (.bl false)) else (nx ()))) (hk : k () = .ret (.bl true)) : ∀ {ps : List Part}, (∀ p ∈ ps, (p.Ok many ∧ p.len ≤ lineN) ∧ p.Small) → forM B k (ps.map Part.enc) () = .ret (.bl (ps.all fun p => p.lets (lotOf marks)))
  | [], _ => hk
  | p :: ps, h => by
    obtain ⟨⟨h1, h2⟩, h3⟩ := h p (List.mem_cons_self ..)
    show B p.enc () (fun s => forM B k (ps.map Part.enc) s) k = _
    rw [hB]
    have e : T.bind (T.bind (T.bind (consM (.ret p.enc) (consM (.ret (.tup (L marks))) (.ret []))) m__law_part_fine) asBool) (fun b => T.ret (!b)) = .ret (!(p.lets (lotOf marks))) := by
      refine bind_ret' (a := p.lets (lotOf marks)) ?_ rfl
      exact bind_ret' (bind_ret' (a := [p.enc, .tup (L marks)]) rfl (part_fine h1 h2 h3 hm hb)) rfl
    rw [bind_eq e, List.all_cons]
    cases p.lets (lotOf marks)
    · rfl
    · exact fine_loop hm hb hB hk fun q hq => h q (List.mem_cons_of_mem _ hq)
theorem fine {many : Nat} {marks : List Nat} {ps : List Part} (hm : marks.length = many) (hb : ∀ x ∈ marks, x ≤ 1) (h : ∀ p ∈ ps, (p.Ok many ∧ p.len ≤ lineN) ∧ p.Small) : m__law_fine [.tup (ps.map Part.enc), .tup (L marks)] = .ret (.bl (ps.all fun p => p.lets (lotOf marks))) := by
  refine bind_ret' (a := ps.map Part.enc) rfl ?_
  exact fine_loop hm hb (fun _ _ _ _ => rfl) rfl h
theorem rule_eq {ps : List Part} {many : Nat} (h : Rok many ps) : insEqM "Rule" m_Rule___eq__ (rule ps) (rule ps) = .ret (.bl true) := by
  have e : m_Rule___eq__ [rule ps, rule ps] = .ret (.bl true) := by
    refine (and_true (by kernel_rfl)).trans ?_
    refine bind_ret' (a := D.tup (ps.map Part.enc)) rfl ?_
    exact bind_ret' (a := D.tup (ps.map Part.enc)) rfl (eq_self (fine_parts h) (by omega))
  show (if ("Rule" : Str) = "Rule" ∧ ("Rule" : Str) = "Rule" then (m_Rule___eq__ [rule ps, rule ps]).bind asBl else .stuck) = _
  rw [if_pos ⟨rfl, rfl⟩, e]
  rfl
theorem filter_in_le {a b : List Nat} (h : ∀ x ∈ a, x ∈ b) : ∀ l : List Nat, (l.filter fun x => decide (x ∈ a)).length ≤ (l.filter fun x => decide (x ∈ b)).length
  | [] => Nat.le_refl _
  | c :: l => by
    have ih := filter_in_le h l
    rw [List.filter_cons, List.filter_cons]
    by_cases q : c ∈ a
    · rw [if_pos (decide_eq_true q), if_pos (decide_eq_true (h c q)), List.length_cons, List.length_cons]
      omega
    · rw [if_neg (by rw [decide_eq_true_eq]; exact q)]
      by_cases q2 : c ∈ b
      · rw [if_pos (decide_eq_true q2), List.length_cons]
        omega
      · rw [if_neg (by rw [decide_eq_true_eq]; exact q2)]
        exact ih
theorem sum_sub {a b : List Nat} (f : Nat → Nat) (h : a.Sublist b) : (a.map f).sum ≤ (b.map f).sum := by
  induction h with
  | slnil => exact Nat.le_refl _
  | cons x _ ih =>
    rw [List.map_cons, List.sum_cons]
    omega
  | cons_cons x _ ih =>
    rw [List.map_cons, List.map_cons, List.sum_cons, List.sum_cons]
    omega
/-- fewer things standing: let as before -/
theorem lets_less {p : Part} {a b : List Nat} (hs : a.Sublist b) (h : p.lets b = true) : p.lets a = true := by
  have hm : ∀ x ∈ a, x ∈ b := fun x hx => hs.subset hx
  cases p with
  | apart l =>
    have h' : ¬ ∀ x ∈ l, x ∈ b := by simpa [Part.lets] using h
    show (!decide (∀ x ∈ l, x ∈ a)) = true
    rw [decide_eq_false fun z => h' fun x hx => hm x (z x hx)]
    rfl
  | most n l =>
    have h' : (l.filter fun x => decide (x ∈ b)).length ≤ n := of_decide_eq_true h
    exact decide_eq_true (Nat.le_trans (filter_in_le hm l) h')
  | room ws n =>
    have h' : (b.map fun x => ws.getD x 0).sum ≤ n := of_decide_eq_true h
    have h2 : (a.map fun x => ws.getD x 0).sum ≤ (b.map fun x => ws.getD x 0).sum := sum_sub _ hs
    exact decide_eq_true (Nat.le_trans h2 h')
theorem lets_empty {p : Part} {many : Nat} (h : p.Ok many) : p.lets [] = true := by
  cases p with
  | apart l =>
    show (!decide (∀ x ∈ l, x ∈ ([] : List Nat))) = true
    rw [decide_eq_false]
    · rfl
    · intro z
      obtain ⟨x, hx⟩ := List.exists_mem_of_ne_nil l h.2.1
      exact absurd (z x hx) (by simp)
  | most n l =>
    refine decide_eq_true ?_
    have : (l.filter fun x => decide (x ∈ ([] : List Nat))) = [] := by simp
    rw [this]
    exact Nat.zero_le _
  | room ws n => exact decide_eq_true (show (([] : List Nat).map fun x => ws.getD x 0).sum ≤ n from Nat.zero_le n)

end K03

/-! told and due are the same, whatever they are. -/
namespace K03
open PySem PySem.Spec PyProof.Rows L2 MS
/-- plain values: no list, no object -/
inductive Plain : D → Prop
  | non : Plain .non
  | bl (b : Bool) : Plain (.bl b)
  | int (i : Int) : Plain (.int i)
  | str (x : Str) (h : PyData.strOk x = true) : Plain (.str x)
  | tup {l : List D} (h : ∀ x ∈ l, Plain x) (z : l.length ≤ 1000) : Plain (.tup l)
mutual
def sz : D → Nat
  | .tup l => szs l + 1
  | _ => 1
def szs : List D → Nat
  | [] => 0
  | d :: ds => sz d + szs ds
end
theorem szs_append : ∀ a b : List D, szs (a ++ b) = szs a + szs b
  | [], b => by simp [szs]
  | d :: a, b => by
    show sz d + szs (a ++ b) = sz d + szs a + szs b
    rw [szs_append a b]
    omega
theorem sz_pos : ∀ d : D, 1 ≤ sz d
  | .tup l => by show 1 ≤ szs l + 1; omega
  | .non => Nat.le_refl _
  | .bl _ => Nat.le_refl _
  | .int _ => Nat.le_refl _
  | .str _ => Nat.le_refl _
  | .lst _ => Nat.le_refl _
  | .dic _ => Nat.le_refl _
  | .ins _ _ => Nat.le_refl _
  | .fn _ => Nat.le_refl _
  | .ty _ => Nat.le_refl _
  | .deal => Nat.le_refl _
  | .scr _ => Nat.le_refl _
theorem len_szs : ∀ l : List D, l.length ≤ szs l
  | [] => Nat.le_refl _
  | d :: l => by
    have := len_szs l
    have := sz_pos d
    show l.length + 1 ≤ sz d + szs l
    omega
def pr (d : D) : D := .tup [d, d]
def isT : D → Bool
  | .tup _ => true
  | _ => false
theorem isin_tuple {d : D} (h : Plain d) : T.bind (T.bind (consM (.ret d) (consM (.ret (.ty "tuple")) (.ret []))) (isinM CLSS)) asBool = .ret (isT d) := by
  cases h with
  | non => kernel_rfl
  | bl b => kernel_rfl
  | int i => kernel_rfl
  | str x h => kernel_rfl
  | tup h z => kernel_rfl
theorem isin_three {d : D} (h : Plain d) (ht : isT d = false) : T.bind (T.bind (consM (.ret d) (consM (T.bind (consM (.ret (.ty "tuple")) (consM (.ret (.ty "list")) (consM (.ret (.ty "dict")) (.ret [])))) tupM) (.ret []))) (isinM CLSS)) asBool = .ret false := by
  cases h with
  | non => kernel_rfl
  | bl b => kernel_rfl
  | int i => kernel_rfl
  | str x h => kernel_rfl
  | tup h z => cases ht
theorem fine_flat {d : D} (h : Plain d) (ht : isT d = false) : Fine 0 d := by
  cases h with
  | non => exact .non
  | bl b => exact .bl b
  | int i => exact .int i
  | str x h => exact .str x h
  | tup h z => cases ht
theorem kind_self {d : D} (h : Plain d) (ht : isT d = false) : m__law_is_kind [d, d] = .ret (.bl true) := by
  have e := eq_self (fine_flat h ht) (by omega)
  cases h with
  | non => kernel_rfl
  | bl b => cases b <;> kernel_rfl
  | int i =>
    refine (bind_eq (a := false) (by kernel_rfl)).trans ?_
    rw [Bool.cond_false]
    refine (bind_eq (a := false) (by kernel_rfl)).trans ?_
    rw [Bool.cond_false]
    refine (bind_eq (a := false) (by kernel_rfl)).trans ?_
    rw [Bool.cond_false]
    refine (bind_eq (a := D.bl true) (by kernel_rfl)).trans ?_
    refine (bind_eq (a := true) rfl).trans ?_
    rw [Bool.cond_true]
    refine (bind_eq (a := D.bl true) (by kernel_rfl)).trans ?_
    refine (bind_eq (a := true) rfl).trans ?_
    rw [Bool.cond_true]
    exact bind_ret' rfl (bind_ret' rfl e)
  | str x h =>
    refine (bind_eq (a := false) (by kernel_rfl)).trans ?_
    rw [Bool.cond_false]
    refine (bind_eq (a := false) (by kernel_rfl)).trans ?_
    rw [Bool.cond_false]
    refine (bind_eq (a := true) (by kernel_rfl)).trans ?_
    rw [Bool.cond_true]
    refine (bind_eq (a := D.bl true) (by kernel_rfl)).trans ?_
    refine (bind_eq (a := true) rfl).trans ?_
    rw [Bool.cond_true]
    exact bind_ret' rfl (bind_ret' rfl e)
  | tup h z => cases ht
theorem forM_range {B : D → List D → (List D → T D) → (List D → T D) → T D} {k : List D → T D} (g : Nat → D) (b : Nat) : ∀ (m i : Nat) (s : List D), s.length + m ≤ b → (∀ j s nx bk, i ≤ j → j < i + m → s.length < b → B (.int (j : Nat)) s nx bk = nx (s ++ [g j])) → forM B k (L (List.range' i m)) s = k (s ++ (List.range' i m).map g)
  | 0, i, s, _, _ => by
    show k s = k (s ++ [])
    rw [List.append_nil]
  | m + 1, i, s, hb, h => by
    show B (.int (i : Nat)) s (fun s' => forM B k (L (List.range' (i + 1) m)) s') k = _
    rw [h i s _ _ (Nat.le_refl _) (by omega) (by omega)]
    rw [forM_range g b m (i + 1) (s ++ [g i]) (by rw [List.length_append, List.length_singleton]; omega) fun j s nx bk h1 h2 h3 => h j s nx bk (by omega) (by omega) h3]
    rw [List.append_assoc]
    rfl
theorem map_getD (l : List D) (f : D → D) : (List.range l.length).map (fun j => f (l.getD j .non)) = l.map f := by
  refine List.ext_getElem (by simp) fun i h1 h2 => ?_
  rw [List.getElem_map, List.getElem_map, List.getElem_range]
  congr 1
  rw [List.getD_eq_getElem?_getD, List.getElem?_eq_getElem (by simpa using h2)]
  rfl
theorem ix_tup {l : List D} {i : Nat} (h : i < l.length) : ixM (.tup l) (.int (i : Nat)) = .ret (l.getD i .non) := by
  show (match L2.atI l (i : Nat) with
    | some d => T.ret d
    | none => .stuck) = _
  have e : L2.atI l (i : Nat) = some (l.getD i .non) := by
    unfold L2.atI ixN
    rw [if_pos (by omega), if_pos (by omega)]
    show l[((i : Nat) : Int).toNat]? = _
    rw [Int.toNat_natCast, List.getElem?_eq_getElem h, List.getD_eq_getElem?_getD, List.getElem?_eq_getElem h]
    rfl
  rw [e]
theorem same_walk : ∀ (fuel : Nat) (ds : List D), (∀ d ∈ ds, Plain d) → szs ds < fuel → szs ds ≤ 1000000 → whileM (St := (List D)) (fun s32 nx33 => T.bind (T.bind (T.bind (consM (.ret (.lst s32)) (.ret [])) lenM) fun x => T.bind (.ret (.int 0)) fun y => T.bind (cmpM .Gt x y) asBool) fun t => bif t then (fun bk34 => (popB2 (pop0M s32) fun v_one35 v_other36 v_todo37 => (ifJ (St := (List D)) (T.bind (T.bind (consM (.ret v_other36) (consM (.ret (.ty "tuple")) (.ret []))) (isinM CLSS)) asBool) (fun k39 => (T.bind (T.bind (T.bind (T.bind (T.bind (consM (.ret v_one35) (consM (.ret (.ty "tuple")) (.ret []))) (isinM CLSS)) asBool) fun b => .ret (!b)) fun t => cond t (.ret true) (T.bind (T.bind (consM (.ret v_one35) (.ret [])) lenM) fun x => T.bind (T.bind (consM (.ret v_other36) (.ret [])) lenM) fun y => T.bind (cmpM .NotEq x y) asBool)) fun t => bif t then (.ret (.bl false)) else (T.bind (T.bind (consM (T.bind (consM (.ret v_other36) (.ret [])) lenM) (.ret [])) rng1M) fun items => forM (St := (List D)) (fun v_at43 s40 nx41 bk42 => (T.bind (T.bind (consM (T.bind (.ret v_one35) fun x => T.bind (.ret v_at43) fun y => ixM x y) (consM (T.bind (.ret v_other36) fun x => T.bind (.ret v_at43) fun y => ixM x y) (.ret []))) tupM) fun v_e44 => if List.length s40 < sizeLine then (nx41 (s40 ++ [v_e44])) else .stuck)) (fun s40 => (k39 s40)) items v_todo37))) (fun k39 => (T.bind (T.bind (T.bind (T.bind (consM (.ret v_one35) (consM (T.bind (consM (.ret (.ty "tuple")) (consM (.ret (.ty "list")) (consM (.ret (.ty "dict")) (.ret [])))) tupM) (.ret []))) (isinM CLSS)) asBool) fun t => cond t (.ret true) (T.bind (T.bind (T.bind (consM (.ret v_one35) (consM (.ret v_other36) (.ret []))) m__law_is_kind) asBool) fun b => .ret (!b))) fun t => bif t then (.ret (.bl false)) else (k39 v_todo37))) fun s38 => (nx33 s38)))) (fun (s32 : (List D)) => ((.ret (.bl true)) : T D)) else (fun (s32 : (List D)) => ((.ret (.bl true)) : T D)) s32) fuel (ds.map pr) = .ret (.bl true)
  | 0, ds, _, h, _ => absurd h (Nat.not_lt_zero _)
  | fuel + 1, ds, hp, hf, hb => by
    have sz1 := sizeLine_val
    rcases List.eq_nil_or_concat ds with rfl | ⟨es, d, rfl⟩
    · refine (bind_eq (a := false) (by kernel_rfl)).trans ?_
      rw [Bool.cond_false]
    · rw [List.concat_eq_append] at hp hf hb ⊢
      have hd := hp d (by simp)
      have hes : ∀ x ∈ es, Plain x := fun x hx => hp x (List.mem_append_left _ hx)
      have hsz := szs_append es [d]
      have hsd : szs [d] = sz d := by show sz d + 0 = sz d; omega
      refine (bind_eq (a := true) ?_).trans ?_
      · show T.ret (decide ((0 : Int) < (((es ++ [d]).map pr).length : Nat))) = _
        rw [decide_eq_true (by simp)]
      rw [Bool.cond_true]
      refine (bind_eq (a := (pr d, es.map pr)) ?_).trans ?_
      · unfold pop0M
        rw [List.map_append]
        simp
      refine (bind_eq (m := T.bind (T.bind (consM (.ret d) (consM (.ret (.ty "tuple")) (.ret []))) (isinM CLSS)) asBool) (isin_tuple hd)).trans ?_
      cases ht : isT d with
      | true =>
        cases hd with
        | non => cases ht
        | bl b => cases ht
        | int i => cases ht
        | str x h => cases ht
        | tup h z =>
          rename_i l
          rw [Bool.cond_true]
          refine (bind_eq (a := false) ?_).trans ?_
          · refine (bind_eq (a := false) (bind_ret' (isin_tuple (.tup h z)) rfl)).trans ?_
            rw [Bool.cond_false]
            refine bind_ret' (a := D.int (l.length : Nat)) rfl ?_
            refine bind_ret' (a := D.int (l.length : Nat)) rfl ?_
            refine bind_ret' (neI _ _) ?_
            simp [asBool]
          rw [Bool.cond_false]
          have hr := rgM (k := l.length) z
          refine (bind_eq (a := L (List.range l.length)) (bind_ret' (a := [D.int (l.length : Nat)]) rfl ?_)).trans ?_
          · exact rng1 z
          rw [List.range_eq_range']
          have hle := len_szs es
          have hll := len_szs l
          have hsl : sz (.tup l) = szs l + 1 := rfl
          refine (forM_range (fun j => pr (l.getD j .non)) 2000000 _ _ _ (by rw [List.length_map]; omega) (fun j s nx bk h1 h2 h3 => ?_)).trans ?_
          · have hj : j < l.length := by omega
            refine (bind_eq (a := pr (l.getD j .non)) ?_).trans ?_
            · exact bind_ret' (consM_eq (bind_ret' rfl (bind_ret' rfl (ix_tup hj))) (consM_eq (bind_ret' rfl (bind_ret' rfl (ix_tup hj))) rfl)) (tup2 _ _)
            · rw [if_pos (by omega)]
          · rw [← List.range_eq_range', map_getD, ← List.map_append]
            refine same_walk fuel (es ++ l) (fun x hx => ?_) ?_ ?_
            · rcases List.mem_append.mp hx with hx | hx
              · exact hes x hx
              · exact h x hx
            · rw [szs_append]; omega
            · rw [szs_append]; omega
      | false =>
        rw [Bool.cond_false]
        have hs1 := sz_pos d
        refine (bind_eq (a := false) ?_).trans ?_
        · refine (bind_eq (isin_three hd ht)).trans ?_
          rw [Bool.cond_false]
          refine bind_ret' (a := true) ?_ rfl
          refine bind_ret' (a := D.bl true) ?_ rfl
          exact bind_ret' (a := [d, d]) rfl (kind_self hd ht)
        rw [Bool.cond_false]
        exact same_walk fuel es hes (by omega) (by omega)
theorem same_self {d : D} (h : Plain d) (hb : sz d ≤ 1000000) : m__law_same [d, d] = .ret (.bl true) := by
  have e : szs [d] = sz d := by show sz d + 0 = sz d; omega
  refine (bind_eq (a := [pr d]) ?_).trans ?_
  · exact bind_ret' (consM_eq (bind_ret' (consM_eq rfl (consM_eq rfl rfl)) (tup2 _ _)) rfl) (lst1 _)
  · exact same_walk FUEL [d] (fun x hx => by rw [List.mem_singleton.mp hx]; exact h) (by rw [e]; show sz d < 1000000000000; omega) (by rw [e]; exact hb)
/-- a told value and the due one, alike -/
def Pair (d : D) : Prop := ∃ v, Plain v ∧ sz v ≤ 1000000 ∧ d = .tup [v, v]
theorem all_pairs {l : List D} (hl : l.length ≤ sizeLine) (h : ∀ d ∈ l, Pair d) : m__law_all [.lst l] = .ret (.bl true) := by
  have e : T.bind (T.bind (T.bind (.ret (D.lst l)) seqM) (compN (fun d => cI (un2M d fun v_told68 v_due69 => (T.bind (T.bind (T.bind (consM (.ret v_told68) (consM (.ret v_due69) (.ret []))) m__law_same) asBool) fun b => .ret (!b))) (un2M d fun v_told68 v_due69 => (.ret v_told68))))) (fun ds => .ret (D.lst ds)) = .ret (.lst []) := by
    refine bind_ret' (a := ([] : List D)) ?_ rfl
    refine bind_ret' (a := l) rfl ?_
    refine (compN_ret (fun _ => none) hl fun d hd => ?_).trans ?_
    · obtain ⟨v, h1, h2, rfl⟩ := h d hd
      have s : T.bind (T.bind (T.bind (consM (.ret v) (consM (.ret v) (.ret []))) m__law_same) asBool) (fun b => T.ret (!b)) = .ret false := bind_ret' (bind_ret' (bind_ret' (a := [v, v]) rfl (same_self h1 h2)) rfl) rfl
      exact (cI_ret (b := false) (y := .non) s fun z => nomatch z).trans rfl
    · congr 1
      clear hl h
      induction l with
      | nil => rfl
      | cons a l ih => exact ih
  refine bind_ret' (a := D.int 0) ?_ ?_
  · exact bind_ret' (consM_eq e rfl) rfl
  · exact bind_ret' (a := D.int 0) rfl (eqI 0 0)

end K03

/-! all lots, by size. -/
namespace K03
open PySem PySem.Spec PyProof.Rows L2 MS
open PySem.W (dataLe TotalLe)
/-- marks of so many things -/
def Mk (many : Nat) (m : List Nat) : Prop := m.length = many ∧ ∀ x ∈ m, x ≤ 1
def encM (m : List Nat) : D := .tup (L m)
theorem mk_marksOf (many : Nat) (lot : List Nat) : Mk many (marksOf many lot) := by
  refine ⟨marksOf_len many lot, fun x hx => ?_⟩
  obtain ⟨i, _, rfl⟩ := List.mem_map.mp hx
  split <;> omega
def growD (c : Nat) : D → D
  | .tup l => .tup (l ++ [.int (c : Nat)])
  | d => d
theorem grow_enc (c : Nat) (m : List Nat) : growD c (encM m) = encM (m ++ [c]) := by
  show D.tup (L m ++ [.int (c : Nat)]) = D.tup (L (m ++ [c]))
  have z : L (m ++ [c]) = L m ++ L [c] := List.map_append ..
  rw [z]
  rfl
theorem grow {B : D → T (Option D)} {c : Nat} {ms : List (List Nat)} (hz : ms.length ≤ sizeLine) (h : ∀ m ∈ ms, B (encM m) = .ret (some (encM (m ++ [c])))) : compN B (ms.map encM) = .ret ((ms.map fun m => m ++ [c]).map encM) := by
  rw [compN_map (growD c) (by rw [List.length_map]; exact hz) fun d hd => ?_]
  · rw [List.map_map, List.map_map]
    congr 1
    exact List.map_congr_left fun m _ => grow_enc c m
  · obtain ⟨m, hm, rfl⟩ := List.mem_map.mp hd
    rw [grow_enc]
    exact h m hm
theorem add_one {x : List Nat} (c : Nat) (hx : x.length ≤ 1000) : addD (encM x) (.tup [.int (c : Nat)]) = .ret (encM (x ++ [c])) := by
  have e : addD (encM x) (.tup [.int (c : Nat)]) = if (L x).length + 1 ≤ sizeLine then .ret (.tup (L x ++ [.int (c : Nat)])) else .stuck := rfl
  have := sizeLine_val
  rw [e, if_pos (by rw [List.length_map]; omega)]
  have z : L (x ++ [c]) = L x ++ L [c] := List.map_append ..
  show _ = T.ret (D.tup (L (x ++ [c])))
  rw [z]
  rfl
theorem two_pow {j : Nat} (h : j ≤ 5) : 2 ^ j ≤ 32 := by
  have : j = 0 ∨ j = 1 ∨ j = 2 ∨ j = 3 ∨ j = 4 ∨ j = 5 := by omega
  rcases this with rfl | rfl | rfl | rfl | rfl | rfl <;> decide
/-- what stands after so many turns -/
def Grown (j : Nat) (s : D) : Prop := ∃ ms : List (List Nat), s = .lst (ms.map encM) ∧ ms.length = 2 ^ j ∧ ∀ m ∈ ms, Mk j m
theorem grown_step {j : Nat} {ms : List (List Nat)} (hl : ms.length = 2 ^ j) (h : ∀ m ∈ ms, Mk j m) : Grown (j + 1) (.lst (((ms.map fun m => m ++ [0]) ++ (ms.map fun m => m ++ [1])).map encM)) := by
  refine ⟨_, rfl, ?_, fun m hm => ?_⟩
  · rw [List.length_append, List.length_map, List.length_map, hl, Nat.pow_succ]
    omega
  · rcases List.mem_append.mp hm with hm | hm
    · obtain ⟨m, h1, rfl⟩ := List.mem_map.mp hm
      refine ⟨by rw [List.length_append, (h m h1).1]; rfl, fun x hx => ?_⟩
      rcases List.mem_append.mp hx with hx | hx
      · exact (h m h1).2 x hx
      · rw [List.mem_singleton.mp hx]
        omega
    · obtain ⟨m, h1, rfl⟩ := List.mem_map.mp hm
      refine ⟨by rw [List.length_append, (h m h1).1]; rfl, fun x hx => ?_⟩
      rcases List.mem_append.mp hx with hx | hx
      · exact (h m h1).2 x hx
      · rw [List.mem_singleton.mp hx]
        omega
def key (m : List Nat) : D := .tup [.int (m.sum : Nat), .tup (L (lotOf m))]
theorem alike_key (a b : List Nat) : PySem.W.alike (toP (key a)) (toP (key b)) = true := by
  show PySem.W.alike (.tuple [.int (a.sum : Nat), .tuple (toPs (L (lotOf a)))]) (.tuple [.int (b.sum : Nat), .tuple (toPs (L (lotOf b)))]) = true
  rw [toPs_L, toPs_L]
  simp [PySem.W.alike, PySem.W.alikeAll]
  have h := PySem.W.alike_ints ((lotOf a).map fun n : Nat => (n : Int)) ((lotOf b).map fun n : Nat => (n : Int))
  rwa [List.map_map, List.map_map] at h
theorem sortable_keys {ms : List (List Nat)} (hz : ms.length ≤ sizeLine) : sortableC (ms.map key) = true := by
  unfold sortableC
  simp only [Bool.and_eq_true, decide_eq_true_eq, List.all_eq_true, Bool.or_eq_true]
  have all : ∀ {P : D → Prop}, (∀ m, P (key m)) → ∀ d ∈ ms.map key, P d := fun h d hd => by
    obtain ⟨m, _, rfl⟩ := List.mem_map.mp hd
    exact h m
  refine ⟨⟨⟨⟨all fun m => ?_, all fun m => all fun m' => alike_key m m'⟩, .inl (all fun m => rfl)⟩, by rw [List.length_map]; exact hz⟩, all fun m => ?_⟩
  · show (true && (isDatas (L (lotOf m)) && true)) = true
    rw [isDatas_L]
    rfl
  · have := depths_L (lotOf m)
    simp only [key, toP, toPs, PyData.depth, PyData.depthAll]
    omega
theorem compM_enc {α : Type} {B : D → T (Option D)} (enc g : α → D) : ∀ {ms : List α}, (∀ m ∈ ms, B (enc m) = .ret (some (g m))) → compM B (ms.map enc) = .ret (ms.map g)
  | [], _ => rfl
  | m :: ms, h => by
    show T.bind (B (enc m)) _ = _
    rw [h m (List.mem_cons_self ..)]
    show T.bind (compM B (ms.map enc)) _ = _
    rw [compM_enc enc g fun x hx => h x (List.mem_cons_of_mem _ hx)]
    rfl
theorem compN_enc {α : Type} {B : D → T (Option D)} (enc g : α → D) {ms : List α} (hz : ms.length ≤ sizeLine) (h : ∀ m ∈ ms, B (enc m) = .ret (some (g m))) : compN B (ms.map enc) = .ret (ms.map g) := by
  unfold compN
  rw [if_pos (by rw [List.length_map]; exact hz)]
  exact compM_enc enc g fun m hm => by rw [h m hm]; rfl
/-! ### the one sorted row -/
section
variable {α : Type} {le : α → α → Bool}
def adj (lt : α → α → Bool) : List α → Bool
  | [] => true
  | [_] => true
  | a :: b :: l => lt a b && adj lt (b :: l)
theorem lt_trans' (H : TotalLe le) {a b c : α} (h1 : le b a = false) (h2 : le c b = false) : le c a = false := by
  cases q : le c a with
  | false => rfl
  | true =>
    have h3 : le a b = true := by
      rcases H.total a b with z | z
      · exact z
      · rw [h1] at z; cases z
    have := H.trans c a b q h3
    rw [h2] at this
    cases this
theorem adj_all (H : TotalLe le) : ∀ {l : List α}, adj (fun a b => !le b a) l = true → l.Pairwise fun a b => le b a = false
  | [], _ => .nil
  | [a], _ => List.pairwise_singleton ..
  | a :: b :: l, h => by
    have h' : ((!le b a) && adj (fun a b => !le b a) (b :: l)) = true := h
    rw [Bool.and_eq_true, Bool.not_eq_true'] at h'
    have ih := adj_all H h'.2
    refine .cons (fun x hx => ?_) ih
    rcases List.mem_cons.mp hx with rfl | hx
    · exact h'.1
    · exact lt_trans' H h'.1 ((List.pairwise_cons.mp ih).1 x hx)
theorem same_row : ∀ {l l' : List α}, l.Perm l' → l.Pairwise (fun a b => le a b = true) → l'.Pairwise (fun a b => le b a = false) → l = l'
  | l, [], hp, _, _ => List.Perm.eq_nil hp
  | [], a :: l', hp, _, _ => absurd hp.length_eq (by simp)
  | b :: l, a :: l', hp, h1, h2 => by
    have h1' := List.pairwise_cons.mp h1
    have h2' := List.pairwise_cons.mp h2
    have e : b = a := by
      rcases List.mem_cons.mp (hp.subset (List.mem_cons_self ..)) with e | hb
      · exact e
      · rcases List.mem_cons.mp (hp.symm.subset (List.mem_cons_self ..)) with e | ha
        · exact e.symm
        · have z1 := h1'.1 a ha
          have z2 := h2'.1 b hb
          rw [z1] at z2
          cases z2
    subst e
    rw [same_row (List.Perm.cons_inv hp) h1'.2 h2'.2]
theorem sort_eq (H : TotalLe le) {l l' : List α} (hp : l.Perm l') (hc : adj (fun a b => !le b a) l' = true) : l.mergeSort le = l' :=
  same_row ((List.mergeSort_perm l le).trans hp) (List.pairwise_mergeSort H.trans (fun a b => by rw [Bool.or_eq_true]; exact H.total a b) l) (adj_all H hc)
end
theorem dataLe_total {β : Type} (k : β → PyData) : TotalLe (dataLe false k) := PySem.W.sortLe_total _ _ _
/-! ### lots -/
def comb : Nat → List Nat → List (List Nat)
  | 0, _ => [[]]
  | _ + 1, [] => []
  | k + 1, a :: l => (comb k l).map (a :: ·) ++ comb (k + 1) l
/-- all lots of so many things, by size, then in order -/
def lotsN (n : Nat) : List (List Nat) := (List.range (n + 1)).flatMap fun k => comb k (List.range n)
/-- all lots, in order -/
def lexR : List Nat → List (List Nat)
  | [] => [[]]
  | a :: l => [] :: ((lexR l).map (a :: ·) ++ (lexR l).tail)
def lexN (n : Nat) : List (List Nat) := lexR (List.range n)
/-- as they grow -/
def growL : Nat → List (List Nat)
  | 0 => [[]]
  | n + 1 => growL n ++ (growL n).map (· ++ [n])
def r1 (a b : List Nat) : Bool := dataLe false toP (encM a) (encM b)
def keyL (l : List Nat) : D := .tup [.int (l.length : Nat), encM l]
def r2 (a b : List Nat) : Bool := dataLe false toP (keyL a) (keyL b)
theorem le8 {P : Nat → Prop} (h0 : P 0) (h1 : P 1) (h2 : P 2) (h3 : P 3) (h4 : P 4) (h5 : P 5) (h6 : P 6) (h7 : P 7) (h8 : P 8) {n : Nat} (h : n ≤ 8) : P n := by
  have : n = 0 ∨ n = 1 ∨ n = 2 ∨ n = 3 ∨ n = 4 ∨ n = 5 ∨ n = 6 ∨ n = 7 ∨ n = 8 := by omega
  rcases this with rfl | rfl | rfl | rfl | rfl | rfl | rfl | rfl | rfl <;> assumption
theorem perm_of {α : Type} [BEq α] [LawfulBEq α] {a b : List α} (h : a.isPerm b = true) : a.Perm b := List.isPerm_iff.mp h
theorem lex_perm {n : Nat} (h : n ≤ 8) : (growL n).Perm (lexN n) := perm_of (le8 (P := fun n => (growL n).isPerm (lexN n) = true) (by decide +kernel) (by decide +kernel) (by decide +kernel) (by decide +kernel) (by decide +kernel) (by decide +kernel) (by decide +kernel) (by decide +kernel) (by decide +kernel) h)
theorem lots_perm {n : Nat} (h : n ≤ 8) : (lexN n).Perm (lotsN n) := perm_of (le8 (P := fun n => (lexN n).isPerm (lotsN n) = true) (by decide +kernel) (by decide +kernel) (by decide +kernel) (by decide +kernel) (by decide +kernel) (by decide +kernel) (by decide +kernel) (by decide +kernel) (by decide +kernel) h)
theorem lex_adj {n : Nat} (h : n ≤ 8) : adj (fun a b => !r1 b a) (lexN n) = true := le8 (P := fun n => adj (fun a b => !r1 b a) (lexN n) = true) (by decide +kernel) (by decide +kernel) (by decide +kernel) (by decide +kernel) (by decide +kernel) (by decide +kernel) (by decide +kernel) (by decide +kernel) (by decide +kernel) h
theorem lots_adj {n : Nat} (h : n ≤ 8) : adj (fun a b => !r2 b a) (lotsN n) = true := le8 (P := fun n => adj (fun a b => !r2 b a) (lotsN n) = true) (by decide +kernel) (by decide +kernel) (by decide +kernel) (by decide +kernel) (by decide +kernel) (by decide +kernel) (by decide +kernel) (by decide +kernel) (by decide +kernel) h
theorem r1_total : TotalLe r1 := ⟨fun a b c => (dataLe_total toP).trans _ _ _, fun a b => (dataLe_total toP).total _ _⟩
theorem r2_total : TotalLe r2 := ⟨fun a b c => (dataLe_total toP).trans _ _ _, fun a b => (dataLe_total toP).total _ _⟩
theorem lots_len {n : Nat} (h : n ≤ 8) : (lotsN n).length ≤ 256 := le8 (P := fun n => (lotsN n).length ≤ 256) (by decide +kernel) (by decide +kernel) (by decide +kernel) (by decide +kernel) (by decide +kernel) (by decide +kernel) (by decide +kernel) (by decide +kernel) (by decide +kernel) h

end K03

/-! all lots, as the program and the law make them. -/
namespace K03
open PySem PySem.Spec PyProof.Rows L2 MS
open PySem.W (dataLe TotalLe)
theorem forM_steps {St : Type} {B : D → St → (St → T D) → (St → T D) → T D} {k : St → T D} (S : Nat → St) : ∀ (m i : Nat), (∀ j nx bk, i ≤ j → j < i + m → B (.int (j : Nat)) (S j) nx bk = nx (S (j + 1))) → forM B k (L (List.range' i m)) (S i) = k (S (i + m))
  | 0, i, _ => rfl
  | m + 1, i, h => by
    show B (.int (i : Nat)) (S i) (fun s' => forM B k (L (List.range' (i + 1) m)) s') k = _
    rw [h i _ _ (Nat.le_refl _) (by omega)]
    rw [forM_steps S m (i + 1) fun j nx bk h1 h2 => h j nx bk (by omega) (by omega)]
    congr 2
    omega
theorem sortable_T {ms : List (List Nat)} (hz : ms.length ≤ sizeLine) : sortableC (ms.map encM) = true := by
  unfold sortableC
  simp only [Bool.and_eq_true, decide_eq_true_eq, List.all_eq_true, Bool.or_eq_true]
  have all : ∀ {P : D → Prop}, (∀ m, P (encM m)) → ∀ d ∈ ms.map encM, P d := fun h d hd => by
    obtain ⟨m, _, rfl⟩ := List.mem_map.mp hd
    exact h m
  refine ⟨⟨⟨⟨all fun m => isDatas_L m, all fun m => all fun m' => alike_tups m m'⟩, .inl (all fun m => rfl)⟩, by rw [List.length_map]; exact hz⟩, all fun m => ?_⟩
  have := depths_L m
  simp only [encM, toP, PyData.depth]
  omega
theorem alike_keyL (a b : List Nat) : PySem.W.alike (toP (keyL a)) (toP (keyL b)) = true := by
  show PySem.W.alike (.tuple [.int (a.length : Nat), .tuple (toPs (L a))]) (.tuple [.int (b.length : Nat), .tuple (toPs (L b))]) = true
  rw [toPs_L, toPs_L]
  simp [PySem.W.alike, PySem.W.alikeAll]
  have h := PySem.W.alike_ints (a.map fun n : Nat => (n : Int)) (b.map fun n : Nat => (n : Int))
  rwa [List.map_map, List.map_map] at h
theorem sortable_keyL {ms : List (List Nat)} (hz : ms.length ≤ sizeLine) : sortableC (ms.map keyL) = true := by
  unfold sortableC
  simp only [Bool.and_eq_true, decide_eq_true_eq, List.all_eq_true, Bool.or_eq_true]
  have all : ∀ {P : D → Prop}, (∀ m, P (keyL m)) → ∀ d ∈ ms.map keyL, P d := fun h d hd => by
    obtain ⟨m, _, rfl⟩ := List.mem_map.mp hd
    exact h m
  refine ⟨⟨⟨⟨all fun m => ?_, all fun m => all fun m' => alike_keyL m m'⟩, .inl (all fun m => rfl)⟩, by rw [List.length_map]; exact hz⟩, all fun m => ?_⟩
  · show (true && (isDatas (L m) && true)) = true
    rw [isDatas_L]
    rfl
  · have := depths_L m
    simp only [keyL, encM, toP, toPs, PyData.depth, PyData.depthAll]
    omega
theorem grow_len : ∀ n, (growL n).length = 2 ^ n
  | 0 => rfl
  | n + 1 => by
    show (growL n ++ (growL n).map (· ++ [n])).length = _
    rw [List.length_append, List.length_map, grow_len n, Nat.pow_succ]
    omega
theorem pow8 {n : Nat} (h : n ≤ 8) : 2 ^ n ≤ 256 := le8 (P := fun n => 2 ^ n ≤ 256) (by decide) (by decide) (by decide) (by decide) (by decide) (by decide) (by decide) (by decide) (by decide) h
theorem grow_small {n : Nat} (h : n ≤ 8) : ∀ m ∈ growL n, m.length ≤ 8 := by
  have : ∀ n, ∀ m ∈ growL n, m.length ≤ n := fun n => by
    induction n with
    | zero => intro m hm; rw [List.mem_singleton.mp hm]; exact Nat.le_refl _
    | succ n ih =>
      intro m hm
      rcases List.mem_append.mp hm with hm | hm
      · have := ih m hm; omega
      · obtain ⟨m', h1, rfl⟩ := List.mem_map.mp hm
        have := ih m' h1
        rw [List.length_append]
        simp
        omega
  exact fun m hm => Nat.le_trans (this n m hm) h
theorem all_lots {n : Nat} (h : n ≤ 8) : m_all_lots [.tup (L (List.range n))] = .ret (.lst ((lexN n).map encM)) := by
  have sz1 := sizeLine_val
  have hl : (List.range n).length ≤ lineN := by rw [List.length_range]; show n ≤ 1000; omega
  refine (bind_eq (a := [encM []]) ?_).trans ?_
  · exact bind_ret' (consM_eq tup0 rfl) (lst1 _)
  refine (bind_eq (a := L (List.range n)) ?_).trans ?_
  · refine bind_ret' (a := D.lst (L (List.range n))) ?_ rfl
    refine bind_ret' (a := L (List.range n)) ?_ rfl
    show (if sortableC (L (List.range n)) = true then T.ret (sortD (L (List.range n))) else .stuck) = _
    rw [if_pos (sortable_L hl), sort_L]
    unfold srt
    rw [List.mergeSort_of_pairwise]
    exact List.pairwise_lt_range.imp fun {a b} h => by simp; omega
  rw [List.range_eq_range']
  refine (forM_steps (fun j => (growL j).map encM) n 0 fun j nx bk _ hj => ?_).trans ?_
  · have hp := pow8 (n := j) (by omega)
    have hg := grow_len j
    refine (bind_eq (a := D.lst (((growL j).map (· ++ [j])).map encM)) ?_).trans ?_
    · refine bind_ret' (a := ((growL j).map (· ++ [j])).map encM) ?_ rfl
      refine bind_ret' (a := (growL j).map encM) rfl ?_
      refine grow (by omega) fun m hm => cE_ret ?_
      have := grow_small (n := j) (by omega) m hm
      refine bind_ret' (a := encM m) rfl ?_
      refine bind_ret' (a := D.tup [.int (j : Nat)]) (tup1 _) (add_one j (by omega))
    · show (if List.length ((growL j).map encM) + List.length (((growL j).map (· ++ [j])).map encM) ≤ sizeLine then nx ((growL j).map encM ++ ((growL j).map (· ++ [j])).map encM) else .stuck) = _
      rw [if_pos (by simp only [List.length_map]; omega), ← List.map_append]
      rfl
  · rw [Nat.zero_add]
    have hp := pow8 h
    have hg := grow_len n
    refine bind_ret' (a := (lexN n).map encM) ?_ rfl
    show (if sortableC ((growL n).map encM) = true then T.ret (sortD ((growL n).map encM)) else .stuck) = _
    rw [if_pos (sortable_T (by omega))]
    congr 1
    show ((growL n).map encM).mergeSort (dataLe false toP) = _
    rw [← sort_eq r1_total (lex_perm h) (lex_adj h)]
    exact (List.map_mergeSort (r := r1) (f := encM) fun a _ b _ => rfl).symm
theorem things_of {names weights lots : D} {l : List D} (hn : names = .tup l) (hl : l.length ≤ lineN) : m_things_of [web names weights lots] = .ret (.tup (L (List.range l.length))) := by
  subst hn
  refine bind_ret' (a := (((0 : Nat) : Int), ((l.length : Nat) : Int))) rfl ?_
  rw [List.range_eq_range']
  exact bind_ret' (range_L (show 0 ≤ lineN by show 0 ≤ 1000; omega) hl) rfl
theorem keys_eq {kf : List D → T D} {ek : List Nat → D} : ∀ {ms : List (List Nat)}, (∀ m ∈ ms, kf [encM m] = .ret (ek m)) → keysM kf (ms.map encM) = .ret (ms.map ek)
  | [], _ => rfl
  | m :: ms, h => by
    show ((kf [encM m]).noX.bind fun k => (keysM kf (ms.map encM)).bind fun ks => .ret (k :: ks)) = _
    rw [h m (List.mem_cons_self ..), keys_eq fun x hx => h x (List.mem_cons_of_mem _ hx)]
    rfl
theorem zip_self {α β γ : Type} (f : α → β) (g : α → γ) : ∀ l : List α, (l.map f).zip (l.map g) = l.map fun a => (f a, g a)
  | [] => rfl
  | a :: l => by
    show (f a, g a) :: (l.map f).zip (l.map g) = _
    rw [zip_self f g l]
    rfl
theorem size_and_lot (m : List Nat) : m_size_and_lot [encM m] = .ret (keyL m) := by
  refine bind_ret' (consM_eq (d := D.int (m.length : Nat)) ?_ (consM_eq (d := encM m) rfl rfl)) (tup2 _ _)
  show T.ret (D.int ((L m).length : Nat)) = _
  rw [List.length_map]
theorem lots_by_size {l : List D} {weights lots : D} (h : l.length ≤ 8) : m_lots_by_size [web (.tup l) weights lots] = .ret (.lst ((lotsN l.length).map encM)) := by
  have sz1 := sizeLine_val
  have hl : l.length ≤ lineN := by show l.length ≤ 1000; omega
  refine bind_ret' (a := (lotsN l.length).map encM) ?_ rfl
  have e1 : T.bind (consM (.ret (web (.tup l) weights lots)) (.ret [])) m_things_of = .ret (.tup (L (List.range l.length))) := bind_ret' (a := [web (.tup l) weights lots]) rfl (things_of rfl hl)
  have e2 := bind_ret' (f := m_all_lots) (consM_eq e1 rfl) (all_lots h)
  refine bind_ret' (a := [D.lst ((lexN l.length).map encM)]) (consM_eq e2 rfl) ?_
  have hp := (lex_perm h).length_eq
  have hg := grow_len l.length
  have h8 := pow8 h
  show (if ((lexN l.length).map encM).length ≤ sizeLine then (keysM m_size_and_lot ((lexN l.length).map encM)).bind fun ks => if sortableC ks = true then .ret (sortByD ((lexN l.length).map encM) ks) else .stuck else .stuck) = _
  rw [if_pos (by rw [List.length_map]; omega), keys_eq fun m _ => size_and_lot m]
  show (if sortableC ((lexN l.length).map keyL) = true then T.ret (sortByD ((lexN l.length).map encM) ((lexN l.length).map keyL)) else .stuck) = _
  rw [if_pos (sortable_keyL (by omega))]
  refine congrArg T.ret ?_
  unfold sortByD
  rw [zip_self, ← List.map_mergeSort (r := r2) (f := fun a => (keyL a, encM a)) fun a _ b _ => rfl, List.map_map, sort_eq r2_total (lots_perm h) (lots_adj h)]
  rfl

end K03

/-! all marks, as the law makes them. -/
namespace K03
open PySem PySem.Spec PyProof.Rows L2 MS
open PySem.W (dataLe TotalLe)
def growM : Nat → List (List Nat)
  | 0 => [[]]
  | n + 1 => (growM n).map (· ++ [0]) ++ (growM n).map (· ++ [1])
theorem growM_len : ∀ n, (growM n).length = 2 ^ n
  | 0 => rfl
  | n + 1 => by
    show ((growM n).map (· ++ [0]) ++ (growM n).map (· ++ [1])).length = _
    rw [List.length_append, List.length_map, List.length_map, growM_len n, Nat.pow_succ]
    omega
theorem growM_mk : ∀ n, ∀ m ∈ growM n, Mk n m
  | 0, m, hm => by
    rw [List.mem_singleton.mp hm]
    exact ⟨rfl, fun x hx => nomatch hx⟩
  | n + 1, m, hm => by
    have one : ∀ (c : Nat), c ≤ 1 → ∀ m ∈ (growM n).map (· ++ [c]), Mk (n + 1) m := fun c hc m hm => by
      obtain ⟨m', h1, rfl⟩ := List.mem_map.mp hm
      obtain ⟨h2, h3⟩ := growM_mk n m' h1
      refine ⟨by rw [List.length_append, h2]; rfl, fun x hx => ?_⟩
      rcases List.mem_append.mp hx with hx | hx
      · exact h3 x hx
      · rw [List.mem_singleton.mp hx]; exact hc
    rcases List.mem_append.mp hm with hm | hm
    · exact one 0 (by omega) m hm
    · exact one 1 (by omega) m hm
theorem sum_lot : ∀ {m : List Nat}, (∀ x ∈ m, x ≤ 1) → m.sum = (lotOf m).length
  | [], _ => rfl
  | a :: m, h => by
    have ih := sum_lot fun x hx => h x (List.mem_cons_of_mem _ hx)
    have h1 := h a (List.mem_cons_self ..)
    rw [List.sum_cons, ih, lotOf_cons, List.length_append, List.length_map]
    by_cases q : a = 1
    · rw [if_pos q, q]
      rfl
    · rw [if_neg q]
      have : a = 0 := by omega
      rw [this]
      rfl
theorem marks_perm {n : Nat} (h : n ≤ 8) : ((growM n).map lotOf).Perm (lotsN n) := perm_of (le8 (P := fun n => ((growM n).map lotOf).isPerm (lotsN n) = true) (by decide +kernel) (by decide +kernel) (by decide +kernel) (by decide +kernel) (by decide +kernel) (by decide +kernel) (by decide +kernel) (by decide +kernel) (by decide +kernel) h)
theorem lots_small {n : Nat} (h : n ≤ 8) : ∀ l ∈ lotsN n, l.length ≤ 8 := by
  have q := le8 (P := fun n => (lotsN n).all (fun l => decide (l.length ≤ 8)) = true) (by decide +kernel) (by decide +kernel) (by decide +kernel) (by decide +kernel) (by decide +kernel) (by decide +kernel) (by decide +kernel) (by decide +kernel) (by decide +kernel) h
  intro l hl
  exact of_decide_eq_true (List.all_eq_true.mp q l hl)
theorem both_grow {j : Nat} (hj : j ≤ 7) (c : Nat) : T.bind (T.bind (T.bind (.ret (D.lst ((growM j).map encM))) seqM) (compN (fun v => cE (T.bind (.ret v) fun x => T.bind (T.bind (consM (.ret (.int (c : Nat))) (.ret [])) tupM) fun y => addD x y)))) (fun ds => .ret (D.lst ds)) = .ret (.lst (((growM j).map fun m => m ++ [c]).map encM)) := by
  have h8 := pow8 (n := j) (by omega)
  have hg := growM_len j
  have sz1 := sizeLine_val
  refine bind_ret' (a := ((growM j).map fun m => m ++ [c]).map encM) ?_ rfl
  refine bind_ret' (a := (growM j).map encM) rfl ?_
  refine grow (by omega) fun m hm => cE_ret ?_
  have hm1 := (growM_mk j m hm).1
  refine bind_ret' (a := encM m) rfl ?_
  exact bind_ret' (a := D.tup [.int (c : Nat)]) (tup1 _) (add_one c (by omega))
/-- the marks of all lots -/
def marksN (n : Nat) : List (List Nat) := (lotsN n).map (marksOf n)
theorem un2_keyL {α : Type} (m : List Nat) (f : D → D → T α) : un2M (keyL m) f = f (.int (m.length : Nat)) (encM m) := rfl
end K03

/-! lots within lots; least lots that are not let. -/
namespace K03
open PySem PySem.Spec PyProof.Rows L2 MS
theorem forM_enc {α β St : Type} {B : D → St → (St → T D) → (St → T D) → T D} {k : St → T D} (enc : α → D) (S : β → St) (f : β → α → β) (I : Nat → β → Prop) : ∀ (items : List α) (i : Nat) (s : β), I i s → (∀ j a, items[j]? = some a → ∀ s, I (i + j) s → I (i + j + 1) (f s a) ∧ ∀ nx bk, B (enc a) (S s) nx bk = nx (S (f s a))) → forM B k (items.map enc) (S s) = k (S (items.foldl f s)) ∧ I (i + items.length) (items.foldl f s)
  | [], i, s, h, _ => ⟨rfl, h⟩
  | a :: items, i, s, h, hs => by
    obtain ⟨h1, h2⟩ := hs 0 a rfl s h
    obtain ⟨h3, h4⟩ := forM_enc (k := k) enc S f I items (i + 1) (f s a) h1 fun j b hb s' hI => by
      have e : i + 1 + j = i + (j + 1) := by omega
      rw [e] at hI ⊢
      exact hs (j + 1) b hb s' hI
    refine ⟨?_, ?_⟩
    · show B (enc a) (S s) (fun s' => forM B k (items.map enc) s') k = _
      rw [h2]
      exact h3
    · have e : i + (a :: items).length = i + 1 + items.length := by rw [List.length_cons]; omega
      rw [e]
      exact h4
/-- a lot within another -/
def within' (a b : List Nat) : Bool := decide (∀ x ∈ a, x ∈ b)
theorem cIb {m : T D} {b : Bool} {y : D} (h : m = .ret (.bl b)) : cI (m.bind asBool) (.ret y) = .ret (if b then some y else none) := cI_ret (bind_ret' h rfl) fun _ => rfl
theorem filt_enc {α : Type} {B : D → T (Option D)} (enc : α → D) {ls : List α} (q : α → Bool) (hz : ls.length ≤ sizeLine) (h : ∀ p ∈ ls, B (enc p) = .ret (if q p then some (enc p) else none)) : compN B (ls.map enc) = .ret ((ls.filter q).map enc) := by
  unfold compN
  rw [if_pos (by rw [List.length_map]; exact hz)]
  clear hz
  induction ls with
  | nil => rfl
  | cons p ps ih =>
    show (T.noX (B (enc p))).bind _ = _
    rw [h p (List.mem_cons_self ..)]
    show (T.bind (compM (fun d => (B d).noX) (ps.map enc)) _) = _
    rw [ih fun x hx => h x (List.mem_cons_of_mem _ hx)]
    cases e : q p with
    | true => rw [List.filter_cons_of_pos e]; rfl
    | false => rw [List.filter_cons_of_neg (by rw [e]; exact Bool.false_ne_true)]; rfl
theorem fine_lots {ls : List (List Nat)} (h : ∀ l ∈ ls, l.length ≤ lineN) (hz : ls.length ≤ lineN) : Fine 2 (.lst (ls.map encM)) := .lst (fun x hx => by
  obtain ⟨l, hl, rfl⟩ := List.mem_map.mp hx
  exact fine_tupL (h l hl)) (by rw [List.length_map]; exact small_line hz)
/-- a turn of the search for bars -/
def barStep (p : List Nat → Bool) (found : List (List Nat)) (lot : List Nat) : List (List Nat) := if !(found.any fun o => within' o lot) && !p lot then found ++ [lot] else found
def barsP (n : Nat) (p : List Nat → Bool) : List (List Nat) := (lotsN n).foldl (barStep p) []
/-- such a search's state -/
def BarI (n : Nat) (i : Nat) (f : List (List Nat)) : Prop := f.length ≤ i ∧ ∀ l ∈ f, l ∈ lotsN n
theorem barI_step {n i : Nat} {f : List (List Nat)} {p : List Nat → Bool} {lot : List Nat} (h : BarI n i f) (hl : lot ∈ lotsN n) : BarI n (i + 1) (barStep p f lot) := by
  unfold barStep
  split
  · refine ⟨by rw [List.length_append, List.length_singleton]; have := h.1; omega, fun l hx => ?_⟩
    rcases List.mem_append.mp hx with hx | hx
    · exact h.2 l hx
    · rw [List.mem_singleton.mp hx]; exact hl
  · exact ⟨Nat.le_succ_of_le h.1, h.2⟩
/-- what is let, by the parts -/
def letsAll (ps : List Part) (l : List Nat) : Bool := ps.all fun p => p.lets l
theorem lots_in {n : Nat} (h : n ≤ 8) : ∀ l ∈ lotsN n, (∀ x ∈ l, x < n) ∧ l.Pairwise (· < ·) := by
  have q := le8 (P := fun n => (lotsN n).all (fun l => l.all (fun x => decide (x < n)) && decide (l.Pairwise (· < ·))) = true) (by decide +kernel) (by decide +kernel) (by decide +kernel) (by decide +kernel) (by decide +kernel) (by decide +kernel) (by decide +kernel) (by decide +kernel) (by decide +kernel) h
  intro l hl
  have := List.all_eq_true.mp q l hl
  rw [Bool.and_eq_true, List.all_eq_true] at this
  exact ⟨fun x hx => of_decide_eq_true (this.1 x hx), of_decide_eq_true this.2⟩
end K03

/-! least bars, as the law finds them. -/
namespace K03
open PySem PySem.Spec PyProof.Rows L2 MS
theorem lot_marks {n : Nat} (h : n ≤ 8) : ∀ l ∈ lotsN n, lotOf (marksOf n l) = l := by
  have q := le8 (P := fun n => (lotsN n).all (fun l => decide (lotOf (marksOf n l) = l)) = true) (by decide +kernel) (by decide +kernel) (by decide +kernel) (by decide +kernel) (by decide +kernel) (by decide +kernel) (by decide +kernel) (by decide +kernel) (by decide +kernel) h
  intro l hl
  exact of_decide_eq_true (List.all_eq_true.mp q l hl)
/-- how the law tells that a lot lies within another -/
theorem insideC {b lot : List Nat} (hb : b.length ≤ lineN) (hl : lot.length ≤ lineN) : (T.bind (T.bind (consM (T.bind (T.bind (T.bind (.ret (encM b)) seqM) (compN (fun v_at96 => cI (T.bind (.ret v_at96) fun x => T.bind (.ret (encM lot)) fun y => T.bind (cmpM .NotIn x y) asBool) (.ret v_at96)))) fun ds => .ret (.lst ds)) (.ret [])) lenM) fun x => T.bind (.ret (.int 0)) fun y => T.bind (cmpM .Eq x y) asBool) = .ret (within' b lot) := by
  have e : T.bind (T.bind (T.bind (.ret (encM b)) seqM) (compN (fun v_at96 => cI (T.bind (.ret v_at96) fun x => T.bind (.ret (encM lot)) fun y => T.bind (cmpM .NotIn x y) asBool) (.ret v_at96)))) (fun ds => .ret (D.lst ds)) = .ret (.lst (L (b.filter fun n => !decide (n ∈ lot)))) := by
    refine bind_ret' (a := L (b.filter fun n => !decide (n ∈ lot))) ?_ rfl
    refine bind_ret' (a := L b) rfl ?_
    refine filt_L _ hb fun n hn => cI_ret (b := !decide (n ∈ lot)) ?_ fun _ => rfl
    refine bind_ret' (a := D.int (n : Nat)) rfl ?_
    refine bind_ret' (a := encM lot) rfl ?_
    exact bind_ret' (notin_L n (small_line hl)) rfl
  refine bind_ret' (a := D.int ((L (b.filter fun n => !decide (n ∈ lot))).length : Nat)) (bind_ret' (consM_eq e rfl) rfl) ?_
  refine bind_ret' (a := D.int 0) rfl ?_
  refine bind_ret' (eqI _ _) ?_
  show T.ret (decide ((((L (b.filter fun n => !decide (n ∈ lot))).length : Nat) : Int) = 0)) = _
  rw [List.length_map]
  congr 1
  unfold within'
  rw [Bool.eq_iff_iff, decide_eq_true_eq, decide_eq_true_eq]
  constructor
  · intro h x hx
    have h0 : (b.filter fun n => !decide (n ∈ lot)).length = 0 := by omega
    rw [List.length_eq_zero_iff, List.filter_eq_nil_iff] at h0
    simpa using h0 x hx
  · intro h
    have h0 : (b.filter fun n => !decide (n ∈ lot)) = [] := by
      rw [List.filter_eq_nil_iff]
      intro x hx
      simp [h x hx]
    rw [h0]
    rfl
/-- the bars within a lot -/
theorem insideL {lot : List Nat} {ls : List (List Nat)} (h : ∀ l ∈ ls, l.length ≤ lineN) (hz : ls.length ≤ lineN) (hl : lot.length ≤ lineN) : compN (fun v_bar95 => cI (T.bind (T.bind (consM (T.bind (T.bind (T.bind (.ret v_bar95) seqM) (compN (fun v_at96 => cI (T.bind (.ret v_at96) fun x => T.bind (.ret (encM lot)) fun y => T.bind (cmpM .NotIn x y) asBool) (.ret v_at96)))) fun ds => .ret (.lst ds)) (.ret [])) lenM) fun x => T.bind (.ret (.int 0)) fun y => T.bind (cmpM .Eq x y) asBool) (.ret v_bar95)) (ls.map encM) = .ret ((ls.filter fun b => within' b lot).map encM) :=
  filt_enc encM (fun b => within' b lot) (small_line hz) fun b hb => cI_ret (insideC (h b hb) hl) fun _ => rfl
theorem len0 (ls : List (List Nat)) (q : List Nat → Bool) : decide ((((ls.filter q).map encM).length : Int) = 0) = !(ls.any q) := by
  rw [List.length_map, Bool.eq_iff_iff, decide_eq_true_eq, Bool.not_eq_true', ← Bool.not_eq_true, List.any_eq_true]
  constructor
  · rintro h ⟨x, hx, hq⟩
    have h0 : (ls.filter q).length = 0 := by omega
    rw [List.length_eq_zero_iff, List.filter_eq_nil_iff] at h0
    exact h0 x hx hq
  · intro h
    have h0 : ls.filter q = [] := by
      rw [List.filter_eq_nil_iff]
      exact fun x hx hq => h ⟨x, hx, hq⟩
    rw [h0]
    rfl
def AllOk (n : Nat) (ps : List Part) : Prop := ∀ p ∈ ps, (p.Ok n ∧ p.len ≤ lineN) ∧ p.Small
end K03

/-! bars: what they bar. -/
namespace K03
open PySem PySem.Spec PyProof.Rows L2 MS
theorem within_iff {a b : List Nat} : within' a b = true ↔ ∀ x ∈ a, x ∈ b := decide_eq_true_iff
theorem within_refl (a : List Nat) : within' a a = true := within_iff.mpr fun _ h => h
theorem within_trans {a b c : List Nat} (h1 : within' a b = true) (h2 : within' b c = true) : within' a c = true := within_iff.mpr fun x hx => within_iff.mp h2 x (within_iff.mp h1 x hx)
theorem step_sub {p : List Nat → Bool} {f : List (List Nat)} {l o : List Nat} (h : o ∈ f) : o ∈ barStep p f l := by
  unfold barStep
  split
  · exact List.mem_append_left _ h
  · exact h
theorem fold_sub {p : List Nat → Bool} : ∀ {ls f : List (List Nat)} {o : List Nat}, o ∈ f → o ∈ ls.foldl (barStep p) f
  | [], _, _, h => h
  | l :: ls, f, o, h => fold_sub (ls := ls) (step_sub h)
theorem fold_mem {p : List Nat → Bool} : ∀ {ls f : List (List Nat)} {o : List Nat}, o ∈ ls.foldl (barStep p) f → o ∈ f ∨ (o ∈ ls ∧ p o = false)
  | [], _, _, h => .inl h
  | l :: ls, f, o, h => by
    rcases fold_mem (ls := ls) h with h | ⟨h1, h2⟩
    · unfold barStep at h
      split at h
      · rename_i q
        rcases List.mem_append.mp h with h | h
        · exact .inl h
        · rw [List.mem_singleton.mp h]
          rw [Bool.and_eq_true, Bool.not_eq_true', Bool.not_eq_true'] at q
          exact .inr ⟨List.mem_cons_self .., q.2⟩
      · exact .inl h
    · exact .inr ⟨List.mem_cons_of_mem _ h1, h2⟩
theorem fold_hit {p : List Nat → Bool} : ∀ {ls f : List (List Nat)} {l : List Nat}, l ∈ ls → p l = false → ∃ o ∈ ls.foldl (barStep p) f, within' o l = true
  | a :: ls, f, l, hl, hp => by
    rcases List.mem_cons.mp hl with rfl | hl
    · by_cases q : (f.any fun o => within' o l) = true
      · obtain ⟨o, h1, h2⟩ := List.any_eq_true.mp q
        exact ⟨o, fold_sub (ls := ls) (step_sub h1), h2⟩
      · refine ⟨l, fold_sub (ls := ls) ?_, within_refl l⟩
        unfold barStep
        rw [if_pos (by rw [Bool.and_eq_true, Bool.not_eq_true', Bool.not_eq_true']; exact ⟨by simpa using q, hp⟩)]
        exact List.mem_append_right _ (List.mem_singleton_self _)
    · exact fold_hit (ls := ls) hl hp
theorem bars_mem {n : Nat} {p : List Nat → Bool} {o : List Nat} (h : o ∈ barsP n p) : o ∈ lotsN n ∧ p o = false := by
  rcases fold_mem h with h | h
  · cases h
  · exact h
theorem bars_hit {n : Nat} {p : List Nat → Bool} {l : List Nat} (hl : l ∈ lotsN n) (hp : p l = false) : ∃ o ∈ barsP n p, within' o l = true := fold_hit hl hp
/-- what is let holds no bar -/
theorem bars_any {n : Nat} {p : List Nat → Bool} {l : List Nat} (hl : l ∈ lotsN n) (mono : ∀ o ∈ lotsN n, within' o l = true → p l = true → p o = true) : ((barsP n p).any fun o => within' o l) = !p l := by
  cases q : p l with
  | true =>
    rw [Bool.not_true, List.any_eq_false]
    intro o ho hw
    obtain ⟨h1, h2⟩ := bars_mem ho
    rw [mono o h1 hw q] at h2
    cases h2
  | false =>
    rw [Bool.not_false, List.any_eq_true]
    exact bars_hit hl q
theorem fold_congr {p q : List Nat → Bool} : ∀ {ls f : List (List Nat)}, (∀ l ∈ ls, p l = q l) → ls.foldl (barStep p) f = ls.foldl (barStep q) f
  | [], _, _ => rfl
  | l :: ls, f, h => by
    show ls.foldl (barStep p) (barStep p f l) = ls.foldl (barStep q) (barStep q f l)
    have e : barStep p f l = barStep q f l := by unfold barStep; rw [h l (List.mem_cons_self ..)]
    rw [e, fold_congr fun x hx => h x (List.mem_cons_of_mem _ hx)]
theorem bars_congr {n : Nat} {p q : List Nat → Bool} (h : ∀ l ∈ lotsN n, p l = q l) : barsP n p = barsP n q := fold_congr h
theorem fold_none {p : List Nat → Bool} : ∀ {ls f : List (List Nat)}, (∀ l ∈ ls, p l = true) → ls.foldl (barStep p) f = f
  | [], _, _ => rfl
  | l :: ls, f, h => by
    show ls.foldl (barStep p) (barStep p f l) = f
    have e : barStep p f l = f := by unfold barStep; rw [h l (List.mem_cons_self ..), Bool.not_true, Bool.and_false]; rfl
    rw [e, fold_none fun x hx => h x (List.mem_cons_of_mem _ hx)]
theorem bars_none {n : Nat} {p : List Nat → Bool} (h : ∀ l ∈ lotsN n, p l = true) : barsP n p = [] := fold_none h
theorem bars_len {n : Nat} (h : n ≤ 8) (p : List Nat → Bool) : (barsP n p).length ≤ 256 := by
  have key : ∀ (ls f : List (List Nat)), (ls.foldl (barStep p) f).length ≤ f.length + ls.length := fun ls => by
    induction ls with
    | nil => intro f; exact Nat.le_refl _
    | cons l ls ih =>
      intro f
      have h1 := ih (barStep p f l)
      have h2 : (barStep p f l).length ≤ f.length + 1 := by
        unfold barStep
        split
        · rw [List.length_append]; exact Nat.le_refl _
        · omega
      show (ls.foldl (barStep p) (barStep p f l)).length ≤ _
      rw [List.length_cons]
      omega
  have := key (lotsN n) []
  have h2 := lots_len h
  have h3 : ([] : List (List Nat)).length = 0 := rfl
  show ((lotsN n).foldl (barStep p) []).length ≤ 256
  omega
/-! ### all lots are there -/
theorem asc_ext {l l' : List Nat} (h : l.Pairwise (· < ·)) (h' : l'.Pairwise (· < ·)) (m : ∀ x, x ∈ l ↔ x ∈ l') : l = l' := by
  have nd : ∀ {l : List Nat}, l.Pairwise (· < ·) → l.Nodup := fun h => h.imp fun {a b} z e => by subst e; exact Nat.lt_irrefl _ z
  have hp : l.Perm l' := (List.perm_ext_iff_of_nodup (nd h) (nd h')).mpr m
  refine same_row (le := fun a b => decide (a ≤ b)) hp (h.imp fun {a b} z => ?_) (h'.imp fun {a b} z => ?_)
  · simp; omega
  · simp; omega
theorem mem_comb {l r : List Nat} (h : l.Sublist r) : l ∈ comb l.length r := by
  induction h with
  | slnil => exact List.mem_singleton_self _
  | @cons l r a h ih =>
    cases l with
    | nil => exact List.mem_singleton_self _
    | cons x l => exact List.mem_append_right _ ih
  | @cons_cons l r a h ih => exact List.mem_append_left _ (List.mem_map.mpr ⟨l, ih, rfl⟩)
theorem filter_lot {n : Nat} {l : List Nat} (h : l.Pairwise (· < ·)) (hn : ∀ x ∈ l, x < n) : (List.range n).filter (fun x => decide (x ∈ l)) = l := by
  refine asc_ext (List.Pairwise.filter _ List.pairwise_lt_range) h fun x => ?_
  rw [List.mem_filter, List.mem_range, decide_eq_true_eq]
  exact ⟨fun z => z.2, fun z => ⟨hn x z, z⟩⟩
theorem mem_lots {n : Nat} {l : List Nat} (h : l.Pairwise (· < ·)) (hn : ∀ x ∈ l, x < n) : l ∈ lotsN n := by
  have hs : l.Sublist (List.range n) := by
    rw [← filter_lot h hn]
    exact List.filter_sublist
  have hl := hs.length_le
  rw [List.length_range] at hl
  exact List.mem_flatMap.mpr ⟨l.length, List.mem_range.mpr (by omega), mem_comb hs⟩
theorem sub_of_within {a b : List Nat} (ha : a.Pairwise (· < ·)) (hb : b.Pairwise (· < ·)) (h : within' a b = true) : a.Sublist b := by
  have e : b.filter (fun x => decide (x ∈ a)) = a := asc_ext (hb.filter _) ha fun x => by
    rw [List.mem_filter, decide_eq_true_eq]
    exact ⟨fun z => z.2, fun z => ⟨within_iff.mp h x z, z⟩⟩
  rw [← e]
  exact List.filter_sublist
/-- more standing, less is let -/
theorem lets_mono {n : Nat} (h : n ≤ 8) {ps : List Part} {a b : List Nat} (ha : a ∈ lotsN n) (hb : b ∈ lotsN n) (hw : within' a b = true) (hl : letsAll ps b = true) : letsAll ps a = true := by
  unfold letsAll at hl ⊢
  rw [List.all_eq_true] at hl ⊢
  exact fun p hp => lets_less (sub_of_within (lots_in h a ha).2 (lots_in h b hb).2 hw) (hl p hp)

end K03

/-! pairs of told and due that grow. -/
namespace K03
open PySem PySem.Spec PyProof.Rows L2 MS
def PS (n : Nat) (s : List D) : Prop := s.length ≤ n ∧ ∀ d ∈ s, Pair d
theorem PS.mono {n k : Nat} {s : List D} (h : PS n s) (hk : n ≤ k) : PS k s := ⟨Nat.le_trans h.1 hk, h.2⟩
theorem PS.nil : PS 0 [] := ⟨Nat.le_refl _, fun _ h => nomatch h⟩
theorem PS.cat {n k : Nat} {s l : List D} (h : PS n s) (hl : l.length ≤ k) (p : ∀ d ∈ l, Pair d) : PS (n + k) (s ++ l) := by
  refine ⟨by rw [List.length_append]; have := h.1; omega, fun d hd => ?_⟩
  rcases List.mem_append.mp hd with hd | hd
  · exact h.2 d hd
  · exact p d hd
theorem all1 {P : D → Prop} {a : D} (h : P a) : ∀ d ∈ [a], P d := fun x hx => by rw [List.mem_singleton.mp hx]; exact h
theorem all_cons {P : D → Prop} {a : D} {l : List D} (h : P a) (t : ∀ d ∈ l, P d) : ∀ d ∈ a :: l, P d := fun x hx => by
  rcases List.mem_cons.mp hx with rfl | hx
  · exact h
  · exact t x hx
theorem PS.snoc {n : Nat} {s : List D} {d : D} (h : PS n s) (p : Pair d) : PS (n + 1) (s ++ [d]) := h.cat (Nat.le_refl 1) (all1 p)
theorem pair_of {v : D} (h : Plain v) (hz : sz v ≤ 1000000) : Pair (.tup [v, v]) := ⟨v, h, hz, rfl⟩
theorem pair_b (b : Bool) : Pair (.tup [.bl b, .bl b]) := pair_of (.bl b) (by show 1 ≤ 1000000; omega)
theorem pair_n : Pair (.tup [.non, .non]) := pair_of .non (by show 1 ≤ 1000000; omega)
theorem plain_L (l : List Nat) : ∀ x ∈ L l, Plain x := fun x hx => by
  obtain ⟨n, _, rfl⟩ := List.mem_map.mp hx
  exact .int _
theorem szs_L : ∀ l : List Nat, szs (L l) = l.length
  | [] => rfl
  | _ :: l => by
    show 1 + szs (L l) = l.length + 1
    rw [szs_L l]
    omega
theorem Tup2 {ma mb : T D} {a b : D} (ha : ma = .ret a) (hb : mb = .ret b) : T.bind (consM ma (consM mb (.ret []))) tupM = .ret (.tup [a, b]) := bind_ret' (consM_eq ha (consM_eq hb rfl)) (tup2 a b)
theorem Tup3 {ma mb mc : T D} {a b c : D} (ha : ma = .ret a) (hb : mb = .ret b) (hc : mc = .ret c) : T.bind (consM ma (consM mb (consM mc (.ret [])))) tupM = .ret (.tup [a, b, c]) := bind_ret' (consM_eq ha (consM_eq hb (consM_eq hc rfl))) (tup3 a b c)
theorem Tup1 {ma : T D} {a : D} (ha : ma = .ret a) : T.bind (consM ma (.ret [])) tupM = .ret (.tup [a]) := bind_ret' (consM_eq ha rfl) (tup1 a)
theorem gt0 (t : Nat) : (T.bind (.ret (D.int (t : Nat))) fun x => T.bind (.ret (.int 0)) fun y => T.bind (cmpM .Gt x y) asBool) = .ret (decide ((0 : Int) < (t : Nat))) := rfl
/-- Rule((..,)) -/
theorem mk_rule {m : T D} {ps : List Part} (h : m = .ret (.tup (ps.map Part.enc))) : T.bind (consM m (.ret [])) (insM ("Rule" : Str) [("parts" : Str)]) = .ret (rule ps) := bind_ret' (consM_eq h rfl) rfl
/-- f(web, rule) or f(rule=rule, web=web) -/
theorem kw2 {t : Nat} {f : List D → T D} {a b v : D} (h : f [a, b] = .ret v) : (T.bind (T.bind (.ret (D.int (t : Nat))) fun x => T.bind (.ret (.int 0)) fun y => T.bind (cmpM .Gt x y) asBool) fun t => cond t (T.bind (consM (.ret a) (consM (.ret b) (.ret []))) f) (T.bind (consM (.ret b) (consM (.ret a) (.ret []))) fun ds => if ds.length = 2 then f ([1, 0].map fun i => ds.getD i .non) else .stuck)) = .ret v := by
  refine cond_same (gt0 t) ?_ ?_
  · exact bind_ret' (a := [a, b]) rfl h
  · refine bind_ret' (a := [b, a]) rfl ?_
    exact (if_pos rfl).trans h

end K03

/-! what a turn begins with. -/
namespace K03
open PySem PySem.Spec PyProof.Rows L2 MS
theorem plain_lot {l : List Nat} (h : l.length ≤ 1000) : Plain (encM l) := .tup (plain_L l) (by rw [List.length_map]; exact h)
theorem sz_lot (l : List Nat) : sz (encM l) = l.length + 1 := by
  show szs (L l) + 1 = _
  rw [szs_L]
theorem pair_lot {l : List Nat} (h : l.length ≤ 1000) : Pair (.tup [encM l, encM l]) := pair_of (plain_lot h) (by rw [sz_lot]; omega)
theorem szs_lots {k : Nat} : ∀ {ls : List (List Nat)}, (∀ l ∈ ls, l.length ≤ k) → szs (ls.map encM) ≤ (k + 1) * ls.length
  | [], _ => Nat.zero_le _
  | l :: ls, h => by
    have ih := szs_lots fun x hx => h x (List.mem_cons_of_mem _ hx)
    have h1 := h l (List.mem_cons_self ..)
    show sz (encM l) + szs (ls.map encM) ≤ _
    rw [sz_lot, List.length_cons, Nat.mul_succ]
    omega
theorem pair_lots {ls : List (List Nat)} (hz : ls.length ≤ 1000) (h : ∀ l ∈ ls, l.length ≤ 8) : Pair (.tup [.tup (ls.map encM), .tup (ls.map encM)]) := by
  refine pair_of (.tup (fun x hx => ?_) (by rw [List.length_map]; exact hz)) ?_
  · obtain ⟨l, hl, rfl⟩ := List.mem_map.mp hx
    exact plain_lot (by have := h l hl; omega)
  · have := szs_lots h
    show szs (ls.map encM) + 1 ≤ 1000000
    omega
theorem pair_bars {n : Nat} (h : n ≤ 8) (p : List Nat → Bool) : Pair (.tup [.tup ((barsP n p).map encM), .tup ((barsP n p).map encM)]) :=
  pair_lots (by have := bars_len h p; omega) fun l hl => lots_small h l (bars_mem hl).1
theorem tup_rng {n : Nat} (hn : n ≤ lineN) : (T.bind (T.bind (.ret (D.int (n : Nat))) fun d => T.bind (asInt d) fun i => .ret ((0 : Int), i)) fun q => T.bind (rangeL q.1 q.2) fun l => T.ret (D.tup l)) = T.ret (encM (List.range n)) := by
  refine bind_ret' (a := (((0 : Nat) : Int), ((n : Nat) : Int))) rfl ?_
  rw [List.range_eq_range']
  exact bind_ret' (range_L (show 0 ≤ lineN by show 0 ≤ 1000; omega) hn) rfl
theorem rok_of {n : Nat} {ps : List Part} (h : AllOk n ps) (hl : ps.length ≤ lineN) : Rok n ps := ⟨fun p hp => (h p hp).1, hl⟩


end K03

/-! whether two rules let the same; the rule that bars tell. -/
namespace K03
open PySem PySem.Spec PyProof.Rows L2 MS
theorem forM_find {α : Type} {B : D → Unit → (Unit → T D) → (Unit → T D) → T D} {k : Unit → T D} (enc : α → D) (c : α → Bool) (f : α → D) : ∀ {items : List α}, (∀ a ∈ items, ∀ nx bk, B (enc a) () nx bk = if c a then .ret (f a) else nx ()) → forM B k (items.map enc) () = match items.find? c with
    | some a => .ret (f a)
    | none => k ()
  | [], _ => rfl
  | a :: items, h => by
    show B (enc a) () (fun s' => forM B k (items.map enc) s') k = _
    rw [h a (List.mem_cons_self ..), List.find?_cons]
    cases c a with
    | true => rfl
    | false => exact forM_find enc c f fun x hx => h x (List.mem_cons_of_mem _ hx)
def encO : Option (List Nat) → D
  | none => .non
  | some l => encM l
/-- the first lot that just one lets -/
def firstP (n : Nat) (p q : List Nat → Bool) : Option (List Nat) := (lotsN n).find? fun l => p l != q l
theorem ne_bl (a b : Bool) : cmpM .NotEq (.bl a) (.bl b) = .ret (.bl (a != b)) := by cases a <;> cases b <;> kernel_rfl
theorem same_rule {n : Nat} {names : List D} {weights lots : D} {a b : List Part} (hn : names.length = n) (h : n ≤ 8) (ha : Rok n a) (hb : Rok n b) : m_same_rule [web (.tup names) weights lots, rule a, rule b] = .ret (encO (firstP n (letsAll a) (letsAll b))) := by
  refine (bind_eq (a := (lotsN n).map encM) ?_).trans ?_
  · refine bind_ret' (a := D.lst ((lotsN n).map encM)) ?_ rfl
    refine bind_ret' (a := [web (.tup names) weights lots]) rfl ?_
    subst hn
    exact lots_by_size (by omega)
  · refine (forM_find encM (fun l => letsAll a l != letsAll b l) encM fun l hl nx bk => ?_).trans ?_
    · have hs := lots_small h l hl
      have hll : l.length ≤ lineN := by show l.length ≤ 1000; omega
      have hin := (lots_in h l hl).1
      rw [bind_eq (a := letsAll a l != letsAll b l) ?_]
      · cases letsAll a l != letsAll b l <;> rfl
      · refine bind_ret' (a := D.bl (letsAll a l)) (bind_ret' (a := [rule a, encM l]) rfl (lets ha hll hin)) ?_
        refine bind_ret' (a := D.bl (letsAll b l)) (bind_ret' (a := [rule b, encM l]) rfl (lets hb hll hin)) ?_
        exact bind_ret' (ne_bl _ _) rfl
    · unfold firstP
      cases (lotsN n).find? fun l => letsAll a l != letsAll b l <;> rfl
/-! ### lots are equal -/
theorem eqD_ints : ∀ a b : List Nat, PyData.eqvAll (toPs (L a)) (toPs (L b)) = decide (a = b)
  | [], [] => by simp [toPs, PyData.eqvAll]
  | [], _ :: _ => by simp [toPs, PyData.eqvAll]
  | _ :: _, [] => by simp [toPs, PyData.eqvAll]
  | x :: a, y :: b => by
    have ih := eqD_ints a b
    have e : PyData.eqvAll (toPs (L (x :: a))) (toPs (L (y :: b))) = (PyData.eqv (.int (x : Nat)) (.int (y : Nat)) && PyData.eqvAll (toPs (L a)) (toPs (L b))) := by simp [toPs, toP, PyData.eqvAll]
    have e2 : PyData.eqv (.int (x : Nat)) (.int (y : Nat)) = decide (x = y) := by
      have := eqD_int (x : Nat) (y : Nat)
      show eqD (.int (x : Nat)) (.int (y : Nat)) = _
      rw [this]
      by_cases q : x = y
      · rw [decide_eq_true q, decide_eq_true (by omega)]
      · rw [decide_eq_false q, decide_eq_false (by omega)]
    rw [e, ih, e2]
    by_cases q : x = y
    · subst q
      by_cases q2 : a = b
      · subst q2; simp
      · simp [q2]
    · simp [q]
theorem eqD_lot (a b : List Nat) : eqD (encM a) (encM b) = decide (a = b) := by
  rw [← eqD_ints a b]
  show PyData.eqv (.tuple (toPs (L a))) (.tuple (toPs (L b))) = _
  simp [PyData.eqv]
theorem eqD_lots : ∀ a b : List (List Nat), PyData.eqvAll (toPs (a.map encM)) (toPs (b.map encM)) = decide (a = b)
  | [], [] => by simp [toPs, PyData.eqvAll]
  | [], _ :: _ => by simp [toPs, PyData.eqvAll]
  | _ :: _, [] => by simp [toPs, PyData.eqvAll]
  | x :: a, y :: b => by
    have ih := eqD_lots a b
    have e : PyData.eqvAll (toPs ((x :: a).map encM)) (toPs ((y :: b).map encM)) = (PyData.eqv (toP (encM x)) (toP (encM y)) && PyData.eqvAll (toPs (a.map encM)) (toPs (b.map encM))) := by simp [toPs, PyData.eqvAll]
    have e2 : PyData.eqv (toP (encM x)) (toP (encM y)) = decide (x = y) := eqD_lot x y
    rw [e, ih, e2]
    by_cases q : x = y
    · subst q
      by_cases q2 : a = b
      · subst q2; simp
      · simp [q2]
    · simp [q]
theorem fine_lotsT {ls : List (List Nat)} (h : ∀ l ∈ ls, l.length ≤ lineN) (hz : ls.length ≤ lineN) : Fine 2 (.tup (ls.map encM)) := .tup (fun x hx => by
  obtain ⟨l, hl, rfl⟩ := List.mem_map.mp hx
  exact fine_tupL (h l hl)) (by rw [List.length_map]; exact small_line hz)
theorem eq_lots {a b : List (List Nat)} (ha : ∀ l ∈ a, l.length ≤ lineN) (hza : a.length ≤ lineN) (hb : ∀ l ∈ b, l.length ≤ lineN) (hzb : b.length ≤ lineN) : cmpM .Eq (.tup (a.map encM)) (.tup (b.map encM)) = .ret (.bl (decide (a = b))) := by
  have e : cmpM .Eq (.tup (a.map encM)) (.tup (b.map encM)) = if (okD (.tup (a.map encM)) && okD (.tup (b.map encM))) = true then .ret (.bl (eqD (.tup (a.map encM)) (.tup (b.map encM)))) else .stuck := rfl
  have hb2 : (okD (.tup (a.map encM)) && okD (.tup (b.map encM))) = true := by
    rw [okD_fine (fine_lotsT ha hza) (by omega), okD_fine (fine_lotsT hb hzb) (by omega)]
    rfl
  rw [e, if_pos hb2, ← eqD_lots a b]
  congr 2
theorem in_lots {l : List Nat} {b : List (List Nat)} (hl : l.length ≤ lineN) (hb : ∀ l ∈ b, l.length ≤ lineN) (hzb : b.length ≤ lineN) : cmpM .In (encM l) (.tup (b.map encM)) = .ret (.bl (decide (l ∈ b))) := by
  have e : cmpM .In (encM l) (.tup (b.map encM)) = if (okD (encM l) && okD (.tup (b.map encM))) = true then .ret (.bl ((b.map encM).any fun z => eqD z (encM l))) else .stuck := rfl
  have hb2 : (okD (encM l) && okD (.tup (b.map encM))) = true := by
    have h1 : okD (encM l) = true := okD_fine (fine_tupL hl) (by omega)
    rw [h1, okD_fine (fine_lotsT hb hzb) (by omega)]
    rfl
  rw [e, if_pos hb2]
  congr 2
  rw [Bool.eq_iff_iff, List.any_eq_true, decide_eq_true_eq]
  constructor
  · rintro ⟨x, hx, h⟩
    obtain ⟨m, hm, rfl⟩ := List.mem_map.mp hx
    rw [eqD_lot, decide_eq_true_eq] at h
    rw [← h]
    exact hm
  · intro h
    exact ⟨encM l, List.mem_map.mpr ⟨l, h, rfl⟩, by rw [eqD_lot]; simp⟩
/-! ### the rule that bars tell -/
theorem apart_lets (bs : List (List Nat)) (l : List Nat) : letsAll (bs.map Part.apart) l = !(bs.any fun o => within' o l) := by
  unfold letsAll
  rw [List.all_map]
  induction bs with
  | nil => rfl
  | cons b bs ih =>
    rw [List.all_cons, List.any_cons, ih, Bool.not_or]
    rfl
/-- p lets less of more -/
def Mono (n : Nat) (p : List Nat → Bool) : Prop := ∀ o ∈ lotsN n, ∀ l ∈ lotsN n, within' o l = true → p l = true → p o = true
theorem mono_lets {n : Nat} (h : n ≤ 8) (ps : List Part) : Mono n (letsAll ps) := fun o ho l hl hw hp => lets_mono h ho hl hw hp
theorem bars_let {n : Nat} {p : List Nat → Bool} (hm : Mono n p) {l : List Nat} (hl : l ∈ lotsN n) : letsAll ((barsP n p).map Part.apart) l = p l := by
  rw [apart_lets, bars_any hl fun o ho hw hp => hm o ho l hl hw hp, Bool.not_not]
theorem bars_eq {n : Nat} {p q : List Nat → Bool} (hp : Mono n p) (hq : Mono n q) : barsP n p = barsP n q ↔ ∀ l ∈ lotsN n, p l = q l :=
  ⟨fun h l hl => by rw [← bars_let hp hl, ← bars_let hq hl, h], bars_congr⟩
theorem first_none {n : Nat} {p q : List Nat → Bool} : firstP n p q = none ↔ ∀ l ∈ lotsN n, p l = q l := by
  unfold firstP
  rw [List.find?_eq_none]
  exact ⟨fun h l hl => by simpa using h l hl, fun h l hl => by simpa using h l hl⟩
theorem first_comm (n : Nat) (p q : List Nat → Bool) : firstP n p q = firstP n q p := by
  unfold firstP
  congr 1
  funext l
  cases p l <;> cases q l <;> rfl
theorem first_some {n : Nat} {p q : List Nat → Bool} {l : List Nat} (h : firstP n p q = some l) : l ∈ lotsN n ∧ p l ≠ q l := by
  refine ⟨List.mem_of_find?_eq_some h, ?_⟩
  have := List.find?_some h
  simpa using this
theorem lots_sizes {n : Nat} (h : n ≤ 8) : (lotsN n).Pairwise fun a b => a.length ≤ b.length := le8 (P := fun n => (lotsN n).Pairwise fun a b => a.length ≤ b.length) (by decide +kernel) (by decide +kernel) (by decide +kernel) (by decide +kernel) (by decide +kernel) (by decide +kernel) (by decide +kernel) (by decide +kernel) (by decide +kernel) h
/-- the first lot that just one lets is a bar of the other -/
theorem first_bar {n : Nat} (h : n ≤ 8) {p q : List Nat → Bool} (hp : Mono n p) (hq : Mono n q) {l : List Nat} (hf : firstP n p q = some l) : l ∈ barsP n p ∨ l ∈ barsP n q := by
  have key : ∀ p q : List Nat → Bool, Mono n q → firstP n p q = some l → p l = false → q l = true → l ∈ barsP n p := fun p q hq hf h1 h2 => by
    obtain ⟨hl, _⟩ := first_some hf
    obtain ⟨o, ho, hw⟩ := bars_hit hl h1
    obtain ⟨hom, hop⟩ := bars_mem ho
    have hqo := hq o hom l hl hw h2
    obtain ⟨_, as, bs, e, hbef⟩ := List.find?_eq_some_iff_append.mp hf
    have hs := lots_sizes h
    rw [e] at hom hs
    rcases List.mem_append.mp hom with hm | hm
    · have := hbef o hm
      rw [hop, hqo] at this
      simp at this
    · have hle : l.length ≤ o.length := by
        rcases List.mem_cons.mp hm with rfl | hm
        · exact Nat.le_refl _
        · exact (List.pairwise_cons.mp (List.pairwise_append.mp hs).2.1).1 o hm
      have ho' := bars_mem ho
      have hsub := sub_of_within (lots_in h o ho'.1).2 (lots_in h l hl).2 hw
      have := hsub.eq_of_length_le hle
      rw [← this]
      exact ho
  obtain ⟨hl, hne⟩ := first_some hf
  cases e1 : p l with
  | false =>
    cases e2 : q l with
    | false => rw [e1, e2] at hne; exact absurd rfl hne
    | true => exact .inl (key p q hq hf e1 e2)
  | true =>
    cases e2 : q l with
    | true => rw [e1, e2] at hne; exact absurd rfl hne
    | false => exact .inr (key q p hp (by rw [first_comm]; exact hf) e2 e1)
theorem pair_encO {o : Option (List Nat)} (h : ∀ l, o = some l → l.length ≤ 8) : Pair (.tup [encO o, encO o]) := by
  cases o with
  | none => exact pair_n
  | some l => exact pair_lot (by have := h l rfl; omega)

end K03

set_option maxHeartbeats 2000000
/-! rules by which simp steps through mirrors: only what is ahead is looked at. -/
namespace MS
open PySem PySem.Spec PyProof.Rows L2
@[simp] theorem consM_r (d : D) (ds : List D) : consM (.ret d) (.ret ds) = .ret (d :: ds) := rfl
@[simp] theorem asStr_r (x : Str) : asStr (.str x) = .ret x := rfl
@[simp] theorem asInt_r (i : Int) : asInt (.int i) = .ret i := rfl
@[simp] theorem asBool_r (b : Bool) : asBool (.bl b) = .ret b := rfl
@[simp] theorem asBl_r (b : Bool) : asBl (.bl b) = .ret (.bl b) := rfl
@[simp] theorem seq_l (l : List D) : seqM (.lst l) = .ret l := rfl
@[simp] theorem seq_t (l : List D) : seqM (.tup l) = .ret l := rfl
@[simp] theorem tuple_l (l : List D) : tupleM [.lst l] = .ret (.tup l) := rfl
@[simp] theorem tuple_t (l : List D) : tupleM [.tup l] = .ret (.tup l) := rfl
@[simp] theorem list_l (l : List D) : listM [.lst l] = .ret l := rfl
@[simp] theorem list_t (l : List D) : listM [.tup l] = .ret l := rfl
@[simp] theorem len_l (l : List D) : lenM [.lst l] = .ret (.int (l.length : Nat)) := rfl
@[simp] theorem len_t (l : List D) : lenM [.tup l] = .ret (.int (l.length : Nat)) := rfl
@[simp] theorem tup_0 : tupM [] = .ret (.tup []) := tup0
@[simp] theorem tup_1 (a : D) : tupM [a] = .ret (.tup [a]) := tup1 a
@[simp] theorem tup_2 (a b : D) : tupM [a, b] = .ret (.tup [a, b]) := tup2 a b
@[simp] theorem tup_3 (a b c : D) : tupM [a, b, c] = .ret (.tup [a, b, c]) := tup3 a b c
@[simp] theorem tup_4 (a b c d : D) : tupM [a, b, c, d] = .ret (.tup [a, b, c, d]) := tup4 a b c d
@[simp] theorem lst_0 : lstM [] = .ret [] := lst0
@[simp] theorem lst_1 (a : D) : lstM [a] = .ret [a] := lst1 a
@[simp] theorem lst_2 (a b : D) : lstM [a, b] = .ret [a, b] := lst2 a b
@[simp] theorem lst_3 (a b c : D) : lstM [a, b, c] = .ret [a, b, c] := lst3 a b c
@[simp] theorem lst_4 (a b c d : D) : lstM [a, b, c, d] = .ret [a, b, c, d] := lst4 a b c d
@[simp] theorem lst_5 (a b c d e : D) : lstM [a, b, c, d, e] = .ret [a, b, c, d, e] := lst5 a b c d e
@[simp] theorem rev_t (l : List D) : revT (.tup l) = .ret (.tup l.reverse) := rfl
@[simp] theorem rev_l (l : List D) : revL (.lst l) = .ret l.reverse := rfl
@[simp] theorem add_i (i j : Int) : addD (.int i) (.int j) = .ret (.int (i + j)) := rfl
@[simp] theorem sub_i (i j : Int) : subD (.int i) (.int j) = .ret (.int (i - j)) := rfl
@[simp] theorem lt_i (i j : Int) : cmpM .Lt (.int i) (.int j) = .ret (.bl (decide (i < j))) := rfl
@[simp] theorem le_i (i j : Int) : cmpM .LtE (.int i) (.int j) = .ret (.bl (decide (i ≤ j))) := rfl
@[simp] theorem gt_i (i j : Int) : cmpM .Gt (.int i) (.int j) = .ret (.bl (decide (j < i))) := rfl
@[simp] theorem ge_i (i j : Int) : cmpM .GtE (.int i) (.int j) = .ret (.bl (decide (j ≤ i))) := rfl
theorem okD_i (i : Int) : okD (.int i) = true := okD_fine (Fine.int (n := 0) i) (by omega)
@[simp] theorem eq_i (i j : Int) : cmpM .Eq (.int i) (.int j) = .ret (.bl (decide (i = j))) := by
  show eqM _ _ = _
  unfold eqM
  rw [okD_i, okD_i, eqD_int]
  rfl
@[simp] theorem ne_i (i j : Int) : cmpM .NotEq (.int i) (.int j) = .ret (.bl (!decide (i = j))) := by
  show neM _ _ = _
  unfold neM
  rw [okD_i, okD_i, eqD_int]
  rfl
@[simp] theorem ix_0 (a : D) (l : List D) : ixM (.tup (a :: l)) (.int 0) = .ret a := by
  show (match L2.atI (a :: l) 0 with
    | some d => T.ret d
    | none => .stuck) = _
  have e : L2.atI (a :: l) 0 = some a := by
    unfold L2.atI ixN
    rw [if_pos (by omega), if_pos (by rw [List.length_cons]; omega)]
    rfl
  rw [e]
@[simp] theorem ix_1 (a b : D) (l : List D) : ixM (.tup (a :: b :: l)) (.int 1) = .ret b := by
  show (match L2.atI (a :: b :: l) 1 with
    | some d => T.ret d
    | none => .stuck) = _
  have e : L2.atI (a :: b :: l) 1 = some b := by
    unfold L2.atI ixN
    rw [if_pos (by omega), if_pos (by rw [List.length_cons, List.length_cons]; omega)]
    rfl
  rw [e]
@[simp] theorem ix_2 (a b c : D) (l : List D) : ixM (.tup (a :: b :: c :: l)) (.int 2) = .ret c := by
  show (match L2.atI (a :: b :: c :: l) 2 with
    | some d => T.ret d
    | none => .stuck) = _
  have e : L2.atI (a :: b :: c :: l) 2 = some c := by
    unfold L2.atI ixN
    rw [if_pos (by omega), if_pos (by rw [List.length_cons, List.length_cons, List.length_cons]; omega)]
    rfl
  rw [e]
theorem okD_s {x : Str} (h : PyData.strOk x = true) : okD (.str x) = true := okD_fine (Fine.str (n := 0) x h) (by omega)
theorem eqD_s (x y : Str) : eqD (.str x) (.str y) = decide (x = y) := by
  show (x == y) = _
  rw [Bool.eq_iff_iff]
  simp
theorem eq_s {x y : Str} (hx : PyData.strOk x = true) (hy : PyData.strOk y = true) : cmpM .Eq (.str x) (.str y) = .ret (.bl (decide (x = y))) := by
  show eqM _ _ = _
  unfold eqM
  rw [okD_s hx, okD_s hy, eqD_s]
  rfl
theorem ne_s {x y : Str} (hx : PyData.strOk x = true) (hy : PyData.strOk y = true) : cmpM .NotEq (.str x) (.str y) = .ret (.bl (!decide (x = y))) := by
  show neM _ _ = _
  unfold neM
  rw [okD_s hx, okD_s hy, eqD_s]
  rfl
theorem add_t {a b : List D} (h : a.length + b.length ≤ 1000000) : addD (.tup a) (.tup b) = .ret (.tup (a ++ b)) := if_pos (by have := sizeLine_val; omega)
theorem add_l {a b : List D} (h : a.length + b.length ≤ 1000000) : addD (.lst a) (.lst b) = .ret (.lst (a ++ b)) := if_pos (by have := sizeLine_val; omega)
theorem add_s {a b : Str} (h : a.length + b.length ≤ 1000000) : addD (.str a) (.str b) = .ret (.str (a ++ b)) := if_pos (by have := sizeLine_val; omega)
theorem cat_l {a b : List D} (h : a.length + b.length ≤ 1000000) : catM (.lst a) (.lst b) = .ret (a ++ b) := if_pos (by have := sizeLine_val; omega)
theorem join_l {a : Str} {ys : List Str} (h : (ys.map (·.length)).sum + ys.length * a.length ≤ 1000000) : joinM a (.lst (ys.map D.str)) = .ret (.str (Str.join a ys)) := by
  show joinS a _ = _
  unfold joinS
  rw [strsOf_map]
  exact if_pos (by omega)
theorem join_t {a : Str} {ys : List Str} (h : (ys.map (·.length)).sum + ys.length * a.length ≤ 1000000) : joinM a (.tup (ys.map D.str)) = .ret (.str (Str.join a ys)) := by
  show joinS a _ = _
  unfold joinS
  rw [strsOf_map]
  exact if_pos (by omega)
end MS

set_option maxHeartbeats 4000000
/-! k03: texts. -/
namespace K03
open PySem PySem.Spec PyProof.Rows L2 MS
theorem hdv : ∀ ns : List Int, ns.length ≤ 63 → ∃ d, m_lawd ns = .ret d ∧ dealVal d := fun ns hl => deal_ok 4003 (by decide) (by decide) ns hl
/-! ### texts -/
theorem app_assoc (a b c : Str) : a ++ b ++ c = a ++ (b ++ c) := by
  show Str.mk _ = Str.mk _
  congr 1
  exact Array.append_assoc
theorem app_empty (a : Str) : a ++ Str.empty = a := by
  show Str.mk _ = _
  simp [Str.empty]
theorem empty_app (a : Str) : Str.empty ++ a = a := by
  show Str.mk _ = _
  simp [Str.empty]
theorem len_app (a b : Str) : (a ++ b).length = a.length + b.length := Array.size_append
theorem list_app (a b : Str) : (a ++ b).cps.toList = a.cps.toList ++ b.cps.toList := Array.toList_append
/-- two of a row joined ahead -/
theorem join_two (z a b : Str) (r : List Str) : Str.join z ((a ++ z ++ b) :: r) = Str.join z (a :: b :: r) := by
  cases r with
  | nil => rfl
  | cons c r =>
    show (a ++ z ++ b) ++ z ++ Str.join z (c :: r) = a ++ z ++ (b ++ z ++ Str.join z (c :: r))
    rw [app_assoc (a ++ z ++ b), app_assoc (a ++ z) b, app_assoc b z]
theorem join_app (z : Str) {b : List Str} (hb : b ≠ []) : ∀ {a : List Str}, a ≠ [] → Str.join z (a ++ b) = Str.join z a ++ z ++ Str.join z b
  | [], h => absurd rfl h
  | [x], _ => by
    cases b with
    | nil => exact absurd rfl hb
    | cons y b => rfl
  | x :: y :: a, _ => by
    have ih := join_app z hb (a := y :: a) (by simp)
    show x ++ z ++ Str.join z (y :: a ++ b) = x ++ z ++ Str.join z (y :: a) ++ z ++ Str.join z b
    rw [ih, app_assoc (x ++ z), app_assoc (x ++ z)]
theorem join_len (z : Str) {k : Nat} : ∀ {a : List Str}, (∀ x ∈ a, x.length ≤ k) → (Str.join z a).length ≤ (k + z.length) * a.length
  | [], _ => Nat.zero_le _
  | [x], h => by
    have := h x (List.mem_cons_self ..)
    show x.length ≤ _
    rw [List.length_singleton, Nat.mul_one]
    omega
  | x :: y :: a, h => by
    have ih := join_len z (a := y :: a) fun w hw => h w (List.mem_cons_of_mem _ hw)
    have := h x (List.mem_cons_self ..)
    show (x ++ z ++ Str.join z (y :: a)).length ≤ _
    rw [len_app, len_app, List.length_cons, Nat.mul_succ]
    omega
theorem sum_len {k : Nat} : ∀ {a : List Str}, (∀ x ∈ a, x.length ≤ k) → (a.map (·.length)).sum ≤ k * a.length
  | [], _ => Nat.zero_le _
  | x :: a, h => by
    have ih := sum_len fun w hw => h w (List.mem_cons_of_mem _ hw)
    have := h x (List.mem_cons_self ..)
    rw [List.map_cons, List.sum_cons, List.length_cons, Nat.mul_succ]
    omega
/-- signs below 128 -/
def Asc (x : Str) : Prop := ∀ c ∈ x.cps.toList, c < 128
theorem Asc.ok {x : Str} (h : Asc x) : PyData.strOk x = true := by
  unfold PyData.strOk
  rw [Array.all_eq_true]
  intro i hi
  have := h x.cps[i] (by simp)
  simp
  omega
theorem Asc.app {x y : Str} (hx : Asc x) (hy : Asc y) : Asc (x ++ y) := fun c hc => by
  rw [list_app] at hc
  rcases List.mem_append.mp hc with hc | hc
  · exact hx c hc
  · exact hy c hc
theorem Asc.join {z : Str} (hz : Asc z) : ∀ {a : List Str}, (∀ x ∈ a, Asc x) → Asc (Str.join z a)
  | [], _ => fun c hc => by cases hc
  | [x], h => h x (List.mem_cons_self ..)
  | x :: y :: a, h => ((h x (List.mem_cons_self ..)).app hz).app (Asc.join hz (a := y :: a) fun w hw => h w (List.mem_cons_of_mem _ hw))
def dg (n : Nat) : Str := toString (n : Int)
theorem dg_all : (List.range 200).all (fun n => decide ((dg n).length ≤ 3) && decide (0 < (dg n).length) && (dg n).cps.toList.all (fun c => decide (48 ≤ c) && decide (c < 58))) = true := by decide +kernel
theorem dg_facts {n : Nat} (hn : n < 200) : (dg n).length ≤ 3 ∧ 0 < (dg n).length ∧ ∀ c ∈ (dg n).cps.toList, 48 ≤ c ∧ c < 58 := by
  have := List.all_eq_true.mp dg_all n (List.mem_range.mpr hn)
  rw [Bool.and_eq_true, Bool.and_eq_true, decide_eq_true_eq, decide_eq_true_eq, List.all_eq_true] at this
  refine ⟨this.1.1, this.1.2, fun c hc => ?_⟩
  have := this.2 c hc
  rw [Bool.and_eq_true, decide_eq_true_eq, decide_eq_true_eq] at this
  exact this
theorem dg_asc {n : Nat} (hn : n < 200) : Asc (dg n) := fun c hc => by have := (dg_facts hn).2.2 c hc; omega
theorem str_int {n : Nat} (h : n < 200) : strM [.int (n : Nat)] = .ret (.str (dg n)) := by
  show (if (n : Int).natAbs.log2 < 1920 then T.ret (D.str (toString (n : Int))) else .stuck) = _
  have h2 : (n : Int).natAbs.log2 < 1920 := by
    have : (n : Int).natAbs.log2 < 64 := log_small (by omega)
    omega
  rw [if_pos h2]
  rfl
theorem fmt_int {n : Nat} (h : n < 200) : fmtM (.int (n : Nat)) = .ret (.str (dg n)) := str_int h
theorem fmt_str {x : Str} (h : x.length ≤ 1000000) : fmtM (.str x) = .ret (.str x) := if_pos (by have := sizeLine_val; omega)
/-- a part of an f-text -/
theorem fstep {m : T D} {acc y : Str} {k : Str → T D} (hm : m = .ret (.str y)) (h : (acc ++ y).length ≤ 1000000) : (T.bind m fun x => T.bind (asStr x) fun y => if Str.length (acc ++ y) ≤ sizeLine then k y else .stuck) = k y := by
  rw [hm]
  exact if_pos (by have := sizeLine_val; omega)
theorem jn {a : Str} {m : T D} {X r : D} (hm : m = .ret X) (h : joinM a X = .ret r) : (T.bind (.ret (.str a)) fun x => T.bind (asStr x) fun a => T.bind m fun y => joinM a y) = .ret r := by
  rw [hm]
  exact h
/-! ### the lines of parts -/
/-- names as told -/
structure Nms (nm : List Str) : Prop where
  len : ∀ z ∈ nm, z.length ≤ 8
  asc : ∀ z ∈ nm, Asc z
  few : nm.length ≤ 8
abbrev nmD (nm : List Str) : D := .tup (nm.map D.str)
def getN (nm : List Str) (i : Nat) : Str := nm.getD i Str.empty
theorem getN_len {nm : List Str} (h : Nms nm) (i : Nat) : (getN nm i).length ≤ 8 := by
  unfold getN
  rw [List.getD_eq_getElem?_getD]
  cases e : nm[i]? with
  | none => exact Nat.zero_le _
  | some z => exact h.len z (List.mem_of_getElem? e)
theorem getN_asc {nm : List Str} (h : Nms nm) (i : Nat) : Asc (getN nm i) := by
  unfold getN
  rw [List.getD_eq_getElem?_getD]
  cases e : nm[i]? with
  | none => exact fun c hc => by cases hc
  | some z => exact h.asc z (List.mem_of_getElem? e)
theorem ix_nm {nm : List Str} {i : Nat} (h : i < nm.length) : ixM (nmD nm) (.int (i : Nat)) = .ret (.str (getN nm i)) := by
  show (match L2.atI (nm.map D.str) (i : Nat) with
    | some d => T.ret d
    | none => .stuck) = _
  have e : L2.atI (nm.map D.str) (i : Nat) = some (.str (getN nm i)) := by
    unfold L2.atI ixN
    rw [if_pos (by omega), List.length_map, if_pos (by omega)]
    show (nm.map D.str)[((i : Nat) : Int).toNat]? = _
    rw [Int.toNat_natCast, List.getElem?_map, List.getElem?_eq_getElem h]
    show some (D.str nm[i]) = _
    unfold getN
    rw [List.getD_eq_getElem?_getD, List.getElem?_eq_getElem h]
    rfl
  rw [e]
theorem compN_fm {α : Type} {B : D → T (Option D)} (enc : α → D) (g : α → Option D) {ls : List α} (hz : ls.length ≤ sizeLine) (h : ∀ a ∈ ls, B (enc a) = .ret (g a)) : compN B (ls.map enc) = .ret (ls.filterMap g) := by
  have key : ∀ l : List α, (∀ a ∈ l, a ∈ ls) → compM (fun d => (B d).noX) (l.map enc) = .ret (l.filterMap g) := by
    intro l
    induction l with
    | nil => intro _; rfl
    | cons a l ih =>
      intro hl
      show (B (enc a)).noX.bind _ = _
      rw [h a (hl a (List.mem_cons_self ..))]
      show (compM (fun d => (B d).noX) (l.map enc)).bind _ = _
      rw [ih fun x hx => hl x (List.mem_cons_of_mem _ hx)]
      show T.ret _ = _
      congr 1
      cases e : g a with
      | none => rw [List.filterMap_cons_none e]; rfl
      | some y => rw [List.filterMap_cons_some e]; rfl
  unfold compN
  rw [if_pos (by rw [List.length_map]; exact hz)]
  exact key ls fun _ h => h
def loadsT (nm : List Str) (ws : List Nat) : List Str := (List.range nm.length).filterMap fun i => if 0 < ws.getD i 0 then some (getN nm i ++ " " ++ dg (ws.getD i 0)) else none
def headT (b : Nat) : Str := (((("room" : Str) ++ " ") ++ dg b) ++ " ") ++ ":"
def rowT (nm : List Str) : Part → Str
  | .apart l => Str.join " " ("apart" :: l.map (getN nm))
  | .most n l => Str.join " " ("most" :: dg n :: ":" :: l.map (getN nm))
  | .room ws b => if loadsT nm ws = [] then headT b else headT b ++ " " ++ Str.join ", " (loadsT nm ws)
theorem named {nm : List Str} {l : List Nat} {W Lo : D} (hl : l.length ≤ 1000) (h : ∀ x ∈ l, x < nm.length) : m_named_things [web (nmD nm) W Lo, .tup (L l)] = .ret (.tup ((l.map (getN nm)).map D.str)) := by
  refine bind_ret' (a := [D.lst ((l.map (getN nm)).map D.str)]) (consM_eq ?_ rfl) rfl
  refine bind_ret' (a := (l.map (getN nm)).map D.str) ?_ rfl
  refine bind_ret' (a := L l) rfl ?_
  rw [List.map_map]
  exact compN_enc (fun n : Nat => D.int (n : Nat)) _ (by have := sizeLine_val; omega) fun n hn => cE_ret (bind_ret' (a := nmD nm) rfl (ix_nm (h n hn)))
theorem map_sum {nm : List Str} (hn : Nms nm) (l : List Nat) : ∀ x ∈ l.map (getN nm), x.length ≤ 8 := fun x hx => by
  obtain ⟨i, _, rfl⟩ := List.mem_map.mp hx
  exact getN_len hn i
theorem apart_line {nm : List Str} {l : List Nat} {W Lo : D} (hn : Nms nm) (hl : l.length ≤ 20) (h : ∀ x ∈ l, x < nm.length) : m_apart_line [web (nmD nm) W Lo, (Part.apart l).enc] = .ret (.str (rowT nm (.apart l))) := by
  refine jn (X := D.tup ((("apart" : Str) :: l.map (getN nm)).map D.str)) ?_ ?_
  · refine bind_ret' (a := D.tup [.str "apart"]) (Tup1 rfl) ?_
    refine bind_ret' (a := D.tup ((l.map (getN nm)).map D.str)) ?_ ?_
    · exact bind_ret' (a := [web (nmD nm) W Lo, .tup (L l)]) rfl (named (by omega) h)
    · exact add_t (by simp; omega)
  · have h1 := sum_len (map_sum hn l)
    have h2 : (("apart" : Str)).length = 5 := by decide +kernel
    have h3 : ((" " : Str)).length = 1 := by decide +kernel
    refine join_t ?_
    simp only [List.map_cons, List.sum_cons, List.length_cons, List.length_map] at h1 ⊢
    rw [h2, h3]
    omega
theorem most_line {nm : List Str} {n : Nat} {l : List Nat} {W Lo : D} (hn : Nms nm) (hf : n < 200) (hl : l.length ≤ 20) (h : ∀ x ∈ l, x < nm.length) : m_most_line [web (nmD nm) W Lo, (Part.most n l).enc] = .ret (.str (rowT nm (.most n l))) := by
  refine jn (X := D.tup ((("most" : Str) :: dg n :: ":" :: l.map (getN nm)).map D.str)) ?_ ?_
  · refine bind_ret' (a := D.tup [.str "most", .str (dg n), .str ":"]) (Tup3 rfl ?_ rfl) ?_
    · exact bind_ret' (a := [D.int (n : Nat)]) rfl (str_int hf)
    refine bind_ret' (a := D.tup ((l.map (getN nm)).map D.str)) ?_ ?_
    · exact bind_ret' (a := [web (nmD nm) W Lo, .tup (L l)]) rfl (named (by omega) h)
    · exact add_t (by simp; omega)
  · have h1 := sum_len (map_sum hn l)
    have h2 : (("most" : Str)).length = 4 := by decide +kernel
    have h3 : ((" " : Str)).length = 1 := by decide +kernel
    have h4 : ((":" : Str)).length = 1 := by decide +kernel
    have h5 := (dg_facts hf).1
    refine join_t ?_
    simp only [List.map_cons, List.sum_cons, List.length_cons, List.length_map] at h1 ⊢
    rw [h2, h3, h4]
    omega
theorem zipD_map {nm : List Str} {ws : List Nat} (h : ws.length = nm.length) : zipD (nm.map D.str) (L ws) = (List.range nm.length).map fun i => D.tup [.str (getN nm i), .int ((ws.getD i 0 : Nat) : Int)] := by
  unfold zipD
  refine List.ext_getElem (by simp [h]) fun i h1 h2 => ?_
  simp only [List.length_map, List.length_range] at h2
  rw [List.getElem_zipWith, List.getElem_map, List.getElem_map, List.getElem_map, List.getElem_range]
  congr 3
  · unfold getN
    rw [List.getD_eq_getElem?_getD, List.getElem?_eq_getElem h2]
    rfl
  · rw [List.getD_eq_getElem?_getD, List.getElem?_eq_getElem (by omega)]
    rfl
theorem getD_lt {ws : List Nat} {b : Nat} (hb : 0 < b) (h : ∀ x ∈ ws, x < b) (i : Nat) : ws.getD i 0 < b := by
  rw [List.getD_eq_getElem?_getD]
  cases e : ws[i]? with
  | none => exact hb
  | some z => exact h z (List.mem_of_getElem? e)
theorem sp_len : ((" " : Str)).length = 1 := by decide +kernel
theorem sp_asc : Asc " " := by
  show ∀ c ∈ ((" " : Str)).cps.toList, c < 128
  decide +kernel
theorem loads_mem {nm : List Str} {ws : List Nat} {x : Str} (h : x ∈ loadsT nm ws) : ∃ i, i < nm.length ∧ 0 < ws.getD i 0 ∧ x = getN nm i ++ " " ++ dg (ws.getD i 0) := by
  unfold loadsT at h
  obtain ⟨i, hi, e⟩ := List.mem_filterMap.mp h
  by_cases q : 0 < ws.getD i 0
  · rw [if_pos q] at e
    cases e
    exact ⟨i, List.mem_range.mp hi, q, rfl⟩
  · rw [if_neg q] at e
    cases e
theorem load_len {nm : List Str} (hn : Nms nm) {ws : List Nat} (hw : ∀ x ∈ ws, x < 200) (i : Nat) : (getN nm i ++ " " ++ dg (ws.getD i 0)).length ≤ 12 := by
  have h1 := getN_len hn i
  have h2 := (dg_facts (getD_lt (by omega) hw i)).1
  have h3 := sp_len
  rw [len_app, len_app]
  omega
theorem loads_len {nm : List Str} (hn : Nms nm) {ws : List Nat} (hw : ∀ x ∈ ws, x < 200) : ∀ x ∈ loadsT nm ws, x.length ≤ 12 := fun x hx => by
  obtain ⟨i, _, _, rfl⟩ := loads_mem hx
  exact load_len hn hw i
theorem load_asc {nm : List Str} (hn : Nms nm) {ws : List Nat} (hw : ∀ x ∈ ws, x < 200) : ∀ x ∈ loadsT nm ws, Asc x := fun x hx => by
  obtain ⟨i, _, _, rfl⟩ := loads_mem hx
  exact ((getN_asc hn i).app sp_asc).app (dg_asc (getD_lt (by omega) hw i))
theorem loads_few (nm : List Str) (ws : List Nat) : (loadsT nm ws).length ≤ nm.length := by
  unfold loadsT
  refine Nat.le_trans (List.length_filterMap_le _ _) ?_
  rw [List.length_range]
  exact Nat.le_refl _
theorem filterMap_str {α : Type} (f : α → Option Str) : ∀ l : List α, (l.filterMap fun a => (f a).map D.str) = (l.filterMap f).map D.str
  | [] => rfl
  | a :: l => by
    have ih := filterMap_str f l
    cases e : f a with
    | none => rw [List.filterMap_cons_none (by rw [e]; rfl), List.filterMap_cons_none e, ih]
    | some y => rw [List.filterMap_cons_some (by rw [e]; rfl), List.filterMap_cons_some e, List.map_cons, ih]
theorem loads_D (nm : List Str) (ws : List Nat) : ((List.range nm.length).filterMap fun i => if 0 < ws.getD i 0 then some (D.str (getN nm i ++ " " ++ dg (ws.getD i 0))) else none) = (loadsT nm ws).map D.str := by
  unfold loadsT
  rw [← filterMap_str]
  congr 1
  funext i
  by_cases q : 0 < ws.getD i 0
  · rw [if_pos q, if_pos q]; rfl
  · rw [if_neg q, if_neg q]; rfl
theorem head_len {b : Nat} (h : b < 200) : (headT b).length ≤ 10 := by
  have h1 := (dg_facts h).1
  have h2 := sp_len
  have h3 : ((":" : Str)).length = 1 := by decide +kernel
  have h4 : (("room" : Str)).length = 4 := by decide +kernel
  unfold headT
  rw [len_app, len_app, len_app, len_app]
  omega
theorem room_asc : Asc "room" := by
  show ∀ c ∈ (("room" : Str)).cps.toList, c < 128
  decide +kernel
theorem colon_asc : Asc ":" := by
  show ∀ c ∈ ((":" : Str)).cps.toList, c < 128
  decide +kernel
theorem comma_asc : Asc ", " := by
  show ∀ c ∈ ((", " : Str)).cps.toList, c < 128
  decide +kernel
theorem head_asc {b : Nat} (h : b < 200) : Asc (headT b) := (((room_asc.app sp_asc).app (dg_asc h)).app sp_asc).app colon_asc
theorem fine_strs {ys : List Str} (h : ∀ x ∈ ys, Asc x) (hl : ys.length ≤ 1000) : Fine 1 (.lst (ys.map D.str)) := .lst (fun x hx => by
  obtain ⟨y, hy, rfl⟩ := List.mem_map.mp hx
  exact .str y (h y hy).ok) (by rw [List.length_map]; have := sizeLine_val; omega)
theorem room_line {nm : List Str} {ws : List Nat} {b : Nat} {W Lo : D} (hn : Nms nm) (hl : ws.length = nm.length) (hw : ∀ x ∈ ws, x < 200) (hb : b < 200) : m_room_line [web (nmD nm) W Lo, (Part.room ws b).enc] = .ret (.str (rowT nm (.room ws b))) := by
  have sz := sizeLine_val
  have hf := hn.few
  have h1 := sp_len
  have h2 := (dg_facts hb).1
  have h3 : ((":" : Str)).length = 1 := by decide +kernel
  have h4 : (("room" : Str)).length = 4 := by decide +kernel
  have h5 := head_len hb
  have h6 := join_len ", " (loads_len hn hw)
  have h7 := loads_few nm ws
  have h8 : ((", " : Str)).length = 2 := by decide +kernel
  refine bind_ret' (a := (loadsT nm ws).map D.str) ?_ ?_
  · refine bind_ret' (a := (List.range nm.length).map fun i => D.tup [.str (getN nm i), .int ((ws.getD i 0 : Nat) : Int)]) ?_ ?_
    · refine bind_ret' (a := [nmD nm, .tup (L ws)]) rfl ?_
      rw [← zipD_map hl]
      rfl
    · rw [← loads_D]
      refine compN_fm _ _ (by rw [List.length_range]; omega) fun i hi => ?_
      have hg := getN_len hn i
      have hd := (dg_facts (getD_lt (b := 200) (by omega) hw i)).1
      have hll := load_len hn hw i
      have hgs : ((getN nm i) ++ " ").length ≤ 9 := by rw [len_app]; omega
      by_cases q : 0 < ws.getD i 0
      · refine (cI_ret (b := true) (y := .str (getN nm i ++ " " ++ dg (ws.getD i 0))) ?_ fun _ => ?_).trans ?_
        · show T.ret (decide ((0 : Int) < ((ws.getD i 0 : Nat) : Int))) = _
          rw [decide_eq_true (by omega)]
        · refine bind_ret' (a := .str (getN nm i ++ " " ++ dg (ws.getD i 0))) ?_ rfl
          refine (fstep (y := getN nm i) (acc := Str.empty) (bind_ret' rfl (fmt_str (by omega))) (by rw [empty_app]; omega)).trans ?_
          refine (fstep (y := " ") rfl (by rw [empty_app]; omega)).trans ?_
          refine (fstep (y := dg (ws.getD i 0)) (bind_ret' rfl (fmt_int (getD_lt (by omega) hw i))) (by rw [empty_app]; omega)).trans ?_
          rw [empty_app]
        · rw [if_pos q, if_pos rfl]
      · refine (cI_ret (b := false) (y := .non) ?_ fun h => nomatch h).trans ?_
        · show T.ret (decide ((0 : Int) < ((ws.getD i 0 : Nat) : Int))) = _
          rw [decide_eq_false (by omega)]
        · rw [if_neg q]
          rfl
  refine bind_ret' (a := .str (headT b)) ?_ ?_
  · refine bind_ret' (a := .str (headT b)) ?_ rfl
    refine (fstep (y := "room") (acc := Str.empty) (bind_ret' rfl (fmt_str (by omega))) (by rw [empty_app]; omega)).trans ?_
    refine (fstep (y := " ") rfl (by rw [empty_app, len_app]; omega)).trans ?_
    refine (fstep (y := dg b) (bind_ret' (a := D.int (b : Nat)) rfl (fmt_int hb)) (by rw [empty_app, len_app, len_app]; omega)).trans ?_
    refine (fstep (y := " ") rfl (by rw [empty_app, len_app, len_app, len_app]; omega)).trans ?_
    refine (fstep (y := ":") (bind_ret' rfl (fmt_str (by omega))) (by rw [empty_app, len_app, len_app, len_app, len_app]; omega)).trans ?_
    rw [empty_app]
    rfl
  refine bind_ret' (a := decide (loadsT nm ws = [])) ?_ ?_
  · refine bind_ret' (a := .lst ((loadsT nm ws).map D.str)) rfl ?_
    refine bind_ret' (a := .lst []) rfl ?_
    refine bind_ret' (eq_nil (fine_strs (load_asc hn hw) (by omega)) (by omega)) ?_
    show T.ret _ = _
    congr 1
    cases loadsT nm ws <;> rfl
  · show (bif decide (loadsT nm ws = []) then T.ret (D.str (headT b)) else _) = T.ret (D.str (if loadsT nm ws = [] then headT b else headT b ++ " " ++ Str.join ", " (loadsT nm ws)))
    by_cases q : loadsT nm ws = []
    · rw [decide_eq_true q, if_pos q]
      rfl
    · rw [decide_eq_false q, if_neg q]
      have hj : (12 + 2) * (loadsT nm ws).length ≤ 14 * 8 := Nat.mul_le_mul (Nat.le_refl _) (by omega)
      rw [h8] at h6
      refine bind_ret' (a := .str (headT b ++ " " ++ Str.join ", " (loadsT nm ws))) ?_ rfl
      refine (fstep (y := headT b) (acc := Str.empty) (bind_ret' rfl (fmt_str (by omega))) (by rw [empty_app]; omega)).trans ?_
      refine (fstep (y := " ") rfl (by rw [empty_app, len_app]; omega)).trans ?_
      refine (fstep (y := Str.join ", " (loadsT nm ws)) ?_ (by rw [empty_app, len_app, len_app]; omega)).trans ?_
      · refine bind_ret' (a := .str (Str.join ", " (loadsT nm ws))) ?_ (fmt_str (by omega))
        refine jn (X := .lst ((loadsT nm ws).map D.str)) rfl ?_
        have := sum_len (loads_len hn hw)
        exact join_l (by rw [h8]; omega)
      · rw [empty_app]
theorem part_line {nm : List Str} {p : Part} {W Lo : D} (hn : Nms nm) (hp : p.Ok nm.length) (hf : Part.Few p) : m_part_line [web (nmD nm) W Lo, p.enc] = .ret (.str (rowT nm p)) := by
  cases p with
  | apart l =>
    have e := apart_line (W := W) (Lo := Lo) hn hf hp.2.2
    show m_apart_line [web (nmD nm) W Lo, (Part.apart l).enc] = _
    exact e
  | most n l =>
    have e := most_line (W := W) (Lo := Lo) hn hf.1 hf.2 hp.2.2
    show m_most_line [web (nmD nm) W Lo, (Part.most n l).enc] = _
    exact e
  | room ws b =>
    have e := room_line (W := W) (Lo := Lo) hn hp hf.1 hf.2
    show m_room_line [web (nmD nm) W Lo, (Part.room ws b).enc] = _
    exact e
def textT (nm : List Str) (ps : List Part) : Str := Str.join "\n" (ps.map (rowT nm))
theorem row_facts {nm : List Str} (hn : Nms nm) {p : Part} (hf : Part.Few p) : (rowT nm p).length ≤ 300 ∧ Asc (rowT nm p) := by
  have h1 := sp_len
  have nums : ∀ (l : List Nat), ∀ x ∈ l.map (getN nm), x.length ≤ 8 ∧ Asc x := fun l x hx => by
    obtain ⟨i, _, rfl⟩ := List.mem_map.mp hx
    exact ⟨getN_len hn i, getN_asc hn i⟩
  cases p with
  | apart l =>
    have hl : l.length ≤ 20 := hf
    have h2 : (("apart" : Str)).length = 5 := by decide +kernel
    have h3 : Asc "apart" := by
      show ∀ c ∈ (("apart" : Str)).cps.toList, c < 128
      decide +kernel
    refine ⟨?_, ?_⟩
    · have := join_len " " (k := 8) (a := "apart" :: l.map (getN nm)) fun x hx => by
        rcases List.mem_cons.mp hx with rfl | hx
        · omega
        · exact (nums l x hx).1
      rw [List.length_cons, List.length_map, h1] at this
      show (Str.join " " ("apart" :: l.map (getN nm))).length ≤ 300
      omega
    · refine Asc.join sp_asc fun x hx => ?_
      rcases List.mem_cons.mp hx with rfl | hx
      · exact h3
      · exact (nums l x hx).2
  | most n l =>
    have hl : l.length ≤ 20 := hf.2
    have h2 : (("most" : Str)).length = 4 := by decide +kernel
    have h4 : ((":" : Str)).length = 1 := by decide +kernel
    have h5 := (dg_facts hf.1).1
    have h3 : Asc "most" := by
      show ∀ c ∈ (("most" : Str)).cps.toList, c < 128
      decide +kernel
    refine ⟨?_, ?_⟩
    · have := join_len " " (k := 8) (a := "most" :: dg n :: ":" :: l.map (getN nm)) fun x hx => by
        rcases List.mem_cons.mp hx with rfl | hx
        · omega
        rcases List.mem_cons.mp hx with rfl | hx
        · omega
        rcases List.mem_cons.mp hx with rfl | hx
        · omega
        · exact (nums l x hx).1
      rw [List.length_cons, List.length_cons, List.length_cons, List.length_map, h1] at this
      show (Str.join " " ("most" :: dg n :: ":" :: l.map (getN nm))).length ≤ 300
      omega
    · refine Asc.join sp_asc fun x hx => ?_
      rcases List.mem_cons.mp hx with rfl | hx
      · exact h3
      rcases List.mem_cons.mp hx with rfl | hx
      · exact dg_asc hf.1
      rcases List.mem_cons.mp hx with rfl | hx
      · exact colon_asc
      · exact (nums l x hx).2
  | room ws b =>
    have h5 := head_len hf.2
    have h6 := join_len ", " (loads_len hn hf.1)
    have h7 := loads_few nm ws
    have h8 : ((", " : Str)).length = 2 := by decide +kernel
    have h9 := hn.few
    rw [h8] at h6
    have hj : (12 + 2) * (loadsT nm ws).length ≤ 14 * 8 := Nat.mul_le_mul (Nat.le_refl _) (by omega)
    show (if loadsT nm ws = [] then headT b else headT b ++ " " ++ Str.join ", " (loadsT nm ws)).length ≤ 300 ∧ Asc (if loadsT nm ws = [] then headT b else headT b ++ " " ++ Str.join ", " (loadsT nm ws))
    by_cases q : loadsT nm ws = []
    · rw [if_pos q]
      exact ⟨by omega, head_asc hf.2⟩
    · rw [if_neg q]
      refine ⟨by rw [len_app, len_app]; omega, ((head_asc hf.2).app sp_asc).app (Asc.join comma_asc (load_asc hn hf.1))⟩
theorem nl_len : (("\n" : Str)).length = 1 := by decide +kernel
theorem nl_asc : Asc "\n" := by
  show ∀ c ∈ (("\n" : Str)).cps.toList, c < 128
  decide +kernel
theorem rows_len {nm : List Str} (hn : Nms nm) {ps : List Part} (hf : ∀ p ∈ ps, Part.Few p) : ∀ x ∈ ps.map (rowT nm), x.length ≤ 300 := fun x hx => by
  obtain ⟨p, hp, rfl⟩ := List.mem_map.mp hx
  exact (row_facts hn (hf p hp)).1
theorem rule_text {nm : List Str} {ps : List Part} {W Lo : D} (hn : Nms nm) (hp : Rok nm.length ps) (hf : ∀ p ∈ ps, Part.Few p) : m_rule_text [web (nmD nm) W Lo, rule ps] = .ret (.str (textT nm ps)) := by
  have hz := hp.len
  have hz' : ps.length ≤ 1000 := hz
  refine jn (X := .lst ((ps.map (rowT nm)).map D.str)) ?_ ?_
  · refine bind_ret' (a := (ps.map (rowT nm)).map D.str) ?_ rfl
    refine bind_ret' (a := ps.map Part.enc) rfl ?_
    rw [List.map_map]
    refine compN_enc Part.enc _ (small_line hz) fun p hm => cE_ret ?_
    exact bind_ret' (a := [web (nmD nm) W Lo, p.enc]) rfl (part_line hn (hp.ok p hm).1 (hf p hm))
  · have h1 := sum_len (rows_len hn hf)
    have h2 := nl_len
    refine join_l ?_
    rw [List.length_map, h2] at *
    omega
theorem text_asc {nm : List Str} (hn : Nms nm) {ps : List Part} (hf : ∀ p ∈ ps, Part.Few p) : Asc (textT nm ps) := Asc.join nl_asc fun x hx => by
  obtain ⟨p, hp, rfl⟩ := List.mem_map.mp hx
  exact (row_facts hn (hf p hp)).2
theorem text_twice {nm : List Str} {ps : List Part} : decide (textT nm (ps ++ ps) = textT nm ps) = decide (ps.length = 0) := by
  by_cases q : ps = []
  · subst q
    rfl
  · have h0 : ps.length ≠ 0 := fun z => q (List.length_eq_zero_iff.mp z)
    rw [decide_eq_false h0]
    refine decide_eq_false fun z => ?_
    have hm : ps.map (rowT nm) ≠ [] := fun w => q (List.map_eq_nil_iff.mp w)
    unfold textT at z
    rw [List.map_append, join_app "\n" hm hm] at z
    have := congrArg Str.length z
    rw [len_app, len_app, nl_len] at this
    omega
end K03

/-! k03: the law's own text; rules that are unlike. -/
namespace K03
open PySem PySem.Spec PySem.Builtin PySem.Builtin.Str PyProof.Rows L2 MS
/-! ### strip -/
theorem sp32 : Unicode.isSpace 32 = true := by decide +kernel
theorem nosp_all : (List.range 128).all (fun c => decide (c ≤ 32) || !Unicode.isSpace c) = true := by decide +kernel
theorem nosp {c : Nat} (h1 : 32 < c) (h2 : c < 128) : Unicode.isSpace c = false := by
  have := List.all_eq_true.mp nosp_all c (List.mem_range.mpr h2)
  rw [Bool.or_eq_true, decide_eq_true_eq] at this
  rcases this with h | h
  · omega
  · simpa using h
theorem strip_keep {x : Str} {p q : List Nat} (hx : x.cps.toList = p ++ q) (hq : ∀ c ∈ q, Unicode.isSpace c = true) (h1 : ∃ a r, p = a :: r ∧ Unicode.isSpace a = false) (h2 : ∃ r b, p = r ++ [b] ∧ Unicode.isSpace b = false) : Txt.strip x = ⟨p.toArray⟩ := by
  unfold Txt.strip
  rw [stripBy_eq]
  have hlen : x.length = p.length + q.length := by
    have : x.length = x.cps.toList.length := by simp [Str.length]
    rw [this, hx, List.length_append]
  have lo : stripLo Unicode.isSpace true x = 0 := by
    obtain ⟨a, r, rfl, ha⟩ := h1
    unfold stripLo
    rw [if_pos rfl, hx, List.cons_append, List.takeWhile_cons, if_neg (by rw [ha]; exact Bool.false_ne_true)]
    rfl
  have hi : stripHi Unicode.isSpace true x 0 = p.length := by
    obtain ⟨r, b, rfl, hb⟩ := h2
    unfold stripHi
    rw [if_pos rfl, List.drop_zero, hx, List.reverse_append, List.takeWhile_append_of_pos (fun c hc => hq c (List.mem_reverse.mp hc)), List.reverse_append]
    have : List.takeWhile Unicode.isSpace ([b].reverse ++ r.reverse) = [] := by
      show List.takeWhile Unicode.isSpace (b :: r.reverse) = []
      rw [List.takeWhile_cons, if_neg (by rw [hb]; exact Bool.false_ne_true)]
    rw [this, List.append_nil, List.length_reverse, hlen]
    omega
  rw [lo, hi]
  unfold strSub
  congr 1
  have e : x.cps = (p ++ q).toArray := by rw [← hx]
  rw [e]
  simp
def EndsD (x : Str) : Prop := ∃ r b, x.cps.toList = r ++ [b] ∧ 48 ≤ b ∧ b < 58
theorem EndsD.app {x y : Str} (h : EndsD y) : EndsD (x ++ y) := by
  obtain ⟨r, b, e, h⟩ := h
  exact ⟨x.cps.toList ++ r, b, by rw [list_app, e, List.append_assoc], h⟩
theorem EndsD.dg {n : Nat} (hn : n < 200) : EndsD (dg n) := by
  obtain ⟨_, h2, h3⟩ := dg_facts hn
  have h4 : 0 < (K03.dg n).cps.toList.length := by simpa [Str.length] using h2
  rcases List.eq_nil_or_concat (K03.dg n).cps.toList with e | ⟨r, b, e⟩
  · rw [e] at h4
    cases h4
  · rw [List.concat_eq_append] at e
    exact ⟨r, b, e, h3 b (by rw [e]; simp)⟩
theorem EndsD.join {z : Str} : ∀ {a : List Str}, a ≠ [] → (∀ x ∈ a, EndsD x) → EndsD (Str.join z a)
  | [], h, _ => absurd rfl h
  | [x], _, h => h x (List.mem_cons_self ..)
  | x :: y :: a, _, h => (EndsD.join (z := z) (a := y :: a) (by simp) fun w hw => h w (List.mem_cons_of_mem _ hw)).app
theorem room_list : (("room" : Str)).cps.toList = [114, 111, 111, 109] := by decide +kernel
theorem colon_list : ((":" : Str)).cps.toList = [58] := by decide +kernel
theorem sp_list : ((" " : Str)).cps.toList = [32] := by decide +kernel
theorem head_list (b : Nat) : (headT b).cps.toList = 114 :: ([111, 111, 109, 32] ++ (dg b).cps.toList ++ [32] ++ [58]) := by
  unfold headT
  rw [list_app, list_app, list_app, list_app, room_list, colon_list, sp_list]
  rfl
theorem strip_head (b : Nat) : Txt.strip (headT b ++ " ") = headT b := by
  refine (strip_keep (p := (headT b).cps.toList) (q := [32]) (by rw [list_app, sp_list]) (fun c hc => by rw [List.mem_singleton.mp hc]; exact sp32) ?_ ?_).trans ?_
  · exact ⟨_, _, head_list b, nosp (by omega) (by omega)⟩
  · exact ⟨114 :: ([111, 111, 109, 32] ++ (dg b).cps.toList ++ [32]), 58, head_list b, nosp (by omega) (by omega)⟩
  · show Str.mk _ = headT b
    simp
theorem strip_row {b : Nat} {x : Str} (h : EndsD x) : Txt.strip (headT b ++ " " ++ x) = headT b ++ " " ++ x := by
  refine (strip_keep (p := (headT b ++ " " ++ x).cps.toList) (q := []) (by rw [List.append_nil]) (fun c hc => by cases hc) ?_ ?_).trans ?_
  · rw [list_app, list_app, head_list]
    exact ⟨_, _, rfl, nosp (by omega) (by omega)⟩
  · obtain ⟨r, c, e, h3, h4⟩ := EndsD.app (x := headT b ++ " ") h
    exact ⟨r, c, e, nosp (by omega) (by omega)⟩
  · show Str.mk _ = _
    simp
/-! ### the law's lines -/
theorem tagE1 : cmpM .Eq (.str "apart") (.str "room") = .ret (.bl false) := by kernel_rfl
theorem tagE2 : cmpM .Eq (.str "most") (.str "room") = .ret (.bl false) := by kernel_rfl
theorem tagE3 : cmpM .Eq (.str "room") (.str "room") = .ret (.bl true) := by kernel_rfl
theorem tagE4 : cmpM .Eq (.str "apart") (.str "apart") = .ret (.bl true) := by kernel_rfl
theorem tagE5 : cmpM .Eq (.str "most") (.str "apart") = .ret (.bl false) := by kernel_rfl
theorem tagE6 : cmpM .Eq (.str "most") (.str "most") = .ret (.bl true) := by kernel_rfl
theorem tagE7 : cmpM .Eq (.str "room") (.str "apart") = .ret (.bl false) := by kernel_rfl
theorem tagE8 : cmpM .Eq (.str "room") (.str "most") = .ret (.bl false) := by kernel_rfl
/-- a test of a part's first place -/
theorem tag {p : D} {r : List D} {a b : Str} {t : Bool} (hp : p = .tup (.str a :: r)) (h : cmpM .Eq (.str a) (.str b) = .ret (.bl t)) : (T.bind (T.bind (.ret p) fun x => T.bind (.ret (.int 0)) fun y => ixM x y) fun x => T.bind (.ret (.str b)) fun y => T.bind (cmpM .Eq x y) asBool) = .ret t := by
  subst hp
  refine bind_ret' (a := .str a) ?_ ?_
  · exact bind_ret' rfl (bind_ret' rfl (ix_0 _ _))
  · exact bind_ret' rfl (bind_ret' h rfl)
theorem most_two : ("most " : Str) = "most" ++ " " := by decide +kernel
theorem colon_two : (" :" : Str) = " " ++ ":" := by decide +kernel
theorem room_two : ("room " : Str) = "room" ++ " " := by decide +kernel
theorem colon_three : (" : " : Str) = " " ++ ":" ++ " " := by decide +kernel
theorem names_comp {nm : List Str} {l : List Nat} (hl : l.length ≤ 1000) (h : ∀ x ∈ l, x < nm.length) {m : T D} (hm : m = .ret (.tup (L l))) : T.bind (T.bind (T.bind m seqM) (compN (fun v => cE (T.bind (.ret (nmD nm)) fun x => T.bind (.ret v) fun y => ixM x y)))) (fun ds => .ret (D.lst ds)) = .ret (D.lst ((l.map (getN nm)).map D.str)) := by
  refine bind_ret' (a := (l.map (getN nm)).map D.str) ?_ rfl
  refine bind_ret' (a := L l) (bind_ret' hm rfl) ?_
  rw [List.map_map]
  exact compN_enc (fun n : Nat => D.int (n : Nat)) _ (by have := sizeLine_val; omega) fun n hn => cE_ret (bind_ret' (a := nmD nm) rfl (ix_nm (h n hn)))
theorem last2 {a b : D} : (T.bind (.ret (D.tup [a, b])) fun x => T.bind (T.bind (T.bind (consM (.ret (D.tup [a, b])) (.ret [])) lenM) fun x => T.bind (.ret (.int 1)) fun y => subD x y) fun y => ixM x y) = .ret b := by
  refine bind_ret' (a := .tup [a, b]) rfl ?_
  exact bind_ret' (a := .int 1) rfl (ix_1 _ _ _)
theorem last3 {a b c : D} : (T.bind (.ret (D.tup [a, b, c])) fun x => T.bind (T.bind (T.bind (consM (.ret (D.tup [a, b, c])) (.ret [])) lenM) fun x => T.bind (.ret (.int 1)) fun y => subD x y) fun y => ixM x y) = .ret c := by
  refine bind_ret' (a := .tup [a, b, c]) rfl ?_
  exact bind_ret' (a := .int 2) rfl (ix_2 _ _ _ _)
theorem law_row {nm : List Str} {p : Part} (hn : Nms nm) (hp : p.Ok nm.length) (hf : p.Few) : m__law_rule_row [nmD nm, p.enc] = .ret (.str (rowT nm p)) := by
  have sz := sizeLine_val
  have h1 := sp_len
  cases p with
  | apart l =>
    have hl : l.length ≤ 20 := hf
    have h2 := sum_len (map_sum hn l)
    have h3 : (("apart" : Str)).length = 5 := by decide +kernel
    refine (bind_eq (tag rfl tagE1)).trans ?_
    rw [Bool.cond_false]
    refine bind_ret' (a := .str "apart") ?_ ?_
    · refine (bind_eq (tag rfl tagE4)).trans ?_
      rfl
    refine jn (X := .lst ((("apart" : Str) :: l.map (getN nm)).map D.str)) ?_ ?_
    · refine bind_ret' (a := .lst [.str "apart"]) (bind_ret' (bind_ret' (consM_eq rfl rfl) (lst1 _)) rfl) ?_
      refine bind_ret' (names_comp (l := l) (by omega) hp.2.2 last2) ?_
      exact add_l (by simp; omega)
    · refine join_l ?_
      simp only [List.map_cons, List.sum_cons, List.length_cons, List.length_map] at h2 ⊢
      rw [h3, h1]
      omega
  | most n l =>
    have hl : l.length ≤ 20 := hf.2
    have h2 := sum_len (map_sum hn l)
    have h3 : (("most" : Str)).length = 4 := by decide +kernel
    have h4 : ((":" : Str)).length = 1 := by decide +kernel
    have h5 := (dg_facts hf.1).1
    have h6 : (("most" : Str) ++ " ").length ≤ 5 := by rw [len_app]; omega
    have h7 : (("most" : Str) ++ " " ++ dg n).length ≤ 8 := by rw [len_app]; omega
    have h8 : ((" " : Str) ++ ":").length ≤ 2 := by rw [len_app]; omega
    refine (bind_eq (tag rfl tagE2)).trans ?_
    rw [Bool.cond_false]
    refine bind_ret' (a := .str ("most" ++ " " ++ dg n ++ " " ++ ":")) ?_ ?_
    · refine (bind_eq (tag rfl tagE5)).trans ?_
      show (T.bind (T.bind (.ret (D.str "most ")) _) _) = _
      refine bind_ret' (a := .str ("most" ++ " " ++ dg n)) ?_ ?_
      · refine bind_ret' (a := .str ("most" ++ " ")) (by rw [most_two]) ?_
        refine bind_ret' (a := .str (dg n)) ?_ (add_s (by omega))
        exact bind_ret' (a := [D.int (n : Nat)]) (consM_eq (bind_ret' rfl (bind_ret' rfl (ix_1 _ _ _))) rfl) (str_int hf.1)
      · refine bind_ret' (a := .str (" " ++ ":")) (by rw [colon_two]) ?_
        have e : (("most" ++ " " ++ dg n ++ " " ++ ":" : Str)) = ("most" ++ " " ++ dg n) ++ (" " ++ ":") := app_assoc _ _ _
        rw [e]
        exact add_s (by omega)
    refine jn (X := .lst ((("most" ++ " " ++ dg n ++ " " ++ ":" : Str) :: l.map (getN nm)).map D.str)) ?_ ?_
    · refine bind_ret' (a := .lst [.str ("most" ++ " " ++ dg n ++ " " ++ ":")]) (bind_ret' (bind_ret' (consM_eq rfl rfl) (lst1 _)) rfl) ?_
      refine bind_ret' (names_comp (l := l) (by omega) hp.2.2 last3) ?_
      exact add_l (by simp; omega)
    · have e : rowT nm (.most n l) = Str.join " " (("most" ++ " " ++ dg n ++ " " ++ ":") :: l.map (getN nm)) := by
        rw [join_two, join_two]
        rfl
      rw [e]
      refine join_l ?_
      simp only [List.map_cons, List.sum_cons, List.length_cons, List.length_map] at h2 ⊢
      rw [len_app, len_app, h1]
      omega
  | room ws b =>
    have hw : ∀ x ∈ ws, x < 200 := hf.1
    have hb : b < 200 := hf.2
    have hl : ws.length = nm.length := hp
    have hnf := hn.few
    have h2 := (dg_facts hb).1
    have h3 : ((":" : Str)).length = 1 := by decide +kernel
    have h4 : (("room" : Str)).length = 4 := by decide +kernel
    have h6 := join_len ", " (loads_len hn hw)
    have h7 := loads_few nm ws
    have h8 : ((", " : Str)).length = 2 := by decide +kernel
    have h9 := head_len hb
    rw [h8] at h6
    have hj : (12 + 2) * (loadsT nm ws).length ≤ 14 * 8 := Nat.mul_le_mul (Nat.le_refl _) (by omega)
    refine (bind_eq (tag rfl tagE3)).trans ?_
    rw [Bool.cond_true]
    refine bind_ret' (a := (loadsT nm ws).map D.str) ?_ ?_
    · refine bind_ret' (a := L (List.range nm.length)) ?_ ?_
      · have := rgM (k := nm.length) (by show nm.length ≤ 1000; omega)
        refine bind_ret' (a := [D.int (nm.length : Nat)]) (consM_eq ?_ rfl) (rng1 (by show nm.length ≤ 1000; omega))
        refine bind_ret' (a := [nmD nm]) rfl ?_
        show T.ret (D.int (((nm.map D.str).length : Nat) : Int)) = _
        rw [List.length_map]
      · rw [← loads_D]
        refine compN_fm (fun n : Nat => D.int (n : Nat)) _ (by rw [List.length_range]; omega) fun i hi => ?_
        have hi' : i < nm.length := List.mem_range.mp hi
        have hwi : ixM (.tup (L ws)) (.int (i : Nat)) = .ret (.int ((ws.getD i 0 : Nat) : Int)) := ix_L (by omega)
        have hwx : (T.bind (T.bind (.ret (Part.room ws b).enc) fun x => T.bind (.ret (.int 1)) fun y => ixM x y) fun x => T.bind (.ret (D.int (i : Nat))) fun y => ixM x y) = .ret (.int ((ws.getD i 0 : Nat) : Int)) := bind_ret' (bind_ret' rfl (bind_ret' rfl (ix_1 _ _ _))) (bind_ret' rfl hwi)
        have hll := load_len hn hw i
        have hg := getN_len hn i
        have hgs : ((getN nm i) ++ " ").length ≤ 9 := by rw [len_app]; omega
        have hd := (dg_facts (getD_lt (b := 200) (by omega) hw i)).1
        by_cases q : 0 < ws.getD i 0
        · refine (cI_ret (b := true) (y := .str (getN nm i ++ " " ++ dg (ws.getD i 0))) ?_ fun _ => ?_).trans ?_
          · refine bind_ret' hwx ?_
            show T.ret (decide ((0 : Int) < ((ws.getD i 0 : Nat) : Int))) = _
            rw [decide_eq_true (by omega)]
          · refine bind_ret' (a := .str (getN nm i ++ " ")) ?_ ?_
            · exact bind_ret' (a := .str (getN nm i)) (bind_ret' (a := nmD nm) rfl (bind_ret' rfl (ix_nm hi'))) (bind_ret' (a := .str " ") rfl (add_s (by omega)))
            · exact bind_ret' (a := .str (dg (ws.getD i 0))) (bind_ret' (consM_eq hwx rfl) (str_int (getD_lt (by omega) hw i))) (add_s (by omega))
          · rw [if_pos q, if_pos rfl]
        · refine (cI_ret (b := false) (y := .non) ?_ fun h => nomatch h).trans ?_
          · refine bind_ret' hwx ?_
            show T.ret (decide ((0 : Int) < ((ws.getD i 0 : Nat) : Int))) = _
            rw [decide_eq_false (by omega)]
          · rw [if_neg q]
            rfl
    refine bind_ret' (a := .str (headT b ++ " " ++ Str.join ", " (loadsT nm ws))) ?_ ?_
    · have e : headT b ++ " " ++ Str.join ", " (loadsT nm ws) = (("room" ++ " ") ++ dg b) ++ (" " ++ ":" ++ " ") ++ Str.join ", " (loadsT nm ws) := by
        unfold headT
        simp only [app_assoc]
      have z1 : (("room" : Str) ++ " ").length ≤ 5 := by rw [len_app]; omega
      have z2 : ((("room" : Str) ++ " ") ++ dg b).length ≤ 8 := by rw [len_app]; omega
      have z3 : (((" " : Str) ++ ":") ++ " ").length ≤ 3 := by rw [len_app, len_app]; omega
      have z4 : ((("room" ++ " ") ++ dg b) ++ (" " ++ ":" ++ " ") : Str).length ≤ 11 := by rw [len_app]; omega
      rw [e]
      refine bind_ret' (a := .str ((("room" ++ " ") ++ dg b) ++ (" " ++ ":" ++ " "))) ?_ ?_
      · refine bind_ret' (a := .str (("room" ++ " ") ++ dg b)) ?_ ?_
        · refine bind_ret' (a := .str ("room" ++ " ")) (by rw [room_two]) ?_
          refine bind_ret' (a := .str (dg b)) ?_ (add_s (by omega))
          exact bind_ret' (a := [D.int (b : Nat)]) (consM_eq (bind_ret' rfl (bind_ret' rfl (ix_2 _ _ _ _))) rfl) (str_int hb)
        · refine bind_ret' (a := .str (" " ++ ":" ++ " ")) (by rw [colon_three]) (add_s (by omega))
      · refine bind_ret' (a := .str (Str.join ", " (loadsT nm ws))) ?_ (add_s (by omega))
        refine jn (X := .lst ((loadsT nm ws).map D.str)) rfl ?_
        have := sum_len (loads_len hn hw)
        exact join_l (by rw [h8]; omega)
    · have hz : (headT b ++ " " ++ Str.join ", " (loadsT nm ws)).length ≤ 1000 := by rw [len_app, len_app]; omega
      show (if (headT b ++ " " ++ Str.join ", " (loadsT nm ws)).length ≤ sizeLine then T.ret (D.str (Txt.strip (headT b ++ " " ++ Str.join ", " (loadsT nm ws)))) else .stuck) = T.ret (D.str (if loadsT nm ws = [] then headT b else headT b ++ " " ++ Str.join ", " (loadsT nm ws)))
      rw [if_pos (by omega)]
      by_cases q : loadsT nm ws = []
      · rw [if_pos q, q]
        show T.ret (D.str (Txt.strip (headT b ++ " " ++ Str.empty))) = _
        rw [app_empty, strip_head]
      · rw [if_neg q, strip_row]
        refine EndsD.join q fun x hx => ?_
        obtain ⟨i, _, _, rfl⟩ := loads_mem hx
        exact (EndsD.dg (getD_lt (by omega) hw i)).app
theorem law_text {nm : List Str} {ps : List Part} (hn : Nms nm) (hp : Rok nm.length ps) (hf : ∀ p ∈ ps, p.Few) : m__law_rule_text [nmD nm, .tup (ps.map Part.enc)] = .ret (.str (textT nm ps)) := by
  have hz := hp.len
  have hz' : ps.length ≤ 1000 := hz
  refine jn (X := .lst ((ps.map (rowT nm)).map D.str)) ?_ ?_
  · refine bind_ret' (a := (ps.map (rowT nm)).map D.str) ?_ rfl
    refine bind_ret' (a := ps.map Part.enc) rfl ?_
    rw [List.map_map]
    refine compN_enc Part.enc _ (small_line hz) fun p hm => cE_ret ?_
    exact bind_ret' (a := [nmD nm, p.enc]) rfl (law_row hn (hp.ok p hm).1 (hf p hm))
  · have h1 := sum_len (rows_len hn hf)
    have h2 := nl_len
    refine join_l ?_
    rw [List.length_map, h2] at *
    omega
/-! ### rules that are unlike -/
theorem str_eqv (a b : Str) : PyData.eqv (.str a) (.str b) = decide (a = b) := eqD_s a b
theorem tup_eqv (a b : List Nat) : PyData.eqv (.tuple (toPs (L a))) (.tuple (toPs (L b))) = decide (a = b) := eqD_lot a b
theorem int_eqv (a b : Nat) : PyData.eqv (.int (a : Nat)) (.int (b : Nat)) = decide (a = b) := by
  have := eqD_int (a : Nat) (b : Nat)
  show eqD (.int (a : Nat)) (.int (b : Nat)) = _
  rw [this]
  by_cases q : a = b
  · rw [decide_eq_true q, decide_eq_true (by omega)]
  · rw [decide_eq_false q, decide_eq_false (by omega)]
theorem s1 : decide (("apart" : Str) = "most") = false := by decide +kernel
theorem s2 : decide (("apart" : Str) = "room") = false := by decide +kernel
theorem s3 : decide (("most" : Str) = "apart") = false := by decide +kernel
theorem s4 : decide (("most" : Str) = "room") = false := by decide +kernel
theorem s5 : decide (("room" : Str) = "apart") = false := by decide +kernel
theorem s6 : decide (("room" : Str) = "most") = false := by decide +kernel
theorem eqv_two (a b c d : PyData) : PyData.eqv (.tuple [a, b]) (.tuple [c, d]) = (PyData.eqv a c && PyData.eqv b d) := by simp [PyData.eqv, PyData.eqvAll]
theorem eqv_three (a b e c d f : PyData) : PyData.eqv (.tuple [a, b, e]) (.tuple [c, d, f]) = (PyData.eqv a c && (PyData.eqv b d && PyData.eqv e f)) := by simp [PyData.eqv, PyData.eqvAll]
theorem eqv_23 (a b c d f : PyData) : PyData.eqv (.tuple [a, b]) (.tuple [c, d, f]) = false := by simp [PyData.eqv, PyData.eqvAll]
theorem eqv_32 (a b c d f : PyData) : PyData.eqv (.tuple [c, d, f]) (.tuple [a, b]) = false := by simp [PyData.eqv, PyData.eqvAll]
theorem eqD_part (p q : Part) : PyData.eqv (toP p.enc) (toP q.enc) = decide (p = q) := by
  cases p with
  | apart l =>
    cases q with
    | apart l' =>
      show PyData.eqv (.tuple [.str "apart", .tuple (toPs (L l))]) (.tuple [.str "apart", .tuple (toPs (L l'))]) = _
      rw [eqv_two, str_eqv, tup_eqv]
      simp
    | most n l' => exact (eqv_23 ..).trans (decide_eq_false (by simp)).symm
    | room ws b => exact (eqv_23 ..).trans (decide_eq_false (by simp)).symm
  | most n l =>
    cases q with
    | apart l' => exact (eqv_32 ..).trans (decide_eq_false (by simp)).symm
    | most n' l' =>
      show PyData.eqv (.tuple [.str "most", .int (n : Nat), .tuple (toPs (L l))]) (.tuple [.str "most", .int (n' : Nat), .tuple (toPs (L l'))]) = _
      rw [eqv_three, str_eqv, tup_eqv, int_eqv]
      simp
    | room ws b =>
      show PyData.eqv (.tuple [.str "most", .int (n : Nat), .tuple (toPs (L l))]) (.tuple [.str "room", .tuple (toPs (L ws)), .int (b : Nat)]) = _
      rw [eqv_three, str_eqv, s4]
      simp
  | room ws b =>
    cases q with
    | apart l' => exact (eqv_32 ..).trans (decide_eq_false (by simp)).symm
    | most n' l' =>
      show PyData.eqv (.tuple [.str "room", .tuple (toPs (L ws)), .int (b : Nat)]) (.tuple [.str "most", .int (n' : Nat), .tuple (toPs (L l'))]) = _
      rw [eqv_three, str_eqv, s6]
      simp
    | room ws' b' =>
      show PyData.eqv (.tuple [.str "room", .tuple (toPs (L ws)), .int (b : Nat)]) (.tuple [.str "room", .tuple (toPs (L ws')), .int (b' : Nat)]) = _
      rw [eqv_three, str_eqv, tup_eqv, int_eqv]
      simp
theorem eqD_parts : ∀ a b : List Part, PyData.eqvAll (toPs (a.map Part.enc)) (toPs (b.map Part.enc)) = decide (a = b)
  | [], [] => by simp [toPs, PyData.eqvAll]
  | [], _ :: _ => by simp [toPs, PyData.eqvAll]
  | _ :: _, [] => by simp [toPs, PyData.eqvAll]
  | x :: a, y :: b => by
    have ih := eqD_parts a b
    have e : PyData.eqvAll (toPs ((x :: a).map Part.enc)) (toPs ((y :: b).map Part.enc)) = (PyData.eqv (toP x.enc) (toP y.enc) && PyData.eqvAll (toPs (a.map Part.enc)) (toPs (b.map Part.enc))) := by simp [toPs, PyData.eqvAll]
    rw [e, ih, eqD_part]
    by_cases q : x = y
    · subst q
      by_cases q2 : a = b
      · subst q2; simp
      · simp [q2]
    · simp [q]
abbrev encP (ps : List Part) : D := .tup (ps.map Part.enc)
/-- parts that may be compared -/
def Lens (ps : List Part) : Prop := ps.length ≤ lineN ∧ ∀ p ∈ ps, p.len ≤ lineN
theorem okD_parts {a : List Part} (h : Lens a) : okD (encP a) = true := by
  refine okD_fine (n := 3) (.tup (fun x hx => ?_) ?_) (by omega)
  · obtain ⟨p, hp, rfl⟩ := List.mem_map.mp hx
    exact fine_part (h.2 p hp)
  · rw [List.length_map]
    exact small_line h.1
theorem eq_parts {a b : List Part} (ha : Lens a) (hb : Lens b) : cmpM .Eq (encP a) (encP b) = .ret (.bl (decide (a = b))) := by
  show eqM _ _ = _
  unfold eqM
  rw [okD_parts ha, okD_parts hb]
  show T.ret (D.bl (PyData.eqv (.tuple (toPs (a.map Part.enc))) (.tuple (toPs (b.map Part.enc))))) = _
  rw [← eqD_parts]
  simp [PyData.eqv]
theorem ne_parts {a b : List Part} (ha : Lens a) (hb : Lens b) : cmpM .NotEq (encP a) (encP b) = .ret (.bl (!decide (a = b))) := by
  show neM _ _ = _
  unfold neM
  rw [okD_parts ha, okD_parts hb]
  show T.ret (D.bl (!PyData.eqv (.tuple (toPs (a.map Part.enc))) (.tuple (toPs (b.map Part.enc))))) = _
  rw [← eqD_parts]
  simp [PyData.eqv]
theorem rule_eq2 {a b : List Part} (ha : Lens a) (hb : Lens b) : insEqM "Rule" m_Rule___eq__ (rule a) (rule b) = .ret (.bl (decide (a = b))) := by
  have e : m_Rule___eq__ [rule a, rule b] = .ret (.bl (decide (a = b))) := by
    refine (and_true (by kernel_rfl)).trans ?_
    refine bind_ret' (a := encP a) rfl ?_
    exact bind_ret' (a := encP b) rfl (eq_parts ha hb)
  show (if ("Rule" : Str) = "Rule" ∧ ("Rule" : Str) = "Rule" then (m_Rule___eq__ [rule a, rule b]).bind asBl else .stuck) = _
  rw [if_pos ⟨rfl, rfl⟩, e]
  rfl
/-- == of two that are made -/
theorem eq_made {a b : List Part} {m1 m2 : T D} {t : Bool} (ha : Lens a) (hb : Lens b) (h1 : m1 = .ret (rule a)) (h2 : m2 = .ret (rule b)) (ht : decide (a = b) = t) : (T.bind m1 fun x => T.bind m2 fun y => insEqM ("Rule" : Str) m_Rule___eq__ x y) = .ret (.bl t) := by
  subst ht
  exact bind_ret' h1 (bind_ret' h2 (rule_eq2 ha hb))
end K03

/-! k03: near parts, the law. -/
namespace K03
open PySem PySem.Spec PyProof.Rows L2 MS
theorem cutD_hi (l : List D) (i : Nat) (h : i ≤ l.length) : MS.cutD l none (some (i : Nat)) = l.take i := by
  unfold MS.cutD
  have h1 : HT.sIx l.length 0 none = 0 := rfl
  have h2 : HT.sIx l.length l.length (some ((i : Nat) : Int)) = i := by simp [HT.sIx]; rw [if_neg (by omega)]; omega
  rw [h1, h2, List.drop_zero, Nat.sub_zero]
theorem cutD_lo (l : List D) (i : Nat) (h : i ≤ l.length) : MS.cutD l (some (i : Nat)) none = l.drop i := by
  unfold MS.cutD
  have h1 : HT.sIx l.length l.length none = l.length := rfl
  have h2 : HT.sIx l.length 0 (some ((i : Nat) : Int)) = i := by simp [HT.sIx]; rw [if_neg (by omega)]; omega
  rw [h1, h2, List.take_of_length_le]
  rw [List.length_drop]
  exact Nat.le_refl _
theorem encP_app {a b : List Part} (h : a.length + b.length ≤ 1000) : addD (encP a) (encP b) = .ret (encP (a ++ b)) := by
  refine (add_t (by rw [List.length_map, List.length_map]; omega)).trans ?_
  rw [← List.map_append]
theorem takeM {ps : List Part} {i : Nat} (h : i ≤ ps.length) : (T.bind (.ret (encP ps)) fun x => T.bind (.ret none) fun l => T.bind (T.bind (.ret (D.int (i : Nat))) fun d => T.bind (asInt d) fun i => .ret (some i)) fun h => slM l h x) = .ret (encP (ps.take i)) := by
  show T.ret (D.tup (MS.cutD (ps.map Part.enc) none (some ((i : Nat) : Int)))) = _
  rw [cutD_hi _ _ (by rw [List.length_map]; exact h), ← List.map_take]
theorem dropM {ps : List Part} {m : T D} {i : Nat} (hm : m = .ret (.int (i : Nat))) (h : i ≤ ps.length) : (T.bind (.ret (encP ps)) fun x => T.bind (T.bind m fun d => T.bind (asInt d) fun i => .ret (some i)) fun l => T.bind (.ret none) fun h => slM l h x) = .ret (encP (ps.drop i)) := by
  rw [hm]
  show T.ret (D.tup (MS.cutD (ps.map Part.enc) (some ((i : Nat) : Int)) none)) = _
  rw [cutD_lo _ _ (by rw [List.length_map]; exact h), ← List.map_drop]
theorem ix_parts {ps : List Part} {i : Nat} (h : i < ps.length) : ixM (encP ps) (.int (i : Nat)) = .ret ps[i].enc := by
  show (match L2.atI (ps.map Part.enc) (i : Nat) with
    | some d => T.ret d
    | none => .stuck) = _
  have e : L2.atI (ps.map Part.enc) (i : Nat) = some ps[i].enc := by
    unfold L2.atI ixN
    rw [if_pos (by omega), List.length_map, if_pos (by omega)]
    show (ps.map Part.enc)[((i : Nat) : Int).toNat]? = _
    rw [Int.toNat_natCast, List.getElem?_map, List.getElem?_eq_getElem h]
    rfl
  rw [e]
/-- a part with a number, a thing more -/
def lateP (n : Nat) : Part → Part
  | .apart l => .apart (l ++ [n])
  | .most k l => .most (k + 1) l
  | .room ws b => .room ws (b + 1)
theorem late_ne (n : Nat) (p : Part) : lateP n p ≠ p := by
  cases p with
  | apart l =>
    intro h
    injection h with h
    have := congrArg List.length h
    rw [List.length_append, List.length_singleton] at this
    omega
  | most k l =>
    intro h
    injection h with h
    omega
  | room ws b =>
    intro h
    injection h with _ h
    omega
theorem late_len {n : Nat} {p : Part} (h : p.len ≤ 20) : (lateP n p).len ≤ 21 := by
  cases p with
  | apart l => show (l ++ [n]).length ≤ 21; rw [List.length_append]; have : l.length ≤ 20 := h; simp; omega
  | most k l => have : l.length ≤ 20 := h; show l.length ≤ 21; omega
  | room ws b => have : ws.length ≤ 20 := h; show ws.length ≤ 21; omega
theorem lateM {n : Nat} {p : Part} (h : p.len ≤ 20) : (T.bind (T.bind (T.bind (.ret p.enc) fun x => T.bind (.ret (.int 0)) fun y => ixM x y) fun x => T.bind (.ret (.str "apart")) fun y => T.bind (cmpM .Eq x y) asBool) fun t => cond t (T.bind (consM (.ret (.str "apart")) (consM (T.bind (T.bind (.ret p.enc) fun x => T.bind (.ret (.int 1)) fun y => ixM x y) fun x => T.bind (T.bind (consM (.ret (D.int (n : Nat))) (.ret [])) tupM) fun y => addD x y) (.ret []))) tupM) (T.bind (T.bind (T.bind (.ret p.enc) fun x => T.bind (.ret (.int 0)) fun y => ixM x y) fun x => T.bind (.ret (.str "most")) fun y => T.bind (cmpM .Eq x y) asBool) fun t => cond t (T.bind (consM (.ret (.str "most")) (consM (T.bind (T.bind (.ret p.enc) fun x => T.bind (.ret (.int 1)) fun y => ixM x y) fun x => T.bind (.ret (.int 1)) fun y => addD x y) (consM (T.bind (.ret p.enc) fun x => T.bind (.ret (.int 2)) fun y => ixM x y) (.ret [])))) tupM) (T.bind (consM (.ret (.str "room")) (consM (T.bind (.ret p.enc) fun x => T.bind (.ret (.int 1)) fun y => ixM x y) (consM (T.bind (T.bind (.ret p.enc) fun x => T.bind (.ret (.int 2)) fun y => ixM x y) fun x => T.bind (.ret (.int 1)) fun y => addD x y) (.ret [])))) tupM))) = .ret (lateP n p).enc := by
  cases p with
  | apart l =>
    have hl : l.length ≤ 20 := h
    refine (bind_eq (tag rfl tagE4)).trans ?_
    rw [Bool.cond_true]
    refine Tup2 rfl ?_
    refine bind_ret' (bind_ret' rfl (bind_ret' rfl (ix_1 _ _ _))) ?_
    refine bind_ret' (Tup1 rfl) ?_
    refine (add_t (by rw [List.length_map]; simp; omega)).trans ?_
    show T.ret (D.tup (L l ++ L [n])) = T.ret (D.tup (L (l ++ [n])))
    rw [← List.map_append]
  | most k l =>
    refine (bind_eq (tag rfl tagE5)).trans ?_
    rw [Bool.cond_false]
    refine (bind_eq (tag rfl tagE6)).trans ?_
    rw [Bool.cond_true]
    refine Tup3 rfl ?_ (bind_ret' rfl (bind_ret' rfl (ix_2 _ _ _ _)))
    exact bind_ret' (bind_ret' rfl (bind_ret' rfl (ix_1 _ _ _))) rfl
  | room ws b =>
    refine (bind_eq (tag rfl tagE7)).trans ?_
    rw [Bool.cond_false]
    refine (bind_eq (tag rfl tagE8)).trans ?_
    rw [Bool.cond_false]
    refine Tup3 rfl (bind_ret' rfl (bind_ret' rfl (ix_1 _ _ _))) ?_
    exact bind_ret' (bind_ret' rfl (bind_ret' rfl (ix_2 _ _ _ _))) rfl
theorem ne_len {a b : List Part} (h : a.length ≠ b.length) : a ≠ b := fun e => h (by rw [e])
/-- what near parts are -/
def Near (ps : List Part) (q : List Part) : Prop := q ≠ ps ∧ q.length ≤ 30 ∧ ∀ p ∈ q, p.len ≤ 30
theorem near {n : Nat} {ps : List Part} (h0 : 0 < n) (hn : n ≤ 8) (hl : ps.length ≤ 20) (hp : ∀ p ∈ ps, p.len ≤ 20) : (m__law_near_parts [.deal, encP ps, .int (n : Nat)]).ok fun d => ∃ ls : List (List Part), d = .lst (ls.map encP) ∧ ls.length ≤ 6 ∧ ∀ q ∈ ls, Near ps q := by
  have sz := sizeLine_val
  have lens : Lens ps := ⟨by show ps.length ≤ 1000; omega, fun p h => by have := hp p h; show p.len ≤ 1000; omega⟩
  have lensR : Lens ps.reverse := ⟨by rw [List.length_reverse]; exact lens.1, fun p h => lens.2 p (List.mem_reverse.mp h)⟩
  have n1 : Near ps (ps ++ [.apart [n - 1]]) := ⟨ne_len (by rw [List.length_append, List.length_singleton]; omega), by rw [List.length_append, List.length_singleton]; omega, fun p h => by
    rcases List.mem_append.mp h with h | h
    · have := hp p h; omega
    · rw [List.mem_singleton.mp h]; show 1 ≤ 30; omega⟩
  have n2 : Near ps (.most 0 [0] :: ps) := ⟨ne_len (by rw [List.length_cons]; omega), by rw [List.length_cons]; omega, fun p h => by
    rcases List.mem_cons.mp h with rfl | h
    · show 1 ≤ 30; omega
    · have := hp p h; omega⟩
  have rest : ∀ ls : List (List Part), ls.length ≤ 5 → (∀ q ∈ ls, Near ps q) → (T.bind (.ret (D.lst (ls.map encP))) fun x => T.bind (T.bind (T.bind (T.bind (.ret (encP ps)) revT) fun x => T.bind (.ret (encP ps)) fun y => T.bind (cmpM .NotEq x y) asBool) fun t => cond t (T.bind (T.bind (consM (T.bind (.ret (encP ps)) revT) (.ret [])) lstM) fun ds => .ret (D.lst ds)) (T.bind (T.bind (.ret []) lstM) fun ds => .ret (D.lst ds))) fun y => addD x y).ok fun d => ∃ ls : List (List Part), d = .lst (ls.map encP) ∧ ls.length ≤ 6 ∧ ∀ q ∈ ls, Near ps q := by
    intro ls hls hq
    have er : T.bind (.ret (encP ps)) revT = .ret (encP ps.reverse) := by
      show T.ret (D.tup (ps.map Part.enc).reverse) = _
      rw [← List.map_reverse]
    refine ok_bindE (a := D.lst (ls.map encP)) rfl ?_
    by_cases z : ps.reverse = ps
    · refine ok_bindE (a := D.lst []) ?_ ?_
      · refine (bind_eq (a := false) ?_).trans rfl
        refine bind_ret' er (bind_ret' rfl (bind_ret' (ne_parts lensR lens) ?_))
        rw [decide_eq_true z]
        rfl
      · refine ok_eq (add_l (by rw [List.length_map]; simp; omega)) ⟨ls, by rw [List.append_nil], by omega, hq⟩
    · refine ok_bindE (a := D.lst [encP ps.reverse]) ?_ ?_
      · refine (bind_eq (a := true) ?_).trans ?_
        · refine bind_ret' er (bind_ret' rfl (bind_ret' (ne_parts lensR lens) ?_))
          rw [decide_eq_false z]
          rfl
        · rw [Bool.cond_true]
          exact bind_ret' (bind_ret' (consM_eq er rfl) (lst1 _)) rfl
      · refine ok_eq (add_l (by rw [List.length_map]; simp; omega)) ⟨ls ++ [ps.reverse], ?_, ?_, fun q hm => ?_⟩
        · rw [List.map_append]; rfl
        · rw [List.length_append, List.length_singleton]; omega
        · rcases List.mem_append.mp hm with hm | hm
          · exact hq q hm
          · rw [List.mem_singleton.mp hm]
            exact ⟨z, by rw [List.length_reverse]; omega, fun p h => by have := hp p (List.mem_reverse.mp h); omega⟩
  refine ok_bindE (a := D.lst [encP (ps ++ [.apart [n - 1]]), encP (.most 0 [0] :: ps)]) ?_ ?_
  · refine bind_ret' (a := [encP (ps ++ [.apart [n - 1]]), encP (.most 0 [0] :: ps)]) ?_ rfl
    refine bind_ret' (consM_eq ?_ (consM_eq ?_ rfl)) (lst2 _ _)
    · refine bind_ret' (a := encP ps) rfl ?_
      refine bind_ret' (a := encP [.apart [n - 1]]) ?_ (encP_app (by simp; omega))
      refine Tup1 (Tup2 rfl (Tup1 ?_))
      show T.ret (D.int ((n : Int) - 1)) = T.ret (D.int (((n - 1 : Nat) : Nat) : Int))
      have e : ((n - 1 : Nat) : Int) = (n : Int) - 1 := by omega
      rw [e]
    · refine bind_ret' (a := encP [.most 0 [0]]) ?_ ?_
      · exact Tup1 (Tup3 rfl rfl (Tup1 rfl))
      · exact bind_ret' (a := encP ps) rfl (encP_app (by simp; omega))
  by_cases q : ps = []
  · subst q
    refine ok_bindE (a := false) rfl ?_
    rw [Bool.cond_false]
    exact rest [[] ++ [.apart [n - 1]], [.most 0 [0]]] (by simp) fun q hq => by
      rcases List.mem_cons.mp hq with rfl | hq
      · exact n1
      · rw [List.mem_singleton.mp hq]
        exact n2
  · have hpos : 0 < ps.length := List.length_pos_iff.mpr q
    refine ok_bindE (a := true) ?_ ?_
    · show T.ret (decide ((0 : Int) < ((ps.map Part.enc).length : Nat))) = _
      rw [List.length_map, decide_eq_true (by omega)]
    rw [Bool.cond_true]
    refine ok_bind ?_
    refine ok_bindE (a := [.deal, .int (ps.length : Nat)]) ?_ ?_
    · refine consM_eq rfl (consM_eq ?_ rfl)
      show T.ret (D.int ((ps.map Part.enc).length : Nat)) = _
      rw [List.length_map]
    refine any_ok hpos (by omega) fun i hi => ?_
    have hpi := hp ps[i] (List.getElem_mem hi)
    refine ok_bindE (bind_ret' rfl (bind_ret' rfl (ix_parts hi))) ?_
    refine ok_bindE (lateM hpi) ?_
    have t1 := takeM (ps := ps) (i := i) (by omega)
    have ht : (ps.take i).length = i := by rw [List.length_take]; omega
    have htm : ∀ p ∈ ps.take i, p.len ≤ 30 := fun p h => by have := hp p (List.mem_of_mem_take h); omega
    have hdm : ∀ k, ∀ p ∈ ps.drop k, p.len ≤ 30 := fun k p h => by have := hp p (List.mem_of_mem_drop h); omega
    have d1 : (T.bind (.ret (encP ps)) fun x => T.bind (T.bind (T.bind (.ret (D.int (i : Nat))) fun x => T.bind (.ret (.int 1)) fun y => addD x y) fun d => T.bind (asInt d) fun i => .ret (some i)) fun l => T.bind (.ret none) fun h => slM l h x) = .ret (encP (ps.drop (i + 1))) := dropM (i := i + 1) (bind_ret' rfl (bind_ret' rfl rfl)) (by omega)
    have d0 := dropM (ps := ps) (m := .ret (D.int (i : Nat))) (i := i) rfl (by omega)
    have ld1 : (ps.drop (i + 1)).length = ps.length - (i + 1) := List.length_drop ..
    have ld0 : (ps.drop i).length = ps.length - i := List.length_drop ..
    have m3 : Near ps (ps.take i ++ ps.drop (i + 1)) := ⟨ne_len (by rw [List.length_append]; omega), by rw [List.length_append]; omega, fun p h => by
      rcases List.mem_append.mp h with h | h
      · exact htm p h
      · exact hdm _ p h⟩
    have m4 : Near ps (ps.take i ++ [ps[i]] ++ ps.drop i) := ⟨ne_len (by rw [List.length_append, List.length_append, List.length_singleton]; omega), by rw [List.length_append, List.length_append, List.length_singleton]; omega, fun p h => by
      rcases List.mem_append.mp h with h | h
      · rcases List.mem_append.mp h with h | h
        · exact htm p h
        · rw [List.mem_singleton.mp h]; omega
      · exact hdm _ p h⟩
    have m5 : Near ps (ps.take i ++ [lateP n ps[i]] ++ ps.drop (i + 1)) := by
      refine ⟨fun e => ?_, by rw [List.length_append, List.length_append, List.length_singleton]; omega, fun p h => ?_⟩
      · have e1 : (ps.take i ++ [lateP n ps[i]] ++ ps.drop (i + 1))[i]? = some (lateP n ps[i]) := by
          rw [List.append_assoc, List.getElem?_append_right (by omega), ht, Nat.sub_self]
          rfl
        rw [e, List.getElem?_eq_getElem hi] at e1
        exact late_ne n ps[i] (Option.some.inj e1).symm
      · rcases List.mem_append.mp h with h | h
        · rcases List.mem_append.mp h with h | h
          · exact htm p h
          · rw [List.mem_singleton.mp h]; have := late_len (n := n) hpi; omega
        · exact hdm _ p h
    refine ok_bindE (a := D.lst ([encP (ps ++ [.apart [n - 1]]), encP (.most 0 [0] :: ps)] ++ [encP (ps.take i ++ ps.drop (i + 1)), encP (ps.take i ++ [ps[i]] ++ ps.drop i), encP (ps.take i ++ [lateP n ps[i]] ++ ps.drop (i + 1))])) ?_ ?_
    · refine bind_ret' rfl ?_
      refine bind_ret' (a := D.lst [encP (ps.take i ++ ps.drop (i + 1)), encP (ps.take i ++ [ps[i]] ++ ps.drop i), encP (ps.take i ++ [lateP n ps[i]] ++ ps.drop (i + 1))]) ?_ (add_l (by simp))
      refine bind_ret' (bind_ret' (consM_eq ?_ (consM_eq ?_ (consM_eq ?_ rfl))) (lst3 _ _ _)) rfl
      · exact bind_ret' t1 (bind_ret' d1 (encP_app (by omega)))
      · refine bind_ret' (a := encP (ps.take i ++ [ps[i]])) ?_ (bind_ret' d0 (encP_app (by rw [List.length_append, List.length_singleton]; omega)))
        exact bind_ret' t1 (bind_ret' (Tup1 rfl) (encP_app (b := [ps[i]]) (by rw [List.length_singleton]; omega)))
      · refine bind_ret' (a := encP (ps.take i ++ [lateP n ps[i]])) ?_ (bind_ret' d1 (encP_app (by rw [List.length_append, List.length_singleton]; omega)))
        exact bind_ret' t1 (bind_ret' (Tup1 rfl) (encP_app (b := [lateP n ps[i]]) (by rw [List.length_singleton]; omega)))
    · exact rest [ps ++ [.apart [n - 1]], .most 0 [0] :: ps, ps.take i ++ ps.drop (i + 1), ps.take i ++ [ps[i]] ++ ps.drop i, ps.take i ++ [lateP n ps[i]] ++ ps.drop (i + 1)] (by simp) fun q hq => by
        rcases List.mem_cons.mp hq with rfl | hq
        · exact n1
        rcases List.mem_cons.mp hq with rfl | hq
        · exact n2
        rcases List.mem_cons.mp hq with rfl | hq
        · exact m3
        rcases List.mem_cons.mp hq with rfl | hq
        · exact m4
        · rw [List.mem_singleton.mp hq]
          exact m5
end K03

/-! k03: the law. -/
namespace K03
open PySem PySem.Spec PyProof.Rows L2 MS
theorem catP {s ds : List D} {m : T (List D)} (hm : m = .ret ds) (hz : s.length + ds.length ≤ 10000000) : (T.bind (.ret (D.lst s)) fun x => T.bind (T.bind m fun ds => .ret (.lst ds)) fun y => catM x y) = .ret (s ++ ds) := by
  refine bind_ret' (a := D.lst s) rfl ?_
  refine bind_ret' (bind_ret' hm rfl) ?_
  exact cat_le hz
theorem lst1M {m : T D} {d : D} (h : m = .ret d) : T.bind (consM m (.ret [])) lstM = .ret [d] := bind_ret' (consM_eq h rfl) (lst1 _)
theorem lst2M {m m2 : T D} {d d2 : D} (h : m = .ret d) (h2 : m2 = .ret d2) : T.bind (consM m (consM m2 (.ret []))) lstM = .ret [d, d2] := bind_ret' (consM_eq h (consM_eq h2 rfl)) (lst2 _ _)
theorem lst3M {m m2 m3 : T D} {d d2 d3 : D} (h : m = .ret d) (h2 : m2 = .ret d2) (h3 : m3 = .ret d3) : T.bind (consM m (consM m2 (consM m3 (.ret [])))) lstM = .ret [d, d2, d3] := bind_ret' (consM_eq h (consM_eq h2 (consM_eq h3 rfl))) (lst3 _ _ _)
theorem lst5M {m m2 m3 m4 m5 : T D} {d d2 d3 d4 d5 : D} (h : m = .ret d) (h2 : m2 = .ret d2) (h3 : m3 = .ret d3) (h4 : m4 = .ret d4) (h5 : m5 = .ret d5) : T.bind (consM m (consM m2 (consM m3 (consM m4 (consM m5 (.ret [])))))) lstM = .ret [d, d2, d3, d4, d5] := bind_ret' (consM_eq h (consM_eq h2 (consM_eq h3 (consM_eq h4 (consM_eq h5 rfl))))) (lst5 _ _ _ _ _)
theorem webM {names : List D} {ws : List Nat} {lots : D} : m__law_web [.tup [.tup names, .tup (L ws), lots]] = .ret (web (.tup names) (.tup (L ws)) lots) := rfl
theorem wr {f : List D → T D} {a b v : D} (h : f [a, b] = .ret v) : T.bind (consM (.ret a) (consM (.ret b) (.ret []))) f = .ret v := bind_ret' (a := [a, b]) rfl h
theorem wr3 {f : List D → T D} {a b c v : D} (h : f [a, b, c] = .ret v) : T.bind (consM (.ret a) (consM (.ret b) (consM (.ret c) (.ret [])))) f = .ret v := bind_ret' (a := [a, b, c]) rfl h
theorem ok_if {α : Type} {n : Nat} {a b : T α} {Q : α → Prop} (h : n < 10000000) (ha : a.ok Q) : (if n < sizeLine then a else b).ok Q := by
  rw [if_pos (by have := sizeLine_val; omega)]
  exact ha
theorem all_str {names : List D} (h : ∀ y ∈ names, ∃ z : Str, y = .str z ∧ z.length = 2 ∧ ∀ c ∈ z.cps.toList, c < 128) : ∃ nm : List Str, names = nm.map D.str ∧ ∀ z ∈ nm, z.length = 2 ∧ Asc z := by
  induction names with
  | nil => exact ⟨[], rfl, fun _ h => nomatch h⟩
  | cons y names ih =>
    obtain ⟨z, rfl, h1, h2⟩ := h y (List.mem_cons_self ..)
    obtain ⟨nm, rfl, h3⟩ := ih fun w hw => h w (List.mem_cons_of_mem _ hw)
    refine ⟨z :: nm, rfl, fun w hw => ?_⟩
    rcases List.mem_cons.mp hw with rfl | hw
    · exact ⟨h1, h2⟩
    · exact h3 w hw
/-- rule == parts, rule == 0 -/
theorem eq_any1 {ps qs : List Part} : (T.bind (.ret (rule ps)) fun x => T.bind (.ret (encP qs)) fun y => eqAnyM ("Rule" : Str) m_Rule___eq__ x y) = .ret (.bl false) := by kernel_rfl
theorem eq_any2 {ps : List Part} : (T.bind (.ret (rule ps)) fun x => T.bind (.ret (.int 0)) fun y => eqAnyM ("Rule" : Str) m_Rule___eq__ x y) = .ret (.bl false) := by kernel_rfl
theorem sz_part {p : Part} (h : p.len ≤ 100) : sz p.enc ≤ 110 := by
  cases p with
  | apart l =>
    have : l.length ≤ 100 := h
    show (1 + (szs (L l) + 1 + 0)) + 1 ≤ 110
    rw [szs_L]; omega
  | most n l =>
    have : l.length ≤ 100 := h
    show (1 + (1 + (szs (L l) + 1 + 0))) + 1 ≤ 110
    rw [szs_L]; omega
  | room ws b =>
    have : ws.length ≤ 100 := h
    show (1 + (szs (L ws) + 1 + (1 + 0))) + 1 ≤ 110
    rw [szs_L]; omega
theorem szs_parts : ∀ {ps : List Part}, (∀ p ∈ ps, p.len ≤ 100) → szs (ps.map Part.enc) ≤ 110 * ps.length
  | [], _ => Nat.zero_le _
  | p :: ps, h => by
    have h1 := sz_part (h p (List.mem_cons_self ..))
    have ih := szs_parts fun q hq => h q (List.mem_cons_of_mem _ hq)
    show sz p.enc + szs (ps.map Part.enc) ≤ _
    rw [List.length_cons, Nat.mul_succ]
    omega
theorem plain_part {p : Part} (h : p.len ≤ 1000) : Plain p.enc := by
  have lot : ∀ {l : List Nat}, l.length ≤ 1000 → Plain (.tup (L l)) := fun h => plain_lot h
  cases p with
  | apart l =>
    refine .tup (fun x hx => ?_) (by simp)
    rcases List.mem_cons.mp hx with rfl | hx
    · exact .str _ strOk_apart
    · rw [List.mem_singleton.mp hx]; exact lot h
  | most n l =>
    refine .tup (fun x hx => ?_) (by simp)
    rcases List.mem_cons.mp hx with rfl | hx
    · exact .str _ strOk_most
    rcases List.mem_cons.mp hx with rfl | hx
    · exact .int _
    · rw [List.mem_singleton.mp hx]; exact lot h
  | room ws b =>
    refine .tup (fun x hx => ?_) (by simp)
    rcases List.mem_cons.mp hx with rfl | hx
    · exact .str _ strOk_room
    rcases List.mem_cons.mp hx with rfl | hx
    · exact lot h
    · rw [List.mem_singleton.mp hx]; exact .int _
theorem pair_parts {ps : List Part} (h : ∀ p ∈ ps, p.len ≤ 100) (hl : ps.length ≤ 100) : Pair (.tup [encP ps, encP ps]) := by
  refine pair_of (.tup (fun x hx => ?_) (by rw [List.length_map]; omega)) ?_
  · obtain ⟨p, hp, rfl⟩ := List.mem_map.mp hx
    exact plain_part (by have := h p hp; omega)
  · have := szs_parts h
    show szs (ps.map Part.enc) + 1 ≤ 1000000
    omega
theorem pair_str {x : Str} (h : Asc x) : Pair (.tup [.str x, .str x]) := pair_of (.str x h.ok) (by show 1 ≤ 1000000; omega)
theorem lets_app (a b : List Part) (l : List Nat) : letsAll (a ++ b) l = (letsAll a l && letsAll b l) := List.all_append
theorem lets_rev (a : List Part) (l : List Nat) : letsAll a.reverse l = letsAll a l := by
  unfold letsAll
  rw [List.all_reverse]
theorem len_of_ok {n : Nat} {p : Part} (h : p.Ok n) (hn : n ≤ 8) : p.len ≤ 8 := by
  have asc : ∀ {l : List Nat}, l.Pairwise (· < ·) → (∀ x ∈ l, x < n) → l.length ≤ 8 := fun {l} h1 h2 => by
    have := mem_lots h1 h2
    exact lots_small hn l this
  cases p with
  | apart l => exact asc h.1 h.2.2
  | most k l => exact asc h.1 h.2.2
  | room ws b => have : ws.length = n := h; show ws.length ≤ 8; omega
theorem law_ok' : m_law.ok fun d => d = .bl true := by
  have sz := sizeLine_val
  unfold m_law
  with_reducible refine ok_bindE (a := []) ?_ ?_
  · exact lst0
  with_reducible refine ok_bindE (rgM (k := 9) (by show 9 ≤ 1000; omega)) ?_
  refine forM_ok (P := fun j s => PS (100 * j) s) 0 (fun j d hd s hs nx hnx => ?_) (fun s hs => ?_) _ PS.nil
  · obtain ⟨t, rfl, ht⟩ := in_range (List.mem_of_getElem? hd)
    rw [Nat.zero_add] at hs hnx
    have hj : j < 9 := by
      have := (List.getElem?_eq_some_iff.mp hd).1
      rwa [len_range] at this
    have hsz := hs.1
    with_reducible refine ok_bind ?_
    with_reducible refine ok_bindE (a := [.deal, .int (2 : Nat), .int (6 : Nat)]) ?_ ?_
    · rfl
    refine ok_mono (stockN (by omega) (by omega)) fun d hst => ?_
    obtain ⟨names, ws, lots, rfl, h2, h7, hw, hw3, hlo, hst0⟩ := hst
    obtain ⟨nm, rfl, hnm⟩ := all_str hst0
    rw [List.length_map] at h2 h7 hw hlo
    with_reducible refine ok_bindE (a := web (nmD nm) (.tup (L ws)) (.tup lots)) ?_ ?_
    · exact bind_ret' (a := [.tup [nmD nm, .tup (L ws), .tup lots]]) rfl webM
    with_reducible refine ok_bindE (a := D.int (nm.length : Nat)) ?_ ?_
    · refine bind_ret' (a := [nmD nm]) (consM_eq (bind_ret' rfl (bind_ret' rfl (ix_0 _ _))) rfl) ?_
      show T.ret (D.int (((nm.map D.str).length : Nat) : Int)) = _
      rw [List.length_map]
    have hN : Nms nm := ⟨fun z hz => by have := (hnm z hz).1; omega, fun z hz => (hnm z hz).2, by omega⟩
    obtain ⟨n, hn⟩ : ∃ n, nm.length = n := ⟨_, rfl⟩
    have hdn : (nm.map D.str).length = n := by rw [List.length_map]; exact hn
    rw [hn] at h2 h7 hw ⊢
    have h8 : n ≤ 8 := by omega
    with_reducible refine ok_bind ?_
    with_reducible refine ok_bindE (a := [.deal, .int (n : Nat), .int (5 : Nat)]) ?_ ?_
    · rfl
    refine ok_mono (parts_few (by omega) h8 (by omega)) fun d hpt => ?_
    obtain ⟨ps, rfl, hp, hl, hsf⟩ := hpt
    have hpn : Rok nm.length ps := by rw [hn]; exact hp
    have hf : ∀ p ∈ ps, p.Few := fun p h => (hsf p h).2
    have hall : AllOk n ps := fun p h => ⟨hp.ok p h, (hsf p h).1⟩
    have hlen : ∀ p ∈ ps, p.len ≤ 8 := fun p h => len_of_ok (hp.ok p h).1 h8
    have lens : Lens ps := ⟨by show ps.length ≤ 1000; omega, fun p h => by have := hlen p h; show p.len ≤ 1000; omega⟩
    have hp2 : Rok n (ps ++ ps) := ⟨fun p h => by rcases List.mem_append.mp h with h | h <;> exact hp.ok p h, by show (ps ++ ps).length ≤ 1000; rw [List.length_append]; omega⟩
    have hf2 : ∀ p ∈ ps ++ ps, p.Few := fun p h => by rcases List.mem_append.mp h with h | h <;> exact hf p h
    have lens2 : Lens (ps ++ ps) := ⟨hp2.len, fun p h => (hp2.ok p h).2⟩
    have hpr : Rok n ps.reverse := ⟨fun p h => hp.ok p (List.mem_reverse.mp h), by rw [List.length_reverse]; exact hp.len⟩
    with_reducible refine ok_bindE (a := rule ps) ?_ ?_
    · exact cond_same (gt0 t) (mk_rule rfl) (mk_rule rfl)
    -- five
    have made : T.bind (consM (.ret (encP ps)) (.ret [])) (insM ("Rule" : Str) [("parts" : Str)]) = .ret (rule ps) := mk_rule rfl
    with_reducible refine ok_bindE (a := s ++ [.tup [encP ps, encP ps], .tup [.bl true, .bl true], .tup [.bl true, .bl true], .tup [.bl false, .bl false], .tup [.bl false, .bl false]]) ?_ ?_
    · refine catP (lst5M (Tup2 rfl rfl) (Tup2 (eq_made lens lens rfl made (by simp)) rfl) (Tup2 (eq_made lens lens made rfl (by simp)) rfl) (Tup2 eq_any1 rfl) (Tup2 eq_any2 rfl)) (by show s.length + 5 ≤ _; omega)
    have hs1 := hs.cat (l := [.tup [encP ps, encP ps], .tup [.bl true, .bl true], .tup [.bl true, .bl true], .tup [.bl false, .bl false], .tup [.bl false, .bl false]]) (Nat.le_refl 5) (all_cons (pair_parts (fun p h => by have := hlen p h; omega) (by omega)) (all_cons (pair_b _) (all_cons (pair_b _) (all_cons (pair_b _) (all1 (pair_b _))))))
    generalize s ++ [.tup [encP ps, encP ps], .tup [.bl true, .bl true], .tup [.bl true, .bl true], .tup [.bl false, .bl false], .tup [.bl false, .bl false]] = s1 at hs1 ⊢
    have hz1 := hs1.1
    with_reducible refine ok_bindE (a := s1 ++ [.tup [.bl true, .bl true]]) ?_ ?_
    · refine catP (lst1M (Tup2 (eq_made lens lens rfl (mk_rule ?_) (by simp)) rfl)) (by show s1.length + 1 ≤ _; omega)
      exact bind_ret' (a := [D.lst (ps.map Part.enc)]) rfl rfl
    have hs2 := hs1.snoc (pair_b true)
    generalize s1 ++ [.tup [.bl true, .bl true]] = s2 at hs2 ⊢
    have hz2 := hs2.1
    -- the text
    have qt := rule_text (W := .tup (L ws)) (Lo := .tup lots) hN hpn hf
    with_reducible refine ok_bindE (kw2 qt) ?_
    with_reducible refine ok_bindE (a := .tup [.str (textT nm ps), .str (textT nm ps)]) ?_ ?_
    · exact Tup2 rfl (bind_ret' (a := [nmD nm, encP ps]) (consM_eq (bind_ret' rfl (bind_ret' rfl (ix_0 _ _))) rfl) (law_text hN hpn hf))
    with_reducible refine ok_if (by omega) ?_
    have hs3 := hs2.snoc (pair_str (text_asc hN hf))
    generalize s2 ++ [.tup [.str (textT nm ps), .str (textT nm ps)]] = s3 at hs3 ⊢
    have hz3 := hs3.1
    -- near ones
    with_reducible refine ok_bind ?_
    with_reducible refine ok_bind ?_
    with_reducible refine ok_bindE (a := [.deal, encP ps, .int (n : Nat)]) ?_ ?_
    · rfl
    refine ok_mono (near (by omega) h8 (by omega) fun p h => by have := hlen p h; omega) fun d hnr => ?_
    obtain ⟨ls, rfl, hls, hnear⟩ := hnr
    with_reducible refine ok_eq (a := ls.map encP) ?_ ?_
    · rfl
    refine forM_ok (P := fun i s => PS (100 * j + 7 + 2 * i) s) 0 (fun i d hd s hs nx hnx => ?_) (fun s hs => ?_) _ hs3
    · rw [Nat.zero_add] at hs hnx
      obtain ⟨q, hq, rfl⟩ := List.mem_map.mp (List.mem_of_getElem? hd)
      have hi : i < 6 := by
        have := (List.getElem?_eq_some_iff.mp hd).1
        rw [List.length_map] at this
        omega
      have hz := hs.1
      obtain ⟨hne, hql, hqp⟩ := hnear q hq
      have lq : Lens q := ⟨by show q.length ≤ 1000; omega, fun p h => by have := hqp p h; show p.len ≤ 1000; omega⟩
      have mq : T.bind (consM (.ret (encP q)) (.ret [])) (insM ("Rule" : Str) [("parts" : Str)]) = .ret (rule q) := mk_rule rfl
      with_reducible refine ok_bindE (a := s ++ [.tup [.bl false, .bl false], .tup [.bl false, .bl false]]) ?_ ?_
      · exact catP (lst2M (Tup2 (eq_made lens lq rfl mq (decide_eq_false fun e => hne e.symm)) rfl) (Tup2 (eq_made lq lens mq rfl (decide_eq_false hne)) rfl)) (by show s.length + 2 ≤ _; omega)
      exact hnx _ ((hs.cat (l := [.tup [.bl false, .bl false], .tup [.bl false, .bl false]]) (Nat.le_refl 2) (all_cons (pair_b _) (all1 (pair_b _)))).mono (by omega))
    · have hs4 : PS (100 * j + 19) s := hs.mono (by rw [List.length_map]; omega)
      have hz4 := hs4.1
      with_reducible refine ok_bindE (a := rule (ps ++ ps)) ?_ ?_
      · refine mk_rule ?_
        exact bind_ret' (a := encP ps) rfl (bind_ret' (a := encP ps) rfl (encP_app (by omega)))
      with_reducible refine ok_bindE (a := rule ps.reverse) ?_ ?_
      · refine mk_rule ?_
        show T.ret (D.tup (ps.map Part.enc).reverse) = _
        rw [← List.map_reverse]
      have e0 : decide (ps = ps ++ ps) = decide (ps.length = 0) := by
        by_cases q : ps = []
        · subst q; rfl
        · have : ps.length ≠ 0 := fun z => q (List.length_eq_zero_iff.mp z)
          rw [decide_eq_false this, decide_eq_false fun e => this (by have := congrArg List.length e; rw [List.length_append] at this; omega)]
      have len0 : (T.bind (T.bind (consM (.ret (encP ps)) (.ret [])) lenM) fun x => T.bind (.ret (.int 0)) fun y => cmpM .Eq x y) = .ret (.bl (decide (ps.length = 0))) := by
        refine bind_ret' (a := .int (ps.length : Nat)) ?_ ?_
        · show T.ret (D.int (((ps.map Part.enc).length : Nat) : Int)) = _
          rw [List.length_map]
        · refine bind_ret' rfl ((eqI _ _).trans ?_)
          congr 2
          by_cases q : ps.length = 0
          · rw [decide_eq_true q, decide_eq_true (by omega)]
          · rw [decide_eq_false q, decide_eq_false (by omega)]
      have same1 := same_rule (weights := .tup (L ws)) (lots := .tup lots) hdn h8 hp hp2
      rw [first_none.mpr fun l _ => by rw [lets_app, Bool.and_self]] at same1
      have same2 := same_rule (weights := .tup (L ws)) (lots := .tup lots) hdn h8 hp hpr
      rw [first_none.mpr fun l _ => by rw [lets_rev]] at same2
      with_reducible refine ok_bindE (a := s ++ [.tup [.non, .non], .tup [.non, .non], .tup [.bl (decide (ps.length = 0)), .bl (decide (ps.length = 0))]]) ?_ ?_
      · exact catP (lst3M (Tup2 (wr3 same1) rfl) (Tup2 (wr3 same2) rfl) (Tup2 (eq_made lens lens2 rfl rfl e0) len0)) (by show s.length + 3 ≤ _; omega)
      have hs5 := hs4.cat (l := [.tup [.non, .non], .tup [.non, .non], .tup [.bl (decide (ps.length = 0)), .bl (decide (ps.length = 0))]]) (Nat.le_refl 3) (all_cons pair_n (all_cons pair_n (all1 (pair_b _))))
      generalize s ++ [.tup [.non, .non], .tup [.non, .non], .tup [.bl (decide (ps.length = 0)), .bl (decide (ps.length = 0))]] = s5 at hs5 ⊢
      have hz5 := hs5.1
      have qt2 := rule_text (W := .tup (L ws)) (Lo := .tup lots) hN (ps := ps ++ ps) (by rw [hn]; exact hp2) hf2
      with_reducible refine ok_bindE (a := s5 ++ [.tup [.bl (decide (ps.length = 0)), .bl (decide (ps.length = 0))]]) ?_ ?_
      · refine catP (lst1M (Tup2 ?_ len0)) (by show s5.length + 1 ≤ _; omega)
        refine bind_ret' (wr qt2) (bind_ret' rfl ?_)
        refine (eq_s (text_asc hN hf2).ok (text_asc hN hf).ok).trans ?_
        rw [text_twice]
      have hs6 := hs5.snoc (pair_b (decide (ps.length = 0)))
      generalize s5 ++ [.tup [.bl (decide (ps.length = 0)), .bl (decide (ps.length = 0))]] = s6 at hs6 ⊢
      have hz6 := hs6.1
      have hk : n ≤ lineN := by show n ≤ 1000; omega
      with_reducible refine ok_bind ?_
      with_reducible refine ok_bindE (a := [D.deal, .lst (L (List.range' 0 (n - 0))), .int (n : Nat)]) ?_ ?_
      · exact consM_eq rfl (consM_eq (rng_lst hk) rfl)
      refine lot_then (by show 0 ≤ 1000; omega) hk (by omega) hk fun r hrp hx hr0 hrl => ?_
      have hrm : r ∈ lotsN n := mem_lots hrp fun x z => (hx x z).2
      have hrl' : r.length ≤ lineN := by show r.length ≤ 1000; omega
      with_reducible refine ok_bindE (a := .tup [.bl (letsAll ps r), .bl (letsAll ps r)]) ?_ ?_
      · refine Tup2 ?_ ?_
        · have q := lets hpr hrl' fun x z => (hx x z).2
          have q2 : m_lets [rule ps.reverse, encM r] = .ret (.bl (letsAll ps.reverse r)) := q
          rw [lets_rev] at q2
          exact wr q2
        · refine bind_ret' (a := [encP ps, encM (marksOf n r)]) (consM_eq rfl (consM_eq ?_ rfl)) ?_
          · exact wr (marks hk hrl')
          · have mk := mk_marksOf n r
            have q := fine mk.1 mk.2 hall
            rw [lot_marks h8 r hrm] at q
            exact q
      with_reducible refine ok_if (by omega) ?_
      exact hnx _ ((hs6.snoc (pair_b _)).mono (by omega))
  · have hs' : PS 900 s := hs.mono (by rw [len_range]; omega)
    have hz := hs'.1
    have e1 : (T.bind (T.bind (consM (T.bind (.ret []) tupM) (.ret [])) (insM ("Rule" : Str) [("parts" : Str)])) fun x => T.bind (T.bind (consM (T.bind (T.bind (.ret []) lstM) fun ds => .ret (D.lst ds)) (.ret [])) (insM ("Rule" : Str) [("parts" : Str)])) fun y => insEqM ("Rule" : Str) m_Rule___eq__ x y) = .ret (.bl false) := by kernel_rfl
    have hA : Nms ["a"] := ⟨fun z h => by rw [List.mem_singleton.mp h]; decide +kernel, fun z h => by rw [List.mem_singleton.mp h]; show ∀ c ∈ (("a" : Str)).cps.toList, c < 128; decide +kernel, by decide⟩
    have e2 := rule_text (W := .tup [.int 1]) (Lo := .tup [.tup [.tup []]]) hA (ps := []) ⟨fun p h => (nomatch h), by show 0 ≤ 1000; omega⟩ fun p h => (nomatch h)
    have e3 : textT ["a"] [] = "" := by decide +kernel
    rw [e3] at e2
    have es : Asc "" := by
      show ∀ c ∈ (("" : Str)).cps.toList, c < 128
      decide +kernel
    refine ok_eq (a := .bl true) ?_ rfl
    refine bind_ret' (a := [D.lst (s ++ [.tup [.bl false, .bl false], .tup [.str "", .str ""]])]) (consM_eq ?_ rfl) (all_pairs (by rw [List.length_append]; show s.length + 2 ≤ _; omega) (hs'.cat (l := [.tup [.bl false, .bl false], .tup [.str "", .str ""]]) (Nat.le_refl 2) (all_cons (pair_b _) (all1 (pair_str es)))).2)
    refine bind_ret' rfl ?_
    refine bind_ret' (a := D.lst [.tup [.bl false, .bl false], .tup [.str "", .str ""]]) ?_ (add_l (by simp; omega))
    refine bind_ret' (lst2M (Tup2 e1 rfl) (Tup2 ?_ rfl)) rfl
    refine bind_ret' (a := [web (nmD ["a"]) (.tup [.int 1]) (.tup [.tup [.tup []]]), rule []]) (consM_eq ?_ (consM_eq (mk_rule (bind_ret' rfl tup0)) rfl)) e2
    exact bind_ret' (consM_eq (Tup1 rfl) (consM_eq (Tup1 rfl) (consM_eq (Tup1 (Tup1 (bind_ret' rfl tup0))) rfl))) rfl
theorem tru_of {m : T D} (h : m.ok fun d => d = .bl true) : Tru m := h.of
theorem hk2 : Tru m_law := by
  with_reducible exact tru_of law_ok'
end K03

/-! the derivations -/
namespace K03
open PySem PySem.Spec PyProof.Rows L2 MS
/-! ### the text -/
def top (i : Nat) : Stmt := PySem.Challenge.pw_maystand_k03_rules_keep_their_parts.main.body.getD i (.Pass ⟨0, 0, 0, 0⟩)
def clsB : Stmt → List Stmt
  | .ClassDef (body := b) .. => b
  | _ => []
def cbody (i j : Nat) : Stmt := (clsB (top i)).getD j (.Pass ⟨0, 0, 0, 0⟩)
def asgV : List Stmt → Expr
  | .Assign _ e _ :: _ => e
  | _ => .Constant .none 0 ⟨0, 0, 0, 0⟩
def GG : List (Str × GE) := [
  (("abs" : Str), GE.blt),
  (("bool" : Str), GE.blt),
  (("dict" : Str), GE.blt),
  (("int" : Str), GE.blt),
  (("isinstance" : Str), GE.blt),
  (("len" : Str), GE.blt),
  (("list" : Str), GE.blt),
  (("max" : Str), GE.blt),
  (("min" : Str), GE.blt),
  (("range" : Str), GE.blt),
  (("sorted" : Str), GE.blt),
  (("str" : Str), GE.blt),
  (("sum" : Str), GE.blt),
  (("tuple" : Str), GE.blt),
  (("zip" : Str), GE.blt),
  (("APART" : Str), GE.con (.str "apart")),
  (("MOST" : Str), GE.con (.str "most")),
  (("ROOM" : Str), GE.con (.str "room")),
  (("COLON" : Str), GE.con (.str ":")),
  (("LETS" : Str), GE.tab t_LETS),
  (("TELLS" : Str), GE.tab t_TELLS),
  (("Rule" : Str), GE.cls [("parts" : Str)] (some (3, m_Rule___eq__))),
  (("Web" : Str), GE.cls [("names" : Str), ("weights" : Str), ("lots" : Str)] (some (3, m_Web___eq__))),
  (("is_within" : Str), GE.fn 1 [("lot" : Str), ("other" : Str)] m_is_within []),
  (("cut" : Str), GE.fn 1 [("lot" : Str), ("other" : Str)] m_cut []),
  (("all_lots" : Str), GE.fn 1 [("things" : Str)] m_all_lots []),
  (("apart_lets" : Str), GE.fn 2 [("part" : Str), ("standing" : Str)] m_apart_lets []),
  (("most_lets" : Str), GE.fn 2 [("part" : Str), ("standing" : Str)] m_most_lets []),
  (("weight_in" : Str), GE.fn 1 [("part" : Str), ("standing" : Str)] m_weight_in []),
  (("room_lets" : Str), GE.fn 2 [("part" : Str), ("standing" : Str)] m_room_lets []),
  (("part_lets" : Str), GE.fn 3 [("part" : Str), ("standing" : Str)] m_part_lets []),
  (("lets" : Str), GE.fn 4 [("rule" : Str), ("standing" : Str)] m_lets []),
  (("things_of" : Str), GE.fn 1 [("web" : Str)] m_things_of []),
  (("named_things" : Str), GE.fn 1 [("web" : Str), ("standing" : Str)] m_named_things []),
  (("size_and_lot" : Str), GE.fn 1 [("lot" : Str)] m_size_and_lot []),
  (("lots_by_size" : Str), GE.fn 4 [("web" : Str)] m_lots_by_size []),
  (("same_rule" : Str), GE.fn 5 [("web" : Str), ("one" : Str), ("other" : Str)] m_same_rule []),
  (("apart_line" : Str), GE.fn 2 [("web" : Str), ("part" : Str)] m_apart_line []),
  (("most_line" : Str), GE.fn 2 [("web" : Str), ("part" : Str)] m_most_line []),
  (("room_line" : Str), GE.fn 1 [("web" : Str), ("part" : Str)] m_room_line []),
  (("part_line" : Str), GE.fn 3 [("web" : Str), ("part" : Str)] m_part_line []),
  (("rule_text" : Str), GE.fn 4 [("web" : Str), ("rule" : Str)] m_rule_text [([("rule" : Str), ("web" : Str)], [1, 0])]),
  (("_law_deal" : Str), GE.fn 1 [("script" : Str), ("salt" : Str)] m__law_deal []),
  (("_law_any" : Str), GE.fn 1 [("deal" : Str), ("bound" : Str)] m__law_any []),
  (("_law_of" : Str), GE.fn 2 [("deal" : Str), ("some" : Str)] m__law_of []),
  (("_law_is_kind" : Str), GE.fn 1 [("told" : Str), ("due" : Str)] m__law_is_kind []),
  (("_law_same" : Str), GE.fn 2 [("told" : Str), ("due" : Str)] m__law_same []),
  (("_law_all" : Str), GE.fn 3 [("pairs" : Str)] m__law_all []),
  (("_law_drawn_few" : Str), GE.fn 2 [("deal" : Str), ("things" : Str), ("most" : Str)] m__law_drawn_few []),
  (("_law_bearers" : Str), GE.fn 3 [("deal" : Str), ("thing" : Str)] m__law_bearers []),
  (("_law_stock" : Str), GE.fn 4 [("deal" : Str), ("least" : Str), ("most" : Str)] m__law_stock []),
  (("_law_part" : Str), GE.fn 3 [("deal" : Str), ("many" : Str)] m__law_part []),
  (("_law_parts_of_rule" : Str), GE.fn 4 [("deal" : Str), ("many" : Str), ("most" : Str)] m__law_parts_of_rule []),
  (("_law_web" : Str), GE.fn 4 [("stock" : Str)] m__law_web []),
  (("_law_marks" : Str), GE.fn 1 [("many" : Str), ("lot" : Str)] m__law_marks []),
  (("_law_part_fine" : Str), GE.fn 1 [("part" : Str), ("marks" : Str)] m__law_part_fine []),
  (("_law_fine" : Str), GE.fn 2 [("parts" : Str), ("marks" : Str)] m__law_fine []),
  (("_law_rule_row" : Str), GE.fn 1 [("names" : Str), ("part" : Str)] m__law_rule_row []),
  (("_law_rule_text" : Str), GE.fn 2 [("names" : Str), ("parts" : Str)] m__law_rule_text []),
  (("_law_near_parts" : Str), GE.fn 2 [("deal" : Str), ("parts" : Str), ("many" : Str)] m__law_near_parts []),
  (("Rule" : Str), GE.clv),
  (("Web" : Str), GE.clv)]
abbrev GN : List Str := GG.map (·.1)
abbrev theF (P : Program) (w : World) (K : PySem.W.Frag) (mg : Str → Option Value) (base : Heap) : Fx := ⟨P, w, K, mg, base, L2.CX P w, GG, CLSS, EXS⟩
section
variable {P : Program} {w : World} {K : PySem.W.Frag} {mg : Str → Option Value} {base : Heap}
def S_is_within (E : XK) : Sx := { N := [("lot" : Str), ("other" : Str), (".0" : Str), ("thing" : Str)], sc := (defScope (top 1)), L := 0, vl := [0, 1], cl := [0, 1], ll := [0, 1], gl := [], kn := [], E := E }
def S_is_within_1 : Sx := { N := [("lot" : Str), ("other" : Str), (".0" : Str), ("thing" : Str)], sc := relS { kind := .function, names := [((".0" : Str), NameKind.local), (("thing" : Str), NameKind.local), (("other" : Str), NameKind.free)], isGenerator := false, isCoroutine := false, more := [] : Scope } (S_is_within E0).sc, L := (S_is_within E0).L, vl := [2, 3, 1], cl := [], ll := [2, 3], gl := [], kn := [], E := E0 }
theorem b_is_within (E : XK) : ∀ ds : List D, ds.length = 2 → Bl (theF P w K mg base) (S_is_within E) (startD [("lot" : Str), ("other" : Str), (".0" : Str), ("thing" : Str)] ds) (defBody (top 1)) J0 (m_is_within ds)
  | [v_lot, v_other], _ => (show Bl (theF P w K mg base) (S_is_within E) [some (false, v_lot), some (false, v_other), none, none] _ _ _ from (bl_ret (ev_cmp (comp (S' := S_is_within_1) [((".0" : Str), 2), (("thing" : Str), 3)] (evi_seq (ev_loc 0)) (cd1i (evg_1 3) (fun v_thing1 => (atT (ρ := [some (false, v_lot), some (false, v_other), none, some (false, v_thing1)]) (evt_cmp (ev_loc 3).o (ev_loc 1).o))) (fun v_thing1 => (atE (ρ := [some (false, v_lot), some (false, v_other), none, some (false, v_thing1)]) (ev_loc 3)))) (hG := rfl) (hc := by kernel_rfl)).v.o (ev_lst evv_nil).v.o)))
def S_cut (E : XK) : Sx := { N := [("lot" : Str), ("other" : Str), (".0" : Str), ("thing" : Str)], sc := (defScope (top 2)), L := 0, vl := [0, 1], cl := [0, 1], ll := [0, 1], gl := [13], kn := [], E := E }
def S_cut_1 : Sx := { N := [("lot" : Str), ("other" : Str), (".0" : Str), ("thing" : Str)], sc := relS { kind := .function, names := [((".0" : Str), NameKind.local), (("thing" : Str), NameKind.local), (("other" : Str), NameKind.free)], isGenerator := false, isCoroutine := false, more := [] : Scope } (S_cut E0).sc, L := (S_cut E0).L, vl := [2, 3, 1], cl := [], ll := [2, 3], gl := [], kn := [], E := E0 }
theorem b_cut (E : XK) : ∀ ds : List D, ds.length = 2 → Bl (theF P w K mg base) (S_cut E) (startD [("lot" : Str), ("other" : Str), (".0" : Str), ("thing" : Str)] ds) (defBody (top 2)) J0 (m_cut ds)
  | [v_lot, v_other], _ => (show Bl (theF P w K mg base) (S_cut E) [some (false, v_lot), some (false, v_other), none, none] _ _ _ from (bl_ret (ev_tuple 13 (eva_cons (comp (S' := S_cut_1) [((".0" : Str), 2), (("thing" : Str), 3)] (evi_seq (ev_loc 0)) (cd1i (evg_1 3) (fun v_thing2 => (atT (ρ := [some (false, v_lot), some (false, v_other), none, some (false, v_thing2)]) (evt_cmp (ev_loc 3).o (ev_loc 1).o))) (fun v_thing2 => (atE (ρ := [some (false, v_lot), some (false, v_other), none, some (false, v_thing2)]) (ev_loc 3)))) (hG := rfl) (hc := by kernel_rfl)).v.o eva_nil))))
def S_all_lots (E : XK) : Sx := { N := [("things" : Str), ("found" : Str), ("thing" : Str), (".0" : Str), ("lot" : Str)], sc := (defScope (top 3)), L := 0, vl := [0, 1, 2], cl := [0, 1, 2], ll := [0, 1, 2], gl := [6, 10], kn := [], E := E }
def S_all_lots_1 : Sx := { N := [("things" : Str), ("found" : Str), ("thing" : Str), (".0" : Str), ("lot" : Str)], sc := relS { kind := .function, names := [((".0" : Str), NameKind.local), (("lot" : Str), NameKind.local), (("thing" : Str), NameKind.free)], isGenerator := false, isCoroutine := false, more := [] : Scope } (S_all_lots E0).sc, L := (S_all_lots E0).L, vl := [3, 4, 2], cl := [], ll := [3, 4], gl := [], kn := [], E := E0 }
theorem b_all_lots (E : XK) : ∀ ds : List D, ds.length = 1 → Bl (theF P w K mg base) (S_all_lots E) (startD [("things" : Str), ("found" : Str), ("thing" : Str), (".0" : Str), ("lot" : Str)] ds) (defBody (top 3)) J0 (m_all_lots ds)
  | [v_things], _ => (show Bl (theF P w K mg base) (S_all_lots E) [some (false, v_things), none, none, none, none] _ _ _ from (bl_setL 1 (ev_lst (evv_cons (ev_tup evv_nil) evv_nil)) fun v_found3 => (at_ (ρ := [some (false, v_things), some (true, .lst v_found3), none, none, none]) (bl_for1 (St := (List D)) (fun s4 => [some (false, v_things), some (true, .lst s4), none, none, none]) (s0 := v_found3) (evi_seq (evl_sorted 10 (eva_cons (ev_loc 0).o eva_nil)).v) (evg_1 2) (.keep (.keep (.keep (.keep (.keep .nil))))) (fun v_thing7 s4 nx5 bk6 => (at_ (ρ := [some (false, v_things), some (true, .lst s4), some (false, v_thing7), none, none]) (bl_ext 1 (comp (S' := S_all_lots_1) [((".0" : Str), 3), (("lot" : Str), 4)] (evi_seq (evl_list 6 (eva_cons (ev_own 1) eva_nil)).v) (cd1 (evg_1 4) (fun v_lot9 => (atE (ρ := [some (false, v_things), some (true, .lst s4), some (false, v_thing7), none, some (false, v_lot9)]) (ev_add (ev_loc 4).o (ev_tup (evv_cons (ev_loc 2) evv_nil)).o)))) (hG := rfl) (hc := by kernel_rfl)).v fun v_l8 => (at_ (ρ := [some (false, v_things), some (true, .lst (s4 ++ v_l8)), some (false, v_thing7), none, none]) (bl_nil ⟨(s4 ++ v_l8), (.keep (.keep (.drop (.keep (.keep .nil))))), rfl⟩))))) fun s4 => (at_ (ρ := [some (false, v_things), some (true, .lst s4), none, none, none]) (bl_ret (evl_sorted 10 (eva_cons (ev_own 1) eva_nil)).v))))))
def S_weight_in (E : XK) : Sx := { N := [("part" : Str), ("standing" : Str), (".0" : Str), ("thing" : Str)], sc := (defScope (top 11)), L := 0, vl := [0, 1], cl := [0, 1], ll := [0, 1], gl := [12], kn := [], E := E }
def S_weight_in_1 : Sx := { N := [("part" : Str), ("standing" : Str), (".0" : Str), ("thing" : Str)], sc := relS { kind := .function, names := [((".0" : Str), NameKind.local), (("thing" : Str), NameKind.local), (("part" : Str), NameKind.free)], isGenerator := false, isCoroutine := false, more := [] : Scope } (S_weight_in E0).sc, L := (S_weight_in E0).L, vl := [2, 3, 0], cl := [], ll := [2, 3], gl := [], kn := [], E := E0 }
theorem b_weight_in (E : XK) : ∀ ds : List D, ds.length = 2 → Bl (theF P w K mg base) (S_weight_in E) (startD [("part" : Str), ("standing" : Str), (".0" : Str), ("thing" : Str)] ds) (defBody (top 11)) J0 (m_weight_in ds)
  | [v_part, v_standing], _ => (show Bl (theF P w K mg base) (S_weight_in E) [some (false, v_part), some (false, v_standing), none, none] _ _ _ from (bl_ret (ev_sum 12 (eva_cons (comp (S' := S_weight_in_1) [((".0" : Str), 2), (("thing" : Str), 3)] (evi_seq (ev_loc 1)) (cd1 (evg_1 3) (fun v_thing10 => (atE (ρ := [some (false, v_part), some (false, v_standing), none, some (false, v_thing10)]) (ev_ix (ev_ix (ev_loc 0).o ev_int.o).o (ev_loc 3).o)))) (hG := rfl) (hc := by kernel_rfl)).v.o eva_nil))))
def S_things_of (E : XK) : Sx := { N := [("web" : Str)], sc := (defScope (top 18)), L := 0, vl := [0], cl := [0], ll := [0], gl := [5, 9, 13], kn := [], E := E }
theorem b_things_of (E : XK) : ∀ ds : List D, ds.length = 1 → Bl (theF P w K mg base) (S_things_of E) (startD [("web" : Str)] ds) (defBody (top 18)) J0 (m_things_of ds)
  | [v_web], _ => (show Bl (theF P w K mg base) (S_things_of E) [some (false, v_web)] _ _ _ from (bl_ret (ev_tupRg 13 (evr_1 9 (ev_len 5 (eva_cons (ev_fld (ev_loc 0)).o eva_nil))))))
def S_named_things (E : XK) : Sx := { N := [("web" : Str), ("standing" : Str), (".0" : Str), ("thing" : Str)], sc := (defScope (top 19)), L := 0, vl := [0, 1], cl := [0, 1], ll := [0, 1], gl := [13], kn := [], E := E }
def S_named_things_1 : Sx := { N := [("web" : Str), ("standing" : Str), (".0" : Str), ("thing" : Str)], sc := relS { kind := .function, names := [((".0" : Str), NameKind.local), (("thing" : Str), NameKind.local), (("web" : Str), NameKind.free)], isGenerator := false, isCoroutine := false, more := [] : Scope } (S_named_things E0).sc, L := (S_named_things E0).L, vl := [2, 3, 0], cl := [], ll := [2, 3], gl := [], kn := [], E := E0 }
theorem b_named_things (E : XK) : ∀ ds : List D, ds.length = 2 → Bl (theF P w K mg base) (S_named_things E) (startD [("web" : Str), ("standing" : Str), (".0" : Str), ("thing" : Str)] ds) (defBody (top 19)) J0 (m_named_things ds)
  | [v_web, v_standing], _ => (show Bl (theF P w K mg base) (S_named_things E) [some (false, v_web), some (false, v_standing), none, none] _ _ _ from (bl_ret (ev_tuple 13 (eva_cons (comp (S' := S_named_things_1) [((".0" : Str), 2), (("thing" : Str), 3)] (evi_seq (ev_loc 1)) (cd1 (evg_1 3) (fun v_thing11 => (atE (ρ := [some (false, v_web), some (false, v_standing), none, some (false, v_thing11)]) (ev_ix (ev_fld (ev_loc 0)).o (ev_loc 3).o)))) (hG := rfl) (hc := by kernel_rfl)).v.o eva_nil))))
def S_size_and_lot (E : XK) : Sx := { N := [("lot" : Str)], sc := (defScope (top 21)), L := 0, vl := [0], cl := [0], ll := [0], gl := [5], kn := [], E := E }
theorem b_size_and_lot (E : XK) : ∀ ds : List D, ds.length = 1 → Bl (theF P w K mg base) (S_size_and_lot E) (startD [("lot" : Str)] ds) (defBody (top 21)) J0 (m_size_and_lot ds)
  | [v_lot], _ => (show Bl (theF P w K mg base) (S_size_and_lot E) [some (false, v_lot)] _ _ _ from (bl_ret (ev_tup (evv_cons (ev_len 5 (eva_cons (ev_loc 0).o eva_nil)) (evv_cons (ev_loc 0) evv_nil)))))
def S_room_line (E : XK) : Sx := { N := [("web" : Str), ("part" : Str), ("loads" : Str), ("head" : Str), (".0" : Str), ("name" : Str), ("number" : Str)], sc := (defScope (top 28)), L := 0, vl := [0, 1, 2, 3], cl := [0, 1, 2, 3], ll := [0, 1, 2, 3], gl := [14, 17, 18], kn := [], E := E }
def S_room_line_1 : Sx := { N := [("web" : Str), ("part" : Str), ("loads" : Str), ("head" : Str), (".0" : Str), ("name" : Str), ("number" : Str)], sc := relS { kind := .function, names := [((".0" : Str), NameKind.local), (("name" : Str), NameKind.local), (("number" : Str), NameKind.local)], isGenerator := false, isCoroutine := false, more := [] : Scope } (S_room_line E0).sc, L := (S_room_line E0).L, vl := [4, 5, 6], cl := [], ll := [4, 5, 6], gl := [], kn := [], E := E0 }
theorem b_room_line (E : XK) : ∀ ds : List D, ds.length = 2 → Bl (theF P w K mg base) (S_room_line E) (startD [("web" : Str), ("part" : Str), ("loads" : Str), ("head" : Str), (".0" : Str), ("name" : Str), ("number" : Str)] ds) (defBody (top 28)) J0 (m_room_line ds)
  | [v_web, v_part], _ => (show Bl (theF P w K mg base) (S_room_line E) [some (false, v_web), some (false, v_part), none, none, none, none, none] _ _ _ from (bl_comp (S' := S_room_line_1) 2 [((".0" : Str), 4), (("name" : Str), 5), (("number" : Str), 6)] (evi_zip 14 (evv_cons (ev_fld (ev_loc 0)) (evv_cons (ev_ix (ev_loc 1).o ev_int.o) evv_nil))) (cd2i (evg_2 5 6) (fun v_name14 v_number15 => (atT (ρ := [some (false, v_web), some (false, v_part), none, none, none, some (false, v_name14), some (false, v_number15)]) (evt_cmp (ev_loc 6).o ev_int.o))) (fun v_name14 v_number15 => (atE (ρ := [some (false, v_web), some (false, v_part), none, none, none, some (false, v_name14), some (false, v_number15)]) (ev_joined (.cons (ev_fmt (ev_loc 5)) (.cons ev_str (.cons (ev_fmt (ev_loc 6)) .nil))))))) (hG := rfl) (hc := by kernel_rfl) (hw := by kernel_rfl) fun v_loads12 => (at_ (ρ := [some (false, v_web), some (false, v_part), some (true, .lst v_loads12), none, none, none, none]) (bl_frz 2 (h := (at_ (ρ := [some (false, v_web), some (false, v_part), some (false, (.lst v_loads12)), none, none, none, none]) (bl_set 3 (ev_joined (.cons (ev_fmt (ev_con 17)) (.cons ev_str (.cons (ev_fmt (ev_ix (ev_loc 1).o ev_int.o)) (.cons ev_str (.cons (ev_fmt (ev_con 18)) .nil)))))) fun v_head13 => (at_ (ρ := [some (false, v_web), some (false, v_part), some (false, (.lst v_loads12)), some (false, v_head13), none, none, none]) (bl_ret (ev_if (evt_cmp (ev_loc 2).o (ev_lst evv_nil).v.o) (ev_loc 3) (ev_joined (.cons (ev_fmt (ev_loc 3)) (.cons ev_str (.cons (ev_fmt (ev_join ev_str (ev_loc 2).o)) .nil))))))))))))))
def S__law_deal (E : XK) : Sx := { N := [("script" : Str), ("salt" : Str), ("wide" : Str), ("cell" : Str), ("cells" : Str), ("mix" : Str), (".0" : Str)], sc := (defScope (top 33)), L := 0, vl := [0, 1, 2, 3, 4, 5], cl := [0, 1, 2, 3, 4, 5], ll := [0, 1, 2, 3, 4, 5], gl := [3], kn := [0], E := E }
def S__law_deal_1 : Sx := { N := [("script" : Str), ("salt" : Str), ("wide" : Str), ("cell" : Str), ("cells" : Str), ("mix" : Str), (".0" : Str)], sc := relS { kind := .function, names := [((".0" : Str), NameKind.local), (("cell" : Str), NameKind.local)], isGenerator := false, isCoroutine := false, more := [] : Scope } (S__law_deal E0).sc, L := (S__law_deal E0).L, vl := [6, 3], cl := [], ll := [6, 3], gl := [], kn := [0], E := E0 }
def S__law_deal_2 : Sx := { N := [("script" : Str), ("salt" : Str), ("wide" : Str), ("cell" : Str), ("cells" : Str), ("mix" : Str), (".0" : Str)], sc := relS { kind := .function, names := [((".0" : Str), NameKind.local), (("cell" : Str), NameKind.local), (("int" : Str), NameKind.globalImplicit), (("abs" : Str), NameKind.globalImplicit), (("wide" : Str), NameKind.free)], isGenerator := false, isCoroutine := false, more := [] : Scope } (S__law_deal E0).sc, L := (S__law_deal E0).L, vl := [6, 3, 2], cl := [], ll := [6, 3], gl := [0, 3], kn := [0], E := E0 }
theorem b__law_deal (E : XK) : ∀ ds : List D, ds.length = 2 → Bl (theF P w K mg base) (S__law_deal E) (startD [("script" : Str), ("salt" : Str), ("wide" : Str), ("cell" : Str), ("cells" : Str), ("mix" : Str), (".0" : Str)] ds) (defBody (top 33)) J0 (m__law_deal ds)
  | [v_script, v_salt], _ => (show Bl (theF P w K mg base) (S__law_deal E) [some (false, v_script), some (false, v_salt), none, none, none, none, none] _ _ _ from (bl_set 2 (ev_mul (ev_mul (ev_mul (ev_mul (ev_mul (ev_pow ev_int.o ev_int.o).o (ev_pow ev_int.o ev_int.o).o).o (ev_pow ev_int.o ev_int.o).o).o (ev_pow ev_int.o ev_int.o).o).o (ev_pow ev_int.o ev_int.o).o).o (ev_pow ev_int.o ev_int.o).o) fun v_wide16 => (at_ (ρ := [some (false, v_script), some (false, v_salt), some (false, v_wide16), none, none, none, none]) (bl_comp (S' := S__law_deal_2) 4 [((".0" : Str), 6), (("cell" : Str), 3)] (evi_seq (evl_sl (ev_loc 0).o evp_none (evp_some ev_int)).v) (cd1 (evg_1 3) (fun v_cell25 => (atE (ρ := [some (false, v_script), some (false, v_salt), some (false, v_wide16), some (false, v_cell25), none, none, none]) (ev_mod (ev_int1 3 (eva_cons (ev_abs 0 (eva_cons (ev_int1 3 (eva_cons (ev_loc 3).o eva_nil)).o eva_nil)).o eva_nil)).o (ev_loc 2).o)))) (hG := rfl) (hc := by kernel_rfl) (hw := by kernel_rfl) fun v_cells17 => (at_ (ρ := [some (false, v_script), some (false, v_salt), some (false, v_wide16), none, some (true, .lst v_cells17), none, none]) (bl_frz 4 (h := (at_ (ρ := [some (false, v_script), some (false, v_salt), some (false, v_wide16), none, some (false, (.lst v_cells17)), none, none]) (bl_set 5 (ev_add ev_int.o (ev_mul ev_int.o (ev_loc 1).o).o) fun v_mix18 => (at_ (ρ := [some (false, v_script), some (false, v_salt), some (false, v_wide16), none, some (false, (.lst v_cells17)), some (false, v_mix18), none]) (bl_for1 (St := (D)) (fun s19 => [some (false, v_script), some (false, v_salt), some (false, v_wide16), none, some (false, (.lst v_cells17)), some (false, s19), none]) (s0 := v_mix18) (evi_seq (ev_loc 4)) (evg_1 3) (.keep (.keep (.keep (.keep (.keep (.keep (.keep .nil))))))) (fun v_cell22 s19 nx20 bk21 => (at_ (ρ := [some (false, v_script), some (false, v_salt), some (false, v_wide16), some (false, v_cell22), some (false, (.lst v_cells17)), some (false, s19), none]) (bl_set 5 (ev_mod (ev_int1 3 (eva_cons (ev_add (ev_add (ev_mul (ev_loc 5).o ev_int.o).o (ev_mod (ev_int1 3 (eva_cons (ev_loc 3).o eva_nil)).o ev_int.o).o).o ev_int.o).o eva_nil)).o ev_int.o) fun v_mix23 => (at_ (ρ := [some (false, v_script), some (false, v_salt), some (false, v_wide16), some (false, v_cell22), some (false, (.lst v_cells17)), some (false, v_mix23), none]) (bl_nil ⟨v_mix23, (.keep (.keep (.keep (.drop (.keep (.keep (.keep .nil))))))), rfl⟩))))) fun s19 => (at_ (ρ := [some (false, v_script), some (false, v_salt), some (false, v_wide16), none, some (false, (.lst v_cells17)), some (false, s19), none]) (bl_ret (ev_lst (evv_cons (evl_rev (comp (S' := S__law_deal_1) [((".0" : Str), 6), (("cell" : Str), 3)] (evi_seq (ev_loc 4)) (cd1i (evg_1 3) (fun v_cell24 => (atT (ρ := [some (false, v_script), some (false, v_salt), some (false, v_wide16), some (false, v_cell24), some (false, (.lst v_cells17)), some (false, s19), none]) (evt_cmp (ev_loc 3).o (ev_pow ev_int.o ev_int.o).o))) (fun v_cell24 => (atE (ρ := [some (false, v_script), some (false, v_salt), some (false, v_wide16), some (false, v_cell24), some (false, (.lst v_cells17)), some (false, s19), none]) (ev_loc 3)))) (hG := rfl) (hc := by kernel_rfl)).v.o).v (evv_cons (ev_loc 5) evv_nil))).v)))))))))))))
def S__law_is_kind (E : XK) : Sx := { N := [("told" : Str), ("due" : Str)], sc := (defScope (top 36)), L := 0, vl := [0, 1], cl := [0, 1], ll := [0, 1], gl := [1, 3, 4, 11], kn := [], E := E }
theorem b__law_is_kind (E : XK) : ∀ ds : List D, ds.length = 2 → Bl (theF P w K mg base) (S__law_is_kind E) (startD [("told" : Str), ("due" : Str)] ds) (defBody (top 36)) J0 (m__law_is_kind ds)
  | [v_told, v_due], _ => (show Bl (theF P w K mg base) (S__law_is_kind E) [some (false, v_told), some (false, v_due)] _ _ _ from (bl_if (evt_cmp (ev_loc 1).o ev_none.o) (bl_ret (ev_cmp (ev_loc 0).o ev_none.o)) (bl_nil (at_ (ρ := [some (false, v_told), some (false, v_due)]) (bl_if (evt_bo (evw_or (evt_cmp (ev_loc 1).o ev_bool.o) (evw_or1 (evt_cmp (ev_loc 1).o ev_bool.o)))) (bl_ret (ev_if (evt_val (ev_loc 1)) (ev_cmp (ev_loc 0).o ev_bool.o) (ev_cmp (ev_loc 0).o ev_bool.o))) (bl_nil (at_ (ρ := [some (false, v_told), some (false, v_due)]) (bl_if (evt_val (ev_isin 4 (eva_cons (ev_loc 1).o (eva_cons (ev_ty 11 (id := "str") (by decide +kernel)).o eva_nil)))) (bl_ret (ev_and (ev_isin 4 (eva_cons (ev_loc 0).o (eva_cons (ev_ty 11 (id := "str") (by decide +kernel)).o eva_nil))) (ev_bo1 (ev_cmp (ev_loc 0).o (ev_loc 1).o)))) (bl_nil (at_ (ρ := [some (false, v_told), some (false, v_due)]) (bl_ret (ev_and (ev_isin 4 (eva_cons (ev_loc 0).o (eva_cons (ev_ty 3 (id := "int") (by decide +kernel)).o eva_nil))) (ev_and (ev_not (ev_isin 4 (eva_cons (ev_loc 0).o (eva_cons (ev_ty 1 (id := "bool") (by decide +kernel)).o eva_nil)))) (ev_bo1 (ev_cmp (ev_loc 0).o (ev_loc 1).o)))))))))))))))
def S__law_marks (E : XK) : Sx := { N := [("many" : Str), ("lot" : Str), (".0" : Str), ("at" : Str)], sc := (defScope (top 45)), L := 0, vl := [0, 1], cl := [0, 1], ll := [0, 1], gl := [9, 13], kn := [], E := E }
def S__law_marks_1 : Sx := { N := [("many" : Str), ("lot" : Str), (".0" : Str), ("at" : Str)], sc := relS { kind := .function, names := [((".0" : Str), NameKind.local), (("at" : Str), NameKind.local), (("lot" : Str), NameKind.free)], isGenerator := false, isCoroutine := false, more := [] : Scope } (S__law_marks E0).sc, L := (S__law_marks E0).L, vl := [2, 3, 1], cl := [], ll := [2, 3], gl := [], kn := [], E := E0 }
theorem b__law_marks (E : XK) : ∀ ds : List D, ds.length = 2 → Bl (theF P w K mg base) (S__law_marks E) (startD [("many" : Str), ("lot" : Str), (".0" : Str), ("at" : Str)] ds) (defBody (top 45)) J0 (m__law_marks ds)
  | [v_many, v_lot], _ => (show Bl (theF P w K mg base) (S__law_marks E) [some (false, v_many), some (false, v_lot), none, none] _ _ _ from (bl_ret (ev_tuple 13 (eva_cons (comp (S' := S__law_marks_1) [((".0" : Str), 2), (("at" : Str), 3)] (evi_rng1 9 (evv_cons (ev_loc 0) evv_nil)) (cd1 (evg_1 3) (fun v_at26 => (atE (ρ := [some (false, v_many), some (false, v_lot), none, some (false, v_at26)]) (ev_if (evt_cmp (ev_loc 3).o (ev_loc 1).o) ev_int ev_int)))) (hG := rfl) (hc := by kernel_rfl)).v.o eva_nil))))
def S__law_part_fine (E : XK) : Sx := { N := [("part" : Str), ("marks" : Str), ("lot" : Str), ("count" : Str), (".0" : Str), ("load" : Str), ("mark" : Str), ("at" : Str)], sc := (defScope (top 46)), L := 0, vl := [0, 1, 2, 3], cl := [0, 1, 2, 3], ll := [0, 1, 2, 3], gl := [5, 12, 14], kn := [], E := E }
def S__law_part_fine_1 : Sx := { N := [("part" : Str), ("marks" : Str), ("lot" : Str), ("count" : Str), (".0" : Str), ("load" : Str), ("mark" : Str), ("at" : Str)], sc := relS { kind := .function, names := [((".0" : Str), NameKind.local), (("load" : Str), NameKind.local), (("mark" : Str), NameKind.local)], isGenerator := false, isCoroutine := false, more := [] : Scope } (S__law_part_fine E0).sc, L := (S__law_part_fine E0).L, vl := [4, 5, 6], cl := [], ll := [4, 5, 6], gl := [], kn := [], E := E0 }
def S__law_part_fine_2 : Sx := { N := [("part" : Str), ("marks" : Str), ("lot" : Str), ("count" : Str), (".0" : Str), ("load" : Str), ("mark" : Str), ("at" : Str)], sc := relS { kind := .function, names := [((".0" : Str), NameKind.local), (("at" : Str), NameKind.local), (("marks" : Str), NameKind.free)], isGenerator := false, isCoroutine := false, more := [] : Scope } (S__law_part_fine E0).sc, L := (S__law_part_fine E0).L, vl := [4, 7, 1], cl := [], ll := [4, 7], gl := [], kn := [], E := E0 }
theorem b__law_part_fine (E : XK) : ∀ ds : List D, ds.length = 2 → Bl (theF P w K mg base) (S__law_part_fine E) (startD [("part" : Str), ("marks" : Str), ("lot" : Str), ("count" : Str), (".0" : Str), ("load" : Str), ("mark" : Str), ("at" : Str)] ds) (defBody (top 46)) J0 (m__law_part_fine ds)
  | [v_part, v_marks], _ => (show Bl (theF P w K mg base) (S__law_part_fine E) [some (false, v_part), some (false, v_marks), none, none, none, none, none, none] _ _ _ from (bl_if (evt_cmp (ev_ix (ev_loc 0).o ev_int.o).o ev_str.o) (bl_ret (ev_cmp (ev_sum 12 (eva_cons (comp (S' := S__law_part_fine_1) [((".0" : Str), 4), (("load" : Str), 5), (("mark" : Str), 6)] (evi_zip 14 (evv_cons (ev_ix (ev_loc 0).o ev_int.o) (evv_cons (ev_loc 1) evv_nil))) (cd2 (evg_2 5 6) (fun v_load27 v_mark28 => (atE (ρ := [some (false, v_part), some (false, v_marks), none, none, none, some (false, v_load27), some (false, v_mark28), none]) (ev_mul (ev_loc 5).o (ev_loc 6).o)))) (hG := rfl) (hc := by kernel_rfl)).v.o eva_nil)).o (ev_ix (ev_loc 0).o ev_int.o).o)) (bl_nil (at_ (ρ := [some (false, v_part), some (false, v_marks), none, none, none, none, none, none]) (bl_set 2 (ev_ix (ev_loc 0).o (ev_sub (ev_len 5 (eva_cons (ev_loc 0).o eva_nil)).o ev_int.o).o) fun v_lot29 => (at_ (ρ := [some (false, v_part), some (false, v_marks), some (false, v_lot29), none, none, none, none, none]) (bl_set 3 (ev_sum 12 (eva_cons (comp (S' := S__law_part_fine_2) [((".0" : Str), 4), (("at" : Str), 7)] (evi_seq (ev_loc 2)) (cd1 (evg_1 7) (fun v_at31 => (atE (ρ := [some (false, v_part), some (false, v_marks), some (false, v_lot29), none, none, none, none, some (false, v_at31)]) (ev_ix (ev_loc 1).o (ev_loc 7).o)))) (hG := rfl) (hc := by kernel_rfl)).v.o eva_nil)) fun v_count30 => (at_ (ρ := [some (false, v_part), some (false, v_marks), some (false, v_lot29), some (false, v_count30), none, none, none, none]) (bl_ret (ev_if (evt_cmp (ev_ix (ev_loc 0).o ev_int.o).o ev_str.o) (ev_cmp (ev_loc 3).o (ev_len 5 (eva_cons (ev_loc 2).o eva_nil)).o) (ev_cmp (ev_loc 3).o (ev_ix (ev_loc 0).o ev_int.o).o)))))))))))
def S__law_rule_row (E : XK) : Sx := { N := [("names" : Str), ("part" : Str), ("loads" : Str), ("head" : Str), (".0" : Str), ("at" : Str)], sc := (defScope (top 48)), L := 0, vl := [0, 1, 2, 3], cl := [0, 1, 2, 3], ll := [0, 1, 2, 3], gl := [5, 9, 11], kn := [], E := E }
def S__law_rule_row_1 : Sx := { N := [("names" : Str), ("part" : Str), ("loads" : Str), ("head" : Str), (".0" : Str), ("at" : Str)], sc := relS { kind := .function, names := [((".0" : Str), NameKind.local), (("at" : Str), NameKind.local), (("str" : Str), NameKind.globalImplicit), (("names" : Str), NameKind.free), (("part" : Str), NameKind.free)], isGenerator := false, isCoroutine := false, more := [] : Scope } (S__law_rule_row E0).sc, L := (S__law_rule_row E0).L, vl := [4, 5, 0, 1], cl := [], ll := [4, 5], gl := [11], kn := [], E := E0 }
def S__law_rule_row_2 : Sx := { N := [("names" : Str), ("part" : Str), ("loads" : Str), ("head" : Str), (".0" : Str), ("at" : Str)], sc := relS { kind := .function, names := [((".0" : Str), NameKind.local), (("at" : Str), NameKind.local), (("names" : Str), NameKind.free)], isGenerator := false, isCoroutine := false, more := [] : Scope } (S__law_rule_row E0).sc, L := (S__law_rule_row E0).L, vl := [4, 5, 0], cl := [], ll := [4, 5], gl := [], kn := [], E := E0 }
theorem b__law_rule_row (E : XK) : ∀ ds : List D, ds.length = 2 → Bl (theF P w K mg base) (S__law_rule_row E) (startD [("names" : Str), ("part" : Str), ("loads" : Str), ("head" : Str), (".0" : Str), ("at" : Str)] ds) (defBody (top 48)) J0 (m__law_rule_row ds)
  | [v_names, v_part], _ => (show Bl (theF P w K mg base) (S__law_rule_row E) [some (false, v_names), some (false, v_part), none, none, none, none] _ _ _ from (bl_if (evt_cmp (ev_ix (ev_loc 1).o ev_int.o).o ev_str.o) (bl_comp (S' := S__law_rule_row_1) 2 [((".0" : Str), 4), (("at" : Str), 5)] (evi_rng1 9 (evv_cons (ev_len 5 (eva_cons (ev_loc 0).o eva_nil)) evv_nil)) (cd1i (evg_1 5) (fun v_at33 => (atT (ρ := [some (false, v_names), some (false, v_part), none, none, none, some (false, v_at33)]) (evt_cmp (ev_ix (ev_ix (ev_loc 1).o ev_int.o).o (ev_loc 5).o).o ev_int.o))) (fun v_at33 => (atE (ρ := [some (false, v_names), some (false, v_part), none, none, none, some (false, v_at33)]) (ev_add (ev_add (ev_ix (ev_loc 0).o (ev_loc 5).o).o ev_str.o).o (ev_str1 11 (eva_cons (ev_ix (ev_ix (ev_loc 1).o ev_int.o).o (ev_loc 5).o).o eva_nil)).o)))) (hG := rfl) (hc := by kernel_rfl) (hw := by kernel_rfl) fun v_loads32 => (at_ (ρ := [some (false, v_names), some (false, v_part), some (true, .lst v_loads32), none, none, none]) (bl_frz 2 (h := (at_ (ρ := [some (false, v_names), some (false, v_part), some (false, (.lst v_loads32)), none, none, none]) (bl_ret (ev_strip (ev_add (ev_add (ev_add ev_str.o (ev_str1 11 (eva_cons (ev_ix (ev_loc 1).o ev_int.o).o eva_nil)).o).o ev_str.o).o (ev_join ev_str (ev_loc 2).o).o)))))))) (bl_nil (at_ (ρ := [some (false, v_names), some (false, v_part), none, none, none, none]) (bl_set 3 (ev_if (evt_cmp (ev_ix (ev_loc 1).o ev_int.o).o ev_str.o) ev_str (ev_add (ev_add ev_str.o (ev_str1 11 (eva_cons (ev_ix (ev_loc 1).o ev_int.o).o eva_nil)).o).o ev_str.o)) fun v_head34 => (at_ (ρ := [some (false, v_names), some (false, v_part), none, some (false, v_head34), none, none]) (bl_ret (ev_join ev_str (ev_add (ev_lst (evv_cons (ev_loc 3) evv_nil)).v.o (comp (S' := S__law_rule_row_2) [((".0" : Str), 4), (("at" : Str), 5)] (evi_seq (ev_ix (ev_loc 1).o (ev_sub (ev_len 5 (eva_cons (ev_loc 1).o eva_nil)).o ev_int.o).o)) (cd1 (evg_1 5) (fun v_at35 => (atE (ρ := [some (false, v_names), some (false, v_part), none, some (false, v_head34), none, some (false, v_at35)]) (ev_ix (ev_loc 0).o (ev_loc 5).o)))) (hG := rfl) (hc := by kernel_rfl)).v.o).o))))))))
def S_apart_lets (E : XK) : Sx := { N := [("part" : Str), ("standing" : Str)], sc := (defScope (top 9)), L := 1, vl := [0, 1], cl := [0, 1], ll := [0, 1], gl := [23], kn := [], E := E }
theorem b_apart_lets (E : XK) : ∀ ds : List D, ds.length = 2 → Bl (theF P w K mg base) (S_apart_lets E) (startD [("part" : Str), ("standing" : Str)] ds) (defBody (top 9)) J0 (m_apart_lets ds)
  | [v_part, v_standing], _ => (show Bl (theF P w K mg base) (S_apart_lets E) [some (false, v_part), some (false, v_standing)] _ _ _ from (bl_ret (ev_not (ev_call 23 (evv_cons (ev_ix (ev_loc 0).o ev_int.o) (evv_cons (ev_loc 1) evv_nil))))))
def S_most_lets (E : XK) : Sx := { N := [("part" : Str), ("standing" : Str)], sc := (defScope (top 10)), L := 1, vl := [0, 1], cl := [0, 1], ll := [0, 1], gl := [5, 24], kn := [], E := E }
theorem b_most_lets (E : XK) : ∀ ds : List D, ds.length = 2 → Bl (theF P w K mg base) (S_most_lets E) (startD [("part" : Str), ("standing" : Str)] ds) (defBody (top 10)) J0 (m_most_lets ds)
  | [v_part, v_standing], _ => (show Bl (theF P w K mg base) (S_most_lets E) [some (false, v_part), some (false, v_standing)] _ _ _ from (bl_ret (ev_cmp (ev_len 5 (eva_cons (ev_call 24 (evv_cons (ev_ix (ev_loc 0).o ev_int.o) (evv_cons (ev_loc 1) evv_nil))).o eva_nil)).o (ev_ix (ev_loc 0).o ev_int.o).o)))
def S_room_lets (E : XK) : Sx := { N := [("part" : Str), ("standing" : Str)], sc := (defScope (top 12)), L := 1, vl := [0, 1], cl := [0, 1], ll := [0, 1], gl := [28], kn := [], E := E }
theorem b_room_lets (E : XK) : ∀ ds : List D, ds.length = 2 → Bl (theF P w K mg base) (S_room_lets E) (startD [("part" : Str), ("standing" : Str)] ds) (defBody (top 12)) J0 (m_room_lets ds)
  | [v_part, v_standing], _ => (show Bl (theF P w K mg base) (S_room_lets E) [some (false, v_part), some (false, v_standing)] _ _ _ from (bl_ret (ev_cmp (ev_call 28 (evv_cons (ev_loc 0) (evv_cons (ev_loc 1) evv_nil))).o (ev_ix (ev_loc 0).o ev_int.o).o)))
def S_apart_line (E : XK) : Sx := { N := [("web" : Str), ("part" : Str)], sc := (defScope (top 26)), L := 1, vl := [0, 1], cl := [0, 1], ll := [0, 1], gl := [15, 33], kn := [], E := E }
theorem b_apart_line (E : XK) : ∀ ds : List D, ds.length = 2 → Bl (theF P w K mg base) (S_apart_line E) (startD [("web" : Str), ("part" : Str)] ds) (defBody (top 26)) J0 (m_apart_line ds)
  | [v_web, v_part], _ => (show Bl (theF P w K mg base) (S_apart_line E) [some (false, v_web), some (false, v_part)] _ _ _ from (bl_ret (ev_join ev_str (ev_add (ev_tup (evv_cons (ev_con 15) evv_nil)).o (ev_call 33 (evv_cons (ev_loc 0) (evv_cons (ev_ix (ev_loc 1).o ev_int.o) evv_nil))).o).o)))
def S_most_line (E : XK) : Sx := { N := [("web" : Str), ("part" : Str)], sc := (defScope (top 27)), L := 1, vl := [0, 1], cl := [0, 1], ll := [0, 1], gl := [11, 16, 18, 33], kn := [], E := E }
theorem b_most_line (E : XK) : ∀ ds : List D, ds.length = 2 → Bl (theF P w K mg base) (S_most_line E) (startD [("web" : Str), ("part" : Str)] ds) (defBody (top 27)) J0 (m_most_line ds)
  | [v_web, v_part], _ => (show Bl (theF P w K mg base) (S_most_line E) [some (false, v_web), some (false, v_part)] _ _ _ from (bl_ret (ev_join ev_str (ev_add (ev_tup (evv_cons (ev_con 16) (evv_cons (ev_str1 11 (eva_cons (ev_ix (ev_loc 1).o ev_int.o).o eva_nil)) (evv_cons (ev_con 18) evv_nil)))).o (ev_call 33 (evv_cons (ev_loc 0) (evv_cons (ev_ix (ev_loc 1).o ev_int.o) evv_nil))).o).o)))
def S__law_of (E : XK) : Sx := { N := [("deal" : Str), ("some" : Str)], sc := (defScope (top 35)), L := 1, vl := [0, 1], cl := [0, 1], ll := [0, 1], gl := [5, 43], kn := [], E := E }
theorem b__law_of (E : XK) : ∀ ds : List D, ds.length = 2 → Bl (theF P w K mg base) (S__law_of E) (startD [("deal" : Str), ("some" : Str)] ds) (defBody (top 35)) J0 (m__law_of ds)
  | [v_deal, v_some], _ => (show Bl (theF P w K mg base) (S__law_of E) [some (false, v_deal), some (false, v_some)] _ _ _ from (bl_ret (ev_ix (ev_loc 1).o (ev_call 43 (evv_cons (ev_loc 0) (evv_cons (ev_len 5 (eva_cons (ev_loc 1).o eva_nil)) evv_nil))).o)))
def S__law_same (E : XK) : Sx := { N := [("told" : Str), ("due" : Str), ("todo" : Str), ("one" : Str), ("other" : Str), ("at" : Str)], sc := (defScope (top 37)), L := 1, vl := [0, 1, 2, 3, 4, 5], cl := [0, 1, 2, 3, 4, 5], ll := [0, 1, 2, 3, 4, 5], gl := [2, 4, 5, 6, 9, 13, 45], kn := [], E := E }
theorem b__law_same (E : XK) : ∀ ds : List D, ds.length = 2 → Bl (theF P w K mg base) (S__law_same E) (startD [("told" : Str), ("due" : Str), ("todo" : Str), ("one" : Str), ("other" : Str), ("at" : Str)] ds) (defBody (top 37)) J0 (m__law_same ds)
  | [v_told, v_due], _ => (show Bl (theF P w K mg base) (S__law_same E) [some (false, v_told), some (false, v_due), none, none, none, none] _ _ _ from (bl_setL 2 (ev_lst (evv_cons (ev_tup (evv_cons (ev_loc 0) (evv_cons (ev_loc 1) evv_nil))) evv_nil)) fun v_todo36 => (at_ (ρ := [some (false, v_told), some (false, v_due), some (true, .lst v_todo36), none, none, none]) (bl_while (St := (List D)) (fun s37 => [some (false, v_told), some (false, v_due), some (true, .lst s37), none, none, none]) (s0 := v_todo36) (mc := fun s37 => (T.bind (T.bind (consM (.ret (.lst s37)) (.ret [])) lenM) fun x => T.bind (.ret (.int 0)) fun y => T.bind (cmpM .Gt x y) asBool)) (mb := fun s37 nx38 bk39 => (popB2 (pop0M s37) fun v_one40 v_other41 v_todo42 => (ifJ (St := (List D)) (T.bind (T.bind (consM (.ret v_other41) (consM (.ret (.ty "tuple")) (.ret []))) (isinM CLSS)) asBool) (fun k44 => (T.bind (T.bind (T.bind (T.bind (T.bind (consM (.ret v_one40) (consM (.ret (.ty "tuple")) (.ret []))) (isinM CLSS)) asBool) fun b => .ret (!b)) fun t => cond t (.ret true) (T.bind (T.bind (consM (.ret v_one40) (.ret [])) lenM) fun x => T.bind (T.bind (consM (.ret v_other41) (.ret [])) lenM) fun y => T.bind (cmpM .NotEq x y) asBool)) fun t => bif t then (.ret (.bl false)) else (T.bind (T.bind (consM (T.bind (consM (.ret v_other41) (.ret [])) lenM) (.ret [])) rng1M) fun items => forM (St := (List D)) (fun v_at48 s45 nx46 bk47 => (T.bind (T.bind (consM (T.bind (.ret v_one40) fun x => T.bind (.ret v_at48) fun y => ixM x y) (consM (T.bind (.ret v_other41) fun x => T.bind (.ret v_at48) fun y => ixM x y) (.ret []))) tupM) fun v_e49 => if List.length s45 < sizeLine then (nx46 (s45 ++ [v_e49])) else .stuck)) (fun s45 => (k44 s45)) items v_todo42))) (fun k44 => (T.bind (T.bind (T.bind (T.bind (consM (.ret v_one40) (consM (T.bind (consM (.ret (.ty "tuple")) (consM (.ret (.ty "list")) (consM (.ret (.ty "dict")) (.ret [])))) tupM) (.ret []))) (isinM CLSS)) asBool) fun t => cond t (.ret true) (T.bind (T.bind (T.bind (consM (.ret v_one40) (consM (.ret v_other41) (.ret []))) m__law_is_kind) asBool) fun b => .ret (!b))) fun t => bif t then (.ret (.bl false)) else (k44 v_todo42))) fun s43 => (nx38 s43)))) (k := (fun (s37 : (List D)) => ((.ret (.bl true)) : T D))) FUEL (fun s37 => (atT (ρ := [some (false, v_told), some (false, v_due), some (true, .lst s37), none, none, none]) (evt_cmp (ev_len 5 (eva_cons (ev_own 2) eva_nil)).o ev_int.o))) (.keep (.keep (.keep (.keep (.keep (.keep .nil)))))) (fun s37 nx38 bk39 => (at_ (ρ := [some (false, v_told), some (false, v_due), some (true, .lst s37), none, none, none]) (bl_tgtP2 (evq_pop0 2) (evg_2 3 4) fun v_one40 v_other41 v_todo42 => (at_ (ρ := [some (false, v_told), some (false, v_due), some (true, .lst v_todo42), some (false, v_one40), some (false, v_other41), none]) (bl_ifJ (St := (List D)) (fun s43 => [some (false, v_told), some (false, v_due), some (true, .lst s43), some (false, v_one40), some (false, v_other41), none]) (evt_val (ev_isin 4 (eva_cons (ev_loc 4).o (eva_cons (ev_ty 13 (id := "tuple") (by decide +kernel)).o eva_nil)))) (fun k44 => (bl_if (evt_bo (evw_or (evt_not (evt_val (ev_isin 4 (eva_cons (ev_loc 3).o (eva_cons (ev_ty 13 (id := "tuple") (by decide +kernel)).o eva_nil))))) (evw_or1 (evt_cmp (ev_len 5 (eva_cons (ev_loc 3).o eva_nil)).o (ev_len 5 (eva_cons (ev_loc 4).o eva_nil)).o)))) (bl_ret ev_bool) (bl_nil (at_ (ρ := [some (false, v_told), some (false, v_due), some (true, .lst v_todo42), some (false, v_one40), some (false, v_other41), none]) (bl_for1 (St := (List D)) (fun s45 => [some (false, v_told), some (false, v_due), some (true, .lst s45), some (false, v_one40), some (false, v_other41), none]) (s0 := v_todo42) (evi_rng1 9 (evv_cons (ev_len 5 (eva_cons (ev_loc 4).o eva_nil)) evv_nil)) (evg_1 5) (.keep (.keep (.keep (.keep (.keep (.keep .nil)))))) (fun v_at48 s45 nx46 bk47 => (at_ (ρ := [some (false, v_told), some (false, v_due), some (true, .lst s45), some (false, v_one40), some (false, v_other41), some (false, v_at48)]) (bl_app 2 (ev_tup (evv_cons (ev_ix (ev_loc 3).o (ev_loc 5).o) (evv_cons (ev_ix (ev_loc 4).o (ev_loc 5).o) evv_nil))) fun v_e49 => (at_ (ρ := [some (false, v_told), some (false, v_due), some (true, .lst (s45 ++ [v_e49])), some (false, v_one40), some (false, v_other41), some (false, v_at48)]) (bl_nil ⟨(s45 ++ [v_e49]), (.keep (.keep (.keep (.keep (.keep (.drop .nil)))))), rfl⟩))))) fun s45 => (at_ (ρ := [some (false, v_told), some (false, v_due), some (true, .lst s45), some (false, v_one40), some (false, v_other41), none]) (bl_nil ⟨s45, (.keep (.keep (.keep (.keep (.keep (.keep .nil)))))), rfl⟩))))))) (fun k44 => (bl_if (evt_bo (evw_or (evt_val (ev_isin 4 (eva_cons (ev_loc 3).o (eva_cons (ev_tup (evv_cons (ev_ty 13 (id := "tuple") (by decide +kernel)) (evv_cons (ev_ty 6 (id := "list") (by decide +kernel)) (evv_cons (ev_ty 2 (id := "dict") (by decide +kernel)) evv_nil)))).o eva_nil)))) (evw_or1 (evt_not (evt_val (ev_call 45 (evv_cons (ev_loc 3) (evv_cons (ev_loc 4) evv_nil)))))))) (bl_ret ev_bool) (bl_nil (at_ (ρ := [some (false, v_told), some (false, v_due), some (true, .lst v_todo42), some (false, v_one40), some (false, v_other41), none]) (bl_nil ⟨v_todo42, (.keep (.keep (.keep (.keep (.keep (.keep .nil)))))), rfl⟩))))) fun s43 => (at_ (ρ := [some (false, v_told), some (false, v_due), some (true, .lst s43), some (false, v_one40), some (false, v_other41), none]) (bl_nil ⟨s43, (.keep (.keep (.keep (.drop (.drop (.keep .nil)))))), rfl⟩))))))) fun s37 => (at_ (ρ := [some (false, v_told), some (false, v_due), some (true, .lst s37), none, none, none]) (bl_ret ev_bool))))))
def S__law_drawn_few (E : XK) : Sx := { N := [("deal" : Str), ("things" : Str), ("most" : Str), ("left" : Str), ("found" : Str), ("turn" : Str)], sc := (defScope (top 39)), L := 1, vl := [0, 1, 2, 3, 4, 5], cl := [0, 1, 2, 3, 4, 5], ll := [0, 1, 2, 3, 4, 5], gl := [5, 6, 8, 9, 10, 13, 43], kn := [], E := E }
theorem b__law_drawn_few (E : XK) : ∀ ds : List D, ds.length = 3 → Bl (theF P w K mg base) (S__law_drawn_few E) (startD [("deal" : Str), ("things" : Str), ("most" : Str), ("left" : Str), ("found" : Str), ("turn" : Str)] ds) (defBody (top 39)) J0 (m__law_drawn_few ds)
  | [v_deal, v_things, v_most], _ => (show Bl (theF P w K mg base) (S__law_drawn_few E) [some (false, v_deal), some (false, v_things), some (false, v_most), none, none, none] _ _ _ from (bl_parLL 3 4 (evl_list 6 (eva_cons (ev_loc 1).o eva_nil)) (ev_lst evv_nil) (hw := by kernel_rfl) fun v_left50 v_found51 => (at_ (ρ := [some (false, v_deal), some (false, v_things), some (false, v_most), some (true, .lst v_left50), some (true, .lst v_found51), none]) (bl_for1 (St := (List D × List D)) (fun s52 => [some (false, v_deal), some (false, v_things), some (false, v_most), some (true, .lst s52.2), some (true, .lst s52.1), none]) (s0 := (v_found51, v_left50)) (evi_rng1 9 (evv_cons (ev_min 8 (eva_cons (ev_len 5 (eva_cons (ev_own 3) eva_nil)).o (eva_cons (ev_add ev_int.o (ev_call 43 (evv_cons (ev_loc 0) (evv_cons (ev_loc 2) evv_nil))).o).o eva_nil))) evv_nil)) (evg_1 5) (.keep (.keep (.keep (.keep (.keep (.keep .nil)))))) (fun v_turn55 s52 nx53 bk54 => (at_ (ρ := [some (false, v_deal), some (false, v_things), some (false, v_most), some (true, .lst s52.2), some (true, .lst s52.1), some (false, v_turn55)]) (bl_appP 4 (evq_pop 3 (ev_call 43 (evv_cons (ev_loc 0) (evv_cons (ev_len 5 (eva_cons (ev_own 3) eva_nil)) evv_nil)))) fun v_e56 v_left57 => (at_ (ρ := [some (false, v_deal), some (false, v_things), some (false, v_most), some (true, .lst v_left57), some (true, .lst (s52.1 ++ [v_e56])), some (false, v_turn55)]) (bl_nil ⟨((s52.1 ++ [v_e56]), v_left57), (.keep (.keep (.keep (.keep (.keep (.drop .nil)))))), rfl⟩))))) fun s52 => (at_ (ρ := [some (false, v_deal), some (false, v_things), some (false, v_most), some (true, .lst s52.2), some (true, .lst s52.1), none]) (bl_ret (ev_tuple 13 (eva_cons (evl_sorted 10 (eva_cons (ev_own 4) eva_nil)).v.o eva_nil))))))))
def S__law_fine (E : XK) : Sx := { N := [("parts" : Str), ("marks" : Str), ("part" : Str)], sc := (defScope (top 47)), L := 1, vl := [0, 1, 2], cl := [0, 1, 2], ll := [0, 1, 2], gl := [55], kn := [], E := E }
theorem b__law_fine (E : XK) : ∀ ds : List D, ds.length = 2 → Bl (theF P w K mg base) (S__law_fine E) (startD [("parts" : Str), ("marks" : Str), ("part" : Str)] ds) (defBody (top 47)) J0 (m__law_fine ds)
  | [v_parts, v_marks], _ => (show Bl (theF P w K mg base) (S__law_fine E) [some (false, v_parts), some (false, v_marks), none] _ _ _ from (bl_for1 (St := Unit) (fun s58 => [some (false, v_parts), some (false, v_marks), none]) (s0 := ()) (evi_seq (ev_loc 0)) (evg_1 2) (.keep (.keep (.keep .nil))) (fun v_part61 s58 nx59 bk60 => (at_ (ρ := [some (false, v_parts), some (false, v_marks), some (false, v_part61)]) (bl_if (evt_not (evt_val (ev_call 55 (evv_cons (ev_loc 2) (evv_cons (ev_loc 1) evv_nil))))) (bl_ret ev_bool) (bl_nil (at_ (ρ := [some (false, v_parts), some (false, v_marks), some (false, v_part61)]) (bl_nil ⟨(), (.keep (.keep (.drop .nil))), rfl⟩)))))) fun s58 => (at_ (ρ := [some (false, v_parts), some (false, v_marks), none]) (bl_ret ev_bool))))
def S__law_rule_text (E : XK) : Sx := { N := [("names" : Str), ("parts" : Str), (".0" : Str), ("part" : Str)], sc := (defScope (top 49)), L := 1, vl := [0, 1], cl := [0, 1], ll := [0, 1], gl := [], kn := [57], E := E }
def S__law_rule_text_1 : Sx := { N := [("names" : Str), ("parts" : Str), (".0" : Str), ("part" : Str)], sc := relS { kind := .function, names := [((".0" : Str), NameKind.local), (("part" : Str), NameKind.local), (("_law_rule_row" : Str), NameKind.globalImplicit), (("names" : Str), NameKind.free)], isGenerator := false, isCoroutine := false, more := [] : Scope } (S__law_rule_text E0).sc, L := (S__law_rule_text E0).L, vl := [2, 3, 0], cl := [], ll := [2, 3], gl := [57], kn := [57], E := E0 }
theorem b__law_rule_text (E : XK) : ∀ ds : List D, ds.length = 2 → Bl (theF P w K mg base) (S__law_rule_text E) (startD [("names" : Str), ("parts" : Str), (".0" : Str), ("part" : Str)] ds) (defBody (top 49)) J0 (m__law_rule_text ds)
  | [v_names, v_parts], _ => (show Bl (theF P w K mg base) (S__law_rule_text E) [some (false, v_names), some (false, v_parts), none, none] _ _ _ from (bl_ret (ev_join ev_str (comp (S' := S__law_rule_text_1) [((".0" : Str), 2), (("part" : Str), 3)] (evi_seq (ev_loc 1)) (cd1 (evg_1 3) (fun v_part62 => (atE (ρ := [some (false, v_names), some (false, v_parts), none, some (false, v_part62)]) (ev_call 57 (evv_cons (ev_loc 0) (evv_cons (ev_loc 3) evv_nil)))))) (hG := rfl) (hc := by kernel_rfl)).v.o)))
def S__law_near_parts (E : XK) : Sx := { N := [("deal" : Str), ("parts" : Str), ("many" : Str), ("found" : Str), ("at" : Str), ("part" : Str), ("late" : Str)], sc := (defScope (top 50)), L := 1, vl := [0, 1, 2, 3, 4, 5, 6], cl := [0, 1, 2, 3, 4, 5, 6], ll := [0, 1, 2, 3, 4, 5, 6], gl := [5, 43], kn := [], E := E }
theorem b__law_near_parts (E : XK) : ∀ ds : List D, ds.length = 3 → Bl (theF P w K mg base) (S__law_near_parts E) (startD [("deal" : Str), ("parts" : Str), ("many" : Str), ("found" : Str), ("at" : Str), ("part" : Str), ("late" : Str)] ds) (defBody (top 50)) J0 (m__law_near_parts ds)
  | [v_deal, v_parts, v_many], _ => (show Bl (theF P w K mg base) (S__law_near_parts E) [some (false, v_deal), some (false, v_parts), some (false, v_many), none, none, none, none] _ _ _ from (bl_set 3 (ev_lst (evv_cons (ev_add (ev_loc 1).o (ev_tup (evv_cons (ev_tup (evv_cons ev_str (evv_cons (ev_tup (evv_cons (ev_sub (ev_loc 2).o ev_int.o) evv_nil)) evv_nil))) evv_nil)).o) (evv_cons (ev_add (ev_tup (evv_cons (ev_tup (evv_cons ev_str (evv_cons ev_int (evv_cons (ev_tup (evv_cons ev_int evv_nil)) evv_nil)))) evv_nil)).o (ev_loc 1).o) evv_nil))).v fun v_found63 => (at_ (ρ := [some (false, v_deal), some (false, v_parts), some (false, v_many), some (false, v_found63), none, none, none]) (bl_ifJ (St := (D)) (fun s64 => [some (false, v_deal), some (false, v_parts), some (false, v_many), some (false, s64), none, none, none]) (evt_cmp (ev_len 5 (eva_cons (ev_loc 1).o eva_nil)).o ev_int.o) (fun k65 => (bl_set 4 (ev_call 43 (evv_cons (ev_loc 0) (evv_cons (ev_len 5 (eva_cons (ev_loc 1).o eva_nil)) evv_nil))) fun v_at66 => (at_ (ρ := [some (false, v_deal), some (false, v_parts), some (false, v_many), some (false, v_found63), some (false, v_at66), none, none]) (bl_set 5 (ev_ix (ev_loc 1).o (ev_loc 4).o) fun v_part67 => (at_ (ρ := [some (false, v_deal), some (false, v_parts), some (false, v_many), some (false, v_found63), some (false, v_at66), some (false, v_part67), none]) (bl_set 6 (ev_if (evt_cmp (ev_ix (ev_loc 5).o ev_int.o).o ev_str.o) (ev_tup (evv_cons ev_str (evv_cons (ev_add (ev_ix (ev_loc 5).o ev_int.o).o (ev_tup (evv_cons (ev_loc 2) evv_nil)).o) evv_nil))) (ev_if (evt_cmp (ev_ix (ev_loc 5).o ev_int.o).o ev_str.o) (ev_tup (evv_cons ev_str (evv_cons (ev_add (ev_ix (ev_loc 5).o ev_int.o).o ev_int.o) (evv_cons (ev_ix (ev_loc 5).o ev_int.o) evv_nil)))) (ev_tup (evv_cons ev_str (evv_cons (ev_ix (ev_loc 5).o ev_int.o) (evv_cons (ev_add (ev_ix (ev_loc 5).o ev_int.o).o ev_int.o) evv_nil)))))) fun v_late68 => (at_ (ρ := [some (false, v_deal), some (false, v_parts), some (false, v_many), some (false, v_found63), some (false, v_at66), some (false, v_part67), some (false, v_late68)]) (bl_set 3 (ev_add (ev_loc 3).o (ev_lst (evv_cons (ev_add (ev_sl (ev_loc 1) evp_none (evp_some (ev_loc 4))).o (ev_sl (ev_loc 1) (evp_some (ev_add (ev_loc 4).o ev_int.o)) evp_none).o) (evv_cons (ev_add (ev_add (ev_sl (ev_loc 1) evp_none (evp_some (ev_loc 4))).o (ev_tup (evv_cons (ev_loc 5) evv_nil)).o).o (ev_sl (ev_loc 1) (evp_some (ev_loc 4)) evp_none).o) (evv_cons (ev_add (ev_add (ev_sl (ev_loc 1) evp_none (evp_some (ev_loc 4))).o (ev_tup (evv_cons (ev_loc 6) evv_nil)).o).o (ev_sl (ev_loc 1) (evp_some (ev_add (ev_loc 4).o ev_int.o)) evp_none).o) evv_nil)))).v.o) fun v_found69 => (at_ (ρ := [some (false, v_deal), some (false, v_parts), some (false, v_many), some (false, v_found69), some (false, v_at66), some (false, v_part67), some (false, v_late68)]) (bl_nil ⟨v_found69, (.keep (.keep (.keep (.keep (.drop (.drop (.drop .nil))))))), rfl⟩)))))))))) (fun k65 => (bl_nil ⟨v_found63, (.keep (.keep (.keep (.keep (.keep (.keep (.keep .nil))))))), rfl⟩)) fun s64 => (at_ (ρ := [some (false, v_deal), some (false, v_parts), some (false, v_many), some (false, s64), none, none, none]) (bl_ret (ev_add (ev_loc 3).o (ev_if (evt_cmp (ev_revT (ev_loc 1)).o (ev_loc 1).o) (ev_lst (evv_cons (ev_revT (ev_loc 1)) evv_nil)).v (ev_lst evv_nil).v).o)))))))
def S_Rule___eq__ (E : XK) : Sx := { N := [("self" : Str), ("other" : Str)], sc := (defScope (cbody 8 1)), L := 2, vl := [0, 1], cl := [0, 1], ll := [0, 1], gl := [4, 60], kn := [], E := E }
theorem b_Rule___eq__ (E : XK) : ∀ ds : List D, ds.length = 2 → Bl (theF P w K mg base) (S_Rule___eq__ E) (startD [("self" : Str), ("other" : Str)] ds) (defBody (cbody 8 1)) J0 (m_Rule___eq__ ds)
  | [v_self, v_other], _ => (show Bl (theF P w K mg base) (S_Rule___eq__ E) [some (false, v_self), some (false, v_other)] _ _ _ from (bl_ret (ev_and (ev_isin 4 (eva_cons (ev_loc 1).o (eva_cons (ev_clv 60).o eva_nil))) (ev_bo1 (ev_cmp (ev_fld (ev_loc 0)).o (ev_fld (ev_loc 1)).o)))))
def S_part_lets (E : XK) : Sx := { N := [("part" : Str), ("standing" : Str), ("look" : Str)], sc := (defScope (top 14)), L := 2, vl := [0, 1, 2], cl := [0, 1, 2], ll := [0, 1, 2], gl := [19], kn := [26, 27, 29], E := E }
theorem b_part_lets (E : XK) : ∀ ds : List D, ds.length = 2 → Bl (theF P w K mg base) (S_part_lets E) (startD [("part" : Str), ("standing" : Str), ("look" : Str)] ds) (defBody (top 14)) J0 (m_part_lets ds)
  | [v_part, v_standing], _ => (show Bl (theF P w K mg base) (S_part_lets E) [some (false, v_part), some (false, v_standing), none] _ _ _ from (bl_set 2 (ev_tab 19 (ev_ix (ev_loc 0).o ev_int.o)) fun v_look70 => (at_ (ρ := [some (false, v_part), some (false, v_standing), some (false, v_look70)]) (bl_ret (ev_callL 2 [(("apart_lets" : Str), m_apart_lets), (("most_lets" : Str), m_most_lets), (("room_lets" : Str), m_room_lets)] (evv_cons (ev_loc 0) (evv_cons (ev_loc 1) evv_nil)) ⟨⟨26, _, _, _, rfl, rfl, rfl⟩, ⟨27, _, _, _, rfl, rfl, rfl⟩, ⟨29, _, _, _, rfl, rfl, rfl⟩, trivial⟩)))))
def S_Web___eq__ (E : XK) : Sx := { N := [("self" : Str), ("other" : Str)], sc := (defScope (cbody 17 1)), L := 2, vl := [0, 1], cl := [0, 1], ll := [0, 1], gl := [4, 61], kn := [], E := E }
theorem b_Web___eq__ (E : XK) : ∀ ds : List D, ds.length = 2 → Bl (theF P w K mg base) (S_Web___eq__ E) (startD [("self" : Str), ("other" : Str)] ds) (defBody (cbody 17 1)) J0 (m_Web___eq__ ds)
  | [v_self, v_other], _ => (show Bl (theF P w K mg base) (S_Web___eq__ E) [some (false, v_self), some (false, v_other)] _ _ _ from (bl_if (evt_not (evt_val (ev_isin 4 (eva_cons (ev_loc 1).o (eva_cons (ev_clv 61).o eva_nil))))) (bl_ret ev_bool) (bl_nil (at_ (ρ := [some (false, v_self), some (false, v_other)]) (bl_ret (ev_and (ev_cmp (ev_fld (ev_loc 0)).o (ev_fld (ev_loc 1)).o) (ev_and (ev_cmp (ev_fld (ev_loc 0)).o (ev_fld (ev_loc 1)).o) (ev_bo1 (ev_cmp (ev_fld (ev_loc 0)).o (ev_fld (ev_loc 1)).o)))))))))
def S_part_line (E : XK) : Sx := { N := [("web" : Str), ("part" : Str), ("tell" : Str)], sc := (defScope (top 30)), L := 2, vl := [0, 1, 2], cl := [0, 1, 2], ll := [0, 1, 2], gl := [20], kn := [37, 38, 39], E := E }
theorem b_part_line (E : XK) : ∀ ds : List D, ds.length = 2 → Bl (theF P w K mg base) (S_part_line E) (startD [("web" : Str), ("part" : Str), ("tell" : Str)] ds) (defBody (top 30)) J0 (m_part_line ds)
  | [v_web, v_part], _ => (show Bl (theF P w K mg base) (S_part_line E) [some (false, v_web), some (false, v_part), none] _ _ _ from (bl_set 2 (ev_tab 20 (ev_ix (ev_loc 1).o ev_int.o)) fun v_tell71 => (at_ (ρ := [some (false, v_web), some (false, v_part), some (false, v_tell71)]) (bl_ret (ev_callL 2 [(("apart_line" : Str), m_apart_line), (("most_line" : Str), m_most_line), (("room_line" : Str), m_room_line)] (evv_cons (ev_loc 0) (evv_cons (ev_loc 1) evv_nil)) ⟨⟨37, _, _, _, rfl, rfl, rfl⟩, ⟨38, _, _, _, rfl, rfl, rfl⟩, ⟨39, _, _, _, rfl, rfl, rfl⟩, trivial⟩)))))
def S__law_all (E : XK) : Sx := { N := [("pairs" : Str), (".0" : Str), ("told" : Str), ("due" : Str)], sc := (defScope (top 38)), L := 2, vl := [0], cl := [0], ll := [0], gl := [5], kn := [46], E := E }
def S__law_all_1 : Sx := { N := [("pairs" : Str), (".0" : Str), ("told" : Str), ("due" : Str)], sc := relS { kind := .function, names := [((".0" : Str), NameKind.local), (("told" : Str), NameKind.local), (("due" : Str), NameKind.local), (("_law_same" : Str), NameKind.globalImplicit)], isGenerator := false, isCoroutine := false, more := [] : Scope } (S__law_all E0).sc, L := (S__law_all E0).L, vl := [1, 2, 3], cl := [], ll := [1, 2, 3], gl := [46], kn := [46], E := E0 }
theorem b__law_all (E : XK) : ∀ ds : List D, ds.length = 1 → Bl (theF P w K mg base) (S__law_all E) (startD [("pairs" : Str), (".0" : Str), ("told" : Str), ("due" : Str)] ds) (defBody (top 38)) J0 (m__law_all ds)
  | [v_pairs], _ => (show Bl (theF P w K mg base) (S__law_all E) [some (false, v_pairs), none, none, none] _ _ _ from (bl_ret (ev_cmp (ev_len 5 (eva_cons (comp (S' := S__law_all_1) [((".0" : Str), 1), (("told" : Str), 2), (("due" : Str), 3)] (evi_seq (ev_loc 0)) (cd2i (evg_2 2 3) (fun v_told72 v_due73 => (atT (ρ := [some (false, v_pairs), none, some (false, v_told72), some (false, v_due73)]) (evt_not (evt_val (ev_call 46 (evv_cons (ev_loc 2) (evv_cons (ev_loc 3) evv_nil))))))) (fun v_told72 v_due73 => (atE (ρ := [some (false, v_pairs), none, some (false, v_told72), some (false, v_due73)]) (ev_loc 2)))) (hG := rfl) (hc := by kernel_rfl)).v.o eva_nil)).o ev_int.o)))
def S__law_bearers (E : XK) : Sx := { N := [("deal" : Str), ("thing" : Str), ("one" : Str), ("other" : Str), ("near" : Str), (".0" : Str), ("x" : Str)], sc := (defScope (top 40)), L := 2, vl := [0, 1, 2, 3, 4], cl := [0, 1, 2, 3, 4], ll := [0, 1, 2, 3, 4], gl := [5, 6, 7, 9, 10, 13, 43, 48], kn := [], E := E }
def S__law_bearers_1 : Sx := { N := [("deal" : Str), ("thing" : Str), ("one" : Str), ("other" : Str), ("near" : Str), (".0" : Str), ("x" : Str)], sc := relS { kind := .function, names := [((".0" : Str), NameKind.local), (("x" : Str), NameKind.local), (("other" : Str), NameKind.free)], isGenerator := false, isCoroutine := false, more := [] : Scope } (S__law_bearers E0).sc, L := (S__law_bearers E0).L, vl := [5, 6, 3], cl := [], ll := [5, 6], gl := [], kn := [], E := E0 }
theorem b__law_bearers (E : XK) : ∀ ds : List D, ds.length = 2 → Bl (theF P w K mg base) (S__law_bearers E) (startD [("deal" : Str), ("thing" : Str), ("one" : Str), ("other" : Str), ("near" : Str), (".0" : Str), ("x" : Str)] ds) (defBody (top 40)) J0 (m__law_bearers ds)
  | [v_deal, v_thing], _ => (show Bl (theF P w K mg base) (S__law_bearers E) [some (false, v_deal), some (false, v_thing), none, none, none, none, none] _ _ _ from (bl_if (evt_bo (evw_or (evt_cmp (ev_loc 1).o ev_int.o) (evw_or1 (evt_cmp (ev_call 43 (evv_cons (ev_loc 0) (evv_cons ev_int evv_nil))).o ev_int.o)))) (bl_ret (ev_tup (evv_cons (ev_tup evv_nil) evv_nil))) (bl_nil (at_ (ρ := [some (false, v_deal), some (false, v_thing), none, none, none, none, none]) (bl_par 2 3 (ev_call 48 (evv_cons (ev_loc 0) (evv_cons (evl_listRg 6 (evr_2 9 (ev_max 7 (eva_cons ev_int.o (eva_cons (ev_sub (ev_loc 1).o ev_int.o).o eva_nil))) (ev_loc 1))).v (evv_cons ev_int evv_nil)))) (ev_call 48 (evv_cons (ev_loc 0) (evv_cons (evl_listRg 6 (evr_1 9 (ev_loc 1))).v (evv_cons ev_int evv_nil)))) (hw := by kernel_rfl) fun v_one74 v_other75 => (at_ (ρ := [some (false, v_deal), some (false, v_thing), some (false, v_one74), some (false, v_other75), none, none, none]) (bl_set 4 (ev_cmp (ev_len 5 (eva_cons (comp (S' := S__law_bearers_1) [((".0" : Str), 5), (("x" : Str), 6)] (evi_seq (ev_loc 2)) (cd1i (evg_1 6) (fun v_x77 => (atT (ρ := [some (false, v_deal), some (false, v_thing), some (false, v_one74), some (false, v_other75), none, none, some (false, v_x77)]) (evt_cmp (ev_loc 6).o (ev_loc 3).o))) (fun v_x77 => (atE (ρ := [some (false, v_deal), some (false, v_thing), some (false, v_one74), some (false, v_other75), none, none, some (false, v_x77)]) ev_int))) (hG := rfl) (hc := by kernel_rfl)).v.o eva_nil)).o (ev_lst (evv_cons (ev_len 5 (eva_cons (ev_loc 2).o eva_nil)) (evv_cons (ev_len 5 (eva_cons (ev_loc 3).o eva_nil)) evv_nil))).v.o) fun v_near76 => (at_ (ρ := [some (false, v_deal), some (false, v_thing), some (false, v_one74), some (false, v_other75), some (false, v_near76), none, none]) (bl_ret (ev_if (evt_bo (evw_or (evt_val (ev_loc 4)) (evw_or1 (evt_cmp (ev_call 43 (evv_cons (ev_loc 0) (evv_cons ev_int evv_nil))).o ev_int.o)))) (ev_tup (evv_cons (ev_loc 2) evv_nil)) (ev_tuple 13 (eva_cons (evl_sorted 10 (eva_cons (ev_lst (evv_cons (ev_loc 2) (evv_cons (ev_loc 3) evv_nil))).v.o eva_nil)).v.o eva_nil))))))))))))
def S__law_part (E : XK) : Sx := { N := [("deal" : Str), ("many" : Str), ("sort" : Str), ("lot" : Str), ("weights" : Str), (".0" : Str), ("at" : Str)], sc := (defScope (top 42)), L := 2, vl := [0, 1, 2, 3, 4], cl := [0, 1, 2, 3, 4], ll := [0, 1, 2, 3, 4], gl := [5, 6, 9, 12, 13, 43, 48], kn := [44], E := E }
def S__law_part_1 : Sx := { N := [("deal" : Str), ("many" : Str), ("sort" : Str), ("lot" : Str), ("weights" : Str), (".0" : Str), ("at" : Str)], sc := relS { kind := .function, names := [((".0" : Str), NameKind.local), (("at" : Str), NameKind.local), (("_law_of" : Str), NameKind.globalImplicit), (("deal" : Str), NameKind.free)], isGenerator := false, isCoroutine := false, more := [] : Scope } (S__law_part E0).sc, L := (S__law_part E0).L, vl := [5, 6, 0], cl := [], ll := [5, 6], gl := [44], kn := [44], E := E0 }
theorem b__law_part (E : XK) : ∀ ds : List D, ds.length = 2 → Bl (theF P w K mg base) (S__law_part E) (startD [("deal" : Str), ("many" : Str), ("sort" : Str), ("lot" : Str), ("weights" : Str), (".0" : Str), ("at" : Str)] ds) (defBody (top 42)) J0 (m__law_part ds)
  | [v_deal, v_many], _ => (show Bl (theF P w K mg base) (S__law_part E) [some (false, v_deal), some (false, v_many), none, none, none, none, none] _ _ _ from (bl_set 2 (ev_call 43 (evv_cons (ev_loc 0) (evv_cons ev_int evv_nil))) fun v_sort78 => (at_ (ρ := [some (false, v_deal), some (false, v_many), some (false, v_sort78), none, none, none, none]) (bl_if (evt_cmp (ev_loc 2).o ev_int.o) (bl_ret (ev_tup (evv_cons ev_str (evv_cons (ev_call 48 (evv_cons (ev_loc 0) (evv_cons (evl_listRg 6 (evr_1 9 (ev_loc 1))).v (evv_cons (ev_add ev_int.o (ev_call 43 (evv_cons (ev_loc 0) (evv_cons ev_int evv_nil))).o) evv_nil)))) evv_nil)))) (bl_nil (at_ (ρ := [some (false, v_deal), some (false, v_many), some (false, v_sort78), none, none, none, none]) (bl_if (evt_cmp (ev_loc 2).o ev_int.o) (bl_set 3 (ev_call 48 (evv_cons (ev_loc 0) (evv_cons (evl_listRg 6 (evr_1 9 (ev_loc 1))).v (evv_cons (ev_loc 1) evv_nil)))) fun v_lot79 => (at_ (ρ := [some (false, v_deal), some (false, v_many), some (false, v_sort78), some (false, v_lot79), none, none, none]) (bl_ret (ev_tup (evv_cons ev_str (evv_cons (ev_call 43 (evv_cons (ev_loc 0) (evv_cons (ev_add (ev_len 5 (eva_cons (ev_loc 3).o eva_nil)).o ev_int.o) evv_nil))) (evv_cons (ev_loc 3) evv_nil))))))) (bl_nil (at_ (ρ := [some (false, v_deal), some (false, v_many), some (false, v_sort78), none, none, none, none]) (bl_set 4 (ev_tuple 13 (eva_cons (comp (S' := S__law_part_1) [((".0" : Str), 5), (("at" : Str), 6)] (evi_rng1 9 (evv_cons (ev_loc 1) evv_nil)) (cd1 (evg_1 6) (fun v_at81 => (atE (ρ := [some (false, v_deal), some (false, v_many), some (false, v_sort78), none, none, none, some (false, v_at81)]) (ev_call 44 (evv_cons (ev_loc 0) (evv_cons (ev_lst (evv_cons ev_int (evv_cons ev_int (evv_cons ev_int (evv_cons ev_int (evv_cons ev_int (evv_cons ev_int evv_nil))))))).v evv_nil)))))) (hG := rfl) (hc := by kernel_rfl)).v.o eva_nil)) fun v_weights80 => (at_ (ρ := [some (false, v_deal), some (false, v_many), some (false, v_sort78), none, some (false, v_weights80), none, none]) (bl_ret (ev_tup (evv_cons ev_str (evv_cons (ev_loc 4) (evv_cons (ev_call 43 (evv_cons (ev_loc 0) (evv_cons (ev_add (ev_sum 12 (eva_cons (ev_loc 4).o eva_nil)).o ev_int.o) evv_nil))) evv_nil))))))))))))))))
def S_lets (E : XK) : Sx := { N := [("rule" : Str), ("standing" : Str), (".0" : Str), ("part" : Str)], sc := (defScope (top 15)), L := 3, vl := [0, 1], cl := [0, 1], ll := [0, 1], gl := [], kn := [30], E := E }
def S_lets_1 : Sx := { N := [("rule" : Str), ("standing" : Str), (".0" : Str), ("part" : Str)], sc := relS { kind := .function, names := [((".0" : Str), NameKind.local), (("part" : Str), NameKind.local), (("part_lets" : Str), NameKind.globalImplicit), (("standing" : Str), NameKind.free)], isGenerator := false, isCoroutine := false, more := [] : Scope } (S_lets E0).sc, L := (S_lets E0).L, vl := [2, 3, 1], cl := [], ll := [2, 3], gl := [30], kn := [30], E := E0 }
theorem b_lets (E : XK) : ∀ ds : List D, ds.length = 2 → Bl (theF P w K mg base) (S_lets E) (startD [("rule" : Str), ("standing" : Str), (".0" : Str), ("part" : Str)] ds) (defBody (top 15)) J0 (m_lets ds)
  | [v_rule, v_standing], _ => (show Bl (theF P w K mg base) (S_lets E) [some (false, v_rule), some (false, v_standing), none, none] _ _ _ from (bl_ret (ev_cmp (comp (S' := S_lets_1) [((".0" : Str), 2), (("part" : Str), 3)] (evi_seq (ev_fld (ev_loc 0))) (cd1i (evg_1 3) (fun v_part82 => (atT (ρ := [some (false, v_rule), some (false, v_standing), none, some (false, v_part82)]) (evt_not (evt_val (ev_call 30 (evv_cons (ev_loc 3) (evv_cons (ev_loc 1) evv_nil))))))) (fun v_part82 => (atE (ρ := [some (false, v_rule), some (false, v_standing), none, some (false, v_part82)]) (ev_loc 3)))) (hG := rfl) (hc := by kernel_rfl)).v.o (ev_lst evv_nil).v.o)))
def S_lots_by_size (E : XK) : Sx := { N := [("web" : Str)], sc := (defScope (top 22)), L := 3, vl := [0], cl := [0], ll := [0], gl := [10, 25, 32, 34], kn := [], E := E }
theorem b_lots_by_size (E : XK) : ∀ ds : List D, ds.length = 1 → Bl (theF P w K mg base) (S_lots_by_size E) (startD [("web" : Str)] ds) (defBody (top 22)) J0 (m_lots_by_size ds)
  | [v_web], _ => (show Bl (theF P w K mg base) (S_lots_by_size E) [some (false, v_web)] _ _ _ from (bl_ret (evl_sortK 10 34 (eva_cons (ev_call 25 (evv_cons (ev_call 32 (evv_cons (ev_loc 0) evv_nil)) evv_nil)).o eva_nil)).v))
def S_rule_text (E : XK) : Sx := { N := [("web" : Str), ("rule" : Str), (".0" : Str), ("part" : Str)], sc := (defScope (top 31)), L := 3, vl := [0, 1], cl := [0, 1], ll := [0, 1], gl := [], kn := [40], E := E }
def S_rule_text_1 : Sx := { N := [("web" : Str), ("rule" : Str), (".0" : Str), ("part" : Str)], sc := relS { kind := .function, names := [((".0" : Str), NameKind.local), (("part" : Str), NameKind.local), (("part_line" : Str), NameKind.globalImplicit), (("web" : Str), NameKind.free)], isGenerator := false, isCoroutine := false, more := [] : Scope } (S_rule_text E0).sc, L := (S_rule_text E0).L, vl := [2, 3, 0], cl := [], ll := [2, 3], gl := [40], kn := [40], E := E0 }
theorem b_rule_text (E : XK) : ∀ ds : List D, ds.length = 2 → Bl (theF P w K mg base) (S_rule_text E) (startD [("web" : Str), ("rule" : Str), (".0" : Str), ("part" : Str)] ds) (defBody (top 31)) J0 (m_rule_text ds)
  | [v_web, v_rule], _ => (show Bl (theF P w K mg base) (S_rule_text E) [some (false, v_web), some (false, v_rule), none, none] _ _ _ from (bl_ret (ev_join ev_str (comp (S' := S_rule_text_1) [((".0" : Str), 2), (("part" : Str), 3)] (evi_seq (ev_fld (ev_loc 1))) (cd1 (evg_1 3) (fun v_part83 => (atE (ρ := [some (false, v_web), some (false, v_rule), none, some (false, v_part83)]) (ev_call 40 (evv_cons (ev_loc 0) (evv_cons (ev_loc 3) evv_nil)))))) (hG := rfl) (hc := by kernel_rfl)).v.o)))
def S__law_stock (E : XK) : Sx := { N := [("deal" : Str), ("least" : Str), ("most" : Str), ("many" : Str), ("names" : Str), (".0" : Str), ("at" : Str)], sc := (defScope (top 41)), L := 3, vl := [0, 1, 2, 3, 4], cl := [0, 1, 2, 3, 4], ll := [0, 1, 2, 3, 4], gl := [9, 13, 43], kn := [49], E := E }
def S__law_stock_1 : Sx := { N := [("deal" : Str), ("least" : Str), ("most" : Str), ("many" : Str), ("names" : Str), (".0" : Str), ("at" : Str)], sc := relS { kind := .function, names := [((".0" : Str), NameKind.local), (("at" : Str), NameKind.local), (("_law_any" : Str), NameKind.globalImplicit), (("deal" : Str), NameKind.free)], isGenerator := false, isCoroutine := false, more := [] : Scope } (S__law_stock E0).sc, L := (S__law_stock E0).L, vl := [5, 6, 0], cl := [], ll := [5, 6], gl := [43], kn := [49], E := E0 }
def S__law_stock_2 : Sx := { N := [("deal" : Str), ("least" : Str), ("most" : Str), ("many" : Str), ("names" : Str), (".0" : Str), ("at" : Str)], sc := relS { kind := .function, names := [((".0" : Str), NameKind.local), (("at" : Str), NameKind.local), (("_law_bearers" : Str), NameKind.globalImplicit), (("deal" : Str), NameKind.free)], isGenerator := false, isCoroutine := false, more := [] : Scope } (S__law_stock E0).sc, L := (S__law_stock E0).L, vl := [5, 6, 0], cl := [], ll := [5, 6], gl := [49], kn := [49], E := E0 }
def S__law_stock_3 : Sx := { N := [("deal" : Str), ("least" : Str), ("most" : Str), ("many" : Str), ("names" : Str), (".0" : Str), ("at" : Str)], sc := relS { kind := .function, names := [((".0" : Str), NameKind.local), (("at" : Str), NameKind.local), (("_law_any" : Str), NameKind.globalImplicit), (("deal" : Str), NameKind.free)], isGenerator := false, isCoroutine := false, more := [] : Scope } (S__law_stock E0).sc, L := (S__law_stock E0).L, vl := [5, 6, 0], cl := [], ll := [5, 6], gl := [43], kn := [49], E := E0 }
theorem b__law_stock (E : XK) : ∀ ds : List D, ds.length = 3 → Bl (theF P w K mg base) (S__law_stock E) (startD [("deal" : Str), ("least" : Str), ("most" : Str), ("many" : Str), ("names" : Str), (".0" : Str), ("at" : Str)] ds) (defBody (top 41)) J0 (m__law_stock ds)
  | [v_deal, v_least, v_most], _ => (show Bl (theF P w K mg base) (S__law_stock E) [some (false, v_deal), some (false, v_least), some (false, v_most), none, none, none, none] _ _ _ from (bl_set 3 (ev_add (ev_loc 1).o (ev_call 43 (evv_cons (ev_loc 0) (evv_cons (ev_add (ev_sub (ev_loc 2).o (ev_loc 1).o).o ev_int.o) evv_nil))).o) fun v_many84 => (at_ (ρ := [some (false, v_deal), some (false, v_least), some (false, v_most), some (false, v_many84), none, none, none]) (bl_set 4 (ev_tuple 13 (eva_cons (comp (S' := S__law_stock_1) [((".0" : Str), 5), (("at" : Str), 6)] (evi_rng1 9 (evv_cons (ev_loc 3) evv_nil)) (cd1 (evg_1 6) (fun v_at86 => (atE (ρ := [some (false, v_deal), some (false, v_least), some (false, v_most), some (false, v_many84), none, none, some (false, v_at86)]) (ev_add (ev_ix ev_str.o (ev_call 43 (evv_cons (ev_loc 0) (evv_cons ev_int evv_nil))).o).o (ev_ix ev_str.o (ev_loc 6).o).o)))) (hG := rfl) (hc := by kernel_rfl)).v.o eva_nil)) fun v_names85 => (at_ (ρ := [some (false, v_deal), some (false, v_least), some (false, v_most), some (false, v_many84), some (false, v_names85), none, none]) (bl_ret (ev_tup (evv_cons (ev_loc 4) (evv_cons (ev_tuple 13 (eva_cons (comp (S' := S__law_stock_3) [((".0" : Str), 5), (("at" : Str), 6)] (evi_rng1 9 (evv_cons (ev_loc 3) evv_nil)) (cd1 (evg_1 6) (fun v_at88 => (atE (ρ := [some (false, v_deal), some (false, v_least), some (false, v_most), some (false, v_many84), some (false, v_names85), none, some (false, v_at88)]) (ev_add ev_int.o (ev_call 43 (evv_cons (ev_loc 0) (evv_cons ev_int evv_nil))).o)))) (hG := rfl) (hc := by kernel_rfl)).v.o eva_nil)) (evv_cons (ev_tuple 13 (eva_cons (comp (S' := S__law_stock_2) [((".0" : Str), 5), (("at" : Str), 6)] (evi_rng1 9 (evv_cons (ev_loc 3) evv_nil)) (cd1 (evg_1 6) (fun v_at87 => (atE (ρ := [some (false, v_deal), some (false, v_least), some (false, v_most), some (false, v_many84), some (false, v_names85), none, some (false, v_at87)]) (ev_call 49 (evv_cons (ev_loc 0) (evv_cons (ev_loc 6) evv_nil)))))) (hG := rfl) (hc := by kernel_rfl)).v.o eva_nil)) evv_nil))))))))))
def S__law_parts_of_rule (E : XK) : Sx := { N := [("deal" : Str), ("many" : Str), ("most" : Str), ("found" : Str), (".0" : Str), ("turn" : Str), ("part" : Str)], sc := (defScope (top 43)), L := 3, vl := [0, 1, 2, 3], cl := [0, 1, 2, 3], ll := [0, 1, 2, 3], gl := [9, 13, 43], kn := [5, 51], E := E }
def S__law_parts_of_rule_1 : Sx := { N := [("deal" : Str), ("many" : Str), ("most" : Str), ("found" : Str), (".0" : Str), ("turn" : Str), ("part" : Str)], sc := relS { kind := .function, names := [((".0" : Str), NameKind.local), (("part" : Str), NameKind.local), (("len" : Str), NameKind.globalImplicit), (("_law_any" : Str), NameKind.globalImplicit), (("deal" : Str), NameKind.free)], isGenerator := false, isCoroutine := false, more := [] : Scope } (S__law_parts_of_rule E0).sc, L := (S__law_parts_of_rule E0).L, vl := [4, 6, 0], cl := [], ll := [4, 6], gl := [5, 43], kn := [5, 51], E := E0 }
def S__law_parts_of_rule_2 : Sx := { N := [("deal" : Str), ("many" : Str), ("most" : Str), ("found" : Str), (".0" : Str), ("turn" : Str), ("part" : Str)], sc := relS { kind := .function, names := [((".0" : Str), NameKind.local), (("turn" : Str), NameKind.local), (("_law_part" : Str), NameKind.globalImplicit), (("deal" : Str), NameKind.free), (("many" : Str), NameKind.free)], isGenerator := false, isCoroutine := false, more := [] : Scope } (S__law_parts_of_rule E0).sc, L := (S__law_parts_of_rule E0).L, vl := [4, 5, 0, 1], cl := [], ll := [4, 5], gl := [51], kn := [5, 51], E := E0 }
theorem b__law_parts_of_rule (E : XK) : ∀ ds : List D, ds.length = 3 → Bl (theF P w K mg base) (S__law_parts_of_rule E) (startD [("deal" : Str), ("many" : Str), ("most" : Str), ("found" : Str), (".0" : Str), ("turn" : Str), ("part" : Str)] ds) (defBody (top 43)) J0 (m__law_parts_of_rule ds)
  | [v_deal, v_many, v_most], _ => (show Bl (theF P w K mg base) (S__law_parts_of_rule E) [some (false, v_deal), some (false, v_many), some (false, v_most), none, none, none, none] _ _ _ from (bl_comp (S' := S__law_parts_of_rule_2) 3 [((".0" : Str), 4), (("turn" : Str), 5)] (evi_rng1 9 (evv_cons (ev_call 43 (evv_cons (ev_loc 0) (evv_cons (ev_add (ev_loc 2).o ev_int.o) evv_nil))) evv_nil)) (cd1 (evg_1 5) (fun v_turn91 => (atE (ρ := [some (false, v_deal), some (false, v_many), some (false, v_most), none, none, some (false, v_turn91), none]) (ev_call 51 (evv_cons (ev_loc 0) (evv_cons (ev_loc 1) evv_nil)))))) (hG := rfl) (hc := by kernel_rfl) (hw := by kernel_rfl) fun v_found89 => (at_ (ρ := [some (false, v_deal), some (false, v_many), some (false, v_most), some (true, .lst v_found89), none, none, none]) (bl_frz 3 (h := (at_ (ρ := [some (false, v_deal), some (false, v_many), some (false, v_most), some (false, (.lst v_found89)), none, none, none]) (bl_ret (ev_tuple 13 (eva_cons (comp (S' := S__law_parts_of_rule_1) [((".0" : Str), 4), (("part" : Str), 6)] (evi_seq (ev_loc 3)) (cd1i (evg_1 6) (fun v_part90 => (atT (ρ := [some (false, v_deal), some (false, v_many), some (false, v_most), some (false, (.lst v_found89)), none, none, some (false, v_part90)]) (evt_bo (evw_or (evt_cmp (ev_ix (ev_loc 6).o ev_int.o).o ev_str.o) (evw_or (evt_cmp (ev_len 5 (eva_cons (ev_ix (ev_loc 6).o ev_int.o).o eva_nil)).o ev_int.o) (evw_or1 (evt_cmp (ev_call 43 (evv_cons (ev_loc 0) (evv_cons ev_int evv_nil))).o ev_int.o))))))) (fun v_part90 => (atE (ρ := [some (false, v_deal), some (false, v_many), some (false, v_most), some (false, (.lst v_found89)), none, none, some (false, v_part90)]) (ev_loc 6)))) (hG := rfl) (hc := by kernel_rfl)).v.o eva_nil)))))))))
def S__law_web (E : XK) : Sx := { N := [("stock" : Str)], sc := (defScope (top 44)), L := 3, vl := [0], cl := [0], ll := [0], gl := [22], kn := [], E := E }
theorem b__law_web (E : XK) : ∀ ds : List D, ds.length = 1 → Bl (theF P w K mg base) (S__law_web E) (startD [("stock" : Str)] ds) (defBody (top 44)) J0 (m__law_web ds)
  | [v_stock], _ => (show Bl (theF P w K mg base) (S__law_web E) [some (false, v_stock)] _ _ _ from (bl_ret (ev_make 22 (evv_cons (ev_ix (ev_loc 0).o ev_int.o) (evv_cons (ev_ix (ev_loc 0).o ev_int.o) (evv_cons (ev_ix (ev_loc 0).o ev_int.o) evv_nil))))))
def S_same_rule (E : XK) : Sx := { N := [("web" : Str), ("one" : Str), ("other" : Str), ("lot" : Str)], sc := (defScope (top 23)), L := 4, vl := [0, 1, 2, 3], cl := [0, 1, 2, 3], ll := [0, 1, 2, 3], gl := [31, 35], kn := [], E := E }
theorem b_same_rule (E : XK) : ∀ ds : List D, ds.length = 3 → Bl (theF P w K mg base) (S_same_rule E) (startD [("web" : Str), ("one" : Str), ("other" : Str), ("lot" : Str)] ds) (defBody (top 23)) J0 (m_same_rule ds)
  | [v_web, v_one, v_other], _ => (show Bl (theF P w K mg base) (S_same_rule E) [some (false, v_web), some (false, v_one), some (false, v_other), none] _ _ _ from (bl_for1 (St := Unit) (fun s92 => [some (false, v_web), some (false, v_one), some (false, v_other), none]) (s0 := ()) (evi_seq (ev_call 35 (evv_cons (ev_loc 0) evv_nil))) (evg_1 3) (.keep (.keep (.keep (.keep .nil)))) (fun v_lot95 s92 nx93 bk94 => (at_ (ρ := [some (false, v_web), some (false, v_one), some (false, v_other), some (false, v_lot95)]) (bl_if (evt_cmp (ev_call 31 (evv_cons (ev_loc 1) (evv_cons (ev_loc 3) evv_nil))).o (ev_call 31 (evv_cons (ev_loc 2) (evv_cons (ev_loc 3) evv_nil))).o) (bl_ret (ev_loc 3)) (bl_nil (at_ (ρ := [some (false, v_web), some (false, v_one), some (false, v_other), some (false, v_lot95)]) (bl_nil ⟨(), (.keep (.keep (.keep (.drop .nil)))), rfl⟩)))))) fun s92 => (at_ (ρ := [some (false, v_web), some (false, v_one), some (false, v_other), none]) (bl_ret ev_none))))
def S_law (E : XK) : Sx := { N := [("script" : Str), ("deal" : Str), ("pairs" : Str), ("turn" : Str), ("stock" : Str), ("web" : Str), ("many" : Str), ("parts" : Str), ("rule" : Str), ("text" : Str), ("late" : Str), ("twice" : Str), ("turned" : Str), ("lot" : Str)], sc := (defScope (top 51)), L := 5, vl := [0, 1, 2, 3, 4, 5, 6, 7, 8, 9, 10, 11, 12, 13], cl := [0, 1, 2, 3, 4, 5, 6, 7, 8, 9, 10, 11, 12, 13], ll := [0, 1, 2, 3, 4, 5, 6, 7, 8, 9, 10, 11, 12, 13], gl := [5, 6, 9, 13, 21, 22, 31, 36, 41, 42, 47, 48, 50, 52, 53, 54, 56, 58, 59], kn := [21], E := E }
theorem b_lawd (E : XK) (v_ns : List Int) : Ev (theF P w K mg base) (S_law E) (startD [("script" : Str), ("deal" : Str), ("pairs" : Str), ("turn" : Str), ("stock" : Str), ("web" : Str), ("many" : Str), ("parts" : Str), ("rule" : Str), ("text" : Str), ("late" : Str), ("twice" : Str), ("turned" : Str), ("lot" : Str)] [.scr v_ns]) (asgV (defBody (top 51))) (m_lawd v_ns) := (show Ev _ (S_law E) [some (false, .scr v_ns), none, none, none, none, none, none, none, none, none, none, none, none, none] _ _ from (ev_call 42 (evv_cons (ev_loc 0) (evv_cons ev_int evv_nil))))
theorem b_law (E : XK) : Bl (theF P w K mg base) (S_law E) ((List.replicate 14 none).set 1 (some (false, .deal))) (defBody (top 51)).tail J0 m_law := (show Bl _ (S_law E) [none, some (false, .deal), none, none, none, none, none, none, none, none, none, none, none, none] _ _ _ from (bl_setL 2 (ev_lst evv_nil) fun v_pairs96 => (at_ (ρ := [none, some (false, .deal), some (true, .lst v_pairs96), none, none, none, none, none, none, none, none, none, none, none]) (bl_for1 (St := (List D)) (fun s97 => [none, some (false, .deal), some (true, .lst s97), none, none, none, none, none, none, none, none, none, none, none]) (s0 := v_pairs96) (evi_rng1 9 (evv_cons ev_int evv_nil)) (evg_1 3) (.keep (.keep (.keep (.keep (.keep (.keep (.keep (.keep (.keep (.keep (.keep (.keep (.keep (.keep .nil)))))))))))))) (fun v_turn100 s97 nx98 bk99 => (at_ (ρ := [none, some (false, .deal), some (true, .lst s97), some (false, v_turn100), none, none, none, none, none, none, none, none, none, none]) (bl_set 4 (ev_call 50 (evv_cons (ev_loc 1) (evv_cons ev_int (evv_cons ev_int evv_nil)))) fun v_stock101 => (at_ (ρ := [none, some (false, .deal), some (true, .lst s97), some (false, v_turn100), some (false, v_stock101), none, none, none, none, none, none, none, none, none]) (bl_par 5 6 (ev_call 53 (evv_cons (ev_loc 4) evv_nil)) (ev_len 5 (eva_cons (ev_ix (ev_loc 4).o ev_int.o).o eva_nil)) (hw := by kernel_rfl) fun v_web102 v_many103 => (at_ (ρ := [none, some (false, .deal), some (true, .lst s97), some (false, v_turn100), some (false, v_stock101), some (false, v_web102), some (false, v_many103), none, none, none, none, none, none, none]) (bl_set 7 (ev_call 52 (evv_cons (ev_loc 1) (evv_cons (ev_loc 6) (evv_cons ev_int evv_nil)))) fun v_parts104 => (at_ (ρ := [none, some (false, .deal), some (true, .lst s97), some (false, v_turn100), some (false, v_stock101), some (false, v_web102), some (false, v_many103), some (false, v_parts104), none, none, none, none, none, none]) (bl_set 8 (ev_if (evt_cmp (ev_loc 3).o ev_int.o) (ev_make 21 (evv_cons (ev_loc 7) evv_nil)) (ev_makeK 21 (evk_cons (ev_loc 7) evk_nil))) fun v_rule105 => (at_ (ρ := [none, some (false, .deal), some (true, .lst s97), some (false, v_turn100), some (false, v_stock101), some (false, v_web102), some (false, v_many103), some (false, v_parts104), some (false, v_rule105), none, none, none, none, none]) (bl_setL 2 (evl_add (ev_own 2) (ev_lst (evv_cons (ev_tup (evv_cons (ev_fld (ev_loc 8)) (evv_cons (ev_loc 7) evv_nil))) (evv_cons (ev_tup (evv_cons (ev_eqIns 21 (ev_loc 8) (ev_make 21 (evv_cons (ev_loc 7) evv_nil))) (evv_cons ev_bool evv_nil))) (evv_cons (ev_tup (evv_cons (ev_eqIns 21 (ev_make 21 (evv_cons (ev_loc 7) evv_nil)) (ev_loc 8)) (evv_cons ev_bool evv_nil))) (evv_cons (ev_tup (evv_cons (ev_eqAny 21 (ev_loc 8) (ev_loc 7)) (evv_cons ev_bool evv_nil))) (evv_cons (ev_tup (evv_cons (ev_eqAny 21 (ev_loc 8) ev_int) (evv_cons ev_bool evv_nil))) evv_nil)))))).v.o) fun v_pairs106 => (at_ (ρ := [none, some (false, .deal), some (true, .lst v_pairs106), some (false, v_turn100), some (false, v_stock101), some (false, v_web102), some (false, v_many103), some (false, v_parts104), some (false, v_rule105), none, none, none, none, none]) (bl_setL 2 (evl_add (ev_own 2) (ev_lst (evv_cons (ev_tup (evv_cons (ev_eqIns 21 (ev_loc 8) (ev_make 21 (evv_cons (ev_tuple 13 (eva_cons (evl_list 6 (eva_cons (ev_loc 7).o eva_nil)).v.o eva_nil)) evv_nil))) (evv_cons ev_bool evv_nil))) evv_nil)).v.o) fun v_pairs107 => (at_ (ρ := [none, some (false, .deal), some (true, .lst v_pairs107), some (false, v_turn100), some (false, v_stock101), some (false, v_web102), some (false, v_many103), some (false, v_parts104), some (false, v_rule105), none, none, none, none, none]) (bl_set 9 (ev_if (evt_cmp (ev_loc 3).o ev_int.o) (ev_call 41 (evv_cons (ev_loc 5) (evv_cons (ev_loc 8) evv_nil))) (ev_callK 41 (evk_cons (ev_loc 8) (evk_cons (ev_loc 5) evk_nil)) (ks := [("rule" : Str), ("web" : Str)]) (pm := [1, 0]) (.head _))) fun v_text108 => (at_ (ρ := [none, some (false, .deal), some (true, .lst v_pairs107), some (false, v_turn100), some (false, v_stock101), some (false, v_web102), some (false, v_many103), some (false, v_parts104), some (false, v_rule105), some (false, v_text108), none, none, none, none]) (bl_app 2 (ev_tup (evv_cons (ev_loc 9) (evv_cons (ev_call 58 (evv_cons (ev_ix (ev_loc 4).o ev_int.o) (evv_cons (ev_loc 7) evv_nil))) evv_nil))) fun v_e109 => (at_ (ρ := [none, some (false, .deal), some (true, .lst (v_pairs107 ++ [v_e109])), some (false, v_turn100), some (false, v_stock101), some (false, v_web102), some (false, v_many103), some (false, v_parts104), some (false, v_rule105), some (false, v_text108), none, none, none, none]) (bl_for1 (St := (List D)) (fun s110 => [none, some (false, .deal), some (true, .lst s110), some (false, v_turn100), some (false, v_stock101), some (false, v_web102), some (false, v_many103), some (false, v_parts104), some (false, v_rule105), some (false, v_text108), none, none, none, none]) (s0 := (v_pairs107 ++ [v_e109])) (evi_seq (ev_call 59 (evv_cons (ev_loc 1) (evv_cons (ev_loc 7) (evv_cons (ev_loc 6) evv_nil))))) (evg_1 10) (.keep (.keep (.keep (.keep (.keep (.keep (.keep (.keep (.keep (.keep (.keep (.keep (.keep (.keep .nil)))))))))))))) (fun v_late113 s110 nx111 bk112 => (at_ (ρ := [none, some (false, .deal), some (true, .lst s110), some (false, v_turn100), some (false, v_stock101), some (false, v_web102), some (false, v_many103), some (false, v_parts104), some (false, v_rule105), some (false, v_text108), some (false, v_late113), none, none, none]) (bl_setL 2 (evl_add (ev_own 2) (ev_lst (evv_cons (ev_tup (evv_cons (ev_eqIns 21 (ev_loc 8) (ev_make 21 (evv_cons (ev_loc 10) evv_nil))) (evv_cons ev_bool evv_nil))) (evv_cons (ev_tup (evv_cons (ev_eqIns 21 (ev_make 21 (evv_cons (ev_loc 10) evv_nil)) (ev_loc 8)) (evv_cons ev_bool evv_nil))) evv_nil))).v.o) fun v_pairs114 => (at_ (ρ := [none, some (false, .deal), some (true, .lst v_pairs114), some (false, v_turn100), some (false, v_stock101), some (false, v_web102), some (false, v_many103), some (false, v_parts104), some (false, v_rule105), some (false, v_text108), some (false, v_late113), none, none, none]) (bl_nil ⟨v_pairs114, (.keep (.keep (.keep (.keep (.keep (.keep (.keep (.keep (.keep (.keep (.drop (.keep (.keep (.keep .nil)))))))))))))), rfl⟩))))) fun s110 => (at_ (ρ := [none, some (false, .deal), some (true, .lst s110), some (false, v_turn100), some (false, v_stock101), some (false, v_web102), some (false, v_many103), some (false, v_parts104), some (false, v_rule105), some (false, v_text108), none, none, none, none]) (bl_par 11 12 (ev_make 21 (evv_cons (ev_add (ev_loc 7).o (ev_loc 7).o) evv_nil)) (ev_make 21 (evv_cons (ev_revT (ev_loc 7)) evv_nil)) (hw := by kernel_rfl) fun v_twice115 v_turned116 => (at_ (ρ := [none, some (false, .deal), some (true, .lst s110), some (false, v_turn100), some (false, v_stock101), some (false, v_web102), some (false, v_many103), some (false, v_parts104), some (false, v_rule105), some (false, v_text108), none, some (false, v_twice115), some (false, v_turned116), none]) (bl_setL 2 (evl_add (ev_own 2) (ev_lst (evv_cons (ev_tup (evv_cons (ev_call 36 (evv_cons (ev_loc 5) (evv_cons (ev_loc 8) (evv_cons (ev_loc 11) evv_nil)))) (evv_cons ev_none evv_nil))) (evv_cons (ev_tup (evv_cons (ev_call 36 (evv_cons (ev_loc 5) (evv_cons (ev_loc 8) (evv_cons (ev_loc 12) evv_nil)))) (evv_cons ev_none evv_nil))) (evv_cons (ev_tup (evv_cons (ev_eqIns 21 (ev_loc 8) (ev_loc 11)) (evv_cons (ev_cmp (ev_len 5 (eva_cons (ev_loc 7).o eva_nil)).o ev_int.o) evv_nil))) evv_nil)))).v.o) fun v_pairs117 => (at_ (ρ := [none, some (false, .deal), some (true, .lst v_pairs117), some (false, v_turn100), some (false, v_stock101), some (false, v_web102), some (false, v_many103), some (false, v_parts104), some (false, v_rule105), some (false, v_text108), none, some (false, v_twice115), some (false, v_turned116), none]) (bl_setL 2 (evl_add (ev_own 2) (ev_lst (evv_cons (ev_tup (evv_cons (ev_cmp (ev_call 41 (evv_cons (ev_loc 5) (evv_cons (ev_loc 11) evv_nil))).o (ev_loc 9).o) (evv_cons (ev_cmp (ev_len 5 (eva_cons (ev_loc 7).o eva_nil)).o ev_int.o) evv_nil))) evv_nil)).v.o) fun v_pairs118 => (at_ (ρ := [none, some (false, .deal), some (true, .lst v_pairs118), some (false, v_turn100), some (false, v_stock101), some (false, v_web102), some (false, v_many103), some (false, v_parts104), some (false, v_rule105), some (false, v_text108), none, some (false, v_twice115), some (false, v_turned116), none]) (bl_set 13 (ev_call 48 (evv_cons (ev_loc 1) (evv_cons (evl_listRg 6 (evr_1 9 (ev_loc 6))).v (evv_cons (ev_loc 6) evv_nil)))) fun v_lot119 => (at_ (ρ := [none, some (false, .deal), some (true, .lst v_pairs118), some (false, v_turn100), some (false, v_stock101), some (false, v_web102), some (false, v_many103), some (false, v_parts104), some (false, v_rule105), some (false, v_text108), none, some (false, v_twice115), some (false, v_turned116), some (false, v_lot119)]) (bl_app 2 (ev_tup (evv_cons (ev_call 31 (evv_cons (ev_loc 12) (evv_cons (ev_loc 13) evv_nil))) (evv_cons (ev_call 56 (evv_cons (ev_loc 7) (evv_cons (ev_call 54 (evv_cons (ev_loc 6) (evv_cons (ev_loc 13) evv_nil))) evv_nil))) evv_nil))) fun v_e120 => (at_ (ρ := [none, some (false, .deal), some (true, .lst (v_pairs118 ++ [v_e120])), some (false, v_turn100), some (false, v_stock101), some (false, v_web102), some (false, v_many103), some (false, v_parts104), some (false, v_rule105), some (false, v_text108), none, some (false, v_twice115), some (false, v_turned116), some (false, v_lot119)]) (bl_nil ⟨(v_pairs118 ++ [v_e120]), (.keep (.keep (.keep (.drop (.drop (.drop (.drop (.drop (.drop (.drop (.keep (.drop (.drop (.drop .nil)))))))))))))), rfl⟩))))))))))))))))))))))))))))))) fun s97 => (at_ (ρ := [none, some (false, .deal), some (true, .lst s97), none, none, none, none, none, none, none, none, none, none, none]) (bl_ret (ev_call 47 (evv_cons (ev_add (ev_own 2) (ev_lst (evv_cons (ev_tup (evv_cons (ev_eqIns 21 (ev_make 21 (evv_cons (ev_tup evv_nil) evv_nil)) (ev_make 21 (evv_cons (ev_lst evv_nil).v evv_nil))) (evv_cons ev_bool evv_nil))) (evv_cons (ev_tup (evv_cons (ev_call 41 (evv_cons (ev_make 22 (evv_cons (ev_tup (evv_cons ev_str evv_nil)) (evv_cons (ev_tup (evv_cons ev_int evv_nil)) (evv_cons (ev_tup (evv_cons (ev_tup (evv_cons (ev_tup evv_nil) evv_nil)) evv_nil)) evv_nil)))) (evv_cons (ev_make 21 (evv_cons (ev_tup evv_nil) evv_nil)) evv_nil))) (evv_cons ev_str evv_nil))) evv_nil))).v.o) evv_nil))))))))
end
end K03

/-! the names, one behind another -/
namespace K03
open PySem PySem.Spec PyProof.Rows L2 MS
open He (ga ma)
def d_is_within : He.DefD := ⟨(("is_within" : Str), none), ("is_within" : Str), ("is_within" : Str), defArgs (top 1), defBody (top 1), defScope (top 1), [], []⟩
def d_cut : He.DefD := ⟨(("cut" : Str), none), ("cut" : Str), ("cut" : Str), defArgs (top 2), defBody (top 2), defScope (top 2), [], []⟩
def d_all_lots : He.DefD := ⟨(("all_lots" : Str), none), ("all_lots" : Str), ("all_lots" : Str), defArgs (top 3), defBody (top 3), defScope (top 3), [], []⟩
def d_weight_in : He.DefD := ⟨(("weight_in" : Str), none), ("weight_in" : Str), ("weight_in" : Str), defArgs (top 11), defBody (top 11), defScope (top 11), [], []⟩
def d_things_of : He.DefD := ⟨(("things_of" : Str), none), ("things_of" : Str), ("things_of" : Str), defArgs (top 18), defBody (top 18), defScope (top 18), [], []⟩
def d_named_things : He.DefD := ⟨(("named_things" : Str), none), ("named_things" : Str), ("named_things" : Str), defArgs (top 19), defBody (top 19), defScope (top 19), [], []⟩
def d_size_and_lot : He.DefD := ⟨(("size_and_lot" : Str), none), ("size_and_lot" : Str), ("size_and_lot" : Str), defArgs (top 21), defBody (top 21), defScope (top 21), [], []⟩
def d_room_line : He.DefD := ⟨(("room_line" : Str), none), ("room_line" : Str), ("room_line" : Str), defArgs (top 28), defBody (top 28), defScope (top 28), [], []⟩
def d__law_deal : He.DefD := ⟨(("_law_deal" : Str), none), ("_law_deal" : Str), ("_law_deal" : Str), defArgs (top 33), defBody (top 33), defScope (top 33), [], []⟩
def d__law_any : He.DefD := ⟨(("_law_any" : Str), none), ("_law_any" : Str), ("_law_any" : Str), defArgs (top 34), defBody (top 34), defScope (top 34), [], []⟩
def d__law_is_kind : He.DefD := ⟨(("_law_is_kind" : Str), none), ("_law_is_kind" : Str), ("_law_is_kind" : Str), defArgs (top 36), defBody (top 36), defScope (top 36), [], []⟩
def d__law_marks : He.DefD := ⟨(("_law_marks" : Str), none), ("_law_marks" : Str), ("_law_marks" : Str), defArgs (top 45), defBody (top 45), defScope (top 45), [], []⟩
def d__law_part_fine : He.DefD := ⟨(("_law_part_fine" : Str), none), ("_law_part_fine" : Str), ("_law_part_fine" : Str), defArgs (top 46), defBody (top 46), defScope (top 46), [], []⟩
def d__law_rule_row : He.DefD := ⟨(("_law_rule_row" : Str), none), ("_law_rule_row" : Str), ("_law_rule_row" : Str), defArgs (top 48), defBody (top 48), defScope (top 48), [], []⟩
def d_apart_lets : He.DefD := ⟨(("apart_lets" : Str), none), ("apart_lets" : Str), ("apart_lets" : Str), defArgs (top 9), defBody (top 9), defScope (top 9), [], []⟩
def d_most_lets : He.DefD := ⟨(("most_lets" : Str), none), ("most_lets" : Str), ("most_lets" : Str), defArgs (top 10), defBody (top 10), defScope (top 10), [], []⟩
def d_room_lets : He.DefD := ⟨(("room_lets" : Str), none), ("room_lets" : Str), ("room_lets" : Str), defArgs (top 12), defBody (top 12), defScope (top 12), [], []⟩
def d_apart_line : He.DefD := ⟨(("apart_line" : Str), none), ("apart_line" : Str), ("apart_line" : Str), defArgs (top 26), defBody (top 26), defScope (top 26), [], []⟩
def d_most_line : He.DefD := ⟨(("most_line" : Str), none), ("most_line" : Str), ("most_line" : Str), defArgs (top 27), defBody (top 27), defScope (top 27), [], []⟩
def d__law_of : He.DefD := ⟨(("_law_of" : Str), none), ("_law_of" : Str), ("_law_of" : Str), defArgs (top 35), defBody (top 35), defScope (top 35), [], []⟩
def d__law_same : He.DefD := ⟨(("_law_same" : Str), none), ("_law_same" : Str), ("_law_same" : Str), defArgs (top 37), defBody (top 37), defScope (top 37), [], []⟩
def d__law_drawn_few : He.DefD := ⟨(("_law_drawn_few" : Str), none), ("_law_drawn_few" : Str), ("_law_drawn_few" : Str), defArgs (top 39), defBody (top 39), defScope (top 39), [], []⟩
def d__law_fine : He.DefD := ⟨(("_law_fine" : Str), none), ("_law_fine" : Str), ("_law_fine" : Str), defArgs (top 47), defBody (top 47), defScope (top 47), [], []⟩
def d__law_rule_text : He.DefD := ⟨(("_law_rule_text" : Str), none), ("_law_rule_text" : Str), ("_law_rule_text" : Str), defArgs (top 49), defBody (top 49), defScope (top 49), [], []⟩
def d__law_near_parts : He.DefD := ⟨(("_law_near_parts" : Str), none), ("_law_near_parts" : Str), ("_law_near_parts" : Str), defArgs (top 50), defBody (top 50), defScope (top 50), [], []⟩
def d_Rule___init__ : He.DefD := ⟨(("Rule" : Str), (some ("__init__" : Str))), ("__init__" : Str), ("Rule.__init__" : Str), defArgs (cbody 8 0), defBody (cbody 8 0), defScope (cbody 8 0), [], []⟩
def d_Rule___eq__ : He.DefD := ⟨(("Rule" : Str), (some ("__eq__" : Str))), ("__eq__" : Str), ("Rule.__eq__" : Str), defArgs (cbody 8 1), defBody (cbody 8 1), defScope (cbody 8 1), [], []⟩
def d_part_lets : He.DefD := ⟨(("part_lets" : Str), none), ("part_lets" : Str), ("part_lets" : Str), defArgs (top 14), defBody (top 14), defScope (top 14), [], []⟩
def d_Web___init__ : He.DefD := ⟨(("Web" : Str), (some ("__init__" : Str))), ("__init__" : Str), ("Web.__init__" : Str), defArgs (cbody 17 0), defBody (cbody 17 0), defScope (cbody 17 0), [], []⟩
def d_Web___eq__ : He.DefD := ⟨(("Web" : Str), (some ("__eq__" : Str))), ("__eq__" : Str), ("Web.__eq__" : Str), defArgs (cbody 17 1), defBody (cbody 17 1), defScope (cbody 17 1), [], []⟩
def d_part_line : He.DefD := ⟨(("part_line" : Str), none), ("part_line" : Str), ("part_line" : Str), defArgs (top 30), defBody (top 30), defScope (top 30), [], []⟩
def d__law_all : He.DefD := ⟨(("_law_all" : Str), none), ("_law_all" : Str), ("_law_all" : Str), defArgs (top 38), defBody (top 38), defScope (top 38), [], []⟩
def d__law_bearers : He.DefD := ⟨(("_law_bearers" : Str), none), ("_law_bearers" : Str), ("_law_bearers" : Str), defArgs (top 40), defBody (top 40), defScope (top 40), [], []⟩
def d__law_part : He.DefD := ⟨(("_law_part" : Str), none), ("_law_part" : Str), ("_law_part" : Str), defArgs (top 42), defBody (top 42), defScope (top 42), [], []⟩
def d_lets : He.DefD := ⟨(("lets" : Str), none), ("lets" : Str), ("lets" : Str), defArgs (top 15), defBody (top 15), defScope (top 15), [], []⟩
def d_lots_by_size : He.DefD := ⟨(("lots_by_size" : Str), none), ("lots_by_size" : Str), ("lots_by_size" : Str), defArgs (top 22), defBody (top 22), defScope (top 22), [], []⟩
def d_rule_text : He.DefD := ⟨(("rule_text" : Str), none), ("rule_text" : Str), ("rule_text" : Str), defArgs (top 31), defBody (top 31), defScope (top 31), [], []⟩
def d__law_stock : He.DefD := ⟨(("_law_stock" : Str), none), ("_law_stock" : Str), ("_law_stock" : Str), defArgs (top 41), defBody (top 41), defScope (top 41), [], []⟩
def d__law_parts_of_rule : He.DefD := ⟨(("_law_parts_of_rule" : Str), none), ("_law_parts_of_rule" : Str), ("_law_parts_of_rule" : Str), defArgs (top 43), defBody (top 43), defScope (top 43), [], []⟩
def d__law_web : He.DefD := ⟨(("_law_web" : Str), none), ("_law_web" : Str), ("_law_web" : Str), defArgs (top 44), defBody (top 44), defScope (top 44), [], []⟩
def d_same_rule : He.DefD := ⟨(("same_rule" : Str), none), ("same_rule" : Str), ("same_rule" : Str), defArgs (top 23), defBody (top 23), defScope (top 23), [], []⟩
def d_law : He.DefD := ⟨(("law" : Str), none), ("law" : Str), ("law" : Str), defArgs (top 51), defBody (top 51), defScope (top 51), [], []⟩
def fn : List He.DefD := [d_is_within, d_cut, d_all_lots, d_weight_in, d_things_of, d_named_things, d_size_and_lot, d_room_line, d__law_deal, d__law_any, d__law_is_kind, d__law_marks, d__law_part_fine, d__law_rule_row, d_apart_lets, d_most_lets, d_room_lets, d_apart_line, d_most_line, d__law_of, d__law_same, d__law_drawn_few, d__law_fine, d__law_rule_text, d__law_near_parts, d_Rule___init__, d_Rule___eq__, d_part_lets, d_Web___init__, d_Web___eq__, d_part_line, d__law_all, d__law_bearers, d__law_part, d_lets, d_lots_by_size, d_rule_text, d__law_stock, d__law_parts_of_rule, d__law_web, d_same_rule, d_law]
def fa : List He.Fa := [
  .glo ("is_within" : Str),
  .free ("tuple" : Str),
  .glo ("cut" : Str),
  .free ("sorted" : Str),
  .free ("list" : Str),
  .glo ("all_lots" : Str),
  .free ("sum" : Str),
  .glo ("weight_in" : Str),
  .free ("range" : Str),
  .free ("len" : Str),
  .glo ("things_of" : Str),
  .glo ("named_things" : Str),
  .glo ("size_and_lot" : Str),
  .str ("COLON" : Str) (":" : Str),
  .str ("ROOM" : Str) ("room" : Str),
  .free ("zip" : Str),
  .glo ("room_line" : Str),
  .free ("int" : Str),
  .free ("abs" : Str),
  .glo ("_law_deal" : Str),
  .glo ("_law_any" : Str),
  .free ("str" : Str),
  .free ("isinstance" : Str),
  .free ("bool" : Str),
  .glo ("_law_is_kind" : Str),
  .glo ("_law_marks" : Str),
  .glo ("_law_part_fine" : Str),
  .glo ("_law_rule_row" : Str),
  .glo ("apart_lets" : Str),
  .glo ("most_lets" : Str),
  .glo ("room_lets" : Str),
  .str ("APART" : Str) ("apart" : Str),
  .glo ("apart_line" : Str),
  .str ("MOST" : Str) ("most" : Str),
  .glo ("most_line" : Str),
  .glo ("_law_of" : Str),
  .free ("dict" : Str),
  .glo ("_law_same" : Str),
  .free ("min" : Str),
  .glo ("_law_drawn_few" : Str),
  .glo ("_law_fine" : Str),
  .glo ("_law_rule_text" : Str),
  .glo ("_law_near_parts" : Str),
  .glo ("LETS" : Str),
  .glo ("TELLS" : Str),
  .glo ("Rule" : Str),
  .cls ("Rule" : Str),
  .noat ("Rule" : Str) ("parts" : Str),
  .mkr ("Rule" : Str),
  .meth ("Rule" : Str) ("__eq__" : Str),
  .glo ("part_lets" : Str),
  .glo ("Web" : Str),
  .cls ("Web" : Str),
  .noat ("Web" : Str) ("names" : Str),
  .noat ("Web" : Str) ("weights" : Str),
  .noat ("Web" : Str) ("lots" : Str),
  .mkr ("Web" : Str),
  .meth ("Web" : Str) ("__eq__" : Str),
  .glo ("part_line" : Str),
  .glo ("_law_all" : Str),
  .free ("max" : Str),
  .glo ("_law_bearers" : Str),
  .glo ("_law_part" : Str),
  .glo ("lets" : Str),
  .glo ("lots_by_size" : Str),
  .glo ("rule_text" : Str),
  .glo ("_law_stock" : Str),
  .glo ("_law_parts_of_rule" : Str),
  .glo ("_law_web" : Str),
  .glo ("same_rule" : Str),
  .glo ("law" : Str)]
def tb : List Tb := [(("LETS" : Str), t_LETS), (("TELLS" : Str), t_TELLS)]
section
variable {P : Program} {w : World} {K : PySem.W.Frag} {mg : Str → Option Value} {base : Heap} {h : Heap}
theorem kitF (X : K.In h) (G : h.Ns mainGlobals mg) (c : SaysM fa fn tb CLSS EXS w K) : KitOk (theF P w K mg base) := kit_ok c rfl rfl (fun x hx => by
  rcases List.mem_cons.mp hx with rfl | hx
  · exact He.glo_ok X G (c.fact _ (List.mem_of_getElem? (l := fa) (i := 45) rfl))
  rcases List.mem_cons.mp hx with rfl | hx
  · exact He.glo_ok X G (c.fact _ (List.mem_of_getElem? (l := fa) (i := 51) rfl))
  cases hx) (fun p hp => by
  cases hp)
theorem ok_is_within (X : K.In h) (G : h.Ns mainGlobals mg) (c : SaysM fa fn tb CLSS EXS w K) : GEok (theF P w K mg base) ("is_within" : Str) (.fn 1 [("lot" : Str), ("other" : Str)] m_is_within []) := by
  obtain ⟨fd, D0⟩ := c.d.def_ 0 (d := d_is_within) rfl
  exact ge_fn rfl (He.glo_ok X G (c.fact _ (List.mem_of_getElem? (l := fa) (i := 0) rfl))) (fn_ok (F := (theF P w K mg base)) (GN := GN) (ps := [("lot" : Str), ("other" : Str)]) S_is_within D0 ⟨rfl, rfl, rfl, by decide +kernel, rfl, by decide +kernel, by decide +kernel⟩ rfl rfl (fun _ => rfl) (fun _ => rfl) (fun _ => rfl) (fun _ => rfl) (fun _ => by kernel_rfl) (kitF X G c) (fun _ => trivial) (fun _ => trivial) (fun E ds hds => b_is_within E ds hds)) D0.kp (D0.bindsN fun _ _ _ _ _ _ us hl => match us, hl with | [_, _], _ => rfl) (fun ds hds => by
    unfold m_is_within
    split
    · exact absurd rfl hds
    · rfl) (fun q hq => by cases hq)
theorem ok_cut (X : K.In h) (G : h.Ns mainGlobals mg) (c : SaysM fa fn tb CLSS EXS w K) : GEok (theF P w K mg base) ("cut" : Str) (.fn 1 [("lot" : Str), ("other" : Str)] m_cut []) := by
  obtain ⟨fd, D0⟩ := c.d.def_ 1 (d := d_cut) rfl
  exact ge_fn rfl (He.glo_ok X G (c.fact _ (List.mem_of_getElem? (l := fa) (i := 2) rfl))) (fn_ok (F := (theF P w K mg base)) (GN := GN) (ps := [("lot" : Str), ("other" : Str)]) S_cut D0 ⟨rfl, rfl, rfl, by decide +kernel, rfl, by decide +kernel, by decide +kernel⟩ rfl rfl (fun _ => rfl) (fun _ => rfl) (fun _ => rfl) (fun _ => rfl) (fun _ => by kernel_rfl) (kitF X G c) (fun _ => ⟨GEs.one rfl (He.free_ok X G (c.fact _ (List.mem_of_getElem? (l := fa) (i := 1) rfl))), trivial⟩) (fun _ => trivial) (fun E ds hds => b_cut E ds hds)) D0.kp (D0.bindsN fun _ _ _ _ _ _ us hl => match us, hl with | [_, _], _ => rfl) (fun ds hds => by
    unfold m_cut
    split
    · exact absurd rfl hds
    · rfl) (fun q hq => by cases hq)
theorem ok_all_lots (X : K.In h) (G : h.Ns mainGlobals mg) (c : SaysM fa fn tb CLSS EXS w K) : GEok (theF P w K mg base) ("all_lots" : Str) (.fn 1 [("things" : Str)] m_all_lots []) := by
  obtain ⟨fd, D0⟩ := c.d.def_ 2 (d := d_all_lots) rfl
  exact ge_fn rfl (He.glo_ok X G (c.fact _ (List.mem_of_getElem? (l := fa) (i := 5) rfl))) (fn_ok (F := (theF P w K mg base)) (GN := GN) (ps := [("things" : Str)]) S_all_lots D0 ⟨rfl, rfl, rfl, by decide +kernel, rfl, by decide +kernel, by decide +kernel⟩ rfl rfl (fun _ => rfl) (fun _ => rfl) (fun _ => rfl) (fun _ => rfl) (fun _ => by kernel_rfl) (kitF X G c) (fun _ => ⟨GEs.one rfl (He.free_ok X G (c.fact _ (List.mem_of_getElem? (l := fa) (i := 4) rfl))), ⟨GEs.one rfl (He.free_ok X G (c.fact _ (List.mem_of_getElem? (l := fa) (i := 3) rfl))), trivial⟩⟩) (fun _ => trivial) (fun E ds hds => b_all_lots E ds hds)) D0.kp (D0.bindsN fun _ _ _ _ _ _ us hl => match us, hl with | [_], _ => rfl) (fun ds hds => by
    unfold m_all_lots
    split
    · exact absurd rfl hds
    · rfl) (fun q hq => by cases hq)
theorem ok_weight_in (X : K.In h) (G : h.Ns mainGlobals mg) (c : SaysM fa fn tb CLSS EXS w K) : GEok (theF P w K mg base) ("weight_in" : Str) (.fn 1 [("part" : Str), ("standing" : Str)] m_weight_in []) := by
  obtain ⟨fd, D0⟩ := c.d.def_ 3 (d := d_weight_in) rfl
  exact ge_fn rfl (He.glo_ok X G (c.fact _ (List.mem_of_getElem? (l := fa) (i := 7) rfl))) (fn_ok (F := (theF P w K mg base)) (GN := GN) (ps := [("part" : Str), ("standing" : Str)]) S_weight_in D0 ⟨rfl, rfl, rfl, by decide +kernel, rfl, by decide +kernel, by decide +kernel⟩ rfl rfl (fun _ => rfl) (fun _ => rfl) (fun _ => rfl) (fun _ => rfl) (fun _ => by kernel_rfl) (kitF X G c) (fun _ => ⟨GEs.one rfl (He.free_ok X G (c.fact _ (List.mem_of_getElem? (l := fa) (i := 6) rfl))), trivial⟩) (fun _ => trivial) (fun E ds hds => b_weight_in E ds hds)) D0.kp (D0.bindsN fun _ _ _ _ _ _ us hl => match us, hl with | [_, _], _ => rfl) (fun ds hds => by
    unfold m_weight_in
    split
    · exact absurd rfl hds
    · rfl) (fun q hq => by cases hq)
theorem ok_things_of (X : K.In h) (G : h.Ns mainGlobals mg) (c : SaysM fa fn tb CLSS EXS w K) : GEok (theF P w K mg base) ("things_of" : Str) (.fn 1 [("web" : Str)] m_things_of []) := by
  obtain ⟨fd, D0⟩ := c.d.def_ 4 (d := d_things_of) rfl
  exact ge_fn rfl (He.glo_ok X G (c.fact _ (List.mem_of_getElem? (l := fa) (i := 10) rfl))) (fn_ok (F := (theF P w K mg base)) (GN := GN) (ps := [("web" : Str)]) S_things_of D0 ⟨rfl, rfl, rfl, by decide +kernel, rfl, by decide +kernel, by decide +kernel⟩ rfl rfl (fun _ => rfl) (fun _ => rfl) (fun _ => rfl) (fun _ => rfl) (fun _ => by kernel_rfl) (kitF X G c) (fun _ => ⟨GEs.one rfl (He.free_ok X G (c.fact _ (List.mem_of_getElem? (l := fa) (i := 9) rfl))), ⟨GEs.one rfl (He.free_ok X G (c.fact _ (List.mem_of_getElem? (l := fa) (i := 8) rfl))), ⟨GEs.one rfl (He.free_ok X G (c.fact _ (List.mem_of_getElem? (l := fa) (i := 1) rfl))), trivial⟩⟩⟩) (fun _ => trivial) (fun E ds hds => b_things_of E ds hds)) D0.kp (D0.bindsN fun _ _ _ _ _ _ us hl => match us, hl with | [_], _ => rfl) (fun ds hds => by
    unfold m_things_of
    split
    · exact absurd rfl hds
    · rfl) (fun q hq => by cases hq)
theorem ok_named_things (X : K.In h) (G : h.Ns mainGlobals mg) (c : SaysM fa fn tb CLSS EXS w K) : GEok (theF P w K mg base) ("named_things" : Str) (.fn 1 [("web" : Str), ("standing" : Str)] m_named_things []) := by
  obtain ⟨fd, D0⟩ := c.d.def_ 5 (d := d_named_things) rfl
  exact ge_fn rfl (He.glo_ok X G (c.fact _ (List.mem_of_getElem? (l := fa) (i := 11) rfl))) (fn_ok (F := (theF P w K mg base)) (GN := GN) (ps := [("web" : Str), ("standing" : Str)]) S_named_things D0 ⟨rfl, rfl, rfl, by decide +kernel, rfl, by decide +kernel, by decide +kernel⟩ rfl rfl (fun _ => rfl) (fun _ => rfl) (fun _ => rfl) (fun _ => rfl) (fun _ => by kernel_rfl) (kitF X G c) (fun _ => ⟨GEs.one rfl (He.free_ok X G (c.fact _ (List.mem_of_getElem? (l := fa) (i := 1) rfl))), trivial⟩) (fun _ => trivial) (fun E ds hds => b_named_things E ds hds)) D0.kp (D0.bindsN fun _ _ _ _ _ _ us hl => match us, hl with | [_, _], _ => rfl) (fun ds hds => by
    unfold m_named_things
    split
    · exact absurd rfl hds
    · rfl) (fun q hq => by cases hq)
theorem ok_size_and_lot (X : K.In h) (G : h.Ns mainGlobals mg) (c : SaysM fa fn tb CLSS EXS w K) : GEok (theF P w K mg base) ("size_and_lot" : Str) (.fn 1 [("lot" : Str)] m_size_and_lot []) := by
  obtain ⟨fd, D0⟩ := c.d.def_ 6 (d := d_size_and_lot) rfl
  exact ge_fn rfl (He.glo_ok X G (c.fact _ (List.mem_of_getElem? (l := fa) (i := 12) rfl))) (fn_ok (F := (theF P w K mg base)) (GN := GN) (ps := [("lot" : Str)]) S_size_and_lot D0 ⟨rfl, rfl, rfl, by decide +kernel, rfl, by decide +kernel, by decide +kernel⟩ rfl rfl (fun _ => rfl) (fun _ => rfl) (fun _ => rfl) (fun _ => rfl) (fun _ => by kernel_rfl) (kitF X G c) (fun _ => ⟨GEs.one rfl (He.free_ok X G (c.fact _ (List.mem_of_getElem? (l := fa) (i := 9) rfl))), trivial⟩) (fun _ => trivial) (fun E ds hds => b_size_and_lot E ds hds)) D0.kp (D0.bindsN fun _ _ _ _ _ _ us hl => match us, hl with | [_], _ => rfl) (fun ds hds => by
    unfold m_size_and_lot
    split
    · exact absurd rfl hds
    · rfl) (fun q hq => by cases hq)
theorem ok_room_line (X : K.In h) (G : h.Ns mainGlobals mg) (c : SaysM fa fn tb CLSS EXS w K) : GEok (theF P w K mg base) ("room_line" : Str) (.fn 1 [("web" : Str), ("part" : Str)] m_room_line []) := by
  obtain ⟨fd, D0⟩ := c.d.def_ 7 (d := d_room_line) rfl
  exact ge_fn rfl (He.glo_ok X G (c.fact _ (List.mem_of_getElem? (l := fa) (i := 16) rfl))) (fn_ok (F := (theF P w K mg base)) (GN := GN) (ps := [("web" : Str), ("part" : Str)]) S_room_line D0 ⟨rfl, rfl, rfl, by decide +kernel, rfl, by decide +kernel, by decide +kernel⟩ rfl rfl (fun _ => rfl) (fun _ => rfl) (fun _ => rfl) (fun _ => rfl) (fun _ => by kernel_rfl) (kitF X G c) (fun _ => ⟨GEs.one rfl (He.free_ok X G (c.fact _ (List.mem_of_getElem? (l := fa) (i := 15) rfl))), ⟨GEs.one rfl (ge_str (He.str_ok X G (c.fact _ (List.mem_of_getElem? (l := fa) (i := 14) rfl)))), ⟨GEs.one rfl (ge_str (He.str_ok X G (c.fact _ (List.mem_of_getElem? (l := fa) (i := 13) rfl)))), trivial⟩⟩⟩) (fun _ => trivial) (fun E ds hds => b_room_line E ds hds)) D0.kp (D0.bindsN fun _ _ _ _ _ _ us hl => match us, hl with | [_, _], _ => rfl) (fun ds hds => by
    unfold m_room_line
    split
    · exact absurd rfl hds
    · rfl) (fun q hq => by cases hq)
theorem ok__law_deal (X : K.In h) (G : h.Ns mainGlobals mg) (c : SaysM fa fn tb CLSS EXS w K) : GEok (theF P w K mg base) ("_law_deal" : Str) (.fn 1 [("script" : Str), ("salt" : Str)] m__law_deal []) := by
  obtain ⟨fd, D0⟩ := c.d.def_ 8 (d := d__law_deal) rfl
  exact ge_fn rfl (He.glo_ok X G (c.fact _ (List.mem_of_getElem? (l := fa) (i := 19) rfl))) (fn_ok (F := (theF P w K mg base)) (GN := GN) (ps := [("script" : Str), ("salt" : Str)]) S__law_deal D0 ⟨rfl, rfl, rfl, by decide +kernel, rfl, by decide +kernel, by decide +kernel⟩ rfl rfl (fun _ => rfl) (fun _ => rfl) (fun _ => rfl) (fun _ => rfl) (fun _ => by kernel_rfl) (kitF X G c) (fun _ => ⟨GEs.one rfl (He.free_ok X G (c.fact _ (List.mem_of_getElem? (l := fa) (i := 17) rfl))), trivial⟩) (fun _ => ⟨GEs.one rfl (He.free_ok X G (c.fact _ (List.mem_of_getElem? (l := fa) (i := 18) rfl))), trivial⟩) (fun E ds hds => b__law_deal E ds hds)) D0.kp (D0.bindsN fun _ _ _ _ _ _ us hl => match us, hl with | [_, _], _ => rfl) (fun ds hds => by
    unfold m__law_deal
    split
    · exact absurd rfl hds
    · rfl) (fun q hq => by cases hq)
theorem ok__law_any (X : K.In h) (G : h.Ns mainGlobals mg) (c : SaysM fa fn tb CLSS EXS w K) : GEok (theF P w K mg base) ("_law_any" : Str) (.fn 1 [("deal" : Str), ("bound" : Str)] m__law_any []) := by
  obtain ⟨fd, D0⟩ := c.d.def_ 9 (d := d__law_any) rfl
  exact ge_fn rfl (He.glo_ok X G (c.fact _ (List.mem_of_getElem? (l := fa) (i := 20) rfl))) (draw_ok (F := (theF P w K mg base)) (k := 0) (L := 85) D0 ⟨rfl, rfl, rfl, by decide +kernel, rfl, by decide +kernel, by decide +kernel⟩ (by kernel_rfl) (by kernel_rfl) (by kernel_rfl) (by kernel_rfl) (by kernel_rfl) (He.free_ok X G (c.fact _ (List.mem_of_getElem? (l := fa) (i := 9) rfl))) (He.free_ok X G (c.fact _ (List.mem_of_getElem? (l := fa) (i := 17) rfl)))) D0.kp (D0.bindsN fun _ _ _ _ _ _ us hl => match us, hl with | [_, _], _ => rfl) (fun ds hds => anyM_stuck ds hds) (fun q hq => by cases hq)
theorem ok__law_is_kind (X : K.In h) (G : h.Ns mainGlobals mg) (c : SaysM fa fn tb CLSS EXS w K) : GEok (theF P w K mg base) ("_law_is_kind" : Str) (.fn 1 [("told" : Str), ("due" : Str)] m__law_is_kind []) := by
  obtain ⟨fd, D0⟩ := c.d.def_ 10 (d := d__law_is_kind) rfl
  exact ge_fn rfl (He.glo_ok X G (c.fact _ (List.mem_of_getElem? (l := fa) (i := 24) rfl))) (fn_ok (F := (theF P w K mg base)) (GN := GN) (ps := [("told" : Str), ("due" : Str)]) S__law_is_kind D0 ⟨rfl, rfl, rfl, by decide +kernel, rfl, by decide +kernel, by decide +kernel⟩ rfl rfl (fun _ => rfl) (fun _ => rfl) (fun _ => rfl) (fun _ => rfl) (fun _ => by kernel_rfl) (kitF X G c) (fun _ => ⟨GEs.one rfl (He.free_ok X G (c.fact _ (List.mem_of_getElem? (l := fa) (i := 23) rfl))), ⟨GEs.one rfl (He.free_ok X G (c.fact _ (List.mem_of_getElem? (l := fa) (i := 17) rfl))), ⟨GEs.one rfl (He.free_ok X G (c.fact _ (List.mem_of_getElem? (l := fa) (i := 22) rfl))), ⟨GEs.one rfl (He.free_ok X G (c.fact _ (List.mem_of_getElem? (l := fa) (i := 21) rfl))), trivial⟩⟩⟩⟩) (fun _ => trivial) (fun E ds hds => b__law_is_kind E ds hds)) D0.kp (D0.bindsN fun _ _ _ _ _ _ us hl => match us, hl with | [_, _], _ => rfl) (fun ds hds => by
    unfold m__law_is_kind
    split
    · exact absurd rfl hds
    · rfl) (fun q hq => by cases hq)
theorem ok__law_marks (X : K.In h) (G : h.Ns mainGlobals mg) (c : SaysM fa fn tb CLSS EXS w K) : GEok (theF P w K mg base) ("_law_marks" : Str) (.fn 1 [("many" : Str), ("lot" : Str)] m__law_marks []) := by
  obtain ⟨fd, D0⟩ := c.d.def_ 11 (d := d__law_marks) rfl
  exact ge_fn rfl (He.glo_ok X G (c.fact _ (List.mem_of_getElem? (l := fa) (i := 25) rfl))) (fn_ok (F := (theF P w K mg base)) (GN := GN) (ps := [("many" : Str), ("lot" : Str)]) S__law_marks D0 ⟨rfl, rfl, rfl, by decide +kernel, rfl, by decide +kernel, by decide +kernel⟩ rfl rfl (fun _ => rfl) (fun _ => rfl) (fun _ => rfl) (fun _ => rfl) (fun _ => by kernel_rfl) (kitF X G c) (fun _ => ⟨GEs.one rfl (He.free_ok X G (c.fact _ (List.mem_of_getElem? (l := fa) (i := 8) rfl))), ⟨GEs.one rfl (He.free_ok X G (c.fact _ (List.mem_of_getElem? (l := fa) (i := 1) rfl))), trivial⟩⟩) (fun _ => trivial) (fun E ds hds => b__law_marks E ds hds)) D0.kp (D0.bindsN fun _ _ _ _ _ _ us hl => match us, hl with | [_, _], _ => rfl) (fun ds hds => by
    unfold m__law_marks
    split
    · exact absurd rfl hds
    · rfl) (fun q hq => by cases hq)
theorem ok__law_part_fine (X : K.In h) (G : h.Ns mainGlobals mg) (c : SaysM fa fn tb CLSS EXS w K) : GEok (theF P w K mg base) ("_law_part_fine" : Str) (.fn 1 [("part" : Str), ("marks" : Str)] m__law_part_fine []) := by
  obtain ⟨fd, D0⟩ := c.d.def_ 12 (d := d__law_part_fine) rfl
  exact ge_fn rfl (He.glo_ok X G (c.fact _ (List.mem_of_getElem? (l := fa) (i := 26) rfl))) (fn_ok (F := (theF P w K mg base)) (GN := GN) (ps := [("part" : Str), ("marks" : Str)]) S__law_part_fine D0 ⟨rfl, rfl, rfl, by decide +kernel, rfl, by decide +kernel, by decide +kernel⟩ rfl rfl (fun _ => rfl) (fun _ => rfl) (fun _ => rfl) (fun _ => rfl) (fun _ => by kernel_rfl) (kitF X G c) (fun _ => ⟨GEs.one rfl (He.free_ok X G (c.fact _ (List.mem_of_getElem? (l := fa) (i := 9) rfl))), ⟨GEs.one rfl (He.free_ok X G (c.fact _ (List.mem_of_getElem? (l := fa) (i := 6) rfl))), ⟨GEs.one rfl (He.free_ok X G (c.fact _ (List.mem_of_getElem? (l := fa) (i := 15) rfl))), trivial⟩⟩⟩) (fun _ => trivial) (fun E ds hds => b__law_part_fine E ds hds)) D0.kp (D0.bindsN fun _ _ _ _ _ _ us hl => match us, hl with | [_, _], _ => rfl) (fun ds hds => by
    unfold m__law_part_fine
    split
    · exact absurd rfl hds
    · rfl) (fun q hq => by cases hq)
theorem ok__law_rule_row (X : K.In h) (G : h.Ns mainGlobals mg) (c : SaysM fa fn tb CLSS EXS w K) : GEok (theF P w K mg base) ("_law_rule_row" : Str) (.fn 1 [("names" : Str), ("part" : Str)] m__law_rule_row []) := by
  obtain ⟨fd, D0⟩ := c.d.def_ 13 (d := d__law_rule_row) rfl
  exact ge_fn rfl (He.glo_ok X G (c.fact _ (List.mem_of_getElem? (l := fa) (i := 27) rfl))) (fn_ok (F := (theF P w K mg base)) (GN := GN) (ps := [("names" : Str), ("part" : Str)]) S__law_rule_row D0 ⟨rfl, rfl, rfl, by decide +kernel, rfl, by decide +kernel, by decide +kernel⟩ rfl rfl (fun _ => rfl) (fun _ => rfl) (fun _ => rfl) (fun _ => rfl) (fun _ => by kernel_rfl) (kitF X G c) (fun _ => ⟨GEs.one rfl (He.free_ok X G (c.fact _ (List.mem_of_getElem? (l := fa) (i := 9) rfl))), ⟨GEs.one rfl (He.free_ok X G (c.fact _ (List.mem_of_getElem? (l := fa) (i := 8) rfl))), ⟨GEs.one rfl (He.free_ok X G (c.fact _ (List.mem_of_getElem? (l := fa) (i := 21) rfl))), trivial⟩⟩⟩) (fun _ => trivial) (fun E ds hds => b__law_rule_row E ds hds)) D0.kp (D0.bindsN fun _ _ _ _ _ _ us hl => match us, hl with | [_, _], _ => rfl) (fun ds hds => by
    unfold m__law_rule_row
    split
    · exact absurd rfl hds
    · rfl) (fun q hq => by cases hq)
theorem ok_apart_lets (X : K.In h) (G : h.Ns mainGlobals mg) (c : SaysM fa fn tb CLSS EXS w K) : GEok (theF P w K mg base) ("apart_lets" : Str) (.fn 2 [("part" : Str), ("standing" : Str)] m_apart_lets []) := by
  obtain ⟨fd, D0⟩ := c.d.def_ 14 (d := d_apart_lets) rfl
  exact ge_fn rfl (He.glo_ok X G (c.fact _ (List.mem_of_getElem? (l := fa) (i := 28) rfl))) (fn_ok (F := (theF P w K mg base)) (GN := GN) (ps := [("part" : Str), ("standing" : Str)]) S_apart_lets D0 ⟨rfl, rfl, rfl, by decide +kernel, rfl, by decide +kernel, by decide +kernel⟩ rfl rfl (fun _ => rfl) (fun _ => rfl) (fun _ => rfl) (fun _ => rfl) (fun _ => by kernel_rfl) (kitF X G c) (fun _ => ⟨GEs.one rfl (ok_is_within (P := P) (base := base) X G c), trivial⟩) (fun _ => trivial) (fun E ds hds => b_apart_lets E ds hds)) D0.kp (D0.bindsN fun _ _ _ _ _ _ us hl => match us, hl with | [_, _], _ => rfl) (fun ds hds => by
    unfold m_apart_lets
    split
    · exact absurd rfl hds
    · rfl) (fun q hq => by cases hq)
theorem ok_most_lets (X : K.In h) (G : h.Ns mainGlobals mg) (c : SaysM fa fn tb CLSS EXS w K) : GEok (theF P w K mg base) ("most_lets" : Str) (.fn 2 [("part" : Str), ("standing" : Str)] m_most_lets []) := by
  obtain ⟨fd, D0⟩ := c.d.def_ 15 (d := d_most_lets) rfl
  exact ge_fn rfl (He.glo_ok X G (c.fact _ (List.mem_of_getElem? (l := fa) (i := 29) rfl))) (fn_ok (F := (theF P w K mg base)) (GN := GN) (ps := [("part" : Str), ("standing" : Str)]) S_most_lets D0 ⟨rfl, rfl, rfl, by decide +kernel, rfl, by decide +kernel, by decide +kernel⟩ rfl rfl (fun _ => rfl) (fun _ => rfl) (fun _ => rfl) (fun _ => rfl) (fun _ => by kernel_rfl) (kitF X G c) (fun _ => ⟨GEs.one rfl (He.free_ok X G (c.fact _ (List.mem_of_getElem? (l := fa) (i := 9) rfl))), ⟨GEs.one rfl (ok_cut (P := P) (base := base) X G c), trivial⟩⟩) (fun _ => trivial) (fun E ds hds => b_most_lets E ds hds)) D0.kp (D0.bindsN fun _ _ _ _ _ _ us hl => match us, hl with | [_, _], _ => rfl) (fun ds hds => by
    unfold m_most_lets
    split
    · exact absurd rfl hds
    · rfl) (fun q hq => by cases hq)
theorem ok_room_lets (X : K.In h) (G : h.Ns mainGlobals mg) (c : SaysM fa fn tb CLSS EXS w K) : GEok (theF P w K mg base) ("room_lets" : Str) (.fn 2 [("part" : Str), ("standing" : Str)] m_room_lets []) := by
  obtain ⟨fd, D0⟩ := c.d.def_ 16 (d := d_room_lets) rfl
  exact ge_fn rfl (He.glo_ok X G (c.fact _ (List.mem_of_getElem? (l := fa) (i := 30) rfl))) (fn_ok (F := (theF P w K mg base)) (GN := GN) (ps := [("part" : Str), ("standing" : Str)]) S_room_lets D0 ⟨rfl, rfl, rfl, by decide +kernel, rfl, by decide +kernel, by decide +kernel⟩ rfl rfl (fun _ => rfl) (fun _ => rfl) (fun _ => rfl) (fun _ => rfl) (fun _ => by kernel_rfl) (kitF X G c) (fun _ => ⟨GEs.one rfl (ok_weight_in (P := P) (base := base) X G c), trivial⟩) (fun _ => trivial) (fun E ds hds => b_room_lets E ds hds)) D0.kp (D0.bindsN fun _ _ _ _ _ _ us hl => match us, hl with | [_, _], _ => rfl) (fun ds hds => by
    unfold m_room_lets
    split
    · exact absurd rfl hds
    · rfl) (fun q hq => by cases hq)
theorem ok_apart_line (X : K.In h) (G : h.Ns mainGlobals mg) (c : SaysM fa fn tb CLSS EXS w K) : GEok (theF P w K mg base) ("apart_line" : Str) (.fn 2 [("web" : Str), ("part" : Str)] m_apart_line []) := by
  obtain ⟨fd, D0⟩ := c.d.def_ 17 (d := d_apart_line) rfl
  exact ge_fn rfl (He.glo_ok X G (c.fact _ (List.mem_of_getElem? (l := fa) (i := 32) rfl))) (fn_ok (F := (theF P w K mg base)) (GN := GN) (ps := [("web" : Str), ("part" : Str)]) S_apart_line D0 ⟨rfl, rfl, rfl, by decide +kernel, rfl, by decide +kernel, by decide +kernel⟩ rfl rfl (fun _ => rfl) (fun _ => rfl) (fun _ => rfl) (fun _ => rfl) (fun _ => by kernel_rfl) (kitF X G c) (fun _ => ⟨GEs.one rfl (ge_str (He.str_ok X G (c.fact _ (List.mem_of_getElem? (l := fa) (i := 31) rfl)))), ⟨GEs.one rfl (ok_named_things (P := P) (base := base) X G c), trivial⟩⟩) (fun _ => trivial) (fun E ds hds => b_apart_line E ds hds)) D0.kp (D0.bindsN fun _ _ _ _ _ _ us hl => match us, hl with | [_, _], _ => rfl) (fun ds hds => by
    unfold m_apart_line
    split
    · exact absurd rfl hds
    · rfl) (fun q hq => by cases hq)
theorem ok_most_line (X : K.In h) (G : h.Ns mainGlobals mg) (c : SaysM fa fn tb CLSS EXS w K) : GEok (theF P w K mg base) ("most_line" : Str) (.fn 2 [("web" : Str), ("part" : Str)] m_most_line []) := by
  obtain ⟨fd, D0⟩ := c.d.def_ 18 (d := d_most_line) rfl
  exact ge_fn rfl (He.glo_ok X G (c.fact _ (List.mem_of_getElem? (l := fa) (i := 34) rfl))) (fn_ok (F := (theF P w K mg base)) (GN := GN) (ps := [("web" : Str), ("part" : Str)]) S_most_line D0 ⟨rfl, rfl, rfl, by decide +kernel, rfl, by decide +kernel, by decide +kernel⟩ rfl rfl (fun _ => rfl) (fun _ => rfl) (fun _ => rfl) (fun _ => rfl) (fun _ => by kernel_rfl) (kitF X G c) (fun _ => ⟨GEs.one rfl (He.free_ok X G (c.fact _ (List.mem_of_getElem? (l := fa) (i := 21) rfl))), ⟨GEs.one rfl (ge_str (He.str_ok X G (c.fact _ (List.mem_of_getElem? (l := fa) (i := 33) rfl)))), ⟨GEs.one rfl (ge_str (He.str_ok X G (c.fact _ (List.mem_of_getElem? (l := fa) (i := 13) rfl)))), ⟨GEs.one rfl (ok_named_things (P := P) (base := base) X G c), trivial⟩⟩⟩⟩) (fun _ => trivial) (fun E ds hds => b_most_line E ds hds)) D0.kp (D0.bindsN fun _ _ _ _ _ _ us hl => match us, hl with | [_, _], _ => rfl) (fun ds hds => by
    unfold m_most_line
    split
    · exact absurd rfl hds
    · rfl) (fun q hq => by cases hq)
theorem ok__law_of (X : K.In h) (G : h.Ns mainGlobals mg) (c : SaysM fa fn tb CLSS EXS w K) : GEok (theF P w K mg base) ("_law_of" : Str) (.fn 2 [("deal" : Str), ("some" : Str)] m__law_of []) := by
  obtain ⟨fd, D0⟩ := c.d.def_ 19 (d := d__law_of) rfl
  exact ge_fn rfl (He.glo_ok X G (c.fact _ (List.mem_of_getElem? (l := fa) (i := 35) rfl))) (fn_ok (F := (theF P w K mg base)) (GN := GN) (ps := [("deal" : Str), ("some" : Str)]) S__law_of D0 ⟨rfl, rfl, rfl, by decide +kernel, rfl, by decide +kernel, by decide +kernel⟩ rfl rfl (fun _ => rfl) (fun _ => rfl) (fun _ => rfl) (fun _ => rfl) (fun _ => by kernel_rfl) (kitF X G c) (fun _ => ⟨GEs.one rfl (He.free_ok X G (c.fact _ (List.mem_of_getElem? (l := fa) (i := 9) rfl))), ⟨GEs.one rfl (ok__law_any (P := P) (base := base) X G c), trivial⟩⟩) (fun _ => trivial) (fun E ds hds => b__law_of E ds hds)) D0.kp (D0.bindsN fun _ _ _ _ _ _ us hl => match us, hl with | [_, _], _ => rfl) (fun ds hds => by
    unfold m__law_of
    split
    · exact absurd rfl hds
    · rfl) (fun q hq => by cases hq)
theorem ok__law_same (X : K.In h) (G : h.Ns mainGlobals mg) (c : SaysM fa fn tb CLSS EXS w K) : GEok (theF P w K mg base) ("_law_same" : Str) (.fn 2 [("told" : Str), ("due" : Str)] m__law_same []) := by
  obtain ⟨fd, D0⟩ := c.d.def_ 20 (d := d__law_same) rfl
  exact ge_fn rfl (He.glo_ok X G (c.fact _ (List.mem_of_getElem? (l := fa) (i := 37) rfl))) (fn_ok (F := (theF P w K mg base)) (GN := GN) (ps := [("told" : Str), ("due" : Str)]) S__law_same D0 ⟨rfl, rfl, rfl, by decide +kernel, rfl, by decide +kernel, by decide +kernel⟩ rfl rfl (fun _ => rfl) (fun _ => rfl) (fun _ => rfl) (fun _ => rfl) (fun _ => by kernel_rfl) (kitF X G c) (fun _ => ⟨GEs.one rfl (He.free_ok X G (c.fact _ (List.mem_of_getElem? (l := fa) (i := 36) rfl))), ⟨GEs.one rfl (He.free_ok X G (c.fact _ (List.mem_of_getElem? (l := fa) (i := 22) rfl))), ⟨GEs.one rfl (He.free_ok X G (c.fact _ (List.mem_of_getElem? (l := fa) (i := 9) rfl))), ⟨GEs.one rfl (He.free_ok X G (c.fact _ (List.mem_of_getElem? (l := fa) (i := 4) rfl))), ⟨GEs.one rfl (He.free_ok X G (c.fact _ (List.mem_of_getElem? (l := fa) (i := 8) rfl))), ⟨GEs.one rfl (He.free_ok X G (c.fact _ (List.mem_of_getElem? (l := fa) (i := 1) rfl))), ⟨GEs.one rfl (ok__law_is_kind (P := P) (base := base) X G c), trivial⟩⟩⟩⟩⟩⟩⟩) (fun _ => trivial) (fun E ds hds => b__law_same E ds hds)) D0.kp (D0.bindsN fun _ _ _ _ _ _ us hl => match us, hl with | [_, _], _ => rfl) (fun ds hds => by
    unfold m__law_same
    split
    · exact absurd rfl hds
    · rfl) (fun q hq => by cases hq)
theorem ok__law_drawn_few (X : K.In h) (G : h.Ns mainGlobals mg) (c : SaysM fa fn tb CLSS EXS w K) : GEok (theF P w K mg base) ("_law_drawn_few" : Str) (.fn 2 [("deal" : Str), ("things" : Str), ("most" : Str)] m__law_drawn_few []) := by
  obtain ⟨fd, D0⟩ := c.d.def_ 21 (d := d__law_drawn_few) rfl
  exact ge_fn rfl (He.glo_ok X G (c.fact _ (List.mem_of_getElem? (l := fa) (i := 39) rfl))) (fn_ok (F := (theF P w K mg base)) (GN := GN) (ps := [("deal" : Str), ("things" : Str), ("most" : Str)]) S__law_drawn_few D0 ⟨rfl, rfl, rfl, by decide +kernel, rfl, by decide +kernel, by decide +kernel⟩ rfl rfl (fun _ => rfl) (fun _ => rfl) (fun _ => rfl) (fun _ => rfl) (fun _ => by kernel_rfl) (kitF X G c) (fun _ => ⟨GEs.one rfl (He.free_ok X G (c.fact _ (List.mem_of_getElem? (l := fa) (i := 9) rfl))), ⟨GEs.one rfl (He.free_ok X G (c.fact _ (List.mem_of_getElem? (l := fa) (i := 4) rfl))), ⟨GEs.one rfl (He.free_ok X G (c.fact _ (List.mem_of_getElem? (l := fa) (i := 38) rfl))), ⟨GEs.one rfl (He.free_ok X G (c.fact _ (List.mem_of_getElem? (l := fa) (i := 8) rfl))), ⟨GEs.one rfl (He.free_ok X G (c.fact _ (List.mem_of_getElem? (l := fa) (i := 3) rfl))), ⟨GEs.one rfl (He.free_ok X G (c.fact _ (List.mem_of_getElem? (l := fa) (i := 1) rfl))), ⟨GEs.one rfl (ok__law_any (P := P) (base := base) X G c), trivial⟩⟩⟩⟩⟩⟩⟩) (fun _ => trivial) (fun E ds hds => b__law_drawn_few E ds hds)) D0.kp (D0.bindsN fun _ _ _ _ _ _ us hl => match us, hl with | [_, _, _], _ => rfl) (fun ds hds => by
    unfold m__law_drawn_few
    split
    · exact absurd rfl hds
    · rfl) (fun q hq => by cases hq)
theorem ok__law_fine (X : K.In h) (G : h.Ns mainGlobals mg) (c : SaysM fa fn tb CLSS EXS w K) : GEok (theF P w K mg base) ("_law_fine" : Str) (.fn 2 [("parts" : Str), ("marks" : Str)] m__law_fine []) := by
  obtain ⟨fd, D0⟩ := c.d.def_ 22 (d := d__law_fine) rfl
  exact ge_fn rfl (He.glo_ok X G (c.fact _ (List.mem_of_getElem? (l := fa) (i := 40) rfl))) (fn_ok (F := (theF P w K mg base)) (GN := GN) (ps := [("parts" : Str), ("marks" : Str)]) S__law_fine D0 ⟨rfl, rfl, rfl, by decide +kernel, rfl, by decide +kernel, by decide +kernel⟩ rfl rfl (fun _ => rfl) (fun _ => rfl) (fun _ => rfl) (fun _ => rfl) (fun _ => by kernel_rfl) (kitF X G c) (fun _ => ⟨GEs.one rfl (ok__law_part_fine (P := P) (base := base) X G c), trivial⟩) (fun _ => trivial) (fun E ds hds => b__law_fine E ds hds)) D0.kp (D0.bindsN fun _ _ _ _ _ _ us hl => match us, hl with | [_, _], _ => rfl) (fun ds hds => by
    unfold m__law_fine
    split
    · exact absurd rfl hds
    · rfl) (fun q hq => by cases hq)
theorem ok__law_rule_text (X : K.In h) (G : h.Ns mainGlobals mg) (c : SaysM fa fn tb CLSS EXS w K) : GEok (theF P w K mg base) ("_law_rule_text" : Str) (.fn 2 [("names" : Str), ("parts" : Str)] m__law_rule_text []) := by
  obtain ⟨fd, D0⟩ := c.d.def_ 23 (d := d__law_rule_text) rfl
  exact ge_fn rfl (He.glo_ok X G (c.fact _ (List.mem_of_getElem? (l := fa) (i := 41) rfl))) (fn_ok (F := (theF P w K mg base)) (GN := GN) (ps := [("names" : Str), ("parts" : Str)]) S__law_rule_text D0 ⟨rfl, rfl, rfl, by decide +kernel, rfl, by decide +kernel, by decide +kernel⟩ rfl rfl (fun _ => rfl) (fun _ => rfl) (fun _ => rfl) (fun _ => rfl) (fun _ => by kernel_rfl) (kitF X G c) (fun _ => trivial) (fun _ => ⟨GEs.one rfl (ok__law_rule_row (P := P) (base := base) X G c), trivial⟩) (fun E ds hds => b__law_rule_text E ds hds)) D0.kp (D0.bindsN fun _ _ _ _ _ _ us hl => match us, hl with | [_, _], _ => rfl) (fun ds hds => by
    unfold m__law_rule_text
    split
    · exact absurd rfl hds
    · rfl) (fun q hq => by cases hq)
theorem ok__law_near_parts (X : K.In h) (G : h.Ns mainGlobals mg) (c : SaysM fa fn tb CLSS EXS w K) : GEok (theF P w K mg base) ("_law_near_parts" : Str) (.fn 2 [("deal" : Str), ("parts" : Str), ("many" : Str)] m__law_near_parts []) := by
  obtain ⟨fd, D0⟩ := c.d.def_ 24 (d := d__law_near_parts) rfl
  exact ge_fn rfl (He.glo_ok X G (c.fact _ (List.mem_of_getElem? (l := fa) (i := 42) rfl))) (fn_ok (F := (theF P w K mg base)) (GN := GN) (ps := [("deal" : Str), ("parts" : Str), ("many" : Str)]) S__law_near_parts D0 ⟨rfl, rfl, rfl, by decide +kernel, rfl, by decide +kernel, by decide +kernel⟩ rfl rfl (fun _ => rfl) (fun _ => rfl) (fun _ => rfl) (fun _ => rfl) (fun _ => by kernel_rfl) (kitF X G c) (fun _ => ⟨GEs.one rfl (He.free_ok X G (c.fact _ (List.mem_of_getElem? (l := fa) (i := 9) rfl))), ⟨GEs.one rfl (ok__law_any (P := P) (base := base) X G c), trivial⟩⟩) (fun _ => trivial) (fun E ds hds => b__law_near_parts E ds hds)) D0.kp (D0.bindsN fun _ _ _ _ _ _ us hl => match us, hl with | [_, _, _], _ => rfl) (fun ds hds => by
    unfold m__law_near_parts
    split
    · exact absurd rfl hds
    · rfl) (fun q hq => by cases hq)
theorem ok_LETS (X : K.In h) (G : h.Ns mainGlobals mg) (c : SaysM fa fn tb CLSS EXS w K) : GEok (theF P w K mg base) ("LETS" : Str) (.tab t_LETS) := by
  refine ge_tab (F := (theF P w K mg base)) (kvs := t_LETS) c (List.mem_of_getElem? (l := tb) (i := 0) rfl) (He.glo_ok X G (c.fact _ (List.mem_of_getElem? (l := fa) (i := 43) rfl))) fun q hq => ?_
  rcases List.mem_cons.mp hq with rfl | hq
  · exact He.glo_ok X G (c.fact _ (List.mem_of_getElem? (l := fa) (i := 28) rfl))
  rcases List.mem_cons.mp hq with rfl | hq
  · exact He.glo_ok X G (c.fact _ (List.mem_of_getElem? (l := fa) (i := 29) rfl))
  rcases List.mem_cons.mp hq with rfl | hq
  · exact He.glo_ok X G (c.fact _ (List.mem_of_getElem? (l := fa) (i := 30) rfl))
  cases hq
theorem ok_TELLS (X : K.In h) (G : h.Ns mainGlobals mg) (c : SaysM fa fn tb CLSS EXS w K) : GEok (theF P w K mg base) ("TELLS" : Str) (.tab t_TELLS) := by
  refine ge_tab (F := (theF P w K mg base)) (kvs := t_TELLS) c (List.mem_of_getElem? (l := tb) (i := 1) rfl) (He.glo_ok X G (c.fact _ (List.mem_of_getElem? (l := fa) (i := 44) rfl))) fun q hq => ?_
  rcases List.mem_cons.mp hq with rfl | hq
  · exact He.glo_ok X G (c.fact _ (List.mem_of_getElem? (l := fa) (i := 32) rfl))
  rcases List.mem_cons.mp hq with rfl | hq
  · exact He.glo_ok X G (c.fact _ (List.mem_of_getElem? (l := fa) (i := 34) rfl))
  rcases List.mem_cons.mp hq with rfl | hq
  · exact He.glo_ok X G (c.fact _ (List.mem_of_getElem? (l := fa) (i := 16) rfl))
  cases hq
theorem ok_Rule (X : K.In h) (G : h.Ns mainGlobals mg) (c : SaysM fa fn tb CLSS EXS w K) : GEok (theF P w K mg base) ("Rule" : Str) (.cls [("parts" : Str)] (some (3, m_Rule___eq__))) := by
  obtain ⟨fd, D0⟩ := c.d.def_ 25 (d := d_Rule___init__) rfl
  refine ⟨ga K ("Rule" : Str), clsF_ok (F := (theF P w K mg base)) c rfl (List.mem_of_getElem? (i := 0) rfl) (He.glo_ok X G (c.fact _ (List.mem_of_getElem? (l := fa) (i := 45) rfl))) (List.mem_of_getElem? (l := fa) (i := 46) rfl) (fun f hf => ?n), ⟨_, fd, He.mkr_ok (c.fact _ (List.mem_of_getElem? (l := fa) (i := 48) rfl)), init_ok D0 (.cons .nil) ⟨rfl, rfl, rfl, by decide +kernel, rfl, by decide +kernel, by decide +kernel⟩ (by decide +kernel) (by decide), (D0.bindsN fun _ _ _ _ _ _ us hl => match us, hl with | [_, _], _ => rfl), (kbn_of D0 fun _ _ _ _ _ _ us ws h1 h2 => match us, ws, h1, h2 with | [_], [_], _, _ => rfl)⟩, ?e⟩
  case n =>
    rcases List.mem_cons.mp hf with rfl | hf
    · exact (List.mem_of_getElem? (l := fa) (i := 47) rfl)
    cases hf
  case e =>
    intro q hq
    cases hq
    obtain ⟨fd2, D2⟩ := c.d.def_ 26 (d := d_Rule___eq__) rfl
    have M := He.meth_ok (c.fact _ (List.mem_of_getElem? (l := fa) (i := 49) rfl))
    exact ⟨_, fd2, [("self" : Str), ("other" : Str)], (fn_ok (F := (theF P w K mg base)) (GN := GN) (ps := [("self" : Str), ("other" : Str)]) S_Rule___eq__ D2 ⟨rfl, rfl, rfl, by decide +kernel, rfl, by decide +kernel, by decide +kernel⟩ rfl rfl (fun _ => rfl) (fun _ => rfl) (fun _ => rfl) (fun _ => rfl) (fun _ => by kernel_rfl) (kitF X G c) (fun _ => ⟨GEs.one rfl (He.free_ok X G (c.fact _ (List.mem_of_getElem? (l := fa) (i := 22) rfl))), ⟨GEs.one rfl ⟨_, He.glo_ok X G (c.fact _ (List.mem_of_getElem? (l := fa) (i := 45) rfl))⟩, trivial⟩⟩) (fun _ => trivial) (fun E ds hds => b_Rule___eq__ E ds hds)), M.at_, M.fn, (D2.bindsN fun _ _ _ _ _ _ us hl => match us, hl with | [_, _], _ => rfl)⟩

theorem ok_part_lets (X : K.In h) (G : h.Ns mainGlobals mg) (c : SaysM fa fn tb CLSS EXS w K) : GEok (theF P w K mg base) ("part_lets" : Str) (.fn 3 [("part" : Str), ("standing" : Str)] m_part_lets []) := by
  obtain ⟨fd, D0⟩ := c.d.def_ 27 (d := d_part_lets) rfl
  exact ge_fn rfl (He.glo_ok X G (c.fact _ (List.mem_of_getElem? (l := fa) (i := 50) rfl))) (fn_ok (F := (theF P w K mg base)) (GN := GN) (ps := [("part" : Str), ("standing" : Str)]) S_part_lets D0 ⟨rfl, rfl, rfl, by decide +kernel, rfl, by decide +kernel, by decide +kernel⟩ rfl rfl (fun _ => rfl) (fun _ => rfl) (fun _ => rfl) (fun _ => rfl) (fun _ => by kernel_rfl) (kitF X G c) (fun _ => ⟨GEs.one rfl (ok_LETS (P := P) (base := base) X G c), trivial⟩) (fun _ => ⟨GEs.one rfl (ok_apart_lets (P := P) (base := base) X G c), ⟨GEs.one rfl (ok_most_lets (P := P) (base := base) X G c), ⟨GEs.one rfl (ok_room_lets (P := P) (base := base) X G c), trivial⟩⟩⟩) (fun E ds hds => b_part_lets E ds hds)) D0.kp (D0.bindsN fun _ _ _ _ _ _ us hl => match us, hl with | [_, _], _ => rfl) (fun ds hds => by
    unfold m_part_lets
    split
    · exact absurd rfl hds
    · rfl) (fun q hq => by cases hq)
theorem ok_Web (X : K.In h) (G : h.Ns mainGlobals mg) (c : SaysM fa fn tb CLSS EXS w K) : GEok (theF P w K mg base) ("Web" : Str) (.cls [("names" : Str), ("weights" : Str), ("lots" : Str)] (some (3, m_Web___eq__))) := by
  obtain ⟨fd, D0⟩ := c.d.def_ 28 (d := d_Web___init__) rfl
  refine ⟨ga K ("Web" : Str), clsF_ok (F := (theF P w K mg base)) c rfl (List.mem_of_getElem? (i := 1) rfl) (He.glo_ok X G (c.fact _ (List.mem_of_getElem? (l := fa) (i := 51) rfl))) (List.mem_of_getElem? (l := fa) (i := 52) rfl) (fun f hf => ?n), ⟨_, fd, He.mkr_ok (c.fact _ (List.mem_of_getElem? (l := fa) (i := 56) rfl)), init_ok D0 (.cons (.cons (.cons .nil))) ⟨rfl, rfl, rfl, by decide +kernel, rfl, by decide +kernel, by decide +kernel⟩ (by decide +kernel) (by decide), (D0.bindsN fun _ _ _ _ _ _ us hl => match us, hl with | [_, _, _, _], _ => rfl), (kbn_of D0 fun _ _ _ _ _ _ us ws h1 h2 => match us, ws, h1, h2 with | [_], [_, _, _], _, _ => rfl)⟩, ?e⟩
  case n =>
    rcases List.mem_cons.mp hf with rfl | hf
    · exact (List.mem_of_getElem? (l := fa) (i := 53) rfl)
    rcases List.mem_cons.mp hf with rfl | hf
    · exact (List.mem_of_getElem? (l := fa) (i := 54) rfl)
    rcases List.mem_cons.mp hf with rfl | hf
    · exact (List.mem_of_getElem? (l := fa) (i := 55) rfl)
    cases hf
  case e =>
    intro q hq
    cases hq
    obtain ⟨fd2, D2⟩ := c.d.def_ 29 (d := d_Web___eq__) rfl
    have M := He.meth_ok (c.fact _ (List.mem_of_getElem? (l := fa) (i := 57) rfl))
    exact ⟨_, fd2, [("self" : Str), ("other" : Str)], (fn_ok (F := (theF P w K mg base)) (GN := GN) (ps := [("self" : Str), ("other" : Str)]) S_Web___eq__ D2 ⟨rfl, rfl, rfl, by decide +kernel, rfl, by decide +kernel, by decide +kernel⟩ rfl rfl (fun _ => rfl) (fun _ => rfl) (fun _ => rfl) (fun _ => rfl) (fun _ => by kernel_rfl) (kitF X G c) (fun _ => ⟨GEs.one rfl (He.free_ok X G (c.fact _ (List.mem_of_getElem? (l := fa) (i := 22) rfl))), ⟨GEs.one rfl ⟨_, He.glo_ok X G (c.fact _ (List.mem_of_getElem? (l := fa) (i := 51) rfl))⟩, trivial⟩⟩) (fun _ => trivial) (fun E ds hds => b_Web___eq__ E ds hds)), M.at_, M.fn, (D2.bindsN fun _ _ _ _ _ _ us hl => match us, hl with | [_, _], _ => rfl)⟩

theorem ok_part_line (X : K.In h) (G : h.Ns mainGlobals mg) (c : SaysM fa fn tb CLSS EXS w K) : GEok (theF P w K mg base) ("part_line" : Str) (.fn 3 [("web" : Str), ("part" : Str)] m_part_line []) := by
  obtain ⟨fd, D0⟩ := c.d.def_ 30 (d := d_part_line) rfl
  exact ge_fn rfl (He.glo_ok X G (c.fact _ (List.mem_of_getElem? (l := fa) (i := 58) rfl))) (fn_ok (F := (theF P w K mg base)) (GN := GN) (ps := [("web" : Str), ("part" : Str)]) S_part_line D0 ⟨rfl, rfl, rfl, by decide +kernel, rfl, by decide +kernel, by decide +kernel⟩ rfl rfl (fun _ => rfl) (fun _ => rfl) (fun _ => rfl) (fun _ => rfl) (fun _ => by kernel_rfl) (kitF X G c) (fun _ => ⟨GEs.one rfl (ok_TELLS (P := P) (base := base) X G c), trivial⟩) (fun _ => ⟨GEs.one rfl (ok_apart_line (P := P) (base := base) X G c), ⟨GEs.one rfl (ok_most_line (P := P) (base := base) X G c), ⟨GEs.one rfl (ok_room_line (P := P) (base := base) X G c), trivial⟩⟩⟩) (fun E ds hds => b_part_line E ds hds)) D0.kp (D0.bindsN fun _ _ _ _ _ _ us hl => match us, hl with | [_, _], _ => rfl) (fun ds hds => by
    unfold m_part_line
    split
    · exact absurd rfl hds
    · rfl) (fun q hq => by cases hq)
theorem ok__law_all (X : K.In h) (G : h.Ns mainGlobals mg) (c : SaysM fa fn tb CLSS EXS w K) : GEok (theF P w K mg base) ("_law_all" : Str) (.fn 3 [("pairs" : Str)] m__law_all []) := by
  obtain ⟨fd, D0⟩ := c.d.def_ 31 (d := d__law_all) rfl
  exact ge_fn rfl (He.glo_ok X G (c.fact _ (List.mem_of_getElem? (l := fa) (i := 59) rfl))) (fn_ok (F := (theF P w K mg base)) (GN := GN) (ps := [("pairs" : Str)]) S__law_all D0 ⟨rfl, rfl, rfl, by decide +kernel, rfl, by decide +kernel, by decide +kernel⟩ rfl rfl (fun _ => rfl) (fun _ => rfl) (fun _ => rfl) (fun _ => rfl) (fun _ => by kernel_rfl) (kitF X G c) (fun _ => ⟨GEs.one rfl (He.free_ok X G (c.fact _ (List.mem_of_getElem? (l := fa) (i := 9) rfl))), trivial⟩) (fun _ => ⟨GEs.one rfl (ok__law_same (P := P) (base := base) X G c), trivial⟩) (fun E ds hds => b__law_all E ds hds)) D0.kp (D0.bindsN fun _ _ _ _ _ _ us hl => match us, hl with | [_], _ => rfl) (fun ds hds => by
    unfold m__law_all
    split
    · exact absurd rfl hds
    · rfl) (fun q hq => by cases hq)
theorem ok__law_bearers (X : K.In h) (G : h.Ns mainGlobals mg) (c : SaysM fa fn tb CLSS EXS w K) : GEok (theF P w K mg base) ("_law_bearers" : Str) (.fn 3 [("deal" : Str), ("thing" : Str)] m__law_bearers []) := by
  obtain ⟨fd, D0⟩ := c.d.def_ 32 (d := d__law_bearers) rfl
  exact ge_fn rfl (He.glo_ok X G (c.fact _ (List.mem_of_getElem? (l := fa) (i := 61) rfl))) (fn_ok (F := (theF P w K mg base)) (GN := GN) (ps := [("deal" : Str), ("thing" : Str)]) S__law_bearers D0 ⟨rfl, rfl, rfl, by decide +kernel, rfl, by decide +kernel, by decide +kernel⟩ rfl rfl (fun _ => rfl) (fun _ => rfl) (fun _ => rfl) (fun _ => rfl) (fun _ => by kernel_rfl) (kitF X G c) (fun _ => ⟨GEs.one rfl (He.free_ok X G (c.fact _ (List.mem_of_getElem? (l := fa) (i := 9) rfl))), ⟨GEs.one rfl (He.free_ok X G (c.fact _ (List.mem_of_getElem? (l := fa) (i := 4) rfl))), ⟨GEs.one rfl (He.free_ok X G (c.fact _ (List.mem_of_getElem? (l := fa) (i := 60) rfl))), ⟨GEs.one rfl (He.free_ok X G (c.fact _ (List.mem_of_getElem? (l := fa) (i := 8) rfl))), ⟨GEs.one rfl (He.free_ok X G (c.fact _ (List.mem_of_getElem? (l := fa) (i := 3) rfl))), ⟨GEs.one rfl (He.free_ok X G (c.fact _ (List.mem_of_getElem? (l := fa) (i := 1) rfl))), ⟨GEs.one rfl (ok__law_any (P := P) (base := base) X G c), ⟨GEs.one rfl (ok__law_drawn_few (P := P) (base := base) X G c), trivial⟩⟩⟩⟩⟩⟩⟩⟩) (fun _ => trivial) (fun E ds hds => b__law_bearers E ds hds)) D0.kp (D0.bindsN fun _ _ _ _ _ _ us hl => match us, hl with | [_, _], _ => rfl) (fun ds hds => by
    unfold m__law_bearers
    split
    · exact absurd rfl hds
    · rfl) (fun q hq => by cases hq)
theorem ok__law_part (X : K.In h) (G : h.Ns mainGlobals mg) (c : SaysM fa fn tb CLSS EXS w K) : GEok (theF P w K mg base) ("_law_part" : Str) (.fn 3 [("deal" : Str), ("many" : Str)] m__law_part []) := by
  obtain ⟨fd, D0⟩ := c.d.def_ 33 (d := d__law_part) rfl
  exact ge_fn rfl (He.glo_ok X G (c.fact _ (List.mem_of_getElem? (l := fa) (i := 62) rfl))) (fn_ok (F := (theF P w K mg base)) (GN := GN) (ps := [("deal" : Str), ("many" : Str)]) S__law_part D0 ⟨rfl, rfl, rfl, by decide +kernel, rfl, by decide +kernel, by decide +kernel⟩ rfl rfl (fun _ => rfl) (fun _ => rfl) (fun _ => rfl) (fun _ => rfl) (fun _ => by kernel_rfl) (kitF X G c) (fun _ => ⟨GEs.one rfl (He.free_ok X G (c.fact _ (List.mem_of_getElem? (l := fa) (i := 9) rfl))), ⟨GEs.one rfl (He.free_ok X G (c.fact _ (List.mem_of_getElem? (l := fa) (i := 4) rfl))), ⟨GEs.one rfl (He.free_ok X G (c.fact _ (List.mem_of_getElem? (l := fa) (i := 8) rfl))), ⟨GEs.one rfl (He.free_ok X G (c.fact _ (List.mem_of_getElem? (l := fa) (i := 6) rfl))), ⟨GEs.one rfl (He.free_ok X G (c.fact _ (List.mem_of_getElem? (l := fa) (i := 1) rfl))), ⟨GEs.one rfl (ok__law_any (P := P) (base := base) X G c), ⟨GEs.one rfl (ok__law_drawn_few (P := P) (base := base) X G c), trivial⟩⟩⟩⟩⟩⟩⟩) (fun _ => ⟨GEs.one rfl (ok__law_of (P := P) (base := base) X G c), trivial⟩) (fun E ds hds => b__law_part E ds hds)) D0.kp (D0.bindsN fun _ _ _ _ _ _ us hl => match us, hl with | [_, _], _ => rfl) (fun ds hds => by
    unfold m__law_part
    split
    · exact absurd rfl hds
    · rfl) (fun q hq => by cases hq)
theorem ok_lets (X : K.In h) (G : h.Ns mainGlobals mg) (c : SaysM fa fn tb CLSS EXS w K) : GEok (theF P w K mg base) ("lets" : Str) (.fn 4 [("rule" : Str), ("standing" : Str)] m_lets []) := by
  obtain ⟨fd, D0⟩ := c.d.def_ 34 (d := d_lets) rfl
  exact ge_fn rfl (He.glo_ok X G (c.fact _ (List.mem_of_getElem? (l := fa) (i := 63) rfl))) (fn_ok (F := (theF P w K mg base)) (GN := GN) (ps := [("rule" : Str), ("standing" : Str)]) S_lets D0 ⟨rfl, rfl, rfl, by decide +kernel, rfl, by decide +kernel, by decide +kernel⟩ rfl rfl (fun _ => rfl) (fun _ => rfl) (fun _ => rfl) (fun _ => rfl) (fun _ => by kernel_rfl) (kitF X G c) (fun _ => trivial) (fun _ => ⟨GEs.one rfl (ok_part_lets (P := P) (base := base) X G c), trivial⟩) (fun E ds hds => b_lets E ds hds)) D0.kp (D0.bindsN fun _ _ _ _ _ _ us hl => match us, hl with | [_, _], _ => rfl) (fun ds hds => by
    unfold m_lets
    split
    · exact absurd rfl hds
    · rfl) (fun q hq => by cases hq)
theorem ok_lots_by_size (X : K.In h) (G : h.Ns mainGlobals mg) (c : SaysM fa fn tb CLSS EXS w K) : GEok (theF P w K mg base) ("lots_by_size" : Str) (.fn 4 [("web" : Str)] m_lots_by_size []) := by
  obtain ⟨fd, D0⟩ := c.d.def_ 35 (d := d_lots_by_size) rfl
  exact ge_fn rfl (He.glo_ok X G (c.fact _ (List.mem_of_getElem? (l := fa) (i := 64) rfl))) (fn_ok (F := (theF P w K mg base)) (GN := GN) (ps := [("web" : Str)]) S_lots_by_size D0 ⟨rfl, rfl, rfl, by decide +kernel, rfl, by decide +kernel, by decide +kernel⟩ rfl rfl (fun _ => rfl) (fun _ => rfl) (fun _ => rfl) (fun _ => rfl) (fun _ => by kernel_rfl) (kitF X G c) (fun _ => ⟨GEs.one rfl (He.free_ok X G (c.fact _ (List.mem_of_getElem? (l := fa) (i := 3) rfl))), ⟨GEs.one rfl (ok_all_lots (P := P) (base := base) X G c), ⟨GEs.one rfl (ok_things_of (P := P) (base := base) X G c), ⟨GEs.one rfl (ok_size_and_lot (P := P) (base := base) X G c), trivial⟩⟩⟩⟩) (fun _ => trivial) (fun E ds hds => b_lots_by_size E ds hds)) D0.kp (D0.bindsN fun _ _ _ _ _ _ us hl => match us, hl with | [_], _ => rfl) (fun ds hds => by
    unfold m_lots_by_size
    split
    · exact absurd rfl hds
    · rfl) (fun q hq => by cases hq)
theorem ok_rule_text (X : K.In h) (G : h.Ns mainGlobals mg) (c : SaysM fa fn tb CLSS EXS w K) : GEok (theF P w K mg base) ("rule_text" : Str) (.fn 4 [("web" : Str), ("rule" : Str)] m_rule_text [([("rule" : Str), ("web" : Str)], [1, 0])]) := by
  obtain ⟨fd, D0⟩ := c.d.def_ 36 (d := d_rule_text) rfl
  exact ge_fn rfl (He.glo_ok X G (c.fact _ (List.mem_of_getElem? (l := fa) (i := 65) rfl))) (fn_ok (F := (theF P w K mg base)) (GN := GN) (ps := [("web" : Str), ("rule" : Str)]) S_rule_text D0 ⟨rfl, rfl, rfl, by decide +kernel, rfl, by decide +kernel, by decide +kernel⟩ rfl rfl (fun _ => rfl) (fun _ => rfl) (fun _ => rfl) (fun _ => rfl) (fun _ => by kernel_rfl) (kitF X G c) (fun _ => trivial) (fun _ => ⟨GEs.one rfl (ok_part_line (P := P) (base := base) X G c), trivial⟩) (fun E ds hds => b_rule_text E ds hds)) D0.kp (D0.bindsN fun _ _ _ _ _ _ us hl => match us, hl with | [_, _], _ => rfl) (fun ds hds => by
    unfold m_rule_text
    split
    · exact absurd rfl hds
    · rfl) (fun q hq => by
    rcases List.mem_cons.mp hq with rfl | hq
    · exact kwB_of D0 fun _ _ _ _ _ _ ws hl => match ws, hl with | [_, _], _ => rfl
    cases hq)
theorem ok__law_stock (X : K.In h) (G : h.Ns mainGlobals mg) (c : SaysM fa fn tb CLSS EXS w K) : GEok (theF P w K mg base) ("_law_stock" : Str) (.fn 4 [("deal" : Str), ("least" : Str), ("most" : Str)] m__law_stock []) := by
  obtain ⟨fd, D0⟩ := c.d.def_ 37 (d := d__law_stock) rfl
  exact ge_fn rfl (He.glo_ok X G (c.fact _ (List.mem_of_getElem? (l := fa) (i := 66) rfl))) (fn_ok (F := (theF P w K mg base)) (GN := GN) (ps := [("deal" : Str), ("least" : Str), ("most" : Str)]) S__law_stock D0 ⟨rfl, rfl, rfl, by decide +kernel, rfl, by decide +kernel, by decide +kernel⟩ rfl rfl (fun _ => rfl) (fun _ => rfl) (fun _ => rfl) (fun _ => rfl) (fun _ => by kernel_rfl) (kitF X G c) (fun _ => ⟨GEs.one rfl (He.free_ok X G (c.fact _ (List.mem_of_getElem? (l := fa) (i := 8) rfl))), ⟨GEs.one rfl (He.free_ok X G (c.fact _ (List.mem_of_getElem? (l := fa) (i := 1) rfl))), ⟨GEs.one rfl (ok__law_any (P := P) (base := base) X G c), trivial⟩⟩⟩) (fun _ => ⟨GEs.one rfl (ok__law_bearers (P := P) (base := base) X G c), trivial⟩) (fun E ds hds => b__law_stock E ds hds)) D0.kp (D0.bindsN fun _ _ _ _ _ _ us hl => match us, hl with | [_, _, _], _ => rfl) (fun ds hds => by
    unfold m__law_stock
    split
    · exact absurd rfl hds
    · rfl) (fun q hq => by cases hq)
theorem ok__law_parts_of_rule (X : K.In h) (G : h.Ns mainGlobals mg) (c : SaysM fa fn tb CLSS EXS w K) : GEok (theF P w K mg base) ("_law_parts_of_rule" : Str) (.fn 4 [("deal" : Str), ("many" : Str), ("most" : Str)] m__law_parts_of_rule []) := by
  obtain ⟨fd, D0⟩ := c.d.def_ 38 (d := d__law_parts_of_rule) rfl
  exact ge_fn rfl (He.glo_ok X G (c.fact _ (List.mem_of_getElem? (l := fa) (i := 67) rfl))) (fn_ok (F := (theF P w K mg base)) (GN := GN) (ps := [("deal" : Str), ("many" : Str), ("most" : Str)]) S__law_parts_of_rule D0 ⟨rfl, rfl, rfl, by decide +kernel, rfl, by decide +kernel, by decide +kernel⟩ rfl rfl (fun _ => rfl) (fun _ => rfl) (fun _ => rfl) (fun _ => rfl) (fun _ => by kernel_rfl) (kitF X G c) (fun _ => ⟨GEs.one rfl (He.free_ok X G (c.fact _ (List.mem_of_getElem? (l := fa) (i := 8) rfl))), ⟨GEs.one rfl (He.free_ok X G (c.fact _ (List.mem_of_getElem? (l := fa) (i := 1) rfl))), ⟨GEs.one rfl (ok__law_any (P := P) (base := base) X G c), trivial⟩⟩⟩) (fun _ => ⟨GEs.one rfl (He.free_ok X G (c.fact _ (List.mem_of_getElem? (l := fa) (i := 9) rfl))), ⟨GEs.one rfl (ok__law_part (P := P) (base := base) X G c), trivial⟩⟩) (fun E ds hds => b__law_parts_of_rule E ds hds)) D0.kp (D0.bindsN fun _ _ _ _ _ _ us hl => match us, hl with | [_, _, _], _ => rfl) (fun ds hds => by
    unfold m__law_parts_of_rule
    split
    · exact absurd rfl hds
    · rfl) (fun q hq => by cases hq)
theorem ok__law_web (X : K.In h) (G : h.Ns mainGlobals mg) (c : SaysM fa fn tb CLSS EXS w K) : GEok (theF P w K mg base) ("_law_web" : Str) (.fn 4 [("stock" : Str)] m__law_web []) := by
  obtain ⟨fd, D0⟩ := c.d.def_ 39 (d := d__law_web) rfl
  exact ge_fn rfl (He.glo_ok X G (c.fact _ (List.mem_of_getElem? (l := fa) (i := 68) rfl))) (fn_ok (F := (theF P w K mg base)) (GN := GN) (ps := [("stock" : Str)]) S__law_web D0 ⟨rfl, rfl, rfl, by decide +kernel, rfl, by decide +kernel, by decide +kernel⟩ rfl rfl (fun _ => rfl) (fun _ => rfl) (fun _ => rfl) (fun _ => rfl) (fun _ => by kernel_rfl) (kitF X G c) (fun _ => ⟨GEs.one rfl (ok_Web (P := P) (base := base) X G c), trivial⟩) (fun _ => trivial) (fun E ds hds => b__law_web E ds hds)) D0.kp (D0.bindsN fun _ _ _ _ _ _ us hl => match us, hl with | [_], _ => rfl) (fun ds hds => by
    unfold m__law_web
    split
    · exact absurd rfl hds
    · rfl) (fun q hq => by cases hq)
theorem ok_same_rule (X : K.In h) (G : h.Ns mainGlobals mg) (c : SaysM fa fn tb CLSS EXS w K) : GEok (theF P w K mg base) ("same_rule" : Str) (.fn 5 [("web" : Str), ("one" : Str), ("other" : Str)] m_same_rule []) := by
  obtain ⟨fd, D0⟩ := c.d.def_ 40 (d := d_same_rule) rfl
  exact ge_fn rfl (He.glo_ok X G (c.fact _ (List.mem_of_getElem? (l := fa) (i := 69) rfl))) (fn_ok (F := (theF P w K mg base)) (GN := GN) (ps := [("web" : Str), ("one" : Str), ("other" : Str)]) S_same_rule D0 ⟨rfl, rfl, rfl, by decide +kernel, rfl, by decide +kernel, by decide +kernel⟩ rfl rfl (fun _ => rfl) (fun _ => rfl) (fun _ => rfl) (fun _ => rfl) (fun _ => by kernel_rfl) (kitF X G c) (fun _ => ⟨GEs.one rfl (ok_lets (P := P) (base := base) X G c), ⟨GEs.one rfl (ok_lots_by_size (P := P) (base := base) X G c), trivial⟩⟩) (fun _ => trivial) (fun E ds hds => b_same_rule E ds hds)) D0.kp (D0.bindsN fun _ _ _ _ _ _ us hl => match us, hl with | [_, _, _], _ => rfl) (fun ds hds => by
    unfold m_same_rule
    split
    · exact absurd rfl hds
    · rfl) (fun q hq => by cases hq)
theorem law_fn (hdv : ∀ ns : List Int, ns.length ≤ 63 → ∃ d, m_lawd ns = .ret d ∧ dealVal d) (hk2 : Tru m_law) {fl : Addr} (hfl : mg ("law" : Str) = some (.ref fl)) (X : K.In h) (G : h.Ns mainGlobals mg) (c : SaysM fa fn tb CLSS EXS w K) : ∃ fd : FuncData, (∀ (s : Shared) (u : Value), BindsTo s fd ⟨[u], []⟩ [(("script" : Str), u)]) ∧ ∀ base : Heap, FnOk P w K mg base CX0 6 fl fd [("script" : Str)] (spLaw K 63) := by
  obtain ⟨fd, D0⟩ := c.d.def_ 41 (d := d_law) rfl
  have e := hfl.symm.trans (He.glo_ok X G (c.fact _ (List.mem_of_getElem? (l := fa) (i := 70) rfl)))
  cases e
  have hb := FunD.bindsA (ps := [("script" : Str)]) D0 fun _ _ _ _ _ _ us hl => match us, hl with | [_], _ => rfl
  refine ⟨fd, fun s u => hb s [u] rfl, fun base => ?_⟩
  have hbd : defBody (top 51) = .Assign [.Name ("deal" : Str) ⟨178, 4, 178, 8⟩] (asgV (defBody (top 51))) ⟨178, 4, 178, 34⟩ :: (defBody (top 51)).tail := by kernel_rfl
  have D1 : FunD K ("law" : Str) ("law" : Str) (defArgs (top 51)) (defBody (top 51)) (defScope (top 51)) [] [] (ga K ("law" : Str)) fd := D0
  rw [hbd] at D1
  refine law_ok (F := (theF P w K mg base)) (GN := GN) (many := 63) (md := m_lawd) (k2 := m_law) S_law D1 ⟨rfl, rfl, rfl, by decide +kernel, rfl, by decide +kernel, by decide +kernel⟩ rfl rfl (fun _ => rfl) (fun _ => rfl) (fun _ => rfl) (fun _ => rfl) (fun _ => by kernel_rfl) (kitF X G c) (fun _ => ⟨GEs.one rfl (He.free_ok X G (c.fact _ (List.mem_of_getElem? (l := fa) (i := 9) rfl))), ⟨GEs.one rfl (He.free_ok X G (c.fact _ (List.mem_of_getElem? (l := fa) (i := 4) rfl))), ⟨GEs.one rfl (He.free_ok X G (c.fact _ (List.mem_of_getElem? (l := fa) (i := 8) rfl))), ⟨GEs.one rfl (He.free_ok X G (c.fact _ (List.mem_of_getElem? (l := fa) (i := 1) rfl))), ⟨GEs.one rfl (ok_Rule (P := P) (base := base) X G c), ⟨GEs.one rfl (ok_Web (P := P) (base := base) X G c), ⟨GEs.one rfl (ok_lets (P := P) (base := base) X G c), ⟨GEs.one rfl (ok_same_rule (P := P) (base := base) X G c), ⟨GEs.one rfl (ok_rule_text (P := P) (base := base) X G c), ⟨GEs.one rfl (ok__law_deal (P := P) (base := base) X G c), ⟨GEs.one rfl (ok__law_all (P := P) (base := base) X G c), ⟨GEs.one rfl (ok__law_drawn_few (P := P) (base := base) X G c), ⟨GEs.one rfl (ok__law_stock (P := P) (base := base) X G c), ⟨GEs.one rfl (ok__law_parts_of_rule (P := P) (base := base) X G c), ⟨GEs.one rfl (ok__law_web (P := P) (base := base) X G c), ⟨GEs.one rfl (ok__law_marks (P := P) (base := base) X G c), ⟨GEs.one rfl (ok__law_fine (P := P) (base := base) X G c), ⟨GEs.one rfl (ok__law_rule_text (P := P) (base := base) X G c), ⟨GEs.one rfl (ok__law_near_parts (P := P) (base := base) X G c), trivial⟩⟩⟩⟩⟩⟩⟩⟩⟩⟩⟩⟩⟩⟩⟩⟩⟩⟩⟩) (fun _ => ⟨GEs.one rfl (ok_Rule (P := P) (base := base) X G c), trivial⟩) rfl rfl (fun _ => rfl) (by intros; rfl) ?d hdv ?b ?t
  case d => exact fun E ns => b_lawd E ns
  case t => assumption
  case b => exact fun E => b_law E
end
end K03

set_option maxHeartbeats 0
/-! the head -/
namespace K03
open PySem PySem.Spec PyProof.Rows L2 MS
abbrev R : PySem.W.OpenRow := PySem.W.OpenLaw.row PySem.Challenge.rw_maystand_k03_rules_keep_their_parts
abbrev hk : PySem.W.Hook := hookM 5 fa fn tb CLSS EXS
def ob (s : PySem.W.SharedT) : AlM := obsMG 5 fa fn tb CLSS EXS (HandSHeadRun.getT s)
theorem ob_eq (s : PySem.W.SharedT) : ob s = hk.obs s.abs := obsMG_eq (HandSHeadRun.getT_eq s)
def loose0 : List Str := [("is_within" : Str), ("cut" : Str), ("all_lots" : Str), ("APART" : Str), ("MOST" : Str), ("ROOM" : Str), ("Rule" : Str), ("apart_lets" : Str), ("most_lets" : Str), ("weight_in" : Str), ("room_lets" : Str), ("LETS" : Str), ("part_lets" : Str), ("lets" : Str), ("Web" : Str), ("things_of" : Str), ("named_things" : Str), ("size_and_lot" : Str), ("lots_by_size" : Str), ("same_rule" : Str), ("COLON" : Str), ("apart_line" : Str), ("most_line" : Str), ("room_line" : Str), ("TELLS" : Str), ("part_line" : Str), ("rule_text" : Str), ("_law_deal" : Str), ("_law_any" : Str), ("_law_of" : Str), ("_law_is_kind" : Str), ("_law_same" : Str), ("_law_all" : Str), ("_law_drawn_few" : Str), ("_law_bearers" : Str)]
def loose1 : List Str := [("_law_stock" : Str), ("_law_part" : Str), ("_law_parts_of_rule" : Str), ("_law_web" : Str), ("_law_marks" : Str), ("_law_part_fine" : Str), ("_law_fine" : Str), ("_law_rule_row" : Str), ("_law_rule_text" : Str), ("_law_near_parts" : Str)]
def loose : List Str := loose0 ++ loose1
theorem run_f (w : World) : HandSHeadRun.RunEq R (PySem.W.view R.prog [51]) hk ob 4000 loose (w.withFollow "special-get-raises" false) := by
  intro os
  kernel_rfl
theorem run_t (w : World) : HandSHeadRun.RunEq R (PySem.W.view R.prog [51]) hk ob 4000 loose (w.withFollow "special-get-raises" true) := by
  intro os
  kernel_rfl
theorem run (w : World) : HandSHeadRun.RunEq R (PySem.W.view R.prog [51]) hk ob 4000 loose w := PySem.W.byRow2 "special-get-raises" (P := fun w => HandSHeadRun.RunEq R (PySem.W.view R.prog [51]) hk ob 4000 loose w) run_f run_t w
end K03
open PySem PySem.W PySem.Calls PyProof.Rows MS
theorem K03.holds_of (hdv : ∀ ns : List Int, ns.length ≤ 63 → ∃ d, K03.m_lawd ns = .ret d ∧ dealVal d) (hk2 : Tru K03.m_law) : PySem.Challenge.rw_maystand_k03_rules_keep_their_parts.Holds := by
  w_on; o_law
  refine HandSHeadRun.head_any (r := OpenLaw.row PySem.Challenge.rw_maystand_k03_rules_keep_their_parts) (q := view (OpenLaw.row PySem.Challenge.rw_maystand_k03_rules_keep_their_parts).prog [51]) (H := K03.hk) (ob := K03.ob) (M := 4000) (loose := K03.loose) (d := HandSHeadRun.topDef (OpenLaw.row PySem.Challenge.rw_maystand_k03_rules_keep_their_parts).prog 51) (kwd := []) K03.ob_eq
    (by kernel_rfl) (fun s => by kernel_rfl) K03.run (by kernel_rfl) (by kernel_rfl) (by kernel_rfl) (by rfl) (by first | assumption | decide +kernel) (by decide +kernel) ⟨rfl, rfl, rfl, rfl, rfl, by decide +kernel⟩ ?hw ?hc
  case hw => w_witness2
  case hc =>
    refine L2.walk_ofE (l := PySem.Challenge.rw_maystand_k03_rules_keep_their_parts) (n := 63) (k := 6) (x := "script") (CX := L2.CX0) rfl (by decide) (by kernel_rfl) ⟨rfl, by decide, by decide⟩ ?F (fun _ _ _ _ z => z)
    intro w mg fa h Y G hmg0
    obtain ⟨K, KX, c⟩ := Y
    have hmg : mg ("law" : PySem.Str) = some (.ref fa) := by
      have e : (HandSHeadRun.topDef (OpenLaw.row PySem.Challenge.rw_maystand_k03_rules_keep_their_parts).prog 51).name = ("law" : PySem.Str) := by kernel_rfl
      rw [← e]
      exact hmg0
    obtain ⟨fd, hb, hF⟩ := K03.law_fn (P := (PySem.Challenge.rw_maystand_k03_rules_keep_their_parts).prog) (by assumption) (by assumption) (by assumption) KX G c
    exact ⟨K, fd, spLaw K 63, KX, hb, fun H a ns hl _ hS => ⟨a, ns, rfl, hS, hl, fun _ => rfl⟩, fun base _ _ => hF base⟩
theorem PySem.Challenge.cw_maystand_k03_rules_keep_their_parts_holds : PySem.Challenge.rw_maystand_k03_rules_keep_their_parts.Holds := by
  with_reducible exact K03.holds_of K03.hdv K03.hk2
