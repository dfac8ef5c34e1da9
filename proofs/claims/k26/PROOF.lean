import PyProof.Rows.All
import Wide.All
import OpenK.AllK
import Wide.FinOn
import KE.KNestM
import KE.KLam
import KE.KDictKeyed
import KE.KDictPairs
import KE.KDictWalk
import KE.KDictItemsList
import HandS.ForMost
import HandS.EndTab
import HandS.Property
import HandS.Defaults
import HandS.CallLocal
import HandS.Lambda
import HandS.Nested
import HandS.Exc
import HandS.ExcOwn
import HandS.WordsExc
import HandS.TryMany
import HandS.TupAny
import HandS.TupMul
import HandS.Conv
import HandS.TupSets
import HandS.Strs
import HandS.SetFor
import HandS.Style
import HandS.IsInst
import HandS.Zip
import HandS.Star
import HandS.ListItems
import HandS.Wide
import HandS.Flow
import KE.KDictDisplayH
import KE.GoesNew
import HandS.MakeKwOnly
import HandS.HeadNt
import PySem.Challenge.RW_handedworld_k26_whole_makings_and_settle
set_option Elab.async false
set_option linter.all false
set_option maxRecDepth 100000
set_option maxHeartbeats 4000000
/-! the text by places, defs as they stand, calls -/
namespace Hw
open PySem PySem.Spec PyProof.Rows L2
abbrev prg : Program := PySem.Challenge.pw_handedworld_k26_whole_makings_and_settle
def topS (i : Nat) : Stmt := prg.main.body.getD i (.Pass ⟨0, 0, 0, 0⟩)

section
variable {P : Program} {w : World} {K : PySem.W.Frag} {mg : Str → Option Value} {base : Heap}
/-- a def of the top that keeps a promise, with all that a call of it by its name asks -/
structure Ca (P : Program) (w : World) (K : PySem.W.Frag) (mg : Str → Option Value) (base : Heap) (cx : CXT) (k : Nat) (x : Str) (ps : List Str) (sp : Sp) : Prop where
  ex : ∃ (f : Addr) (fd : FuncData), FnOk P w K mg base cx k f fd ps sp ∧ mg x = some (.ref f) ∧ PySem.W.keepIn K (.ref f) = true ∧ Binds K fd ps []
/-- a method likewise -/
structure CaM (P : Program) (w : World) (K : PySem.W.Frag) (mg : Str → Option Value) (base : Heap) (C : Addr) (k : Nat) (m : Str) (ps : List Str) (sp : Sp) : Prop where
  ex : ∃ (f : Addr) (fd : FuncData), FnOk P w K mg base CX0 k f fd ps sp ∧ Meth K C m f ∧ Binds K fd ps []
/-- a property likewise -/
structure CaP (P : Program) (w : World) (K : PySem.W.Frag) (mg : Str → Option Value) (base : Heap) (C : Addr) (k : Nat) (m : Str) (sp : Sp) : Prop where
  ex : ∃ (p f : Addr) (fd : FuncData), FnOk P w K mg base CX0 k f fd ["self"] sp ∧ PropOf K C m p f ∧ Binds K fd ["self"] []
/-- how a def stands behind the top -/
structure DefAt (K : PySem.W.Frag) (mg : Str → Option Value) (x : Str) (st : Stmt) (ps : List Str) (f : Addr) (fd : FuncData) : Prop where
  F : Fun K x x st f fd
  g : mg x = some (.ref f)
  b : Binds K fd ps []
theorem DefAt.ca {x : Str} {st : Stmt} {ps : List Str} {f : Addr} {fd : FuncData} {cx : CXT} {k : Nat} {sp : Sp} (D : DefAt K mg x st ps f fd) (F : FnOk P w K mg base cx k f fd ps sp) : Ca P w K mg base cx k x ps sp :=
  ⟨f, fd, F, D.g, D.F.kp, D.b⟩
theorem Ca.mono {cx : CXT} {j k : Nat} {x : Str} {ps : List Str} {sp : Sp} (c : Ca P w K mg base cx j x ps sp) (h : j ≤ k) : Ca P w K mg base cx k x ps sp := by
  obtain ⟨f, fd, F, r⟩ := c.ex
  exact ⟨f, fd, F.mono h, r⟩
end
def tCa (sp : Sp) (E : XK) (t : TA) : TE := fun σ H Q => t σ H fun vs H1 => sp vs H1 Q E
section
variable {X : Cx} {cx : CXT} {k : Nat} {C : Addr} {ps : List Str} {sp : Sp} {E : XK} {x m : Str} {p pos apos : Pos} {e o : Expr} {es : List Expr} {ta : TE} {t : TA}
theorem pe_ca (c : Ca X.prog X.w X.K X.mg X.base cx k x ps sp) (hr : Room k X.A) (hg : Gl X x) (hx : Passes cx X E) (ha : PA X (e :: es) t) (hdb : (x == ("__debug__" : Str)) = false := by decide)
    (he : starEach (e :: es) X.env = (false, eval e X.env) :: starEach es X.env := by rfl) (hpl : (backTo pos (starEach es X.env)).any (·.1) = false := by rfl) : PE X (.Call (.Name x p) (e :: es) [] pos) (tCa sp E t) := by
  obtain ⟨f, fd, F, hm, hk, hb⟩ := c.ex
  refine ⟨fun pins s σ H Q I h => (pe_call (p := p) (pos := pos) F hr hg hm hk hb .nil hx ha hdb he hpl).run pins s σ H Q I ?_⟩
  show t σ H fun vs H1 => sp (vs ++ []) H1 Q E
  have q : (fun (vs : List V) (H1 : Hp) => sp (vs ++ []) H1 Q E) = fun vs H1 => sp vs H1 Q E := by
    funext vs H1
    rw [List.append_nil]
  rw [q]
  exact h
end
namespace B
theorem isi : bootBuiltins "isinstance" = some (.builtin "isinstance") := by decide +kernel
theorem int : bootBuiltins "int" = some (.type "int") := by decide +kernel
theorem bool : bootBuiltins "bool" = some (.type "bool") := by decide +kernel
theorem tuple : bootBuiltins "tuple" = some (.type "tuple") := by decide +kernel
theorem list : bootBuiltins "list" = some (.type "list") := by decide +kernel
theorem dict : bootBuiltins "dict" = some (.type "dict") := by decide +kernel
theorem set : bootBuiltins "set" = some (.type "set") := by decide +kernel
theorem len : bootBuiltins "len" = some (.builtin "len") := by decide +kernel
theorem all : bootBuiltins "all" = some (.builtin "all") := by decide +kernel
theorem sum : bootBuiltins "sum" = some (.builtin "sum") := by decide +kernel
theorem sorted : bootBuiltins "sorted" = some (.builtin "sorted") := by decide +kernel
theorem max : bootBuiltins "max" = some (.builtin "max") := by decide +kernel
theorem min : bootBuiltins "min" = some (.builtin "min") := by decide +kernel
theorem abs : bootBuiltins "abs" = some (.builtin "abs") := by decide +kernel
theorem repr : bootBuiltins "repr" = some (.builtin "repr") := by decide +kernel
end B
/-! ### the rules within a comprehension's block: the written part told -/
section
variable {X : Cx} {e a b : Expr} {ta : TE} {t : TA} {f : Str} {pos : Pos} {tg : Expr} {es : List Expr}
theorem fldK (K : PySem.W.Frag) (he : PE X e ta) (hb : attributeBase e f X.env (eval e X.env) = eval e X.env := by rfl) (hK : X.K = K := by rfl) : PE X (.Attribute e f pos) (tFld K ta f) := by
  subst hK
  exact pe_fld he hb
theorem ixTK (K : PySem.W.Frag) (hK : X.K = K := by rfl) : IxR X (rIxT K) := by
  subst hK
  exact ix_tup
theorem ixLK (K : PySem.W.Frag) (hK : X.K = K := by rfl) : IxR X (rIxL K) := by
  subst hK
  exact ix_list
theorem piLK (K : PySem.W.Frag) (he : PE X e ta) (hK : X.K = K := by rfl) : PI X tg e (iList K ta) := by
  subst hK
  exact pi_list he
theorem piTK (K : PySem.W.Frag) (he : PE X e ta) (hK : X.K = K := by rfl) : PI X tg e (iTup K ta) := by
  subst hK
  exact pi_tup he
theorem lenK (K : PySem.W.Frag) (hK : X.K = K := by rfl) : CallR X (.builtin "len") (fun xs H Q => ∃ p ys, xs = [.ref p] ∧ (SqL K H p ys ∨ SqT K H p ys) ∧ Q (.int ys.length) H) := by
  subst hK
  exact call_len_seq
theorem allK (K : PySem.W.Frag) (hc : X.calm = true := by rfl) (hK : X.K = K := by rfl) : CallR X (.builtin "all") (rAll K) := by
  subst hK
  exact cr_all hc
theorem isiK (K : PySem.W.Frag) (hK : X.K = K := by rfl) : CallR X (.builtin "isinstance") (rIsi K) := by
  subst hK
  exact call_isi
theorem eqK (K : PySem.W.Frag) (hu : X.A.units + 64 < cLine) (hK : X.K = K := by rfl) : OpR X (compareOp .Eq) (rEqD K) := by
  subst hK
  exact op_eqD hu
theorem neK (K : PySem.W.Frag) (hu : X.A.units + 64 < cLine) (hK : X.K = K := by rfl) : OpR X (compareOp .NotEq) (rNeD K) := by
  subst hK
  exact op_neD hu
theorem catK (K : PySem.W.Frag) (hK : X.K = K := by rfl) : OpR X (binaryOp .Add) (rCatA K) := by
  subst hK
  exact op_catA
end
/-! ### heaps: all but the tables of code objects stays, but for what stands at j; the tuples stay -/
def TK (H H' : Hp) : Prop := ∀ b xs, H b = some (.tup xs) → H' b = some (.tup xs)
/-- the tables of the two makers of lambdas, and the names of the code that they tell -/
def tbs9 : List (Addr × Str) := [(529, "_law_right.<locals>.<lambda>"), (389, "settled.<locals>.<lambda>")]
structure Ex (H H' : Hp) : Prop where
  st : ∀ b o, H b = some o → (∀ ps, o ≠ .tbl ps) → H' b = some o
  tb : LamX.Tabs tbs9 H → LamX.Tabs tbs9 H'
instance {H H' : Hp} : CoeFun (Ex H H') fun _ => ∀ b o, H b = some o → (∀ ps, o ≠ .tbl ps) → H' b = some o := ⟨Ex.st⟩
structure ExJ (j : Addr) (H H' : Hp) : Prop where
  at_ : ∀ b o, b ≠ j → H b = some o → (∀ ps, o ≠ .tbl ps) → H' b = some o
  tk : TK H H'
  tb : LamX.Tabs tbs9 H → LamX.Tabs tbs9 H'
section
variable {H H' H1 H2 : Hp} {a j p : Addr} {o : HO} {xs ys : List V} {K : PySem.W.Frag}
theorem TK.refl (H : Hp) : TK H H := fun _ _ h => h
theorem TK.trans (e : TK H H1) (f : TK H1 H2) : TK H H2 := fun b o h => f b o (e b o h)
/-- a store to what is no tuple -/
theorem TK.put {u : HO} (h : H p = some o) (n : ∀ xs, o ≠ .tup xs) : TK H (upd H p u) := fun b ys e => by
  have m : b ≠ p := fun z => by
    rw [z, h] at e
    exact n ys (Option.some.inj e)
  rw [upd_ne m]
  exact e
theorem TK.lst (h : H p = some (.lst xs)) : TK H (upd H p o) := .put h fun _ z => by cases z
theorem TK.new (h : H p = none) : TK H (upd H p o) := fun b u e => by
  rw [upd_ne (ne_of_none e h)]
  exact e
theorem tabs_put {u : HO} (t : LamX.Tabs tbs9 H1) (hp : ∀ q ∈ tbs9, q.1 ≠ p) (hc : ∀ q, H1 p ≠ some (LamX.CodeO p q)) : LamX.Tabs tbs9 (upd H1 p u) := fun x hx => by
  obtain ⟨ps, a1, a2, a3⟩ := t x hx
  refine ⟨ps, by rw [upd_ne (hp x hx)]; exact a1, a2, fun pos cv hcv => ?_⟩
  obtain ⟨c, e1, e2⟩ := a3 pos cv hcv
  refine ⟨c, e1, ?_⟩
  rw [upd_ne (fun z => hc x.2 (by rw [← z]; exact e2))]
  exact e2
theorem tabs_putL {u : HO} (t : LamX.Tabs tbs9 H1) (h : H1 p = some (.lst xs)) : LamX.Tabs tbs9 (upd H1 p u) := tabs_put t (fun q hq z => by
  obtain ⟨ps, a1, _⟩ := t q hq
  rw [z, h] at a1
  cases a1) fun q z => by
  rw [h] at z
  cases z
theorem tabs_new {u : HO} (t : LamX.Tabs tbs9 H1) (h : H1 p = none) : LamX.Tabs tbs9 (upd H1 p u) := tabs_put t (fun q hq z => by
  obtain ⟨ps, a1, _⟩ := t q hq
  rw [z, h] at a1
  cases a1) fun q z => by
  rw [h] at z
  cases z
theorem Ex.tk (e : Ex H H') : TK H H' := fun _ _ h => e _ _ h fun _ z => by cases z
theorem Ex.refl (H : Hp) : Ex H H := ⟨fun _ _ h _ => h, fun t => t⟩
theorem Ex.trans (e : Ex H H1) (f : Ex H1 H2) : Ex H H2 := ⟨fun b o h n => f b o (e b o h n) n, fun t => f.tb (e.tb t)⟩
theorem Ex.of (k : ∀ b o, H b = some o → H' b = some o) : Ex H H' := ⟨fun b o h _ => k b o h, fun t => t.ext k⟩
theorem Ex.new (h : H p = none) : Ex H (upd H p o) := .of fun b u e => by
  rw [upd_ne (ne_of_none e h)]
  exact e
theorem Ex.then_new (e : Ex H H1) (h : H1 p = none) : Ex H (upd H1 p o) := e.trans (.new h)
/-- nothing stands there but, may be, a table of code objects (not one of the two) -/
def Nw (H : Hp) (p : Addr) : Prop := (∀ o, H p = some o → ∃ ps, o = .tbl ps) ∧ (LamX.Tabs tbs9 H → ∀ q ∈ tbs9, q.1 ≠ p)
theorem Nw.of (h : H p = none) : Nw H p := ⟨fun o e => (by
    rw [h] at e
    cases e), fun t q hq z => by
    obtain ⟨ps, a1, _⟩ := t q hq
    rw [z, h] at a1
    cases a1⟩
theorem Nw.ex (e : Ex H H1) (h : Nw H1 p) : Nw H p := ⟨fun o q => Classical.byContradiction fun n => by
  obtain ⟨ps, z⟩ := h.1 o (e p o q fun ps w => n ⟨ps, w⟩)
  exact n ⟨ps, z⟩, fun t => h.2 (e.tb t)⟩
theorem Ex.nw (e : Ex H H1) (h : H1 p = none) : Nw H p := Nw.ex e (.of h)
theorem Nw.ne {u : HO} (h : Nw H p) (q : H a = some u) (n : ∀ ps, u ≠ .tbl ps) : a ≠ p := fun z => by
  rw [z] at q
  obtain ⟨ps, w⟩ := h.1 u q
  exact n ps w
/-- a store at what did not stand at first -/
theorem Ex.put (e : Ex H H1) (h : Nw H p) (hc : ∀ q, H1 p ≠ some (LamX.CodeO p q)) : Ex H (upd H1 p o) := ⟨fun b u q n => by
  rw [upd_ne (h.ne q n)]
  exact e b u q n, fun t => tabs_put (e.tb t) (h.2 t) hc⟩
theorem noCode_none {H1 : Hp} (h : H1 p = none) : ∀ q, H1 p ≠ some (LamX.CodeO p q) := fun q z => by rw [h] at z; cases z
theorem noCode_lst {H1 : Hp} (h : H1 p = some (.lst xs)) : ∀ q, H1 p ≠ some (LamX.CodeO p q) := fun q z => by rw [h] at z; cases z
theorem noCode_own {H1 : Hp} {y : Addr} (h : H1 p = some (.own y)) : ∀ q, H1 p ≠ some (LamX.CodeO p q) := fun q z => by rw [h] at z; cases z
theorem Ex.tup (e : Ex H H') (h : H a = some (.tup xs)) : H' a = some (.tup xs) := e _ _ h fun _ z => by cases z
theorem Ex.lst (e : Ex H H') (h : H a = some (.lst xs)) : H' a = some (.lst xs) := e _ _ h fun _ z => by cases z
theorem Ex.ins {C dx : Addr} {fs : List (Str × V)} (e : Ex H H') (h : H a = some (.ins C dx fs)) : H' a = some (.ins C dx fs) := e _ _ h fun _ z => by cases z
theorem Ex.ext {φ : Heap → Prop} (e : Ex H H') (h : H a = some (.ext φ)) : H' a = some (.ext φ) := e _ _ h fun _ z => by cases z
theorem Ex.dK {kvs : List (Key × V)} (e : Ex H H') (h : H a = some (.dK kvs)) : H' a = some (.dK kvs) := e _ _ h fun _ z => by cases z
theorem Ex.toJ (e : Ex H H') : ExJ j H H' := ⟨fun b o _ h n => e b o h n, e.tk, e.tb⟩
theorem ExJ.refl (H : Hp) : ExJ j H H := ⟨fun _ _ _ h _ => h, .refl H, fun t => t⟩
theorem ExJ.trans (e : ExJ j H H1) (f : ExJ j H1 H2) : ExJ j H H2 := ⟨fun b o m h n => f.at_ b o m (e.at_ b o m h n) n, e.tk.trans f.tk, fun t => f.tb (e.tb t)⟩
theorem ExJ.tup (e : ExJ j H H') (h : H a = some (.tup xs)) : H' a = some (.tup xs) := e.tk _ _ h
theorem ExJ.lst (e : ExJ j H H') (m : a ≠ j) (h : H a = some (.lst xs)) : H' a = some (.lst xs) := e.at_ _ _ m h fun _ z => by cases z
theorem ExJ.ext {φ : Heap → Prop} (e : ExJ j H H') (m : a ≠ j) (h : H a = some (.ext φ)) : H' a = some (.ext φ) := e.at_ _ _ m h fun _ z => by cases z
theorem ExJ.store (h : H j = some (.lst xs)) : ExJ j H (upd H j o) := ⟨fun b u m q _ => by
  rw [upd_ne m]
  exact q, .lst h, fun t => tabs_putL t h⟩
theorem ExJ.put (e : ExJ j H H1) (h : Nw H p) (hc : ∀ q, H1 p ≠ some (LamX.CodeO p q)) : ExJ j H (upd H1 p o) := ⟨fun b u m q k => by
  rw [upd_ne (h.ne q k)]
  exact e.at_ b u m q k, fun b ys q => by
  rw [upd_ne (h.ne q fun _ z => by cases z)]
  exact e.tk b ys q, fun t => tabs_put (e.tb t) (h.2 t) hc⟩
theorem ExJ.nw (e : ExJ j H H1) (h : H1 p = none) (m : p ≠ j) : Nw H p := ⟨fun o q => Classical.byContradiction fun n => by
  have z := e.at_ p o m q fun ps w => n ⟨ps, w⟩
  simp [h] at z, fun t => (Nw.of h).2 (e.tb t)⟩
/-- what is new now was nothing before, or a table -/
theorem none_of_upd (h : upd H p o a = none) : H a = none := by
  unfold upd at h
  split at h
  · cases h
  · exact h
/-- two new objects, one behind the other, stand apart -/
theorem apart (h : upd H p o a = none) : a ≠ p := fun z => by
  rw [z, upd_same] at h
  cases h
theorem SqL.ex (e : Ex H H') (h : SqL K H a xs) : SqL K H' a xs := by
  rcases h with (h | ⟨o, h⟩) | h
  · exact .inl (.inl (e.lst h))
  · exact .inl (.inr ⟨o, e _ _ h fun _ z => by cases z⟩)
  · exact .inr h
theorem SqT.ex (e : Ex H H') (h : SqT K H a xs) : SqT K H' a xs := by
  rcases h with (h | ⟨o, h⟩) | h
  · exact .inl (.inl (e.tup h))
  · exact .inl (.inr ⟨o, e _ _ h fun _ z => by cases z⟩)
  · exact .inr h
end
/-! ### a list comprehension over anything that goes through the items l -/
/-- J goes through l; Y: what an item is as a value, in the heap as it is then -/
structure Wk {α : Type} (E : Hp → Hp → Prop) (J : It) (H1 : Hp) (l : List α) (Y : α → V → Hp → Prop) : Prop where
  go : ∀ i H, E H1 H → i < l.length → J.go i H
  yld : ∀ i H x H' z, E H1 H → J.yld i H x H' → l[i]? = some z → E H H' ∧ Y z x H'
  stop : ∀ H, E H1 H → J.stop l.length H
/-- .. and makes nothing new -/
structure Wk0 {α : Type} (E : Hp → Hp → Prop) (J : It) (H1 : Hp) (l : List α) (Y : α → V → Prop) : Prop where
  go : ∀ i H, E H1 H → i < l.length → J.go i H
  yld : ∀ i H x H' z, E H1 H → J.yld i H x H' → l[i]? = some z → H' = H ∧ Y z x
  stop : ∀ H, E H1 H → J.stop l.length H
/-- how the heap may change beside the new list at D -/
structure Ev (E : Hp → Hp → Prop) (H1 : Hp) (D : Addr) : Prop where
  rfl' : E H1 H1
  tr : ∀ A B C, E A B → E B C → E A C
  tk : ∀ A B, E A B → TK A B
  kp : ∀ A B xs, E A B → A D = some (.lst xs) → B D = some (.lst xs)
  put : ∀ A xs, E H1 A → A D = none ∨ (∃ ys, A D = some (.lst ys)) → E H1 (upd A D (.lst xs))
theorem Ev.ex {H1 : Hp} {D : Addr} (h : H1 D = none) : Ev Ex H1 D := ⟨.refl _, fun _ _ _ => .trans, fun _ _ e => Ex.tk e, fun _ _ _ e q => Ex.lst e q, fun _ _ e g => Ex.put e (.of h) (g.elim noCode_none fun ⟨_, g⟩ => noCode_lst g)⟩
theorem Ev.exJ {H1 : Hp} {D j : Addr} {o : HO} (h : H1 D = none) (hj : H1 j = some o) : Ev (ExJ j) H1 D :=
  ⟨.refl _, fun _ _ _ => .trans, fun _ _ e => e.tk, fun _ _ _ e q => e.lst (ne_of_none hj h).symm q, fun A xs e g => e.put (.of h) (g.elim noCode_none fun ⟨_, g⟩ => noCode_lst g)⟩
theorem paired_snoc {α β : Type} {F : α → β → Prop} : ∀ {l : List α} {m : List β} {x : α} {y : β}, Paired F l m → F x y → Paired F (l ++ [x]) (m ++ [y])
  | _, _, _, _, .nil, h => .cons h .nil
  | _, _, _, _, .cons r t, h => .cons r (paired_snoc t h)
theorem paired_map {α β γ : Type} {F : α → β → Prop} {G : α → γ} {m : β → γ} (h : ∀ x y, F x y → m y = G x) : ∀ {l : List α} {ys : List β}, Paired F l ys → ys.map m = l.map G
  | _, _, .nil => rfl
  | _, _, .cons r t => by rw [List.map_cons, List.map_cons, h _ _ r, paired_map h t]
theorem paired_eq {α β : Type} {G : α → β} {l : List α} {ys : List β} (h : Paired (fun x y => y = G x) l ys) : ys = l.map G := by
  have q := paired_map (m := id) (G := G) (fun _ _ e => e) h
  rw [List.map_id] at q
  exact q
theorem paired_mem {α β : Type} {F : α → β → Prop} : ∀ {l : List α} {m : List β}, Paired F l m → ∀ y ∈ m, ∃ x ∈ l, F x y
  | _, _, .nil, y, h => by cases h
  | _, _, .cons r t, y, h => by
    rcases List.mem_cons.mp h with e | h
    · subst e
      exact ⟨_, List.mem_cons_self, r⟩
    · obtain ⟨x, hx, q⟩ := paired_mem t y h
      exact ⟨x, List.mem_cons_of_mem _ hx, q⟩
theorem filter_take {α : Type} (p : α → Bool) (l : List α) (i : Nat) (z : α) (h : l[i]? = some z) : (l.take (i + 1)).filter p = (l.take i).filter p ++ if p z = true then [z] else [] := by
  rw [List.take_add_one, h, List.filter_append]
  show _ ++ List.filter p [z] = _
  rw [List.filter_cons, List.filter_nil]
theorem lcG {α : Type} {J : It} {g : TG} {tt : TT} {te : TE} {vs : List Nat} {σ : L2.St} {H1 : Hp} {D : Addr} {Qd : Hp → Prop} (E : Hp → Hp → Prop) (I : Nat → Hp → Prop) (l : List α) {Y : α → V → Hp → Prop} (keep : α → Bool) (R : α → V → Hp → Prop)
    (ev : Ev E H1 D) (hD : H1 D = none) (w : Wk E J H1 l Y) (hl : l.length ≤ 3000) (Rt : ∀ z y A B, TK A B → R z y A → R z y B) (It : ∀ i A xs ys, A D = some (.lst xs) → I i A → I i (upd A D (.lst ys))) (I0 : I 0 (upd H1 D (.lst [])))
    (step : ∀ i z x H (Qk : V → Hp → Prop) (Qs : Hp → Prop), l[i]? = some z → E H1 H → I i H → Y z x H → (∀ y H4, keep z = true → E H H4 → I (i + 1) H4 → R z y H4 → Qk y H4) → (∀ H4, keep z = false → E H H4 → I (i + 1) H4 → Qs H4) →
      g x (wipe σ vs) H fun σ2 H2 => wipe σ2 vs = wipe σ vs ∧ tt σ2 H2 fun b H3 => if b = true then te σ2 H3 Qk else Qs H3)
    (Iyl : ∀ i A x B, E H1 A → I i A → J.yld i A x B → I i B)
    (q : ∀ H ys, E H1 H → I l.length H → H D = some (.lst ys) → Paired (fun z y => R z y H) (l.filter keep) ys → Qd H) :
    ∃ W : Nat → Nat → Hp → Prop, (∃ m, W 0 m (upd H1 D (.lst []))) ∧ ∀ i m H, W i m H →
      (J.stop i H ∧ Qd H) ∨ (J.go i H ∧ ∃ Nx : Hp → Prop, (∀ H', Nx H' → ∃ m', m' < m ∧ W (i + 1) m' H') ∧ ∀ x H', J.yld i H x H' → g x (wipe σ vs) H' fun σ2 H2 => wipe σ2 vs = wipe σ vs ∧ tt σ2 H2 fun b H3 =>
        if b = true then te σ2 H3 fun y H4 => ∃ acc, H4 D = some (.lst acc) ∧ acc.length < sizeLine ∧ Nx (upd H4 D (.lst (acc ++ [y]))) else Nx H3) := by
  refine ⟨fun i m H => i + m = l.length ∧ E H1 H ∧ I i H ∧ ∃ ys, H D = some (.lst ys) ∧ Paired (fun z y => R z y H) ((l.take i).filter keep) ys, ⟨l.length, by omega, ev.put _ _ ev.rfl' (.inl hD), I0, [], upd_same, by rw [List.take_zero]; exact .nil⟩, ?_⟩
  rintro i m H ⟨hm, e1, hI, ys, hys, hp⟩
  by_cases hlt : i < l.length
  · obtain ⟨z, hz⟩ : ∃ z, l[i]? = some z := ⟨l[i], List.getElem?_eq_getElem hlt⟩
    have hft := filter_take keep l i z hz
    refine .inr ⟨w.go i H e1 hlt, fun H' => E H1 H' ∧ I (i + 1) H' ∧ ∃ ys', H' D = some (.lst ys') ∧ Paired (fun z y => R z y H') ((l.take (i + 1)).filter keep) ys', fun H' hN => ⟨m - 1, by omega, by omega, hN⟩, fun x H' hy => ?_⟩
    obtain ⟨e2, hY⟩ := w.yld i H x H' z e1 hy hz
    have e12 := ev.tr _ _ _ e1 e2
    refine step i z x H' _ _ hz e12 (Iyl i H x H' e1 hI hy) hY (fun y H4 hk e3 hI4 hR => ?_) fun H4 hk e3 hI4 => ?_
    · have e24 := ev.tr _ _ _ e2 e3
      have h4 : H4 D = some (.lst ys) := ev.kp _ _ _ e24 hys
      have tkD : TK H4 (upd H4 D (.lst (ys ++ [y]))) := .lst h4
      have hlen : ys.length ≤ l.length := by
        rw [← Paired.length hp]
        exact Nat.le_trans (List.length_filter_le _ _) (by rw [List.length_take]; omega)
      refine ⟨ys, h4, Nat.lt_of_le_of_lt (show ys.length ≤ 3000 by omega) (by decide), ev.put _ _ (ev.tr _ _ _ e12 e3) (.inr ⟨_, h4⟩), It _ _ _ _ h4 hI4, ys ++ [y], upd_same, ?_⟩
      rw [hft, if_pos hk]
      exact paired_snoc (Paired.mapP hp fun a b r => Rt _ _ _ _ ((ev.tk _ _ e24).trans tkD) r) (Rt _ _ _ _ tkD hR)
    · have e24 := ev.tr _ _ _ e2 e3
      refine ⟨ev.tr _ _ _ e12 e3, hI4, ys, ev.kp _ _ _ e24 hys, ?_⟩
      rw [hft, if_neg (by rw [hk]; exact Bool.false_ne_true), List.append_nil]
      exact Paired.mapP hp fun a b r => Rt _ _ _ _ (ev.tk _ _ e24) r
  · have hi : i = l.length := by omega
    subst hi
    rw [List.take_length] at hp
    exact .inl ⟨w.stop H e1, q H ys e1 hI hys hp⟩
/-- the common case: nothing but new objects -/
theorem lcE {α : Type} {J : It} {g : TG} {tt : TT} {te : TE} {vs : List Nat} {σ : L2.St} {H1 : Hp} {D : Addr} {Qd : Hp → Prop} (l : List α) {Y : α → V → Hp → Prop} (keep : α → Bool) (R : α → V → Hp → Prop)
    (hD : H1 D = none) (w : Wk Ex J H1 l Y) (hl : l.length ≤ 3000) (Rt : ∀ z y A B, TK A B → R z y A → R z y B)
    (step : ∀ z x H (Qk : V → Hp → Prop) (Qs : Hp → Prop), z ∈ l → Ex H1 H → Y z x H → (∀ y H4, keep z = true → Ex H H4 → R z y H4 → Qk y H4) → (∀ H4, keep z = false → Ex H H4 → Qs H4) →
      g x (wipe σ vs) H fun σ2 H2 => wipe σ2 vs = wipe σ vs ∧ tt σ2 H2 fun b H3 => if b = true then te σ2 H3 Qk else Qs H3)
    (q : ∀ H ys, Ex H1 H → H D = some (.lst ys) → Paired (fun z y => R z y H) (l.filter keep) ys → Qd H) :
    ∃ W : Nat → Nat → Hp → Prop, (∃ m, W 0 m (upd H1 D (.lst []))) ∧ ∀ i m H, W i m H →
      (J.stop i H ∧ Qd H) ∨ (J.go i H ∧ ∃ Nx : Hp → Prop, (∀ H', Nx H' → ∃ m', m' < m ∧ W (i + 1) m' H') ∧ ∀ x H', J.yld i H x H' → g x (wipe σ vs) H' fun σ2 H2 => wipe σ2 vs = wipe σ vs ∧ tt σ2 H2 fun b H3 =>
        if b = true then te σ2 H3 fun y H4 => ∃ acc, H4 D = some (.lst acc) ∧ acc.length < sizeLine ∧ Nx (upd H4 D (.lst (acc ++ [y]))) else Nx H3) :=
  lcG Ex (fun _ _ => True) l keep R (.ex hD) hD w hl Rt (fun _ _ _ _ _ _ => trivial) trivial
    (fun i z x H Qk Qs hz e _ hY k1 k2 => step z x H Qk Qs (List.mem_of_getElem? hz) e hY (fun y H4 a b c => k1 y H4 a b trivial c) fun H4 a b => k2 H4 a b trivial)
    (fun _ _ _ _ _ _ _ => trivial) fun H ys e _ a b => q H ys e a b
/-- a plain target, no test -/
theorem lcY {α : Type} {J : It} {te : TE} {vs : List Nat} {k : Nat} {σ : L2.St} {H1 : Hp} {D : Addr} {Qd : Hp → Prop} (l : List α) {Y : α → V → Hp → Prop} (R : α → V → Hp → Prop)
    (hD : H1 D = none) (w : Wk Ex J H1 l Y) (hl : l.length ≤ 3000) (Rt : ∀ z y A B, TK A B → R z y A → R z y B) (hw : ∀ x, wipe ((wipe σ vs).set k (some x)) vs = wipe σ vs)
    (step : ∀ z x H (Qk : V → Hp → Prop), z ∈ l → Ex H1 H → Y z x H → (∀ y H4, Ex H H4 → R z y H4 → Qk y H4) → te ((wipe σ vs).set k (some x)) H Qk)
    (q : ∀ H ys, Ex H1 H → H D = some (.lst ys) → Paired (fun z y => R z y H) l ys → Qd H) :
    ∃ W : Nat → Nat → Hp → Prop, (∃ m, W 0 m (upd H1 D (.lst []))) ∧ ∀ i m H, W i m H →
      (J.stop i H ∧ Qd H) ∨ (J.go i H ∧ ∃ Nx : Hp → Prop, (∀ H', Nx H' → ∃ m', m' < m ∧ W (i + 1) m' H') ∧ ∀ x H', J.yld i H x H' → gName k x (wipe σ vs) H' fun σ2 H2 => wipe σ2 vs = wipe σ vs ∧ tYes σ2 H2 fun b H3 =>
        if b = true then te σ2 H3 fun y H4 => ∃ acc, H4 D = some (.lst acc) ∧ acc.length < sizeLine ∧ Nx (upd H4 D (.lst (acc ++ [y]))) else Nx H3) :=
  lcE l (fun _ => true) R hD w hl Rt (fun z x H Qk Qs hz e hY k1 _ => by
    refine ⟨hw x, ?_⟩
    dsimp only [tYes]
    rw [if_pos rfl]
    exact step z x H Qk hz e hY fun y H4 => k1 y H4 rfl) fun H ys e a b => q H ys e a (by rw [List.filter_eq_self.mpr (fun _ _ => rfl)] at b; exact b)
/-- a plain target, a test -/
theorem lcT {α : Type} {J : It} {tt : TT} {te : TE} {vs : List Nat} {k : Nat} {σ : L2.St} {H1 : Hp} {D : Addr} {Qd : Hp → Prop} (l : List α) {Y : α → V → Hp → Prop} (keep : α → Bool) (R : α → V → Hp → Prop)
    (hD : H1 D = none) (w : Wk Ex J H1 l Y) (hl : l.length ≤ 3000) (Rt : ∀ z y A B, TK A B → R z y A → R z y B) (hw : ∀ x, wipe ((wipe σ vs).set k (some x)) vs = wipe σ vs)
    (step : ∀ z x H (Qk : V → Hp → Prop) (Qs : Hp → Prop), z ∈ l → Ex H1 H → Y z x H → (∀ y H4, keep z = true → Ex H H4 → R z y H4 → Qk y H4) → (∀ H4, keep z = false → Ex H H4 → Qs H4) →
      tt ((wipe σ vs).set k (some x)) H fun b H3 => if b = true then te ((wipe σ vs).set k (some x)) H3 Qk else Qs H3)
    (q : ∀ H ys, Ex H1 H → H D = some (.lst ys) → Paired (fun z y => R z y H) (l.filter keep) ys → Qd H) :
    ∃ W : Nat → Nat → Hp → Prop, (∃ m, W 0 m (upd H1 D (.lst []))) ∧ ∀ i m H, W i m H →
      (J.stop i H ∧ Qd H) ∨ (J.go i H ∧ ∃ Nx : Hp → Prop, (∀ H', Nx H' → ∃ m', m' < m ∧ W (i + 1) m' H') ∧ ∀ x H', J.yld i H x H' → gName k x (wipe σ vs) H' fun σ2 H2 => wipe σ2 vs = wipe σ vs ∧ tt σ2 H2 fun b H3 =>
        if b = true then te σ2 H3 fun y H4 => ∃ acc, H4 D = some (.lst acc) ∧ acc.length < sizeLine ∧ Nx (upd H4 D (.lst (acc ++ [y]))) else Nx H3) :=
  lcE l keep R hD w hl Rt (fun z x H Qk Qs hz e hY k1 k2 => ⟨hw x, step z x H Qk Qs hz e hY k1 k2⟩) q
/-- all pairs, the first by the first list -/
def prs {α β : Type} (l : List α) (l1 : List β) : List (α × β) := l.flatMap fun z => l1.map fun u => (z, u)
theorem prs_take {α β : Type} (l : List α) (l1 : List β) (i : Nat) (z : α) (h : l[i]? = some z) : prs (l.take (i + 1)) l1 = prs (l.take i) l1 ++ l1.map fun u => (z, u) := by
  unfold prs
  rw [List.take_add_one, h, List.flatMap_append]
  show _ ++ List.flatMap _ [z] = _
  rw [List.flatMap_cons, List.flatMap_nil, List.append_nil]
theorem prs_len {α β : Type} (l : List α) (l1 : List β) : (prs l l1).length = l.length * l1.length := by
  unfold prs
  induction l with
  | nil => simp
  | cons z r ih =>
    rw [List.flatMap_cons, List.length_append, List.length_map, ih, List.length_cons, Nat.add_mul, Nat.one_mul, Nat.add_comm]
theorem lcE2 {α β : Type} {J : It} {wi1 : TI} {tt1 : TT} {te : TE} {vs vs1 : List Nat} {i0 i1 : Nat} {σ : L2.St} {H1 : Hp} {D : Addr} {Qd : Hp → Prop} (l : List α) (l1 : List β) {Y : α → V → Prop} {Y1 : β → V → Prop} (keep : α × β → Bool) (R : α × β → V → Hp → Prop)
    (hD : H1 D = none) (w : Wk Ex J H1 l fun z x _ => Y z x) (hl : l.length * l1.length ≤ 3000) (Rt : ∀ z y A B, TK A B → R z y A → R z y B)
    (hw : ∀ x, wipe ((wipe σ vs).set i0 (some x)) vs = wipe σ vs) (hw1 : ∀ x x1, wipe ((wipe ((wipe σ vs).set i0 (some x)) vs1).set i1 (some x1)) vs1 = wipe ((wipe σ vs).set i0 (some x)) vs1)
    (inner : ∀ z x H (Rk : It → Hp → Prop), z ∈ l → Ex H1 H → Y z x → (∀ J1 H4, Ex H H4 → Wk0 (ExJ D) J1 H4 l1 Y1 → Rk J1 H4) → wi1 ((wipe σ vs).set i0 (some x)) H Rk)
    (step : ∀ z u x x1 H (Qk : V → Hp → Prop) (Qs : Hp → Prop), z ∈ l → u ∈ l1 → Ex H1 H → Y z x → Y1 u x1 → (∀ y H4, keep (z, u) = true → Ex H H4 → R (z, u) y H4 → Qk y H4) → (∀ H4, keep (z, u) = false → Ex H H4 → Qs H4) →
      tt1 ((wipe ((wipe σ vs).set i0 (some x)) vs1).set i1 (some x1)) H fun b H6 => if b = true then te ((wipe ((wipe σ vs).set i0 (some x)) vs1).set i1 (some x1)) H6 Qk else Qs H6)
    (q : ∀ H ys, Ex H1 H → H D = some (.lst ys) → Paired (fun z y => R z y H) ((prs l l1).filter keep) ys → Qd H) :
    ∃ W : Nat → Nat → Hp → Prop, (∃ m, W 0 m (upd H1 D (.lst []))) ∧ ∀ i m H, W i m H →
      (J.stop i H ∧ Qd H) ∨ (J.go i H ∧ ∃ Nx : Hp → Prop, (∀ H', Nx H' → ∃ m', m' < m ∧ W (i + 1) m' H') ∧ ∀ x H', J.yld i H x H' → gName i0 x (wipe σ vs) H' fun σ2 H2 => wipe σ2 vs = wipe σ vs ∧ tYes σ2 H2 fun b H3 =>
        if b = true then wi1 σ2 H3 fun J1 H4 => ∃ W1 : Nat → Nat → Hp → Prop, (∃ m, W1 0 m H4) ∧ ∀ j k H, W1 j k H →
          (J1.stop j H ∧ Nx H) ∨ (J1.go j H ∧ ∃ Nx1 : Hp → Prop, (∀ H', Nx1 H' → ∃ k', k' < k ∧ W1 (j + 1) k' H') ∧ ∀ x H', J1.yld j H x H' → gName i1 x (wipe σ2 vs1) H' fun σ3 H5 => wipe σ3 vs1 = wipe σ2 vs1 ∧ tt1 σ3 H5 fun b H6 =>
            if b = true then te σ3 H6 fun y H7 => ∃ acc, H7 D = some (.lst acc) ∧ acc.length < sizeLine ∧ Nx1 (upd H7 D (.lst (acc ++ [y]))) else Nx1 H6)
        else Nx H3) := by
  have sm : ∀ {n : Nat}, n ≤ 3000 → n < sizeLine := fun {n} h => Nat.lt_of_le_of_lt h (by decide)
  refine ⟨fun i m H => i + m = l.length ∧ Ex H1 H ∧ ∃ ys, H D = some (.lst ys) ∧ Paired (fun z y => R z y H) ((prs (l.take i) l1).filter keep) ys, ⟨l.length, by omega, Ex.new hD, [], upd_same, by rw [List.take_zero]; exact .nil⟩, ?_⟩
  rintro i m H ⟨hm, e1, ys, hys, hp⟩
  by_cases hlt : i < l.length
  · obtain ⟨z, hz⟩ : ∃ z, l[i]? = some z := ⟨l[i], List.getElem?_eq_getElem hlt⟩
    refine .inr ⟨w.go i H e1 hlt, fun H' => Ex H1 H' ∧ ∃ ys', H' D = some (.lst ys') ∧ Paired (fun z y => R z y H') ((prs (l.take (i + 1)) l1).filter keep) ys', fun H' hN => ⟨m - 1, by omega, by omega, hN⟩, fun x H' hy => ?_⟩
    obtain ⟨e2, hY⟩ := w.yld i H x H' z e1 hy hz
    have e12 := e1.trans e2
    refine ⟨hw x, ?_⟩
    dsimp only [tYes]
    rw [if_pos rfl]
    refine inner z x H' _ (List.mem_of_getElem? hz) e12 hY fun J1 H4 e3 w1 => ?_
    have e24 := e2.trans e3
    refine ⟨fun j k H => j + k = l1.length ∧ ExJ D H4 H ∧ Ex H1 H ∧ ∃ ys', H D = some (.lst ys') ∧ Paired (fun z y => R z y H) ((prs (l.take i) l1 ++ (l1.take j).map fun u => (z, u)).filter keep) ys',
      ⟨l1.length, by omega, .refl _, e12.trans e3, ys, e24.lst hys, by rw [List.take_zero, List.map_nil, List.append_nil]; exact Paired.mapP hp fun a b r => Rt _ _ _ _ e24.tk r⟩, ?_⟩
    rintro j k H5 ⟨hk, e5, e15, ys5, hys5, hp5⟩
    by_cases hlt5 : j < l1.length
    · obtain ⟨u, hu⟩ : ∃ u, l1[j]? = some u := ⟨l1[j], List.getElem?_eq_getElem hlt5⟩
      have htk : prs (l.take i) l1 ++ (l1.take (j + 1)).map (fun u => (z, u)) = (prs (l.take i) l1 ++ (l1.take j).map fun u => (z, u)) ++ [(z, u)] := by
        rw [List.take_add_one, hu, List.map_append, List.append_assoc]
        rfl
      refine .inr ⟨w1.go j H5 e5 hlt5, fun H' => ExJ D H4 H' ∧ Ex H1 H' ∧ ∃ ys', H' D = some (.lst ys') ∧ Paired (fun z y => R z y H') ((prs (l.take i) l1 ++ (l1.take (j + 1)).map fun u => (z, u)).filter keep) ys', fun H' hN => ⟨k - 1, by omega, by omega, hN⟩, fun x1 H6 hy1 => ?_⟩
      obtain ⟨rfl, hY1⟩ := w1.yld j H5 x1 H6 u e5 hy1 hu
      refine ⟨hw1 x x1, ?_⟩
      refine step z u x x1 H6 _ _ (List.mem_of_getElem? hz) (List.mem_of_getElem? hu) e15 hY hY1 (fun y H7 hkp e7 hR => ?_) fun H7 hkp e7 => ?_
      · have h7 : H7 D = some (.lst ys5) := e7.lst hys5
        have tkD : TK H7 (upd H7 D (.lst (ys5 ++ [y]))) := .lst h7
        have h4n : H4 D = some (.lst ys) := e24.lst hys
        have hlen : ys5.length ≤ l.length * l1.length := by
          rw [← Paired.length hp5, ← prs_len l l1]
          refine Nat.le_trans (List.length_filter_le _ _) ?_
          have q1 : prs (l.take (i + 1)) l1 = prs (l.take i) l1 ++ l1.map fun u => (z, u) := prs_take l l1 i z hz
          have q2 : (prs (l.take i) l1 ++ (l1.take j).map fun u => (z, u)).length ≤ (prs (l.take (i + 1)) l1).length := by
            rw [q1, List.length_append, List.length_append, List.length_map, List.length_map, List.length_take]
            omega
          refine Nat.le_trans q2 ?_
          rw [prs_len, prs_len, List.length_take]
          exact Nat.mul_le_mul_right _ (Nat.min_le_right _ _)
        refine ⟨ys5, h7, sm (by omega), e5.trans ((e7.toJ).trans (.store h7)), (e15.trans e7).put (.of hD) (noCode_lst h7), ys5 ++ [y], upd_same, ?_⟩
        · rw [htk, List.filter_append, List.filter_cons, List.filter_nil, if_pos hkp]
          exact paired_snoc (Paired.mapP hp5 fun a b r => Rt _ _ _ _ (e7.tk.trans tkD) r) (Rt _ _ _ _ tkD hR)
      · refine ⟨e5.trans e7.toJ, e15.trans e7, ys5, e7.lst hys5, ?_⟩
        rw [htk, List.filter_append, List.filter_cons, List.filter_nil, if_neg (by rw [hkp]; exact Bool.false_ne_true), List.append_nil]
        exact Paired.mapP hp5 fun a b r => Rt _ _ _ _ e7.tk r
    · have hj : j = l1.length := by omega
      subst hj
      refine .inl ⟨w1.stop H5 e5, e15, ys5, hys5, ?_⟩
      rw [prs_take l l1 i z hz]
      rw [List.take_length] at hp5
      exact hp5
  · have hi : i = l.length := by omega
    subst hi
    rw [List.take_length] at hp
    exact .inl ⟨w.stop H e1, q H ys e1 hys hp⟩
/-! ### what is walked -/
theorem w0_list {K : PySem.W.Frag} {H1 : Hp} {a : Addr} {xs : List V} {E : Hp → Hp → Prop} (hE : ∀ H, E H1 H → SqL K H a xs) : Wk0 E (Itl K a) H1 xs fun z x => x = z where
  go := fun i H e hi => ⟨xs, xs[i], hE H e, List.getElem?_eq_getElem hi⟩
  yld := fun i H x H' z e hy hz => by
    obtain ⟨rfl, f⟩ := hy
    exact ⟨rfl, Option.some.inj ((f xs (hE _ e)).symm.trans hz)⟩
  stop := fun H e => ⟨xs, hE H e, Nat.le_refl _⟩
theorem w0_tup {K : PySem.W.Frag} {H1 : Hp} {a : Addr} {xs : List V} {E : Hp → Hp → Prop} (hE : ∀ H, E H1 H → SqT K H a xs) : Wk0 E (Itt K a) H1 xs fun z x => x = z where
  go := fun i H e hi => ⟨xs, xs[i], hE H e, List.getElem?_eq_getElem hi⟩
  yld := fun i H x H' z e hy hz => by
    obtain ⟨rfl, f⟩ := hy
    exact ⟨rfl, Option.some.inj ((f xs (hE _ e)).symm.trans hz)⟩
  stop := fun H e => ⟨xs, hE H e, Nat.le_refl _⟩
theorem w0_range {H1 : Hp} (n : Nat) (E : Hp → Hp → Prop) : Wk0 E (Itr 0 n) H1 (List.range n) fun z x => x = .int (z : Nat) where
  go := fun i H _ hi => by
    rw [List.length_range] at hi
    exact hi
  yld := fun i H x H' z _ hy hz => by
    obtain ⟨rfl, f⟩ := hy
    obtain ⟨h1, h2⟩ := List.getElem?_eq_some_iff.mp hz
    rw [List.getElem_range] at h2
    subst h2
    exact ⟨rfl, by rw [f, Int.zero_add]⟩
  stop := fun H _ => by
    rw [List.length_range]
    exact Nat.le_refl n
theorem Wk0.wk {α : Type} {E : Hp → Hp → Prop} {J : It} {H1 : Hp} {l : List α} {Y : α → V → Prop} (w : Wk0 E J H1 l Y) (hr : ∀ H, E H H) : Wk E J H1 l fun z x _ => Y z x where
  go := w.go
  yld := fun i H x H' z e hy hz => by
    obtain ⟨rfl, q⟩ := w.yld i H x H' z e hy hz
    exact ⟨hr _, q⟩
  stop := w.stop
/-- zip of two tuples of one length: new pairs -/
theorem wk_zip {K : PySem.W.Frag} {H1 : Hp} {a b : Addr} {α : Type} {l : List α} {p q : α → V} (ha : SqT K H1 a (l.map p)) (hb : SqT K H1 b (l.map q)) :
    Wk Ex (RZ.ItzT K a b) H1 l fun z x H => ∃ t, x = .ref t ∧ H t = some (.tup [p z, q z]) where
  go := fun i H e hi => ⟨_, _, p l[i], q l[i], SqT.ex e ha, SqT.ex e hb, by rw [List.getElem?_map, List.getElem?_eq_getElem hi]; rfl, by rw [List.getElem?_map, List.getElem?_eq_getElem hi]; rfl⟩
  yld := fun i H x H' z e hy hz => by
    obtain ⟨T, u, v, rfl, nT, rfl, f1, f2⟩ := hy
    have e1 : p z = u := by
      have g := f1 _ (SqT.ex e ha)
      rw [List.getElem?_map, hz] at g
      exact Option.some.inj g
    have e2 : q z = v := by
      have g := f2 _ (SqT.ex e hb)
      rw [List.getElem?_map, hz] at g
      exact Option.some.inj g
    subst e1 e2
    exact ⟨.new nT, T, rfl, upd_same⟩
  stop := fun H e => ⟨_, _, SqT.ex e ha, SqT.ex e hb, .inl (by rw [List.length_map]; exact Nat.le_refl _)⟩
/-- a target of two names, no test; the items are pairs -/
theorem lcY2 {K : PySem.W.Frag} {α : Type} {J : It} {te : TE} {vs : List Nat} {k j : Nat} {σ : L2.St} {H1 : Hp} {D : Addr} {Qd : Hp → Prop} (l : List α) (p q : α → V) (R : α → V → Hp → Prop)
    (hD : H1 D = none) (w : Wk Ex J H1 l fun z x H => ∃ t, x = .ref t ∧ H t = some (.tup [p z, q z])) (hl : l.length ≤ 3000) (Rt : ∀ z y A B, TK A B → R z y A → R z y B) (hw : ∀ x y, wipe (((wipe σ vs).set k (some x)).set j (some y)) vs = wipe σ vs)
    (step : ∀ z H (Qk : V → Hp → Prop), z ∈ l → Ex H1 H → (∀ y H4, Ex H H4 → R z y H4 → Qk y H4) → te (((wipe σ vs).set k (some (p z))).set j (some (q z))) H Qk)
    (fin : ∀ H ys, Ex H1 H → H D = some (.lst ys) → Paired (fun z y => R z y H) l ys → Qd H) :
    ∃ W : Nat → Nat → Hp → Prop, (∃ m, W 0 m (upd H1 D (.lst []))) ∧ ∀ i m H, W i m H →
      (J.stop i H ∧ Qd H) ∨ (J.go i H ∧ ∃ Nx : Hp → Prop, (∀ H', Nx H' → ∃ m', m' < m ∧ W (i + 1) m' H') ∧ ∀ x H', J.yld i H x H' → gTup K 2 (gCons (gName k) (gCons (gName j) gNil)) x (wipe σ vs) H' fun σ2 H2 => wipe σ2 vs = wipe σ vs ∧ tYes σ2 H2 fun b H3 =>
        if b = true then te σ2 H3 fun y H4 => ∃ acc, H4 D = some (.lst acc) ∧ acc.length < sizeLine ∧ Nx (upd H4 D (.lst (acc ++ [y]))) else Nx H3) :=
  lcE l (fun _ => true) R hD w hl Rt (fun z x H Qk Qs hz e hY k1 _ => by
    obtain ⟨t, rfl, ht⟩ := hY
    refine ⟨t, _, rfl, SqT.of ht, rfl, _, _, rfl, _, _, rfl, rfl, hw _ _, ?_⟩
    dsimp only [tYes]
    rw [if_pos rfl]
    exact step z H Qk hz e fun y H4 => k1 y H4 rfl) fun H ys e a b => fin H ys e a (by rw [List.filter_eq_self.mpr (fun _ _ => rfl)] at b; exact b)
/-- .. a test -/
theorem lcT2 {K : PySem.W.Frag} {α : Type} {J : It} {tt : TT} {te : TE} {vs : List Nat} {k j : Nat} {σ : L2.St} {H1 : Hp} {D : Addr} {Qd : Hp → Prop} (l : List α) (p q : α → V) (keep : α → Bool) (R : α → V → Hp → Prop)
    (hD : H1 D = none) (w : Wk Ex J H1 l fun z x H => ∃ t, x = .ref t ∧ H t = some (.tup [p z, q z])) (hl : l.length ≤ 3000) (Rt : ∀ z y A B, TK A B → R z y A → R z y B) (hw : ∀ x y, wipe (((wipe σ vs).set k (some x)).set j (some y)) vs = wipe σ vs)
    (step : ∀ z H (Qk : V → Hp → Prop) (Qs : Hp → Prop), z ∈ l → Ex H1 H → (∀ y H4, keep z = true → Ex H H4 → R z y H4 → Qk y H4) → (∀ H4, keep z = false → Ex H H4 → Qs H4) →
      tt (((wipe σ vs).set k (some (p z))).set j (some (q z))) H fun b H3 => if b = true then te (((wipe σ vs).set k (some (p z))).set j (some (q z))) H3 Qk else Qs H3)
    (fin : ∀ H ys, Ex H1 H → H D = some (.lst ys) → Paired (fun z y => R z y H) (l.filter keep) ys → Qd H) :
    ∃ W : Nat → Nat → Hp → Prop, (∃ m, W 0 m (upd H1 D (.lst []))) ∧ ∀ i m H, W i m H →
      (J.stop i H ∧ Qd H) ∨ (J.go i H ∧ ∃ Nx : Hp → Prop, (∀ H', Nx H' → ∃ m', m' < m ∧ W (i + 1) m' H') ∧ ∀ x H', J.yld i H x H' → gTup K 2 (gCons (gName k) (gCons (gName j) gNil)) x (wipe σ vs) H' fun σ2 H2 => wipe σ2 vs = wipe σ vs ∧ tt σ2 H2 fun b H3 =>
        if b = true then te σ2 H3 fun y H4 => ∃ acc, H4 D = some (.lst acc) ∧ acc.length < sizeLine ∧ Nx (upd H4 D (.lst (acc ++ [y]))) else Nx H3) :=
  lcE l keep R hD w hl Rt (fun z x H Qk Qs hz e hY k1 k2 => by
    obtain ⟨t, rfl, ht⟩ := hY
    exact ⟨t, _, rfl, SqT.of ht, rfl, _, _, rfl, _, _, rfl, rfl, hw _ _, step z H Qk Qs hz e k1 k2⟩) fin
/-- a list whose items are pairs that stand -/
theorem wk_pairs {K : PySem.W.Frag} {H1 : Hp} {a : Addr} {α : Type} {l : List α} {p q : α → V} {xs : List V} (ha : SqL K H1 a xs) (hp : Paired (fun z x => ∃ t, x = .ref t ∧ H1 t = some (.tup [p z, q z])) l xs) :
    Wk Ex (Itl K a) H1 l fun z x H => ∃ t, x = .ref t ∧ H t = some (.tup [p z, q z]) where
  go := fun i H e hi => ⟨xs, xs[i]'(by rw [← Paired.length hp]; exact hi), SqL.ex e ha, List.getElem?_eq_getElem _⟩
  yld := fun i H x H' z e hy hz => by
    obtain ⟨rfl, f⟩ := hy
    obtain ⟨y, hy', t, rfl, ht⟩ := LiI.paired_get hp hz
    have q := f xs (SqL.ex e ha)
    rw [hy'] at q
    cases q
    exact ⟨.refl _, t, rfl, e.tup ht⟩
  stop := fun H e => ⟨xs, SqL.ex e ha, by rw [Paired.length hp]; exact Nat.le_refl _⟩
theorem paired_zip {α β : Type} {F : α → β → Prop} : ∀ {l : List α} {ys : List β}, Paired F l ys → ∃ zs : List (α × β), zs.map Prod.fst = l ∧ zs.map Prod.snd = ys ∧ ∀ z ∈ zs, F z.1 z.2
  | _, _, .nil => ⟨[], rfl, rfl, fun _ h => by cases h⟩
  | x :: _, y :: _, .cons r t => by
    obtain ⟨zs, e1, e2, h⟩ := paired_zip t
    refine ⟨(x, y) :: zs, by rw [List.map_cons, e1], by rw [List.map_cons, e2], fun z hz => ?_⟩
    rcases List.mem_cons.mp hz with e | hz
    · rw [e]
      exact r
    · exact h z hz
theorem paired_of {α β : Type} {F : α → β → Prop} : ∀ (zs : List (α × β)), (∀ z ∈ zs, F z.1 z.2) → Paired F (zs.map Prod.fst) (zs.map Prod.snd)
  | [], _ => .nil
  | z :: r, h => .cons (h z List.mem_cons_self) (paired_of r fun u hu => h u (List.mem_cons_of_mem _ hu))
theorem paired_gl {α β γ : Type} {F : γ → β → Prop} {g : α → γ} : ∀ {l : List α} {ys : List β}, Paired (fun z y => F (g z) y) l ys → Paired F (l.map g) ys
  | _, _, .nil => .nil
  | _, _, .cons r t => .cons r (paired_gl t)
theorem prs_map {α β γ δ : Type} (f : α → γ) (g : γ × β → δ) (l : List α) (l1 : List β) : (prs l l1).map (fun z => g (f z.1, z.2)) = (prs (l.map f) l1).map g := by
  unfold prs
  induction l with
  | nil => rfl
  | cons z r ih =>
    rw [List.flatMap_cons, List.map_append, List.map_cons, List.flatMap_cons, List.map_append, ih, List.map_map, List.map_map]
    rfl
theorem w0_listP {K : PySem.W.Frag} {H1 : Hp} {a : Addr} {α : Type} {l : List α} {p : α → V} {E : Hp → Hp → Prop} (hE : ∀ H, E H1 H → SqL K H a (l.map p)) : Wk0 E (Itl K a) H1 l fun z x => x = p z where
  go := fun i H e hi => ⟨_, p l[i], hE H e, by rw [List.getElem?_map, List.getElem?_eq_getElem hi]; rfl⟩
  yld := fun i H x H' z e hy hz => by
    obtain ⟨rfl, f⟩ := hy
    have g := f _ (hE _ e)
    rw [List.getElem?_map, hz] at g
    exact ⟨rfl, (Option.some.inj g).symm⟩
  stop := fun H e => ⟨_, hE H e, by rw [List.length_map]; exact Nat.le_refl _⟩
theorem w0_tupP {K : PySem.W.Frag} {H1 : Hp} {a : Addr} {α : Type} {l : List α} {p : α → V} {E : Hp → Hp → Prop} (hE : ∀ H, E H1 H → SqT K H a (l.map p)) : Wk0 E (Itt K a) H1 l fun z x => x = p z where
  go := fun i H e hi => ⟨_, p l[i], hE H e, by rw [List.getElem?_map, List.getElem?_eq_getElem hi]; rfl⟩
  yld := fun i H x H' z e hy hz => by
    obtain ⟨rfl, f⟩ := hy
    have g := f _ (hE _ e)
    rw [List.getElem?_map, hz] at g
    exact ⟨rfl, (Option.some.inj g).symm⟩
  stop := fun H e => ⟨_, hE H e, by rw [List.length_map]; exact Nat.le_refl _⟩
end Hw
/-! words and sets: is_integer, is_from, is_part, Space -/
namespace Hw
open PySem PySem.Spec PyProof.Rows L2
/-- the built-in names that nothing of the top hides -/
structure Free (mg : Str → Option Value) : Prop where
  isi : mg "isinstance" = none
  int : mg "int" = none
  bool : mg "bool" = none
  len : mg "len" = none
  all : mg "all" = none
  range : mg "range" = none
  zip : mg "zip" = none
  tuple : mg "tuple" = none
  sorted : mg "sorted" = none
  list : mg "list" = none
  dict : mg "dict" = none
  sum : mg "sum" = none
  set : mg "set" = none
  max : mg "max" = none
  min : mg "min" = none
  abs : mg "abs" = none
  repr : mg "repr" = none
section
variable {P : Program} {w : World} {K : PySem.W.Frag} {mg : Str → Option Value} {base : Heap}
/-! ### is_integer -/
abbrev sIsInt : Stmt := topS 2
theorem scIsInt : FnScope ["value"] ["value"] (defScope sIsInt) := ⟨rfl, rfl, rfl, by decide +kernel, rfl, by decide +kernel, by decide +kernel⟩
/-- the types that the values of a spoilt making have -/
def tyN : V → String
  | .non => "NoneType" | .bl _ => "bool" | .int _ => "int" | .str _ => "str" | .byt _ => "bytes" | .flt _ => "float" | .ref _ => "object" | .ty _ => "type"
def isInt : V → Bool
  | .int _ => true
  | _ => false
/-- a value whose type is known: a plain one, or a tuple, a list, a dict that stands -/
inductive Kn (K : PySem.W.Frag) (H : Hp) : V → String → Prop where
  | non : Kn K H .non "NoneType"
  | bl (b : Bool) : Kn K H (.bl b) "bool"
  | int (i : Int) : Kn K H (.int i) "int"
  | str (x : Str) : Kn K H (.str x) "str"
  | tup {a : Addr} {xs : List V} (h : H a = some (.tup xs)) : Kn K H (.ref a) "tuple"
  | lst {a : Addr} {xs : List V} (h : H a = some (.lst xs)) : Kn K H (.ref a) "list"
theorem Kn.ty {H : Hp} {v : V} {T : String} (h : Kn K H v T) : TyX K H v (.type T) := by
  cases h with
  | non => exact .base .non
  | bl b => exact .base (.bl b)
  | int i => exact .base (.int i)
  | str x => exact .base (.str x)
  | tup h => exact .base (.tup h)
  | lst h => exact .base (.lst h)
theorem Kn.int_ans {H : Hp} {v : V} {T : String} (h : Kn K H v T) : kitB T "int" = some (T == "int" || T == "bool") := by
  cases h <;> decide +kernel
theorem Kn.bool_ans {H : Hp} {v : V} {T : String} (h : Kn K H v T) : kitB T "bool" = some (T == "bool") := by
  cases h <;> decide +kernel
theorem Kn.tuple_ans {H : Hp} {v : V} {T : String} (h : Kn K H v T) : kitB T "tuple" = some (T == "tuple") := by
  cases h <;> decide +kernel
theorem Kn.isInt {H : Hp} {v : V} {T : String} (h : Kn K H v T) : ((T == "int" || T == "bool") && !(T == "bool")) = Hw.isInt v := by
  cases h <;> rfl
theorem kn_dict {H : Hp} {v : V} {T : String} (h : Kn K H v T) : kitB T "dict" = some false := by
  cases h <;> decide +kernel
def spIsInt (K : PySem.W.Frag) : Sp := fun vs H Q _ => ∃ v T, vs = [v] ∧ Kn K H v T ∧ Q (.bl (isInt v)) H
theorem ok_isInt {f : Addr} {fd : FuncData} {k : Nat} (F : Fun K "is_integer" "is_integer" sIsInt f fd) (Z : Free mg) : FnOk P w K mg base CX0 (k + 1) f fd ["value"] (spIsInt K) := by
  refine F.ok scIsInt (fun vs H Q E h => ?_) (fun cdv A outer s H vs Q E hr h => ?_)
  · obtain ⟨v, T, rfl, _⟩ := h
    rfl
  · obtain ⟨v, T, rfl, hk, q⟩ := h
    refine ⟨_, pss_one (ps_ret (pe_and (pe_callB call_isi (by rfl) Z.isi B.isi (pa_cons (pv 0) (pa_cons (pe_bltn (v := .ty "int") (by rfl) Z.int B.int rfl) pa_nil)))
      (pe_one (pe_not (pe_callB call_isi (by rfl) Z.isi B.isi (pa_cons (pv 0) (pa_cons (pe_bltn (v := .ty "bool") (by rfl) Z.bool B.bool rfl) pa_nil))))))), ?_⟩
    refine ⟨v, rfl, v, _, _, _, _, rfl, .ty _, hk.ty, kit_ty hk.int_ans, _, rfl, ?_⟩
    have e := hk.isInt
    cases c : (T == "int" || T == "bool") with
    | false =>
      rw [c] at e
      exact iteF (by rw [show Hw.isInt v = false from e.symm] at q; exact q)
    | true =>
      rw [c] at e
      refine iteT ⟨v, rfl, v, _, _, _, _, rfl, .ty _, hk.ty, kit_ty hk.bool_ans, _, rfl, ?_⟩
      rw [← e] at q
      exact q
/-! ### is_from -/
abbrev sFrom : Stmt := topS 3
theorem scFrom : FnScope ["value", "first", "last"] ["value", "first", "last"] (defScope sFrom) := ⟨rfl, rfl, rfl, by decide +kernel, rfl, by decide +kernel, by decide +kernel⟩
def inRng (v : V) (a b : Int) : Bool := match v with
  | .int i => decide (a ≤ i) && decide (i ≤ b)
  | _ => false
def spFrom (K : PySem.W.Frag) : Sp := fun vs H Q _ => ∃ v T a b, vs = [v, .int a, .int b] ∧ Kn K H v T ∧ Q (.bl (inRng v a b)) H
theorem ok_from {f : Addr} {fd : FuncData} {k : Nat} (F : Fun K "is_from" "is_from" sFrom f fd) (c : Ca P w K mg base CX0 k "is_integer" ["value"] (spIsInt K)) : FnOk P w K mg base CX0 (k + 1) f fd ["value", "first", "last"] (spFrom K) := by
  refine F.ok scFrom (fun vs H Q E h => ?_) (fun cdv A outer s H vs Q E hr h => ?_)
  · obtain ⟨v, T, a, b, rfl, _⟩ := h
    rfl
  · obtain ⟨v, T, a, b, rfl, hk, q⟩ := h
    refine ⟨_, pss_one (ps_ret (pe_and (pe_ca c hr (by rfl) pass0 (pa_cons (pv 0) pa_nil)) (pe_one (pe_chain op_le op_le (pv 1) (pv 0) (pv 2))))), ?_⟩
    refine ⟨v, rfl, v, T, rfl, hk, _, rfl, ?_⟩
    cases v with
    | int i =>
      refine iteT ⟨_, rfl, _, rfl, a, i, rfl, rfl, _, rfl, ?_⟩
      have e : inRng (.int i) a b = (decide (a ≤ i) && decide (i ≤ b)) := rfl
      cases d : decide (a ≤ i) with
      | false => exact iteF (by rw [e, d] at q; exact q)
      | true =>
        rw [e, d] at q
        exact iteT ⟨_, rfl, i, b, rfl, rfl, q⟩
    | _ => exact iteF q
/-! ### is_part -/
abbrev sPart : Stmt := topS 12
theorem scPart : FnScope ["one", "other"] ["one", "other"] (defScope sPart) := ⟨rfl, rfl, rfl, by decide +kernel, rfl, by decide +kernel, by decide +kernel⟩
/-- a set is within another one -/
def sub (a b : Int) : Bool := decide (Builtin.bitOr a b = b)
def spPart : Sp := fun vs H Q _ => ∃ a b : Int, vs = [.int a, .int b] ∧ Q (.bl (sub a b)) H
theorem ok_part {f : Addr} {fd : FuncData} {k : Nat} (F : Fun K "is_part" "is_part" sPart f fd) : FnOk P w K mg base CX0 (k + 1) f fd ["one", "other"] spPart := by
  refine F.ok scPart (fun vs H Q E h => ?_) (fun cdv A outer s H vs Q E hr h => ?_)
  · obtain ⟨a, b, rfl, _⟩ := h
    rfl
  · obtain ⟨a, b, rfl, q⟩ := h
    refine ⟨_, pss_one (ps_ret (pe_cmpR op_eq (pe_op op_or (pv 0) (pv 1)) (pv 1) (nomark _))), ?_⟩
    refine ⟨_, rfl, _, rfl, a, b, rfl, rfl, _, rfl, rfl, ?_⟩
    have e : decide (V.int (Builtin.bitOr a b) = V.int b) = sub a b := by
      unfold sub
      by_cases h : Builtin.bitOr a b = b
      · rw [decide_eq_true h, decide_eq_true (congrArg V.int h)]
      · rw [decide_eq_false h, decide_eq_false fun z => h (V.int.inj z)]
    show Q (.bl (decide (V.int (Builtin.bitOr a b) = V.int b))) H
    rw [e]
    exact q
end
end Hw
/-! the class Space -/
namespace Hw
open PySem PySem.Spec PyProof.Rows L2
abbrev mS (j : Nat) : Stmt := inClass (topS 14) j
/-- the number of sets -/
def pw2 (n : Int) : Int := if n = 1 then 2 else 4
/-- a space's attributes -/
def spF (n : Int) : List (Str × V) := [("own_modes", .int n), ("own_many", .int (pw2 n)), ("own_full", .int (pw2 n - 1))]
def N12 (n : Int) : Prop := n = 1 ∨ n = 2
theorem spF_modes (n : Int) : (spF n).lookup ("own_modes" : Str) = some (.int n) := rfl
theorem spF_many (n : Int) : (spF n).lookup ("own_many" : Str) = some (.int (pw2 n)) := rfl
theorem spF_full (n : Int) : (spF n).lookup ("own_full" : Str) = some (.int (pw2 n - 1)) := rfl
/-- what the top has of the class and of the tables of numbers -/
structure SpT (K : PySem.W.Frag) (mg : Str → Option Value) (C : Addr) : Prop where
  cl : Cls K C
  nM : NoAttr K C "own_modes"
  nY : NoAttr K C "own_many"
  nF : NoAttr K C "own_full"
  mgC : mg "Space" = some (.ref C)
  bits : ∃ a : Addr, mg "BITS" = some (.ref a) ∧ ∀ H : Hp, SqT K H a [.int 1, .int 2, .int 4, .int 8]
  mx : ∃ t, mg "MAX_MODES" = some (.int 3 t)
  mm : ∃ t, mg "MAX_MAKING_MODES" = some (.int 2 t)
def SpaceAt (C : Addr) (H : Hp) (a : Addr) (n : Int) : Prop := ∃ dx, H a = some (.ins C dx (spF n))
section
variable {P : Program} {w : World} {K : PySem.W.Frag} {mg : Str → Option Value} {base : Heap} {C : Addr}
theorem ix_bits {n : Int} (h : N12 n) : atI ([.int 1, .int 2, .int 4, .int 8] : List V) n = some (.int (pw2 n)) := by
  rcases h with rfl | rfl <;> rfl
/-! ### __init__ -/
theorem scInit : FnScope ["self", "modes"] ["self", "modes"] (defScope (mS 0)) := ⟨rfl, rfl, rfl, by decide +kernel, rfl, by decide +kernel, by decide +kernel⟩
def spInit (C : Addr) : Sp := fun vs H Q _ => ∃ p dx n, vs = [.ref p, .int n] ∧ N12 n ∧ H p = some (.ins C dx []) ∧ Q .non (upd H p (.ins C dx (spF n)))
theorem ok_init {f : Addr} {fd : FuncData} {k : Nat} (F : Fun K "__init__" "Space.__init__" (mS 0) f fd) (T : SpT K mg C) (c : Ca P w K mg base CX0 k "is_from" ["value", "first", "last"] (spFrom K)) :
    FnOk P w K mg base CX0 (k + 1) f fd ["self", "modes"] (spInit C) := by
  obtain ⟨t, hmx⟩ := T.mx
  obtain ⟨aB, hB, hBs⟩ := T.bits
  refine F.ok scInit (fun vs H Q E h => ?_) (fun cdv A outer s H vs Q E hr h => ?_)
  · obtain ⟨p, dx, n, rfl, _⟩ := h
    rfl
  · obtain ⟨p, dx, n, rfl, hn, hp, q⟩ := h
    refine ⟨_, pss_cons (ps_if (pt_not (pt_val (pe_ca c hr (by rfl) pass0 (pa_cons (pv 1) (pa_cons pe_int (pa_cons (pe_glob (v := .int 3) (by rfl) hmx ⟨_, rfl⟩) pa_nil)))))) (pss_one ps_never) pss_nil)
      (pss_cons (ps_fld (pv 0) (pv 1) rfl) (pss_cons (ps_fld (pv 0) (pe_ix ix_tup (pe_glob (v := .ref aB) (by rfl) hB rfl) (pv 1) (fun _ _ => rfl)) rfl)
        (pss_one (ps_fld (pv 0) (pe_op op_sub (pe_ix ix_tup (pe_glob (v := .ref aB) (by rfl) hB rfl) (pv 1) (fun _ _ => rfl)) pe_int) rfl)))), ?_⟩
    have e : inRng (.int n) 1 3 = true := by rcases hn with rfl | rfl <;> rfl
    refine ⟨_, rfl, _, _, _, _, rfl, .int n, true, by rw [e], iteF ?_⟩
    refine ⟨_, rfl, _, rfl, p, C, dx, [], rfl, hp, T.cl, T.nM, by decide, ?_⟩
    refine ⟨_, rfl, aB, _, n, _, rfl, rfl, hBs _, ix_bits hn, _, rfl, p, C, dx, _, rfl, upd_same, T.cl, T.nY, by show 1 < 1000; decide, ?_⟩
    refine ⟨_, rfl, aB, _, n, _, rfl, rfl, hBs _, ix_bits hn, _, _, rfl, rfl, _, rfl, p, C, dx, _, rfl, upd_same, T.cl, T.nF, by show 2 < 1000; decide, ?_⟩
    rw [upd_upd, upd_upd]
    exact q
/-! ### never, always -/
theorem scSelf5 : FnScope ["self"] ["self"] (defScope (mS 5)) := ⟨rfl, rfl, rfl, by decide +kernel, rfl, by decide +kernel, by decide +kernel⟩
theorem scSelf6 : FnScope ["self"] ["self"] (defScope (mS 6)) := ⟨rfl, rfl, rfl, by decide +kernel, rfl, by decide +kernel, by decide +kernel⟩
/-- the map that has v for each set -/
def constM (n v : Int) : List Int := List.replicate (pw2 n).toNat v
theorem rep1 (x : V) : ∀ k : Nat, (List.replicate k [x]).flatten = List.replicate k x
  | 0 => rfl
  | k + 1 => by
    rw [List.replicate_succ, List.flatten_cons, rep1 x k, List.replicate_succ]
    rfl
theorem constM_map (n v : Int) : (constM n v).map V.int = (List.replicate (pw2 n).toNat [V.int v]).flatten := by
  rw [rep1]
  unfold constM
  rw [List.map_replicate]
def spConst (C : Addr) (f : Int → Int) : Sp := fun vs H Q _ => ∃ a n, vs = [.ref a] ∧ N12 n ∧ SpaceAt C H a n ∧ ∀ H' p, Ex H H' → H' p = some (.tup ((constM n (f n)).map V.int)) → Q (.ref p) H'
theorem pw2_rng {n : Int} (h : N12 n) : 2 ≤ pw2 n ∧ pw2 n ≤ 4 := by
  rcases h with rfl | rfl <;> decide
theorem ok_never {f : Addr} {fd : FuncData} {k : Nat} (F : Fun K "never" "Space.never" (mS 5) f fd) (T : SpT K mg C) : FnOk P w K mg base CX0 (k + 1) f fd ["self"] (spConst C fun _ => 0) := by
  refine F.ok scSelf5 (fun vs H Q E h => ?_) (fun cdv A outer s H vs Q E hr h => ?_)
  · obtain ⟨a, n, rfl, _⟩ := h
    rfl
  · obtain ⟨a, n, rfl, hn, ⟨dx, ha⟩, q⟩ := h
    refine ⟨_, pss_one (ps_ret (pe_op op_repT (pe_tup (pa_cons pe_int pa_nil)) (pe_fld (pv 0) rfl))), ?_⟩
    obtain ⟨h1, h2⟩ := pw2_rng hn
    refine ⟨by show 1 ≤ sizeLine; decide, fun t ht => ?_⟩
    refine ⟨_, rfl, a, C, dx, _, _, rfl, (Ex.new ht).ins ha, T.cl, T.nY, spF_many n, t, pw2 n, _, rfl, rfl, SqT.of upd_same, by simp, h1, by omega, by show 1 ≤ 1000; decide, fun p hp => ?_⟩
    exact q _ p ((Ex.new ht).then_new hp) (by rw [upd_same, constM_map])
theorem ok_always {f : Addr} {fd : FuncData} {k : Nat} (F : Fun K "always" "Space.always" (mS 6) f fd) (T : SpT K mg C) : FnOk P w K mg base CX0 (k + 1) f fd ["self"] (spConst C fun n => pw2 n - 1) := by
  refine F.ok scSelf6 (fun vs H Q E h => ?_) (fun cdv A outer s H vs Q E hr h => ?_)
  · obtain ⟨a, n, rfl, _⟩ := h
    rfl
  · obtain ⟨a, n, rfl, hn, ⟨dx, ha⟩, q⟩ := h
    refine ⟨_, pss_one (ps_ret (pe_op op_repT (pe_tup (pa_cons (pe_fld (pv 0) rfl) pa_nil)) (pe_fld (pv 0) rfl))), ?_⟩
    obtain ⟨h1, h2⟩ := pw2_rng hn
    refine ⟨_, rfl, a, C, dx, _, _, rfl, ha, T.cl, T.nF, spF_full n, by show 1 ≤ sizeLine; decide, fun t ht => ?_⟩
    refine ⟨_, rfl, a, C, dx, _, _, rfl, (Ex.new ht).ins ha, T.cl, T.nY, spF_many n, t, pw2 n, _, rfl, rfl, SqT.of upd_same, by simp, h1, by omega, by show 1 ≤ 1000; decide, fun p hp => ?_⟩
    exact q _ p ((Ex.new ht).then_new hp) (by rw [upd_same, constM_map])
/-! ### is_set, is_map -/
theorem scIsSet : FnScope ["self", "value"] ["self", "value"] (defScope (mS 8)) := ⟨rfl, rfl, rfl, by decide +kernel, rfl, by decide +kernel, by decide +kernel⟩
def spIsSet (K : PySem.W.Frag) (C : Addr) : Sp := fun vs H Q _ => ∃ a n v T, vs = [.ref a, v] ∧ SpaceAt C H a n ∧ Kn K H v T ∧ Q (.bl (inRng v 0 (pw2 n - 1))) H
theorem ok_isSet {f : Addr} {fd : FuncData} {k : Nat} (F : Fun K "is_set" "Space.is_set" (mS 8) f fd) (T : SpT K mg C) (c : Ca P w K mg base CX0 k "is_from" ["value", "first", "last"] (spFrom K)) : FnOk P w K mg base CX0 (k + 1) f fd ["self", "value"] (spIsSet K C) := by
  refine F.ok scIsSet (fun vs H Q E h => ?_) (fun cdv A outer s H vs Q E hr h => ?_)
  · obtain ⟨a, n, v, T', rfl, _⟩ := h
    rfl
  · obtain ⟨a, n, v, T', rfl, ⟨dx, ha⟩, hk, q⟩ := h
    refine ⟨_, pss_one (ps_ret (pe_ca c hr (by rfl) pass0 (pa_cons (pv 1) (pa_cons pe_int (pa_cons (pe_fld (pv 0) rfl) pa_nil))))), ?_⟩
    exact ⟨v, rfl, _, rfl, a, C, dx, _, _, rfl, ha, T.cl, T.nF, spF_full n, v, T', _, _, rfl, hk, q⟩
end
end Hw
/-! is_map, is_rising, is_monotone -/
namespace Hw
open PySem PySem.Spec PyProof.Rows L2
section
variable {P : Program} {w : World} {K : PySem.W.Frag} {mg : Str → Option Value} {base : Heap} {C : Addr}
/-- a value that is looked at: a tuple of plain things, or no tuple -/
inductive Val1 (K : PySem.W.Frag) (H : Hp) : V → Option (List V) → Prop where
  | tup {a : Addr} {xs : List V} (h : H a = some (.tup xs)) (k : ∀ x ∈ xs, ∃ T, Kn K H x T) : Val1 K H (.ref a) (some xs)
  | no {v : V} {T : String} (k : Kn K H v T) (n : (T == "tuple") = false) : Val1 K H v none
theorem Kn.ex {H H' : Hp} {v : V} {T : String} (h : Kn K H v T) (e : Ex H H') : Kn K H' v T := by
  cases h with
  | non => exact .non
  | bl b => exact .bl b
  | int i => exact .int i
  | str x => exact .str x
  | tup h => exact .tup (e.tup h)
  | lst h => exact .lst (e.lst h)
theorem Val1.ex {H H' : Hp} {v : V} {o : Option (List V)} (h : Val1 K H v o) (e : Ex H H') : Val1 K H' v o := by
  cases h with
  | tup h k => exact .tup (e.tup h) fun x hx => let ⟨T, q⟩ := k x hx; ⟨T, q.ex e⟩
  | no k n => exact .no (k.ex e) n
theorem Val1.kn {H : Hp} {v : V} {o : Option (List V)} (h : Val1 K H v o) : ∃ T, Kn K H v T ∧ (T == "tuple") = o.isSome := by
  cases h with
  | tup h k => exact ⟨_, .tup h, rfl⟩
  | no k n => exact ⟨_, k, n⟩
def mapB (n : Int) : Option (List V) → Bool
  | none => false
  | some xs => decide ((xs.length : Int) = pw2 n) && xs.all fun x => inRng x 0 (pw2 n - 1)
theorem scIsMap : FnScope ["self", "value", "number"] ["self", "value"] (defScope (mS 9)) := ⟨rfl, rfl, rfl, by decide +kernel, rfl, by decide +kernel, by decide +kernel⟩
def spIsMap (K : PySem.W.Frag) (C : Addr) : Sp := fun vs H Q _ => ∃ a n v o, vs = [.ref a, v] ∧ N12 n ∧ SpaceAt C H a n ∧ Val1 K H v o ∧ ∀ H', Ex H H' → Q (.bl (mapB n o)) H'
theorem all_map {α : Type} (l : List α) (f : α → Bool) : (l.map f).all id = l.all f := by
  rw [List.all_map]
  rfl
theorem ok_isMap {f : Addr} {fd : FuncData} {k : Nat} (F : Fun K "is_map" "Space.is_map" (mS 9) f fd) (Z : Free mg) (T : SpT K mg C) (c : CaM P w K mg base C k "is_set" ["self", "value"] (spIsSet K C)) : FnOk P w K mg base CX0 (k + 1) f fd ["self", "value"] (spIsMap K C) := by
  obtain ⟨fS, fdS, FS, mS', bS⟩ := c.ex
  refine F.ok scIsMap (fun vs H Q E h => ?_) (fun cdv A outer s H vs Q E hr h => ?_)
  · obtain ⟨a, n, v, o, rfl, _⟩ := h
    rfl
  · obtain ⟨a, n, v, o, rfl, hn, ⟨dx, ha⟩, hv, q⟩ := h
    refine ⟨_, pss_cons (ps_if (PW.pt (pw_or (pt_not (pt_val (pe_callB call_isi (by rfl) Z.isi B.isi (pa_cons (pv 1) (pa_cons (pe_bltn (v := .ty "tuple") (by rfl) Z.tuple B.tuple rfl) pa_nil)))))
        (pw_or1 (pt_cmpR op_ne (pe_callB call_len_seq (by rfl) Z.len B.len (pa_cons (pv 1) pa_nil)) (pe_fld (pv 0) rfl) (nomark _))))) (pss_one (ps_ret pe_bl)) pss_nil)
      (pss_one (ps_ret (pe_callB (cr_all rfl) (by rfl) Z.all B.all (pa_cons (pe_lc (own := [("number", 2)]) (g := gName 2) (tt := tYes) rfl scIsMap.nd (pi_tup (pv 1)) (blkOk_by (N := ["self", "value", "number"]) (sc := defScope (mS 9)) (by decide +kernel))
        (fun _ _ _ _ _ => pg_name (i := 2) scIsMap.nd rfl (Or.inl rfl)) (fun _ _ _ _ _ => pts_nil) (fun _ _ _ _ _ => pe_meth (pv 0) T.cl mS' FS hr bS .nil pass0 (pa_cons (pv 2) pa_nil))) pa_nil)))), ?_⟩
    obtain ⟨T', hk, hT⟩ := hv.kn
    refine ⟨v, rfl, v, _, _, _, _, rfl, .ty _, hk.ty, kit_ty hk.tuple_ans, _, rfl, ?_⟩
    rw [hT]
    cases hv with
    | no k n' => exact iteT (iteT (q H (.refl H)))
    | @tup t xs ht hxs =>
      refine iteF ⟨_, rfl, t, xs, rfl, .inr (SqT.of ht), _, rfl, a, C, dx, _, _, rfl, ha, T.cl, T.nY, spF_many n, rfl, _, rfl, ?_⟩
      have em : mapB n (some xs) = (decide ((xs.length : Int) = pw2 n) && xs.all fun x => inRng x 0 (pw2 n - 1)) := rfl
      by_cases hl : (xs.length : Int) = pw2 n
      · rw [hl, decide_eq_true rfl]
        refine iteF ⟨_, rfl, t, rfl, ⟨xs, SqT.of ht⟩, fun D hD => ?_⟩
        have hp := pw2_rng hn
        refine lcY xs (fun z y _ => y = .bl (inRng z 0 (pw2 n - 1))) hD ((w0_tup (E := Ex) fun H' e => SqT.ex e (SqT.of ht)).wk Ex.refl) (by omega) (fun _ _ _ _ _ h => h) (fun _ => rfl) (fun z x H' Qk hz e1 hY k1 => ?_) fun H' ys e1 hD' hP => ?_
        · subst hY
          obtain ⟨Tz, kz⟩ := hxs x hz
          exact ⟨_, rfl, a, dx, _, rfl, e1.ins ha, rfl, x, rfl, a, n, x, Tz, rfl, ⟨dx, e1.ins ha⟩, kz.ex e1, k1 _ _ (.refl _) rfl⟩
        · have ey : ys = (xs.map fun z => inRng z 0 (pw2 n - 1)).map V.bl := by rw [paired_eq hP, List.map_map]; rfl
          subst ey
          refine ⟨D, _, rfl, SqL.of hD', ?_⟩
          rw [all_map]
          have q1 := q H' e1
          rw [em, decide_eq_true hl, Bool.true_and] at q1
          exact q1
      · rw [decide_eq_false fun z => hl (V.int.inj z)]
        have q1 := q H (.refl H)
        rw [em, decide_eq_false hl, Bool.false_and] at q1
        exact iteT q1
end
end Hw
/-! is_rising, is_monotone, is_map_part, with_row -/
namespace Hw
open PySem PySem.Spec PyProof.Rows L2
section
variable {P : Program} {w : World} {K : PySem.W.Frag} {mg : Str → Option Value} {base : Heap} {C : Addr}
/-! ### is_map_part -/
abbrev sMP : Stmt := topS 22
theorem scMP : FnScope ["one", "other", "number", "more"] ["one", "other"] (defScope sMP) := ⟨rfl, rfl, rfl, by decide +kernel, rfl, by decide +kernel, by decide +kernel⟩
/-- a map is within another one -/
def subM (a b : List Int) : Bool := (a.zip b).all fun p => sub p.1 p.2
def spMP : Sp := fun vs H Q _ => ∃ (a b : Addr) (xs ys : List Int), vs = [.ref a, .ref b] ∧ H a = some (.tup (xs.map V.int)) ∧ H b = some (.tup (ys.map V.int)) ∧ xs.length = ys.length ∧ xs.length ≤ 4 ∧ ∀ H', Ex H H' → Q (.bl (subM xs ys)) H'
theorem zip_fst : ∀ (xs ys : List Int), xs.length = ys.length → (xs.zip ys).map Prod.fst = xs
  | [], [], _ => rfl
  | x :: xs, y :: ys, h => by
    rw [List.zip_cons_cons, List.map_cons, zip_fst xs ys (by simpa using h)]
  | [], _ :: _, h => by simp at h
  | _ :: _, [], h => by simp at h
theorem zip_snd : ∀ (xs ys : List Int), xs.length = ys.length → (xs.zip ys).map Prod.snd = ys
  | [], [], _ => rfl
  | x :: xs, y :: ys, h => by
    rw [List.zip_cons_cons, List.map_cons, zip_snd xs ys (by simpa using h)]
  | [], _ :: _, h => by simp at h
  | _ :: _, [], h => by simp at h
theorem zipV_fst {xs ys : List Int} (h : xs.length = ys.length) : (xs.zip ys).map (fun p => V.int p.1) = xs.map V.int := by
  rw [← zip_fst xs ys h, List.map_map, zip_fst xs ys h]
  rfl
theorem zipV_snd {xs ys : List Int} (h : xs.length = ys.length) : (xs.zip ys).map (fun p => V.int p.2) = ys.map V.int := by
  rw [← zip_snd xs ys h, List.map_map, zip_snd xs ys h]
  rfl
theorem zip_len {xs ys : List Int} (h : xs.length = ys.length) : (xs.zip ys).length = xs.length := by
  rw [List.length_zip, ← h, Nat.min_self]
theorem ok_MP {f : Addr} {fd : FuncData} {k : Nat} (F : Fun K "is_map_part" "is_map_part" sMP f fd) (Z : Free mg) (c : Ca P w K mg base CX0 k "is_part" ["one", "other"] spPart) : FnOk P w K mg base CX0 (k + 1) f fd ["one", "other"] spMP := by
  refine F.ok scMP (fun vs H Q E h => ?_) (fun cdv A outer s H vs Q E hr h => ?_)
  · obtain ⟨a, b, xs, ys, rfl, _⟩ := h
    rfl
  · obtain ⟨a, b, xs, ys, rfl, ha, hb, hl, h4, q⟩ := h
    refine ⟨_, pss_one (ps_ret (pe_callB (cr_all rfl) (by rfl) Z.all B.all (pa_cons (pe_lc (own := [("number", 2), ("more", 3)]) (g := gTup K 2 (gCons (gName 2) (gCons (gName 3) gNil))) (tt := tYes) rfl scMP.nd
      (RZ.pi_zipA (by rfl) Z.zip (pa_cons (pv 0) (pa_cons (pv 1) pa_nil))) (blkOk_by (N := ["one", "other", "number", "more"]) (sc := defScope sMP) (by decide +kernel))
        (fun _ _ _ _ _ => pg_tup rfl (pgs_cons (pg_name (i := 2) scMP.nd rfl (Or.inl rfl)) (pgs_cons (pg_name (i := 3) scMP.nd rfl (Or.inl rfl)) pgs_nil))) (fun _ _ _ _ _ => pts_nil)
        (fun _ _ _ _ _ => pe_ca c hr (by rfl) pass0 (pa_cons (pv 2) (pa_cons (pv 3) pa_nil)))) pa_nil))), ?_⟩
    have za : H a = some (.tup ((xs.zip ys).map fun p => V.int p.1)) := by rw [zipV_fst hl]; exact ha
    have zb : H b = some (.tup ((xs.zip ys).map fun p => V.int p.2)) := by rw [zipV_snd hl]; exact hb
    refine ⟨_, rfl, _, rfl, a, b, _, _, rfl, .inr ⟨SqT.of za, SqT.of zb, fun D hD => ?_⟩⟩
    refine lcY2 (xs.zip ys) (fun p => V.int p.1) (fun p => V.int p.2) (fun z y _ => y = .bl (sub z.1 z.2)) hD (wk_zip (SqT.of za) (SqT.of zb)) (by rw [zip_len hl]; omega) (fun _ _ _ _ _ h => h) (fun _ _ => rfl) (fun z H' Qk hz e1 k1 => ?_) fun H' zs e1 hD' hP => ?_
    · exact ⟨_, rfl, _, rfl, z.1, z.2, rfl, k1 _ _ (.refl _) rfl⟩
    · have ey : zs = ((xs.zip ys).map fun z => sub z.1 z.2).map V.bl := by rw [paired_eq hP, List.map_map]; rfl
      subst ey
      refine ⟨D, _, rfl, SqL.of hD', ?_⟩
      rw [all_map]
      exact q H' e1
end
end Hw
/-! is_rising, is_monotone, is_key -/
namespace Hw
open PySem PySem.Spec PyProof.Rows L2
section
variable {P : Program} {w : World} {K : PySem.W.Frag} {mg : Str → Option Value} {base : Heap} {C : Addr}
/-- the set of one mode -/
def bitV (u : Nat) : Int := if u = 0 then 1 else 2
def stepsL (n : Int) : List (Nat × Nat) := prs (List.range (pw2 n).toNat) (List.range n.toNat)
/-- whether a map is monotone, by steps of one mode -/
def risB (n : Int) (ns : List Int) : Bool := (stepsL n).all fun z => sub (ns.getD z.1 0) (ns.getD (Builtin.bitOr z.1 (bitV z.2)).toNat 0)
theorem ix_bit {n : Int} (h : N12 n) {u : Nat} (hu : u ∈ List.range n.toNat) : atI ([.int 1, .int 2, .int 4, .int 8] : List V) (u : Nat) = some (.int (bitV u)) := by
  have := List.mem_range.mp hu
  rcases h with rfl | rfl
  · have : u = 0 := by omega
    subst this
    rfl
  · have : u = 0 ∨ u = 1 := by omega
    rcases this with rfl | rfl <;> rfl
theorem scRis : FnScope ["self", "one", "steps", "number", "mode", "other"] ["self", "one"] (defScope (mS 11)) := ⟨rfl, rfl, rfl, by decide +kernel, rfl, by decide +kernel, by decide +kernel⟩
def spRis (C : Addr) : Sp := fun vs H Q _ => ∃ a n t ns, vs = [.ref a, .ref t] ∧ N12 n ∧ SpaceAt C H a n ∧ H t = some (.tup (ns.map V.int)) ∧ (ns.length : Int) = pw2 n ∧ ∀ H', Ex H H' → Q (.bl (risB n ns)) H'
theorem steps_rng {n : Int} (h : N12 n) : ∀ z ∈ stepsL n, (z.1 : Int) < pw2 n ∧ 0 ≤ Builtin.bitOr z.1 (bitV z.2) ∧ Builtin.bitOr z.1 (bitV z.2) < pw2 n := by
  rcases h with rfl | rfl <;> decide
theorem at_map {ns : List Int} {i : Int} (h0 : 0 ≤ i) (h1 : i < ns.length) : atI (ns.map V.int) i = some (.int (ns.getD i.toNat 0)) := by
  have e : i = ((i.toNat : Nat) : Int) := by omega
  have hl : i.toNat < ns.length := by omega
  refine at_of e ?_
  rw [List.getElem?_map, List.getElem?_eq_getElem hl, List.getD_eq_getElem?_getD, List.getElem?_eq_getElem hl]
  rfl
theorem ok_ris {f : Addr} {fd : FuncData} {k : Nat} (F : Fun K "is_rising" "Space.is_rising" (mS 11) f fd) (Z : Free mg) (T : SpT K mg C) (c : Ca P w K mg base CX0 k "is_part" ["one", "other"] spPart) : FnOk P w K mg base CX0 (k + 1) f fd ["self", "one"] (spRis C) := by
  obtain ⟨aB, hB, hBs⟩ := T.bits
  refine F.ok scRis (fun vs H Q E h => ?_) (fun cdv A outer s H vs Q E hr h => ?_)
  · obtain ⟨a, n, t, ns, rfl, _⟩ := h
    rfl
  · obtain ⟨a, n, t, ns, rfl, hn, ⟨dx, ha⟩, ht, hl, q⟩ := h
    refine ⟨_, pss_cons (ps_setLc2 (i := 2) (own := [("number", 3), ("mode", 4)]) (vs1 := [4]) (g := gName 3) (g1 := gName 4) (tt := tYes) (tt1 := tYes) rfl scRis.nd rfl rfl (sw_true rfl rfl rfl (by decide +kernel))
        (pi_range1 (by rfl) Z.range (pa_cons (pe_fld (pv 0) rfl) pa_nil)) (blkOk_by (N := ["self", "one", "steps", "number", "mode", "other"]) (sc := defScope (mS 11)) (by decide +kernel)) (by decide)
        (fun _ _ _ _ _ => pg_name (i := 3) scRis.nd rfl (Or.inl rfl)) (fun _ _ _ _ _ => pts_nil) (fun _ _ _ _ _ => pi_range1 (by rfl) Z.range (pa_cons (fldK K (pv 0)) pa_nil))
        (fun _ _ _ _ _ => pg_name (i := 4) scRis.nd rfl (Or.inl rfl)) (fun _ _ _ _ _ => pts_nil)
        (fun _ _ _ _ _ => pe_tup (pa_cons (pv 3) (pa_cons (pe_op op_or (pv 3) (pe_ix (ixTK K) (pe_glob (v := .ref aB) (by rfl) hB rfl) (pv 4) (fun _ _ => rfl))) pa_nil))))
      (pss_one (ps_ret (pe_callB (cr_all rfl) (by rfl) Z.all B.all (pa_cons (pe_lc (own := [("number", 3), ("other", 5)]) (g := gTup K 2 (gCons (gName 3) (gCons (gName 5) gNil))) (tt := tYes) rfl scRis.nd
        (pi_list (pv 2)) (blkOk_by (N := ["self", "one", "steps", "number", "mode", "other"]) (sc := defScope (mS 11)) (by decide +kernel))
        (fun _ _ _ _ _ => pg_tup rfl (pgs_cons (pg_name (i := 3) scRis.nd rfl (Or.inl rfl)) (pgs_cons (pg_name (i := 5) scRis.nd rfl (Or.inl rfl)) pgs_nil))) (fun _ _ _ _ _ => pts_nil)
        (fun _ _ _ _ _ => pe_ca c hr (by rfl) pass0 (pa_cons (pe_ix (ixTK K) (pv 1) (pv 3) (fun _ _ => rfl)) (pa_cons (pe_ix (ixTK K) (pv 1) (pv 5) (fun _ _ => rfl)) pa_nil)))) pa_nil)))), ?_⟩
    have hp := pw2_rng hn
    have hn2 : 1 ≤ n ∧ n ≤ 2 := by rcases hn with rfl | rfl <;> decide
    refine ⟨_, rfl, a, C, dx, _, _, rfl, ha, T.cl, T.nY, spF_many n, pw2 n, rfl, by omega, by omega, fun D hD => ?_⟩
    refine lcE2 (Y1 := fun u x => x = V.int (u : Nat)) (List.range (pw2 n).toNat) (List.range n.toNat) (fun _ => true) (fun z y H' => ∃ u, y = .ref u ∧ H' u = some (.tup [.int z.1, .int (Builtin.bitOr z.1 (bitV z.2))])) hD ((w0_range (pw2 n).toNat Ex).wk Ex.refl) ?_
      (fun z y A B h ⟨u, e1, e2⟩ => ⟨u, e1, h _ _ e2⟩) (fun _ => rfl) (fun _ _ => rfl) (fun z x H2 Rk hz e1 hY k1 => ?_) (fun z u x x1 H2 Qk Qs hz hu e1 hY hY1 k1 k2 => ?_) fun H2 ys e1 hD' hP => ?_
    · rw [List.length_range, List.length_range]
      rcases hn with rfl | rfl <;> decide
    · exact ⟨_, rfl, a, C, dx, _, _, rfl, e1.ins ha, T.cl, T.nM, spF_modes n, n, rfl, by omega, by omega, k1 _ _ (.refl _) (w0_range n.toNat _)⟩
    · subst hY hY1
      dsimp only [tYes]
      rw [if_pos rfl]
      refine ⟨_, rfl, _, rfl, _, rfl, aB, _, (u : Nat), _, rfl, rfl, hBs _, ix_bit hn hu, (z : Nat), bitV u, rfl, rfl, by show 2 ≤ sizeLine; decide, fun p hp => ?_⟩
      exact k1 _ _ rfl (.new hp) ⟨p, rfl, upd_same⟩
    · rw [List.filter_eq_self.mpr (fun _ _ => rfl)] at hP
      refine ⟨_, rfl, D, rfl, ⟨_, SqL.of hD'⟩, fun D2 hD2 => ?_⟩
      refine lcY2 (stepsL n) (fun z => .int z.1) (fun z => .int (Builtin.bitOr z.1 (bitV z.2))) (fun z y _ => y = .bl (sub (ns.getD z.1 0) (ns.getD (Builtin.bitOr z.1 (bitV z.2)).toNat 0))) hD2 (wk_pairs (SqL.of hD') hP) ?_ (fun _ _ _ _ _ h => h) (fun _ _ => rfl) (fun z H3 Qk hz e3 k1 => ?_) fun H3 zs e3 hD3 hP3 => ?_
      · rcases hn with rfl | rfl <;> decide
      · obtain ⟨r1, r2, r3⟩ := steps_rng hn z hz
        have ht3 : H3 t = some (.tup (ns.map V.int)) := e3.tup (e1.tup ht)
        refine ⟨_, rfl, _, rfl, t, _, _, _, rfl, rfl, SqT.of ht3, at_map (by omega) (by omega), _, rfl, _, rfl, t, _, _, _, rfl, rfl, SqT.of ht3, at_map r2 (by omega), _, _, rfl, ?_⟩
        exact k1 _ _ (.refl _) rfl
      · have ey : zs = ((stepsL n).map fun z => sub (ns.getD z.1 0) (ns.getD (Builtin.bitOr z.1 (bitV z.2)).toNat 0)).map V.bl := by rw [paired_eq hP3, List.map_map]; rfl
        subst ey
        refine ⟨D2, _, rfl, SqL.of hD3, ?_⟩
        rw [all_map]
        exact q H3 (e1.trans e3)
end
end Hw
/-! is_monotone, is_key, space_of_makings, with_row -/
namespace Hw
open PySem PySem.Spec PyProof.Rows L2
section
variable {P : Program} {w : World} {K : PySem.W.Frag} {mg : Str → Option Value} {base : Heap} {C : Addr}
def intOf : V → Int
  | .int i => i
  | _ => 0
def monB (n : Int) : Option (List V) → Bool
  | none => false
  | some xs => mapB n (some xs) && risB n (xs.map intOf)
theorem ints_of {n : Int} {xs : List V} (h : xs.all (fun x => inRng x 0 n) = true) : (xs.map intOf).map V.int = xs := by
  induction xs with
  | nil => rfl
  | cons x r ih =>
    rw [List.all_cons, Bool.and_eq_true] at h
    rw [List.map_cons, List.map_cons, ih h.2]
    cases x with
    | int i => rfl
    | _ => exact absurd h.1 Bool.false_ne_true
theorem scMon : FnScope ["self", "value"] ["self", "value"] (defScope (mS 10)) := ⟨rfl, rfl, rfl, by decide +kernel, rfl, by decide +kernel, by decide +kernel⟩
def spMon (K : PySem.W.Frag) (C : Addr) : Sp := fun vs H Q _ => ∃ a n v o, vs = [.ref a, v] ∧ N12 n ∧ SpaceAt C H a n ∧ Val1 K H v o ∧ ∀ H', Ex H H' → Q (.bl (monB n o)) H'
theorem ok_mon {f : Addr} {fd : FuncData} {k : Nat} (F : Fun K "is_monotone" "Space.is_monotone" (mS 10) f fd) (T : SpT K mg C) (c : CaM P w K mg base C k "is_map" ["self", "value"] (spIsMap K C)) (c2 : CaM P w K mg base C k "is_rising" ["self", "one"] (spRis C)) :
    FnOk P w K mg base CX0 (k + 1) f fd ["self", "value"] (spMon K C) := by
  obtain ⟨f1, fd1, F1, m1, b1⟩ := c.ex
  obtain ⟨f2, fd2, F2, m2, b2⟩ := c2.ex
  refine F.ok scMon (fun vs H Q E h => ?_) (fun cdv A outer s H vs Q E hr h => ?_)
  · obtain ⟨a, n, v, o, rfl, _⟩ := h
    rfl
  · obtain ⟨a, n, v, o, rfl, hn, ⟨dx, ha⟩, hv, q⟩ := h
    refine ⟨_, pss_one (ps_ret (pe_and (pe_meth (pv 0) T.cl m1 F1 hr b1 .nil pass0 (pa_cons (pv 1) pa_nil)) (pe_one (pe_meth (pv 0) T.cl m2 F2 hr b2 .nil pass0 (pa_cons (pv 1) pa_nil))))), ?_⟩
    refine ⟨_, rfl, a, dx, _, rfl, ha, rfl, v, rfl, a, n, v, o, rfl, hn, ⟨dx, ha⟩, hv, fun H1 e1 => ⟨_, rfl, ?_⟩⟩
    cases hv with
    | no k n' => exact iteF (q H1 e1)
    | @tup t xs ht hxs =>
      have em : monB n (some xs) = (mapB n (some xs) && risB n (xs.map intOf)) := rfl
      cases hm : mapB n (some xs) with
      | false =>
        rw [em, hm] at q
        exact iteF (q H1 e1)
      | true =>
        rw [em, hm] at q
        have hm' : (decide ((xs.length : Int) = pw2 n) && xs.all fun x => inRng x 0 (pw2 n - 1)) = true := hm
        rw [Bool.and_eq_true] at hm'
        have hx := ints_of hm'.2
        refine iteT ⟨_, rfl, a, dx, _, rfl, e1.ins ha, rfl, _, rfl, a, n, t, xs.map intOf, rfl, hn, ⟨dx, e1.ins ha⟩, ?_, ?_, fun H2 e2 => q H2 (e1.trans e2)⟩
        · rw [hx]
          exact e1.tup ht
        · rw [List.length_map]
          exact of_decide_eq_true hm'.1
/-! ### is_key -/
inductive KeyV (K : PySem.W.Frag) (H : Hp) : V → Option (Option (List V)) → Prop where
  | one {a : Addr} {x : V} {o : Option (List V)} (h : H a = some (.tup [x])) (k : Val1 K H x o) : KeyV K H (.ref a) (some o)
  | many {a : Addr} {xs : List V} (h : H a = some (.tup xs)) (k : (xs.length : Int) ≠ 1) : KeyV K H (.ref a) none
  | no {v : V} {T : String} (k : Kn K H v T) (n : (T == "tuple") = false) : KeyV K H v none
theorem KeyV.ex {H H' : Hp} {v : V} {o : Option (Option (List V))} (h : KeyV K H v o) (e : Ex H H') : KeyV K H' v o := by
  cases h with
  | one h k => exact .one (e.tup h) (k.ex e)
  | many h k => exact .many (e.tup h) k
  | no k n => exact .no (k.ex e) n
def keyB (n : Int) : Option (Option (List V)) → Bool
  | some o => monB n o
  | none => false
abbrev sKey : Stmt := topS 20
theorem scKey : FnScope ["space", "value"] ["space", "value"] (defScope sKey) := ⟨rfl, rfl, rfl, by decide +kernel, rfl, by decide +kernel, by decide +kernel⟩
def spKey (K : PySem.W.Frag) (C : Addr) : Sp := fun vs H Q _ => ∃ a n v o, vs = [.ref a, v] ∧ N12 n ∧ SpaceAt C H a n ∧ KeyV K H v o ∧ ∀ H', Ex H H' → Q (.bl (keyB n o)) H'
theorem ok_key {f : Addr} {fd : FuncData} {k : Nat} (F : Fun K "is_key" "is_key" sKey f fd) (Z : Free mg) (T : SpT K mg C) (c : CaM P w K mg base C k "is_monotone" ["self", "value"] (spMon K C)) : FnOk P w K mg base CX0 (k + 1) f fd ["space", "value"] (spKey K C) := by
  obtain ⟨f1, fd1, F1, m1, b1⟩ := c.ex
  refine F.ok scKey (fun vs H Q E h => ?_) (fun cdv A outer s H vs Q E hr h => ?_)
  · obtain ⟨a, n, v, o, rfl, _⟩ := h
    rfl
  · obtain ⟨a, n, v, o, rfl, hn, ⟨dx, ha⟩, hv, q⟩ := h
    refine ⟨_, pss_one (ps_ret (pe_and (pe_callB call_isi (by rfl) Z.isi B.isi (pa_cons (pv 1) (pa_cons (pe_bltn (v := .ty "tuple") (by rfl) Z.tuple B.tuple rfl) pa_nil)))
      (pe_and (pe_cmpR op_eq (pe_callB call_len_seq (by rfl) Z.len B.len (pa_cons (pv 1) pa_nil)) pe_int (nomark _))
        (pe_one (pe_meth (pv 0) T.cl m1 F1 hr b1 .nil pass0 (pa_cons (pe_ix ix_tup (pv 1) pe_int (fun _ _ => rfl)) pa_nil)))))), ?_⟩
    cases hv with
    | no k n' =>
      refine ⟨_, rfl, _, _, _, _, _, rfl, .ty _, k.ty, kit_ty k.tuple_ans, _, rfl, ?_⟩
      rw [n']
      exact iteF (q H (.refl H))
    | @many t xs ht hl =>
      refine ⟨_, rfl, _, _, _, _, true, rfl, .ty _, (Kn.tup (K := K) ht).ty, kit_ty (Kn.tup (K := K) ht).tuple_ans, _, rfl, ?_⟩
      refine iteT ⟨_, rfl, t, xs, rfl, .inr (SqT.of ht), rfl, _, rfl, ?_⟩
      rw [decide_eq_false fun z => hl (V.int.inj z)]
      exact iteF (q H (.refl H))
    | @one t x o' ht k =>
      refine ⟨_, rfl, _, _, _, _, true, rfl, .ty _, (Kn.tup (K := K) ht).ty, kit_ty (Kn.tup (K := K) ht).tuple_ans, _, rfl, ?_⟩
      refine iteT ⟨_, rfl, t, [x], rfl, .inr (SqT.of ht), rfl, _, rfl, ?_⟩
      exact iteT ⟨_, rfl, a, dx, _, rfl, ha, rfl, _, rfl, t, [x], 0, x, rfl, rfl, SqT.of ht, rfl, a, n, x, o', rfl, hn, ⟨dx, ha⟩, k, q⟩
/-! ### space_of_makings -/
abbrev sSoM : Stmt := topS 19
theorem scSoM : FnScope ["modes"] ["modes"] (defScope sSoM) := ⟨rfl, rfl, rfl, by decide +kernel, rfl, by decide +kernel, by decide +kernel⟩
def spSoM (C : Addr) : Sp := fun vs H Q _ => ∃ n, vs = [.int n] ∧ N12 n ∧ ∀ H' p, Ex H H' → SpaceAt C H' p n → Q (.ref p) H'
theorem ok_SoM {f fI : Addr} {fd fdI : FuncData} {k : Nat} (F : Fun K "space_of_makings" "space_of_makings" sSoM f fd) (T : SpT K mg C) (c : Ca P w K mg base CX0 k "is_from" ["value", "first", "last"] (spFrom K))
    (M : Mk K C fI) (GI : FnOk P w K mg base CX0 k fI fdI ["self", "modes"] (spInit C)) (bI : Binds K fdI ["self", "modes"] []) : FnOk P w K mg base CX0 (k + 2) f fd ["modes"] (spSoM C) := by
  obtain ⟨t, hmm⟩ := T.mm
  refine F.ok scSoM (fun vs H Q E h => ?_) (fun cdv A outer s H vs Q E hr h => ?_)
  · obtain ⟨n, rfl, _⟩ := h
    rfl
  · obtain ⟨n, rfl, hn, q⟩ := h
    refine ⟨_, pss_cons (ps_if (pt_not (pt_val (pe_ca c (hr.mono (by omega)) (by rfl) pass0 (pa_cons (pv 0) (pa_cons pe_int (pa_cons (pe_glob (v := .int 2) (by rfl) hmm ⟨_, rfl⟩) pa_nil)))))) (pss_one ps_never) pss_nil)
      (pss_one (ps_ret (pe_make M GI hr (by rfl) T.mgC bI .nil pass0 (pa_cons (pv 0) pa_nil)))), ?_⟩
    have e : inRng (.int n) 1 2 = true := by rcases hn with rfl | rfl <;> rfl
    refine ⟨_, rfl, _, _, _, _, rfl, .int n, true, by rw [e], iteF ?_⟩
    refine ⟨_, rfl, fun x dx hx hdx ne => ⟨x, dx, n, rfl, hn, upd_same, rfl, ?_⟩⟩
    rw [upd_upd]
    exact q _ x ((Ex.new hdx).put (.of hx) (noCode_none (by rw [upd_ne ne.symm]; exact hx))) ⟨dx, upd_same⟩
end
end Hw
/-! with_row, rising_rows -/
namespace Hw
open PySem PySem.Spec PyProof.Rows L2
theorem starK {X : Cx} {e : Expr} {p : Pos} {es : List Expr} {te : TE} {t : TA} (K : PySem.W.Frag) (he : PE X e te) (hr : PA X es t) (hs : starEach (.Starred e p :: es) X.env = (true, eval e X.env) :: starEach es X.env := by rfl) (hK : X.K = K := by rfl) : PA X (.Starred e p :: es) (StX.tStar K te t) := by
  subst hK
  exact StX.pa_star he hr hs
theorem tupOfK {X : Cx} (K : PySem.W.Frag) (hK : X.K = K := by rfl) : CallR X (.type "tuple") (fun xs H Q => ∃ p ys, xs = [.ref p] ∧ ((SqL K H p ys ∧ ∀ l, H l = none → Q (.ref l) (upd H l (.tup ys))) ∨ (SqT K H p ys ∧ Q (.ref p) H))) := by
  subst hK
  exact call_tuple_of
/-- a value is the tuple of these ints -/
def TupI (r : List Int) (y : V) (H : Hp) : Prop := ∃ u, y = .ref u ∧ H u = some (.tup (r.map V.int))
theorem TupI.tk {r : List Int} {y : V} {A B : Hp} (h : TK A B) (x : TupI r y A) : TupI r y B := by
  obtain ⟨u, e1, e2⟩ := x
  exact ⟨u, e1, h _ _ e2⟩
section
variable {P : Program} {w : World} {K : PySem.W.Frag} {mg : Str → Option Value} {base : Heap} {C : Addr}
/-! ### with_row -/
theorem scWR : FnScope ["self", "one", "row", "mode", "number", "entry"] ["self", "one", "row", "mode"] (defScope (mS 7)) := ⟨rfl, rfl, rfl, by decide +kernel, rfl, by decide +kernel, by decide +kernel⟩
def withRow (m : Nat) (xs ys : List Int) : List Int := (xs.zip ys).map fun p => p.1 + bitV m * p.2
def spWR : Sp := fun vs H Q _ => ∃ (s : V) (a b : Addr) (xs ys : List Int) (m : Nat), vs = [s, .ref a, .ref b, .int m] ∧ H a = some (.tup (xs.map V.int)) ∧ H b = some (.tup (ys.map V.int)) ∧ xs.length = ys.length ∧ xs.length ≤ 4 ∧ (m = 0 ∨ m = 1) ∧
  ∀ H' y, Ex H H' → TupI (withRow m xs ys) y H' → Q y H'
theorem ok_WR {f : Addr} {fd : FuncData} {k : Nat} (F : Fun K "with_row" "Space.with_row" (mS 7) f fd) (Z : Free mg) (T : SpT K mg C) : FnOk P w K mg base CX0 (k + 1) f fd ["self", "one", "row", "mode"] spWR := by
  obtain ⟨aB, hB, hBs⟩ := T.bits
  refine F.ok scWR (fun vs H Q E h => ?_) (fun cdv A outer s H vs Q E hr h => ?_)
  · obtain ⟨s, a, b, xs, ys, m, rfl, _⟩ := h
    rfl
  · obtain ⟨sf, a, b, xs, ys, m, rfl, ha, hb, hl, h4, hm, q⟩ := h
    refine ⟨_, pss_one (ps_ret (pe_callTy call_tuple_of (by rfl) Z.tuple B.tuple (pa_cons (pe_lc (own := [("number", 4), ("entry", 5)]) (g := gTup K 2 (gCons (gName 4) (gCons (gName 5) gNil))) (tt := tYes) rfl scWR.nd
      (RZ.pi_zipA (by rfl) Z.zip (pa_cons (pv 1) (pa_cons (pv 2) pa_nil))) (blkOk_by (N := ["self", "one", "row", "mode", "number", "entry"]) (sc := defScope (mS 7)) (by decide +kernel))
        (fun _ _ _ _ _ => pg_tup rfl (pgs_cons (pg_name (i := 4) scWR.nd rfl (Or.inl rfl)) (pgs_cons (pg_name (i := 5) scWR.nd rfl (Or.inl rfl)) pgs_nil))) (fun _ _ _ _ _ => pts_nil)
        (fun _ _ _ _ _ => pe_op op_add (pv 4) (pe_op op_mul (pe_ix (ixTK K) (pe_glob (v := .ref aB) (by rfl) hB rfl) (pv 3) (fun _ _ => rfl)) (pv 5)))) pa_nil))), ?_⟩
    have za : H a = some (.tup ((xs.zip ys).map fun p => V.int p.1)) := by rw [zipV_fst hl]; exact ha
    have zb : H b = some (.tup ((xs.zip ys).map fun p => V.int p.2)) := by rw [zipV_snd hl]; exact hb
    refine ⟨_, rfl, _, rfl, a, b, _, _, rfl, .inr ⟨SqT.of za, SqT.of zb, fun D hD => ?_⟩⟩
    refine lcY2 (xs.zip ys) (fun p => V.int p.1) (fun p => V.int p.2) (fun z y _ => y = .int (z.1 + bitV m * z.2)) hD (wk_zip (SqT.of za) (SqT.of zb)) (by rw [zip_len hl]; omega) (fun _ _ _ _ _ h => h) (fun _ _ => rfl) (fun z H' Qk hz e1 k1 => ?_) fun H' zs e1 hD' hP => ?_
    · have hix : atI ([.int 1, .int 2, .int 4, .int 8] : List V) (m : Nat) = some (.int (bitV m)) := by
        rcases hm with rfl | rfl <;> rfl
      refine ⟨_, rfl, _, rfl, aB, _, _, _, rfl, rfl, hBs _, hix, _, rfl, bitV m, z.2, rfl, rfl, .inl ?_, z.1, _, rfl, rfl, k1 _ _ (.refl _) rfl⟩
      rcases hm with rfl | rfl <;> exact ⟨by decide, by decide⟩
    · have ey : zs = (withRow m xs ys).map V.int := by
        rw [paired_eq hP]
        unfold withRow
        rw [List.map_map]
        rfl
      subst ey
      refine ⟨D, _, rfl, .inl ⟨SqL.of hD', fun l hl' => ?_⟩⟩
      exact q _ _ (e1.then_new hl') ⟨l, rfl, upd_same⟩
/-! ### rising_rows -/
abbrev sRR : Stmt := topS 13
abbrev nRR : List Str := ["modes", "many", "found", "turn", "steps", "row", "entry", "one", "mode", "other"]
theorem scRR : FnScope nRR ["modes"] (defScope sRR) := ⟨rfl, rfl, rfl, by decide +kernel, rfl, by decide +kernel, by decide +kernel⟩
/-- all rows of 0 and 1 -/
def bins : Nat → List (List Int)
  | 0 => [[]]
  | i + 1 => (prs (bins i) ([0, 1] : List Int)).map fun p => p.1 ++ [p.2]
def upRow (n : Int) (r : List Int) : Bool := (stepsL n).all fun z => decide (r.getD z.1 0 ≤ r.getD (Builtin.bitOr z.1 (bitV z.2)).toNat 0)
def rowsM (n : Int) : List (List Int) := (bins (pw2 n).toNat).filter (upRow n)
def spRR : Sp := fun vs H Q _ => ∃ n, vs = [.int n] ∧ N12 n ∧ ∀ H' p ys, Ex H H' → H' p = some (.lst ys) → Paired (fun r y => TupI r y H') (rowsM n) ys → Q (.ref p) H'
theorem bins_len : ∀ i, (bins i).length = 2 ^ i
  | 0 => rfl
  | i + 1 => by
    show ((prs (bins i) ([0, 1] : List Int)).map _).length = _
    rw [List.length_map, prs_len, bins_len i, Nat.pow_succ]
    rfl
theorem bins_row : ∀ i, ∀ r ∈ bins i, r.length = i
  | 0, r, h => by
    have := List.mem_singleton.mp h
    rw [this]
    rfl
  | i + 1, r, h => by
    obtain ⟨p, hp, rfl⟩ := List.mem_map.mp h
    obtain ⟨z, hz, hp2⟩ := List.mem_flatMap.mp hp
    obtain ⟨u, hu, rfl⟩ := List.mem_map.mp hp2
    rw [List.length_append, bins_row i z hz]
    rfl
theorem ok_RR {f : Addr} {fd : FuncData} {k : Nat} (F : Fun K "rising_rows" "rising_rows" sRR f fd) (Z : Free mg) (T : SpT K mg C) : FnOk P w K mg base CX0 (k + 1) f fd ["modes"] spRR := by
  obtain ⟨aB, hB, hBs⟩ := T.bits
  refine F.ok scRR (fun vs H Q E h => ?_) (fun cdv A outer s H vs Q E hr h => ?_)
  · obtain ⟨n, rfl, _⟩ := h
    rfl
  · obtain ⟨n, rfl, hn, q⟩ := h
    refine ⟨_, pss_cons (ps_par (i := 1) (j := 2) rfl scRR.nd rfl rfl (by decide) rfl rfl (pa_cons (pe_ix ix_tup (pe_glob (v := .ref aB) (by rfl) hB rfl) (pv 0) (fun _ _ => rfl)) (pa_cons (pe_lst (pa_cons (pe_tup pa_nil) pa_nil)) pa_nil)) (by rfl))
      (pss_cons (ps_for PassesOwn.never rfl (pi_range1 (by rfl) Z.range (pa_cons (pv 1) pa_nil)) (pg_name (i := 3) scRR.nd rfl (Or.inl rfl))
        (pss_one (ps_setLc2 (i := 2) (own := [("row", 5), ("entry", 6)]) (vs1 := [6]) (g := gName 5) (g1 := gName 6) (tt := tYes) (tt1 := tYes) rfl scRR.nd rfl rfl (sw_true rfl rfl rfl (by decide +kernel))
          (pi_list (pv 2)) (blkOk_by (N := nRR) (sc := defScope sRR) (by decide +kernel)) (by decide)
          (fun _ _ _ _ _ => pg_name (i := 5) scRR.nd rfl (Or.inl rfl)) (fun _ _ _ _ _ => pts_nil) (fun _ _ _ _ _ => piTK K (pe_tup (pa_cons pe_int (pa_cons pe_int pa_nil))))
          (fun _ _ _ _ _ => pg_name (i := 6) scRR.nd rfl (Or.inl rfl)) (fun _ _ _ _ _ => pts_nil)
          (fun _ _ _ _ _ => pe_tup (starK K (pv 5) (pa_cons (pv 6) pa_nil))))))
      (pss_cons (ps_set (i := 4) scRR.nd rfl (Or.inr rfl) (pe_lc2 (own := [("one", 7), ("mode", 8)]) (vs1 := [8]) (g := gName 7) (g1 := gName 8) (tt := tYes) (tt1 := tYes) rfl scRR.nd
          (pi_range1 (by rfl) Z.range (pa_cons (pv 1) pa_nil)) (blkOk_by (N := nRR) (sc := defScope sRR) (by decide +kernel)) (by decide)
          (fun _ _ _ _ _ => pg_name (i := 7) scRR.nd rfl (Or.inl rfl)) (fun _ _ _ _ _ => pts_nil) (fun _ _ _ _ _ => pi_range1 (by rfl) Z.range (pa_cons (pv 0) pa_nil))
          (fun _ _ _ _ _ => pg_name (i := 8) scRR.nd rfl (Or.inl rfl)) (fun _ _ _ _ _ => pts_nil)
          (fun _ _ _ _ _ => pe_tup (pa_cons (pv 7) (pa_cons (pe_op op_or (pv 7) (pe_ix (ixTK K) (pe_glob (v := .ref aB) (by rfl) hB rfl) (pv 8) (fun _ _ => rfl))) pa_nil)))))
      (pss_one (ps_ret (pe_lc (own := [("row", 5)]) (g := gName 5) rfl scRR.nd (pi_list (pv 2)) (blkOk_by (N := nRR) (sc := defScope sRR) (by decide +kernel))
        (fun _ _ _ _ _ => pg_name (i := 5) scRR.nd rfl (Or.inr rfl))
        (fun _ _ _ _ _ => pts_one (pt_val (pe_callB (allK K) (by rfl) Z.all B.all (pa_cons (pe_lc (own := [("one", 7), ("other", 9)]) (g := gTup K 2 (gCons (gName 7) (gCons (gName 9) gNil))) (tt := tYes) rfl scRR.nd
          (piLK K (pv 4)) (blkOk_by (N := nRR) (by kernel_rfl))
          (fun _ _ _ _ _ => pg_tup rfl (pgs_cons (pg_name (i := 7) scRR.nd rfl (Or.inl rfl)) (pgs_cons (pg_name (i := 9) scRR.nd rfl (Or.inl rfl)) pgs_nil))) (fun _ _ _ _ _ => pts_nil)
          (fun _ _ _ _ _ => pe_cmpR op_le (pe_ix (ixTK K) (pv 5) (pv 7) (fun _ _ => rfl)) (pe_ix (ixTK K) (pv 5) (pv 9) (fun _ _ => rfl)) (nomark _))) pa_nil))))
        (fun _ _ _ _ _ => pv 5)))))), ?_⟩
    have hp := pw2_rng hn
    have hn2 : 1 ≤ n ∧ n ≤ 2 := by rcases hn with rfl | rfl <;> decide
    -- many, found = BITS[modes], [()]
    refine ⟨_, rfl, aB, _, n, _, rfl, rfl, hBs _, ix_bits hn, Nat.zero_le _, fun u hu => ?_⟩
    refine ⟨by show 1 ≤ sizeLine; decide, fun f0 hf0 => ⟨_, _, rfl, ?_⟩⟩
    have e0 : Ex H (upd (upd H u (.tup [])) f0 (.lst [.ref u])) := (Ex.new hu).then_new hf0
    refine ⟨_, rfl, pw2 n, rfl, by omega, by omega, for_range (lo := 0) (n := (pw2 n).toNat) (fun i σ H1 => ∃ fA t3 ys, σ = [some (.int n), some (.int (pw2 n)), some (.ref fA), t3, none, none, none, none, none, none] ∧ Ex H H1 ∧ H1 fA = some (.lst ys) ∧ Paired (fun r y => TupI r y H1) (bins i) ys)
      ⟨f0, none, [.ref u], rfl, e0, upd_same, .cons ⟨u, rfl, by rw [upd_ne (apart hf0).symm, upd_same]; rfl⟩ .nil⟩ ?_ ?_⟩
    · rintro i σ H1 hi ⟨fA, t3, ys, rfl, e1, hys, hP⟩
      obtain ⟨zs, z1, z2, z3⟩ := paired_zip hP
      refine ⟨_, rfl, fA, rfl, ⟨ys, SqL.of hys⟩, fun D hD => ?_⟩
      have hlen : zs.length = 2 ^ i := by rw [← List.length_map (f := Prod.fst), z1, bins_len]
      have h8 : 2 ^ i ≤ 8 := Nat.le_trans (Nat.pow_le_pow_right (by decide) (show i ≤ 3 by omega)) (by decide)
      refine lcE2 (Y1 := fun u x => x = V.int u) zs ([0, 1] : List Int) (fun _ => true) (fun z y H' => TupI (z.1.1 ++ [z.2]) y H') hD ((w0_listP (E := Ex) (p := Prod.snd) fun H' e => SqL.ex e (SqL.of (by rw [z2]; exact hys))).wk Ex.refl) (by rw [hlen]; show 2 ^ i * 2 ≤ 3000; omega)
        (fun z y A B h x => x.tk h) (fun _ => rfl) (fun _ _ => rfl) (fun z x H2 Rk hz e2 hY k1 => ?_) (fun z u x x1 H2 Qk Qs hz hu e2 hY hY1 k1 k2 => ?_) fun H2 zs' e2 hD' hP2 => ?_
      · refine ⟨by show 2 ≤ sizeLine; decide, fun p hp' => ⟨p, rfl, ⟨_, SqT.of upd_same⟩, ?_⟩⟩
        exact k1 _ _ (.new hp') (w0_tupP (p := V.int) (l := ([0, 1] : List Int)) fun H' e => SqT.of (e.tk _ _ upd_same))
      · subst hY hY1
        obtain ⟨v, hv, hv2⟩ := z3 z hz
        dsimp only [tYes]
        rw [if_pos rfl]
        refine ⟨_, rfl, v, _, hv, .inl (SqT.of (e2.tup hv2)), _, rfl, ?_, fun p hp' => ?_⟩
        · show (z.1.map V.int ++ [V.int u]).length ≤ sizeLine
          rw [List.length_append, List.length_map, bins_row i z.1 (by rw [← z1]; exact List.mem_map_of_mem hz)]
          exact Nat.le_of_lt (small1000 (by show i + 1 ≤ 1000; omega))
        · exact k1 _ _ rfl (.new hp') ⟨p, rfl, by rw [upd_same, List.map_append]; rfl⟩
      · rw [List.filter_eq_self.mpr (fun _ _ => rfl)] at hP2
        refine ⟨D, _, zs', rfl, e1.trans e2, hD', ?_⟩
        · have q2 := paired_gl (F := fun r y => TupI r y H2) (g := fun z : (List Int × V) × Int => z.1.1 ++ [z.2]) hP2
          rw [prs_map Prod.fst (fun p : List Int × Int => p.1 ++ [p.2]) zs [0, 1], z1] at q2
          exact q2
    · rintro σ H1 ⟨fA, t3, ys, rfl, e1, hys, hP⟩
      obtain ⟨zs, z1, z2, z3⟩ := paired_zip hP
      have hlen : zs.length ≤ 16 := by
        rw [← List.length_map (f := Prod.fst), z1, bins_len]
        exact Nat.le_trans (Nat.pow_le_pow_right (by decide) (show (pw2 n).toNat ≤ 4 by omega)) (by decide)
      -- steps
      refine ⟨_, rfl, pw2 n, rfl, by omega, by omega, fun D hD => ?_⟩
      refine lcE2 (Y1 := fun u x => x = V.int (u : Nat)) (List.range (pw2 n).toNat) (List.range n.toNat) (fun _ => true) (fun z y H' => ∃ u, y = .ref u ∧ H' u = some (.tup [.int z.1, .int (Builtin.bitOr z.1 (bitV z.2))])) hD ((w0_range (pw2 n).toNat Ex).wk Ex.refl) ?_
        (fun z y A B h ⟨u, e1, e2⟩ => ⟨u, e1, h _ _ e2⟩) (fun _ => rfl) (fun _ _ => rfl) (fun z x H2 Rk hz e2 hY k1 => ?_) (fun z u x x1 H2 Qk Qs hz hu e2 hY hY1 k1 k2 => ?_) fun H2 ss e2 hD' hP2 => ?_
      · rw [List.length_range, List.length_range]
        rcases hn with rfl | rfl <;> decide
      · exact ⟨_, rfl, n, rfl, by omega, by omega, k1 _ _ (.refl _) (w0_range n.toNat _)⟩
      · subst hY hY1
        dsimp only [tYes]
        rw [if_pos rfl]
        refine ⟨_, rfl, _, rfl, _, rfl, aB, _, (u : Nat), _, rfl, rfl, hBs _, ix_bit hn hu, (z : Nat), bitV u, rfl, rfl, by show 2 ≤ sizeLine; decide, fun p hp => ?_⟩
        exact k1 _ _ rfl (.new hp) ⟨p, rfl, upd_same⟩
      · rw [List.filter_eq_self.mpr (fun _ _ => rfl)] at hP2
        have hys2 : H2 fA = some (.lst ys) := e2.lst hys
        -- the rows that rise
        refine ⟨_, rfl, fA, rfl, ⟨ys, SqL.of hys2⟩, fun D2 hD2 => ?_⟩
        refine lcT zs (fun z => upRow n z.1) (fun z y H' => TupI z.1 y H') hD2 ((w0_listP (E := Ex) (p := Prod.snd) fun H' e => SqL.ex e (SqL.of (by rw [z2]; exact hys2))).wk Ex.refl) (by omega)
          (fun z y A B h x => x.tk h) (fun _ => rfl) (fun z x H3 Qk Qs hz e3 hY k1 k2 => ?_) fun H3 rs e3 hD3 hP3 => ?_
        · subst hY
          obtain ⟨v, hv, hv2⟩ := z3 z hz
          have hrow : z.1.length = (pw2 n).toNat := bins_row _ z.1 (by rw [← z1]; exact List.mem_map_of_mem hz)
          refine ⟨_, rfl, D, rfl, ⟨_, SqL.of (e3.lst hD')⟩, fun D3 hD3 => ?_⟩
          refine lcY2 (stepsL n) (fun z => .int z.1) (fun z => .int (Builtin.bitOr z.1 (bitV z.2))) (fun u y _ => y = .bl (decide (z.1.getD u.1 0 ≤ z.1.getD (Builtin.bitOr u.1 (bitV u.2)).toNat 0))) hD3
            (wk_pairs (SqL.of (e3.lst hD')) (Paired.mapP hP2 fun a b ⟨t, h1, h2⟩ => ⟨t, h1, e3.tup h2⟩)) ?_ (fun _ _ _ _ _ h => h) (fun _ _ => rfl) (fun u H4 Qk' hu e4 k1' => ?_) fun H4 bs e4 hD4 hP4 => ?_
          · rcases hn with rfl | rfl <;> decide
          · obtain ⟨r1, r2, r3⟩ := steps_rng hn u hu
            have hv4 : H4 v = some (.tup (z.1.map V.int)) := e4.tup (e3.tup (e2.tup hv2))
            refine ⟨_, rfl, _, rfl, v, _, _, _, hv, rfl, SqT.of hv4, at_map (by omega) (by omega), _, rfl, _, rfl, v, _, _, _, hv, rfl, SqT.of hv4, at_map r2 (by omega), _, _, rfl, rfl, ?_⟩
            exact k1' _ _ (.refl _) rfl
          · have ey : bs = ((stepsL n).map fun u => decide (z.1.getD u.1 0 ≤ z.1.getD (Builtin.bitOr u.1 (bitV u.2)).toNat 0)).map V.bl := by rw [paired_eq hP4, List.map_map]; rfl
            subst ey
            refine ⟨D3, _, rfl, SqL.of hD4, _, rfl, ?_⟩
            rw [all_map]
            cases hb : upRow n z.1 with
            | true =>
              rw [show ((stepsL n).all fun u => decide (z.1.getD u.1 0 ≤ z.1.getD (Builtin.bitOr u.1 (bitV u.2)).toNat 0)) = true from hb]
              exact iteT ⟨_, rfl, k1 _ _ hb e4 ⟨v, hv, e4.tup (e3.tup (e2.tup hv2))⟩⟩
            | false =>
              rw [show ((stepsL n).all fun u => decide (z.1.getD u.1 0 ≤ z.1.getD (Builtin.bitOr u.1 (bitV u.2)).toNat 0)) = false from hb]
              exact iteF (k2 _ hb e4)
        · refine q H3 D2 rs (e1.trans (e2.trans e3)) hD3 ?_
          have q2 := paired_gl (F := fun r y => TupI r y H3) (g := Prod.fst) hP3
          have q3 : (zs.filter fun z => upRow n z.1).map Prod.fst = rowsM n := by
            unfold rowsM
            rw [← z1, List.filter_map]
            rfl
          rw [q3] at q2
          exact q2
end
end Hw
/-! maps -/
namespace Hw
open PySem PySem.Spec PyProof.Rows L2
theorem paired_perm {α β : Type} {F : α → β → Prop} {ys xs : List β} (p : ys.Perm xs) : ∀ {l : List α}, Paired F l xs → ∃ l', l'.Perm l ∧ Paired F l' ys := by
  induction p with
  | nil => exact fun h => ⟨_, .refl _, h⟩
  | cons x _ ih =>
    intro l h
    cases h with
    | cons r t =>
      obtain ⟨l', p', h'⟩ := ih t
      exact ⟨_, p'.cons _, .cons r h'⟩
  | swap x y r =>
    intro l h
    cases h with
    | cons r1 t =>
      cases t with
      | cons r2 t => exact ⟨_, .swap _ _ _, .cons r2 (.cons r1 t)⟩
  | trans _ _ i1 i2 =>
    intro l h
    obtain ⟨l1, p1, h1⟩ := i2 h
    obtain ⟨l2, p2, h2⟩ := i1 h1
    exact ⟨l2, p2.trans p1, h2⟩
/-- the maps by their first modes -/
def mapsAt (n : Int) : Nat → List (List Int)
  | 0 => [constM n 0]
  | i + 1 => (prs (mapsAt n i) (rowsM n)).map fun p => withRow i p.1 p.2
def mapsM (n : Int) : List (List Int) := mapsAt n n.toNat
/-- entries below four, of the right length -/
def okMap (n : Int) (r : List Int) : Bool := decide ((r.length : Int) = pw2 n) && r.all fun x => decide (0 ≤ x ∧ x < 4)
theorem maps_ok {n : Int} (h : N12 n) : ∀ i, i ≤ n.toNat → (mapsAt n i).length ≤ 36 ∧ (mapsAt n i).all (okMap n) = true := by
  rcases h with rfl | rfl
  · intro i hi
    have : i = 0 ∨ i = 1 := by
      have : i ≤ 1 := hi
      omega
    rcases this with rfl | rfl <;> decide +kernel
  · intro i hi
    have : i = 0 ∨ i = 1 ∨ i = 2 := by
      have : i ≤ 2 := hi
      omega
    rcases this with rfl | rfl | rfl <;> decide +kernel
theorem rows_ok {n : Int} (h : N12 n) : (rowsM n).length ≤ 6 ∧ (rowsM n).all (fun r => decide ((r.length : Int) = pw2 n)) = true := by
  rcases h with rfl | rfl <;> decide +kernel
section
variable {P : Program} {w : World} {K : PySem.W.Frag} {mg : Str → Option Value} {base : Heap} {C : Addr}
abbrev nMaps : List Str := ["self", "rows", "found", "mode", "one", "row"]
theorem scMaps : FnScope nMaps ["self"] (defScope (mS 3)) := ⟨rfl, rfl, rfl, by decide +kernel, rfl, by decide +kernel, by decide +kernel⟩
def spMaps (C : Addr) : Sp := fun vs H Q _ => ∃ a n, vs = [.ref a] ∧ N12 n ∧ SpaceAt C H a n ∧ ∀ H' p ys L, Ex H H' → H' p = some (.tup ys) → L.Perm (mapsM n) → Paired (fun r y => TupI r y H') L ys → Q (.ref p) H'
theorem ok_maps {f : Addr} {fd : FuncData} {k : Nat} (F : Fun K "maps" "Space.maps" (mS 3) f fd) (Z : Free mg) (T : SpT K mg C) (c : Ca P w K mg base CX0 k "rising_rows" ["modes"] spRR) (c2 : CaM P w K mg base C k "with_row" ["self", "one", "row", "mode"] spWR) :
    FnOk P w K mg base CX0 (k + 1) f fd ["self"] (spMaps C) := by
  obtain ⟨fW, fdW, FW, mW, bW⟩ := c2.ex
  refine F.ok scMaps (fun vs H Q E h => ?_) (fun cdv A outer s H vs Q E hr h => ?_)
  · obtain ⟨a, n, rfl, _⟩ := h
    rfl
  · obtain ⟨a, n, rfl, hn, ⟨dx, ha⟩, q⟩ := h
    have hp := pw2_rng hn
    have hn2 : 1 ≤ n ∧ n ≤ 2 := by rcases hn with rfl | rfl <;> decide
    refine ⟨_, pss_cons (ps_asg (pe_tup (pa_cons (pe_ca c hr (by rfl) pass0 (pa_cons (pe_fld (pv 0) rfl) pa_nil)) (pa_cons (pe_lst (pa_cons (pe_op op_repT (pe_tup (pa_cons pe_int pa_nil)) (pe_fld (pv 0) rfl)) pa_nil)) pa_nil)))
        (pg_tup rfl (pgs_cons (pg_name (i := 1) scMaps.nd rfl (Or.inr rfl)) (pgs_cons (pg_name (i := 2) scMaps.nd rfl (Or.inl rfl)) pgs_nil))))
      (pss_cons (ps_for PassesOwn.never rfl (pi_range1 (by rfl) Z.range (pa_cons (pe_fld (pv 0) rfl) pa_nil)) (pg_name (i := 3) scMaps.nd rfl (Or.inr rfl))
        (pss_one (ps_setLc2 (i := 2) (own := [("one", 4), ("row", 5)]) (vs1 := [5]) (g := gName 4) (g1 := gName 5) (tt := tYes) (tt1 := tYes) rfl scMaps.nd rfl rfl (sw_true rfl rfl rfl (by decide +kernel))
          (pi_list (pv 2)) (blkOk_by (N := nMaps) (sc := defScope (mS 3)) (by decide +kernel)) (by decide)
          (fun _ _ _ _ _ => pg_name (i := 4) scMaps.nd rfl (Or.inl rfl)) (fun _ _ _ _ _ => pts_nil) (fun _ _ _ _ _ => piLK K (pv 1))
          (fun _ _ _ _ _ => pg_name (i := 5) scMaps.nd rfl (Or.inl rfl)) (fun _ _ _ _ _ => pts_nil)
          (fun _ _ _ _ _ => pe_meth (pv 0) T.cl mW FW hr bW .nil pass0 (pa_cons (pv 4) (pa_cons (pv 5) (pa_cons (pv 3) pa_nil)))))))
      (pss_one (ps_ret (pe_callTy call_tuple_of (by rfl) Z.tuple B.tuple (pa_cons (pe_callB (cr_sortT (d := (pw2 n).toNat) (B := 4) (by omega)) (by rfl) Z.sorted B.sorted (pa_cons (pv 2) pa_nil)) pa_nil))))), ?_⟩
    -- rows, found = rising_rows(..), [(0,) * ..]
    refine ⟨_, rfl, a, C, dx, _, _, rfl, ha, T.cl, T.nM, spF_modes n, n, rfl, hn, fun H1 aR rs e1 hR hPR => ?_⟩
    refine ⟨by show 1 ≤ sizeLine; decide, fun t1 ht1 => ⟨_, rfl, a, C, dx, _, _, rfl, (e1.then_new ht1).ins ha, T.cl, T.nY, spF_many n, t1, pw2 n, _, rfl, rfl, SqT.of upd_same, by simp, hp.1, by omega, by show 1 ≤ 1000; decide, fun t2 ht2 => ?_⟩⟩
    refine ⟨by show 1 ≤ sizeLine; decide, fun f0 hf0 => ⟨by show 2 ≤ sizeLine; decide, fun t3 ht3 => ?_⟩⟩
    refine ⟨t3, _, rfl, SqT.of upd_same, rfl, _, _, rfl, _, _, rfl, rfl, ?_⟩
    have e5 := (((e1.then_new ht1).then_new ht2).then_new hf0).then_new (o := .tup [.ref aR, .ref f0]) ht3
    have e15 := (((Ex.new ht1).then_new ht2).then_new hf0).then_new (o := .tup [.ref aR, .ref f0]) ht3
    generalize hH5 : upd (upd (upd (upd H1 t1 _) t2 _) f0 _) t3 _ = H5 at e5 e15 ⊢
    have hf5 : H5 f0 = some (.lst [.ref t2]) := by rw [← hH5, upd_ne (apart ht3).symm, upd_same]
    have ht5 : H5 t2 = some (.tup ((constM n 0).map V.int)) := by
      rw [← hH5, upd_ne (ne_of_none (by rw [upd_ne (apart hf0).symm, upd_same]) ht3), upd_ne (apart hf0).symm, upd_same, constM_map]
    have hR5 : H5 aR = some (.lst rs) := e15.lst hR
    have hPR5 : Paired (fun r y => TupI r y H5) (rowsM n) rs := Paired.mapP hPR fun _ _ x => x.tk e15.tk
    obtain ⟨us, u1, u2, u3⟩ := paired_zip hPR5
    obtain ⟨rl, rk⟩ := rows_ok hn
    refine ⟨_, rfl, a, C, dx, _, _, rfl, e5.ins ha, T.cl, T.nM, spF_modes n, n, rfl, by omega, by omega, for_range (lo := 0) (n := n.toNat) (fun i σ H1 => ∃ fA t3 ys, σ = [some (.ref a), some (.ref aR), some (.ref fA), t3, none, none] ∧ Ex H5 H1 ∧ H1 fA = some (.lst ys) ∧ Paired (fun r y => TupI r y H1) (mapsAt n i) ys)
      ⟨f0, none, _, rfl, .refl _, hf5, .cons ⟨t2, rfl, ht5⟩ .nil⟩ ?_ ?_⟩
    · rintro i σ H6 hi ⟨fA, t3, ys, rfl, e6, hys, hP⟩
      obtain ⟨zs, z1, z2, z3⟩ := paired_zip hP
      obtain ⟨ml, mk⟩ := maps_ok hn i (by omega)
      have hlz : zs.length ≤ 36 := by rw [← List.length_map (f := Prod.fst), z1]; exact ml
      have hlu : us.length ≤ 6 := by rw [← List.length_map (f := Prod.fst), u1]; exact rl
      refine ⟨_, rfl, fA, rfl, ⟨ys, SqL.of hys⟩, fun D hD => ?_⟩
      have hRD : aR ≠ D := ne_of_none (e6.lst hR5) hD
      refine lcE2 (Y1 := fun u x => x = u.2) zs us (fun _ => true) (fun z y H' => TupI (withRow i z.1.1 z.2.1) y H') hD ((w0_listP (E := Ex) (p := Prod.snd) fun H' e => SqL.ex e (SqL.of (by rw [z2]; exact hys))).wk Ex.refl) (by
          have := Nat.mul_le_mul hlz hlu
          omega)
        (fun z y A B h x => x.tk h) (fun _ => rfl) (fun _ _ => rfl) (fun z x H2 Rk hz e2 hY k1 => ?_) (fun z u x x1 H2 Qk Qs hz hu e2 hY hY1 k1 k2 => ?_) fun H2 zs' e2 hD' hP2 => ?_
      · refine ⟨_, rfl, aR, rfl, ⟨rs, SqL.of (e2.lst (e6.lst hR5))⟩, k1 _ _ (.refl _) (w0_listP (p := Prod.snd) fun H' e => SqL.of ?_)⟩
        rw [u2]
        exact e.lst hRD (e2.lst (e6.lst hR5))
      · subst hY hY1
        obtain ⟨v, hv, hv2⟩ := z3 z hz
        obtain ⟨v', hv', hv2'⟩ := u3 u hu
        have ok1 := List.all_eq_true.mp mk z.1 (by rw [← z1]; exact List.mem_map_of_mem hz)
        have ok2 := of_decide_eq_true (List.all_eq_true.mp rk u.1 (by rw [← u1]; exact List.mem_map_of_mem hu))
        have ok3 := of_decide_eq_true (Bool.and_eq_true _ _ ▸ ok1).1
        dsimp only [tYes]
        rw [if_pos rfl]
        refine ⟨_, rfl, a, dx, _, rfl, e2.ins (e6.ins (e5.ins ha)), rfl, _, rfl, _, rfl, _, rfl, ?_⟩
        refine ⟨.ref a, v, v', z.1, u.1, i, ?_, e2.tup hv2, e2.tup (e6.tup hv2'), by omega, by omega, by omega, fun H7 y e7 hy => k1 y H7 rfl e7 hy⟩
        show [V.ref a, z.2, u.2, V.int (0 + (i : Nat))] = [V.ref a, V.ref v, V.ref v', V.int (i : Nat)]
        rw [hv, hv', Int.zero_add]
      · rw [List.filter_eq_self.mpr (fun _ _ => rfl)] at hP2
        refine ⟨D, _, zs', rfl, e6.trans e2, hD', ?_⟩
        have q2 := paired_gl (F := fun r y => TupI r y H2) (g := fun z : (List Int × V) × (List Int × V) => withRow i z.1.1 z.2.1) hP2
        have q3 : (prs zs us).map (fun z : (List Int × V) × (List Int × V) => withRow i z.1.1 z.2.1) = mapsAt n (i + 1) := by
          show _ = (prs (mapsAt n i) (rowsM n)).map _
          rw [← z1, ← u1]
          unfold prs
          rw [List.map_flatMap, List.flatMap_map, List.map_flatMap]
          simp only [List.map_map, Function.comp_def]
        rw [q3] at q2
        exact q2
    · rintro σ H6 ⟨fA, t3, ys, rfl, e6, hys, hP⟩
      obtain ⟨ml, mk⟩ := maps_ok hn n.toNat (Nat.le_refl _)
      refine ⟨_, rfl, fA, ys, rfl, SqL.of hys, by rw [← Paired.length hP]; omega, fun x hx => ?_, fun ss p hperm _ hp' => ?_⟩
      · obtain ⟨r, hr', t, hx1, hx2⟩ := paired_mem hP x hx
        have ok1 := List.all_eq_true.mp mk r hr'
        have ok2 := (Bool.and_eq_true _ _ ▸ ok1)
        have ok3 := of_decide_eq_true ok2.1
        exact ⟨r, ⟨t, hx1, SqT.of hx2⟩, by omega, fun y hy => of_decide_eq_true (List.all_eq_true.mp ok2.2 y hy)⟩
      · obtain ⟨L, pL, hL⟩ := paired_perm hperm hP
        refine ⟨p, ss, rfl, .inl ⟨SqL.of upd_same, fun l hl => ?_⟩⟩
        refine q _ l ss L ((e5.trans e6).then_new hp' |>.then_new hl) upd_same pL (Paired.mapP hL fun _ _ x => x.tk ((TK.new hp').trans (TK.new hl)))
end
end Hw
/-! dicts whose keys are tuples of whole numbers, or tuples of such -/
namespace Hw
open PySem PySem.Spec PyProof.Rows L2
inductive Ky where
  | flat (ns : List Int)
  | one (m : List Int) (more : List (List Int))
  deriving DecidableEq
def nums (ns : List Int) : NestedKey := .tup (ns.map NestedKey.num)
def Ky.nk : Ky → NestedKey
  | .flat ns => nums ns
  | .one m more => .tup ((m :: more).map nums)
theorem nums_inj {a b : List Int} (h : nums a = nums b) : a = b := by
  unfold nums at h
  exact List.map_inj_right (fun x y e => NestedKey.num.inj e) |>.mp (NestedKey.tup.inj h)
theorem Ky.nk_inj {x y : Ky} (h : x.nk = y.nk) : x = y := by
  cases x with
  | flat a =>
    cases y with
    | flat b => rw [nums_inj h]
    | one m more =>
      have e := NestedKey.tup.inj h
      cases a with
      | nil => cases e
      | cons z r =>
        rw [List.map_cons, List.map_cons] at e
        cases (List.cons.inj e).1
  | one m more =>
    cases y with
    | flat b =>
      have e := NestedKey.tup.inj h
      cases b with
      | nil => cases e
      | cons z r =>
        rw [List.map_cons, List.map_cons] at e
        cases (List.cons.inj e).1
    | one m' more' =>
      have e := List.map_inj_right (fun x y e => nums_inj e) |>.mp (NestedKey.tup.inj h)
      cases e
      rfl
def kyKind (P : Program) (w : World) : HeapKind P w Ky where
  is := fun h k a => (nestedKind P w).is h k.nk a
  hash := fun k => (nestedKind P w).hash k.nk
  draws := fun k => (nestedKind P w).draws k.nk
  room := (nestedKind P w).room
  inj := fun hx hy => Ky.nk_inj ((nestedKind P w).inj hx hy)
  keeps := fun x y z u => (nestedKind P w).keeps x y z u
  pyHash := fun hu hk h => (nestedKind P w).pyHash hu hk h
  eqBool := fun {A E s x y a b Q} hu hx hy h => (nestedKind P w).eqBool hu hx hy (by
    have e : decide (x.nk = y.nk) = decide (x = y) := by
      by_cases q : x = y
      · rw [decide_eq_true q, decide_eq_true (congrArg Ky.nk q)]
      · rw [decide_eq_false q, decide_eq_false fun z => q (Ky.nk_inj z)]
    rw [e]
    exact h)
  quiet := fun hk h => (nestedKind P w).quiet hk h
theorem kyKind_stays {P : Program} {w : World} : (kyKind P w).Stays where
  stays := fun {h h' k a} hk x => (nestedKind_stays (prog := P) (w := w)).stays (k := k.nk) (a := a) hk x
  tuple := fun {s k a} x => (nestedKind_stays (prog := P) (w := w)).tuple (k := k.nk) (a := a) x
/-- the tuple at a is the key k -/
def KyAt (H : Hp) : Ky → Addr → Prop
  | .flat ns, a => H a = some (.tup (ns.map V.int))
  | .one m more, a => ∃ xs, H a = some (.tup xs) ∧ Paired (fun r y => TupI r y H) (m :: more) xs
section
variable {P : Program} {w : World} {H H' : Hp} {h : Heap} {a d : Addr} {k : Ky}
theorem KyAt.tk (x : KyAt H k a) (e : TK H H') : KyAt H' k a := by
  cases k with
  | flat ns => exact e _ _ x
  | one m more =>
    obtain ⟨xs, h1, h2⟩ := x
    exact ⟨xs, e _ _ h1, Paired.mapP h2 fun _ _ q => q.tk e⟩
theorem nested_nums : ∀ {ns : List Int} {its : List Value}, Vals (ns.map V.int) its → NestedAll h (ns.map NestedKey.num) its
  | [], _, .nil => .nil
  | n :: ns, _, .cons r t => by
    obtain ⟨u, rfl⟩ := r
    exact .cons (.int n u) (nested_nums t)
theorem depth_nums : ∀ ns : List Int, NestedKey.depthAll (ns.map NestedKey.num) = 0
  | [] => rfl
  | n :: ns => by
    rw [List.map_cons, NestedKey.depthAll, depth_nums ns]
    rfl
theorem depth_keys : ∀ ms : List (List Int), NestedKey.depthAll (ms.map nums) ≤ 1
  | [] => by simp [NestedKey.depthAll]
  | m :: ms => by
    have ih := depth_keys ms
    have e : (nums m).depth = 1 := by unfold nums; rw [NestedKey.depth, depth_nums]
    rw [List.map_cons, NestedKey.depthAll, e]
    omega
theorem nested_tupI (ok : HOk P w H h) {r : List Int} {y : V} {u : Value} (t : TupI r y H) (ru : RelV y u) : NestedIs h (nums r) u := by
  obtain ⟨t', rfl, ht⟩ := t
  cases ru
  obtain ⟨_, its, rv, o, h1, h2, n, h3⟩ := ok _ _ ht
  exact .tup h1 h2 h3 (by simpa using nested_nums rv)
theorem nested_tups (ok : HOk P w H h) : ∀ {ms : List (List Int)} {xs : List V} {its : List Value}, Paired (fun r y => TupI r y H) ms xs → Vals xs its → NestedAll h (ms.map nums) its
  | [], _, _, .nil, .nil => .nil
  | m :: ms, _, _, .cons r t, .cons r' t' => .cons (nested_tupI ok r r') (nested_tups ok t t')
theorem KyAt.is (ok : HOk P w H h) (x : KyAt H k a) : (kyKind P w).is h k a := by
  cases k with
  | flat ns =>
    obtain ⟨_, its, rv, o, h1, h2, n, h3⟩ := ok _ _ x
    refine ⟨.tup h1 h2 h3 (by simpa using nested_nums rv), ?_⟩
    show NestedKey.depth (nums ns) ≤ 8
    unfold nums
    rw [NestedKey.depth, depth_nums]
    omega
  | one m more =>
    obtain ⟨xs, hx, hp⟩ := x
    obtain ⟨_, its, rv, o, h1, h2, n, h3⟩ := ok _ _ hx
    refine ⟨.tup h1 h2 h3 (by simpa using nested_tups ok hp rv), ?_⟩
    show NestedKey.depth (.tup ((m :: more).map nums)) ≤ 8
    rw [NestedKey.depth]
    have := depth_keys (m :: more)
    omega
/-- the object at a is ob -/
def fz (a : Addr) (ob : Obj) : HO := .ext fun h => h.get? a = some ob
theorem fz_ok {ob : Obj} (x : h.get? a = some ob) : ObjOk P w H h a (fz a ob) :=
  ⟨x, ⟨ob, x⟩, fun _ _ q k => k _ q⟩
theorem fz_get {ob : Obj} (ok : HOk P w H h) (x : H a = some (fz a ob)) : h.get? a = some ob := (ok a _ x).1
def ent (w : World) (x : Ky × Addr × Value) : DictEntry := ⟨x.1.nk.hash w, .ref x.2.1, x.2.2⟩
abbrev EnR : Ky × Addr × V → Ky × Addr × Value → Prop := fun k x => x.1 = k.1 ∧ x.2.1 = k.2.1 ∧ RelV k.2.2 x.2.2
/-- a dict of n entries stands at d -/
def DLen (H : Hp) (d : Addr) (n : Nat) : Prop := ∃ ob es ep, H d = some (fz d ob) ∧ (d == sysModules) = false ∧ ob.ExactDict ∧ ob.data = .dict es ep ∧ es.size = n ∧ n ≤ 1001
/-- a dict with these keys and values stands at d -/
structure DN (w : World) (H : Hp) (d : Addr) (ks : List (Ky × Addr × V)) : Prop where
  ob : ∃ ob ep xs, H d = some (fz d ob) ∧ (d == sysModules) = false ∧ ob.ExactDict ∧ ob.data = .dict (xs.map (ent w)).toArray ep ∧ Paired EnR ks xs
  len : ks.length ≤ 1000
  nd : (ks.map (·.1)).Nodup
  kd : ∀ k ∈ ks, KyAt H k.1 k.2.1
variable {ks : List (Ky × Addr × V)}
theorem fz_nt {ob : Obj} : ∀ ps, fz a ob ≠ .tbl ps := fun _ z => by cases z
theorem fz_tup {ob : Obj} : ∀ ps, fz a ob ≠ .tup ps := fun _ z => by cases z
theorem DN.ex (x : DN w H d ks) (e : Ex H H') : DN w H' d ks := by
  obtain ⟨ob, ep, xs, h1, r⟩ := x.ob
  exact ⟨⟨ob, ep, xs, e _ _ h1 fz_nt, r⟩, x.len, x.nd, fun k hk => (x.kd k hk).tk e.tk⟩
theorem DN.exJ {j : Addr} (x : DN w H d ks) (e : ExJ j H H') (n : d ≠ j) : DN w H' d ks := by
  obtain ⟨ob, ep, xs, h1, r⟩ := x.ob
  exact ⟨⟨ob, ep, xs, e.at_ _ _ n h1 fz_nt, r⟩, x.len, x.nd, fun k hk => (x.kd k hk).tk e.tk⟩
theorem DLen.ex {n : Nat} (x : DLen H d n) (e : Ex H H') : DLen H' d n := by
  obtain ⟨ob, es, ep, h1, r⟩ := x
  exact ⟨ob, es, ep, e _ _ h1 fz_nt, r⟩
theorem DLen.exJ {n : Nat} {j : Addr} (x : DLen H d n) (e : ExJ j H H') (m : d ≠ j) : DLen H' d n := by
  obtain ⟨ob, es, ep, h1, r⟩ := x
  exact ⟨ob, es, ep, e.at_ _ _ m h1 fz_nt, r⟩
theorem DN.dlen (x : DN w H d ks) : DLen H d ks.length := by
  obtain ⟨ob, ep, xs, h1, h2, h3, h4, h5⟩ := x.ob
  refine ⟨ob, _, ep, h1, h2, h3, h4, ?_, by have := x.len; omega⟩
  rw [List.size_toArray, List.length_map, Paired.length h5]
/-- .. in the heap -/
theorem DN.of (ok : HOk P w H h) (x : DN w H d ks) : ∃ ob ep xs, H d = some (fz d ob) ∧ (d == sysModules) = false ∧ ob.ExactDict ∧ ob.data = .dict (xs.map (ent w)).toArray ep ∧ Paired EnR ks xs ∧ h.get? d = some ob ∧ h.DictOfH (kyKind P w) d xs := by
  obtain ⟨ob, ep, xs, h1, h2, h3, h4, h5⟩ := x.ob
  have hg := fz_get ok h1
  refine ⟨ob, ep, xs, h1, h2, h3, h4, h5, hg, ob, _, ep, hg, h3, h4, rfl, fun y hy => ?_, ?_⟩
  · obtain ⟨k, hk, e1, e2, e3⟩ := paired_mem h5 y hy
    rw [e1, e2]
    exact (x.kd k hk).is ok
  · have e := paired_map (G := fun k : Ky × Addr × V => k.1) (m := fun x : Ky × Addr × Value => x.1) (fun _ _ r => r.1) h5
    rw [e]
    exact x.nd
def valK (ks : List (Ky × Addr × V)) (k : Ky) : Option V := (ks.find? fun x => decide (x.1 = k)).map (·.2.2)
def putKy (ks : List (Ky × Addr × V)) (k : Ky) (a : Addr) (v : V) : List (Ky × Addr × V) :=
  if (valK ks k).isSome then ks.map (fun x => if x.1 = k then (x.1, x.2.1, v) else x) else ks ++ [(k, a, v)]
theorem valK_at (k : Ky) : ∀ {ks : List (Ky × Addr × V)} {xs : List (Ky × Addr × Value)}, Paired EnR ks xs →
    (valK ks k = none ∧ atKey xs k = none) ∨ ∃ v b u, valK ks k = some v ∧ atKey xs k = some (b, u) ∧ RelV v u
  | _, _, .nil => .inl ⟨rfl, rfl⟩
  | x :: ks, y :: xs, .cons r t => by
    obtain ⟨e1, e2, e3⟩ := r
    by_cases q : x.1 = k
    · refine .inr ⟨x.2.2, y.2.1, y.2.2, ?_, ?_, e3⟩
      · unfold valK
        rw [List.find?_cons, decide_eq_true q]
        rfl
      · unfold atKey
        rw [List.find?_cons, decide_eq_true (e1.trans q)]
        rfl
    · have a1 : valK (x :: ks) k = valK ks k := by
        unfold valK
        rw [List.find?_cons, decide_eq_false q]
      have a2 : atKey (y :: xs) k = atKey xs k := by
        unfold atKey
        rw [List.find?_cons, decide_eq_false (fun z => q (e1.symm.trans z))]
      rw [a1, a2]
      exact valK_at k t
theorem putKy_at {k : Ky} {b : Addr} {v : V} {u : Value} (hv : RelV v u) {xs : List (Ky × Addr × Value)} (p : Paired EnR ks xs) : Paired EnR (putKy ks k b v) (storedH xs k b u) := by
  rcases valK_at k p with ⟨e1, e2⟩ | ⟨z, c, y, e1, e2, e3⟩
  · unfold putKy storedH
    rw [e1, e2]
    exact paired_snoc p ⟨rfl, rfl, hv⟩
  · unfold putKy storedH
    rw [e1, e2]
    show Paired EnR (ks.map _) (xs.map _)
    clear e1 e2 e3
    induction p with
    | nil => exact .nil
    | cons r t ih =>
      refine .cons ?_ ih
      obtain ⟨r1, r2, r3⟩ := r
      unfold putAt
      dsimp only
      split
      · rename_i q
        rw [if_pos (r1.trans q)]
        exact ⟨r1, r2, hv⟩
      · rename_i q
        rw [if_neg (fun z => q (r1.symm.trans z))]
        exact ⟨r1, r2, r3⟩
theorem putKy_len (ks : List (Ky × Addr × V)) (k : Ky) (b : Addr) (v : V) : (putKy ks k b v).length ≤ ks.length + 1 := by
  unfold putKy
  split
  · rw [List.length_map]; omega
  · rw [List.length_append]; exact Nat.le_refl _
theorem valK_none {k : Ky} (h : valK ks k = none) : ∀ x ∈ ks, x.1 ≠ k := fun x hx q => by
  unfold valK at h
  rw [Option.map_eq_none_iff, List.find?_eq_none] at h
  exact h x hx (decide_eq_true q)
theorem valK_some {k : Ky} {v : V} (h : valK ks k = some v) : ∃ x ∈ ks, x.1 = k ∧ x.2.2 = v := by
  unfold valK at h
  rw [Option.map_eq_some_iff] at h
  obtain ⟨x, hx, e⟩ := h
  exact ⟨x, List.mem_of_find?_eq_some hx, by simpa using List.find?_some hx, e⟩
theorem valK_of (nd : (ks.map (·.1)).Nodup) {x : Ky × Addr × V} (hx : x ∈ ks) : valK ks x.1 = some x.2.2 := by
  induction ks with
  | nil => cases hx
  | cons y r ih =>
    rw [List.map_cons, List.nodup_cons] at nd
    unfold valK
    rw [List.find?_cons]
    rcases List.mem_cons.mp hx with e | hx
    · subst e
      rw [decide_eq_true rfl]
      rfl
    · have q : y.1 ≠ x.1 := fun z => nd.1 (by rw [z]; exact List.mem_map_of_mem hx)
      rw [decide_eq_false q]
      exact ih nd.2 hx
theorem putKy_keys (ks : List (Ky × Addr × V)) (k : Ky) (b : Addr) (v : V) : (putKy ks k b v).map (·.1) = if (valK ks k).isSome then ks.map (·.1) else ks.map (·.1) ++ [k] := by
  unfold putKy
  split
  · rw [List.map_map]
    refine List.map_congr_left fun x _ => ?_
    show (if x.1 = k then (x.1, x.2.1, v) else x).1 = x.1
    split <;> rfl
  · rw [List.map_append]
    rfl
theorem putKy_nd {k : Ky} {b : Addr} {v : V} (nd : (ks.map (·.1)).Nodup) : ((putKy ks k b v).map (·.1)).Nodup := by
  rw [putKy_keys]
  cases e : valK ks k with
  | some z => exact nd
  | none =>
    show (ks.map (·.1) ++ [k]).Nodup
    refine List.nodup_append.mpr ⟨nd, by simp, fun x hx y hy => ?_⟩
    rw [List.mem_singleton.mp hy]
    obtain ⟨z, hz, q⟩ := List.mem_map.mp hx
    rw [← q]
    exact valK_none e z hz
theorem putKy_kd {k : Ky} {b : Addr} {v : V} (kd : ∀ x ∈ ks, KyAt H x.1 x.2.1) (hk : KyAt H k b) : ∀ x ∈ putKy ks k b v, KyAt H x.1 x.2.1 := by
  intro x hx
  unfold putKy at hx
  split at hx
  · obtain ⟨y, hy, e⟩ := List.mem_map.mp hx
    rw [← e]
    split <;> exact kd y hy
  · rcases List.mem_append.mp hx with hx | hx
    · exact kd x hx
    · rw [List.mem_singleton.mp hx]
      exact hk
end
section
variable {X : Cx}
theorem cr_lenD : CallR X (.builtin "len") (fun xs H Q => ∃ d n, xs = [.ref d] ∧ DLen H d n ∧ Q (.int (n : Nat)) H) := by
  intro pins s σ H xs us Q I r h
  obtain ⟨d, n, rfl, ⟨ob, es, ep, h1, h2, h3, h4, h5, h6⟩, q⟩ := h
  obtain ⟨u, rfl, rx⟩ := vals1 r
  cases rx
  have hg := fz_get I.hok h1
  have raw : s.heap.DictRaw d es ep := ⟨ob, hg, h3, h4⟩
  refine PyProof.Rows.call_len_slot (n := (n : Nat)) raw.typeIs F.slot_dict_len (fun Q' hq => call_len_raw h2 raw (by rw [h5]; exact hq)) (by omega) (by omega) ⟨.int (n : Nat), H, I.tok _, ⟨_, rfl⟩, q⟩
theorem cr_isiD : CallR X (.builtin "isinstance") (fun xs H Q => ∃ d n, xs = [.ref d, .ty "dict"] ∧ DLen H d n ∧ Q (.bl true) H) := by
  intro pins s σ H xs us Q I r h
  obtain ⟨d, n, rfl, ⟨ob, es, ep, h1, h2, h3, h4, h5, h6⟩, q⟩ := h
  cases r with
  | cons r1 r =>
    cases r with
    | cons r2 r =>
      cases r
      cases r1
      cases r2
      have hg := fz_get I.hok h1
      exact PySem.W.kia_one PySem.W.kitx_dict I.kIn ⟨ob, hg, h3.1⟩ (b := true) (kit_ty (a := "dict") (b := "dict") (by decide +kernel)) (fun z => nomatch z) fun tk => ⟨.bl true, H, I.tok tk, rfl, q⟩
end
end Hw
/-! such dicts: reading, writing, walking -/
namespace Hw
open PySem PySem.Spec PyProof.Rows L2
def rIxD (w : World) : R2 := fun x y H Q => ∃ d ks a k v, x = .ref d ∧ y = .ref a ∧ DN w H d ks ∧ KyAt H k a ∧ valK ks k = some v ∧ Q v H
def rNotIn (w : World) : R2 := fun x y H Q => ∃ d ks a k, x = .ref a ∧ y = .ref d ∧ DN w H d ks ∧ KyAt H k a ∧ Q (.bl (!(valK ks k).isSome)) H
def tPutD (w : World) : TSet := fun x y v H Q => ∃ d ks a k, x = .ref d ∧ y = .ref a ∧ DN w H d ks ∧ ks.length < 1000 ∧ KyAt H k a ∧ ∀ ob, DN w (upd H d (fz d ob)) d (putKy ks k a v) → Q (upd H d (fz d ob))
/-- the walk of a dict's keys -/
def Itk9 (w : World) (d : Addr) (ob : Obj) (es : List DictEntry) (ks : List (Ky × Addr × V)) : It :=
  ⟨fun i H => H d = some (fz d ob) ∧ i < ks.length, fun i H x H' => H' = H ∧ ∃ k, ks[i]? = some k ∧ x = .ref k.2.1, fun i H => H d = some (fz d ob) ∧ ks.length ≤ i⟩
section
variable {X : Cx}
theorem room9 (hu : X.A.units + 64 < cLine) : (kyKind X.prog X.w).room X.A.in1 := by
  show X.A.units + 1 + 8 < cLine
  omega
theorem ix_dN (hu : X.A.units + 64 < cLine) : IxR X (rIxD X.w) := by
  intro value slice pins s σ H x y v u Q I rx ry h hs
  obtain ⟨d, ks, a, k, z, rfl, rfl, hd, hk, hv, q⟩ := h
  cases rx
  cases ry
  obtain ⟨ob, ep, xs, h1, h2, h3, h4, h5, h6, h7⟩ := hd.of I.hok
  rcases valK_at k h5 with ⟨e1, _⟩ | ⟨v', b, u', e1, e2, e3⟩
  · rw [e1] at hv; cases hv
  · rw [e1] at hv
    cases hv
    exact subscriptTail_builtinR (x := u') h7.typeIs F.slot_dict_getitem.lookup
      (wpAny_getItem_heap (Q := fun r s' => r = u' ∧ EP X pins σ Q r s') (room9 hu) (hk.is I.hok) h7 e2 ⟨rfl, z, H, I.tok _, e3, q⟩) hs
theorem op_notInN (hu : X.A.units + 64 < cLine) : OpR X (compareOp .NotIn) (rNotIn X.w) := by
  intro pins s σ H x y v u Q I rx ry h
  obtain ⟨d, ks, a, k, rfl, rfl, hd, hk, q⟩ := h
  cases rx
  cases ry
  obtain ⟨ob, ep, xs, h1, h2, h3, h4, h5, h6, h7⟩ := hd.of I.hok
  refine notIn_keyed (room9 hu) (hk.is I.hok) h2 ⟨xs, h7, rfl⟩ ⟨.bl (!(valK ks k).isSome), H, I.tok _, ?_, q⟩
  rw [valueAt_pairsH]
  rcases valK_at k h5 with ⟨e1, e2⟩ | ⟨v', b, u', e1, e2, e3⟩
  · rw [e1, e2]; rfl
  · rw [e1, e2]; rfl
theorem ents_of {P : Program} {w : World} {xs : List (Ky × Addr × Value)} {es : Array DictEntry} (h : es.toList = xs.map (entryOfKey (kyKind P w))) : es = (xs.map (ent w)).toArray := by
  have e : (es.toList).toArray = (xs.map (entryOfKey (kyKind P w))).toArray := by rw [h]
  rw [Array.toArray_toList] at e
  exact e
/-- a dict just written or made, told -/
theorem dn_of {P : Program} {w : World} {H : Hp} {h : Heap} {d : Addr} {ks : List (Ky × Addr × V)} {xs : List (Ky × Addr × Value)} (hs : (d == sysModules) = false) (dd : h.DictOfH (kyKind P w) d xs) (p : Paired EnR ks xs) (len : ks.length ≤ 1000)
    (kd : ∀ k ∈ ks, KyAt H k.1 k.2.1) : ∃ ob, h.get? d = some ob ∧ (TK H (upd H d (fz d ob)) → DN w (upd H d (fz d ob)) d ks) := by
  obtain ⟨ob, es, ep, h1, h2, h3, h4, h5, h6⟩ := dd
  refine ⟨ob, h1, fun tk => ⟨⟨ob, ep, xs, upd_same, hs, h2, by rw [h3, ents_of h4], p⟩, len, ?_, fun k hk => (kd k hk).tk tk⟩⟩
  have e := paired_map (G := fun k : Ky × Addr × V => k.1) (m := fun x : Ky × Addr × Value => x.1) (fun _ _ r => r.1) p
  rw [← e]
  exact h6
theorem ps_dN (hu : X.A.units + 64 < cLine) : PSet X (tPutD X.w) := by
  intro pins s σ H o i v ov iv u Q I ro ri rv h
  obtain ⟨d, ks, a, k, rfl, rfl, hd, hl, hk, q⟩ := h
  cases ro
  cases ri
  obtain ⟨ob, ep, xs, h1, h2, h3, h4, h5, h6, h7⟩ := hd.of I.hok
  have hsz : xs.length ≤ sizeLine := by
    rw [← Paired.length h5, sizeLine_eq]
    omega
  refine wpAny_setItem_heap (hsz := hsz) (room9 hu) (hk.is I.hok) h7 fun h' dd hs => ?_
  obtain ⟨ob', g, dn⟩ := dn_of (H := H) h2 dd (putKy_at (b := a) rv h5) (by have := putKy_len ks k a v; omega) (putKy_kd hd.kd hk)
  have tk : TK H (upd H d (fz d ob')) := .put h1 fz_tup
  refine ⟨_, I.write (x := d) (e := d) (t' := s.toks + (kyKind X.prog X.w).draws k) (by rw [h1]; exact True.intro) (.inl rfl) (fun b o hb e => (hs.2 b hb).trans e) ⟨ob', g⟩ (fz_ok g), q ob' (dn tk)⟩
/-! ### for key in d -/
theorem turn_keys9 {P : Program} {w : World} {K : PySem.W.Frag} {tg : Expr} {d it : Addr} {ob : Obj} {ep : Nat} {xs : List (Ky × Addr × Value)} {ks : List (Ky × Addr × V)} (h3 : ob.ExactDict) (h4 : ob.data = .dict (xs.map (ent w)).toArray ep) (h5 : Paired EnR ks xs) :
    Turn P w K tg (Itk9 w d ob (xs.map (ent w)) ks) [it] it (fun i h => h.IsKeyIter it d i (xs.map (ent w)).toArray.size ep) where
  mem := by simp
  obj := fun i h st b hb => by
    have e : b = it := by simpa using hb
    subst e
    obtain ⟨oi, e, c, dd⟩ := st
    exact ⟨oi, e, fun v z => by rw [dd] at z; cases z⟩
  keep := fun i h h' st k => st.at fun oi e => k it (by simp) oi e
  item := by
    intro X hP hw hK hc i pins s σ H E I hf st hg
    subst hP hw hK
    obtain ⟨hd, hi⟩ := hg
    obtain ⟨f0, f1, f2, f3, f4, f5⟩ := hf it (by simp)
    have raw : s.heap.DictRaw d (xs.map (ent X.w)).toArray ep := ⟨ob, fz_get I.hok hd, h3, h4⟩
    have hl : ks.length = xs.length := Paired.length h5
    have hi' : i < (xs.map (ent X.w)).toArray.size := by rw [List.size_toArray, List.length_map]; omega
    refine wpAny_pyNext_keys_item_raw st raw hi' fun h' st' sb => ?_
    have I1 : Inv X pins σ H { s with heap := h' } := I.turned (t' := s.toks) (fun b ob hb e => (sb.2 b hb).trans e) f0 f1 f3 f4 f5
    obtain ⟨oi, e, c, dd⟩ := id st'
    obtain ⟨y, hy, e1, e2, e3⟩ := LiI.paired_get h5 (List.getElem?_eq_getElem hi)
    have ek : (xs.map (ent X.w)).toArray[i].key = .ref ks[i].2.1 := by
      have q : (xs.map (ent X.w))[i]? = some (ent X.w y) := by rw [List.getElem?_map, hy]; rfl
      obtain ⟨q1, q2⟩ := List.getElem?_eq_some_iff.mp q
      rw [List.getElem_toArray, q2, ← e2]
      rfl
    refine ⟨_, rfl, go_of (s := { s with heap := h' }) e c dd (by decide) ⟨.ref ks[i].2.1, H, I1, ek, ⟨rfl, ks[i], List.getElem?_eq_getElem hi, rfl⟩, st', fun b hb => (hf b hb).1⟩⟩
  done := by
    intro X hP hw hK hc i pins s σ H E I hf st hg
    subst hP hw hK
    obtain ⟨hd, hi⟩ := hg
    obtain ⟨f0, f1, f2, f3, f4, f5⟩ := hf it (by simp)
    have raw : s.heap.DictRaw d (xs.map (ent X.w)).toArray ep := ⟨ob, fz_get I.hok hd, h3, h4⟩
    have hl : ks.length = xs.length := Paired.length h5
    exact wpAny_pyNext_keys_end_raw (I.ok.hd hc) st raw (by rw [List.size_toArray, List.length_map]; omega) fun h' eb => ⟨rfl, I.turned (t' := s.toks) (fun b ob hb e => eb b ob hb e) f0 f1 f3 f4 f5⟩
  self := fun A i s Q E st h => wpAny_pyIter_keyiter st h
def iKey9 (w : World) (td : TE) : TI := fun σ H R => td σ H fun x H1 => ∃ d ks, x = .ref d ∧ DN w H1 d ks ∧ ∀ J, Wk Ex J H1 ks (fun k y _ => y = .ref k.2.1) → R J H1
theorem pi_key9 {tg e : Expr} {td : TE} (he : PE X e td) : PI X tg e (iKey9 X.w td) := by
  refine ⟨fun pins s σ H R I h => ?_⟩
  refine thn (he.run pins s σ H _ I h) fun u s1 ⟨x, H1, I1, rx, d, ks, ex, hd, q⟩ => ?_
  subst ex
  cases rx
  obtain ⟨ob, ep, xs, h1, h2, h3, h4, h5⟩ := hd.ob
  have raw : s1.heap.DictRaw d (xs.map (ent X.w)).toArray ep := ⟨ob, fz_get I1.hok h1, h3, h4⟩
  refine wpAny_pyIter_dict_raw h2 raw (pi_one (tk := s1.toks) I1 _ (turn_keys9 h3 h4 h5) ⟨_, Heap.get?_push_size _ rfl, rfl, rfl⟩ (q _ ?_))
  exact {
    go := fun i H e hi => ⟨e _ _ h1 fz_nt, hi⟩
    yld := fun i H x H' z e hy hz => by
      obtain ⟨rfl, k, hk, rfl⟩ := hy
      rw [hk] at hz
      cases hz
      exact ⟨.refl _, rfl⟩
    stop := fun H e => ⟨e _ _ h1 fz_nt, Nat.le_refl _⟩ }
end
end Hw
/-! such dicts: values, items, dict(pairs), displays -/
namespace Hw
open PySem PySem.Spec PyProof.Rows L2
theorem pvals {w : World} : ∀ {ks : List (Ky × Addr × V)} {xs : List (Ky × Addr × Value)}, Paired EnR ks xs → Vals (ks.map (·.2.2)) (xs.map (·.2.2))
  | _, _, .nil => .nil
  | _, _, .cons r t => .cons r.2.2 (pvals (w := w) t)
def tListVals (w : World) (te : TE) : TE := fun σ H Q => te σ H fun x H1 => ∃ d ks, x = .ref d ∧ DN w H1 d ks ∧ ∀ p, H1 p = none → Q (.ref p) (upd H1 p (.lst (ks.map (·.2.2))))
def tListItems9 (w : World) (te : TE) : TE := fun σ H Q => te σ H fun x H1 => ∃ d ks, x = .ref d ∧ DN w H1 d ks ∧ ∀ H' p ys, Ex H1 H' → H1 p = none → H' p = some (.lst ys) → Paired (fun (k : Ky × Addr × V) y => ∃ t, y = .ref t ∧ H' t = some (.tup [.ref k.2.1, k.2.2])) ks ys → Q (.ref p) H'
/-- tuples tracked at their addresses -/
def putP : Hp → List Addr → List (V × V) → Hp
  | H, a :: as, p :: ps => putP (upd H a (.tup [p.1, p.2])) as ps
  | H, _, _ => H
theorem putP_off {b : Addr} : ∀ (as : List Addr) (ps : List (V × V)) (H : Hp), b ∉ as → putP H as ps b = H b
  | [], _, _, _ => rfl
  | _ :: _, [], _, _ => rfl
  | a :: as, p :: ps, H, h => by
    show putP (upd H a (.tup [p.1, p.2])) as ps b = H b
    rw [putP_off as ps _ (fun z => h (List.mem_cons_of_mem _ z)), upd_ne (fun z => h (by rw [z]; exact List.mem_cons_self))]
theorem putP_at : ∀ (as : List Addr) (ps : List (V × V)) (H : Hp), as.length = ps.length → as.Nodup → Paired (fun (p : V × V) (t : Addr) => putP H as ps t = some (.tup [p.1, p.2])) ps as
  | [], [], _, _, _ => .nil
  | [], _ :: _, _, h, _ => by cases h
  | _ :: _, [], _, h, _ => by cases h
  | a :: as, p :: ps, H, h, hn => by
    have hn' := List.nodup_cons.mp hn
    refine .cons ?_ (putP_at as ps (upd H a (.tup [p.1, p.2])) (Nat.succ.inj h) hn'.2)
    show putP (upd H a (.tup [p.1, p.2])) as ps a = some (.tup [p.1, p.2])
    rw [putP_off as ps _ hn'.1, upd_same]
theorem vals_refs : ∀ as : List Addr, Vals (as.map V.ref) (as.map Value.ref)
  | [] => .nil
  | _ :: as => .cons rfl (vals_refs as)
theorem paired_lr {α β γ : Type} {F : α → β → Prop} {f : γ → α} : ∀ {l : List γ} {ys : List β}, Paired F (l.map f) ys → Paired (fun z y => F (f z) y) l ys
  | [], _, .nil => .nil
  | _ :: _, _, .cons r t => .cons r (paired_lr t)
theorem paired_rr {α β γ : Type} {F : α → β → Prop} {f : γ → β} : ∀ {l : List α} {ys : List γ}, Paired (fun z y => F z (f y)) l ys → Paired F l (ys.map f)
  | _, _, .nil => .nil
  | _, _, .cons r t => .cons r (paired_rr t)
/-- .. the other way about -/
theorem paired_ri {α β : Type} {F : α → β → Prop} : ∀ {l : List α} {ys : List β}, Paired F l ys → ∀ {i : Nat} {y : β}, ys[i]? = some y → ∃ x, l[i]? = some x ∧ F x y
  | _, _, .nil, i, y, h => by cases h
  | _, _, .cons r t, 0, y, h => by
    have e := Option.some.inj h
    subst e
    exact ⟨_, rfl, r⟩
  | _, _, .cons r t, i + 1, y, h => paired_ri t h
section
variable {X : Cx}
theorem pairs_laid {pins : List (Addr × Obj)} {σ : L2.St} {H : Hp} {s : Shared} {h' : Heap} {tk : Nat} {ks : List (Ky × Addr × V)} {xs : List (Ky × Addr × Value)} {acc : Array Value} {c : Nat} {as : List Addr} (I : Inv X pins σ H s) (hz : ks.length ≤ 1000) (pk : Paired EnR ks xs)
    (hk : ∀ b o, s.heap.get? b = some o → h'.get? b = some o) (hS : h'.get? s.heap.objs.size = some { cls := .type "list", dict := none, data := .seq acc c, slots := #[] }) (hl : as.length = (xs.map (ent X.w)).toArray.size) (hG : PySem.W.DilG (xs.map (ent X.w)).toArray s.heap.objs.size h' as) (hacc : acc.toList = as.map Value.ref) :
    ∃ H' : Hp, (∀ b o, H b = some o → H' b = some o) ∧ H s.heap.objs.size = none ∧ H' s.heap.objs.size = some (.lst (as.map V.ref)) ∧ Paired (fun (k : Ky × Addr × V) (t : Addr) => H' t = some (.tup [.ref k.2.1, k.2.2])) ks as ∧ Inv X pins σ H' { s with heap := h', toks := tk } := by
  have lk : ks.length = xs.length := Paired.length pk
  rw [List.size_toArray, List.length_map] at hl
  have hSn : s.heap.objs.size ∉ as := fun z => Nat.lt_irrefl _ (hG.above _ z)
  have nd : as.Nodup := List.Pairwise.imp (fun {a b} (h : a < b) => Nat.ne_of_lt h) hG.rise
  have new : ∀ t ∈ as, H t = none := fun t ht => I.hok.fresh (Nat.le_of_lt (hG.above t ht))
  have newS : H s.heap.objs.size = none := I.hok.fresh (Nat.le_refl _)
  generalize hM : putP (upd H s.heap.objs.size (.lst (as.map V.ref))) as (ks.map fun k => ((.ref k.2.1 : V), k.2.2)) = M
  have atP : Paired (fun (k : Ky × Addr × V) (t : Addr) => M t = some (.tup [.ref k.2.1, k.2.2])) ks as := by
    have q := putP_at as (ks.map fun k => ((.ref k.2.1 : V), k.2.2)) (upd H s.heap.objs.size (.lst (as.map V.ref))) (by rw [List.length_map]; omega) nd
    rw [hM] at q
    exact paired_lr q
  have off : ∀ b, b ∉ as → b ≠ s.heap.objs.size → M b = H b := fun b h1 h2 => by rw [← hM, putP_off as _ _ h1, upd_ne h2]
  have low : ∀ b o, s.heap.get? b = some o → b ∉ as ∧ b ≠ s.heap.objs.size := fun b o e => ⟨fun z => absurd (Heap.lt_size e) (Nat.not_lt.mpr (Nat.le_of_lt (hG.above b z))), Nat.ne_of_lt (Heap.lt_size e)⟩
  have kp : ∀ b u, H b = some u → M b = some u := fun b u e => by
    rw [off b (fun z => by rw [new b z] at e; cases e) (fun z => by rw [z, newS] at e; cases e)]
    exact e
  have eS : M s.heap.objs.size = some (.lst (as.map V.ref)) := by rw [← hM, putP_off as _ _ hSn, upd_same]
  refine ⟨M, kp, newS, eS, atP, ?_⟩
  refine I.call' (ch := []) rfl ⟨fun b o q _ _ _ => hk b o q, fun b o q _ _ _ => ⟨o.slots, hk b o q⟩, fun b o q n _ => ?_, fun b o q _ => ⟨o, hk b o q⟩, fun b xs q => kp b _ q, fun b o u q => kp b _ q, fun b ps q => ⟨#[], by rw [kp b _ q]; simp⟩⟩ (fun b u q => ?_) I.bare fun b z => by simp at z
  · obtain ⟨z1, z2⟩ := low b o q
    rw [off b z1 z2]
    exact n
  · by_cases hb : b ∈ as
    · obtain ⟨j, hj⟩ := List.mem_iff_getElem?.mp hb
      obtain ⟨k, hkj, e3⟩ := paired_ri atP hj
      rw [e3] at q
      cases q
      obtain ⟨f1, f3⟩ := hG.pairs j b hj
      obtain ⟨y, hy, g1, g2, g3⟩ := LiI.paired_get pk hkj
      have ee : (xs.map (ent X.w)).toArray[j] = ent X.w y := by
        have q : (xs.map (ent X.w))[j]? = some (ent X.w y) := by rw [List.getElem?_map, hy]; rfl
        obtain ⟨q1, q2⟩ := List.getElem?_eq_some_iff.mp q
        rw [List.getElem_toArray, q2]
      rw [ee] at f3
      refine ⟨by show 2 ≤ sizeLine; decide, [.ref y.2.1, y.2.2], .cons ?_ (.cons g3 .nil), ⟨_, f3, rfl, _, rfl⟩⟩
      rw [g2]
      rfl
    · by_cases hb2 : b = s.heap.objs.size
      · rw [hb2] at q ⊢
        rw [eS] at q
        cases q
        refine ⟨by rw [List.length_map, sizeLine_eq]; omega, acc.toList, c, by rw [hacc]; exact vals_refs as, ?_⟩
        rw [Array.toArray_toList]
        exact hS
      · rw [off b hb hb2] at q
        exact (I.hok b u q).stay (fun d v _ y => hk d v y) (fun d y => kp d _ y) fun d xs y => kp d _ y
variable {e : Expr} {te : TE} {p apos cpos pos : Pos}
/-- list(e.items()) -/
theorem pe_listItems9 (hc : X.calm = true) (he : PE X e te) (hg : Gl X "list") (hm : X.mg "list" = none) (hbase : attributeBase e "items" X.env (eval e X.env) = eval e X.env := by rfl) (hline : (apos.endLine == cpos.line) = true := by rfl)
    (hs : starEach [.Call (.Attribute e "items" apos) [] [] cpos] X.env = (false, eval (.Call (.Attribute e "items" apos) [] [] cpos) X.env) :: starEach [] X.env := by rfl) :
    PE X (.Call (.Name "list" p) [.Call (.Attribute e "items" apos) [] [] cpos] [] pos) (tListItems9 X.w te) := by
  refine ⟨fun pins s σ H Q I hq => ?_⟩
  refine wpAny_Call_Name_kw (ld_blt I hg hm B.list ?_)
  refine PyProof.Rows.callWith_type1 ?_ hs rfl
  rw [hs]
  show wpAny _ _ (spliced ((false, eval (.Call (.Attribute e "items" apos) [] [] cpos) X.env) :: backTo pos (starEach [] X.env))) _ _ s
  refine Calls.spliced_cons ?_
  refine wpAny_Call_method (T := "dict") (id := "dict.items") hbase rfl hline F.plainAttrs_dict F.slot_dict_items F.type_dict_items (thn (he.run pins s σ H _ I hq) fun u s1 ⟨x, H1, I1, rx, d, ks, ex, hd, q⟩ => ?_)
  subst ex
  obtain rfl : u = Value.ref d := rx
  obtain ⟨ob, ep, xs, h1, h2, h3, h4, h5⟩ := hd.ob
  have hg := fz_get I1.hok h1
  have raw : s1.heap.DictRaw d (xs.map (ent X.w)).toArray ep := ⟨ob, hg, h3, h4⟩
  have hlen := hd.len
  have lk : ks.length = xs.length := Paired.length h5
  have I2 : Inv X pins σ H1 { s1 with heap := s1.heap.push { cls := .type "dict_items", data := .fields #[.ref d] } } := I1.kept (t' := s1.toks) fun b ob q => Heap.get?_push_of_some _ q
  refine ⟨raw.typeIs, ?_, ?_⟩
  · intro b q
    cases q
    exact ⟨ob, hg, h3.2.1⟩
  show wpAny _ _ (callWith cpos (.builtin "dict.items") [.ref d] [] []) _ X.xe s1
  refine method_meetsIn F.slot_dict_items F.entry_dict_items rfl (PySem.evalArgs_none ⟨rfl, raw.typeIs, F.args_dict_items_1 _, _, meets_dict_items_raw d h2, ⟨⟨_, ep, raw⟩, ?_⟩⟩)
  refine Calls.spliced_nil ?_
  refine PySem.W.dil_call (es := (xs.map (ent X.w)).toArray) (ep := ep) (I1.ok.hd hc) ⟨_, Heap.get?_push_size _ rfl, rfl, rfl⟩ (raw.at fun o e => Heap.get?_push_of_some _ e) (by rw [List.size_toArray, List.length_map, sizeLine_eq]; omega) fun h' tk acc c as hk hS hl hG hacc => ?_
  obtain ⟨H', k1, k2, k3, k4, J⟩ := pairs_laid (tk := tk) I2 hlen h5 hk hS hl hG hacc
  refine ⟨.ref _, H', J, rfl, q H' _ _ (.of k1) k2 k3 (paired_rr (Paired.mapP k4 fun k t e => ⟨t, rfl, e⟩))⟩
/-- list(e.values()) -/
theorem pe_listVals9 (hc : X.calm = true) (he : PE X e te) (hg : Gl X "list") (hm : X.mg "list" = none) (hbase : attributeBase e "values" X.env (eval e X.env) = eval e X.env := by rfl) (hline : (apos.endLine == cpos.line) = true := by rfl)
    (hs : starEach [.Call (.Attribute e "values" apos) [] [] cpos] X.env = (false, eval (.Call (.Attribute e "values" apos) [] [] cpos) X.env) :: starEach [] X.env := by rfl) :
    PE X (.Call (.Name "list" p) [.Call (.Attribute e "values" apos) [] [] cpos] [] pos) (tListVals X.w te) := by
  refine ⟨fun pins s σ H Q I hq => ?_⟩
  refine wpAny_Call_Name_kw (ld_blt I hg hm B.list ?_)
  refine PyProof.Rows.callWith_type1 ?_ hs rfl
  rw [hs]
  show wpAny _ _ (spliced ((false, eval (.Call (.Attribute e "values" apos) [] [] cpos) X.env) :: backTo pos (starEach [] X.env))) _ _ s
  refine Calls.spliced_cons ?_
  refine wpAny_Call_method (T := "dict") (id := "dict.values") hbase rfl hline F.plainAttrs_dict F.slot_dict_values F.type_dict_values (thn (he.run pins s σ H _ I hq) fun u s1 ⟨x, H1, I1, rx, d, ks, ex, hd, q⟩ => ?_)
  subst ex
  obtain rfl : u = Value.ref d := rx
  obtain ⟨ob, ep, xs, h1, h2, h3, h4, h5⟩ := hd.ob
  have hg := fz_get I1.hok h1
  have raw : s1.heap.DictRaw d (xs.map (ent X.w)).toArray ep := ⟨ob, hg, h3, h4⟩
  have hlen := hd.len
  have lk : ks.length = xs.length := Paired.length h5
  have I2 : Inv X pins σ H1 { s1 with heap := s1.heap.push { cls := .type "dict_values", data := .fields #[.ref d] } } := I1.kept (t' := s1.toks) fun b ob q => Heap.get?_push_of_some _ q
  refine ⟨raw.typeIs, ?_, ?_⟩
  · intro b q
    cases q
    exact ⟨ob, hg, h3.2.1⟩
  show wpAny _ _ (callWith cpos (.builtin "dict.values") [.ref d] [] []) _ X.xe s1
  refine method_meetsIn F.slot_dict_values F.entry_dict_values rfl (PySem.evalArgs_none ⟨rfl, raw.typeIs, F.args_dict_values_1 _, _, meets_dict_values_raw d h2, ⟨⟨_, ep, raw⟩, ?_⟩⟩)
  refine Calls.spliced_nil ?_
  refine PySem.W.kdl_call (PySem.KdlSrc.rawValues (es := (xs.map (ent X.w)).toArray) (ep := ep) (d := d) (r := s1.heap.objs.size)) (I1.ok.hd hc) ⟨⟨_, Heap.get?_push_size _ rfl, rfl, rfl⟩, raw.at fun o e => Heap.get?_push_of_some _ e⟩ (by rw [List.size_toArray, List.length_map, sizeLine_eq]; omega) fun h' tk acc c hk hS hit => ?_
  have ha : acc = (xs.map (·.2.2)).toArray := by
    obtain ⟨z1, z2⟩ := hit
    have z1' : acc.size = xs.length := by simpa using z1
    refine Array.ext (by rw [z1', List.size_toArray, List.length_map]) fun j j1 j2 => ?_
    obtain ⟨y1, y2⟩ := z2 j _ (by simpa using (List.getElem?_eq_getElem (l := acc.toList) (by simpa using j1)))
    refine Eq.trans (by simp) (y2.trans ?_)
    simp [ent]
  subst ha
  have hp := I2.hok.fresh (Nat.le_refl (s1.heap.push { cls := .type "dict_values", data := .fields #[.ref d] }).objs.size)
  exact ⟨.ref _, _, I2.laid (o := .lst (ks.map (·.2.2))) (t' := tk) hk (Nat.le_refl _) ⟨by rw [List.length_map, sizeLine_eq]; omega, xs.map (·.2.2), c, pvals (w := X.w) h5, hS⟩, rfl, q _ hp⟩
end
end Hw
/-! such dicts: dict(pairs), displays -/
namespace Hw
open PySem PySem.Spec PyProof.Rows L2
section
variable {P : Program} {w : World}
theorem storedAll_new : ∀ (ps acc : List (Ky × Addr × Value)), ((acc ++ ps).map (·.1)).Nodup → storedAllH acc ps = acc ++ ps
  | [], acc, _ => by rw [List.append_nil]; rfl
  | p :: ps, acc, h => by
    show storedAllH (storedH acc p.1 p.2.1 p.2.2) ps = acc ++ p :: ps
    have hn : atKey acc p.1 = none := by
      unfold atKey
      rw [Option.map_eq_none_iff, List.find?_eq_none]
      intro x hx q
      have q' : x.1 = p.1 := of_decide_eq_true q
      rw [List.map_append, List.map_cons, List.nodup_append] at h
      exact h.2.2 x.1 (List.mem_map_of_mem hx) p.1 List.mem_cons_self q'
    rw [storedH_new hn]
    have e : acc ++ p :: ps = (acc ++ [(p.1, p.2.1, p.2.2)]) ++ ps := by rw [List.append_assoc]; rfl
    rw [e] at h ⊢
    exact storedAll_new ps _ h
/-- the list of pairs, taken apart -/
theorem pairs_apart {H : Hp} {h : Heap} (ok : HOk P w H h) : ∀ {ks : List (Ky × Addr × V)} {ys : List V}, Paired (fun (k : Ky × Addr × V) y => ∃ t, y = .ref t ∧ H t = some (.tup [.ref k.2.1, k.2.2])) ks ys →
    ∃ (ts : List Addr) (xs : List (Ky × Addr × Value)), ys = ts.map V.ref ∧ Paired EnR ks xs ∧ Paired (fun (t : Addr) (x : Ky × Addr × Value) => PairAt h t (.ref x.2.1) x.2.2) ts xs
  | [], _, .nil => ⟨[], [], rfl, .nil, .nil⟩
  | k :: ks, y :: ys, .cons r t => by
    obtain ⟨t', rfl, ht⟩ := r
    obtain ⟨ts, xs, e1, e2, e3⟩ := pairs_apart ok t
    obtain ⟨_, its, rv, o, h1, h2, n, h3⟩ := ok _ _ ht
    cases rv with
    | cons r1 rv =>
      cases rv with
      | cons r2 rv =>
        cases rv
        cases r1
        exact ⟨t' :: ts, (k.1, k.2.1, _) :: xs, by rw [List.map_cons, e1], .cons ⟨rfl, rfl, r2⟩ e2, .cons (.inl ⟨o, h1, h2, n, h3⟩) e3⟩
theorem vals_refs_eq : ∀ {ts : List Addr} {its : List Value}, Vals (ts.map V.ref) its → its = ts.map Value.ref
  | [], _, .nil => rfl
  | t :: ts, _, .cons r q => by
    cases r
    rw [List.map_cons, vals_refs_eq q]
end
section
variable {X : Cx}
def rDictOf (w : World) : List V → Hp → VK → Prop := fun xs H Q => ∃ p ys ks, xs = [.ref p] ∧ H p = some (.lst ys) ∧ Paired (fun (k : Ky × Addr × V) y => ∃ t, y = .ref t ∧ H t = some (.tup [.ref k.2.1, k.2.2])) ks ys ∧ ks.length ≤ 1000 ∧ (ks.map (·.1)).Nodup ∧ (∀ k ∈ ks, KyAt H k.1 k.2.1) ∧
  ∀ d ob, H d = none → DN w (upd H d (fz d ob)) d ks → Q (.ref d) (upd H d (fz d ob))
theorem cr_dictOf (hc : X.calm = true) (hu : X.A.units + 64 < cLine) : CallR X (.type "dict") (rDictOf X.w) := by
  intro pins s σ H xs us Q I r h
  obtain ⟨p, ys, ks, rfl, hp, hP, hl, hn, hk, q⟩ := h
  obtain ⟨u, rfl, rx⟩ := vals1 r
  cases rx
  obtain ⟨ts, xs, e1, e2, e3⟩ := pairs_apart I.hok hP
  subst e1
  obtain ⟨z, its, n, rv, hg⟩ := (show ObjOk X.prog X.w H s.heap p (.lst (ts.map V.ref)) from I.hok p _ hp)
  have ei := vals_refs_eq rv
  subst ei
  have lk : ks.length = xs.length := Paired.length e2
  have lt : ts.length = xs.length := Paired.length e3
  have his : ∀ x ∈ xs, (kyKind X.prog X.w).is s.heap x.1 x.2.1 := fun x hx => by
    obtain ⟨k, hk', f1, f2, f3⟩ := paired_mem e2 x hx
    rw [f1, f2]
    exact (hk k hk').is I.hok
  have nd : (xs.map (·.1)).Nodup := by
    have e := paired_map (G := fun k : Ky × Addr × V => k.1) (m := fun x : Ky × Addr × Value => x.1) (fun _ _ r => r.1) e2
    rw [e]
    exact hn
  refine call_dict_pairsH (knd := kyKind X.prog X.w) (ps := xs) (PairArg.list p (ts.map Value.ref).toArray (fun j => ts.getD j 0) (xs.map fun x => (Value.ref x.2.1, x.2.2))) (I.ok.hd hc) (by show X.A.units + 1 + 1 + 8 < cLine; omega)
    ⟨⟨_, n, hg, rfl, rfl, rfl⟩, by rw [List.size_toArray, List.length_map, List.length_map, lt], fun j k v hj => ?_⟩ ⟨by rw [List.length_map], fun i key v hv => ?_⟩ (fun h' hk' x hx => ?_) (by rw [List.length_map, sizeLine_eq]; omega) fun h' tk dd kp => ?_
  · rw [List.getElem?_map, Option.map_eq_some_iff] at hj
    obtain ⟨x, hx, ex⟩ := hj
    cases ex
    obtain ⟨t, ht, f⟩ := paired_ri e3 hx
    have et : ts.getD j 0 = t := by rw [List.getD_eq_getElem?_getD, ht]; rfl
    refine ⟨?_, ?_⟩
    · rw [List.getElem?_toArray, List.getElem?_map, ht]
      show some (Value.ref t) = some (Value.ref (ts.getD j 0))
      rw [et]
    · show PairAt s.heap (ts.getD j 0) _ _
      rw [et]
      exact f
  · have hv' : (xs.map fun x => (Value.ref x.2.1, x.2.2))[i]? = some (key, v) := hv
    rw [List.getElem?_map, Option.map_eq_some_iff] at hv'
    obtain ⟨x, hx, ex⟩ := hv'
    cases ex
    exact ⟨x.1, x.2.1, hx, rfl⟩
  · exact kyKind_stays.stays (fun b o vs m e _ => hk' b o (Nat.ne_of_lt (Heap.lt_size e)) (by simp) e) (his x hx)
  · have hd0 := I.hok.fresh (Nat.le_refl s.heap.objs.size)
    rw [storedAll_new xs [] (by simpa using nd), List.nil_append] at dd
    obtain ⟨ob, g, dn⟩ := dn_of (H := H) (beq_eq_false_iff_ne.mpr (Ne.symm (Nat.ne_of_lt I.big))) dd e2 hl hk
    exact ⟨.ref s.heap.objs.size, _, I.laid (t' := tk) (fun b o e => kp b o (by simp) e) (Nat.le_refl _) (fz_ok g), rfl, q _ ob hd0 (dn (.new hd0))⟩
/-- {} -/
def tDNew9 (w : World) : TE := fun _ H Q => ∀ d ob, H d = none → DN w (upd H d (fz d ob)) d [] → Q (.ref d) (upd H d (fz d ob))
theorem pe_dnew9 {pos : Pos} : PE X (.Dict [] [] pos) (tDNew9 X.w) := ⟨fun pins s σ H Q I h => by
  have hd0 := I.hok.fresh (Nat.le_refl s.heap.objs.size)
  obtain ⟨ob, g, dn⟩ := dn_of (P := X.prog) (w := X.w) (H := H) (ks := []) (beq_eq_false_iff_ne.mpr (Ne.symm (Nat.ne_of_lt I.big))) (Heap.DictOfH.new s.heap) .nil (by simp) (fun _ z => nomatch z)
  exact wpAny_Dict_empty ⟨.ref s.heap.objs.size, _, I.laid (t' := s.toks) (fun _ _ q => Heap.get?_push_of_some _ q) (Nat.le_refl _) (fz_ok g), rfl, h _ ob hd0 (dn (.new hd0))⟩⟩
theorem carries9 {P : Program} {w : World} {H : Hp} {h : Heap} (ok : HOk P w H h) : ∀ {ks : List (Ky × Addr × V)} {ws : List (Value × Value)}, (∀ k ∈ ks, KyAt H k.1 k.2.1) → VV (ks.map fun k => (.ref k.2.1, k.2.2)) ws →
    ∃ xs, CarriesH (kyKind P w) h ws xs ∧ Paired EnR ks xs
  | [], _, _, r => by rw [List.map_nil] at r; cases r; exact ⟨[], True.intro, .nil⟩
  | k :: ks, _, hk, r => by
    rw [List.map_cons] at r
    cases r with
    | @cons a b as bs h t =>
      obtain ⟨xs, c, q⟩ := carries9 ok (fun k hk' => hk k (List.mem_cons_of_mem _ hk')) t
      obtain ⟨b1, b2⟩ := b
      obtain ⟨r1, r2⟩ := h
      cases r1
      exact ⟨(k.1, k.2.1, b2) :: xs, ⟨rfl, rfl, (hk k List.mem_cons_self).is ok, c⟩, .cons ⟨rfl, rfl, r2⟩ q⟩
/-- {(..): .., ..}; the new dict stands empty while the pairs are made -/
def tDisp9 (w : World) (trs : List (TE × TE)) : TE := fun σ H Q => ∀ p ob0, H p = none → tPairs trs σ (upd H p (fz p ob0)) fun ps H2 => H2 p = some (fz p ob0) ∧ ∃ ks : List (Ky × Addr × V), ps = ks.map (fun k => (.ref k.2.1, k.2.2)) ∧ ks.length ≤ 15 ∧ (ks.map (·.1)).Nodup ∧ (∀ k ∈ ks, KyAt H2 k.1 k.2.1) ∧
  ∀ ob, DN w (upd H2 p (fz p ob)) p ks → Q (.ref p) (upd H2 p (fz p ob))
theorem pe_disp9 {pos : Pos} {keys : List (Option Expr)} {values : List Expr} {trs : List (TE × TE)} (hu : X.A.units + 64 < cLine) (h : PPs X pos keys values trs) (hall : keys.all (·.isSome) = true) (hl : keys.length = values.length) (h0 : keys ≠ [])
    (h15 : keys.length ≤ 15) : PE X (.Dict keys values pos) (tDisp9 X.w trs) := by
  refine ⟨fun pins s σ H Q I q => ?_⟩
  have hn := I.hok.fresh (Nat.le_refl s.heap.objs.size)
  have g0 : (s.heap.push { cls := .type "dict", data := .dict #[] }).get? s.heap.objs.size = some { cls := .type "dict", data := .dict #[] } := Heap.get?_push_size _ rfl
  have I1 := I.laid (a := s.heap.objs.size) (h' := s.heap.push { cls := .type "dict", data := .dict #[] }) (t' := s.toks) (fun _ _ q => Heap.get?_push_of_some _ q) (Nat.le_refl _) (fz_ok g0)
  have hpn := pairTrees_length keys values X.env pos hall hl
  have hne : pairTrees keys values X.env pos ≠ [] := fun he => by
    rw [he] at hpn
    exact h0 (List.length_eq_zero_iff.mp hpn.symm)
  rw [arm_eval_Dict, zip_pairTrees keys values X.env pos hall hl, dictDisplay_pairs _ hne (by omega)]
  refine wpAny_bind (wpAny_standAt (wpAny_bind (wpAny_subDictH (knd := kyKind X.prog X.w) (by show X.A.units + 8 < cLine; omega) (by omega) (thn (h.run pins _ σ _ _ I1 (q _ _ hn)) fun ws s2 ⟨ps, H2, I2, rel, e, ks, ep, lk, nd, kd, q2⟩ => ?_))))
  subst ep
  obtain ⟨xs, c, pr⟩ := carries9 I2.hok kd rel
  have hg := fz_get I2.hok e
  refine ⟨xs, c, ⟨_, #[], 0, hg, ⟨rfl, rfl, rfl⟩, rfl, rfl, fun _ z => by simp at z, List.nodup_nil⟩, fun h' tk dd hs => wpAny_pure ?_⟩
  have ndx : (xs.map (·.1)).Nodup := by
    have e := paired_map (G := fun k : Ky × Addr × V => k.1) (m := fun x : Ky × Addr × Value => x.1) (fun _ _ r => r.1) pr
    rw [e]
    exact nd
  rw [storedAll_new xs [] (by simpa using ndx), List.nil_append] at dd
  obtain ⟨ob, g, dn⟩ := dn_of (H := H2) (beq_eq_false_iff_ne.mpr (Ne.symm (Nat.ne_of_lt I.big))) dd pr (by omega) kd
  refine ⟨.ref s.heap.objs.size, _, I2.write (x := s.heap.objs.size) (e := s.heap.objs.size) (t' := tk) (by rw [e]; exact True.intro) (.inl rfl) (fun b o hb q => (hs.2 b hb).trans q) ⟨ob, g⟩ (fz_ok g), rfl, q2 ob (dn (.put e fz_tup))⟩
end
end Hw
/-! such dicts: a plain thing as a new key -/
namespace Hw
open PySem PySem.Spec PyProof.Rows L2
section
variable {P : Program} {w : World} {A : Around} {E : Value → Shared → Prop} {s : Shared}
def NoTup : NestedKey → Bool
  | .tup _ => false
  | _ => true
theorem nk_tup (k : Ky) : ∃ ks, k.nk = .tup ks := by
  cases k with
  | flat ns => exact ⟨_, rfl⟩
  | one m more => exact ⟨_, rfl⟩
theorem beq_sc {k : Ky} {sk : NestedKey} (h : NoTup sk = true) : NestedKey.beq k.nk sk = false := by
  obtain ⟨ks, e⟩ := nk_tup k
  rw [e]
  cases sk with
  | tup _ => cases h
  | none => simp [NestedKey.beq]
  | num _ => simp [NestedKey.beq]
  | text _ => simp [NestedKey.beq]
theorem tell_sc {sk : NestedKey} {u : Value} {stored : List Value} {Q : Bool → Shared → Prop} (hk : NestedIs s.heap sk u) (hn : NoTup sk = true)
    (hst : ∀ v ∈ stored, ∃ k b, v = .ref b ∧ (kyKind P w).is s.heap k b) (h : Q false s) : wpAny (model P w) A (tableMayTell u stored) Q E s := by
  unfold tableMayTell
  split
  · exact wpAny_pure h
  · have hd : sk.depth ≤ 8 := by
      cases sk with
      | tup _ => cases hn
      | none => exact Nat.zero_le _
      | num _ => exact Nat.zero_le _
      | text _ => exact Nat.zero_le _
    refine wpAny_bind (quiet_key sk u 8 s hk hd A E _ ?_)
    simp only [Bool.not_true, Bool.false_eq_true, if_false]
    refine wpAny_bind ?_
    refine wpAny_forIn_list _ (fun rest r s' => s' = s ∧ r = (none, ()) ∧ ∀ v ∈ rest, ∃ k b, v = .ref b ∧ (kyKind P w).is s.heap k b) _ ?_ ?_ _ _ ⟨rfl, rfl, hst⟩
    · rintro x rest r s' ⟨rfl, rfl, hr⟩
      obtain ⟨k', b, rfl, hb⟩ := hr x List.mem_cons_self
      refine wpAny_bind ((kyKind P w).quiet hb ?_)
      simp only [Bool.not_true, Bool.false_eq_true, if_false]
      exact wpAny_pure ⟨rfl, rfl, fun v hv => hr v (List.mem_cons_of_mem _ hv)⟩
    · rintro r s' ⟨rfl, rfl, _⟩
      exact wpAny_pure h
theorem sc_carried {sk : NestedKey} {u : Value} {h : Heap} (hk : NestedIs h sk u) (hn : NoTup sk = true) : carriedByValue u = true ∧ (∀ a, u ≠ .ref a) := by
  cases hk with
  | none => exact ⟨rfl, fun _ z => nomatch z⟩
  | bool _ => exact ⟨rfl, fun _ z => nomatch z⟩
  | int _ _ => exact ⟨rfl, fun _ z => nomatch z⟩
  | text _ _ => exact ⟨rfl, fun _ z => nomatch z⟩
  | tup _ _ _ _ => cases hn
theorem walk_nil9 {M : Model} {d : Addr} {u : Value} {hh : Int} {es : Array DictEntry} {Q : Option Nat → Shared → Prop} (h : Q none s) : wpAny M A (dictWalkPlain d u hh es []) Q E s := by
  unfold dictWalkPlain
  refine wpAny_bind ?_
  rw [List.forIn_nil]
  exact wpAny_pure (wpAny_pure h)
set_option maxHeartbeats 8000000 in
theorem find_sc {d : Addr} {o : Obj} {ep : Nat} {xs : List (Ky × Addr × Value)} {sk : NestedKey} {u : Value} {Q : Option Nat → Shared → Prop} (hk : NestedIs s.heap sk u) (hn : NoTup sk = true) (hu : A.units + 8 < cLine)
    (ho : s.heap.get? d = some o) (hd : o.data = .dict (xs.map (ent w)).toArray ep) (hne : xs ≠ []) (his : ∀ x ∈ xs, (kyKind P w).is s.heap x.1 x.2.1) (h : Q none s) : wpAny (model P w) A (dictFind d u (sk.hash w)) Q E s := by
  generalize hes : (xs.map (ent w)).toArray = es at hd
  have hmem : ∀ e ∈ es, ∃ x ∈ xs, e = ent w x := by
    intro e hin
    have : e ∈ xs.map (ent w) := by
      rw [← hes] at hin
      simpa using hin
    obtain ⟨x, hx, rfl⟩ := List.mem_map.mp this
    exact ⟨x, hx, rfl⟩
  have hall : (es.all fun e => isExactStrKey e.key) = false := by
    rw [← Bool.not_eq_true, ← Array.all_toList, List.all_eq_true]
    intro z
    obtain ⟨x, r, e⟩ := List.exists_cons_of_ne_nil hne
    have q := z (ent w x) (by rw [← hes, e]; simp)
    cases q
  have hst : ∀ v ∈ (placesWithHash es.size (fun i => es[i]?.map (·.hash)) (sk.hash w)).filterMap (fun i => es[i]?.map (·.key)), ∃ k' b, v = .ref b ∧ (kyKind P w).is s.heap k' b := by
    intro v hv
    obtain ⟨i, _, hi⟩ := List.mem_filterMap.mp hv
    cases hei : es[i]? with
    | none => rw [hei] at hi; cases hi
    | some e =>
      rw [hei] at hi
      obtain rfl : e.key = v := by simpa using hi
      obtain ⟨x, hx, rfl⟩ := hmem e (Array.mem_of_getElem? hei)
      exact ⟨x.1, x.2.1, rfl, his x hx⟩
  obtain ⟨hc1, hc2⟩ := sc_carried hk hn
  have hplain : ∀ (pl : List Nat), pl = placesWithHash es.size (fun i => es[i]?.map (·.hash)) (sk.hash w) → pl.filterMap (fun i => es[i]?.map (·.key)) = [] → pl = [] := by
    intro pl e z
    cases pl with
    | nil => rfl
    | cons i r =>
      have hi : i ∈ placesWithHash es.size (fun i => es[i]?.map (·.hash)) (sk.hash w) := by rw [← e]; exact List.mem_cons_self
      unfold placesWithHash at hi
      have hi2 := (List.mem_filter.mp hi).2
      dsimp only at hi2
      cases hei : es[i]? with
      | none => rw [hei] at hi2; simp at hi2
      | some en =>
        rw [List.filterMap_cons, hei] at z
        cases z
  unfold dictFind
  try with_reducible refine wpAny_holding ?_
  refine wpAny_bind (wpAny_dictEntries ho hd ?_)
  have hk0 := hk
  have hno' : ∀ places : List Nat, (∀ v ∈ places.filterMap (fun i => es[i]?.map (·.key)), ∃ k' b, v = .ref b ∧ (kyKind P w).is s.heap k' b) → places.filterMap (fun i => es[i]?.map (·.key)) ≠ [] → ¬ ((u :: places.filterMap (fun i => es[i]?.map (·.key))).all carriedByValue) = true := by
    intro places hst hnil z
    obtain ⟨v, r, e⟩ := List.exists_cons_of_ne_nil hnil
    obtain ⟨k', b, eb, _⟩ := hst v (by rw [e]; exact List.mem_cons_self)
    rw [e, eb] at z
    simp [carriedByValue] at z
  have hone' : ∀ places : List Nat, (∀ v ∈ places.filterMap (fun i => es[i]?.map (·.key)), ∃ k' b, v = .ref b ∧ (kyKind P w).is s.heap k' b) → ¬ ((places.filterMap (fun i => es[i]?.map (·.key))) == [u]) = true := by
    intro places hst z
    have e := eq_of_beq z
    obtain ⟨k', b, eb, _⟩ := hst u (by rw [e]; exact List.mem_cons_self)
    exact hc2 b eb
  cases hk with
  | tup _ _ _ _ => cases hn
  | text x t =>
    first
      | rw [if_neg (show ¬ ((es.all fun e => isExactStrKey e.key) = true) from by rw [hall]; exact Bool.false_ne_true)]
      | (dsimp only; rw [if_neg (show ¬ ((es.all fun e => isExactStrKey e.key) = true) from by rw [hall]; exact Bool.false_ne_true)])
    generalize hpl : placesWithHash es.size (fun i => es[i]?.map (·.hash)) _ = places at hst
    try dsimp only
    by_cases hnil : places.filterMap (fun i => es[i]?.map (·.key)) = []
    · have hp0 := hplain places hpl.symm hnil
      subst hp0
      rw [if_pos (by simp [hc1])]
      first
        | exact walk_nil9 h
        | exact wpAny_bind (walk_nil9 (wpAny_pure h))
    · rw [if_neg (hno' places hst hnil), if_neg (hone' places hst)]
      refine wpAny_bind (tell_sc hk0 hn hst ?_)
      rw [if_neg (by simp)]
      refine wpAny_bind ?_
      refine wpAny_forIn_list _ (fun rest b s' => s' = s ∧ b = (none, none)) _ ?_ ?_ _ _ ⟨rfl, rfl⟩
      · rintro x rest b s' ⟨rfl, rfl⟩
        dsimp only
        cases hex : es[x]? with
        | none => exact wpAny_pure ⟨rfl, rfl⟩
        | some e =>
          dsimp only
          split
          · obtain ⟨y, hy, rfl⟩ := hmem e (Array.mem_of_getElem? hex)
            have heq := eqAt_key y.1.nk _ A s' (.ref y.2.1) _ (his y hy).1 hk0 (by
              have := (his y hy).2
              omega)
            rw [beq_sc hn] at heq
            refine wpAny_bind (wpAny_dictEpoch ho hd (wpAny_bind (heq P w E _ (wpAny_bind (wpAny_dictEpoch ho hd ?_)))))
            show wpAny _ _ (if (ep != ep) = true then _ else _) _ E _
            rw [if_neg (by simp)]
            simp only [Bool.false_eq_true, if_false]
            refine wpAny_bind (wpAny_rule ?_)
            first | rw [if_neg (by simp)] | skip
            first
              | exact wpAny_pure ⟨rfl, rfl⟩
              | exact wpAny_bind (wpAny_pure (wpAny_pure ⟨rfl, rfl⟩))
          · exact wpAny_pure ⟨rfl, rfl⟩
      · rintro b s' ⟨rfl, rfl⟩
        exact wpAny_pure h
  | none =>
    generalize hpl : placesWithHash es.size (fun i => es[i]?.map (·.hash)) _ = places at hst
    try dsimp only
    by_cases hnil : places.filterMap (fun i => es[i]?.map (·.key)) = []
    · have hp0 := hplain places hpl.symm hnil
      subst hp0
      rw [if_pos (by simp [hc1])]
      first
        | exact walk_nil9 h
        | exact wpAny_bind (walk_nil9 (wpAny_pure h))
    · rw [if_neg (hno' places hst hnil), if_neg (hone' places hst)]
      refine wpAny_bind (tell_sc hk0 hn hst ?_)
      rw [if_neg (by simp)]
      refine wpAny_bind ?_
      refine wpAny_forIn_list _ (fun rest b s' => s' = s ∧ b = (none, none)) _ ?_ ?_ _ _ ⟨rfl, rfl⟩
      · rintro x rest b s' ⟨rfl, rfl⟩
        dsimp only
        cases hex : es[x]? with
        | none => exact wpAny_pure ⟨rfl, rfl⟩
        | some e =>
          dsimp only
          split
          · obtain ⟨y, hy, rfl⟩ := hmem e (Array.mem_of_getElem? hex)
            have heq := eqAt_key y.1.nk _ A s' (.ref y.2.1) _ (his y hy).1 hk0 (by
              have := (his y hy).2
              omega)
            rw [beq_sc hn] at heq
            refine wpAny_bind (wpAny_dictEpoch ho hd (wpAny_bind (heq P w E _ (wpAny_bind (wpAny_dictEpoch ho hd ?_)))))
            show wpAny _ _ (if (ep != ep) = true then _ else _) _ E _
            rw [if_neg (by simp)]
            simp only [Bool.false_eq_true, if_false]
            refine wpAny_bind (wpAny_rule ?_)
            first | rw [if_neg (by simp)] | skip
            first
              | exact wpAny_pure ⟨rfl, rfl⟩
              | exact wpAny_bind (wpAny_pure (wpAny_pure ⟨rfl, rfl⟩))
          · exact wpAny_pure ⟨rfl, rfl⟩
      · rintro b s' ⟨rfl, rfl⟩
        exact wpAny_pure h
  | bool eb =>
    generalize hpl : placesWithHash es.size (fun i => es[i]?.map (·.hash)) _ = places at hst
    try dsimp only
    by_cases hnil : places.filterMap (fun i => es[i]?.map (·.key)) = []
    · have hp0 := hplain places hpl.symm hnil
      subst hp0
      rw [if_pos (by simp [hc1])]
      first
        | exact walk_nil9 h
        | exact wpAny_bind (walk_nil9 (wpAny_pure h))
    · rw [if_neg (hno' places hst hnil), if_neg (hone' places hst)]
      refine wpAny_bind (tell_sc hk0 hn hst ?_)
      rw [if_neg (by simp)]
      refine wpAny_bind ?_
      refine wpAny_forIn_list _ (fun rest b s' => s' = s ∧ b = (none, none)) _ ?_ ?_ _ _ ⟨rfl, rfl⟩
      · rintro x rest b s' ⟨rfl, rfl⟩
        dsimp only
        cases hex : es[x]? with
        | none => exact wpAny_pure ⟨rfl, rfl⟩
        | some e =>
          dsimp only
          split
          · obtain ⟨y, hy, rfl⟩ := hmem e (Array.mem_of_getElem? hex)
            have heq := eqAt_key y.1.nk _ A s' (.ref y.2.1) _ (his y hy).1 hk0 (by
              have := (his y hy).2
              omega)
            rw [beq_sc hn] at heq
            refine wpAny_bind (wpAny_dictEpoch ho hd (wpAny_bind (heq P w E _ (wpAny_bind (wpAny_dictEpoch ho hd ?_)))))
            show wpAny _ _ (if (ep != ep) = true then _ else _) _ E _
            rw [if_neg (by simp)]
            simp only [Bool.false_eq_true, if_false]
            refine wpAny_bind (wpAny_rule ?_)
            first | rw [if_neg (by simp)] | skip
            first
              | exact wpAny_pure ⟨rfl, rfl⟩
              | exact wpAny_bind (wpAny_pure (wpAny_pure ⟨rfl, rfl⟩))
          · exact wpAny_pure ⟨rfl, rfl⟩
      · rintro b s' ⟨rfl, rfl⟩
        exact wpAny_pure h
  | int i t =>
    generalize hpl : placesWithHash es.size (fun i => es[i]?.map (·.hash)) _ = places at hst
    try dsimp only
    by_cases hnil : places.filterMap (fun i => es[i]?.map (·.key)) = []
    · have hp0 := hplain places hpl.symm hnil
      subst hp0
      rw [if_pos (by simp [hc1])]
      first
        | exact walk_nil9 h
        | exact wpAny_bind (walk_nil9 (wpAny_pure h))
    · rw [if_neg (hno' places hst hnil), if_neg (hone' places hst)]
      refine wpAny_bind (tell_sc hk0 hn hst ?_)
      rw [if_neg (by simp)]
      refine wpAny_bind ?_
      refine wpAny_forIn_list _ (fun rest b s' => s' = s ∧ b = (none, none)) _ ?_ ?_ _ _ ⟨rfl, rfl⟩
      · rintro x rest b s' ⟨rfl, rfl⟩
        dsimp only
        cases hex : es[x]? with
        | none => exact wpAny_pure ⟨rfl, rfl⟩
        | some e =>
          dsimp only
          split
          · obtain ⟨y, hy, rfl⟩ := hmem e (Array.mem_of_getElem? hex)
            have heq := eqAt_key y.1.nk _ A s' (.ref y.2.1) _ (his y hy).1 hk0 (by
              have := (his y hy).2
              omega)
            rw [beq_sc hn] at heq
            refine wpAny_bind (wpAny_dictEpoch ho hd (wpAny_bind (heq P w E _ (wpAny_bind (wpAny_dictEpoch ho hd ?_)))))
            show wpAny _ _ (if (ep != ep) = true then _ else _) _ E _
            rw [if_neg (by simp)]
            simp only [Bool.false_eq_true, if_false]
            refine wpAny_bind (wpAny_rule ?_)
            first | rw [if_neg (by simp)] | skip
            first
              | exact wpAny_pure ⟨rfl, rfl⟩
              | exact wpAny_bind (wpAny_pure (wpAny_pure ⟨rfl, rfl⟩))
          · exact wpAny_pure ⟨rfl, rfl⟩
      · rintro b s' ⟨rfl, rfl⟩
        exact wpAny_pure h
end
/-- a plain thing as a key -/
def scK : V → Option NestedKey
  | .non => some .none
  | .int i => some (.num i)
  | .str x => some (.text x)
  | _ => none
theorem scK_is {h : Heap} {v : V} {u : Value} {sk : NestedKey} (e : scK v = some sk) (r : RelV v u) : NestedIs h sk u ∧ NoTup sk = true := by
  cases v with
  | non => cases e; cases (show u = Value.none from r); exact ⟨.none, rfl⟩
  | int i => cases e; obtain ⟨t, q⟩ := (show ∃ t, u = Value.int i t from r); cases q; exact ⟨.int i t, rfl⟩
  | str x => cases e; obtain ⟨t, q⟩ := (show ∃ t, u = Value.str x t from r); cases q; exact ⟨.text x t, rfl⟩
  | _ => cases e
def tPutS (w : World) : TSet := fun x y v H Q => ∃ d ks, x = .ref d ∧ (scK y).isSome = true ∧ DN w H d ks ∧ ks.length < 1000 ∧ ks ≠ [] ∧ ∀ ob, DLen (upd H d (fz d ob)) d (ks.length + 1) → Q (upd H d (fz d ob))
theorem ps_dS {X : Cx} (hu : X.A.units + 64 < cLine) : PSet X (tPutS X.w) := by
  intro pins s σ H o i v ov iv u Q I ro ri rv h
  obtain ⟨d, ks, rfl, hsc, hd, hl, hne, q⟩ := h
  cases ro
  obtain ⟨sk, esk⟩ := Option.isSome_iff_exists.mp hsc
  obtain ⟨hk, hn⟩ := scK_is (h := s.heap) esk ri
  obtain ⟨ob, ep, xs, h1, h2, h3, h4, h5, h6, h7⟩ := hd.of I.hok
  have hlx : ks.length = xs.length := Paired.length h5
  have hxe : xs ≠ [] := fun z => hne (by rw [z] at hlx; exact List.length_eq_zero_iff.mp hlx)
  obtain ⟨_, _, _, _, _, _, _, his, _⟩ := id h7
  have hdep : sk.depth ≤ 0 := by
    cases sk with
    | tup _ => cases hn
    | none => exact Nat.zero_le _
    | num _ => exact Nat.zero_le _
    | text _ => exact Nat.zero_le _
  unfold setItem
  try with_reducible refine wpAny_holding ?_
  refine wpAny_bind (wpAny_sequenceKey h7.typeIs (by decide) ?_)
  refine wpAny_bind (wpAny_callSpecial?_slot (name := Str.ofString "__setitem__") h7.typeIs slot_dict_setitem
    (wpAny_call_entry slot_dict_setitem h7.typeIs entry_dict_setitem ?_ (args_dict_setitem _ _ _)))
  show wpAny _ _ (Builtin.Dict.notOrdered "__setitem__" ⟨[.ref d, iv, u], []⟩ >>= _) _ _ s
  refine wpAny_bind (wpAny_notOrdered_dict h7.typeIs ?_)
  show wpAny _ _ (dictSet d iv u >>= _) _ _ s
  refine wpAny_bind ?_
  unfold dictSet
  try with_reducible refine wpAny_holding ?_
  refine wpAny_bind (pyHash_key sk iv _ s _ hk (by show X.A.units + 1 + _ < cLine; omega) ?_)
  unfold dictSetHashed
  try with_reducible refine wpAny_holding ?_
  refine wpAny_bind (find_sc (P := X.prog) (s := { s with toks := s.toks + sk.draws }) hk hn (by show X.A.units + 1 + 8 < cLine; omega) h6 h4 hxe his ?_)
  have hsz : ((xs.map (ent X.w)).toArray).size ≤ sizeLine := by rw [List.size_toArray, List.length_map, sizeLine_eq]; omega
  refine wpAny_bind (wpAny_rule (wpAny_updateDictKeys (hz := hsz) (s := { s with toks := s.toks + sk.draws }) h6 h4 (wpAny_pure ⟨.none, rfl, wpAny_pure ?_⟩)))
  have g := Heap.get?_update_self (h := s.heap) (a := d) (Obj.mapDictKeys fun x => x.push ⟨sk.hash X.w, iv, u⟩) h6 (Obj.isFreed_of_dict (Obj.data_mapDictKeys h4 _))
  have sb : Heap.SameBut d s.heap (s.heap.update d (Obj.mapDictKeys fun x => x.push ⟨sk.hash X.w, iv, u⟩)) := Heap.SameBut.update ..
  refine ⟨_, I.write (x := d) (e := d) (t' := s.toks + sk.draws) (by rw [h1]; exact True.intro) (.inl rfl) (fun b o hb e => (sb.2 b hb).trans e) ⟨_, g⟩ (fz_ok g), q _ ⟨_, _, ep + 1, upd_same, h2, h3.mapDictKeys _, Obj.data_mapDictKeys h4 _, ?_, by omega⟩⟩
  rw [Array.size_push, List.size_toArray, List.length_map, hlx]
end Hw
/-! makings, told plainly -/
namespace Hw
open PySem PySem.Spec PyProof.Rows L2
def monI (n : Int) (m : List Int) : Bool := monB n (some (m.map V.int))
def listsOf (vals : List Int) : Nat → List (List Int)
  | 0 => [[]]
  | k + 1 => (listsOf vals k).flatMap fun r => vals.map fun x => x :: r
theorem mem_listsOf {vals : List Int} : ∀ {l : List Int}, (∀ x ∈ l, x ∈ vals) → l ∈ listsOf vals l.length
  | [], _ => List.mem_singleton.mpr rfl
  | x :: r, h => List.mem_flatMap.mpr ⟨r, mem_listsOf fun y hy => h y (List.mem_cons_of_mem _ hy), List.mem_map.mpr ⟨x, h x List.mem_cons_self, rfl⟩⟩
def valsN (n : Int) : List Int := if n = 1 then [0, 1] else [0, 1, 2, 3]
theorem map_intOf : ∀ m : List Int, (m.map V.int).map intOf = m
  | [] => rfl
  | x :: r => by rw [List.map_cons, List.map_cons, map_intOf r]; rfl
theorem monI_parts {n : Int} {m : List Int} (h : monI n m = true) : (m.length : Int) = pw2 n ∧ (∀ x ∈ m, 0 ≤ x ∧ x ≤ pw2 n - 1) ∧ risB n m = true := by
  have h' : (mapB n (some (m.map V.int)) && risB n ((m.map V.int).map intOf)) = true := h
  rw [map_intOf, Bool.and_eq_true] at h'
  have h2 : (decide (((m.map V.int).length : Int) = pw2 n) && (m.map V.int).all fun x => inRng x 0 (pw2 n - 1)) = true := h'.1
  rw [Bool.and_eq_true, List.length_map] at h2
  refine ⟨of_decide_eq_true h2.1, fun x hx => ?_, h'.2⟩
  have q := List.all_eq_true.mp h2.2 (.int x) (List.mem_map_of_mem hx)
  have q' : (decide (0 ≤ x) && decide (x ≤ pw2 n - 1)) = true := q
  rw [Bool.and_eq_true] at q'
  exact ⟨of_decide_eq_true q'.1, of_decide_eq_true q'.2⟩
theorem mon_all1 : ((listsOf [0, 1] 2).all fun m => !(monI 1 m) || (mapsM 1).contains m) = true := by decide +kernel
theorem mon_all2 : ((listsOf [0, 1, 2, 3] 4).all fun m => !(monI 2 m) || (mapsM 2).contains m) = true := by decide +kernel
theorem mon_maps1 : ((mapsM 1).all fun m => monI 1 m) = true := by decide +kernel
theorem mon_maps2 : ((mapsM 2).all fun m => monI 2 m) = true := by decide +kernel
def cntM (n : Int) : Nat := if n = 1 then 3 else 36
theorem maps_len {n : Int} (h : N12 n) : (mapsM n).length = cntM n := by
  rcases h with rfl | rfl <;> decide +kernel
theorem maps_nd {n : Int} (h : N12 n) : (mapsM n).Nodup := by
  rcases h with rfl | rfl <;> decide +kernel
theorem mon_iff {n : Int} (h : N12 n) (m : List Int) : monI n m = true ↔ m ∈ mapsM n := by
  constructor
  · intro hm
    obtain ⟨h1, h2, h3⟩ := monI_parts hm
    rcases h with rfl | rfl
    · have hl : m.length = 2 := by have : (m.length : Int) = 2 := h1; omega
      have hv : ∀ x ∈ m, x ∈ ([0, 1] : List Int) := fun x hx => by
        have := h2 x hx
        have e : pw2 1 = 2 := rfl
        have : x = 0 ∨ x = 1 := by omega
        rcases this with rfl | rfl <;> simp
      have q := List.all_eq_true.mp mon_all1 m (by rw [← hl]; exact mem_listsOf hv)
      rw [hm] at q
      simpa using q
    · have hl : m.length = 4 := by have : (m.length : Int) = 4 := h1; omega
      have hv : ∀ x ∈ m, x ∈ ([0, 1, 2, 3] : List Int) := fun x hx => by
        have := h2 x hx
        have e : pw2 2 = 4 := rfl
        have : x = 0 ∨ x = 1 ∨ x = 2 ∨ x = 3 := by omega
        rcases this with rfl | rfl | rfl | rfl <;> simp
      have q := List.all_eq_true.mp mon_all2 m (by rw [← hl]; exact mem_listsOf hv)
      rw [hm] at q
      simpa using q
  · intro hm
    rcases h with rfl | rfl
    · exact List.all_eq_true.mp mon_maps1 m hm
    · exact List.all_eq_true.mp mon_maps2 m hm
/-- what a making's dict is: its keys, its values so far as they are tuples -/
abbrev Mk := List (Ky × Option (List V))
def MkAt (K : PySem.W.Frag) (H : Hp) (as : Mk) (ks : List (Ky × Addr × V)) : Prop := Paired (fun (a : Ky × Option (List V)) (k : Ky × Addr × V) => a.1 = k.1 ∧ Val1 K H k.2.2 a.2) as ks
def keyKy (n : Int) : Ky → Bool
  | .one m [] => monI n m
  | _ => false
def valA (as : Mk) (m : List Int) : List Int := match as.find? fun a => decide (a.1 = .one m []) with
  | some (_, some xs) => xs.map intOf
  | _ => []
def upB (n : Int) (as : Mk) : Bool := ((prs (mapsM n) (mapsM n)).filter fun p => subM p.1 p.2).all fun p => subM (valA as p.1) (valA as p.2)
def makB (n : Int) (as : Mk) : Bool := decide (as.length = cntM n) && (as.all (fun a => keyKy n a.1) && (as.all (fun a => monB n a.2) && upB n as))
/-- lists without repeats: as long and within is all -/
theorem sub_of_len {α : Type} [DecidableEq α] : ∀ {l1 l2 : List α}, l1.Nodup → (∀ x ∈ l1, x ∈ l2) → l2.length ≤ l1.length → ∀ x ∈ l2, x ∈ l1
  | [], l2, _, _, hl => by
    have e : l2 = [] := List.length_eq_zero_iff.mp (Nat.le_zero.mp hl)
    subst e
    intro x hx
    cases hx
  | y :: l1, l2, hn, hs, hl => by
    rw [List.nodup_cons] at hn
    have hy : y ∈ l2 := hs y List.mem_cons_self
    have he := List.length_erase_of_mem hy
    have ih := sub_of_len (l1 := l1) (l2 := l2.erase y) hn.2 (fun x hx => (List.mem_erase_of_ne (fun z => hn.1 (by rw [← z]; exact hx))).mpr (hs x (List.mem_cons_of_mem _ hx))) (by rw [he]; rw [List.length_cons] at hl; omega)
    intro x hx
    by_cases z : x = y
    · rw [z]; exact List.mem_cons_self
    · exact List.mem_cons_of_mem _ (ih x ((List.mem_erase_of_ne z).mpr hx))
theorem one_inj {a b : List Int} (h : Ky.one a [] = .one b []) : a = b := by cases h; rfl
theorem ones_nd {l : List (List Int)} (h : l.Nodup) : (l.map fun m => Ky.one m []).Nodup := by
  induction l with
  | nil => exact List.nodup_nil
  | cons x r ih =>
    rw [List.nodup_cons] at h
    rw [List.map_cons, List.nodup_cons]
    refine ⟨fun z => ?_, ih h.2⟩
    obtain ⟨y, hy, e⟩ := List.mem_map.mp z
    exact h.1 (one_inj e ▸ hy)
/-- all keys are maps, as many as there are maps: each map is a key -/
theorem keys_all {n : Int} (h : N12 n) {as : Mk} (hn : (as.map (·.1)).Nodup) (hl : as.length = cntM n) (hk : as.all (fun a => keyKy n a.1) = true) : ∀ m ∈ mapsM n, Ky.one m [] ∈ as.map (·.1) := fun m hm =>
  sub_of_len (l1 := as.map (·.1)) (l2 := (mapsM n).map fun m => Ky.one m []) hn (fun x hx => by
    obtain ⟨a, ha, e⟩ := List.mem_map.mp hx
    have q := List.all_eq_true.mp hk a ha
    rw [e] at q
    cases x with
    | flat _ => cases q
    | one m' more =>
      cases more with
      | cons _ _ => cases q
      | nil => exact List.mem_map_of_mem ((mon_iff h m').mp q)) (by rw [List.length_map, List.length_map, maps_len h, hl]; exact Nat.le_refl _) _ (List.mem_map_of_mem hm)
/-- .. and the other way about -/
theorem all_keys {n : Int} (h : N12 n) {as : Mk} (hl : as.length = cntM n) (hk : ∀ m ∈ mapsM n, Ky.one m [] ∈ as.map (·.1)) : as.all (fun a => keyKy n a.1) = true := by
  rw [List.all_eq_true]
  intro a ha
  have q := sub_of_len (l1 := (mapsM n).map fun m => Ky.one m []) (l2 := as.map (·.1)) (ones_nd (maps_nd h)) (fun x hx => by
    obtain ⟨m, hm, e⟩ := List.mem_map.mp hx
    rw [← e]
    exact hk m hm) (by rw [List.length_map, List.length_map, maps_len h, hl]; exact Nat.le_refl _) a.1 (List.mem_map_of_mem ha)
  obtain ⟨m, hm, e⟩ := List.mem_map.mp q
  rw [← e]
  exact (mon_iff h m).mpr hm
/-- a key that is there, its value -/
theorem valA_at {as : Mk} {m : List Int} (hk : Ky.one m [] ∈ as.map (·.1)) : ∃ a ∈ as, a.1 = .one m [] ∧ ∀ xs, a.2 = some xs → valA as m = xs.map intOf := by
  obtain ⟨b, hb, e⟩ := List.mem_map.mp hk
  obtain ⟨a, ha⟩ : ∃ a, as.find? (fun a => decide (a.1 = Ky.one m [])) = some a := by
    cases q : as.find? (fun a => decide (a.1 = Ky.one m [])) with
    | some a => exact ⟨a, rfl⟩
    | none =>
      rw [List.find?_eq_none] at q
      exact absurd (decide_eq_true e) (q b hb)
  refine ⟨a, List.mem_of_find?_eq_some ha, by simpa using List.find?_some ha, fun xs e2 => ?_⟩
  unfold valA
  rw [ha]
  obtain ⟨a1, a2⟩ := a
  cases e2
  rfl
/-- .. in the dict -/
theorem MkAt.val {K : PySem.W.Frag} {H : Hp} : ∀ {as : Mk} {ks : List (Ky × Addr × V)}, MkAt K H as ks → ∀ k a, as.find? (fun a => decide (a.1 = k)) = some a → ∃ v, valK ks k = some v ∧ Val1 K H v a.2
  | _, _, .nil, k, a, h => by cases h
  | b :: as, c :: ks, .cons r t, k, a, h => by
    by_cases q : b.1 = k
    · rw [List.find?_cons, decide_eq_true q] at h
      cases h
      refine ⟨c.2.2, ?_, r.2⟩
      unfold valK
      rw [List.find?_cons, decide_eq_true (r.1.symm.trans q)]
      rfl
    · rw [List.find?_cons, decide_eq_false q] at h
      obtain ⟨v, h1, h2⟩ := MkAt.val t k a h
      refine ⟨v, ?_, h2⟩
      unfold valK
      rw [List.find?_cons, decide_eq_false (fun z => q (r.1.trans z))]
      exact h1
theorem MkAt.keys {K : PySem.W.Frag} {H : Hp} {as : Mk} {ks : List (Ky × Addr × V)} (h : MkAt K H as ks) : ks.map (·.1) = as.map (·.1) := by
  have e := paired_map (G := fun a : Ky × Option (List V) => a.1) (m := fun k : Ky × Addr × V => k.1) (fun _ _ r => r.1.symm) h
  exact e
theorem MkAt.ex {K : PySem.W.Frag} {H H' : Hp} {as : Mk} {ks : List (Ky × Addr × V)} (h : MkAt K H as ks) (e : Ex H H') : MkAt K H' as ks := Paired.mapP h fun _ _ r => ⟨r.1, r.2.ex e⟩
/-- a key looked at -/
def kyV : Ky → Option (Option (List V))
  | .one m [] => some (some (m.map V.int))
  | _ => none
theorem ints_kn {K : PySem.W.Frag} {H : Hp} {m : List Int} : ∀ x ∈ m.map V.int, ∃ T, Kn K H x T := fun x hx => by
  obtain ⟨i, _, e⟩ := List.mem_map.mp hx
  rw [← e]
  exact ⟨_, .int i⟩
/-- (flat keys of one entry are not met) -/
def Ky.ok : Ky → Bool
  | .flat ns => decide (ns.length ≠ 1)
  | _ => true
theorem KyAt.keyV {K : PySem.W.Frag} {H : Hp} {k : Ky} {a : Addr} (h : KyAt H k a) (o : k.ok = true) : KeyV K H (.ref a) (kyV k) := by
  cases k with
  | flat ns =>
    refine .many h ?_
    have := of_decide_eq_true o
    rw [List.length_map]
    omega
  | one m more =>
    obtain ⟨xs, h1, h2⟩ := h
    cases h2 with
    | cons r t =>
      obtain ⟨t', rfl, ht⟩ := r
      cases more with
      | nil =>
        cases t
        exact .one h1 (.tup ht ints_kn)
      | cons y r =>
        refine .many h1 ?_
        have := Paired.length t
        rw [List.length_cons] at this ⊢
        omega
theorem keyB_ky {n : Int} {k : Ky} : keyB n (kyV k) = keyKy n k := by
  cases k with
  | flat ns => rfl
  | one m more =>
    cases more with
    | nil => rfl
    | cons y r => rfl
end Hw
/-! is_making_in, is_making -/
namespace Hw
open PySem PySem.Spec PyProof.Rows L2
section
theorem ixDK {X : Cx} (w : World) (hu : X.A.units + 64 < cLine) (hw : X.w = w := by rfl) : IxR X (rIxD w) := by
  subst hw
  exact ix_dN hu
variable {P : Program} {w : World} {K : PySem.W.Frag} {mg : Str → Option Value} {base : Heap} {C : Addr}
/-- what may be asked whether it is a making: a list; a dict of another length; a dict of tuple keys -/
inductive MkV (w : World) (K : PySem.W.Frag) (H : Hp) (n : Int) : V → Bool → Prop where
  | lst {a : Addr} {xs : List V} (h : H a = some (.lst xs)) : MkV w K H n (.ref a) false
  | len {a : Addr} {m : Nat} (h : DLen H a m) (ne : m ≠ cntM n) : MkV w K H n (.ref a) false
  | dct {a : Addr} {as : Mk} {ks : List (Ky × Addr × V)} (h : DN w H a ks) (m : MkAt K H as ks) (o : as.all (fun a => a.1.ok) = true) : MkV w K H n (.ref a) (makB n as)
abbrev sMI : Stmt := topS 21
abbrev nMI : List Str := ["space", "value", "maps", "key", "made", "pairs", "one", "other"]
theorem scMI : FnScope nMI ["space", "value"] (defScope sMI) := ⟨rfl, rfl, rfl, by decide +kernel, rfl, by decide +kernel, by decide +kernel⟩
def spMI (w : World) (K : PySem.W.Frag) (C : Addr) : Sp := fun vs H Q _ => ∃ a n v b, vs = [.ref a, v] ∧ N12 n ∧ SpaceAt C H a n ∧ MkV w K H n v b ∧ ∀ H', Ex H H' → Q (.bl b) H'
theorem mem_prs {α β : Type} {l : List α} {l1 : List β} {p : α × β} : p ∈ prs l l1 ↔ p.1 ∈ l ∧ p.2 ∈ l1 := by
  unfold prs
  rw [List.mem_flatMap]
  constructor
  · rintro ⟨z, hz, h⟩
    obtain ⟨u, hu, e⟩ := List.mem_map.mp h
    rw [← e]
    exact ⟨hz, hu⟩
  · rintro ⟨h1, h2⟩
    exact ⟨p.1, h1, List.mem_map.mpr ⟨p.2, h2, rfl⟩⟩
theorem all_prs {n : Int} {L : List (List Int)} (h : L.Perm (mapsM n)) (f : List Int × List Int → Bool) : ((prs L L).filter fun p => subM p.1 p.2).all f = ((prs (mapsM n) (mapsM n)).filter fun p => subM p.1 p.2).all f := by
  rw [Bool.eq_iff_iff, List.all_eq_true, List.all_eq_true]
  constructor
  · intro q p hp
    rw [List.mem_filter, mem_prs] at hp
    exact q p (List.mem_filter.mpr ⟨mem_prs.mpr ⟨h.mem_iff.mpr hp.1.1, h.mem_iff.mpr hp.1.2⟩, hp.2⟩)
  · intro q p hp
    rw [List.mem_filter, mem_prs] at hp
    exact q p (List.mem_filter.mpr ⟨mem_prs.mpr ⟨h.mem_iff.mp hp.1.1, h.mem_iff.mp hp.1.2⟩, hp.2⟩)
theorem isi_dictL {H : Hp} {a : Addr} {xs : List V} (h : H a = some (.lst xs)) : PySem.W.kitOne K (.type "list") (.type "dict") = some false := kit_ty (a := "list") (b := "dict") (by decide +kernel)
theorem map_rng {n : Int} (h : N12 n) {m : List Int} (hm : m ∈ mapsM n) : (m.length : Int) = pw2 n := (monI_parts ((mon_iff h m).mpr hm)).1
/-- a value of a making -/
theorem look_ok {H : Hp} {n : Int} (h : N12 n) {as : Mk} {ks : List (Ky × Addr × V)} (m : MkAt K H as ks) {g : List Int} (hk : Ky.one g [] ∈ as.map (·.1)) (hv : as.all (fun a => monB n a.2) = true) :
    ∃ b, valK ks (.one g []) = some (.ref b) ∧ H b = some (.tup ((valA as g).map V.int)) ∧ monI n (valA as g) = true := by
  obtain ⟨b, hb, e⟩ := List.mem_map.mp hk
  obtain ⟨a, ha⟩ : ∃ a, as.find? (fun a => decide (a.1 = Ky.one g [])) = some a := by
    cases q : as.find? (fun a => decide (a.1 = Ky.one g [])) with
    | some a => exact ⟨a, rfl⟩
    | none =>
      rw [List.find?_eq_none] at q
      exact absurd (decide_eq_true e) (q b hb)
  obtain ⟨v, hv1, hv2⟩ := m.val _ a ha
  have hm := List.all_eq_true.mp hv a (List.mem_of_find?_eq_some ha)
  obtain ⟨a1, a2⟩ := a
  cases hv2 with
  | no k n' => cases hm
  | @tup t xs ht hxs =>
    have hm' : (mapB n (some xs) && risB n (xs.map intOf)) = true := hm
    rw [Bool.and_eq_true] at hm'
    have h2 : (decide ((xs.length : Int) = pw2 n) && xs.all fun x => inRng x 0 (pw2 n - 1)) = true := hm'.1
    rw [Bool.and_eq_true] at h2
    have hx := ints_of h2.2
    have ev : valA as g = xs.map intOf := by
      unfold valA
      rw [ha]
    refine ⟨t, hv1, by rw [ev, hx]; exact ht, ?_⟩
    rw [ev]
    unfold monI
    rw [hx]
    exact hm
theorem TupI.new {H : Hp} {p : Addr} {g : List Int} {x : V} (hp : H p = none) (t : TupI g x H) : KyAt (upd H p (.tup [x])) (.one g []) p :=
  ⟨[x], upd_same, .cons (t.tk (.new hp)) .nil⟩
theorem pairs_cnt {n : Int} {L : List (List Int)} (hl : L.length ≤ 36) : ((prs L L).filter fun p => subM p.1 p.2).length ≤ 3000 := by
  refine Nat.le_trans (List.length_filter_le _ _) ?_
  rw [prs_len]
  have := Nat.mul_le_mul hl hl
  omega
set_option maxHeartbeats 16000000 in
theorem ok_MI {f : Addr} {fd : FuncData} {k : Nat} (F : Fun K "is_making_in" "is_making_in" sMI f fd) (Z : Free mg) (T : SpT K mg C) (c1 : Ca P w K mg base CX0 k "is_key" ["space", "value"] (spKey K C)) (c2 : CaM P w K mg base C k "is_monotone" ["self", "value"] (spMon K C))
    (c3 : Ca P w K mg base CX0 k "is_map_part" ["one", "other"] spMP) {j : Nat} (c4 : CaP P w K mg base C j "maps" (spMaps C)) (hj : j + 1 ≤ k) : FnOk P w K mg base CX0 (k + 1) f fd ["space", "value"] (spMI w K C) := by
  obtain ⟨fM, fdM, FM, mM, bM⟩ := c2.ex
  obtain ⟨pP, fP, fdP, FP, mP, bP⟩ := c4.ex
  refine F.ok scMI (fun vs H Q E h => ?_) (fun cdv A outer s H vs Q E hr h => ?_)
  · obtain ⟨a, n, v, b, rfl, _⟩ := h
    rfl
  · obtain ⟨a, n, v, b, rfl, hn, ⟨dx, ha⟩, hv, q⟩ := h
    have hu : A.units + 3 + 16 * k + 200 < cLine := hr.un
    refine ⟨_, pss_cons (ps_set (i := 2) scMI.nd rfl (Or.inr rfl) (pe_prop (pv 0) T.cl mP FP (hr.mono hj) bP .nil pass0 (by rfl)))
      (pss_cons (ps_if (PW.pt (pw_or (pt_not (pt_val (pe_callB (CallR.or call_isi cr_isiD) (by rfl) Z.isi B.isi (pa_cons (pv 1) (pa_cons (pe_bltn (v := .ty "dict") (by rfl) Z.dict B.dict rfl) pa_nil)))))
        (pw_or (pt_cmpR op_ne (pe_callB (CallR.or call_len_seq cr_lenD) (by rfl) Z.len B.len (pa_cons (pv 1) pa_nil)) (pe_callB call_len_seq (by rfl) Z.len B.len (pa_cons (pv 2) pa_nil)) (nomark _))
          (pw_or1 (pt_not (pt_val (pe_callB (cr_all rfl) (by rfl) Z.all B.all (pa_cons (pe_lc (own := [("key", 3)]) (g := gName 3) (tt := tYes) rfl scMI.nd (pi_key9 (pv 1)) (blkOk_by (N := nMI) (sc := defScope sMI) (by decide +kernel))
            (fun _ _ _ _ _ => pg_name (i := 3) scMI.nd rfl (Or.inl rfl)) (fun _ _ _ _ _ => pts_nil) (fun _ _ _ _ _ => pe_ca c1 hr (by rfl) pass0 (pa_cons (pv 0) (pa_cons (pv 3) pa_nil)))) pa_nil)))))))) (pss_one (ps_ret pe_bl)) pss_nil)
      (pss_cons (ps_if (pt_not (pt_val (pe_callB (cr_all rfl) (by rfl) Z.all B.all (pa_cons (pe_lc (own := [("made", 4)]) (g := gName 4) (tt := tYes) rfl scMI.nd (pi_list (pe_listVals9 rfl (pv 1) (by rfl) Z.list)) (blkOk_by (N := nMI) (sc := defScope sMI) (by decide +kernel))
            (fun _ _ _ _ _ => pg_name (i := 4) scMI.nd rfl (Or.inl rfl)) (fun _ _ _ _ _ => pts_nil) (fun _ _ _ _ _ => pe_meth (pv 0) T.cl mM FM hr bM .nil pass0 (pa_cons (pv 4) pa_nil))) pa_nil)))) (pss_one (ps_ret pe_bl)) pss_nil)
      (pss_cons (ps_setLc2 (i := 5) (own := [("one", 6), ("other", 7)]) (vs1 := [7]) (g := gName 6) (g1 := gName 7) (tt := tYes) rfl scMI.nd rfl rfl (sw_true rfl rfl rfl (by decide +kernel))
          (pi_tup (pv 2)) (blkOk_by (N := nMI) (sc := defScope sMI) (by decide +kernel)) (by decide)
          (fun _ _ _ _ _ => pg_name (i := 6) scMI.nd rfl (Or.inl rfl)) (fun _ _ _ _ _ => pts_nil) (fun _ _ _ _ _ => piTK K (pv 2))
          (fun _ _ _ _ _ => pg_name (i := 7) scMI.nd rfl (Or.inl rfl)) (fun _ _ _ _ _ => pts_one (pt_val (pe_ca c3 hr (by rfl) pass0 (pa_cons (pv 6) (pa_cons (pv 7) pa_nil)))))
          (fun _ _ _ _ _ => pe_tup (pa_cons (pv 6) (pa_cons (pv 7) pa_nil))))
      (pss_one (ps_ret (pe_callB (cr_all rfl) (by rfl) Z.all B.all (pa_cons (pe_lc (own := [("one", 6), ("other", 7)]) (g := gTup K 2 (gCons (gName 6) (gCons (gName 7) gNil))) (tt := tYes) rfl scMI.nd
        (pi_list (pv 5)) (blkOk_by (N := nMI) (sc := defScope sMI) (by decide +kernel))
        (fun _ _ _ _ _ => pg_tup rfl (pgs_cons (pg_name (i := 6) scMI.nd rfl (Or.inl rfl)) (pgs_cons (pg_name (i := 7) scMI.nd rfl (Or.inl rfl)) pgs_nil))) (fun _ _ _ _ _ => pts_nil)
        (fun _ _ _ _ _ => pe_ca c3 hr (by rfl) pass0 (pa_cons (pe_ix (ixDK w (by show A.units + 3 + _ < cLine; omega)) (pv 1) (pe_tup (pa_cons (pv 6) pa_nil)) (fun _ _ => rfl)) (pa_cons (pe_ix (ixDK w (by show A.units + 3 + _ < cLine; omega)) (pv 1) (pe_tup (pa_cons (pv 7) pa_nil)) (fun _ _ => rfl)) pa_nil)))) pa_nil))))))), ?_⟩
    refine ⟨_, rfl, a, dx, _, rfl, ha, a, n, rfl, hn, ⟨dx, ha⟩, fun H1 p ys L e1 hp pL hL => ?_⟩
    have hLl : L.length = cntM n := by rw [pL.length_eq, maps_len hn]
    have hyl : ys.length = cntM n := by rw [← Paired.length hL, hLl]
    have hcn : cntM n ≤ 36 := by rcases hn with rfl | rfl <;> decide
    refine ⟨v, rfl, ?_⟩
    cases hv with
    | @lst l xs h =>
      refine .inl ⟨_, _, _, _, _, rfl, .ty _, .base (.lst (e1.lst h)), isi_dictL h, _, rfl, ?_⟩
      exact iteT (iteT (q H1 e1))
    | @len l m h ne =>
      refine .inr ⟨l, m, rfl, h.ex e1, _, rfl, iteF ⟨_, rfl, .inr ⟨l, m, rfl, h.ex e1, _, rfl, p, ys, rfl, .inr (SqT.of hp), rfl, _, rfl, ?_⟩⟩⟩
      rw [decide_eq_false fun z => ne (by have := V.int.inj z; omega)]
      exact iteT (iteT (q H1 e1))
    | @dct l as ks h m o =>
      have hdl := (h.ex e1).dlen
      have lk : as.length = ks.length := Paired.length m
      have em : makB n as = (decide (as.length = cntM n) && (as.all (fun a => keyKy n a.1) && (as.all (fun a => monB n a.2) && upB n as))) := rfl
      have hndk : (as.map (·.1)).Nodup := by rw [← m.keys]; exact h.nd
      have hok : ∀ k ∈ ks, k.1.ok = true := fun k hk => by
        obtain ⟨b, hb, e, _⟩ := paired_mem m k hk
        rw [← e]
        exact List.all_eq_true.mp o b hb
      refine .inr ⟨l, ks.length, rfl, hdl, _, rfl, iteF ⟨_, rfl, .inr ⟨l, ks.length, rfl, hdl, _, rfl, p, ys, rfl, .inr (SqT.of hp), rfl, _, rfl, ?_⟩⟩⟩
      by_cases hl : as.length = cntM n
      case neg =>
        rw [decide_eq_false fun z => hl (by have := V.int.inj z; omega)]
        rw [em, decide_eq_false hl, Bool.false_and] at q
        exact iteT (iteT (q H1 e1))
      rw [decide_eq_true hl, Bool.true_and] at em
      rw [decide_eq_true (congrArg V.int (show ((ks.length : Nat) : Int) = (ys.length : Nat) by omega))]
      refine iteF ⟨_, rfl, l, ks, rfl, h.ex e1, fun J wk D hD => ?_⟩
      refine lcY ks (fun k y _ => y = .bl (keyKy n k.1)) hD wk (by have := h.len; omega) (fun _ _ _ _ _ h => h) (fun _ => rfl) (fun z x H2 Qk hz e2 hY k1 => ?_) fun H2 zs e2 hD2 hP2 => ?_
      · subst hY
        exact ⟨_, rfl, _, rfl, a, n, .ref z.2.1, kyV z.1, rfl, hn, ⟨dx, e2.ins (e1.ins ha)⟩, KyAt.keyV ((h.kd z hz).tk (e1.trans e2).tk) (hok z hz), fun H3 e3 => k1 _ H3 e3 (by rw [keyB_ky])⟩
      have e12 := e1.trans e2
      have ez : zs = (ks.map fun k => keyKy n k.1).map V.bl := by rw [paired_eq hP2, List.map_map]; rfl
      have ek : ks.all (fun k => keyKy n k.1) = as.all (fun a => keyKy n a.1) := by
        rw [show ks.all (fun k => keyKy n k.1) = (ks.map (·.1)).all (keyKy n) by rw [List.all_map]; rfl, m.keys, List.all_map]
        rfl
      subst ez
      refine ⟨D, _, rfl, SqL.of hD2, ?_⟩
      rw [all_map, ek]
      cases hk : as.all (fun a => keyKy n a.1) with
      | false =>
        rw [em, hk, Bool.false_and] at q
        exact ⟨_, rfl, iteT (q H2 e12)⟩
      | true =>
      rw [hk, Bool.true_and] at em
      refine ⟨_, rfl, iteF ?_⟩
      -- the values
      obtain ⟨cs, c1', c2', c3'⟩ := paired_zip (m.ex e12)
      refine ⟨_, rfl, l, ks, rfl, h.ex e12, fun q0 hq0 => ⟨q0, rfl, ⟨_, SqL.of upd_same⟩, fun D2 hD2 => ?_⟩⟩
      have hcl : cs.length = ks.length := by rw [← c2', List.length_map]
      refine lcY cs (fun z y _ => y = .bl (monB n z.1.2)) hD2 ((w0_listP (E := Ex) (p := fun z => z.2.2.2) fun H' e => SqL.ex e (SqL.of (by rw [← c2', List.map_map]; exact upd_same))).wk Ex.refl) (by have := h.len; omega) (fun _ _ _ _ _ h => h) (fun _ => rfl) (fun z x H3 Qk hz e3 hY k1 => ?_) fun H3 zs e3 hD3 hP3 => ?_
      · subst hY
        exact ⟨_, rfl, a, dx, _, rfl, (((Ex.new hq0).trans e3).ins (e12.ins ha)), rfl, _, rfl, a, n, _, z.1.2, rfl, hn, ⟨dx, ((Ex.new hq0).trans e3).ins (e12.ins ha)⟩, (c3' z hz).2.ex ((Ex.new hq0).trans e3), fun H4 e4 => k1 _ H4 e4 rfl⟩
      have e13 := e12.trans ((Ex.new hq0).trans e3)
      have ez : zs = (cs.map fun z => monB n z.1.2).map V.bl := by rw [paired_eq hP3, List.map_map]; rfl
      have ek : cs.all (fun z => monB n z.1.2) = as.all (fun a => monB n a.2) := by
        rw [← c1', List.all_map]
        rfl
      subst ez
      refine ⟨D2, _, rfl, SqL.of hD3, ?_⟩
      rw [all_map, ek]
      cases hv : as.all (fun a => monB n a.2) with
      | false =>
        rw [em, hv, Bool.false_and] at q
        exact ⟨_, rfl, iteT (q H3 e13)⟩
      | true =>
      rw [hv, Bool.true_and] at em
      refine ⟨_, rfl, iteF ?_⟩
      -- the pairs
      obtain ⟨us, u1, u2, u3⟩ := paired_zip hL
      have hul : us.length ≤ 36 := by rw [← List.length_map (f := Prod.fst), u1, hLl]; exact hcn
      have e03 : Ex H1 H3 := e2.trans ((Ex.new hq0).trans e3)
      have hp3 : H3 p = some (.tup (us.map Prod.snd)) := by rw [u2]; exact e03.tup hp
      have mem_of : ∀ z ∈ us, z.1 ∈ mapsM n := fun z hz => pL.mem_iff.mp (by rw [← u1]; exact List.mem_map_of_mem hz)
      refine ⟨_, rfl, p, rfl, ⟨_, SqT.of hp3⟩, fun D3 hD3' => ?_⟩
      refine lcE2 (Y1 := fun u x => x = u.2) us us (fun z => subM z.1.1 z.2.1) (fun z y H' => ∃ t, y = .ref t ∧ H' t = some (.tup [z.1.2, z.2.2])) hD3' ((w0_tupP (E := Ex) (p := Prod.snd) fun H' e => SqT.ex e (SqT.of hp3)).wk Ex.refl) (by
          have := Nat.mul_le_mul hul hul
          omega)
        (fun z y A B h ⟨t, e1, e2⟩ => ⟨t, e1, h _ _ e2⟩) (fun _ => rfl) (fun _ _ => rfl) (fun z x H4 Rk hz e4 hY k1 => ?_) (fun z u x x1 H4 Qk Qs hz hu' e4 hY hY1 k1 k2 => ?_) fun H4 zs e4 hD4 hP4 => ?_
      · exact ⟨_, rfl, p, rfl, ⟨_, SqT.of (e4.tup hp3)⟩, k1 _ _ (.refl _) (w0_tupP (p := Prod.snd) fun H' e => SqT.of (e.tup (e4.tup hp3)))⟩
      · subst hY hY1
        obtain ⟨t1, ht1, ht1'⟩ := u3 z hz
        obtain ⟨t2, ht2, ht2'⟩ := u3 u hu'
        have l1 := map_rng hn (mem_of z hz)
        have l2 := map_rng hn (mem_of u hu')
        have := pw2_rng hn
        refine ⟨_, rfl, _, rfl, t1, t2, z.1, u.1, by rw [ht1, ht2], e4.tup (e03.tup ht1'), e4.tup (e03.tup ht2'), by omega, by omega, fun H5 e5 => ⟨_, rfl, ?_⟩⟩
        cases hs : subM z.1 u.1 with
        | false => exact iteF (k2 H5 hs e5)
        | true =>
          refine iteT ⟨_, rfl, _, rfl, by show 2 ≤ sizeLine; decide, fun p5 hp5 => k1 _ _ hs (e5.then_new hp5) ⟨p5, rfl, upd_same⟩⟩
      refine ⟨_, rfl, D3, rfl, ⟨_, SqL.of hD4⟩, fun D5 hD5 => ?_⟩
      have e04 : Ex H H4 := e13.trans e4
      have hfl : ((prs us us).filter fun z => subM z.1.1 z.2.1).length ≤ 3000 := by
        refine Nat.le_trans (List.length_filter_le _ _) ?_
        rw [prs_len]
        have := Nat.mul_le_mul hul hul
        omega
      refine lcY2 ((prs us us).filter fun z => subM z.1.1 z.2.1) (fun z => z.1.2) (fun z => z.2.2) (fun z y _ => y = .bl (subM (valA as z.1.1) (valA as z.2.1))) hD5 (wk_pairs (SqL.of hD4) hP4) hfl (fun _ _ _ _ _ h => h) (fun _ _ => rfl) (fun z H5 Qk hz e5 k1 => ?_) fun H5 zs5 e5 hD5' hP5 => ?_
      · have hz' := mem_prs.mp (List.mem_filter.mp hz).1
        obtain ⟨t1, ht1, ht1'⟩ := u3 z.1 hz'.1
        obtain ⟨t2, ht2, ht2'⟩ := u3 z.2 hz'.2
        have e05 := e04.trans e5
        have eL : Ex H1 H5 := e03.trans (e4.trans e5)
        have hkall := keys_all hn hndk hl hk
        obtain ⟨b1, w1, w1', w1''⟩ := look_ok hn m (hkall _ (mem_of _ hz'.1)) hv
        obtain ⟨b2, w2, w2', w2''⟩ := look_ok hn m (hkall _ (mem_of _ hz'.2)) hv
        have l1 := (monI_parts w1'').1
        have l2 := (monI_parts w2'').1
        have := pw2_rng hn
        refine ⟨_, rfl, _, rfl, by show 1 ≤ sizeLine; decide, fun p5 hp5 => ⟨l, ks, p5, .one z.1.1 [], .ref b1, rfl, rfl, h.ex (e05.then_new hp5), TupI.new hp5 ⟨t1, ht1, eL.tup ht1'⟩, w1, ?_⟩⟩
        refine ⟨_, rfl, _, rfl, by show 1 ≤ sizeLine; decide, fun p6 hp6 => ⟨l, ks, p6, .one z.2.1 [], .ref b2, rfl, rfl, h.ex ((e05.then_new hp5).then_new hp6), TupI.new hp6 ⟨t2, ht2, (eL.then_new hp5).tup ht2'⟩, w2, ?_⟩⟩
        have e6 := (e05.then_new (o := .tup [z.1.2]) hp5).then_new (o := .tup [z.2.2]) hp6
        exact ⟨b1, b2, valA as z.1.1, valA as z.2.1, rfl, e6.tup w1', e6.tup w2', by omega, by omega, fun H7 e7 => k1 _ H7 (((Ex.new hp5).then_new hp6).trans e7) rfl⟩
      · have ey : zs5 = (((prs us us).filter fun z => subM z.1.1 z.2.1).map fun z => subM (valA as z.1.1) (valA as z.2.1)).map V.bl := by rw [paired_eq hP5, List.map_map]; rfl
        subst ey
        refine ⟨D5, _, rfl, SqL.of hD5', ?_⟩
        rw [all_map]
        have ef : ((prs us us).filter fun z => subM z.1.1 z.2.1).all (fun z => subM (valA as z.1.1) (valA as z.2.1)) = upB n as := by
          unfold upB
          rw [← all_prs pL fun p => subM (valA as p.1) (valA as p.2), ← u1]
          rw [Bool.eq_iff_iff, List.all_eq_true, List.all_eq_true]
          constructor
          · intro h0 x hx
            rw [List.mem_filter, mem_prs] at hx
            obtain ⟨y1, hy1, f1⟩ := List.mem_map.mp hx.1.1
            obtain ⟨y2, hy2, f2⟩ := List.mem_map.mp hx.1.2
            have := h0 (y1, y2) (List.mem_filter.mpr ⟨mem_prs.mpr ⟨hy1, hy2⟩, by show subM y1.1 y2.1 = true; rw [f1, f2]; exact hx.2⟩)
            rw [← f1, ← f2]
            exact this
          · intro h0 x hx
            rw [List.mem_filter, mem_prs] at hx
            exact h0 (x.1.1, x.2.1) (List.mem_filter.mpr ⟨mem_prs.mpr ⟨List.mem_map_of_mem hx.1.1, List.mem_map_of_mem hx.1.2⟩, hx.2⟩)
        rw [ef]
        rw [em] at q
        exact q H5 (e04.trans e5)
end
end Hw
/-! a lambda with parameters and captured names, called later; resting -/
namespace Hw
open PySem PySem.Spec PyProof.Rows L2
/-! ### the call of a lambda -/
section
variable {CX : CXT} {P : Program} {w : World} {K : PySem.W.Frag} {mg : Str → Option Value} {base : Heap} {N ps fr : List Str} {F : NdefX.NF} {f : Addr} {A : Around} {outer : List Env} {s : Shared} {H : Hp} {E : XK} {us : List Value} {vs : List V} {ws : List (Option V)} {k : Nat} {Q : VK}
theorem lam_run {body : Expr} {pm ctv : Value} (S : NdefX.NScope N ps fr F.scope) (hr : Room (k + 1) A) (e0 : Env0 P w K mg base A outer s H) (ho : s.heap.get? f = some (PySem.W.kla_obj F.name F.qual F.params body F.scope F.cl pm F.c ctv)) (hc : H F.c = some (LamX.CodeO F.c F.qual))
    (C : NdefX.CellsAt F.cl fr ws s.heap H) (r : Vals vs us) (hb : bindArgs (PySem.W.kla_fn F.name F.qual F.params body F.scope F.cl pm (.ref F.c) ctv) ⟨us, []⟩ = pure (ps.zip us)) (hl : vs.length = ps.length)
    (hbody : Room k (A.deeper (NdefX.envF F f s.heap.objs.size)) → ∃ t, PE (NdefX.ncx CX P w K mg base N F f A outer s H E) body t ∧ t (NdefX.startF N vs ws) H Q) :
    codeAny (model P w) A (.call (.ref f) ⟨us, []⟩) (CR CX outer P w H s Q E) s := by
  have lim : s.heap.NoLimit := e0.mod.nolimit.keeps fun b o e => (e0.bs b o e).1
  refine PySem.W.kla_callFunE hr.depth ho rfl S.co S.gen rfl (NdefX.codeO_at e0.hok hc) ?_
  rw [hb]
  refine wpAny_pure (wpAny_newFunctionEnv S.nocell (fun ⟨n, _⟩ hy => S.par n (List.of_mem_zip hy).1) (fun h₁ hns hsb => ⟨lim.fresh _ hsb, ?_⟩) S.kind)
  show codeAny _ _ (.expr body (NdefX.envF F f s.heap.objs.size)) _ _
  have kp : ∀ b o, s.heap.get? b = some o → h₁.get? b = some o := fun b o e => hsb.extBut b o (Nat.ne_of_lt (Heap.lt_size e)) (Heap.get?_push_of_some _ e)
  obtain ⟨t, ht, hq⟩ := hbody (hr.deeper _)
  have I : Inv (NdefX.ncx CX P w K mg base N F f A outer s H E) [] (NdefX.startF N vs ws) H { s with heap := h₁, toks := s.toks + (ps.zip us).length } := NdefX.inv_startN S hr.hd e0 hl r C hns kp
  refine PySem.W.kla_codeExpr (wpAny_mono (ht.run [] _ (NdefX.startF N vs ws) H Q I hq) (fun v s' hs => ?_) fun e s' hs => hs)
  obtain ⟨w', H', J', rv, q⟩ := hs
  exact ⟨w', H', J'.os, J'.bare, J'.base, J'.hok, rv, q⟩
end
/-- the function at f, in every state that follows s, H: its promise -/
structure StepAt (P : Program) (w : World) (K : PySem.W.Frag) (mg : Str → Option Value) (base : Heap) (outer0 : List Env) (s0 : Shared) (H0 : Hp) (k : Nat) (f : Addr) (E : XK) (sp : List V → Hp → VK → Prop) : Prop where
  fn : ∀ (s : Shared) (H : Hp), Un (frs outer0) [] H0 H s0.heap s.heap → PySem.W.FnAt f s.heap
  run : ∀ (A : Around) (outer : List Env) (s : Shared) (H : Hp) (us : List Value) (vs : List V) (Q : VK), Room k A → Env0 P w K mg base A outer s H → Un (frs outer0) [] H0 H s0.heap s.heap → Vals vs us → sp vs H Q →
    codeAny (model P w) A (.call (.ref f) ⟨us, []⟩) (CR (L2.CX P w) outer P w H s Q E) s
def tStep (i : Nat) (f : Addr) (sp : List V → Hp → VK → Prop) (t : TA) : TE := fun σ H Q => σ[i]? = some (some (.ref f)) ∧ t σ H fun vs H1 => sp vs H1 Q
section
variable {X : Cx} {k i : Nat} {f : Addr} {E : XK} {sp : List V → Hp → VK → Prop} {x : Str} {p pos : Pos} {e : Expr} {es : List Expr} {t : TA}
/-- a call of a local name that holds it, in the very def that got it (X.outer, X.s_0, X.H_0: its entry) -/
theorem pe_step (S : StepAt X.prog X.w X.K X.mg X.base X.outer X.s_0 X.H_0 k f E sp) (hex : X.ex = []) (hr : Room k X.A) (hN : X.N[i]? = some x) (hv : Vis X.env.scope x) (hx : Passes (L2.CX X.prog X.w) X E) (ha : PA X (e :: es) t)
    (hdb : (x == ("__debug__" : Str)) = false := by decide) (hcd : (x == ("__classdict__" : Str)) = false := by decide)
    (he : starEach (e :: es) X.env = (false, eval e X.env) :: starEach es X.env := by rfl) (hpl : (backTo pos (starEach es X.env)).any (·.1) = false := by rfl) : PE X (.Call (.Name x p) (e :: es) [] pos) (tStep i f sp t) := by
  refine ⟨fun pins s σ H Q I h => ?_⟩
  obtain ⟨hs, ht⟩ := h
  refine wpAny_Call_Name_kw (thn ((pe_var (pos := p) hN hv hdb hcd).run pins s σ H (fun v H1 => v = .ref f ∧ H1 = H) I ⟨.ref f, hs, rfl, rfl⟩) fun u s1 ⟨v, H1, I1, r1, q1⟩ => ?_)
  obtain ⟨rfl, rfl⟩ := q1
  cases r1
  have un1 := I1.base
  rw [hex] at un1
  refine PySem.W.callWith_F (first := []) (S.fn _ _ un1) (thn (ha.run pos pins s1 σ _ _ I1 ht) fun us s2 ⟨vs, H2, I2, r, q⟩ => ?_) he hpl
  have un2 := I2.base
  rw [hex] at un2
  refine ⟨S.fn _ _ un2, ?_⟩
  show wpAny _ _ (call (.ref f) us) _ _ _
  refine wpAny_call (codeAny_mono (S.run X.A X.stack s2 H2 us vs Q hr I2.env0 un2 r q) fun r s' hq => ?_)
  cases r with
  | error e => exact hx pins σ H2 s2 e s' I2 hq
  | ok fl =>
    cases fl with
    | ret u => exact I2.after hq
    | next => exact False.elim hq
    | brk => exact False.elim hq
    | cont => exact False.elim hq
theorem pe_step0 (S : StepAt X.prog X.w X.K X.mg X.base X.outer X.s_0 X.H_0 k f E sp) (hex : X.ex = []) (hr : Room k X.A) (hN : X.N[i]? = some x) (hv : Vis X.env.scope x) (hx : Passes (L2.CX X.prog X.w) X E)
    (hdb : (x == ("__debug__" : Str)) = false := by decide) (hcd : (x == ("__classdict__" : Str)) = false := by decide) : PE X (.Call (.Name x p) [] [] pos) (tStep i f sp tNil) := by
  refine ⟨fun pins s σ H Q I h => ?_⟩
  obtain ⟨hs, q⟩ := h
  refine wpAny_Call_Name_kw (thn ((pe_var (pos := p) hN hv hdb hcd).run pins s σ H (fun v H1 => v = .ref f ∧ H1 = H) I ⟨.ref f, hs, rfl, rfl⟩) fun u s1 ⟨v, H1, I1, r1, q1⟩ => ?_)
  obtain ⟨rfl, rfl⟩ := q1
  cases r1
  have un1 := I1.base
  rw [hex] at un1
  refine PySem.W.callWith_F0 (first := []) (S.fn _ _ un1) ?_
  show wpAny _ _ (call (.ref f) []) _ _ _
  refine wpAny_call (codeAny_mono (S.run X.A X.stack s1 _ [] [] Q hr I1.env0 un1 .nil q) fun r s' hq => ?_)
  cases r with
  | error e => exact hx pins σ _ s1 e s' I1 hq
  | ok fl =>
    cases fl with
    | ret u => exact I1.after hq
    | next => exact False.elim hq
    | brk => exact False.elim hq
    | cont => exact False.elim hq
end
/-! ### tuples of ints as data -/
theorem dpall_ints {K : PySem.W.Frag} {H : Hp} : ∀ ns : List Int, DpAll K H (ns.map V.int) (ns.map PyData.int)
  | [] => .nil
  | n :: r => .cons (.int n) (dpall_ints r)
theorem dp_tup {K : PySem.W.Frag} {H : Hp} {a : Addr} {ns : List Int} (h : H a = some (.tup (ns.map V.int))) : Dp K H (.ref a) (.tuple (ns.map PyData.int)) := .tup (SqT.of h) (dpall_ints ns)
theorem eqv_ints : ∀ xs ys : List Int, PyData.eqvAll (xs.map PyData.int) (ys.map PyData.int) = decide (xs = ys)
  | [], [] => rfl
  | [], _ :: _ => rfl
  | _ :: _, [] => rfl
  | x :: xs, y :: ys => by
    rw [List.map_cons, List.map_cons, PyData.eqvAll, eqv_ints xs ys, PyData.eqv, Bool.eq_iff_iff]
    simp
theorem eqv_tup (xs ys : List Int) : PyData.eqv (.tuple (xs.map PyData.int)) (.tuple (ys.map PyData.int)) = decide (xs = ys) := by
  rw [PyData.eqv]
  exact eqv_ints xs ys
theorem depth_ints : ∀ ns : List Int, PyData.depthAll (ns.map PyData.int) = 0
  | [] => rfl
  | n :: r => by
    rw [List.map_cons, PyData.depthAll, depth_ints r, PyData.depth]
    rfl
theorem canlay_ints : ∀ ns : List Int, PyData.canLayAll0 (ns.map PyData.int) = true
  | [] => rfl
  | n :: r => by
    rw [List.map_cons, PyData.canLayAll0, canlay_ints r, PyData.canLay0]
    rfl
theorem shaped_tup (ns : List Int) : SeqAt.shaped (.tuple (ns.map PyData.int)) = true := by
  unfold SeqAt.shaped
  rw [PyData.canLay0, canlay_ints, PyData.depth, depth_ints]
  rfl
/-! ### resting -/
abbrev sRest : Stmt := topS 18
theorem scRest : FnScope ["step", "number", "later"] ["step", "number"] (defScope sRest) := ⟨rfl, rfl, rfl, by decide +kernel, rfl, by decide +kernel, by decide +kernel⟩
def iter (φ : List Int → List Int) : Nat → List Int → List Int
  | 0, m => m
  | i + 1, m => iter φ i (φ m)
theorem iter_succ (φ : List Int → List Int) : ∀ i m, iter φ (i + 1) m = φ (iter φ i m)
  | 0, _ => rfl
  | i + 1, m => iter_succ φ i (φ m)
/-- one step, from H0 on: φ at the maps that D has -/
def spStep (H0 : Hp) (φ : List Int → List Int) (D : List Int → Prop) : List V → Hp → VK → Prop := fun vs H Q => ∃ a m, vs = [.ref a] ∧ H a = some (.tup (m.map V.int)) ∧ D m ∧ Ex H0 H ∧ ∀ H' b, Ex H H' → H' b = some (.tup ((φ m).map V.int)) → Q (.ref b) H'
section
variable {P : Program} {w : World} {K : PySem.W.Frag} {mg : Str → Option Value} {base : Heap}
theorem run_rest {g f : Addr} {fd : FuncData} {k N : Nat} {φ : List Int → List Int} {D : List Int → Prop} {A : Around} {outer : List Env} {s : Shared} {H : Hp} {a : Addr} {m : List Int} {Q : VK} (F : Fun K "resting" "resting" sRest g fd) (hr : Room (k + 1) A) (e0 : Env0 P w K mg base A outer s H)
    (S : StepAt P w K mg base outer s H k f E0 (spStep H φ D)) (hb : ∀ us : List Value, us.length = 2 → BindsTo s fd ⟨us, []⟩ ((["step", "number"] : List Str).zip us)) (ha : H a = some (.tup (m.map V.int))) (hD : ∀ i, i ≤ N → D (iter φ i m)) (hN : φ (iter φ N m) = iter φ N m)
    (q : ∀ H' b, Ex H H' → H' b = some (.tup ((iter φ N m).map V.int)) → Q (.ref b) H') :
    codeAny (model P w) A (.call (.ref g) ⟨[.ref f, .ref a], []⟩) (CR CX0 outer P w H s Q E0) s := by
  obtain ⟨oc, od, kV, doc, pm, an, cdv, ct, osl, rfl, lk, hcd⟩ := F.ex
  refine LamX.run_ofS (N := ["step", "number", "later"]) (ps := ["step", "number"]) (us := [.ref f, .ref a]) (vs := [.ref f, .ref a]) lk hcd scRest hr e0 (hb _ rfl) (.cons rfl (.cons rfl .nil)) rfl fun hr' => ?_
  have hp : Passes (L2.CX P w) (cxOf CX0 P w K mg base ["step", "number", "later"] "resting" (defScope sRest) g cdv A outer s H E0).nox E0 := passL
  have hu : A.units + 3 + 16 * k + 200 < cLine := hr'.un
  have body : PSs (cxOf CX0 P w K mg base ["step", "number", "later"] "resting" (defScope sRest) g cdv A outer s H E0).nox (defBody sRest) _ :=
    pss_cons (ps_set (i := 2) scRest.nd rfl (Or.inl rfl) (pe_step (i := 0) S rfl hr' rfl (Or.inl rfl) hp (pa_cons (pv 1) pa_nil)))
      (pss_cons (ps_while PassesOwn.never (pt_cmpR (neK K (by show A.units + 3 + 64 < cLine; omega)) (pv 2) (pv 1) (nomark _)) (pss_one (ps_par (i := 1) (j := 2) rfl scRest.nd rfl rfl (by decide) rfl rfl (pa_cons (pv 2) (pa_cons (pe_step (i := 0) S rfl hr' rfl (Or.inl rfl) hp (pa_cons (pv 2) pa_nil)) pa_nil)) (by rfl))))
      (pss_one (ps_ret (pv 1))))
  refine ⟨_, body.nox, ?_⟩
  have stay : ∀ i, i ≤ N → φ (iter φ i m) = iter φ i m → iter φ N m = iter φ i m := by
    intro i hi hfix
    obtain ⟨j, rfl⟩ : ∃ j, N = i + j := ⟨N - i, by omega⟩
    clear hi hN hD q
    induction j with
    | zero => rfl
    | succ j ih => rw [show i + (j + 1) = (i + j) + 1 from rfl, iter_succ, ih, hfix]
  have h0 : iter φ 0 m = m := rfl
  refine ⟨rfl, _, rfl, a, m, rfl, ha, hD 0 (Nat.zero_le _), .refl _, fun H1 c e1 hc => ?_⟩
  refine ⟨fun j σ H1 => ∃ i b c, j = N - i ∧ i ≤ N ∧ σ = [some (.ref f), some (.ref b), some (.ref c)] ∧ Ex H H1 ∧ H1 b = some (.tup ((iter φ i m).map V.int)) ∧ H1 c = some (.tup ((φ (iter φ i m)).map V.int)), ⟨N, 0, a, c, by omega, Nat.zero_le _, rfl, e1, e1.tup ha, hc⟩, ?_⟩
  rintro j σ H2 ⟨i, b, c, rfl, hi, rfl, e2, hb, hc⟩
  refine ⟨_, rfl, _, rfl, _, _, dp_tup hc, dp_tup hb, shaped_tup _, shaped_tup _, _, rfl, ?_⟩
  rw [eqv_tup]
  by_cases hfix : φ (iter φ i m) = iter φ i m
  · rw [decide_eq_true hfix]
    refine iteF ⟨_, rfl, q H2 b e2 ?_⟩
    rw [stay i hi hfix]
    exact hb
  · rw [decide_eq_false hfix]
    have hlt : i < N := by
      rcases Nat.lt_or_ge i N with z | z
      · exact z
      · have : i = N := by omega
        subst this
        exact absurd hN hfix
    refine iteT ⟨fun σ' H' => ∃ b c, σ' = [some (.ref f), some (.ref b), some (.ref c)] ∧ Ex H H' ∧ H' b = some (.tup ((iter φ (i + 1) m).map V.int)) ∧ H' c = some (.tup ((φ (iter φ (i + 1) m)).map V.int)), fun σ' H' ⟨b, c, h1, h2, h3, h4⟩ => ⟨N - (i + 1), by omega, i + 1, b, c, rfl, hlt, h1, h2, h3, h4⟩, ?_⟩
    refine ⟨_, rfl, rfl, _, rfl, c, iter φ (i + 1) m, rfl, by rw [iter_succ]; exact hc, hD (i + 1) hlt, e2, fun H3 d e3 hd => ⟨_, _, rfl, c, d, rfl, e2.trans e3, by rw [iter_succ]; exact e3.tup hc, hd⟩⟩
end
end Hw
/-! resting(lambda one: making[one,], e) -/
namespace Hw
open PySem PySem.Spec PyProof.Rows L2
section
variable {X : Cx}
theorem frs_stack (hst : X.stack = X.env :: X.outer) (hfm : X.env.frame = some X.env.locals) : frs X.stack = X.env.locals :: X.fs := by
  rw [hst]
  unfold frs
  rw [List.filterMap_cons, hfm]
  rfl
/-- what the running frame's cells hold at a call they hold in every later state -/
theorem cells_later {pins : List (Addr × Obj)} {σ : L2.St} {H H' : Hp} {s s' : Shared} {cl : List (Str × Addr)} {fr : List Str} {js : List Nat} (hfn : X.fn = fun _ => true) (I : Inv X pins σ H s) (c : NdefX.Caps X cl fr js) (un : Un (frs X.stack) [] H H' s.heap s'.heap) :
    NdefX.CellsAt cl fr (js.map (NdefX.slotAt σ)) s'.heap H' := by
  have C := NdefX.cells_of I c
  have nf : ∀ y a, cl.lookup y = some a → a ∉ frs X.stack := fun y a e hm => by
    have e2 := c.sub y a e
    rcases List.mem_cons.mp (I.stkSub a hm) with z | z
    · exact I.cne y a e2 z
    · obtain ⟨_, o, ho, _⟩ := I.ok.funs.mem z
      have := I.ok.cab y a (by rw [hfn]) e2
      exact absurd (Nat.lt_of_lt_of_le (Heap.lt_size ho) this) (Nat.lt_irrefl _)
  have kp : ∀ y a, cl.lookup y = some a → ∀ v, s.heap.IsCell a v → s'.heap.IsCell a v := fun y a e v ⟨o, ho, hd⟩ => ⟨o, un.keep a o ho (C.all y a e).1 (nf y a e) (by simp), hd⟩
  refine ⟨C.len, fun y a e => ?_, C.inj, fun i y e => ?_⟩
  · obtain ⟨n, v, z⟩ := C.all y a e
    refine ⟨?_, v, kp y a e v z⟩
    obtain ⟨o, ho, _⟩ := z
    exact un.free a o ho n (by simp)
  · obtain ⟨a, ha, hv⟩ := C.has i y e
    refine ⟨a, ha, fun v ev => ?_⟩
    obtain ⟨u, r, z⟩ := hv v ev
    exact ⟨u, r, kp y a ha _ z⟩
/-- what resting(lambda one: making[one,], e) asks; j: making's slot -/
def tRest (w : World) (K : PySem.W.Frag) (j : Nat) (t2 : TE) : TE := fun σ H Q => LamX.Tabs tbs9 H ∧ ∀ H1, Ex H H1 → t2 σ H1 fun v H2 => Ex H1 H2 ∧ ∃ a m d as ks n N, v = .ref a ∧ H2 a = some (.tup (m.map V.int)) ∧ σ[j]? = some (some (.ref d)) ∧ N12 n ∧ DN w H2 d ks ∧ MkAt K H2 as ks ∧
  as.length = cntM n ∧ as.all (fun a => keyKy n a.1) = true ∧ as.all (fun a => monB n a.2) = true ∧ (∀ i, i ≤ N → iter (valA as) i m ∈ mapsM n) ∧ valA as (iter (valA as) N m) = iter (valA as) N m ∧ ∀ H' b, Ex H2 H' → H' b = some (.tup ((iter (valA as) N m).map V.int)) → Q (.ref b) H'
theorem nscLam {scope : Scope} (h : NdefX.nscB ["one", "making"] ["one"] ["making"] scope = true) : NdefX.NScope ["one", "making"] ["one"] ["making"] scope := NdefX.nscope_by h
theorem pe_rest {c Pt g : Addr} {fd : FuncData} {k j : Nat} {params : Arguments} {scope : Scope} {e2 : Expr} {t2 : TE} {n1 : Nat} {p p1 p2 p3 p4 lpos pos : Pos} (hfn : X.fn = fun _ => true) (hst : X.stack = X.env :: X.outer) (hfm : X.env.frame = some X.env.locals)
    (hg : Gl X "resting") (hm : X.mg "resting" = some (.ref g)) (hk : PySem.W.keepIn X.K (.ref g) = true) (F : Fun X.K "resting" "resting" sRest g fd) (hb : ∀ (s : Shared) (us : List Value), us.length = 2 → BindsTo s fd ⟨us, []⟩ ((["step", "number"] : List Str).zip us)) (hr : Room (k + 3) X.A)
    (TB : LamX.TabB X.base X.mg c Pt) (hcode : X.env.code = .ref c) (hmT : (Pt, X.env.qual ++ "<lambda>") ∈ tbs9) (hu : ∀ p ∈ tbs9, p.1 = Pt → p.2 = X.env.qual ++ "<lambda>") (hdef : defaultsOf params X.env = ([], []))
    (S : NdefX.NScope ["one", "making"] ["one"] ["making"] scope) (hfree : ∀ y ∈ scope.names, y.2 = .free → X.env.scope.names.lookup y.1 = some .cell ∨ X.env.scope.names.lookup y.1 = some .free) (hfr : ∀ y ∈ (["making"] : List Str), (y, NameKind.free) ∈ scope.names) (hj : X.N[j]? = some "making")
    (hbind : ∀ (qq : Str) (cl : List (Str × Addr)) (pm cv ctv u : Value), bindArgs (PySem.W.kla_fn "<lambda>" qq params (.Subscript (.Name "making" p1) (.Tuple [.Name "one" p2] n1 p3) p4) scope cl pm cv ctv) ⟨[u], []⟩ = pure ((["one"] : List Str).zip [u]))
    (he2 : PE X e2 t2) (hs1 : starEach [.Lambda params (.Subscript (.Name "making" p1) (.Tuple [.Name "one" p2] n1 p3) p4) scope lpos, e2] X.env = (false, eval (.Lambda params (.Subscript (.Name "making" p1) (.Tuple [.Name "one" p2] n1 p3) p4) scope lpos) X.env) :: starEach [e2] X.env)
    (hs2 : (backTo pos (starEach [e2] X.env)).any (·.1) = false) (hs3 : starEach [e2] X.env = (false, eval e2 X.env) :: starEach [] X.env) :
    PE X (.Call (.Name "resting" p) [.Lambda params (.Subscript (.Name "making" p1) (.Tuple [.Name "one" p2] n1 p3) p4) scope lpos, e2] [] pos) (tRest X.w X.K j t2) := by
  refine ⟨fun pins s σ H Q I h => ?_⟩
  obtain ⟨hT, h⟩ := h
  have hfr2 : ∀ y ∈ scope.names, y.2 = .free → ∃ c, X.env.cells.lookup y.1 = some c := fun y hy e => (hfree y hy e).elim (fun z => I.ok.has _ (.inl z)) fun z => I.ok.has _ (.inr z)
  refine wpAny_Call_Name_kw (ld_glob I hg hm ?_ (by decide))
  refine PySem.W.callWith_K (h₀ := X.base) I.ok.mod.kin hk ?_ hs1 hs2
  rw [hs1]
  show wpAny _ _ (spliced ((false, eval (.Lambda params _ scope lpos) X.env) :: backTo pos (starEach [e2] X.env))) _ _ s
  refine Calls.spliced_cons (LamX.lam_make2 I TB hcode hmT hu hT hdef hfr2 fun f c' pm' ctv H1 s' I1 eN T1 hf hfn' hfr' hco => ?_)
  have hlo : f ≠ X.env.locals ∧ f ∉ X.fs := by
    rw [frs_stack hst hfm, List.mem_cons] at hfr'
    exact ⟨fun z => hfr' (.inl z), fun z => hfr' (.inr z)⟩
  have I1' : Inv X ((f, _) :: pins) σ H1 s' := I1.pins_of fun p hp => by
    rcases List.mem_cons.mp hp with e | hp
    · subst e
      exact ⟨hf, hfn', hlo.1, hlo.2, fun v z => nomatch z⟩
    · exact I1.pin p (List.mem_append_right _ hp)
  rw [hs3]
  show wpAny _ _ (spliced ((false, eval e2 X.env) :: backTo pos (starEach [] X.env))) _ _ s'
  refine Calls.spliced_cons (thn (he2.run _ s' σ H1 _ I1' (h H1 ⟨eN, fun _ => T1⟩)) fun u2 s2 ⟨v2, H2, I2, r2, e12, a, m, d, as, ks, n, N, ev, ha, hd, hn, hD, hM, hl, hkk, hvv, hit, hfix, q⟩ => Calls.spliced_nil ⟨I2.kIn, ?_⟩)
  subst ev
  cases r2
  obtain ⟨pf, pn, _, _, _⟩ := I2.pin (f, _) (List.mem_append_right _ List.mem_cons_self)
  have keepF : ∀ (s3 : Shared) (H3 : Hp), Un (frs X.stack) [] H2 H3 s2.heap s3.heap → s3.heap.get? f = some (PySem.W.kla_obj "<lambda>" (X.env.qual ++ "<lambda>") params (.Subscript (.Name "making" p1) (.Tuple [.Name "one" p2] n1 p3) p4) scope (cloFrom X.env.cells scope.names []) pm' c' ctv) :=
    fun s3 H3 un => un.keep f _ pf pn hfr' (by simp)
  have caps : NdefX.Caps X (cloFrom X.env.cells scope.names []) ["making"] [j] := NdefX.Caps.made I2.ok hfree hfr (by rw [List.map_cons, hj]; rfl)
  have hco2 : H2 c' = some (LamX.CodeO c' (X.env.qual ++ "<lambda>")) := e12 _ _ hco LamX.codeO_ne
  have hndk : (as.map (·.1)).Nodup := by rw [← hM.keys]; exact hD.nd
  have hkall := keys_all hn hndk hl hkk
  have ST : StepAt X.prog X.w X.K X.mg X.base X.stack s2 H2 (k + 1) f E0 (spStep H2 (valA as) fun m => m ∈ mapsM n) := by
    refine ⟨fun s3 H3 un => ⟨_, _, _, _, keepF s3 H3 un⟩, fun A3 outer3 s3 H3 us3 vs3 Q3 hr3 e03 un r3 q3 => ?_⟩
    obtain ⟨a3, m3, rfl, ha3, hm3, e23, q3⟩ := q3
    cases r3 with
    | cons r3 r3' =>
    cases r3'
    cases r3
    obtain ⟨b, hv1, hv2, hv3⟩ := look_ok hn hM (hkall m3 hm3) hvv
    refine lam_run (CX := L2.CX X.prog X.w) (N := ["one", "making"]) (ps := ["one"]) (fr := ["making"]) (F := ⟨"<lambda>", X.env.qual ++ "<lambda>", params, [], scope, cloFrom X.env.cells scope.names [], c'⟩) (vs := [.ref a3]) (ws := [j].map (NdefX.slotAt σ)) S hr3 e03 (keepF s3 H3 un) (e23 _ _ hco2 LamX.codeO_ne)
      (cells_later hfn I2 caps un) (.cons rfl .nil) (hbind _ _ _ _ _ _) rfl fun hr4 => ?_
    have hp1 := S.par "one" (by simp)
    have hp2 := S.frk "making" (by simp)
    refine ⟨_, pe_ix (ixDK X.w (by exact hr4.units)) (pe_var (i := 1) (x := "making") rfl (.inr (.inr hp2))) (pe_tup (pa_cons (pe_var (i := 0) (x := "one") rfl (.inl hp1)) pa_nil)) (fun _ _ => rfl), ?_⟩
    have hsl : NdefX.slotAt σ j = some (.ref d) := NdefX.slotAt_of hd
    have e1 : (NdefX.startF ["one", "making"] [V.ref a3] ([j].map (NdefX.slotAt σ)))[1]? = some (some (.ref d)) := by
      rw [List.map_cons, hsl]
      rfl
    refine ⟨_, e1, _, rfl, by show 1 ≤ sizeLine; decide, fun p5 hp5 => ⟨d, ks, p5, .one m3 [], .ref b, rfl, rfl, (hD.ex e23).ex (.new hp5), TupI.new hp5 ⟨a3, rfl, ha3⟩, hv1, q3 _ b (.new hp5) ?_⟩⟩
    exact (Ex.new hp5).tup (e23.tup hv2)
  refine wpAny_call (codeAny_mono (run_rest (k := k + 1) (N := N) (m := m) (Q := Q) F (hr.mono (by omega)) I2.env0 ST (hb s2) ha hit hfix q) fun r s3 hq => ?_)
  cases r with
  | error e => exact False.elim hq
  | ok fl =>
    cases fl with
    | ret u =>
      obtain ⟨v, H3, I3, r3, q3⟩ := I2.after hq
      exact ⟨v, H3, I3.pins_of (fun p hp => I3.pin p (List.mem_append_right _ (List.mem_cons_of_mem _ hp))), r3, q3⟩
    | next => exact False.elim hq
    | brk => exact False.elim hq
    | cont => exact False.elim hq
end
end Hw
/-! is_making, require_boolean, settled -/
namespace Hw
open PySem PySem.Spec PyProof.Rows L2
section
variable {P : Program} {w : World} {K : PySem.W.Frag} {mg : Str → Option Value} {base : Heap} {C : Addr}
theorem MkV.ex {H H' : Hp} {n : Int} {v : V} {b : Bool} (h : MkV w K H n v b) (e : Ex H H') : MkV w K H' n v b := by
  cases h with
  | lst h => exact .lst (e.lst h)
  | len h ne => exact .len (h.ex e) ne
  | dct h m o => exact .dct (h.ex e) (m.ex e) o
/-! ### is_making -/
abbrev sIM : Stmt := topS 23
theorem scIM : FnScope ["modes", "value"] ["modes", "value"] (defScope sIM) := ⟨rfl, rfl, rfl, by decide +kernel, rfl, by decide +kernel, by decide +kernel⟩
def spIM (w : World) (K : PySem.W.Frag) : Sp := fun vs H Q _ => ∃ n v b, vs = [.int n, v] ∧ N12 n ∧ MkV w K H n v b ∧ ∀ H', Ex H H' → Q (.bl b) H'
theorem ok_IM {f : Addr} {fd : FuncData} {k : Nat} (F : Fun K "is_making" "is_making" sIM f fd) (c1 : Ca P w K mg base CX0 k "space_of_makings" ["modes"] (spSoM C)) (c2 : Ca P w K mg base CX0 k "is_making_in" ["space", "value"] (spMI w K C)) : FnOk P w K mg base CX0 (k + 1) f fd ["modes", "value"] (spIM w K) := by
  refine F.ok scIM (fun vs H Q E h => ?_) (fun cdv A outer s H vs Q E hr h => ?_)
  · obtain ⟨n, v, b, rfl, _⟩ := h
    rfl
  · obtain ⟨n, v, b, rfl, hn, hv, q⟩ := h
    refine ⟨_, pss_one (ps_ret (pe_ca c2 hr (by rfl) pass0 (pa_cons (pe_ca c1 hr (by rfl) pass0 (pa_cons (pv 0) pa_nil)) (pa_cons (pv 1) pa_nil)))), ?_⟩
    exact ⟨_, rfl, n, rfl, hn, fun H1 p e1 hp => ⟨_, rfl, p, n, v, b, rfl, hn, hp, hv.ex e1, fun H2 e2 => q H2 (e1.trans e2)⟩⟩
/-! ### require_boolean -/
abbrev sRB : Stmt := topS 17
theorem scRB : FnScope ["value"] ["value"] (defScope sRB) := ⟨rfl, rfl, rfl, by decide +kernel, rfl, by decide +kernel, by decide +kernel⟩
def spRB : Sp := fun vs H Q _ => ∃ b, vs = [.bl b] ∧ Q .non H
theorem ok_RB {f : Addr} {fd : FuncData} {k : Nat} (F : Fun K "require_boolean" "require_boolean" sRB f fd) (Z : Free mg) : FnOk P w K mg base CX0 (k + 1) f fd ["value"] spRB := by
  refine F.ok scRB (fun vs H Q E h => ?_) (fun cdv A outer s H vs Q E hr h => ?_)
  · obtain ⟨b, rfl, _⟩ := h
    rfl
  · obtain ⟨b, rfl, q⟩ := h
    refine ⟨_, pss_one (ps_if (pt_not (pt_val (pe_callB call_isi (by rfl) Z.isi B.isi (pa_cons (pv 0) (pa_cons (pe_bltn (v := .ty "bool") (by rfl) Z.bool B.bool rfl) pa_nil))))) (pss_one ps_never) pss_nil), ?_⟩
    exact ⟨_, rfl, _, _, _, _, true, rfl, .ty _, (Kn.bl (K := K) (H := H) b).ty, kit_ty (Kn.bl (K := K) (H := H) b).bool_ans, _, rfl, iteF q⟩
/-! ### settled -/
/-- a def that makes lambdas; c: its code object; kws: its keyword-only defaults -/
structure MkD (K : PySem.W.Frag) (x : Str) (st : Stmt) (c : Addr) (kws : List (Str × V)) (f : Addr) (fd : FuncData) : Prop where
  ex : ∃ (oc : Value) (od : Option Addr) (kV doc pm : Value) (an : Option Addr) (ct : Value) (osl : Array (Option Value)),
    fd = PySem.W.fnOf x x (defArgs st) (defBody st) (defScope st) .none kV doc pm an (.ref c) ct ∧ K.lookup f = some ⟨oc, od, .func fd, osl⟩ ∧ PySem.W.codeIn K (.ref c) x = true ∧ KwdV K kV kws
  kp : PySem.W.keepIn K (.ref f) = true
theorem MkD.funD {x : Str} {st : Stmt} {c f : Addr} {fd : FuncData} {kws : List (Str × V)} (F : MkD K x st c kws f fd) : FunD K x x (defArgs st) (defBody st) (defScope st) [] kws f fd := by
  obtain ⟨oc, od, kV, doc, pm, an, ct, osl, e, lk, cd, kv⟩ := F.ex
  exact ⟨⟨oc, od, .none, kV, doc, pm, an, .ref c, ct, osl, e, lk, cd, .inl ⟨rfl, rfl⟩, kv⟩, F.kp⟩
/-- the exception -/
structure ExcT (K : PySem.W.Frag) (mg : Str → Option Value) (CI : Addr) : Prop where
  g : mg "InvalidMeaning" = some (.ref CI)
  k : PySem.W.keepIn K (.ref CI) = true
  x : PySem.W.excIn K CI [.type "ValueError", .type "Exception", .type "BaseException", .type "object"] "ValueError.__new__" = true
  b : PySem.W.subIn K (.ref CI) (.type "BaseException") = some true
  t : PySem.W.typeIn K (.ref CI) = some (.type "type")
def startM (n : Int) (kp : Bool) : List Int := constM n (if kp = true then pw2 n - 1 else 0)
abbrev sSet : Stmt := topS 24
abbrev nSet : List Str := ["modes", "making", "keep", "space"]
theorem scSet : FnScope nSet ["modes", "making", "keep"] (defScope sSet) := ⟨rfl, rfl, rfl, by decide +kernel, rfl, by decide +kernel, by decide +kernel⟩
def spSet (w : World) (K : PySem.W.Frag) (CI : Addr) : Sp := fun vs H Q E => ∃ n v b kp, vs = [.int n, v, .bl kp] ∧ N12 n ∧ MkV w K H n v b ∧ LamX.Tabs tbs9 H ∧ (b = false → ∀ H', Ex H H' → E (.ref CI) none H') ∧
  (b = true → ∃ d as ks N, v = .ref d ∧ DN w H d ks ∧ MkAt K H as ks ∧ makB n as = true ∧ (∀ i, i ≤ N → iter (valA as) i (startM n kp) ∈ mapsM n) ∧ valA as (iter (valA as) N (startM n kp)) = iter (valA as) N (startM n kp) ∧
    ∀ H' p, Ex H H' → H' p = some (.tup ((iter (valA as) N (startM n kp)).map V.int)) → Q (.ref p) H')
set_option maxHeartbeats 8000000 in
theorem ok_settled {f g CI : Addr} {fd fdg : FuncData} {k j : Nat} (F : MkD K "settled" sSet 393 [("keep", .bl false)] f fd) (T : SpT K mg C) (X9 : ExcT K mg CI) (TB : LamX.TabB base mg 393 389) (c1 : Ca P w K mg base CX0 (k + 3) "space_of_makings" ["modes"] (spSoM C)) (c2 : Ca P w K mg base CX0 (k + 3) "is_making_in" ["space", "value"] (spMI w K C))
    (c3 : Ca P w K mg base CX0 (k + 3) "require_boolean" ["value"] spRB) (hg : mg "resting" = some (.ref g)) (G : Fun K "resting" "resting" sRest g fdg) (hb : ∀ (s : Shared) (us : List Value), us.length = 2 → BindsTo s fdg ⟨us, []⟩ ((["step", "number"] : List Str).zip us))
    (p1 : CaP P w K mg base C j "always" (spConst C fun n => pw2 n - 1)) (p2 : CaP P w K mg base C j "never" (spConst C fun _ => 0)) (hj : j + 1 ≤ k + 3) : FnOk P w K mg base (L2.CX P w) (k + 4) f fd ["modes", "making", "keep"] (spSet w K CI) := by
  obtain ⟨oc, od, kV, doc, pm, an, ct, osl, rfl, lk, hcd, kv⟩ := F.ex
  obtain ⟨q1, f1, fd1, F1, m1, b1⟩ := p1.ex
  obtain ⟨q2, f2, fd2, F2, m2, b2⟩ := p2.ex
  refine fn_of lk hcd scSet (fun vs H Q E h => ?_) fun A outer s H vs Q E hr h => ?_
  · obtain ⟨n, v, b, kp, rfl, _⟩ := h
    rfl
  · obtain ⟨n, v, b, kp, rfl, hn, hv, hT, qE, qQ⟩ := h
    refine ⟨_, pss_cons (ps_set (i := 3) scSet.nd rfl (Or.inl rfl) (pe_ca c1 hr (by rfl) pass0 (pa_cons (pv 0) pa_nil)))
      (pss_cons (ps_if (pt_not (pt_val (pe_ca c2 hr (by rfl) pass0 (pa_cons (pv 3) (pa_cons (pv 1) pa_nil))))) (pss_one (ps_raise rfl (takes_of rfl rfl rfl rfl) (pmk_own PySem.F.excBase_ValueError X9.x X9.g X9.k (raises_own X9.b X9.t) (by rfl)))) pss_nil)
      (pss_cons (ps_expr (pe_ca c3 hr (by rfl) pass0 (pa_cons (pv 2) pa_nil)))
      (pss_one (ps_ret (pe_rest (c := 393) (Pt := 389) (j := 1) rfl rfl rfl (by rfl) hg G.kp G hb hr TB rfl (by show (389, ("settled" : Str) ++ ".<locals>." ++ "<lambda>") ∈ tbs9; decide +kernel) (by show ∀ p ∈ tbs9, p.1 = 389 → p.2 = ("settled" : Str) ++ ".<locals>." ++ "<lambda>"; decide +kernel) (by rfl) (nscLam (by decide +kernel))
        (NdefX.ndef_free (sc := defScope sSet) (fr := ["making"]) (by decide +kernel)) (NdefX.ndef_fr (sc := defScope sSet) (by decide +kernel)) rfl (fun _ _ _ _ _ _ => rfl)
        (pe_ifExp (pt_val (pv 2)) (pe_prop (pv 3) T.cl m1 F1 (hr.mono hj) b1 .nil pass0 (by rfl)) (pe_prop (pv 3) T.cl m2 F2 (hr.mono hj) b2 .nil pass0 (by rfl))) (by rfl) (by rfl) (by rfl)))))), ?_⟩
    refine ⟨_, rfl, n, rfl, hn, fun H1 p e1 hp => ?_⟩
    refine ⟨_, rfl, _, rfl, p, n, v, b, rfl, hn, hp, hv.ex e1, fun H2 e2 => ⟨b, rfl, ?_⟩⟩
    cases b with
    | false => exact iteT (qE rfl H2 (e1.trans e2))
    | true =>
      obtain ⟨d, as, ks, N, rfl, hD, hM, hmk, hit, hfix, qQ⟩ := qQ rfl
      have e12 := e1.trans e2
      refine iteF ⟨_, rfl, kp, rfl, e12.tb hT, fun H3 e3 => ⟨_, rfl, kp, rfl, ?_⟩⟩
      have hp3 : SpaceAt C H3 p n := by
        obtain ⟨dx, hp⟩ := hp
        exact ⟨dx, e3.ins (e2.ins hp)⟩
      obtain ⟨dx, hp3'⟩ := id hp3
      have hmk' : (decide (as.length = cntM n) && (as.all (fun a => keyKy n a.1) && (as.all (fun a => monB n a.2) && upB n as))) = true := hmk
      rw [Bool.and_eq_true, Bool.and_eq_true, Bool.and_eq_true] at hmk'
      have e13 := e12.trans e3
      have hpc : ∀ (v0 : Int) (H4 : Hp) (a : Addr), v0 = (if kp = true then pw2 n - 1 else 0) → H4 a = some (.tup ((constM n v0).map V.int)) → H4 a = some (.tup ((startM n kp).map V.int)) := fun v0 H4 a ev ha => by
        subst ev
        exact ha
      have hal := of_decide_eq_true hmk'.1
      cases kp with
      | true => exact iteT ⟨_, rfl, p, dx, _, rfl, hp3', p, n, rfl, hn, hp3, fun H4 a e4 ha => ⟨e4, a, startM n true, d, as, ks, n, N, rfl, hpc _ H4 a rfl ha, rfl, hn, hD.ex (e13.trans e4), hM.ex (e13.trans e4), hal, hmk'.2.1, hmk'.2.2.1, hit, hfix, fun H' b e5 hb => qQ H' b ((e13.trans e4).trans e5) hb⟩⟩
      | false => exact iteF ⟨_, rfl, p, dx, _, rfl, hp3', p, n, rfl, hn, hp3, fun H4 a e4 ha => ⟨e4, a, startM n false, d, as, ks, n, N, rfl, hpc _ H4 a rfl ha, rfl, hn, hD.ex (e13.trans e4), hM.ex (e13.trans e4), hal, hmk'.2.1, hmk'.2.2.1, hit, hfix, fun H' b e5 hb => qQ H' b ((e13.trans e4).trans e5) hb⟩⟩
end
end Hw
/-! the law's jar -/
namespace Hw
open PySem PySem.Spec PyProof.Rows L2
def JarAt (H : Hp) (j : Addr) : Prop := ∃ a b c : Int, H j = some (.lst [.int a, .int b, .int c])
section
variable {P : Program} {w : World} {K : PySem.W.Frag} {mg : Str → Option Value} {base : Heap} {C : Addr}
theorem JarAt.ex {H H' : Hp} {j : Addr} (h : JarAt H j) (e : Ex H H') : JarAt H' j := by
  obtain ⟨a, b, c, h⟩ := h
  exact ⟨a, b, c, e.lst h⟩
/-! ### _law_scoop -/
abbrev sScoop : Stmt := topS 27
abbrev nScoop : List Str := ["_law_jar_here", "_law_size", "_law_found", "_law_one", "_law_two"]
theorem scScoop : FnScope nScoop ["_law_jar_here", "_law_size"] (defScope sScoop) := ⟨rfl, rfl, rfl, by decide +kernel, rfl, by decide +kernel, by decide +kernel⟩
def spScoop : Sp := fun vs H Q _ => ∃ (j : Addr) (n : Int), vs = [.ref j, .int n] ∧ 0 < n ∧ n < 1000000 ∧ JarAt H j ∧ ∀ H' r, ExJ j H H' → JarAt H' j → 0 ≤ r → r < n → Q (.int r) H'
theorem mulL {i j : Int} (h1 : -(2 ^ 64) < i) (h2 : i < 2 ^ 64) : CMul i j := .inl ⟨h1, h2⟩
theorem ok_scoop {f : Addr} {fd : FuncData} {k : Nat} (F : Fun K "_law_scoop" "_law_scoop" sScoop f fd) (Z : Free mg) : FnOk P w K mg base CX0 (k + 1) f fd ["_law_jar_here", "_law_size"] spScoop := by
  refine F.ok scScoop (fun vs H Q E h => ?_) (fun cdv A outer s H vs Q E hr h => ?_)
  · obtain ⟨j, n, rfl, _⟩ := h
    rfl
  · obtain ⟨j, n, rfl, n0, n1, ⟨a, b, c, hj⟩, q⟩ := h
    refine ⟨_, pss_cons (ps_if (pt_cmpR op_gt (pe_ix ix_list (pv 0) pe_int (fun _ _ => rfl)) pe_int (nomark _))
        (pss_cons (ps_set (i := 2) scScoop.nd rfl (Or.inl rfl) (pe_op op_mod (pe_callTy call_int1 (by rfl) Z.int B.int (pa_cons (pe_ix ix_list (pv 0) pe_int (fun _ _ => rfl)) pa_nil)) (pv 1)))
        (pss_cons (ps_asg (pe_op op_fdiv (pe_ix ix_list (pv 0) pe_int (fun _ _ => rfl)) (pv 1)) (pg_sub (pv 0) pe_int set_list))
        (pss_one (ps_ret (pv 2))))) pss_nil)
      (pss_cons (ps_asg (pe_op op_add (pe_ix ix_list (pv 0) pe_int (fun _ _ => rfl)) pe_int) (pg_sub (pv 0) pe_int set_list))
      (pss_cons (ps_set (i := 3) scScoop.nd rfl (Or.inl rfl) (pe_op op_mod (pe_callTy call_int1 (by rfl) Z.int B.int (pa_cons (pe_op op_add (pe_ix ix_list (pv 0) pe_int (fun _ _ => rfl)) (pe_op op_mul pe_int (pe_ix ix_list (pv 0) pe_int (fun _ _ => rfl)))) pa_nil)) pe_int))
      (pss_cons (ps_set (i := 4) scScoop.nd rfl (Or.inl rfl) (pe_op op_add (pe_op op_mul (pe_op op_mod (pe_callTy call_int1 (by rfl) Z.int B.int (pa_cons (pe_op op_mul (pv 3) (pv 3)) pa_nil)) pe_int) (pv 3)) (pe_op op_mul pe_int (pe_ix ix_list (pv 0) pe_int (fun _ _ => rfl)))))
      (pss_one (ps_ret (pe_op op_mod (pe_callTy call_int1 (by rfl) Z.int B.int (pa_cons (pe_op op_fdiv (pe_op op_mod (pe_callTy call_int1 (by rfl) Z.int B.int (pa_cons (pv 4) pa_nil)) pe_int) pe_int) pa_nil)) (pv 1))))))), ?_⟩
    refine ⟨_, rfl, j, _, 0, _, rfl, rfl, SqL.of hj, rfl, _, _, rfl, rfl, _, rfl, ?_⟩
    by_cases ha : 0 < a
    · rw [decide_eq_true ha]
      refine iteT ⟨_, rfl, j, _, 0, _, rfl, rfl, SqL.of hj, rfl, .inl ⟨a, rfl, _, rfl, a, n, rfl, rfl, n0, ?_⟩⟩
      refine ⟨_, rfl, j, _, 0, _, rfl, rfl, SqL.of hj, rfl, _, rfl, a, n, rfl, rfl, ⟨n0, by omega⟩, _, rfl, j, _, 0, 0, rfl, rfl, hj, rfl, ?_⟩
      exact ⟨_, rfl, q _ _ (.store hj) ⟨_, _, _, upd_same⟩ (Int.emod_nonneg _ (by omega)) (Int.emod_lt_of_pos _ n0)⟩
    · rw [decide_eq_false ha]
      refine iteF ⟨_, rfl, j, _, 2, _, rfl, rfl, SqL.of hj, rfl, c, 1, rfl, rfl, _, rfl, j, _, 2, 2, rfl, rfl, hj, rfl, ?_⟩
      generalize hH : upd H j _ = H1
      have hj1 : H1 j = some (.lst [.int a, .int b, .int (c + 1)]) := by rw [← hH, upd_same]; rfl
      have e1 : ExJ j H H1 := by rw [← hH]; exact .store hj
      have hx0 : 0 ≤ (b + 1000333 * (c + 1)) % 2305843009213693951 := Int.emod_nonneg _ (by decide)
      have hx1 : (b + 1000333 * (c + 1)) % 2305843009213693951 < 2305843009213693951 := Int.emod_lt_of_pos _ (by decide)
      refine ⟨_, rfl, j, _, 1, _, rfl, rfl, SqL.of hj1, rfl, _, rfl, j, _, 2, _, rfl, rfl, SqL.of hj1, rfl, 1000333, c + 1, rfl, rfl, mulL (by decide) (by decide), b, _, rfl, rfl, .inl ⟨_, rfl, _, _, rfl, rfl, show (0 : Int) < 2305843009213693951 by decide, ?_⟩⟩
      dsimp only
      generalize (b + 1000333 * (c + 1)) % 2305843009213693951 = x at hx0 hx1 ⊢
      refine ⟨_, rfl, _, rfl, x, x, rfl, rfl, mulL (by omega) (by omega), .inl ⟨_, rfl, x * x, _, rfl, rfl, show (0 : Int) < 2305843009213693907 by decide, ?_⟩⟩
      dsimp only
      have hy0 : 0 ≤ (x * x) % 2305843009213693907 := Int.emod_nonneg _ (by decide)
      have hy1 : (x * x) % 2305843009213693907 < 2305843009213693907 := Int.emod_lt_of_pos _ (by decide)
      generalize (x * x) % 2305843009213693907 = y at hy0 hy1 ⊢
      refine ⟨_, rfl, y, x, rfl, rfl, mulL (by omega) (by omega), _, rfl, j, _, 2, _, rfl, rfl, SqL.of hj1, rfl, 6101, c + 1, rfl, rfl, mulL (by decide) (by decide), _, _, rfl, rfl, ?_⟩
      refine ⟨_, rfl, .inl ⟨_, rfl, _, _, rfl, rfl, show (0 : Int) < 2305843009213693921 by decide, _, _, rfl, rfl, ⟨show (0 : Int) < 32768 by decide, show (32768 : Int) < 1073741824 by decide⟩, .inl ⟨_, rfl, _, rfl, _, n, rfl, rfl, n0, ?_⟩⟩⟩
      exact q _ _ e1 ⟨_, _, _, hj1⟩ (Int.emod_nonneg _ (by omega)) (Int.emod_lt_of_pos _ n0)
end
end Hw
/-! _law_pick, _law_many, _law_jar, _law_shuffled -/
namespace Hw
open PySem PySem.Spec PyProof.Rows L2
theorem atI_get9 {xs : List V} {i : Int} (h0 : 0 ≤ i) (h1 : i < xs.length) : ∃ v, atI xs i = some v ∧ xs[i.toNat]? = some v := by
  have hl : i.toNat < xs.length := by omega
  refine ⟨xs[i.toNat], at_of (j := i.toNat) (by omega) (List.getElem?_eq_getElem hl), List.getElem?_eq_getElem hl⟩
theorem op_powW {X : Cx} : OpR X (binaryOp .Pow) (rI (fun i j => 0 ≤ j ∧ (Builtin.Int.intBits i : Int) * j ≤ 2 ^ 27) fun i j => .int (i ^ j.toNat)) := opI fun _ _ _ _ _ _ _ hc q => pow_int hc.1 hc.2 q
section
variable {P : Program} {w : World} {K : PySem.W.Frag} {mg : Str → Option Value} {base : Heap} {C : Addr}
/-! ### _law_pick -/
abbrev sPick : Stmt := topS 28
abbrev nPick : List Str := ["_law_jar_here", "_law_items"]
theorem scPick : FnScope nPick nPick (defScope sPick) := ⟨rfl, rfl, rfl, by decide +kernel, rfl, by decide +kernel, by decide +kernel⟩
def spPick : Sp := fun vs H Q _ => ∃ (j l : Addr) (xs : List V), vs = [.ref j, .ref l] ∧ l ≠ j ∧ H l = some (.lst xs) ∧ 0 < xs.length ∧ xs.length ≤ 1000 ∧ JarAt H j ∧ ∀ H' (i : Nat) v, ExJ j H H' → JarAt H' j → xs[i]? = some v → Q v H'
theorem ok_pick {f : Addr} {fd : FuncData} {k : Nat} (F : Fun K "_law_pick" "_law_pick" sPick f fd) (Z : Free mg) (c : Ca P w K mg base CX0 k "_law_scoop" ["_law_jar_here", "_law_size"] spScoop) : FnOk P w K mg base CX0 (k + 1) f fd nPick spPick := by
  refine F.ok scPick (fun vs H Q E h => ?_) (fun cdv A outer s H vs Q E hr h => ?_)
  · obtain ⟨j, l, xs, rfl, _⟩ := h
    rfl
  · obtain ⟨j, l, xs, rfl, hne, hl, h0, h1, hj, q⟩ := h
    refine ⟨_, pss_one (ps_ret (pe_ix ix_list (pv 1) (pe_ca c hr (by rfl) pass0 (pa_cons (pv 0) (pa_cons (pe_callB call_len_seq (by rfl) Z.len B.len (pa_cons (pv 1) pa_nil)) pa_nil))) (fun _ _ => rfl))), ?_⟩
    refine ⟨_, rfl, _, rfl, _, rfl, l, xs, rfl, .inl (SqL.of hl), j, _, rfl, by omega, by omega, hj, fun H1 r e1 hj1 r0 r1 => ?_⟩
    obtain ⟨v, a1, a2⟩ := atI_get9 r0 r1
    exact ⟨l, xs, r, v, rfl, rfl, SqL.of (e1.lst hne hl), a1, q H1 _ v e1 hj1 a2⟩
/-! ### _law_many -/
abbrev sMany : Stmt := topS 31
theorem scMany : FnScope ["_law_modes"] ["_law_modes"] (defScope sMany) := ⟨rfl, rfl, rfl, by decide +kernel, rfl, by decide +kernel, by decide +kernel⟩
def spMany : Sp := fun vs H Q _ => ∃ n, vs = [.int n] ∧ N12 n ∧ ∀ H', Ex H H' → Q (.int (pw2 n)) H'
theorem ok_many {f : Addr} {fd : FuncData} {k : Nat} (F : Fun K "_law_many" "_law_many" sMany f fd) : FnOk P w K mg base CX0 (k + 1) f fd ["_law_modes"] spMany := by
  refine F.ok scMany (fun vs H Q E h => ?_) (fun cdv A outer s H vs Q E hr h => ?_)
  · obtain ⟨n, rfl, _⟩ := h
    rfl
  · obtain ⟨n, rfl, hn, q⟩ := h
    refine ⟨_, pss_one (ps_ret (pe_ix ix_tup (pe_tup (pa_cons pe_int (pa_cons pe_int (pa_cons pe_int pa_nil)))) (pe_op op_sub (pv 0) pe_int) (fun _ _ => rfl))), ?_⟩
    refine ⟨by show 3 ≤ sizeLine; decide, fun p hp => ⟨_, rfl, n, 1, rfl, rfl, p, _, n - 1, _, rfl, rfl, SqT.of upd_same, ?_, q _ (.new hp)⟩⟩
    rcases hn with rfl | rfl <;> rfl
/-! ### _law_jar -/
abbrev sJar : Stmt := topS 26
abbrev nJar : List Str := ["_law_script", "_law_at", "_law_cell", "_law_great", "_law_seed"]
theorem scJar : FnScope nJar ["_law_script", "_law_at"] (defScope sJar) := ⟨rfl, rfl, rfl, by decide +kernel, rfl, by decide +kernel, by decide +kernel⟩
def spJar (K : PySem.W.Frag) : Sp := fun vs H Q _ => ∃ (a : Addr) (ns : List Int) (i : Nat), vs = [.ref a, .int i] ∧ i ≤ 3 ∧ SqL K H a (ns.map V.int) ∧ ∀ H' j, Ex H H' → H j = none → JarAt H' j → Q (.ref j) H'
theorem ok_jar {f : Addr} {fd : FuncData} {k : Nat} (F : Fun K "_law_jar" "_law_jar" sJar f fd) (Z : Free mg) : FnOk P w K mg base CX0 (k + 1) f fd ["_law_script", "_law_at"] (spJar K) := by
  refine F.ok scJar (fun vs H Q E h => ?_) (fun cdv A outer s H vs Q E hr h => ?_)
  · obtain ⟨a, ns, i, rfl, _⟩ := h
    rfl
  · obtain ⟨a, ns, i, rfl, hi, ha, q⟩ := h
    refine ⟨_, pss_cons (ps_set (i := 2) scJar.nd rfl (Or.inl rfl) (pe_ifExp (pt_cmpR op_lt (pv 1) (pe_callB call_len_seq (by rfl) Z.len B.len (pa_cons (pv 0) pa_nil)) (nomark _)) (pe_ix ix_list (pv 0) (pv 1) (fun _ _ => rfl)) (pe_op op_add (pe_op op_mul pe_int (pv 1)) pe_int)))
      (pss_cons (ps_set (i := 3) scJar.nd rfl (Or.inl rfl) (pe_op op_mod (pe_callTy call_int1 (by rfl) Z.int B.int (pa_cons (pe_callB call_abs (by rfl) Z.abs B.abs (pa_cons (pv 2) pa_nil)) pa_nil)) (pe_op op_powW (pe_op op_pow pe_int pe_int) pe_int)))
      (pss_cons (ps_set (i := 4) scJar.nd rfl (Or.inl rfl) (pe_op op_add (pe_op op_add (pe_op op_add (pe_op op_mul (pe_op op_mod (pe_callTy call_int1 (by rfl) Z.int B.int (pa_cons (pv 3) pa_nil)) pe_int) pe_int) (pe_op op_mul pe_int (pv 1)))
          (pe_op op_mul pe_int (pe_callTy call_int1 (by rfl) Z.int B.int (pa_cons (pe_cmpR op_lt (pv 2) pe_int (nomark _)) pa_nil)))) pe_int))
      (pss_one (ps_ret (pe_lst (pa_cons (pe_callB (call_max2 rfl) (by rfl) Z.max B.max (pa_cons pe_int (pa_cons (pe_op op_sub (pv 3) (pe_op op_pow pe_int pe_int)) pa_nil)))
        (pa_cons (pe_op op_mod (pe_callTy call_int1 (by rfl) Z.int B.int (pa_cons (pv 4) pa_nil)) pe_int) (pa_cons pe_int pa_nil)))))))), ?_⟩
    refine ⟨_, rfl, _, rfl, a, _, rfl, .inl ha, i, _, rfl, rfl, _, rfl, ?_⟩
    have hp60 : (Builtin.Int.intBits ((10 : Int) ^ (60 : Int).toNat) : Int) * 10 ≤ 2 ^ 27 := by decide +kernel
    have hp61 : (0 : Int) < ((10 : Int) ^ (60 : Int).toNat) ^ (10 : Int).toNat := by decide +kernel
    have hlen : (ns.map V.int).length = ns.length := List.length_map ..
    rw [hlen]
    by_cases hlt : (i : Int) < ns.length
    · rw [decide_eq_true hlt]
      refine iteT ⟨_, rfl, _, rfl, a, _, i, _, rfl, rfl, ha, at_map (by omega) hlt, ?_⟩
      generalize ns.getD ((i : Nat) : Int).toNat 0 = x
      refine ⟨_, rfl, x, rfl, .inl ⟨_, rfl, 10, 60, rfl, rfl, ⟨by decide, by decide, by decide⟩, _, 10, rfl, rfl, ⟨by decide, hp60⟩, _, _, rfl, rfl, hp61, ?_⟩⟩
      dsimp only
      generalize (if x < 0 then -x else x) % ((10 : Int) ^ (60 : Int).toNat) ^ (10 : Int).toNat = g
      have g0 : 0 ≤ g % 2147483423 := Int.emod_nonneg _ (by decide)
      have g1 : g % 2147483423 < 2147483423 := Int.emod_lt_of_pos _ (by decide)
      refine ⟨_, rfl, .inl ⟨g, rfl, _, _, rfl, rfl, show (0 : Int) < 2147483423 by decide, g % 2147483423, _, rfl, rfl, mulL (by omega) (by omega), _, rfl, _, _, rfl, rfl, mulL (by decide) (by decide), _, _, rfl, rfl, ?_⟩⟩
      refine ⟨_, rfl, x, 0, rfl, rfl, .inr ⟨_, rfl, _, _, rfl, rfl, mulL (by decide) (by decide), _, _, rfl, rfl, _, _, rfl, rfl, ?_⟩⟩
      refine ⟨_, rfl, 10, 18, rfl, rfl, ⟨by decide, by decide, by decide⟩, _, _, rfl, rfl, _, _, rfl, _, rfl, .inl ⟨_, rfl, _, _, rfl, rfl, show (0 : Int) < 2305843009213693921 by decide, ?_⟩⟩
      exact ⟨by show 3 ≤ sizeLine; decide, fun p hp => q _ p (.new hp) hp ⟨_, _, _, upd_same⟩⟩
    · rw [decide_eq_false hlt]
      refine iteF ⟨_, rfl, 113, i, rfl, rfl, mulL (by decide) (by decide), _, _, rfl, rfl, ?_⟩
      dsimp only
      generalize 113 * (i : Int) + 29 = x
      refine ⟨_, rfl, x, rfl, .inl ⟨_, rfl, 10, 60, rfl, rfl, ⟨by decide, by decide, by decide⟩, _, 10, rfl, rfl, ⟨by decide, hp60⟩, _, _, rfl, rfl, hp61, ?_⟩⟩
      dsimp only
      generalize (if x < 0 then -x else x) % ((10 : Int) ^ (60 : Int).toNat) ^ (10 : Int).toNat = g
      have g0 : 0 ≤ g % 2147483423 := Int.emod_nonneg _ (by decide)
      have g1 : g % 2147483423 < 2147483423 := Int.emod_lt_of_pos _ (by decide)
      refine ⟨_, rfl, .inl ⟨g, rfl, _, _, rfl, rfl, show (0 : Int) < 2147483423 by decide, g % 2147483423, _, rfl, rfl, mulL (by omega) (by omega), _, rfl, _, _, rfl, rfl, mulL (by decide) (by decide), _, _, rfl, rfl, ?_⟩⟩
      refine ⟨_, rfl, x, 0, rfl, rfl, .inr ⟨_, rfl, _, _, rfl, rfl, mulL (by decide) (by decide), _, _, rfl, rfl, _, _, rfl, rfl, ?_⟩⟩
      refine ⟨_, rfl, 10, 18, rfl, rfl, ⟨by decide, by decide, by decide⟩, _, _, rfl, rfl, _, _, rfl, _, rfl, .inl ⟨_, rfl, _, _, rfl, rfl, show (0 : Int) < 2305843009213693921 by decide, ?_⟩⟩
      exact ⟨by show 3 ≤ sizeLine; decide, fun p hp => q _ p (.new hp) hp ⟨_, _, _, upd_same⟩⟩
end
end Hw
/-! set(a list of whole numbers); _law_sum -/
namespace Hw
open PySem PySem.Spec PyProof.Rows L2
section
variable {P : Program} {w : World} {A : Around} {E : Value → Shared → Prop} {s : Shared}
/-- the empty set of this world -/
abbrev set0 (w : World) : Obj := { cls := .type "set", dict := none, data := .set #[] 0 (.fresh 0 0 (!w.params.followText "set-order")) }
set_option maxHeartbeats 8000000 in
theorem set_of_ints {l : Addr} {items : Array Value} (ns : List Int) {Q : Value → Shared → Prop} (hh : A.handled = none) (hl : s.heap.IsList l items) (hit : IntsAre items.toList ns) (hb : ns.length + 1 < scanBound)
    (h : ∀ (h' : Heap) (tk c : Nat), SetR w h' s.heap.objs.size (fun j => decide (j ∈ ns)) c → c ≤ ns.length → (∀ b o, s.heap.get? b = some o → h'.get? b = some o) → Q (.ref s.heap.objs.size) { s with heap := h', toks := tk }) :
    wpAny (model P w) A (call (.type "set") [.ref l]) Q E s := by
  have hn : items.size = ns.length := (Array.length_toList (xs := items)).symm.trans (IntsAre.length hit)
  obtain ⟨c, tl, hmro⟩ := F.called_set.mro
  have hmade := F.called_set.made
  have hsub := F.called_set.sub
  have h1 := F.called_set.notType
  have h2 := F.called_set.canCreate
  have hct := F.typeCall_set_1 (.ref l)
  refine wpAny_call (codeAny_of_tree ?_)
  show wpAny _ _ (callAny (.type "set") _) _ _ _
  refine wpAny_pure ⟨Code.quiet_builtin _ (by decide +kernel), codeAny_builtin F.entry_type_call ?_⟩
  rw [Around.under_plain (weight_type_call_type "set" [.ref l] []) rfl]
  repeat (any_goals (first | assumption | wp_step))
  refine codeAny_mono (code_set_led1 (.ref l) (E := E) (Q₁ := fun obj s₁ => obj = .ref s.heap.objs.size ∧ s₁ = { s with heap := s.heap.push (set0 w) }) ⟨rfl, rfl⟩) fun r s₁ hr => ?_
  cases r with
  | error e => exact hr
  | ok fl =>
    cases fl with
    | ret obj =>
      obtain ⟨rfl, rfl⟩ := hr
      generalize hS0 : s.heap.objs.size = S at h ⊢
      have hS : (s.heap.push (set0 w)).get? S = some (set0 w) := by rw [← hS0]; exact Heap.get?_push_size _ rfl
      have hz : (s.heap.push (set0 w)).objs.size = S + 1 := by rw [Heap.size_push, hS0]
      have hT : Shared.TypeIs { s with heap := s.heap.push (set0 w) } (.ref S) "set" := ⟨_, hS, rfl⟩
      have hli := F.called_set.init.lookup
      have hbi := F.called_set.init.bind (.ref S)
      repeat (any_goals (first | assumption | wp_step))
      refine codeAny_mono (codeAny_call_builtin (R := wants (fun r s₂ => r = .none ∧ ∃ h' tk c, s₂ = { s with heap := h', toks := tk } ∧ SetR w h' S (fun j => decide (j ∈ ns)) c ∧ c ≤ ns.length ∧
          (∀ b o, s.heap.get? b = some o → h'.get? b = some o)) E) F.called_set.init.plain F.entry_set_init (check_set_init_1 hT ?_)) fun r₂ s₂ hr₂ => ?_
      · obtain ⟨⟨lcls, ldict, ldata, lslots⟩, hol, hcl, nl, hdl⟩ := hl
        simp only at hcl hdl
        subst hcl; subst hdl
        have hol' : (s.heap.push (set0 w)).get? l = some { cls := .type "list", dict := ldict, data := .seq items nl, slots := lslots } := Heap.get?_push_of_some _ hol
        have hsls := F.sub_list_set
        have hslf := F.sub_list_frozenset
        have hne : (Value.type "list" == Value.type "dict") = false := by decide
        have hl1 : (s.heap.push (set0 w)).IsList l items := ⟨_, hol', rfl, nl, rfl⟩
        have hlS : l < S := by rw [← hS0]; exact Heap.lt_size hol
        unfold Builtin.«set.__init__» noKeywords Builtin.Frozenset.updateFrom
        generalize hPI : pyIter = PI
        wp_walk
        subst hPI
        refine wpAny_pyIter_list hl1 ?_
        refine wpAny_bind (wpAny_runValue ?_)
        have hval : ∀ (i : Nat) (v : Value), items[i]? = some v → ∃ k t, ns[i]? = some k ∧ v = .int k t := fun i v hv => by
          have hi : i < ns.length := hn ▸ (Array.getElem?_eq_some_iff.mp hv).1
          obtain ⟨t, e⟩ := PyProof.Rows.IntsAre.int_at hit i v (by rw [Array.getElem?_toList]; exact hv)
          refine ⟨ns[i], t, List.getElem?_eq_getElem hi, ?_⟩
          rw [e, List.getD_eq_getElem?_getD, List.getElem?_eq_getElem hi] <;> rfl
        have hI : l ≠ (s.heap.push (set0 w)).objs.size := Nat.ne_of_lt (by rw [hz]; exact Nat.lt_succ_of_lt hlS)
        have hf : S ∉ [(s.heap.push (set0 w)).objs.size, l] := fun z => (List.mem_cons.mp z).elim (fun e => Nat.ne_of_lt (show S < (s.heap.push (set0 w)).objs.size by rw [hz]; exact Nat.lt_succ_self S) e) fun z => Nat.ne_of_gt hlS (List.mem_singleton.mp z)
        refine set_update_ints ((Walks.list (by simp [hh]) _ l hI items).toS) S hf ns hn hb hval (items.size - 0) 0 _ (by omega) (Nat.zero_le _) ⟨⟨_, Heap.get?_push_size _ rfl, rfl, rfl⟩, hl1.push _⟩ ⟨0, Nat.le_refl 0, setR_new_at (Heap.get?_push_of_some _ hS)⟩ fun s' c' hm hc' hS' => ?_
        obtain ⟨h', g2, d', tk', os'⟩ := s'
        have eg : g2 = s.gens := hm.gens
        have ed : d' = s.drawn := hm.drawn
        have eo : os' = s.os := hm.os
        subst eg; subst ed; subst eo
        show wpAny _ _ _ _ _ _
        refine wpAny_pure ?_
        show wpAny _ _ (ret Value.none) _ _ _
        rw [hn] at hc'
        refine wpAny_pure ⟨rfl, h', tk', c', rfl, hS', hc', fun b o e => ?_⟩
        have hb0 : b < S := by rw [← hS0]; exact Heap.lt_size e
        exact hm.heap b o (fun z => (List.mem_cons.mp z).elim (fun e => Nat.ne_of_lt hb0 e) fun z => Nat.ne_of_lt (show b < (s.heap.push (set0 w)).objs.size by rw [hz]; exact Nat.lt_succ_of_lt hb0) (List.mem_singleton.mp z)) (Heap.get?_push_of_some _ (Heap.get?_push_of_some _ e))
      · cases r₂ with
        | error e => exact hr₂
        | ok fl₂ =>
          cases fl₂ with
          | ret r =>
            obtain ⟨rfl, h', tk, c', rfl, hS', hc', hk'⟩ := hr₂
            repeat (any_goals (first | assumption | wp_step))
            exact h _ _ _ hS' hc' hk'
          | next => exact False.elim hr₂
          | brk => exact False.elim hr₂
          | cont => exact False.elim hr₂
    | next => exact False.elim hr
    | brk => exact False.elim hr
    | cont => exact False.elim hr
end
section
variable {X : Cx}
def rSetL9 (w : World) : List V → Hp → VK → Prop := fun xs H Q => ∃ (l : Addr) (ns : List Int), xs = [.ref l] ∧ H l = some (.lst (ns.map V.int)) ∧ ns.length ≤ 60 ∧ ∀ p c, H p = none → c ≤ ns.length → Q (.ref p) (upd H p (SetO w p (fun j => decide (j ∈ ns)) c))
theorem cr_setL9 (hc : X.calm = true) : CallR X (.type "set") (rSetL9 X.w) := by
  intro pins s σ H xs us Q I r h
  obtain ⟨l, ns, rfl, hl, h60, q⟩ := h
  obtain ⟨u, rfl, rx⟩ := vals1 r
  cases rx
  obtain ⟨z, its, n, rv, e⟩ := (show ObjOk X.prog X.w H s.heap l (.lst (ns.map V.int)) from I.hok l _ hl)
  have hi : IntsAre its.toArray.toList ns := ints_of_vals rv
  refine set_of_ints ns (I.ok.hd hc) ⟨_, e, rfl, n, rfl⟩ hi (by unfold scanBound; omega) fun h' tk c R hc2 kp => ?_
  exact ⟨.ref s.heap.objs.size, _, I.laid (t' := tk) kp (Nat.le_refl _) (setO_new R), rfl, q _ c (I.hok.fresh (Nat.le_refl _)) hc2⟩
end
section
variable {P : Program} {w : World} {K : PySem.W.Frag} {mg : Str → Option Value} {base : Heap} {C : Addr}
/-! ### _law_sum -/
abbrev sSum : Stmt := topS 30
theorem scSum : FnScope ["_law_modes", "_law_mode"] ["_law_modes"] (defScope sSum) := ⟨rfl, rfl, rfl, by decide +kernel, rfl, by decide +kernel, by decide +kernel⟩
/-- the set of these modes -/
def sumB (l : List Int) : Int := (l.map fun m => if m = 0 then 1 else 2).sum
def spSum : Sp := fun vs H Q _ => ∃ (l : Addr) (ms : List Int), vs = [.ref l] ∧ H l = some (.lst (ms.map V.int)) ∧ ms.Nodup ∧ (∀ m ∈ ms, m = 0 ∨ m = 1) ∧ ∀ H', Ex H H' → Q (.int (sumB ms)) H'
theorem perm_sum {l m : List Int} (h : l.Perm m) : l.sum = m.sum := by
  induction h with
  | nil => rfl
  | cons x _ ih => rw [List.sum_cons, List.sum_cons, ih]
  | swap x y r => rw [List.sum_cons, List.sum_cons, List.sum_cons, List.sum_cons]; omega
  | trans _ _ i1 i2 => exact i1.trans i2
theorem nodup_le2 : ∀ {ms : List Int}, ms.Nodup → (∀ m ∈ ms, m = 0 ∨ m = 1) → ms.length ≤ 2 := fun {ms} h1 h2 => by
  match ms, h1, h2 with
  | [], _, _ => exact Nat.zero_le _
  | [_], _, _ => exact Nat.le_succ _
  | [_, _], _, _ => exact Nat.le_refl _
  | a :: b :: c :: r, h1, h2 =>
    have ha := h2 a (by simp)
    have hb := h2 b (by simp)
    have hc := h2 c (by simp)
    simp only [List.nodup_cons, List.mem_cons, not_or] at h1
    obtain ⟨⟨n1, n2, _⟩, ⟨n3, _⟩, _⟩ := h1
    omega
theorem perm_of_mem {l m : List Int} (h1 : l.Nodup) (h2 : m.Nodup) (h : ∀ k, k ∈ l ↔ k ∈ m) : l.Perm m := (List.perm_ext_iff_of_nodup h1 h2).mpr h
theorem ok_sum {f : Addr} {fd : FuncData} {k : Nat} (F : Fun K "_law_sum" "_law_sum" sSum f fd) (Z : Free mg) : FnOk P w K mg base CX0 (k + 1) f fd ["_law_modes"] spSum := by
  refine F.ok scSum (fun vs H Q E h => ?_) (fun cdv A outer s H vs Q E hr h => ?_)
  · obtain ⟨l, ms, rfl, _⟩ := h
    rfl
  · obtain ⟨l, ms, rfl, hl, hnd, h01, q⟩ := h
    refine ⟨_, pss_one (ps_ret (pe_callB (cr_sum rfl) (by rfl) Z.sum B.sum (pa_cons (pe_lc (own := [("_law_mode", 1)]) (g := gName 1) (tt := tYes) rfl scSum.nd
      (pi_list (pe_callB (cr_sortedSet rfl) (by rfl) Z.sorted B.sorted (pa_cons (pe_callTy (cr_setL9 rfl) (by rfl) Z.set B.set (pa_cons (pv 0) pa_nil)) pa_nil))) (blkOk_by (N := ["_law_modes", "_law_mode"]) (sc := defScope sSum) (by decide +kernel))
      (fun _ _ _ _ _ => pg_name (i := 1) scSum.nd rfl (Or.inl rfl)) (fun _ _ _ _ _ => pts_nil) (fun _ _ _ _ _ => pe_ix (ixTK K) (pe_tup (pa_cons pe_int (pa_cons pe_int (pa_cons pe_int pa_nil)))) (pv 1) (fun _ _ => rfl))) pa_nil))), ?_⟩
    have hle := nodup_le2 hnd h01
    refine ⟨_, rfl, l, ms, rfl, hl, by omega, fun p c hp hc => ⟨p, _, c, rfl, upd_same, by omega, fun ns p2 hpw hmem hlen hp2 => ?_⟩⟩
    have hnd2 : ns.Nodup := hpw.imp fun {a b} (h : a < b) => by omega
    have hperm : ns.Perm ms := perm_of_mem hnd2 hnd fun k => by rw [hmem k, decide_eq_true_eq]
    refine ⟨p2, rfl, ⟨_, SqL.of upd_same⟩, fun D hD => ?_⟩
    refine lcY ns (fun z y _ => y = .int (if z = 0 then 1 else 2)) hD ((w0_listP (E := Ex) (p := V.int) fun H' e => SqL.ex e (SqL.of upd_same)).wk Ex.refl) (by rw [hperm.length_eq]; omega) (fun _ _ _ _ _ h => h) (fun _ => rfl) (fun z x H2 Qk hz e2 hY k1 => ?_) fun H2 zs e2 hD2 hP2 => ?_
    · subst hY
      refine ⟨by show 3 ≤ sizeLine; decide, fun p3 hp3 => ⟨_, rfl, p3, _, z, _, rfl, rfl, SqT.of upd_same, ?_, k1 _ _ (.new hp3) rfl⟩⟩
      rcases h01 z (hperm.mem_iff.mp hz) with rfl | rfl <;> rfl
    · have ez : zs = (ns.map fun z => if z = 0 then 1 else 2).map V.int := by rw [paired_eq hP2, List.map_map]; rfl
      subst ez
      refine ⟨D, _, rfl, SqL.of hD2, ?_⟩
      rw [perm_sum (hperm.map fun z : Int => if z = 0 then (1 : Int) else 2)]
      exact q H2 (((Ex.new hp).then_new hp2).trans e2)
end
end Hw
/-! _law_any_map, _law_rows, _law_up, _law_rising -/
namespace Hw
open PySem PySem.Spec PyProof.Rows L2
theorem JarAt.upd {H : Hp} {j D : Addr} {o : HO} (h : JarAt H j) (n : j ≠ D) : JarAt (upd H D o) j := by
  obtain ⟨a, b, c, h⟩ := h
  exact ⟨a, b, c, by rw [upd_ne n]; exact h⟩
theorem JarAt.ne {H : Hp} {j D : Addr} (h : JarAt H j) (hD : H D = none) : j ≠ D := by
  obtain ⟨a, b, c, h⟩ := h
  exact ne_of_none h hD
/-- a list of ints of the scoop's, for the comprehensions -/
theorem ints_from {Pr : Int → Prop} : ∀ {l : List Nat} {ys : List V}, Paired (fun (_ : Nat) y => ∃ x : Int, y = V.int x ∧ Pr x) l ys → ∃ ms : List Int, ys = ms.map V.int ∧ ms.length = l.length ∧ ∀ x ∈ ms, Pr x
  | _, _, .nil => ⟨[], rfl, rfl, fun _ z => by cases z⟩
  | _, _, .cons r t => by
    obtain ⟨x, e, hx⟩ := r
    obtain ⟨ms, h1, h2, h3⟩ := ints_from t
    refine ⟨x :: ms, by rw [h1, e]; rfl, by rw [List.length_cons, List.length_cons, h2], fun y hy => ?_⟩
    rcases List.mem_cons.mp hy with z | z
    · rw [z]; exact hx
    · exact h3 y z
section
variable {P : Program} {w : World} {K : PySem.W.Frag} {mg : Str → Option Value} {base : Heap} {C : Addr}
/-! ### _law_any_map -/
abbrev sAny : Stmt := topS 35
abbrev nAny : List Str := ["_law_jar_here", "_law_modes", "_law_good"]
theorem scAny : FnScope nAny ["_law_jar_here", "_law_modes"] (defScope sAny) := ⟨rfl, rfl, rfl, by decide +kernel, rfl, by decide +kernel, by decide +kernel⟩
def inN (n : Int) (m : List Int) : Prop := (m.length : Int) = pw2 n ∧ ∀ x ∈ m, 0 ≤ x ∧ x < pw2 n
def spAny : Sp := fun vs H Q _ => ∃ (j : Addr) (n : Int), vs = [.ref j, .int n] ∧ N12 n ∧ JarAt H j ∧ ∀ H' p m, ExJ j H H' → JarAt H' j → inN n m → H' p = some (.tup (m.map V.int)) → Q (.ref p) H'
theorem ok_any {f : Addr} {fd : FuncData} {k : Nat} (F : Fun K "_law_any_map" "_law_any_map" sAny f fd) (Z : Free mg) (c1 : Ca P w K mg base CX0 k "_law_scoop" ["_law_jar_here", "_law_size"] spScoop) (c2 : Ca P w K mg base CX0 k "_law_many" ["_law_modes"] spMany) :
    FnOk P w K mg base CX0 (k + 1) f fd ["_law_jar_here", "_law_modes"] spAny := by
  refine F.ok scAny (fun vs H Q E h => ?_) (fun cdv A outer s H vs Q E hr h => ?_)
  · obtain ⟨j, n, rfl, _⟩ := h
    rfl
  · obtain ⟨j, n, rfl, hn, hj, q⟩ := h
    refine ⟨_, pss_one (ps_ret (pe_callTy call_tuple_of (by rfl) Z.tuple B.tuple (pa_cons (pe_lc (own := [("_law_good", 2)]) (g := gName 2) (tt := tYes) rfl scAny.nd
      (pi_range1 (by rfl) Z.range (pa_cons (pe_ca c2 hr (by rfl) pass0 (pa_cons (pv 1) pa_nil)) pa_nil)) (blkOk_by (N := nAny) (sc := defScope sAny) (by decide +kernel))
      (fun _ _ _ _ _ => pg_name (i := 2) scAny.nd rfl (Or.inl rfl)) (fun _ _ _ _ _ => pts_nil)
      (fun _ _ _ _ _ => pe_ca c1 hr (by rfl) pass0 (pa_cons (pv 0) (pa_cons (pe_ca c2 hr (by rfl) pass0 (pa_cons (pv 1) pa_nil)) pa_nil)))) pa_nil))), ?_⟩
    have hp := pw2_rng hn
    refine ⟨_, rfl, n, rfl, hn, fun H1 e1 => ⟨pw2 n, rfl, by omega, by omega, fun D hD => ?_⟩⟩
    have hj1 := hj.ex e1
    have hjD := hj1.ne hD
    obtain ⟨_, _, _, hj1'⟩ := id hj1
    refine lcG (ExJ j) (fun _ A => JarAt A j) (List.range (pw2 n).toNat) (fun _ => true) (fun _ y _ => ∃ x : Int, y = .int x ∧ 0 ≤ x ∧ x < pw2 n) (.exJ hD hj1') hD ((w0_range (pw2 n).toNat (ExJ j)).wk ExJ.refl) (by rw [List.length_range]; omega) (fun _ _ _ _ _ h => h)
      (fun i A xs ys _ hI => hI.upd hjD) (hj1.upd hjD) (fun i z x H2 Qk Qs hz e2 hI hY k1 _ => ?_) (fun i A x B _ hI hy => by obtain ⟨rfl, _⟩ := hy; exact hI) fun H2 ys e2 hI hD2 hP => ?_
    · refine ⟨rfl, ?_⟩
      dsimp only [tYes]
      rw [if_pos rfl]
      exact ⟨_, rfl, _, rfl, n, rfl, hn, fun H3 e3 => ⟨j, pw2 n, rfl, by omega, by omega, hI.ex e3, fun H4 r e4 hj4 r0 r1 => k1 _ H4 rfl (e3.toJ.trans e4) hj4 ⟨r, rfl, r0, r1⟩⟩⟩
    · rw [List.filter_eq_self.mpr (fun _ _ => rfl)] at hP
      obtain ⟨ms, rfl, hl, hx⟩ := ints_from hP
      rw [List.length_range] at hl
      refine ⟨D, _, rfl, .inl ⟨SqL.of hD2, fun l hl2 => ?_⟩⟩
      exact q _ l ms ((e1.toJ.trans e2).trans (Ex.new hl2).toJ) (hI.upd (hI.ne hl2)) ⟨by omega, hx⟩ upd_same
/-! ### _law_rows -/
abbrev sRows : Stmt := topS 32
abbrev nRows : List Str := ["_law_jar_here", "_law_modes", "_law_found", "_law_mode", "_law_turn"]
theorem scRows : FnScope nRows ["_law_jar_here", "_law_modes"] (defScope sRows) := ⟨rfl, rfl, rfl, by decide +kernel, rfl, by decide +kernel, by decide +kernel⟩
def RowAt (H : Hp) (n : Int) (r : List Int) (y : V) : Prop := ∃ t, y = .ref t ∧ H t = some (.lst (r.map V.int)) ∧ (∀ x ∈ r, 0 ≤ x ∧ x < pw2 n) ∧ r.length ≤ 3
def spRows : Sp := fun vs H Q _ => ∃ (j : Addr) (n : Int), vs = [.ref j, .int n] ∧ N12 n ∧ JarAt H j ∧ ∀ H' p ys rws, ExJ j H H' → JarAt H' j → (rws.length : Int) = n → H' p = some (.lst ys) → Paired (RowAt H' n) rws ys → Q (.ref p) H'
theorem ok_rows {f : Addr} {fd : FuncData} {k : Nat} (F : Fun K "_law_rows" "_law_rows" sRows f fd) (Z : Free mg) (c1 : Ca P w K mg base CX0 k "_law_scoop" ["_law_jar_here", "_law_size"] spScoop) (c2 : Ca P w K mg base CX0 k "_law_many" ["_law_modes"] spMany) :
    FnOk P w K mg base CX0 (k + 1) f fd ["_law_jar_here", "_law_modes"] spRows := by
  refine F.ok scRows (fun vs H Q E h => ?_) (fun cdv A outer s H vs Q E hr h => ?_)
  · obtain ⟨j, n, rfl, _⟩ := h
    rfl
  · obtain ⟨j, n, rfl, hn, hj, q⟩ := h
    refine ⟨_, pss_cons (ps_set (i := 2) scRows.nd rfl (Or.inl rfl) (pe_lst pa_nil))
      (pss_cons (ps_for PassesOwn.never rfl (pi_range1 (by rfl) Z.range (pa_cons (pv 1) pa_nil)) (pg_name (i := 3) scRows.nd rfl (Or.inl rfl))
        (pss_one (ps_expr (pe_bm PySem.F.plainAttrs_list PySem.F.slot_list_append PySem.F.type_list_append mt_append (pv 2) (pa_cons (pe_lc (own := [("_law_turn", 4)]) (g := gName 4) (tt := tYes) rfl scRows.nd
          (pi_range1 (by rfl) Z.range (pa_cons (pe_ca c1 hr (by rfl) pass0 (pa_cons (pv 0) (pa_cons pe_int pa_nil))) pa_nil)) (blkOk_by (N := nRows) (sc := defScope sRows) (by decide +kernel))
          (fun _ _ _ _ _ => pg_name (i := 4) scRows.nd rfl (Or.inl rfl)) (fun _ _ _ _ _ => pts_nil)
          (fun _ _ _ _ _ => pe_ca c1 hr (by rfl) pass0 (pa_cons (pv 0) (pa_cons (pe_ca c2 hr (by rfl) pass0 (pa_cons (pv 1) pa_nil)) pa_nil)))) pa_nil)))))
      (pss_one (ps_ret (pv 2)))), ?_⟩
    have hp := pw2_rng hn
    have hn2 : 1 ≤ n ∧ n ≤ 2 := by rcases hn with rfl | rfl <;> decide
    refine ⟨by show 0 ≤ sizeLine; decide, fun fA hfA => ?_⟩
    have hjf := hj.ne hfA
    refine ⟨_, rfl, n, rfl, by omega, by omega, for_range (lo := 0) (n := n.toNat) (fun i σ H1 => ∃ t3 ys rws, σ = [some (.ref j), some (.int n), some (.ref fA), t3, none] ∧ ExJ j H H1 ∧ JarAt H1 j ∧ rws.length = i ∧ H1 fA = some (.lst ys) ∧ Paired (fun r y => RowAt H1 n r y ∧ y ≠ .ref fA ∧ y ≠ .ref j) rws ys)
      ⟨none, [], [], rfl, (Ex.new hfA).toJ, hj.upd hjf, rfl, upd_same, .nil⟩ ?_ ?_⟩
    · rintro i σ H1 hi ⟨t3, ys, rws, rfl, e1, hj1, hl, hys, hP⟩
      refine ⟨_, rfl, .inl ⟨rfl, _, SqL.of hys⟩, _, rfl, j, 4, rfl, by decide, by decide, hj1, fun H2 r e2 hj2 r0 r1 => ⟨r, rfl, by omega, by omega, fun D hD => ?_⟩⟩
      have hys2 := e2.lst (Ne.symm hjf) hys
      have hjD := hj2.ne hD
      have hfD : fA ≠ D := ne_of_none hys2 hD
      obtain ⟨_, _, _, hj2'⟩ := id hj2
      refine lcG (ExJ j) (fun _ A => JarAt A j) (List.range r.toNat) (fun _ => true) (fun _ y _ => ∃ x : Int, y = .int x ∧ 0 ≤ x ∧ x < pw2 n) (.exJ hD hj2') hD ((w0_range r.toNat (ExJ j)).wk ExJ.refl) (by rw [List.length_range]; omega) (fun _ _ _ _ _ h => h)
        (fun i A xs ys _ hI => hI.upd hjD) (hj2.upd hjD) (fun i z x H3 Qk Qs hz e3 hI hY k1 _ => ?_) (fun i A x B _ hI hy => by obtain ⟨rfl, _⟩ := hy; exact hI) fun H3 zs e3 hI hD3 hP3 => ?_
      · refine ⟨rfl, ?_⟩
        dsimp only [tYes]
        rw [if_pos rfl]
        exact ⟨_, rfl, _, rfl, n, rfl, hn, fun H4 e4 => ⟨j, pw2 n, rfl, by omega, by omega, hI.ex e4, fun H5 r e5 hj5 r0 r1 => k1 _ H5 rfl (e4.toJ.trans e5) hj5 ⟨r, rfl, r0, r1⟩⟩⟩
      · rw [List.filter_eq_self.mpr (fun _ _ => rfl)] at hP3
        obtain ⟨ms, rfl, hl3, hx⟩ := ints_from hP3
        rw [List.length_range] at hl3
        have e23 := e2.trans e3
        have hys3 := e23.lst (Ne.symm hjf) hys
        have hly : ys.length = i := by rw [← Paired.length hP, hl]
        refine ⟨fA, ys, .ref D, rfl, rfl, hys3, Nat.lt_of_le_of_lt (show ys.length ≤ 3000 by omega) (by decide), ?_⟩
        refine ⟨_, ys ++ [.ref D], rws ++ [ms], rfl, (e1.trans e23).put (.of hfA) (noCode_lst hys3), hI.upd (Ne.symm (Ne.symm hjf)), by rw [List.length_append, hl]; rfl, upd_same, ?_⟩
        refine paired_snoc (Paired.mapP hP fun r y ⟨⟨t, e, ht, hr1, hr2⟩, n1, n2⟩ => ⟨⟨t, e, ?_, hr1, hr2⟩, n1, n2⟩) ⟨⟨D, rfl, by rw [upd_ne (Ne.symm hfD)]; exact hD3, hx, by omega⟩, fun z => hfD (V.ref.inj z).symm, fun z => hjD (V.ref.inj z).symm⟩
        rw [upd_ne (fun z => n1 (by rw [e, z]))]
        exact e23.lst (fun z => n2 (by rw [e, z])) ht
    · rintro σ H1 ⟨t3, ys, rws, rfl, e1, hj1, hl, hys, hP⟩
      exact ⟨_, rfl, q H1 fA ys rws e1 hj1 (by omega) hys (Paired.mapP hP fun _ _ h => h.1)⟩
end
end Hw
/-! _law_up, _law_rising -/
namespace Hw
open PySem PySem.Spec PyProof.Rows L2
/-! ### plainly -/
def actB (rws : List (List Int)) (g z : Nat) : Bool := (rws.getD z []).any fun r => sub r g
def upM (n : Int) (rws : List (List Int)) : List Int := (List.range (pw2 n).toNat).map fun g => sumB (((List.range n.toNat).filter (actB rws g)).map fun (z : Nat) => (z : Int))
theorem sub_tr2 : ([0, 1, 2, 3] : List Int).all (fun r => (List.range 4).all fun g => (List.range 4).all fun h => !(sub r g) || !(sub g h) || sub r h) = true := by decide +kernel
theorem act_up {rws : List (List Int)} {z g h : Nat} (hr : ∀ x ∈ rws.getD z [], 0 ≤ x ∧ x < 4) (hg : g < 4) (hh : h < 4) (s : sub g h = true) (a : actB rws g z = true) : actB rws h z = true := by
  unfold actB at a ⊢
  rw [List.any_eq_true] at a ⊢
  obtain ⟨r, hm, hs⟩ := a
  refine ⟨r, hm, ?_⟩
  have h4 := hr r hm
  have hm4 : r ∈ ([0, 1, 2, 3] : List Int) := by
    have : r = 0 ∨ r = 1 ∨ r = 2 ∨ r = 3 := by omega
    rcases this with e | e | e | e <;> rw [e] <;> decide
  have q := List.all_eq_true.mp (List.all_eq_true.mp (List.all_eq_true.mp sub_tr2 r hm4) g (List.mem_range.mpr hg)) h (List.mem_range.mpr hh)
  rw [hs, s] at q
  exact q
/-- the set of the modes that are on -/
def bits2 (a b : Bool) : Int := sumB (((List.range 2).filter fun z => if z = 0 then a else b).map fun (z : Nat) => (z : Int))
def bits1 (a : Bool) : Int := sumB (((List.range 1).filter fun _ => a).map fun (z : Nat) => (z : Int))
theorem up_all1 : ∀ a0 a1 : Bool, (!a0 || a1) = true → (mapsM 1).contains [bits1 a0, bits1 a1] = true := by decide +kernel
set_option synthInstance.maxHeartbeats 1000000 in
set_option synthInstance.maxSize 2000 in
theorem up_all2 : ∀ a0 a1 a2 a3 b0 b1 b2 b3 : Bool, ((!a0 || a1) && (!a0 || a2) && (!a1 || a3) && (!a2 || a3) && (!b0 || b1) && (!b0 || b2) && (!b1 || b3) && (!b2 || b3)) = true → (mapsM 2).contains [bits2 a0 b0, bits2 a1 b1, bits2 a2 b2, bits2 a3 b3] = true := by decide +kernel
theorem imp_b {a b : Bool} (h : a = true → b = true) : (!a || b) = true := by
  cases a with
  | false => rfl
  | true => rw [h rfl]; rfl
theorem filt_eq {k : Nat} {f g : Nat → Bool} (h : ∀ z, z < k → f z = g z) : (List.range k).filter f = (List.range k).filter g := List.filter_congr fun z hz => h z (List.mem_range.mp hz)
theorem up_mon {n : Int} (h : N12 n) {rws : List (List Int)} (hr : ∀ z : Nat, ∀ x ∈ rws.getD z [], 0 ≤ x ∧ x < pw2 n) : upM n rws ∈ mapsM n := by
  have h4 : ∀ z : Nat, ∀ x ∈ rws.getD z [], 0 ≤ x ∧ x < 4 := fun z x hx => by
    have := hr z x hx
    have := pw2_rng h
    omega
  rcases h with rfl | rfl
  · have e : upM 1 rws = [bits1 (actB rws 0 0), bits1 (actB rws 1 0)] := by
      show [sumB (((List.range 1).filter (actB rws 0)).map _), sumB (((List.range 1).filter (actB rws 1)).map _)] = _
      unfold bits1
      rw [filt_eq (f := actB rws 0) (g := fun _ => actB rws 0 0) (fun z hz => by have : z = 0 := by omega
                                                                                 rw [this]), filt_eq (f := actB rws 1) (g := fun _ => actB rws 1 0) (fun z hz => by have : z = 0 := by omega
                                                                                                                                                                    rw [this])]
    rw [e]
    have q := up_all1 (actB rws 0 0) (actB rws 1 0) (imp_b (act_up (h4 0) (by decide) (by decide) (by decide +kernel)))
    simpa using q
  · have e2 : ∀ g, sumB (((List.range 2).filter (actB rws g)).map fun (z : Nat) => (z : Int)) = bits2 (actB rws g 0) (actB rws g 1) := fun g => by
      unfold bits2
      rw [filt_eq (f := actB rws g) (g := fun z => if z = 0 then actB rws g 0 else actB rws g 1) fun z hz => by
        have : z = 0 ∨ z = 1 := by omega
        rcases this with e | e <;> rw [e] <;> rfl]
    have e : upM 2 rws = [bits2 (actB rws 0 0) (actB rws 0 1), bits2 (actB rws 1 0) (actB rws 1 1), bits2 (actB rws 2 0) (actB rws 2 1), bits2 (actB rws 3 0) (actB rws 3 1)] := by
      show [sumB (((List.range 2).filter (actB rws 0)).map _), sumB (((List.range 2).filter (actB rws 1)).map _), sumB (((List.range 2).filter (actB rws 2)).map _), sumB (((List.range 2).filter (actB rws 3)).map _)] = _
      rw [e2, e2, e2, e2]
    rw [e]
    have A : ∀ z, ∀ g h : Nat, g < 4 → h < 4 → sub g h = true → (!(actB rws g z) || actB rws h z) = true := fun z g h hg hh s => imp_b (act_up (h4 z) hg hh s)
    have q := up_all2 (actB rws 0 0) (actB rws 1 0) (actB rws 2 0) (actB rws 3 0) (actB rws 0 1) (actB rws 1 1) (actB rws 2 1) (actB rws 3 1) (by
      rw [A 0 0 1 (by decide) (by decide) (by decide +kernel), A 0 0 2 (by decide) (by decide) (by decide +kernel), A 0 1 3 (by decide) (by decide) (by decide +kernel), A 0 2 3 (by decide) (by decide) (by decide +kernel), A 1 0 1 (by decide) (by decide) (by decide +kernel), A 1 0 2 (by decide) (by decide) (by decide +kernel), A 1 1 3 (by decide) (by decide) (by decide +kernel), A 1 2 3 (by decide) (by decide) (by decide +kernel)]
      rfl)
    simpa using q
/-! ### a list compared with [] -/
theorem ones_dp {K : PySem.W.Frag} {H : Hp} {D : Addr} {ns : List Int} (h : H D = some (.lst (ns.map V.int))) : Dp K H (.ref D) (.list (ns.map PyData.int)) := .lst (SqL.of h) (dpall_ints ns)
theorem nil_dp {K : PySem.W.Frag} {H : Hp} {D : Addr} (h : H D = some (.lst [])) : Dp K H (.ref D) (.list []) := .lst (SqL.of h) .nil
theorem shaped_lst (ns : List Int) : SeqAt.shaped (.list (ns.map PyData.int)) = true := by
  unfold SeqAt.shaped
  rw [PyData.canLay0, canlay_ints, PyData.depth, depth_ints]
  rfl
theorem eqv_nil (ns : List Int) : PyData.eqv (.list (ns.map PyData.int)) (.list []) = ns.isEmpty := by
  rw [PyData.eqv]
  cases ns <;> rfl
theorem any_filter {α : Type} (p : α → Bool) : ∀ l : List α, l.any p = !(l.filter p).isEmpty
  | [] => rfl
  | x :: r => by
    rw [List.any_cons, List.filter_cons, any_filter p r]
    cases p x <;> rfl
section
variable {P : Program} {w : World} {K : PySem.W.Frag} {mg : Str → Option Value} {base : Heap} {C : Addr}
/-! ### _law_up -/
abbrev sUp : Stmt := topS 33
abbrev nUp : List Str := ["_law_rows_here", "_law_modes", "_law_found", "_law_good", "_law_mode", "_law_one"]
theorem scUp : FnScope nUp ["_law_rows_here", "_law_modes"] (defScope sUp) := ⟨rfl, rfl, rfl, by decide +kernel, rfl, by decide +kernel, by decide +kernel⟩
def spUp : Sp := fun vs H Q _ => ∃ (l : Addr) (n : Int) (ys : List V) (rws : List (List Int)), vs = [.ref l, .int n] ∧ N12 n ∧ H l = some (.lst ys) ∧ (rws.length : Int) = n ∧ Paired (RowAt H n) rws ys ∧ ∀ H' p, Ex H H' → H' p = some (.tup ((upM n rws).map V.int)) → Q (.ref p) H'
theorem RowAt.ex {H H' : Hp} {n : Int} {r : List Int} {y : V} (h : RowAt H n r y) (e : Ex H H') : RowAt H' n r y := by
  obtain ⟨t, e1, e2, e3⟩ := h
  exact ⟨t, e1, e.lst e2, e3⟩
set_option maxHeartbeats 8000000 in
theorem ok_up {f : Addr} {fd : FuncData} {k : Nat} (F : Fun K "_law_up" "_law_up" sUp f fd) (Z : Free mg) (c1 : Ca P w K mg base CX0 k "_law_sum" ["_law_modes"] spSum) (c2 : Ca P w K mg base CX0 k "_law_many" ["_law_modes"] spMany) :
    FnOk P w K mg base CX0 (k + 1) f fd ["_law_rows_here", "_law_modes"] spUp := by
  refine F.ok scUp (fun vs H Q E h => ?_) (fun cdv A outer s H vs Q E hr h => ?_)
  · obtain ⟨l, n, ys, rws, rfl, _⟩ := h
    rfl
  · obtain ⟨l, n, ys, rws, rfl, hn, hl, hlen, hP, q⟩ := h
    have hu : A.units + 3 + 16 * k + 200 < cLine := hr.un
    refine ⟨_, pss_cons (ps_set (i := 2) scUp.nd rfl (Or.inl rfl) (pe_lst pa_nil))
      (pss_cons (ps_for PassesOwn.never rfl (pi_range1 (by rfl) Z.range (pa_cons (pe_ca c2 hr (by rfl) pass0 (pa_cons (pv 1) pa_nil)) pa_nil)) (pg_name (i := 3) scUp.nd rfl (Or.inr rfl))
        (pss_one (ps_expr (pe_bm PySem.F.plainAttrs_list PySem.F.slot_list_append PySem.F.type_list_append mt_append (pv 2) (pa_cons (pe_ca c1 hr (by rfl) pass0 (pa_cons (pe_lc (own := [("_law_mode", 4)]) (g := gName 4) rfl scUp.nd
          (pi_range1 (by rfl) Z.range (pa_cons (pv 1) pa_nil)) (blkOk_by (N := nUp) (sc := defScope sUp) (by decide +kernel))
          (fun _ _ _ _ _ => pg_name (i := 4) scUp.nd rfl (Or.inl rfl))
          (fun _ _ _ _ _ => pts_one (pt_cmpR (neK K (by show A.units + 3 + _ < cLine; omega)) (pe_lc (own := [("_law_one", 5)]) (g := gName 5) rfl scUp.nd (piLK K (pe_ix (ixLK K) (pv 0) (pv 4) (fun _ _ => rfl))) (blkOk_by (N := nUp) (by kernel_rfl))
            (fun _ _ _ _ _ => pg_name (i := 5) scUp.nd rfl (Or.inl rfl)) (fun _ _ _ _ _ => pts_one (pt_cmpR op_eq (pe_op op_or (pv 5) (pv 3)) (pv 3) (nomark _))) (fun _ _ _ _ _ => pe_int)) (pe_lst pa_nil) (nomark _)))
          (fun _ _ _ _ _ => pv 4)) pa_nil)) pa_nil)))))
      (pss_one (ps_ret (pe_callTy call_tuple_of (by rfl) Z.tuple B.tuple (pa_cons (pv 2) pa_nil))))), ?_⟩
    have hp := pw2_rng hn
    have hn2 : 1 ≤ n ∧ n ≤ 2 := by rcases hn with rfl | rfl <;> decide
    refine ⟨by show 0 ≤ sizeLine; decide, fun fA hfA => ?_⟩
    refine ⟨_, rfl, n, rfl, hn, fun H1 e1 => ⟨pw2 n, rfl, by omega, by omega, for_range (lo := 0) (n := (pw2 n).toNat) (fun i σ H1 => ∃ t3, σ = [some (.ref l), some (.int n), some (.ref fA), t3, none, none] ∧ Ex H H1 ∧ H1 fA = some (.lst (((List.range i).map fun g => sumB (((List.range n.toNat).filter (actB rws g)).map fun (z : Nat) => (z : Int))).map V.int)))
      ⟨none, rfl, (Ex.new hfA).trans e1, e1.lst upd_same⟩ ?_ ?_⟩⟩
    · rintro i σ H2 hi ⟨t3, rfl, e2, hys⟩
      have e0i : (0 : Int) + (i : Nat) = (i : Nat) := Int.zero_add _
      refine ⟨_, rfl, .inl ⟨rfl, _, SqL.of hys⟩, _, rfl, n, rfl, by omega, by omega, fun D hD => ?_⟩
      refine lcT (List.range n.toNat) (actB rws i) (fun z y _ => y = .int (z : Nat)) hD ((w0_range n.toNat Ex).wk Ex.refl) (by rw [List.length_range]; omega) (fun _ _ _ _ _ h => h) (fun _ => rfl) (fun z x H3 Qk Qs hz e3 hY k1 k2 => ?_) fun H3 zs e3 hD3 hP3 => ?_
      · subst hY
        have hz' := List.mem_range.mp hz
        have hzl : z < rws.length := by omega
        obtain ⟨y, hy, t, rfl, ht, hr1, hr2⟩ := LiI.paired_get hP (List.getElem?_eq_getElem hzl)
        have e23 := e2.trans e3
        have hgd : rws.getD z [] = rws[z] := by rw [List.getD_eq_getElem?_getD, List.getElem?_eq_getElem hzl]; rfl
        refine ⟨_, rfl, _, rfl, l, ys, (z : Nat), .ref t, rfl, rfl, SqL.of (e23.lst hl), at_of rfl hy, t, rfl, ⟨_, SqL.of (e23.lst ht)⟩, fun D2 hD2 => ?_⟩
        refine lcT rws[z] (fun x => sub x i) (fun _ y _ => y = .int 1) hD2 ((w0_listP (E := Ex) (p := V.int) fun H' e => SqL.ex e (SqL.of (e23.lst ht))).wk Ex.refl) (by omega) (fun _ _ _ _ _ h => h) (fun _ => rfl) (fun u x2 H4 Qk2 Qs2 hu e4 hY2 j1 j2 => ?_) fun H4 zs2 e4 hD4 hP4 => ?_
        · subst hY2
          refine ⟨_, rfl, _, rfl, u, 0 + (i : Nat), rfl, rfl, _, rfl, rfl, _, rfl, ?_⟩
          rw [e0i]
          by_cases hs : Builtin.bitOr u (i : Nat) = (i : Nat)
          · rw [decide_eq_true (congrArg V.int hs)]
            exact iteT (j1 _ H4 (decide_eq_true hs) (.refl _) rfl)
          · rw [decide_eq_false fun z => hs (V.int.inj z)]
            exact iteF (j2 H4 (decide_eq_false hs) (.refl _))
        · have ez : zs2 = ((rws[z].filter fun x => sub x i).map fun _ => (1 : Int)).map V.int := by rw [paired_eq hP4, List.map_map]; rfl
          subst ez
          refine ⟨by show 0 ≤ sizeLine; decide, fun D3 hD3 => ⟨_, _, ones_dp (by rw [upd_ne (ne_of_none hD4 hD3)]; exact hD4), nil_dp upd_same, shaped_lst _, shaped_lst [], _, rfl, ?_⟩⟩
          rw [eqv_nil]
          have ea : actB rws i z = !((rws[z].filter fun x => sub x i).map fun _ => (1 : Int)).isEmpty := by
            unfold actB
            rw [hgd, any_filter, List.isEmpty_map]
          rw [← ea]
          cases hact : actB rws i z with
          | true => exact iteT ⟨_, rfl, k1 _ _ hact (e4.then_new hD3) rfl⟩
          | false => exact iteF (k2 _ hact (e4.then_new hD3))
      · have ez : zs = (((List.range n.toNat).filter (actB rws i)).map fun (z : Nat) => (z : Int)).map V.int := by rw [paired_eq hP3, List.map_map]; rfl
        subst ez
        refine ⟨D, _, rfl, hD3, ?_, ?_, fun H4 e4 => ?_⟩
        · refine List.Pairwise.map _ (fun a b (h : a ≠ b) => ?_) (List.Pairwise.filter _ List.nodup_range)
          exact fun z => h (Int.ofNat.inj z)
        · intro m hm
          obtain ⟨z, hz, e⟩ := List.mem_map.mp hm
          have := List.mem_range.mp (List.mem_filter.mp hz).1
          omega
        · have hys4 := e4.lst (e3.lst hys)
          refine ⟨fA, _, _, rfl, rfl, hys4, Nat.lt_of_le_of_lt (show _ ≤ 3000 by rw [List.length_map, List.length_map, List.length_range]; omega) (by decide), _, rfl, ((e2.trans e3).trans e4).put (.of hfA) (noCode_lst hys4), ?_⟩
          rw [upd_same, List.range_succ, List.map_append, List.map_append]
          rfl
    · rintro σ H2 ⟨t3, rfl, e2, hys⟩
      exact ⟨_, rfl, fA, _, rfl, .inl ⟨SqL.of hys, fun p hp => q _ p (e2.then_new hp) upd_same⟩⟩
end
end Hw
/-! _law_rising, _law_shuffled -/
namespace Hw
open PySem PySem.Spec PyProof.Rows L2
theorem bmK {X : Cx} {o e : Expr} {es : List Expr} {to : TE} {t : TA} {name : Str} {apos cpos : Pos} {T id : String} {r : V → List V → Hp → VK → Prop} (K : PySem.W.Frag) (pa : PlainAttrs T) (slot : Slot T name id) (hty : typeOf (.builtin id) = pure (.type "method_descriptor")) (hm : MtR X id r) (ho : PE X o to) (ha : PA X (e :: es) t)
    (hbase : attributeBase o name X.env (eval o X.env) = eval o X.env := by rfl)
    (hfew : ((backTo cpos (starEach (e :: es) X.env)).all (fun x => !x.1) && (backToKw cpos (keywordEach [] X.env)).all (fun x => x.1.isSome)
      && decide ((e :: es).length + ([] : List Keyword).length + (if ([] : List Keyword).isEmpty then 0 else 1) < 30)) = true := by rfl)
    (hline : (apos.endLine == cpos.line) = true := by rfl) (hs : starEach (e :: es) X.env = (false, eval e X.env) :: starEach es X.env := by rfl) (hplain : (backTo cpos (starEach es X.env)).any (·.1) = false := by rfl) (hK : X.K = K := by rfl) :
    PE X (.Call (.Attribute o name apos) (e :: es) [] cpos) (tBM K T r to t) := by
  subst hK
  exact pe_bm pa slot hty hm ho ha hbase hfew hline hs hplain
section
variable {P : Program} {w : World} {K : PySem.W.Frag} {mg : Str → Option Value} {base : Heap} {C : Addr}
/-! ### _law_rising -/
abbrev sRising : Stmt := topS 34
abbrev nRising : List Str := ["_law_jar_here", "_law_modes"]
theorem scRising : FnScope nRising nRising (defScope sRising) := ⟨rfl, rfl, rfl, by decide +kernel, rfl, by decide +kernel, by decide +kernel⟩
def idM (n : Int) : List Int := (List.range (pw2 n).toNat).map fun (z : Nat) => (z : Int)
theorem id_mem {n : Int} (h : N12 n) : idM n ∈ mapsM n := by
  rcases h with rfl | rfl <;> decide +kernel
def spRising : Sp := fun vs H Q _ => ∃ (j : Addr) (n : Int), vs = [.ref j, .int n] ∧ N12 n ∧ JarAt H j ∧ ∀ H' p m, ExJ j H H' → JarAt H' j → m ∈ mapsM n → H' p = some (.tup (m.map V.int)) → Q (.ref p) H'
theorem rows_get {H : Hp} {n : Int} : ∀ {rws : List (List Int)} {ys : List V}, Paired (RowAt H n) rws ys → ∀ (z : Nat), ∀ x ∈ rws.getD z [], 0 ≤ x ∧ x < pw2 n
  | _, _, .nil, z, x, hx => by simp at hx
  | _, _, .cons r t, 0, x, hx => by
    obtain ⟨t', e, h1, h2, h3⟩ := r
    exact h2 x hx
  | _, _, .cons r t, z + 1, x, hx => rows_get t z x hx
theorem ok_rising {f : Addr} {fd : FuncData} {k : Nat} (F : Fun K "_law_rising" "_law_rising" sRising f fd) (Z : Free mg) (c1 : Ca P w K mg base CX0 k "_law_scoop" ["_law_jar_here", "_law_size"] spScoop) (c2 : Ca P w K mg base CX0 k "_law_many" ["_law_modes"] spMany)
    (c3 : Ca P w K mg base CX0 k "_law_up" ["_law_rows_here", "_law_modes"] spUp) (c4 : Ca P w K mg base CX0 k "_law_rows" ["_law_jar_here", "_law_modes"] spRows) : FnOk P w K mg base CX0 (k + 1) f fd nRising spRising := by
  refine F.ok scRising (fun vs H Q E h => ?_) (fun cdv A outer s H vs Q E hr h => ?_)
  · obtain ⟨j, n, rfl, _⟩ := h
    rfl
  · obtain ⟨j, n, rfl, hn, hj, q⟩ := h
    refine ⟨_, pss_cons (ps_if (pt_cmpR op_eq (pe_ca c1 hr (by rfl) pass0 (pa_cons (pv 0) (pa_cons pe_int pa_nil))) pe_int (nomark _)) (pss_one (ps_ret (pe_tupRg rfl (by rfl) Z.tuple (prg_1 (by rfl) Z.range (pe_ca c2 hr (by rfl) pass0 (pa_cons (pv 1) pa_nil)))))) pss_nil)
      (pss_one (ps_ret (pe_ca c3 hr (by rfl) pass0 (pa_cons (pe_ca c4 hr (by rfl) pass0 (pa_cons (pv 0) (pa_cons (pv 1) pa_nil))) (pa_cons (pv 1) pa_nil))))), ?_⟩
    have hp := pw2_rng hn
    refine ⟨_, rfl, j, 9, rfl, by decide, by decide, hj, fun H1 r e1 hj1 r0 r1 => ⟨rfl, _, rfl, ?_⟩⟩
    by_cases h0 : r = 0
    · rw [decide_eq_true (congrArg V.int h0)]
      refine iteT ⟨_, rfl, n, rfl, hn, fun H2 e2 => ⟨pw2 n, rfl, RgOk.of_le (Int.le_refl 0) (by omega) (by decide) (by omega), fun p hp2 => ?_⟩⟩
      refine q _ p (idM n) (e1.trans ((e2.then_new hp2).toJ)) ((hj1.ex e2).upd ((hj1.ex e2).ne hp2)) (id_mem hn) ?_
      rw [upd_same]
      unfold idM rgV
      rw [List.map_map, Int.sub_zero]
      refine congrArg some (congrArg HO.tup (List.map_congr_left fun z _ => ?_))
      show V.int (0 + (z : Int)) = V.int (z : Int)
      rw [Int.zero_add]
    · rw [decide_eq_false fun z => h0 (V.int.inj z)]
      refine iteF ⟨_, rfl, _, rfl, j, n, rfl, hn, hj1, fun H2 p ys rws e2 hj2 hl hp2 hP => ⟨_, rfl, p, n, ys, rws, rfl, hn, hp2, hl, hP, fun H3 p3 e3 hp3 => ?_⟩⟩
      exact q H3 p3 _ ((e1.trans e2).trans e3.toJ) (hj2.ex e3) (up_mon hn (rows_get hP)) hp3
/-! ### _law_shuffled -/
abbrev sShuf : Stmt := topS 29
abbrev nShuf : List Str := ["_law_jar_here", "_law_items", "_law_left", "_law_turn"]
theorem scShuf : FnScope nShuf ["_law_jar_here", "_law_items"] (defScope sShuf) := ⟨rfl, rfl, rfl, by decide +kernel, rfl, by decide +kernel, by decide +kernel⟩
def spShuf : Sp := fun vs H Q _ => ∃ (j l : Addr) (xs : List V), vs = [.ref j, .ref l] ∧ l ≠ j ∧ H l = some (.lst xs) ∧ xs.length ≤ 1000 ∧ JarAt H j ∧ ∀ H' p ys, ExJ j H H' → JarAt H' j → ys.Perm xs → H' p = some (.lst ys) → Q (.ref p) H'
theorem erase_perm {α : Type} : ∀ (l : List α) (i : Nat) (y : α), l[i]? = some y → l.Perm (y :: l.eraseIdx i)
  | [], i, y, h => by simp at h
  | x :: r, 0, y, h => by
    have e := Option.some.inj h
    subst e
    exact .refl _
  | x :: r, i + 1, y, h => by
    have q := erase_perm r i y (by simpa using h)
    exact (q.cons x).trans (.swap y x _)
theorem ok_shuf {f : Addr} {fd : FuncData} {k : Nat} (F : Fun K "_law_shuffled" "_law_shuffled" sShuf f fd) (Z : Free mg) (c1 : Ca P w K mg base CX0 k "_law_scoop" ["_law_jar_here", "_law_size"] spScoop) : FnOk P w K mg base CX0 (k + 1) f fd ["_law_jar_here", "_law_items"] spShuf := by
  refine F.ok scShuf (fun vs H Q E h => ?_) (fun cdv A outer s H vs Q E hr h => ?_)
  · obtain ⟨j, l, xs, rfl, _⟩ := h
    rfl
  · obtain ⟨j, l, xs, rfl, hlj, hl, hlen, hj, q⟩ := h
    refine ⟨_, pss_cons (ps_set (i := 2) scShuf.nd rfl (Or.inr rfl) (pe_callTy call_list_of (by rfl) Z.list B.list (pa_cons (pv 1) pa_nil)))
      (pss_one (ps_ret (pe_lc (own := [("_law_turn", 3)]) (g := gName 3) (tt := tYes) rfl scShuf.nd (pi_range1 (by rfl) Z.range (pa_cons (pe_callB call_len_seq (by rfl) Z.len B.len (pa_cons (pv 1) pa_nil)) pa_nil)) (blkOk_by (N := nShuf) (sc := defScope sShuf) (by decide +kernel))
        (fun _ _ _ _ _ => pg_name (i := 3) scShuf.nd rfl (Or.inl rfl)) (fun _ _ _ _ _ => pts_nil)
        (fun _ _ _ _ _ => bmK K PySem.F.plainAttrs_list PySem.F.slot_list_pop PySem.F.type_list_pop mt_popAt (pv 2) (pa_cons (pe_ca c1 hr (by rfl) pass0 (pa_cons (pv 0) (pa_cons (pe_callB (lenK K) (by rfl) Z.len B.len (pa_cons (pv 2) pa_nil)) pa_nil))) pa_nil))))), ?_⟩
    refine ⟨_, rfl, l, xs, rfl, .inl (SqL.of hl), fun L hL => ?_⟩
    have hjL := hj.ne hL
    refine ⟨_, rfl, l, xs, rfl, .inl (SqL.of (by rw [upd_ne (ne_of_none hl hL)]; exact hl)), xs.length, rfl, by omega, by omega, fun D hD => ?_⟩
    have hD' := none_of_upd hD
    have hDL : D ≠ L := apart hD
    have hjD := hj.ne hD'
    have hj0 : JarAt (upd H L (.lst xs)) j := hj.upd hjL
    refine ⟨fun i m H2 => i + m = xs.length ∧ (∀ b o, b ≠ j → b ≠ L → H b = some o → (∀ ps, o ≠ .tbl ps) → H2 b = some o) ∧ TK H H2 ∧ (LamX.Tabs tbs9 H → LamX.Tabs tbs9 H2) ∧ JarAt H2 j ∧ ∃ out rest, H2 D = some (.lst out) ∧ H2 L = some (.lst rest) ∧ (out ++ rest).Perm xs ∧ out.length = i, ⟨xs.length, by omega, ?_, ?_, ?_, hj0.upd hjD, [], xs, upd_same, by rw [upd_ne hDL.symm, upd_same], .refl _, rfl⟩, ?_⟩
    · exact fun b o _ _ e n => ((Ex.new hL).then_new hD) b o e n
    · exact ((Ex.new hL).then_new hD).tk
    · exact ((Ex.new hL).then_new hD).tb
    rintro i m H2 ⟨hm, e2, tk2, tb2, hj2, out, rest, hD2, hL2, hP2, hi2⟩
    have hlr : out.length + rest.length = xs.length := by rw [← List.length_append]; exact hP2.length_eq
    by_cases hlt : i < xs.length
    · refine .inr ⟨hlt, fun H' => (∀ b o, b ≠ j → b ≠ L → H b = some o → (∀ ps, o ≠ .tbl ps) → H' b = some o) ∧ TK H H' ∧ (LamX.Tabs tbs9 H → LamX.Tabs tbs9 H') ∧ JarAt H' j ∧ ∃ out rest, H' D = some (.lst out) ∧ H' L = some (.lst rest) ∧ (out ++ rest).Perm xs ∧ out.length = i + 1, fun H' ⟨a1, a2, a3, a4, a5⟩ => ⟨m - 1, by omega, by omega, a1, a2, a3, a4, a5⟩, fun x H' hy => ?_⟩
      obtain ⟨rfl, rfl⟩ := hy
      refine ⟨rfl, ?_⟩
      dsimp only [tYes]
      rw [if_pos rfl]
      refine ⟨_, rfl, .inl ⟨rfl, _, SqL.of hL2⟩, _, rfl, _, rfl, L, rest, rfl, .inl (SqL.of hL2), j, rest.length, rfl, by omega, by omega, hj2, fun H3 r e3 hj3 r0 r1 => ?_⟩
      have hL3 := e3.lst (Ne.symm hjL) hL2
      have hD3 := e3.lst (Ne.symm hjD) hD2
      have hrl : r.toNat < rest.length := by omega
      refine ⟨L, rest, r, r.toNat, rest[r.toNat], rfl, rfl, hL3, by omega, by omega, seqIndex_of r0 (by omega), List.getElem?_eq_getElem hrl, ?_⟩
      have hD4 : upd H3 L (.lst (rest.eraseIdx r.toNat)) D = some (.lst out) := by rw [upd_ne hDL]; exact hD3
      have hL4 : upd H3 L (.lst (rest.eraseIdx r.toNat)) L = some (.lst (rest.eraseIdx r.toNat)) := upd_same
      refine ⟨out, hD4, Nat.lt_of_le_of_lt (show out.length ≤ 3000 by omega) (by decide), fun b o n1 n2 e n => ?_, ?_, fun t => ?_, (hj3.upd hjL).upd hjD, out ++ [rest[r.toNat]], rest.eraseIdx r.toNat, upd_same, by rw [upd_ne hDL.symm]; exact hL4, ?_, by rw [List.length_append, hi2]; rfl⟩
      · rw [upd_ne (ne_of_none e hD'), upd_ne n2]
        exact e3.at_ b o n1 (e2 b o n1 n2 e n) n
      · exact (tk2.trans e3.tk).trans ((TK.lst hL3).trans (.lst hD4))
      · exact tabs_putL (tabs_putL (e3.tb (tb2 t)) hL3) hD4
      · rw [List.append_assoc]
        exact ((erase_perm rest r.toNat _ (List.getElem?_eq_getElem hrl)).symm.append_left out).trans hP2
    · have hi : i = xs.length := by omega
      subst hi
      have hr0 : rest = [] := List.length_eq_zero_iff.mp (by omega)
      subst hr0
      rw [List.append_nil] at hP2
      refine .inl ⟨Nat.le_refl _, q H2 D out ⟨fun b o n e n' => ?_, tk2, tb2⟩ hj2 hP2 hD2⟩
      exact e2 b o n (ne_of_none e hL) e n'
end
end Hw
/-! _law_is_under, _law_is_rising, _law_all_rising -/
namespace Hw
open PySem PySem.Spec PyProof.Rows L2
/-- all steps, by all pairs -/
def risL (m : List Int) : Bool := (List.range m.length).all fun a => (List.range m.length).all fun b => !(sub a b) || sub (m.getD a 0) (m.getD b 0)
/-- all lists of the first i places -/
def allM (n : Int) : Nat → List (List Int)
  | 0 => [[]]
  | i + 1 => (allM n i).flatMap fun r => (List.range (pw2 n).toNat).map fun (e : Nat) => r ++ [(e : Int)]
theorem all_perm {n : Int} (h : N12 n) : ((allM n (pw2 n).toNat).filter risL).Perm (mapsM n) := by
  rcases h with rfl | rfl
  · exact List.isPerm_iff.mp (by decide +kernel)
  · exact List.isPerm_iff.mp (by decide +kernel)
theorem risL1 : ((listsOf [0, 1] 2).all fun m => risL m == risB 1 m) = true := by decide +kernel
theorem risL2 : ((listsOf [0, 1, 2, 3] 4).all fun m => risL m == risB 2 m) = true := by decide +kernel
theorem in_listsOf {n : Int} (h : N12 n) {m : List Int} (hl : (m.length : Int) = pw2 n) (hx : ∀ x ∈ m, 0 ≤ x ∧ x ≤ pw2 n - 1) : (n = 1 → m ∈ listsOf [0, 1] 2) ∧ (n = 2 → m ∈ listsOf [0, 1, 2, 3] 4) := by
  constructor
  · rintro rfl
    have hl : m.length = 2 := by have : (m.length : Int) = 2 := hl; omega
    rw [← hl]
    refine mem_listsOf fun x h => ?_
    have := hx x h
    have e : pw2 1 = 2 := rfl
    have : x = 0 ∨ x = 1 := by omega
    rcases this with rfl | rfl <;> simp
  · rintro rfl
    have hl : m.length = 4 := by have : (m.length : Int) = 4 := hl; omega
    rw [← hl]
    refine mem_listsOf fun x h => ?_
    have := hx x h
    have e : pw2 2 = 4 := rfl
    have : x = 0 ∨ x = 1 ∨ x = 2 ∨ x = 3 := by omega
    rcases this with rfl | rfl | rfl | rfl <;> simp
theorem risL_eq {n : Int} (h : N12 n) {m : List Int} (hl : (m.length : Int) = pw2 n) (hx : ∀ x ∈ m, 0 ≤ x ∧ x ≤ pw2 n - 1) : risL m = risB n m := by
  obtain ⟨h1, h2⟩ := in_listsOf h hl hx
  rcases h with rfl | rfl
  · simpa using List.all_eq_true.mp risL1 m (h1 rfl)
  · simpa using List.all_eq_true.mp risL2 m (h2 rfl)
theorem allM_len {n : Int} (h : N12 n) : ∀ i, i ≤ (pw2 n).toNat → (allM n i).length ≤ 256 ∧ ∀ r ∈ allM n i, r.length = i := by
  rcases h with rfl | rfl
  · intro i hi
    have : i ≤ 2 := hi
    have : i = 0 ∨ i = 1 ∨ i = 2 := by omega
    rcases this with rfl | rfl | rfl <;> decide +kernel
  · intro i hi
    have : i ≤ 4 := hi
    have : i = 0 ∨ i = 1 ∨ i = 2 ∨ i = 3 ∨ i = 4 := by omega
    rcases this with rfl | rfl | rfl | rfl | rfl <;> decide +kernel
section
variable {P : Program} {w : World} {K : PySem.W.Frag} {mg : Str → Option Value} {base : Heap} {C : Addr}
/-! ### _law_is_under -/
abbrev sUnder : Stmt := topS 37
abbrev nUnder : List Str := ["_law_one", "_law_other", "_law_first", "_law_second"]
theorem scUnder : FnScope nUnder ["_law_one", "_law_other"] (defScope sUnder) := ⟨rfl, rfl, rfl, by decide +kernel, rfl, by decide +kernel, by decide +kernel⟩
theorem ok_under {f : Addr} {fd : FuncData} {k : Nat} (F : Fun K "_law_is_under" "_law_is_under" sUnder f fd) (Z : Free mg) : FnOk P w K mg base CX0 (k + 1) f fd ["_law_one", "_law_other"] spMP := by
  refine F.ok scUnder (fun vs H Q E h => ?_) (fun cdv A outer s H vs Q E hr h => ?_)
  · obtain ⟨a, b, xs, ys, rfl, _⟩ := h
    rfl
  · obtain ⟨a, b, xs, ys, rfl, ha, hb, hl, h4, q⟩ := h
    have hu : A.units + 3 + 16 * k + 200 < cLine := hr.un
    refine ⟨_, pss_one (ps_ret (pe_cmpR (eqK K (by show A.units + 3 + _ < cLine; omega)) (pe_lc (own := [("_law_first", 2), ("_law_second", 3)]) (g := gTup K 2 (gCons (gName 2) (gCons (gName 3) gNil))) rfl scUnder.nd
      (RZ.pi_zipA (by rfl) Z.zip (pa_cons (pv 0) (pa_cons (pv 1) pa_nil))) (blkOk_by (N := nUnder) (sc := defScope sUnder) (by decide +kernel))
        (fun _ _ _ _ _ => pg_tup rfl (pgs_cons (pg_name (i := 2) scUnder.nd rfl (Or.inl rfl)) (pgs_cons (pg_name (i := 3) scUnder.nd rfl (Or.inl rfl)) pgs_nil)))
        (fun _ _ _ _ _ => pts_one (pt_cmpR op_ne (pe_op op_or (pv 2) (pv 3)) (pv 3) (nomark _))) (fun _ _ _ _ _ => pe_int)) (pe_lst pa_nil) (nomark _))), ?_⟩
    have za : H a = some (.tup ((xs.zip ys).map fun p => V.int p.1)) := by rw [zipV_fst hl]; exact ha
    have zb : H b = some (.tup ((xs.zip ys).map fun p => V.int p.2)) := by rw [zipV_snd hl]; exact hb
    refine ⟨_, rfl, _, rfl, a, b, _, _, rfl, .inr ⟨SqT.of za, SqT.of zb, fun D hD => ?_⟩⟩
    refine lcT2 (xs.zip ys) (fun p => V.int p.1) (fun p => V.int p.2) (fun p => !(sub p.1 p.2)) (fun z y _ => y = .int 1) hD (wk_zip (SqT.of za) (SqT.of zb)) (by rw [zip_len hl]; omega) (fun _ _ _ _ _ h => h) (fun _ _ => rfl) (fun z H' Qk Qs hz e1 k1 k2 => ?_) fun H' zs e1 hD' hP => ?_
    · refine ⟨_, rfl, _, rfl, z.1, z.2, rfl, rfl, _, rfl, rfl, _, rfl, ?_⟩
      by_cases hs : Builtin.bitOr z.1 z.2 = z.2
      · rw [decide_eq_true (congrArg V.int hs)]
        exact iteF (k2 H' (by unfold sub; rw [decide_eq_true hs]; rfl) (.refl _))
      · rw [decide_eq_false fun z => hs (V.int.inj z)]
        exact iteT (k1 _ H' (by unfold sub; rw [decide_eq_false hs]; rfl) (.refl _) rfl)
    · have ez : zs = (((xs.zip ys).filter fun p => !(sub p.1 p.2)).map fun _ => (1 : Int)).map V.int := by rw [paired_eq hP, List.map_map]; rfl
      subst ez
      refine ⟨by show 0 ≤ sizeLine; decide, fun D3 hD3 => ⟨_, _, ones_dp (by rw [upd_ne (ne_of_none hD' hD3)]; exact hD'), nil_dp upd_same, shaped_lst _, shaped_lst [], ?_⟩⟩
      rw [eqv_nil, List.isEmpty_map]
      have e : ((xs.zip ys).filter fun p => !(sub p.1 p.2)).isEmpty = subM xs ys := by
        have q := any_filter (fun p : Int × Int => !(sub p.1 p.2)) (xs.zip ys)
        unfold subM
        rw [List.all_eq_not_any_not, q, Bool.not_not]
      rw [e]
      exact q _ (e1.then_new hD3)
/-! ### _law_is_rising -/
abbrev sIsR : Stmt := topS 36
abbrev nIsR : List Str := ["_law_one", "_law_less", "_law_more"]
theorem scIsR : FnScope nIsR ["_law_one"] (defScope sIsR) := ⟨rfl, rfl, rfl, by decide +kernel, rfl, by decide +kernel, by decide +kernel⟩
def spIsR : Sp := fun vs H Q _ => ∃ (p : Addr) (m : List Int), vs = [.ref p] ∧ H p = some (.tup (m.map V.int)) ∧ m.length ≤ 4 ∧ Q (.bl (risL m)) H
theorem ok_isR {f : Addr} {fd : FuncData} {k : Nat} (F : Fun K "_law_is_rising" "_law_is_rising" sIsR f fd) (Z : Free mg) : FnOk P w K mg base CX0 (k + 1) f fd ["_law_one"] spIsR := by
  refine F.ok scIsR (fun vs H Q E h => ?_) (fun cdv A outer s H vs Q E hr h => ?_)
  · obtain ⟨p, m, rfl, _⟩ := h
    rfl
  · obtain ⟨p, m, rfl, hp, h4, q⟩ := h
    refine ⟨_, pss_cons (ps_for PassesOwn.never rfl (pi_range1 (by rfl) Z.range (pa_cons (pe_callB call_len_seq (by rfl) Z.len B.len (pa_cons (pv 0) pa_nil)) pa_nil)) (pg_name (i := 1) scIsR.nd rfl (Or.inl rfl))
        (pss_one (ps_for PassesOwn.never rfl (pi_range1 (by rfl) Z.range (pa_cons (pe_callB call_len_seq (by rfl) Z.len B.len (pa_cons (pv 0) pa_nil)) pa_nil)) (pg_name (i := 2) scIsR.nd rfl (Or.inl rfl))
          (pss_one (ps_if (PW.pt (pw_and (pt_cmpR op_eq (pe_op op_or (pv 1) (pv 2)) (pv 2) (nomark _)) (pw_and1 (pt_cmpR op_ne (pe_op op_or (pe_ix ix_tup (pv 0) (pv 1) (fun _ _ => rfl)) (pe_ix ix_tup (pv 0) (pv 2) (fun _ _ => rfl))) (pe_ix ix_tup (pv 0) (pv 2) (fun _ _ => rfl)) (nomark _))))) (pss_one (ps_ret pe_bl)) pss_nil)))))
      (pss_one (ps_ret pe_bl)), ?_⟩
    have hlm : (m.map V.int).length = m.length := List.length_map ..
    refine ⟨_, rfl, p, _, rfl, .inr (SqT.of hp), m.length, by rw [hlm], by omega, by omega, for_range (lo := 0) (n := (m.length : Int).toNat) (fun i σ H1 => ∃ t1 t2, σ = [some (.ref p), t1, t2] ∧ H1 = H ∧ ∀ a, a < i → ∀ b, b < m.length → (!(sub a b) || sub (m.getD a 0) (m.getD b 0)) = true)
      ⟨none, none, rfl, rfl, fun a ha => absurd ha (Nat.not_lt_zero a)⟩ ?_ ?_⟩
    · rintro i σ H1 hi ⟨t1, t2, rfl, rfl, hd⟩
      have e0i : (0 : Int) + (i : Nat) = (i : Nat) := Int.zero_add _
      rw [e0i]
      refine ⟨_, rfl, p, _, rfl, .inr (SqT.of hp), m.length, by rw [hlm], by omega, by omega, for_range (lo := 0) (n := (m.length : Int).toNat) (fun b σ H2 => ∃ t2, σ = [some (.ref p), some (.int (i : Nat)), t2] ∧ H2 = H1 ∧ ∀ b', b' < b → (!(sub i b') || sub (m.getD i 0) (m.getD b' 0)) = true)
        ⟨t2, rfl, rfl, fun a ha => absurd ha (Nat.not_lt_zero a)⟩ ?_ ?_⟩
      · rintro b σ H2 hb ⟨t2', rfl, rfl, hd2⟩
        have e0b : (0 : Int) + (b : Nat) = (b : Nat) := Int.zero_add _
        rw [e0b]
        have hi' : i < m.length := by omega
        have hb' : b < m.length := by omega
        have ai : atI (m.map V.int) (i : Nat) = some (.int (m.getD i 0)) := by
          have q := at_map (ns := m) (i := (i : Nat)) (by omega) (by omega)
          rw [Int.toNat_natCast] at q
          exact q
        have ab : atI (m.map V.int) (b : Nat) = some (.int (m.getD b 0)) := by
          have q := at_map (ns := m) (i := (b : Nat)) (by omega) (by omega)
          rw [Int.toNat_natCast] at q
          exact q
        have nxt : (!(sub i b) || sub (m.getD i 0) (m.getD b 0)) = true → ∀ b', b' < b + 1 → (!(sub i b') || sub (m.getD i 0) (m.getD b' 0)) = true := fun h b' hb' => by
          by_cases e : b' = b
          · rw [e]; exact h
          · exact hd2 b' (by omega)
        refine ⟨_, rfl, _, rfl, i, b, rfl, rfl, _, rfl, rfl, _, rfl, ?_⟩
        by_cases hs : Builtin.bitOr (i : Nat) (b : Nat) = (b : Nat)
        · rw [decide_eq_true (congrArg V.int hs)]
          have es : sub i b = true := decide_eq_true hs
          refine iteT ⟨_, rfl, _, rfl, p, _, _, _, rfl, rfl, SqT.of hp, ai, _, rfl, _, rfl, p, _, _, _, rfl, rfl, SqT.of hp, ab, _, _, rfl, rfl, _, rfl, _, rfl, p, _, _, _, rfl, rfl, SqT.of hp, ab, rfl, _, rfl, ?_⟩
          by_cases hs2 : Builtin.bitOr (m.getD i 0) (m.getD b 0) = m.getD b 0
          · rw [decide_eq_true (congrArg V.int hs2)]
            refine iteF ⟨_, rfl, rfl, nxt ?_⟩
            rw [es]
            exact decide_eq_true hs2
          · rw [decide_eq_false fun z => hs2 (V.int.inj z)]
            refine iteT ?_
            have er : risL m = false := by
              unfold risL
              rw [← Bool.not_eq_true, List.all_eq_true]
              intro z
              have q1 := List.all_eq_true.mp (z i (List.mem_range.mpr hi')) b (List.mem_range.mpr hb')
              rw [es] at q1
              exact hs2 (of_decide_eq_true q1)
            rw [er] at q
            exact q
        · rw [decide_eq_false fun z => hs (V.int.inj z)]
          refine iteF (iteF ⟨_, rfl, rfl, nxt ?_⟩)
          have es : sub i b = false := decide_eq_false hs
          rw [es]
          rfl
      · rintro σ H2 ⟨t2', rfl, rfl, hd2⟩
        refine ⟨_, _, rfl, rfl, fun a ha b hb => ?_⟩
        by_cases e : a = i
        · rw [e]; exact hd2 b (by omega)
        · exact hd a (by omega) b hb
    · rintro σ H1 ⟨t1, t2, rfl, rfl, hd⟩
      have er : risL m = true := by
        unfold risL
        rw [List.all_eq_true]
        intro a ha
        rw [List.all_eq_true]
        intro b hb
        exact hd a (by have := List.mem_range.mp ha; omega) b (List.mem_range.mp hb)
      rw [er] at q
      exact q
end
end Hw
/-! _law_all_rising -/
namespace Hw
open PySem PySem.Spec PyProof.Rows L2
section
variable {P : Program} {w : World} {K : PySem.W.Frag} {mg : Str → Option Value} {base : Heap} {C : Addr}
abbrev sAll : Stmt := topS 38
abbrev nAll : List Str := ["_law_modes", "_law_found", "_law_place", "_law_longer", "_law_one", "_law_entry"]
theorem scAll : FnScope nAll ["_law_modes"] (defScope sAll) := ⟨rfl, rfl, rfl, by decide +kernel, rfl, by decide +kernel, by decide +kernel⟩
def extM (n : Int) (r : List Int) : List (List Int) := (List.range (pw2 n).toNat).map fun (e : Nat) => r ++ [(e : Int)]
def spAllR : Sp := fun vs H Q _ => ∃ n, vs = [.int n] ∧ N12 n ∧ ∀ H' p ys L, Ex H H' → L.Perm (mapsM n) → H' p = some (.lst ys) → Paired (fun r y => TupI r y H') L ys → Q (.ref p) H'
theorem paired_app {α β : Type} {F : α → β → Prop} : ∀ {l l' : List α} {m m' : List β}, Paired F l m → Paired F l' m' → Paired F (l ++ l') (m ++ m')
  | _, _, _, _, .nil, h => h
  | _, _, _, _, .cons r t, h => .cons r (paired_app t h)
theorem paired_filterK {α β : Type} {F : α → β → Prop} : ∀ {l : List (α × β)} {ys : List β}, Paired (fun (z : α × β) y => F z.1 y) l ys → Paired F (l.map Prod.fst) ys
  | _, _, .nil => .nil
  | _, _, .cons r t => .cons r (paired_filterK t)
theorem filter_fst {α β : Type} (p : α → Bool) : ∀ l : List (α × β), (l.filter fun z => p z.1).map Prod.fst = (l.map Prod.fst).filter p
  | [] => rfl
  | z :: r => by
    rw [List.map_cons, List.filter_cons, List.filter_cons]
    cases h : p z.1
    · exact filter_fst p r
    · rw [if_pos rfl, if_pos rfl, List.map_cons, filter_fst p r]
set_option maxHeartbeats 8000000 in
theorem ok_all {f : Addr} {fd : FuncData} {k : Nat} (F : Fun K "_law_all_rising" "_law_all_rising" sAll f fd) (Z : Free mg) (c1 : Ca P w K mg base CX0 k "_law_is_rising" ["_law_one"] spIsR) (c2 : Ca P w K mg base CX0 k "_law_many" ["_law_modes"] spMany) : FnOk P w K mg base CX0 (k + 1) f fd ["_law_modes"] spAllR := by
  refine F.ok scAll (fun vs H Q E h => ?_) (fun cdv A outer s H vs Q E hr h => ?_)
  · obtain ⟨n, rfl, _⟩ := h
    rfl
  · obtain ⟨n, rfl, hn, q⟩ := h
    refine ⟨_, pss_cons (ps_set (i := 1) scAll.nd rfl (Or.inl rfl) (pe_lst (pa_cons (pe_tup pa_nil) pa_nil)))
      (pss_cons (ps_for PassesOwn.never rfl (pi_range1 (by rfl) Z.range (pa_cons (pe_ca c2 hr (by rfl) pass0 (pa_cons (pv 0) pa_nil)) pa_nil)) (pg_name (i := 2) scAll.nd rfl (Or.inl rfl))
        (pss_cons (ps_set (i := 3) scAll.nd rfl (Or.inl rfl) (pe_lst pa_nil))
        (pss_cons (ps_for PassesOwn.never rfl (pi_list (pv 1)) (pg_name (i := 4) scAll.nd rfl (Or.inr rfl))
          (pss_one (ps_expr (pe_bm PySem.F.plainAttrs_list PySem.F.slot_list_extend PySem.F.type_list_extend mt_extend (pv 3) (pa_cons (pe_lc (own := [("_law_entry", 5)]) (g := gName 5) (tt := tYes) rfl scAll.nd
            (pi_range1 (by rfl) Z.range (pa_cons (pe_ca c2 hr (by rfl) pass0 (pa_cons (pv 0) pa_nil)) pa_nil)) (blkOk_by (N := nAll) (sc := defScope sAll) (by decide +kernel))
            (fun _ _ _ _ _ => pg_name (i := 5) scAll.nd rfl (Or.inl rfl)) (fun _ _ _ _ _ => pts_nil) (fun _ _ _ _ _ => pe_op (catK K) (pv 4) (pe_tup (pa_cons (pv 5) pa_nil)))) pa_nil)))))
        (pss_one (ps_set (i := 1) scAll.nd rfl (Or.inl rfl) (pv 3))))))
      (pss_one (ps_ret (pe_lc (own := [("_law_one", 4)]) (g := gName 4) rfl scAll.nd (pi_list (pv 1)) (blkOk_by (N := nAll) (sc := defScope sAll) (by decide +kernel))
        (fun _ _ _ _ _ => pg_name (i := 4) scAll.nd rfl (Or.inl rfl)) (fun _ _ _ _ _ => pts_one (pt_val (pe_ca c1 hr (by rfl) pass0 (pa_cons (pv 4) pa_nil)))) (fun _ _ _ _ _ => pv 4))))), ?_⟩
    have hp := pw2_rng hn
    refine ⟨by show 0 ≤ sizeLine; decide, fun t0 ht0 => ⟨by show 1 ≤ sizeLine; decide, fun f0 hf0 => ?_⟩⟩
    refine ⟨_, rfl, n, rfl, hn, fun H1 e1 => ⟨pw2 n, rfl, by omega, by omega, for_range (lo := 0) (n := (pw2 n).toNat) (fun i σ H1 => ∃ fA tp tl t1 ys, σ = [some (.int n), some (.ref fA), tp, tl, t1, none] ∧ Ex H H1 ∧ H1 fA = some (.lst ys) ∧ Paired (fun r y => TupI r y H1) (allM n i) ys)
      ⟨f0, none, none, none, _, rfl, ((Ex.new ht0).then_new hf0).trans e1, e1.lst upd_same, .cons ⟨t0, rfl, e1.tup (by rw [upd_ne (apart hf0).symm, upd_same]; rfl)⟩ .nil⟩ ?_ ?_⟩⟩
    · rintro i σ H2 hi ⟨fA, tp, tl, t1, ys, rfl, e2, hys, hP⟩
      obtain ⟨zs, z1, z2, z3⟩ := paired_zip hP
      obtain ⟨al, ar⟩ := allM_len hn i (by omega)
      have hyl : ys.length ≤ 256 := by rw [← Paired.length hP]; exact al
      refine ⟨by show 0 ≤ sizeLine; decide, fun gA hgA => ?_⟩
      have hfg : fA ≠ gA := ne_of_none hys hgA
      have hysg : upd H2 gA (.lst []) fA = some (.lst ys) := by rw [upd_ne hfg]; exact hys
      refine ⟨_, rfl, fA, rfl, ⟨_, SqL.of hysg⟩, for_list (xs := ys) (fun k σ H3 => ∃ t1 ws, σ = [some (.int n), some (.ref fA), some (.int (0 + (i : Nat))), some (.ref gA), t1, none] ∧ Ex H2 H3 ∧ H3 gA = some (.lst ws) ∧ Paired (fun r y => TupI r y H3) (((allM n i).take k).flatMap (extM n)) ws)
        ⟨t1, [], rfl, .new hgA, upd_same, by rw [List.take_zero]; exact .nil⟩ (fun k σ H3 hk ⟨t1, ws, _, e3, _⟩ => SqL.of (e3.lst hys)) ?_ ?_⟩
      · rintro k x σ H3 hx ⟨t1, ws, rfl, e3, hws, hP3⟩
        obtain ⟨r, hr, u, rfl, hu⟩ := paired_ri hP hx
        have hu3 : H3 u = some (.tup (r.map V.int)) := e3.tup hu
        have hrl := ar r (List.mem_of_getElem? hr)
        refine ⟨_, rfl, .inl ⟨rfl, _, SqL.of hws⟩, _, rfl, n, rfl, hn, fun H4 e4 => ⟨pw2 n, rfl, by omega, by omega, fun D hD => ?_⟩⟩
        have hu4 : H4 u = some (.tup (r.map V.int)) := e4.tup hu3
        have hws4 := e4.lst hws
        refine lcY (List.range (pw2 n).toNat) (fun e y H' => TupI (r ++ [((e : Nat) : Int)]) y H') hD ((w0_range (pw2 n).toNat Ex).wk Ex.refl) (by rw [List.length_range]; omega) (fun z y A B h x => x.tk h) (fun _ => rfl) (fun z x H5 Qk hz e5 hY k1 => ?_) fun H5 vs5 e5 hD5 hP5 => ?_
        · subst hY
          refine ⟨_, rfl, _, rfl, by show 1 ≤ sizeLine; decide, fun t ht => ⟨u, t, _, _, rfl, rfl, SqT.of ((Ex.new ht).tup (e5.tup hu4)), SqT.of upd_same, ?_, fun hnil => ?_, (fun _ hn2 => by cases hn2), fun _ _ p hp2 => ?_⟩⟩
          · rw [List.length_map]
            exact Nat.le_of_lt (Nat.lt_of_le_of_lt (show r.length + [V.int (z : Int)].length ≤ 3000 by rw [List.length_singleton]; omega) (by decide))
          · have er : r = [] := List.map_eq_nil_iff.mp hnil
            refine k1 _ _ (.new ht) ⟨t, rfl, ?_⟩
            rw [er, upd_same]
            rfl
          · refine k1 _ _ ((Ex.new ht).then_new hp2) ⟨p, rfl, ?_⟩
            rw [upd_same, List.map_append]
            rfl
        · have hws5 := e5.lst hws4
          have hDg : D ≠ gA := fun z => by
            rw [z] at hD
            rw [hws4] at hD
            cases hD
          have hl5 := Paired.length hP5
          have hl3 := Paired.length hP3
          rw [List.length_range] at hl5
          have hwl : ws.length ≤ 2000 := by
            rw [← hl3]
            have hgen : ∀ l : List (List Int), (l.flatMap (extM n)).length = l.length * (pw2 n).toNat := fun l => by
              induction l with
              | nil => simp
              | cons a l ih =>
                rw [List.flatMap_cons, List.length_append, ih, List.length_cons, Nat.add_mul, Nat.one_mul]
                unfold extM
                rw [List.length_map, List.length_range, Nat.add_comm]
            rw [hgen, List.length_take]
            have h4 : (pw2 n).toNat ≤ 4 := by omega
            have h5 : min k (allM n i).length ≤ 256 := Nat.le_trans (Nat.min_le_right _ _) al
            have := Nat.mul_le_mul h5 h4
            omega
          refine ⟨gA, D, ws, vs5, rfl, rfl, hws5, hD5, Nat.le_of_lt (Nat.lt_of_le_of_lt (show ws.length + vs5.length ≤ 3000 by omega) (by decide)), _, _, rfl, ((e3.trans e4).trans e5).put (.of hgA) (noCode_lst hws5), upd_same, ?_⟩
          have tkg : TK H5 (upd H5 gA (.lst (ws ++ vs5))) := .lst hws5
          rw [List.take_add_one, hr, List.flatMap_append]
          refine paired_app (Paired.mapP hP3 fun _ _ x => x.tk ((e4.trans e5).tk.trans tkg)) ?_
          show Paired _ ([r].flatMap (extM n)) vs5
          rw [List.flatMap_cons, List.flatMap_nil, List.append_nil]
          exact paired_gl (F := fun r y => TupI r y (upd H5 gA (.lst (ws ++ vs5)))) (g := fun (e : Nat) => r ++ [(e : Int)]) (Paired.mapP hP5 fun _ _ x => x.tk tkg)
      · rintro σ H3 ⟨t1, ws, rfl, e3, hws, hP3⟩
        rw [← Paired.length hP, List.take_length] at hP3
        exact ⟨_, rfl, gA, _, _, _, ws, rfl, e2.trans e3, hws, hP3⟩
    · rintro σ H2 ⟨fA, tp, tl, t1, ys, rfl, e2, hys, hP⟩
      obtain ⟨zs, z1, z2, z3⟩ := paired_zip hP
      obtain ⟨al, ar⟩ := allM_len hn (pw2 n).toNat (Nat.le_refl _)
      refine ⟨_, rfl, fA, rfl, ⟨ys, SqL.of hys⟩, fun D hD => ?_⟩
      have hzl0 : zs.length = (allM n (pw2 n).toNat).length := by rw [← z1, List.length_map]
      refine lcT zs (fun z => risL z.1) (fun z y H' => TupI z.1 y H') hD ((w0_listP (E := Ex) (p := Prod.snd) fun H' e => SqL.ex e (SqL.of (by rw [z2]; exact hys))).wk Ex.refl) (by omega)
        (fun z y A B h x => x.tk h) (fun _ => rfl) (fun z x H3 Qk Qs hz e3 hY k1 k2 => ?_) fun H3 vs3 e3 hD3 hP3 => ?_
      · subst hY
        obtain ⟨u, hu, hu2⟩ := z3 z hz
        have hzl := ar z.1 (by rw [← z1]; exact List.mem_map_of_mem hz)
        refine ⟨_, rfl, u, z.1, by rw [hu], e3.tup hu2, by omega, _, rfl, ?_⟩
        cases hr1 : risL z.1 with
        | true => exact iteT ⟨_, rfl, k1 _ H3 hr1 (.refl _) ⟨u, hu, e3.tup hu2⟩⟩
        | false => exact iteF (k2 H3 hr1 (.refl _))
      · have hP4 := paired_filterK (F := fun r y => TupI r y H3) hP3
        rw [filter_fst, z1] at hP4
        exact q H3 D vs3 _ (e2.trans e3) (all_perm hn) hD3 hP4
end
end Hw
/-! _law_is_map -/
namespace Hw
open PySem PySem.Spec PyProof.Rows L2
theorem ones_of {α : Type} {l : List α} {ys : List V} (h : Paired (fun (_ : α) y => y = V.int 1) l ys) : ys = (l.map fun _ => (1 : Int)).map V.int := by
  have e := paired_eq (G := fun _ : α => V.int 1) h
  rw [e, List.map_map]
  rfl
theorem filt_all {α : Type} (p : α → Bool) (l : List α) : (l.filter fun x => !(p x)).isEmpty = l.all p := by
  have q := any_filter (fun x => !(p x)) l
  rw [List.all_eq_not_any_not, q, Bool.not_not]
section
variable {P : Program} {w : World} {K : PySem.W.Frag} {mg : Str → Option Value} {base : Heap} {C : Addr}
abbrev sLM : Stmt := topS 44
abbrev nLM : List Str := ["_law_value_here", "_law_many_here", "_law_one"]
theorem scLM : FnScope nLM ["_law_value_here", "_law_many_here"] (defScope sLM) := ⟨rfl, rfl, rfl, by decide +kernel, rfl, by decide +kernel, by decide +kernel⟩
def spLM (K : PySem.W.Frag) : Sp := fun vs H Q _ => ∃ (v : V) (n : Int) (o : Option (List V)), vs = [v, .int (pw2 n)] ∧ N12 n ∧ Val1 K H v o ∧ ∀ H', Ex H H' → Q (.bl (mapB n o)) H'
set_option maxHeartbeats 8000000 in
theorem ok_LM {f : Addr} {fd : FuncData} {k : Nat} (F : Fun K "_law_is_map" "_law_is_map" sLM f fd) (Z : Free mg) : FnOk P w K mg base CX0 (k + 1) f fd ["_law_value_here", "_law_many_here"] (spLM K) := by
  refine F.ok scLM (fun vs H Q E h => ?_) (fun cdv A outer s H vs Q E hr h => ?_)
  · obtain ⟨v, n, o, rfl, _⟩ := h
    rfl
  · obtain ⟨v, n, o, rfl, hn, hv, q⟩ := h
    have hu : A.units + 3 + 16 * k + 200 < cLine := hr.un
    refine ⟨_, pss_cons (ps_if (PW.pt (pw_or (pt_not (pt_val (pe_callB call_isi (by rfl) Z.isi B.isi (pa_cons (pv 0) (pa_cons (pe_bltn (v := .ty "tuple") (by rfl) Z.tuple B.tuple rfl) pa_nil)))))
        (pw_or1 (pt_cmpR op_ne (pe_callB call_len_seq (by rfl) Z.len B.len (pa_cons (pv 0) pa_nil)) (pv 1) (nomark _))))) (pss_one (ps_ret pe_bl)) pss_nil)
      (pss_one (ps_ret (pe_cmpR (eqK K (by show A.units + 3 + _ < cLine; omega)) (pe_lc (own := [("_law_one", 2)]) (g := gName 2) rfl scLM.nd (pi_tup (pv 0)) (blkOk_by (N := nLM) (sc := defScope sLM) (by decide +kernel))
        (fun _ _ _ _ _ => pg_name (i := 2) scLM.nd rfl (Or.inl rfl))
        (fun _ _ _ _ _ => pts_one (PW.pt (pw_or (pt_not (pt_val (pe_callB (isiK K) (by rfl) Z.isi B.isi (pa_cons (pv 2) (pa_cons (pe_bltn (v := .ty "int") (by rfl) Z.int B.int rfl) pa_nil)))))
          (pw_or (pt_val (pe_callB (isiK K) (by rfl) Z.isi B.isi (pa_cons (pv 2) (pa_cons (pe_bltn (v := .ty "bool") (by rfl) Z.bool B.bool rfl) pa_nil))))
            (pw_or1 (pt_not (pt_chain op_le op_lt pe_int (pv 2) (pv 1))))))))
        (fun _ _ _ _ _ => pe_int)) (pe_lst pa_nil) (nomark _)))), ?_⟩
    obtain ⟨T', hk, hT⟩ := hv.kn
    refine ⟨v, rfl, v, _, _, _, _, rfl, .ty _, hk.ty, kit_ty hk.tuple_ans, _, rfl, ?_⟩
    rw [hT]
    cases hv with
    | no k n' => exact iteT (iteT (q H (.refl H)))
    | @tup t xs ht hxs =>
      refine iteF ⟨_, rfl, t, xs, rfl, .inr (SqT.of ht), _, rfl, rfl, _, rfl, ?_⟩
      have em : mapB n (some xs) = (decide ((xs.length : Int) = pw2 n) && xs.all fun x => inRng x 0 (pw2 n - 1)) := rfl
      have hp := pw2_rng hn
      by_cases hl : (xs.length : Int) = pw2 n
      · rw [hl, decide_eq_true rfl]
        refine iteF ⟨_, rfl, t, rfl, ⟨xs, SqT.of ht⟩, fun D hD => ?_⟩
        refine lcT xs (fun x => !(inRng x 0 (pw2 n - 1))) (fun z y _ => y = .int 1) hD ((w0_tup (E := Ex) fun H' e => SqT.ex e (SqT.of ht)).wk Ex.refl) (by omega) (fun _ _ _ _ _ h => h) (fun _ => rfl) (fun z x H' Qk Qs hz e1 hY k1 k2 => ?_) fun H' ys e1 hD' hP => ?_
        · subst hY
          obtain ⟨Tz, kz⟩ := hxs x hz
          have kz' := kz.ex e1
          refine ⟨_, rfl, _, _, _, _, _, rfl, .ty _, kz'.ty, kit_ty kz'.int_ans, _, rfl, ?_⟩
          cases kz with
          | int i =>
            refine iteF ⟨_, rfl, _, _, _, _, false, rfl, .ty _, kz'.ty, kit_ty kz'.bool_ans, _, rfl, ?_⟩
            refine iteF ⟨_, rfl, 0, i, rfl, rfl, _, rfl, ?_⟩
            have er : inRng (.int i) 0 (pw2 n - 1) = (decide (0 ≤ i) && decide (i ≤ pw2 n - 1)) := rfl
            by_cases h0 : 0 ≤ i
            · rw [decide_eq_true h0]
              refine iteT ⟨_, rfl, i, _, rfl, rfl, _, rfl, ?_⟩
              by_cases h1 : i < pw2 n
              · rw [decide_eq_true h1]
                refine iteF (k2 H' ?_ (.refl _))
                rw [er, decide_eq_true h0, decide_eq_true (show i ≤ pw2 n - 1 by omega)]
                rfl
              · rw [decide_eq_false h1]
                refine iteT (k1 _ H' ?_ (.refl _) rfl)
                rw [er, decide_eq_false (show ¬ i ≤ pw2 n - 1 by omega), Bool.and_false]
                rfl
            · rw [decide_eq_false h0]
              refine iteF ⟨_, rfl, iteT (k1 _ H' ?_ (.refl _) rfl)⟩
              rw [er, decide_eq_false h0, Bool.false_and]
              rfl
          | bl b =>
            exact iteF ⟨_, rfl, _, _, _, _, true, rfl, .ty _, kz'.ty, kit_ty kz'.bool_ans, _, rfl, iteT (iteT (k1 _ H' rfl (.refl _) rfl))⟩
          | non => exact iteT (iteT (k1 _ H' rfl (.refl _) rfl))
          | str y => exact iteT (iteT (k1 _ H' rfl (.refl _) rfl))
          | tup h => exact iteT (iteT (k1 _ H' rfl (.refl _) rfl))
          | lst h => exact iteT (iteT (k1 _ H' rfl (.refl _) rfl))
        · have ez := ones_of hP
          subst ez
          refine ⟨by show 0 ≤ sizeLine; decide, fun D3 hD3 => ⟨_, _, ones_dp (by rw [upd_ne (ne_of_none hD' hD3)]; exact hD'), nil_dp upd_same, shaped_lst _, shaped_lst [], ?_⟩⟩
          rw [eqv_nil, List.isEmpty_map, filt_all]
          have q1 := q _ (e1.then_new (o := .lst []) hD3)
          rw [em, decide_eq_true hl, Bool.true_and] at q1
          exact q1
      · rw [decide_eq_false fun z => hl (V.int.inj z)]
        have q1 := q H (.refl H)
        rw [em, decide_eq_false hl, Bool.false_and] at q1
        exact iteT q1
end
end Hw
/-! _law_is_right_making -/
namespace Hw
open PySem PySem.Spec PyProof.Rows L2
theorem notInK {X : Cx} (w : World) (hu : X.A.units + 64 < cLine) (hw : X.w = w := by rfl) : OpR X (compareOp .NotIn) (rNotIn w) := by
  subst hw
  exact op_notInN hu
section
variable {P : Program} {w : World} {K : PySem.W.Frag} {mg : Str → Option Value} {base : Heap} {C : Addr}
/-- the list of all maps -/
def ListedAt (H : Hp) (l : Addr) (n : Int) (L : List (List Int)) : Prop := ∃ ys, H l = some (.lst ys) ∧ Paired (fun r y => TupI r y H) L ys ∧ L.Perm (mapsM n)
theorem ListedAt.ex {H H' : Hp} {l : Addr} {n : Int} {L : List (List Int)} (h : ListedAt H l n L) (e : Ex H H') : ListedAt H' l n L := by
  obtain ⟨ys, h1, h2, h3⟩ := h
  exact ⟨ys, e.lst h1, Paired.mapP h2 fun _ _ x => x.tk e.tk, h3⟩
theorem ListedAt.exJ {H H' : Hp} {l j : Addr} {n : Int} {L : List (List Int)} (h : ListedAt H l n L) (e : ExJ j H H') (ne : l ≠ j) : ListedAt H' l n L := by
  obtain ⟨ys, h1, h2, h3⟩ := h
  exact ⟨ys, e.lst ne h1, Paired.mapP h2 fun _ _ x => x.tk e.tk, h3⟩
/-- what may be asked whether it is right -/
inductive DkV (w : World) (K : PySem.W.Frag) (H : Hp) (n : Int) (d : Addr) : Bool → Prop where
  | len {m : Nat} (h : DLen H d m) (ne : m ≠ cntM n) : DkV w K H n d false
  | dct {as : Mk} {ks : List (Ky × Addr × V)} (h : DN w H d ks) (m : MkAt K H as ks) (o : as.all (fun a => a.1.ok) = true) : DkV w K H n d (makB n as)
theorem DkV.mkV {H : Hp} {n : Int} {d : Addr} {b : Bool} (h : DkV w K H n d b) : MkV w K H n (.ref d) b := by
  cases h with
  | len h ne => exact .len h ne
  | dct h m o => exact .dct h m o
abbrev sRM : Stmt := topS 45
abbrev nRM : List Str := ["_law_value_here", "_law_listed", "_law_many_here", "_law_one", "_law_made", "_law_above", "_law_other"]
theorem scRM : FnScope nRM ["_law_value_here", "_law_listed", "_law_many_here"] (defScope sRM) := ⟨rfl, rfl, rfl, by decide +kernel, rfl, by decide +kernel, by decide +kernel⟩
def spRM (w : World) (K : PySem.W.Frag) : Sp := fun vs H Q _ => ∃ (d l : Addr) (n : Int) (L : List (List Int)) (b : Bool), vs = [.ref d, .ref l, .int (pw2 n)] ∧ N12 n ∧ ListedAt H l n L ∧ DkV w K H n d b ∧ ∀ H', Ex H H' → Q (.bl b) H'
set_option maxHeartbeats 16000000 in
theorem ok_RM {f : Addr} {fd : FuncData} {k : Nat} (F : Fun K "_law_is_right_making" "_law_is_right_making" sRM f fd) (Z : Free mg) (c1 : Ca P w K mg base CX0 k "_law_is_map" ["_law_value_here", "_law_many_here"] (spLM K)) (c2 : Ca P w K mg base CX0 k "_law_is_rising" ["_law_one"] spIsR)
    (c3 : Ca P w K mg base CX0 k "_law_is_under" ["_law_one", "_law_other"] spMP) : FnOk P w K mg base CX0 (k + 1) f fd ["_law_value_here", "_law_listed", "_law_many_here"] (spRM w K) := by
  refine F.ok scRM (fun vs H Q E h => ?_) (fun cdv A outer s H vs Q E hr h => ?_)
  · obtain ⟨d, l, n, L, b, rfl, _⟩ := h
    rfl
  · obtain ⟨d, l, n, L, b, rfl, hn, ⟨ys, hys, hP, hL⟩, hv, q⟩ := h
    have hu : A.units + 3 + 16 * k + 200 < cLine := hr.un
    refine ⟨_, pss_cons (ps_if (PW.pt (pw_or (pt_cmpR op_ne (pe_callB cr_lenD (by rfl) Z.len B.len (pa_cons (pv 0) pa_nil)) (pe_callB call_len_seq (by rfl) Z.len B.len (pa_cons (pv 1) pa_nil)) (nomark _))
        (pw_or1 (pt_cmpR (neK K (by show A.units + 3 + _ < cLine; omega)) (pe_lc (own := [("_law_one", 3)]) (g := gName 3) rfl scRM.nd (pi_list (pv 1)) (blkOk_by (N := nRM) (sc := defScope sRM) (by decide +kernel))
          (fun _ _ _ _ _ => pg_name (i := 3) scRM.nd rfl (Or.inl rfl)) (fun _ _ _ _ _ => pts_one (pt_cmpR (notInK w (by show A.units + 3 + _ < cLine; omega)) (pe_tup (pa_cons (pv 3) pa_nil)) (pv 0) (by rfl))) (fun _ _ _ _ _ => pe_int)) (pe_lst pa_nil) (nomark _))))) (pss_one (ps_ret pe_bl)) pss_nil)
      (pss_cons (ps_if (pt_cmpR (neK K (by show A.units + 3 + _ < cLine; omega)) (pe_lc (own := [("_law_made", 4)]) (g := gName 4) rfl scRM.nd (pi_list (pe_listVals9 rfl (pv 0) (by rfl) Z.list)) (blkOk_by (N := nRM) (sc := defScope sRM) (by decide +kernel))
          (fun _ _ _ _ _ => pg_name (i := 4) scRM.nd rfl (Or.inl rfl)) (fun _ _ _ _ _ => pts_one (PW.pt (pw_or (pt_not (pt_val (pe_ca c1 hr (by rfl) pass0 (pa_cons (pv 4) (pa_cons (pv 2) pa_nil))))) (pw_or1 (pt_not (pt_val (pe_ca c2 hr (by rfl) pass0 (pa_cons (pv 4) pa_nil)))))))) (fun _ _ _ _ _ => pe_int)) (pe_lst pa_nil) (nomark _)) (pss_one (ps_ret pe_bl)) pss_nil)
      (pss_cons (ps_for PassesOwn.never rfl (pi_list (pv 1)) (pg_name (i := 3) scRM.nd rfl (Or.inr rfl))
        (pss_cons (ps_setLc (i := 5) (own := [("_law_other", 6)]) (g := gName 6) rfl scRM.nd rfl rfl (sw_true rfl rfl rfl (by decide +kernel)) (pi_list (pv 1)) (blkOk_by (N := nRM) (sc := defScope sRM) (by decide +kernel))
          (fun _ _ _ _ _ => pg_name (i := 6) scRM.nd rfl (Or.inl rfl)) (fun _ _ _ _ _ => pts_one (pt_val (pe_ca c3 hr (by rfl) pass0 (pa_cons (pv 3) (pa_cons (pv 6) pa_nil))))) (fun _ _ _ _ _ => pv 6))
        (pss_one (ps_if (pt_cmpR (neK K (by show A.units + 3 + _ < cLine; omega)) (pe_lc (own := [("_law_other", 6)]) (g := gName 6) rfl scRM.nd (pi_list (pv 5)) (blkOk_by (N := nRM) (sc := defScope sRM) (by decide +kernel))
          (fun _ _ _ _ _ => pg_name (i := 6) scRM.nd rfl (Or.inl rfl)) (fun _ _ _ _ _ => pts_one (pt_not (pt_val (pe_ca c3 hr (by rfl) pass0 (pa_cons (pe_ix (ixDK w (by show A.units + 3 + _ < cLine; omega)) (pv 0) (pe_tup (pa_cons (pv 3) pa_nil)) (fun _ _ => rfl)) (pa_cons (pe_ix (ixDK w (by show A.units + 3 + _ < cLine; omega)) (pv 0) (pe_tup (pa_cons (pv 6) pa_nil)) (fun _ _ => rfl)) pa_nil)))))) (fun _ _ _ _ _ => pe_int)) (pe_lst pa_nil) (nomark _)) (pss_one (ps_ret pe_bl)) pss_nil))))
      (pss_one (ps_ret pe_bl)))), ?_⟩
    obtain ⟨us, u1, u2, u3⟩ := paired_zip hP
    have hLl : L.length = cntM n := by rw [hL.length_eq, maps_len hn]
    have hyl : ys.length = cntM n := by rw [← Paired.length hP, hLl]
    have hul : us.length = cntM n := by rw [← hLl, ← u1, List.length_map]
    have hcn : cntM n ≤ 36 := by rcases hn with rfl | rfl <;> decide
    have hp := pw2_rng hn
    have mem_of : ∀ z ∈ us, z.1 ∈ mapsM n := fun z hz => hL.mem_iff.mp (by rw [← u1]; exact List.mem_map_of_mem hz)
    have wys : ∀ {A : Hp}, Ex H A → Wk Ex (Itl K l) A us fun z x _ => x = z.2 := fun {A} e => (w0_listP (E := Ex) (p := Prod.snd) fun H' e' => SqL.ex e' (SqL.of (by rw [u2]; exact e.lst hys))).wk Ex.refl
    cases hv with
    | @len m h ne =>
      refine ⟨_, rfl, d, m, rfl, h, _, rfl, l, ys, rfl, .inl (SqL.of hys), rfl, _, rfl, ?_⟩
      rw [decide_eq_false fun z => ne (by have := V.int.inj z; omega)]
      exact iteT (iteT (q H (.refl H)))
    | @dct as ks h m o =>
      have lk : as.length = ks.length := Paired.length m
      have em : makB n as = (decide (as.length = cntM n) && (as.all (fun a => keyKy n a.1) && (as.all (fun a => monB n a.2) && upB n as))) := rfl
      have hndk : (as.map (·.1)).Nodup := by rw [← m.keys]; exact h.nd
      refine ⟨_, rfl, d, ks.length, rfl, h.dlen, _, rfl, l, ys, rfl, .inl (SqL.of hys), rfl, _, rfl, ?_⟩
      by_cases hl : as.length = cntM n
      case neg =>
        rw [decide_eq_false fun z => hl (by have := V.int.inj z; omega)]
        rw [em, decide_eq_false hl, Bool.false_and] at q
        exact iteT (iteT (q H (.refl H)))
      rw [decide_eq_true hl, Bool.true_and] at em
      rw [decide_eq_true (congrArg V.int (show ((ks.length : Nat) : Int) = (ys.length : Nat) by omega))]
      refine iteF ⟨_, rfl, l, rfl, ⟨_, SqL.of hys⟩, fun D hD => ?_⟩
      refine lcT us (fun z => !(valK ks (.one z.1 [])).isSome) (fun _ y _ => y = .int 1) hD (wys (.refl H)) (by omega) (fun _ _ _ _ _ h => h) (fun _ => rfl) (fun z x H2 Qk Qs hz e2 hY k1 k2 => ?_) fun H2 zs e2 hD2 hP2 => ?_
      · subst hY
        obtain ⟨t1, ht1, ht1'⟩ := u3 z hz
        refine ⟨_, rfl, by show 1 ≤ sizeLine; decide, fun p5 hp5 => ⟨_, rfl, d, ks, p5, .one z.1 [], rfl, rfl, (h.ex e2).ex (.new hp5), TupI.new hp5 ⟨t1, ht1, e2.tup ht1'⟩, _, rfl, ?_⟩⟩
        cases hs : (valK ks (.one z.1 [])).isSome with
        | true => exact iteF (k2 _ (by rw [hs]; rfl) (.new hp5))
        | false => exact iteT (k1 _ _ (by rw [hs]; rfl) (.new hp5) rfl)
      have ez := ones_of hP2
      subst ez
      refine ⟨by show 0 ≤ sizeLine; decide, fun D3 hD3 => ⟨_, _, ones_dp (by rw [upd_ne (ne_of_none hD2 hD3)]; exact hD2), nil_dp upd_same, shaped_lst _, shaped_lst [], _, rfl, ?_⟩⟩
      rw [eqv_nil, List.isEmpty_map, filt_all]
      have e02 : Ex H (upd H2 D3 (.lst [])) := e2.then_new hD3
      cases hall : us.all fun z => (valK ks (.one z.1 [])).isSome with
      | false =>
        have hkf : as.all (fun a => keyKy n a.1) = false := by
          rw [← Bool.not_eq_true]
          intro hk
          rw [← Bool.not_eq_true, List.all_eq_true] at hall
          refine hall fun z hz => ?_
          have q1 := keys_all hn hndk hl hk z.1 (mem_of z hz)
          rw [← m.keys] at q1
          obtain ⟨x, hx, ex⟩ := List.mem_map.mp q1
          rw [← ex, valK_of h.nd hx]
          rfl
        rw [em, hkf, Bool.false_and] at q
        exact iteT (q _ e02)
      | true =>
      have hk : as.all (fun a => keyKy n a.1) = true := all_keys hn hl fun g hg => by
        obtain ⟨z, hz, ez⟩ := List.mem_map.mp (show g ∈ us.map Prod.fst by rw [u1]; exact hL.mem_iff.mpr hg)
        have q1 := List.all_eq_true.mp hall z hz
        rw [ez] at q1
        obtain ⟨v, hv⟩ := Option.isSome_iff_exists.mp q1
        obtain ⟨x, hx, ex, _⟩ := valK_some hv
        rw [← m.keys, ← ex]
        exact List.mem_map_of_mem hx
      rw [hk, Bool.true_and] at em
      refine iteF ?_
      generalize upd H2 D3 (.lst []) = H3 at e02 ⊢
      -- the values
      obtain ⟨cs, c1', c2', c3'⟩ := paired_zip (m.ex e02)
      refine ⟨_, rfl, d, ks, rfl, h.ex e02, fun q0 hq0 => ⟨q0, rfl, ⟨_, SqL.of upd_same⟩, fun D2 hD2 => ?_⟩⟩
      have hcl : cs.length = ks.length := by rw [← c2', List.length_map]
      refine lcT cs (fun z => !(monB n z.1.2)) (fun _ y _ => y = .int 1) hD2 ((w0_listP (E := Ex) (p := fun z => z.2.2.2) fun H' e => SqL.ex e (SqL.of (by rw [← c2', List.map_map]; exact upd_same))).wk Ex.refl) (by omega) (fun _ _ _ _ _ h => h) (fun _ => rfl) (fun z x H4 Qk Qs hz e4 hY k1 k2 => ?_) fun H4 zs e4 hD4 hP4 => ?_
      · subst hY
        have hv4 : Val1 K H4 z.2.2.2 z.1.2 := (c3' z hz).2.ex ((Ex.new hq0).trans e4)
        refine ⟨_, rfl, _, rfl, z.2.2.2, n, z.1.2, rfl, hn, hv4, fun H5 e5 => ⟨_, rfl, ?_⟩⟩
        generalize hvz : z.2.2.2 = vz at hv4
        generalize hoz : z.1.2 = oz at hv4 k1 k2
        cases hv4 with
        | no kk nn => exact iteT (iteT (k1 _ H5 rfl e5 rfl))
        | @tup t xs ht hxs =>
          have em5 : monB n (some xs) = (mapB n (some xs) && risB n (xs.map intOf)) := rfl
          cases hm : mapB n (some xs) with
          | false =>
            rw [em5, hm] at k1
            exact iteT (iteT (k1 _ H5 rfl e5 rfl))
          | true =>
            rw [em5, hm, Bool.true_and] at k1 k2
            have h2 : (decide ((xs.length : Int) = pw2 n) && xs.all fun x => inRng x 0 (pw2 n - 1)) = true := hm
            rw [Bool.and_eq_true] at h2
            have hx := ints_of h2.2
            have hxl : ((xs.map intOf).length : Int) = pw2 n := by rw [List.length_map]; exact of_decide_eq_true h2.1
            have hxr : ∀ y ∈ xs.map intOf, 0 ≤ y ∧ y ≤ pw2 n - 1 := fun y hy => by
              have q1 := List.all_eq_true.mp h2.2 (.int y) (by rw [← hx]; exact List.mem_map_of_mem hy)
              have q2 : (decide (0 ≤ y) && decide (y ≤ pw2 n - 1)) = true := q1
              rw [Bool.and_eq_true] at q2
              exact ⟨of_decide_eq_true q2.1, of_decide_eq_true q2.2⟩
            refine iteF ⟨_, rfl, t, xs.map intOf, rfl, by rw [hx]; exact e5.tup ht, by omega, _, rfl, ?_⟩
            rw [risL_eq hn hxl hxr]
            cases hrb : risB n (xs.map intOf) with
            | true => exact iteF (k2 H5 (by rw [hrb]; rfl) e5)
            | false => exact iteT (k1 _ H5 (by rw [hrb]; rfl) e5 rfl)
      have ez := ones_of hP4
      subst ez
      have e04 := e02.trans ((Ex.new hq0).trans e4)
      refine ⟨by show 0 ≤ sizeLine; decide, fun D5 hD5 => ⟨_, _, ones_dp (by rw [upd_ne (ne_of_none hD4 hD5)]; exact hD4), nil_dp upd_same, shaped_lst _, shaped_lst [], _, rfl, ?_⟩⟩
      rw [eqv_nil, List.isEmpty_map, filt_all]
      have ek : cs.all (fun z => monB n z.1.2) = as.all (fun a => monB n a.2) := by
        rw [← c1', List.all_map]
        rfl
      rw [ek]
      have e05 : Ex H (upd H4 D5 (.lst [])) := e04.then_new hD5
      generalize upd H4 D5 (.lst []) = H5 at e05 ⊢
      cases hv : as.all (fun a => monB n a.2) with
      | false =>
        rw [em, hv, Bool.false_and] at q
        exact iteT (q _ e05)
      | true =>
      rw [hv, Bool.true_and] at em
      refine iteF ?_
      have hkall := keys_all hn hndk hl hk
      -- the steps
      refine ⟨_, rfl, l, rfl, ⟨ys, SqL.of (e05.lst hys)⟩, for_list (xs := ys) (fun i σ H6 => ∃ t3 t5, σ = [some (.ref d), some (.ref l), some (.int (pw2 n)), t3, none, t5, none] ∧ Ex H H6 ∧ ∀ a, a < i → ∀ r, L[a]? = some r → ∀ g ∈ L, subM r g = true → subM (valA as r) (valA as g) = true)
        ⟨none, none, rfl, e05, fun a ha => absurd ha (Nat.not_lt_zero a)⟩ (fun i σ H6 _ ⟨t3, t5, _, e6, _⟩ => SqL.of (e6.lst hys)) ?_ ?_⟩
      · rintro i x σ H6 hx ⟨t3, t5, rfl, e6, hdone⟩
        obtain ⟨r, hr, u, rfl, hu'⟩ := paired_ri hP hx
        have hrM : r ∈ mapsM n := hL.mem_iff.mp (List.mem_of_getElem? hr)
        have lr := map_rng hn hrM
        refine ⟨_, rfl, l, rfl, ⟨ys, SqL.of (e6.lst hys)⟩, fun D6 hD6 => ?_⟩
        refine lcT us (fun z => subM r z.1) (fun z y _ => y = z.2) hD6 (wys e6) (by omega) (fun _ _ _ _ _ h => h) (fun _ => rfl) (fun z x H7 Qk Qs hz e7 hY k1 k2 => ?_) fun H7 zs e7 hD7 hP7 => ?_
        · subst hY
          obtain ⟨t1, ht1, ht1'⟩ := u3 z hz
          have l1 := map_rng hn (mem_of z hz)
          have e67 := e6.trans e7
          refine ⟨_, rfl, _, rfl, u, t1, r, z.1, by rw [ht1], e67.tup hu', e67.tup ht1', by omega, by omega, fun H8 e8 => ⟨_, rfl, ?_⟩⟩
          cases hs : subM r z.1 with
          | true => exact iteT ⟨_, rfl, k1 _ H8 hs e8 rfl⟩
          | false => exact iteF (k2 H8 hs e8)
        have ez : zs = (us.filter fun z => subM r z.1).map Prod.snd := paired_eq hP7
        subst ez
        have e67 := e6.trans e7
        refine ⟨_, rfl, D6, rfl, ⟨_, SqL.of hD7⟩, fun D7 hD7' => ?_⟩
        refine lcT (us.filter fun z => subM r z.1) (fun z => !(subM (valA as r) (valA as z.1))) (fun _ y _ => y = .int 1) hD7' ((w0_listP (E := Ex) (p := Prod.snd) fun H' e => SqL.ex e (SqL.of hD7)).wk Ex.refl) (Nat.le_trans (List.length_filter_le _ _) (by omega)) (fun _ _ _ _ _ h => h) (fun _ => rfl) (fun z x H8 Qk Qs hz e8 hY k1 k2 => ?_) fun H8 zs8 e8 hD8 hP8 => ?_
        · subst hY
          have hz' := (List.mem_filter.mp hz).1
          obtain ⟨t1, ht1, ht1'⟩ := u3 z hz'
          have e08 := e67.trans e8
          obtain ⟨b1, w1, w1', w1''⟩ := look_ok hn m (hkall _ hrM) hv
          obtain ⟨b2, w2, w2', w2''⟩ := look_ok hn m (hkall _ (mem_of z hz')) hv
          have l1 := (monI_parts w1'').1
          have l2 := (monI_parts w2'').1
          refine ⟨_, rfl, _, rfl, by show 1 ≤ sizeLine; decide, fun p5 hp5 => ⟨d, ks, p5, .one r [], .ref b1, rfl, rfl, h.ex (e08.then_new hp5), TupI.new hp5 ⟨u, rfl, e08.tup hu'⟩, w1, ?_⟩⟩
          refine ⟨_, rfl, _, rfl, by show 1 ≤ sizeLine; decide, fun p6 hp6 => ⟨d, ks, p6, .one z.1 [], .ref b2, rfl, rfl, h.ex ((e08.then_new hp5).then_new hp6), TupI.new hp6 ⟨t1, ht1, (e08.then_new hp5).tup ht1'⟩, w2, ?_⟩⟩
          have e9 := (e08.then_new (o := .tup [.ref u]) hp5).then_new (o := .tup [z.2]) hp6
          refine ⟨b1, b2, valA as r, valA as z.1, rfl, e9.tup w1', e9.tup w2', by omega, by omega, fun H9 e9' => ⟨_, rfl, ?_⟩⟩
          cases hs : subM (valA as r) (valA as z.1) with
          | true => exact iteF (k2 H9 (by rw [hs]; rfl) (((Ex.new hp5).then_new hp6).trans e9'))
          | false => exact iteT (k1 _ H9 (by rw [hs]; rfl) (((Ex.new hp5).then_new hp6).trans e9') rfl)
        have ez := ones_of hP8
        subst ez
        have e08 := e67.trans e8
        refine ⟨by show 0 ≤ sizeLine; decide, fun D9 hD9 => ⟨_, _, ones_dp (by rw [upd_ne (ne_of_none hD8 hD9)]; exact hD8), nil_dp upd_same, shaped_lst _, shaped_lst [], _, rfl, ?_⟩⟩
        rw [eqv_nil, List.isEmpty_map, filt_all]
        cases hst : (us.filter fun z => subM r z.1).all fun z => subM (valA as r) (valA as z.1) with
        | true =>
          refine iteF ⟨_, _, rfl, e08.then_new hD9, fun a ha r' hr' g hg hs => ?_⟩
          by_cases ea : a = i
          · rw [ea, hr] at hr'
            cases hr'
            obtain ⟨z, hz, ez⟩ := List.mem_map.mp (show g ∈ us.map Prod.fst by rw [u1]; exact hg)
            have q1 := List.all_eq_true.mp hst z (List.mem_filter.mpr ⟨hz, by rw [ez]; exact hs⟩)
            rw [ez] at q1
            exact q1
          · exact hdone a (by omega) r' hr' g hg hs
        | false =>
          have hub : upB n as = false := by
            rw [← Bool.not_eq_true]
            intro hub
            rw [← Bool.not_eq_true, List.all_eq_true] at hst
            refine hst fun z hz => ?_
            obtain ⟨hz1, hz2⟩ := List.mem_filter.mp hz
            exact List.all_eq_true.mp hub (r, z.1) (List.mem_filter.mpr ⟨mem_prs.mpr ⟨hrM, mem_of z hz1⟩, hz2⟩)
          rw [em, hub] at q
          exact iteT (q _ (e08.then_new hD9))
      · rintro σ H6 ⟨t3, t5, rfl, e6, hdone⟩
        have hub : upB n as = true := by
          unfold upB
          rw [List.all_eq_true]
          intro p hp'
          rw [List.mem_filter, mem_prs] at hp'
          obtain ⟨a, ha⟩ := List.mem_iff_getElem?.mp (hL.mem_iff.mpr hp'.1.1)
          have hal : a < ys.length := by
            have := (List.getElem?_eq_some_iff.mp ha).1
            omega
          exact hdone a hal p.1 ha p.2 (hL.mem_iff.mpr hp'.1.2) hp'.2
        rw [em, hub] at q
        exact q _ e6
end
end Hw
/-! zip of three tuples -/
namespace Hw
open PySem PySem.Spec PyProof.Rows L2
/-- three tuples of one length, walked together: new triples -/
def Itz3 {α : Type} (K : PySem.W.Frag) (a b c : Addr) (l : List α) (p q r : α → V) : It :=
  ⟨fun i H => (SqT K H a (l.map p) ∧ SqT K H b (l.map q) ∧ SqT K H c (l.map r)) ∧ i < l.length, fun i H v H' => ∃ T z, v = .ref T ∧ l[i]? = some z ∧ H T = none ∧ H' = upd H T (.tup [p z, q z, r z]),
    fun i H => (SqT K H a (l.map p) ∧ SqT K H b (l.map q) ∧ SqT K H c (l.map r)) ∧ i = l.length⟩
theorem turn_zip3 {α : Type} {P : Program} {w : World} {K : PySem.W.Frag} {elts : List Expr} {kk : Nat} {tpos : Pos} {a b c z TI TO i1 i2 i3 : Addr} {l : List α} {p q r : α → V} (S : ZipSep3 z TI TO i1 i2 i3 [i1, a] [i2, b] [i3, c]) (n1 : a ≠ i1) (n2 : b ≠ i2) (n3 : c ≠ i3) :
    Turn P w K (.Tuple elts kk tpos) (Itz3 K a b c l p q r) [z, TI, TO, i1, i2, i3] z (fun i h => IsZip h z TI TO .none ∧ IsTupOf3 h TI (.ref i1) (.ref i2) (.ref i3) ∧ (∃ a1 a2 a3, IsTupOf3 h TO a1 a2 a3) ∧ h.IsTupleIter i1 a i ∧ h.IsTupleIter i2 b i ∧ h.IsTupleIter i3 c i) where
  mem := by simp
  obj := fun i h st d hd => by
    obtain ⟨hz, hTI, ⟨x, y, u, hTO⟩, ⟨o1, e1, _, d1⟩, ⟨o2, e2, _, d2⟩, ⟨o3, e3, _, d3⟩⟩ := st
    have e' : d = z ∨ d = TI ∨ d = TO ∨ d = i1 ∨ d = i2 ∨ d = i3 := by simpa using hd
    rcases e' with q | q | q | q | q | q
    · rw [q]; exact ⟨_, hz, fun v q => nomatch q⟩
    · rw [q]; exact ⟨_, hTI, fun v q => nomatch q⟩
    · rw [q]; exact ⟨_, hTO, fun v q => nomatch q⟩
    · rw [q]; exact ⟨o1, e1, fun v q => by rw [d1] at q; cases q⟩
    · rw [q]; exact ⟨o2, e2, fun v q => by rw [d2] at q; cases q⟩
    · rw [q]; exact ⟨o3, e3, fun v q => by rw [d3] at q; cases q⟩
  keep := fun i h h' st k => by
    obtain ⟨hz, hTI, ⟨x, y, u, hTO⟩, h1, h2, h3⟩ := st
    exact ⟨k z (by simp) _ hz, k TI (by simp) _ hTI, ⟨x, y, u, k TO (by simp) _ hTO⟩, h1.at fun o q => k i1 (by simp) o q, h2.at fun o q => k i2 (by simp) o q, h3.at fun o q => k i3 (by simp) o q⟩
  item := by
    intro X hP hw hK hc i pins s σ H E I hf st hg
    subst hP hw hK
    obtain ⟨hz, hTI, hTO, h1, h2, h3⟩ := st
    obtain ⟨⟨qa, qb, qc⟩, hi⟩ := hg
    obtain ⟨ia, ra, pa, _⟩ := I.tuple qa
    obtain ⟨ib, rb, pb, _⟩ := I.tuple qb
    obtain ⟨ic, rc, pc, _⟩ := I.tuple qc
    have la : ia.toArray.size = l.length := by rw [List.size_toArray, ← ra.length, List.length_map]
    have lb : ib.toArray.size = l.length := by rw [List.size_toArray, ← rb.length, List.length_map]
    have lc : ic.toArray.size = l.length := by rw [List.size_toArray, ← rc.length, List.length_map]
    have hh : X.A.in1.handled = none := I.ok.hd hc
    have G := GoesN.zip3 (prog := X.prog) (w := X.w) (A := X.A) (elts := elts) (x1 := kk) (pos := tpos) S (Draws.tuple hh i1 a n1 ia.toArray) (Draws.tuple hh i2 b n2 ib.toArray) (Draws.tuple hh i3 c n3 ic.toArray)
    rw [la, lb, lc, Nat.min_self, Nat.min_self] at G
    obtain ⟨zz, hzz⟩ : ∃ y, l[i]? = some y := ⟨l[i], List.getElem?_eq_getElem hi⟩
    refine G.goes i s _ E hi ⟨hz, hTI, hTO, ⟨h1, pa⟩, ⟨h2, pb⟩, ⟨h3, pc⟩⟩ fun v h' tk hY st' kk' htk => ?_
    obtain ⟨T, x, y, u, rfl, hnew, hx, hy, hu, hT⟩ := hY
    obtain ⟨hz', hTI', hTO', ⟨h1', _⟩, ⟨h2', _⟩, ⟨h3', _⟩⟩ := st'
    have rx : RelV (p zz) x := by
      obtain ⟨x', e1, e2⟩ := ra.get (i := i) (x := p zz) (by rw [List.getElem?_map, hzz]; rfl)
      have : ia.toArray[i]? = some x := hx
      rw [List.getElem?_toArray, e1] at this
      cases this
      exact e2
    have ry : RelV (q zz) y := by
      obtain ⟨x', e1, e2⟩ := rb.get (i := i) (x := q zz) (by rw [List.getElem?_map, hzz]; rfl)
      have : ib.toArray[i]? = some y := hy
      rw [List.getElem?_toArray, e1] at this
      cases this
      exact e2
    have ru : RelV (r zz) u := by
      obtain ⟨x', e1, e2⟩ := rc.get (i := i) (x := r zz) (by rw [List.getElem?_map, hzz]; rfl)
      have : ic.toArray[i]? = some u := hu
      rw [List.getElem?_toArray, e1] at this
      cases this
      exact e2
    have new : ObjOk X.prog X.w (upd H T (.tup [p zz, q zz, r zz])) h' T (.tup [p zz, q zz, r zz]) :=
      ⟨by show 3 ≤ sizeLine; decide, [x, y, u], .cons rx (.cons ry (.cons ru .nil)), hT⟩
    have I1 : Inv X pins σ (upd H T (.tup [p zz, q zz, r zz])) { s with heap := h', toks := tk } :=
      I.turnedNew (t' := tk) (ch := [z, TI, TO, i1, i2, i3]) (fun d o hb q => kk' d o (fun m => hb (by
        simp only [List.mem_cons, List.not_mem_nil, or_false] at m ⊢
        rcases m with m | m | m | m | m <;> simp [m])) q) hf hnew new
    refine ⟨.ref T, _, I1, rfl, ⟨T, zz, rfl, hzz, I.hok.fresh hnew, rfl⟩, ⟨hz', hTI', hTO', h1', h2', h3'⟩, fun d hd => ?_⟩
    have hlt : d < s.heap.objs.size := by
      have e' : d = z ∨ d = TI ∨ d = TO ∨ d = i1 ∨ d = i2 ∨ d = i3 := by simpa using hd
      rcases e' with e | e | e | e | e | e
      · rw [e]; exact Heap.lt_size hz
      · rw [e]; exact Heap.lt_size hTI
      · rw [e]; obtain ⟨_, _, _, q⟩ := hTO; exact Heap.lt_size q
      · rw [e]; obtain ⟨_, e1, _⟩ := h1; exact Heap.lt_size e1
      · rw [e]; obtain ⟨_, e1, _⟩ := h2; exact Heap.lt_size e1
      · rw [e]; obtain ⟨_, e1, _⟩ := h3; exact Heap.lt_size e1
    rw [upd_ne (Nat.ne_of_lt (Nat.lt_of_lt_of_le hlt hnew))]
    exact (hf d hd).1
  done := by
    intro X hP hw hK hc i pins s σ H E I hf st hg
    subst hP hw hK
    obtain ⟨hz, hTI, hTO, h1, h2, h3⟩ := st
    obtain ⟨⟨qa, qb, qc⟩, hi⟩ := hg
    obtain ⟨ia, ra, pa, _⟩ := I.tuple qa
    obtain ⟨ib, rb, pb, _⟩ := I.tuple qb
    obtain ⟨ic, rc, pc, _⟩ := I.tuple qc
    have la : ia.toArray.size = l.length := by rw [List.size_toArray, ← ra.length, List.length_map]
    have lb : ib.toArray.size = l.length := by rw [List.size_toArray, ← rb.length, List.length_map]
    have lc : ic.toArray.size = l.length := by rw [List.size_toArray, ← rc.length, List.length_map]
    have hh : X.A.in1.handled = none := I.ok.hd hc
    have G := GoesN.zip3 (prog := X.prog) (w := X.w) (A := X.A) (elts := elts) (x1 := kk) (pos := tpos) S (Draws.tuple hh i1 a n1 ia.toArray) (Draws.tuple hh i2 b n2 ib.toArray) (Draws.tuple hh i3 c n3 ic.toArray)
    rw [la, lb, lc, Nat.min_self, Nat.min_self] at G
    subst hi
    refine G.stops s (fun s1 => Inv X pins σ H s1) E ⟨hz, hTI, hTO, ⟨h1, pa⟩, ⟨h2, pb⟩, ⟨h3, pc⟩⟩ fun h' tk kk' htk => ?_
    exact I.turnedL (t' := tk) (ch := [z, TI, TO, i1, i2, i3]) (fun d o hb q => kk' d o (fun m => hb (by
        simp only [List.mem_cons, List.not_mem_nil, or_false] at m ⊢
        rcases m with m | m | m | m | m <;> simp [m])) q) hf
  self := fun A i s Q E st h => wpAny_pyIter_zip st.1 h
def iZip3 (K : PySem.W.Frag) (ta : TA) : TI := fun σ H R => ta σ H fun vs H1 => ∃ (a b c : Addr) (l : List (Int × Int × Int)), vs = [.ref a, .ref b, .ref c] ∧ H1 a = some (.tup (l.map fun z => .int z.1)) ∧ H1 b = some (.tup (l.map fun z => .int z.2.1)) ∧ H1 c = some (.tup (l.map fun z => .int z.2.2)) ∧
  ∀ J, Wk Ex J H1 l (fun z x H => ∃ t, x = .ref t ∧ H t = some (.tup [.int z.1, .int z.2.1, .int z.2.2])) → R J H1
theorem pi_zip3 {X : Cx} {e e2 e3 : Expr} {ta : TA} {p pos tpos : Pos} {elts : List Expr} {kk : Nat} (hg : Gl X "zip") (hm : X.mg "zip" = none) (ha : PA X [e, e2, e3] ta)
    (hs : starEach [e, e2, e3] X.env = (false, eval e X.env) :: starEach [e2, e3] X.env := by rfl) (hpl : (backTo pos (starEach [e2, e3] X.env)).any (·.1) = false := by rfl) :
    PI X (.Tuple elts kk tpos) (.Call (.Name "zip" p) [e, e2, e3] [] pos) (iZip3 X.K ta) := by
  refine ⟨fun pins s σ H R I h => ?_⟩
  refine Call_ (ld_blt I hg hm PyProof.Rows.boot_zip (PyProof.Rows.callWith_type1 (thn (ha.run pos pins s σ H _ I h) fun us s1 ⟨vs, H1, I1, r1, q1⟩ => ?_) hs hpl))
  obtain ⟨a, b, c, l, ex, hA, hB, hC, q1⟩ := q1
  subst ex
  cases r1 with
  | cons r rr =>
  cases rr with
  | cons r' rr =>
  cases rr with
  | cons r'' rr =>
  cases rr
  cases r
  cases r'
  cases r''
  obtain ⟨ia, ra, pa, _⟩ := I1.tuple (SqT.of hA)
  obtain ⟨ib, rb, pb, _⟩ := I1.tuple (SqT.of hB)
  obtain ⟨ic, rc, pc, _⟩ := I1.tuple (SqT.of hC)
  obtain ⟨oa, hoa, _⟩ := id pa
  obtain ⟨ob, hob, _⟩ := id pb
  obtain ⟨oc, hoc, _⟩ := id pc
  have la := Heap.lt_size hoa
  have lb := Heap.lt_size hob
  have lc := Heap.lt_size hoc
  refine zip_begins3 (begins_tuple a ia.toArray) (begins_tuple b ib.toArray) (begins_tuple c ic.toArray) (show s1.heap.IsTuple a ia.toArray from pa) (show s1.heap.IsTuple b ib.toArray from pb) (show s1.heap.IsTuple c ic.toArray from pc) fun h' hz hTI hTO g1 g2 g3 hsz hk => wpAny_pyIter_zip hz ?_
  have I2 : Inv X pins σ H1 { s1 with heap := h' } := I1.kept (t' := s1.toks) hk
  have one : ∀ (y : Addr) (N : Nat), y < N → ∀ d ∈ [y], d < N := fun y N h d hd => by rw [List.mem_singleton.mp hd]; exact h
  refine ⟨s1.heap.objs.size + 5, [s1.heap.objs.size + 5, s1.heap.objs.size + 3, s1.heap.objs.size + 4, s1.heap.objs.size, s1.heap.objs.size + 1, s1.heap.objs.size + 2], _, Itz3 X.K a b c l (fun z => .int z.1) (fun z => .int z.2.1) (fun z => .int z.2.2), H1, rfl, I2,
    turn_zip3 (zip_sep3 (one a _ la) (one b _ lb) (one c _ lc)) (Nat.ne_of_lt la) (Nat.ne_of_lt (Nat.lt_succ_of_lt lb)) (Nat.ne_of_lt (Nat.lt_succ_of_lt (Nat.lt_succ_of_lt lc))), ⟨hz, hTI, ⟨_, _, _, hTO⟩, ⟨_, g1, rfl, rfl⟩, ⟨_, g2, rfl, rfl⟩, ⟨_, g3, rfl, rfl⟩⟩, fun d hd => ?_, q1 _ ?_⟩
  · have e' : d = s1.heap.objs.size + 5 ∨ d = s1.heap.objs.size + 3 ∨ d = s1.heap.objs.size + 4 ∨ d = s1.heap.objs.size ∨ d = s1.heap.objs.size + 1 ∨ d = s1.heap.objs.size + 2 := by simpa using hd
    have hle : s1.heap.objs.size ≤ d := by
      rcases e' with e | e | e | e | e | e
      · rw [e]; exact Nat.le_add_right _ _
      · rw [e]; exact Nat.le_add_right _ _
      · rw [e]; exact Nat.le_add_right _ _
      · rw [e]; exact Nat.le_refl _
      · rw [e]; exact Nat.le_add_right _ _
      · rw [e]; exact Nat.le_add_right _ _
    exact I1.fpOk hle (I1.hok.fresh hle)
  · exact {
      go := fun i H e hi => ⟨⟨SqT.of (e.tup hA), SqT.of (e.tup hB), SqT.of (e.tup hC)⟩, hi⟩
      yld := fun i H x H' z e hy hz => by
        obtain ⟨T, z', rfl, hz', hn, rfl⟩ := hy
        rw [hz] at hz'
        cases hz'
        exact ⟨.new hn, T, rfl, upd_same⟩
      stop := fun H e => ⟨⟨SqT.of (e.tup hA), SqT.of (e.tup hB), SqT.of (e.tup hC)⟩, rfl⟩ }
/-- a target of three names, no test -/
theorem lcY3 {K : PySem.W.Frag} {α : Type} {J : It} {te : TE} {vs : List Nat} {k j i : Nat} {σ : L2.St} {H1 : Hp} {D : Addr} {Qd : Hp → Prop} (l : List α) (p q r : α → V) (R : α → V → Hp → Prop)
    (hD : H1 D = none) (w : Wk Ex J H1 l fun z x H => ∃ t, x = .ref t ∧ H t = some (.tup [p z, q z, r z])) (hl : l.length ≤ 3000) (Rt : ∀ z y A B, TK A B → R z y A → R z y B) (hw : ∀ x y u, wipe ((((wipe σ vs).set k (some x)).set j (some y)).set i (some u)) vs = wipe σ vs)
    (step : ∀ z H (Qk : V → Hp → Prop), z ∈ l → Ex H1 H → (∀ y H4, Ex H H4 → R z y H4 → Qk y H4) → te ((((wipe σ vs).set k (some (p z))).set j (some (q z))).set i (some (r z))) H Qk)
    (fin : ∀ H ys, Ex H1 H → H D = some (.lst ys) → Paired (fun z y => R z y H) l ys → Qd H) :
    ∃ W : Nat → Nat → Hp → Prop, (∃ m, W 0 m (upd H1 D (.lst []))) ∧ ∀ i' m H, W i' m H →
      (J.stop i' H ∧ Qd H) ∨ (J.go i' H ∧ ∃ Nx : Hp → Prop, (∀ H', Nx H' → ∃ m', m' < m ∧ W (i' + 1) m' H') ∧ ∀ x H', J.yld i' H x H' → gTup K 3 (gCons (gName k) (gCons (gName j) (gCons (gName i) gNil))) x (wipe σ vs) H' fun σ2 H2 => wipe σ2 vs = wipe σ vs ∧ tYes σ2 H2 fun b H3 =>
        if b = true then te σ2 H3 fun y H4 => ∃ acc, H4 D = some (.lst acc) ∧ acc.length < sizeLine ∧ Nx (upd H4 D (.lst (acc ++ [y]))) else Nx H3) :=
  lcE l (fun _ => true) R hD w hl Rt (fun z x H Qk Qs hz e hY k1 _ => by
    obtain ⟨t, rfl, ht⟩ := hY
    refine ⟨t, _, rfl, SqT.of ht, rfl, _, _, rfl, _, _, rfl, _, _, rfl, rfl, hw _ _ _, ?_⟩
    dsimp only [tYes]
    rw [if_pos rfl]
    exact step z H Qk hz e fun y H4 => k1 y H4 rfl) fun H ys e a b => fin H ys e a (by rw [List.filter_eq_self.mpr (fun _ _ => rfl)] at b; exact b)
end Hw
/-! what a drawn making maps to, plainly: it is a making -/
namespace Hw
open PySem PySem.Spec PyProof.Rows L2
def zipOr (a b : List Int) : List Int := (a.zip b).map fun p => Builtin.bitOr p.1 p.2
def zipAnd (a b : List Int) : List Int := (a.zip b).map fun p => Builtin.bitAnd p.1 p.2
abbrev Stp := List (List Int × List Int)
def stpM (sts : Stp) (one : List Int) (acc : List Int) : List Int := sts.foldl (fun acc s => if subM s.1 one = true then zipOr acc s.2 else acc) acc
def throughM (g one : List Int) : List Int := g.map fun x => one.getD x.toNat 0
def valM (n : Int) (sts : Stp) (way : Int) (given one : List Int) : List Int :=
  let f := stpM sts one (constM n 0)
  if way = 1 then zipOr f (throughM given one) else if way = 2 then zipOr f (throughM one given) else if way = 3 then zipOr f (zipAnd one given) else f
/-! ### looks at all maps -/
def c4 : List Int := [0, 1, 2, 3]
theorem or_maps {n : Int} (h : N12 n) : ((mapsM n).all fun a => (mapsM n).all fun b => (mapsM n).contains (zipOr a b)) = true := by
  rcases h with rfl | rfl <;> decide +kernel
theorem and_maps {n : Int} (h : N12 n) : ((mapsM n).all fun a => (mapsM n).all fun b => (mapsM n).contains (zipAnd a b)) = true := by
  rcases h with rfl | rfl <;> decide +kernel
theorem thr_maps {n : Int} (h : N12 n) : ((mapsM n).all fun a => (mapsM n).all fun b => (mapsM n).contains (throughM a b)) = true := by
  rcases h with rfl | rfl <;> decide +kernel
theorem zero_map {n : Int} (h : N12 n) : constM n 0 ∈ mapsM n := by
  rcases h with rfl | rfl <;> decide +kernel
theorem idx_maps {n : Int} (h : N12 n) : ((mapsM n).all fun g => (List.range (pw2 n).toNat).all fun x => (List.range (pw2 n).toNat).all fun y => !(sub x y) || sub (g.getD x 0) (g.getD y 0)) = true := by
  rcases h with rfl | rfl <;> decide +kernel
theorem tr4 : (c4.all fun a => c4.all fun b => c4.all fun c => !(sub a b) || !(sub b c) || sub a c) = true := by decide +kernel
theorem or4 : (c4.all fun a => c4.all fun a' => c4.all fun b => c4.all fun b' => !(sub a a') || !(sub b b') || sub (Builtin.bitOr a b) (Builtin.bitOr a' b')) = true := by decide +kernel
theorem and4 : (c4.all fun a => c4.all fun a' => c4.all fun b => c4.all fun b' => !(sub a a') || !(sub b b') || sub (Builtin.bitAnd a b) (Builtin.bitAnd a' b')) = true := by decide +kernel
theorem inc4 : (c4.all fun a => c4.all fun a' => c4.all fun b => !(sub a a') || sub a (Builtin.bitOr a' b)) = true := by decide +kernel
theorem map_r4 {n : Int} (h : N12 n) {m : List Int} (hm : m ∈ mapsM n) : ∀ x ∈ m, x ∈ c4 := fun x hx => by
  have q := (monI_parts ((mon_iff h m).mpr hm)).2.1 x hx
  have := pw2_rng h
  have : x = 0 ∨ x = 1 ∨ x = 2 ∨ x = 3 := by omega
  rcases this with e | e | e | e <;> rw [e] <;> decide
/-! ### by places -/
theorem subM_cons (a b : Int) (l m : List Int) : subM (a :: l) (b :: m) = (sub a b && subM l m) := rfl
theorem subM_tr : ∀ {a b c : List Int}, (∀ x ∈ a, x ∈ c4) → (∀ x ∈ b, x ∈ c4) → (∀ x ∈ c, x ∈ c4) → a.length = b.length → b.length = c.length → subM a b = true → subM b c = true → subM a c = true
  | [], _, _, _, _, _, _, _, _, _ => rfl
  | x :: a, [], _, _, _, _, h, _, _, _ => by cases h
  | x :: a, y :: b, [], _, _, _, _, h, _, _ => by cases h
  | x :: a, y :: b, z :: c, h1, h2, h3, l1, l2, s1, s2 => by
    rw [subM_cons, Bool.and_eq_true] at s1 s2 ⊢
    refine ⟨?_, subM_tr (fun x h => h1 x (List.mem_cons_of_mem _ h)) (fun x h => h2 x (List.mem_cons_of_mem _ h)) (fun x h => h3 x (List.mem_cons_of_mem _ h)) (Nat.succ.inj l1) (Nat.succ.inj l2) s1.2 s2.2⟩
    have q := List.all_eq_true.mp (List.all_eq_true.mp (List.all_eq_true.mp tr4 x (h1 x List.mem_cons_self)) y (h2 y List.mem_cons_self)) z (h3 z List.mem_cons_self)
    rw [s1.1, s2.1] at q
    exact q
theorem mono2 {op : Int → Int → Int} (ho : (c4.all fun a => c4.all fun a' => c4.all fun b => c4.all fun b' => !(sub a a') || !(sub b b') || sub (op a b) (op a' b')) = true) :
    ∀ {a a' b b' : List Int}, (∀ x ∈ a, x ∈ c4) → (∀ x ∈ a', x ∈ c4) → (∀ x ∈ b, x ∈ c4) → (∀ x ∈ b', x ∈ c4) → a.length = a'.length → b.length = b'.length → subM a a' = true → subM b b' = true →
      subM ((a.zip b).map fun p => op p.1 p.2) ((a'.zip b').map fun p => op p.1 p.2) = true
  | [], _, _, _, _, _, _, _, _, _, _, _ => rfl
  | x :: a, [], _, _, _, _, _, _, h, _, _, _ => by cases h
  | x :: a, x' :: a', [], _, _, _, _, _, _, _, _, _ => rfl
  | x :: a, x' :: a', y :: b, [], _, _, _, _, _, h, _, _ => by cases h
  | x :: a, x' :: a', y :: b, y' :: b', h1, h2, h3, h4, l1, l2, s1, s2 => by
    rw [subM_cons, Bool.and_eq_true] at s1 s2
    show subM (op x y :: (a.zip b).map _) (op x' y' :: (a'.zip b').map _) = true
    rw [subM_cons, Bool.and_eq_true]
    refine ⟨?_, mono2 ho (fun x h => h1 x (List.mem_cons_of_mem _ h)) (fun x h => h2 x (List.mem_cons_of_mem _ h)) (fun x h => h3 x (List.mem_cons_of_mem _ h)) (fun x h => h4 x (List.mem_cons_of_mem _ h)) (Nat.succ.inj l1) (Nat.succ.inj l2) s1.2 s2.2⟩
    have q := List.all_eq_true.mp (List.all_eq_true.mp (List.all_eq_true.mp (List.all_eq_true.mp ho x (h1 x List.mem_cons_self)) x' (h2 x' List.mem_cons_self)) y (h3 y List.mem_cons_self)) y' (h4 y' List.mem_cons_self)
    rw [s1.1, s2.1] at q
    exact q
theorem subM_inc : ∀ {a a' b : List Int}, (∀ x ∈ a, x ∈ c4) → (∀ x ∈ a', x ∈ c4) → (∀ x ∈ b, x ∈ c4) → a.length = a'.length → a'.length = b.length → subM a a' = true → subM a (zipOr a' b) = true
  | [], _, _, _, _, _, _, _, _ => rfl
  | x :: a, [], _, _, _, _, h, _, _ => by cases h
  | x :: a, x' :: a', [], _, _, _, _, h, _ => by cases h
  | x :: a, x' :: a', y :: b, h1, h2, h3, l1, l2, s1 => by
    rw [subM_cons, Bool.and_eq_true] at s1
    show subM (x :: a) (Builtin.bitOr x' y :: zipOr a' b) = true
    rw [subM_cons, Bool.and_eq_true]
    refine ⟨?_, subM_inc (fun x h => h1 x (List.mem_cons_of_mem _ h)) (fun x h => h2 x (List.mem_cons_of_mem _ h)) (fun x h => h3 x (List.mem_cons_of_mem _ h)) (Nat.succ.inj l1) (Nat.succ.inj l2) s1.2⟩
    have q := List.all_eq_true.mp (List.all_eq_true.mp (List.all_eq_true.mp inc4 x (h1 x List.mem_cons_self)) x' (h2 x' List.mem_cons_self)) y (h3 y List.mem_cons_self)
    rw [s1.1] at q
    exact q
theorem subM_get : ∀ {a b : List Int} (i : Nat), a.length = b.length → i < a.length → subM a b = true → sub (a.getD i 0) (b.getD i 0) = true
  | [], _, i, _, h, _ => by cases h
  | x :: a, [], i, h, _, _ => by cases h
  | x :: a, y :: b, 0, _, _, s => by
    rw [subM_cons, Bool.and_eq_true] at s
    exact s.1
  | x :: a, y :: b, i + 1, l, h, s => by
    rw [subM_cons, Bool.and_eq_true] at s
    exact subM_get i (Nat.succ.inj l) (Nat.lt_of_succ_lt_succ h) s.2
theorem subM_map {f g : Int → Int} : ∀ {l : List Int}, (∀ x ∈ l, sub (f x) (g x) = true) → subM (l.map f) (l.map g) = true
  | [], _ => rfl
  | x :: l, h => by
    rw [List.map_cons, List.map_cons, subM_cons, h x List.mem_cons_self, subM_map fun y hy => h y (List.mem_cons_of_mem _ hy)]
    rfl
theorem subM_map2 {f : Int → Int} : ∀ {a b : List Int}, a.length = b.length → (∀ i, i < a.length → sub (f (a.getD i 0)) (f (b.getD i 0)) = true) → subM (a.map f) (b.map f) = true
  | [], [], _, _ => rfl
  | [], _ :: _, h, _ => by cases h
  | _ :: _, [], h, _ => by cases h
  | x :: a, y :: b, l, h => by
    rw [List.map_cons, List.map_cons, subM_cons, Bool.and_eq_true]
    exact ⟨h 0 (Nat.zero_lt_succ _), subM_map2 (Nat.succ.inj l) fun i hi => h (i + 1) (Nat.succ_lt_succ hi)⟩
theorem subM_refl : ∀ {n : Int}, N12 n → ∀ m ∈ mapsM n, subM m m = true := by
  intro n h
  rcases h with rfl | rfl
  · exact List.all_eq_true.mp (by decide +kernel)
  · exact List.all_eq_true.mp (by decide +kernel)
section
variable {n : Int}
theorem or_mem (h : N12 n) {a b : List Int} (ha : a ∈ mapsM n) (hb : b ∈ mapsM n) : zipOr a b ∈ mapsM n := by
  simpa using List.all_eq_true.mp (List.all_eq_true.mp (or_maps h) a ha) b hb
theorem and_mem (h : N12 n) {a b : List Int} (ha : a ∈ mapsM n) (hb : b ∈ mapsM n) : zipAnd a b ∈ mapsM n := by
  simpa using List.all_eq_true.mp (List.all_eq_true.mp (and_maps h) a ha) b hb
theorem thr_mem (h : N12 n) {a b : List Int} (ha : a ∈ mapsM n) (hb : b ∈ mapsM n) : throughM a b ∈ mapsM n := by
  simpa using List.all_eq_true.mp (List.all_eq_true.mp (thr_maps h) a ha) b hb
theorem len_eq (h : N12 n) {a b : List Int} (ha : a ∈ mapsM n) (hb : b ∈ mapsM n) : a.length = b.length := by
  have h1 := map_rng h ha
  have h2 := map_rng h hb
  omega
def StOk (n : Int) (sts : Stp) : Prop := ∀ s ∈ sts, s.1 ∈ mapsM n ∧ s.2 ∈ mapsM n
theorem stp_mem (h : N12 n) {one : List Int} : ∀ {sts : Stp} {acc : List Int}, StOk n sts → acc ∈ mapsM n → stpM sts one acc ∈ mapsM n
  | [], acc, _, ha => ha
  | s :: r, acc, hs, ha => by
    refine stp_mem h (sts := r) (acc := if subM s.1 one = true then zipOr acc s.2 else acc) (fun x hx => hs x (List.mem_cons_of_mem _ hx)) ?_
    split
    · exact or_mem h ha (hs s List.mem_cons_self).2
    · exact ha
theorem stp_mono (h : N12 n) {one one' : List Int} (h1 : one ∈ mapsM n) (h1' : one' ∈ mapsM n) (s1 : subM one one' = true) : ∀ {sts : Stp} {acc acc' : List Int}, StOk n sts → acc ∈ mapsM n → acc' ∈ mapsM n → subM acc acc' = true → subM (stpM sts one acc) (stpM sts one' acc') = true
  | [], acc, acc', _, _, _, s => s
  | s :: r, acc, acc', hs, ha, ha', ss => by
    have q1 := (hs s List.mem_cons_self).1
    have q2 := (hs s List.mem_cons_self).2
    refine stp_mono h h1 h1' s1 (sts := r) (acc := if subM s.1 one = true then zipOr acc s.2 else acc) (acc' := if subM s.1 one' = true then zipOr acc' s.2 else acc') (fun x hx => hs x (List.mem_cons_of_mem _ hx)) ?_ ?_ ?_
    · split
      · exact or_mem h ha q2
      · exact ha
    · split
      · exact or_mem h ha' q2
      · exact ha'
    · by_cases c1 : subM s.1 one = true
      · have c2 : subM s.1 one' = true := subM_tr (map_r4 h q1) (map_r4 h h1) (map_r4 h h1') (len_eq h q1 h1) (len_eq h h1 h1') c1 s1
        rw [if_pos c1, if_pos c2]
        exact mono2 or4 (map_r4 h ha) (map_r4 h ha') (map_r4 h q2) (map_r4 h q2) (len_eq h ha ha') rfl ss (subM_refl h _ q2)
      · rw [if_neg c1]
        by_cases c2 : subM s.1 one' = true
        · rw [if_pos c2]
          exact subM_inc (map_r4 h ha) (map_r4 h ha') (map_r4 h q2) (len_eq h ha ha') (len_eq h ha' q2) ss
        · rw [if_neg c2]
          exact ss
theorem val_mem (h : N12 n) {sts : Stp} {way : Int} {given one : List Int} (hs : StOk n sts) (hg : given ∈ mapsM n) (h1 : one ∈ mapsM n) : valM n sts way given one ∈ mapsM n := by
  have hf := stp_mem (one := one) h hs (zero_map h)
  unfold valM
  dsimp only
  split
  · exact or_mem h hf (thr_mem h hg h1)
  · split
    · exact or_mem h hf (thr_mem h h1 hg)
    · split
      · exact or_mem h hf (and_mem h h1 hg)
      · exact hf
theorem thr_mono1 (h : N12 n) {g one one' : List Int} (hg : g ∈ mapsM n) (h1 : one ∈ mapsM n) (h1' : one' ∈ mapsM n) (s : subM one one' = true) : subM (throughM g one) (throughM g one') = true :=
  subM_map fun x hx => subM_get x.toNat (len_eq h h1 h1') (by
    have q := (monI_parts ((mon_iff h g).mpr hg)).2.1 x hx
    have := map_rng h h1
    omega) s
theorem thr_mono2 (h : N12 n) {g one one' : List Int} (hg : g ∈ mapsM n) (h1 : one ∈ mapsM n) (h1' : one' ∈ mapsM n) (s : subM one one' = true) : subM (throughM one g) (throughM one' g) = true := by
  refine subM_map2 (len_eq h h1 h1') fun i hi => ?_
  have hl := len_eq h h1 h1'
  have e : ∀ {m : List Int}, m ∈ mapsM n → i < m.length → 0 ≤ m.getD i 0 ∧ m.getD i 0 < pw2 n := fun {m} hm hi => by
    have q := (monI_parts ((mon_iff h m).mpr hm)).2.1 (m.getD i 0) (by rw [List.getD_eq_getElem?_getD, List.getElem?_eq_getElem hi]; exact List.getElem_mem hi)
    omega
  have e1 := e h1 hi
  have e2 := e h1' (by omega)
  have s2 := subM_get i hl hi s
  have q := List.all_eq_true.mp (List.all_eq_true.mp (List.all_eq_true.mp (idx_maps h) g hg) (one.getD i 0).toNat (List.mem_range.mpr (by omega))) (one'.getD i 0).toNat (List.mem_range.mpr (by omega))
  have c1 : (((one.getD i 0).toNat : Nat) : Int) = one.getD i 0 := Int.toNat_of_nonneg e1.1
  have c2 : (((one'.getD i 0).toNat : Nat) : Int) = one'.getD i 0 := Int.toNat_of_nonneg e2.1
  rw [c1, c2, s2] at q
  exact q
theorem val_mono (h : N12 n) {sts : Stp} {way : Int} {given one one' : List Int} (hs : StOk n sts) (hg : given ∈ mapsM n) (h1 : one ∈ mapsM n) (h1' : one' ∈ mapsM n) (s : subM one one' = true) : subM (valM n sts way given one) (valM n sts way given one') = true := by
  have hz := zero_map h
  have hf := stp_mem (one := one) h hs hz
  have hf' := stp_mem (one := one') h hs hz
  have hm := stp_mono h h1 h1' s hs hz hz (subM_refl h _ hz)
  have comb : ∀ {a b : List Int}, a ∈ mapsM n → b ∈ mapsM n → subM a b = true → subM (zipOr (stpM sts one (constM n 0)) a) (zipOr (stpM sts one' (constM n 0)) b) = true := fun ha hb sab =>
    mono2 or4 (map_r4 h hf) (map_r4 h hf') (map_r4 h ha) (map_r4 h hb) (len_eq h hf hf') (len_eq h ha hb) hm sab
  unfold valM
  dsimp only
  split
  · exact comb (thr_mem h hg h1) (thr_mem h hg h1') (thr_mono1 h hg h1 h1' s)
  · split
    · exact comb (thr_mem h h1 hg) (thr_mem h h1' hg) (thr_mono2 h hg h1 h1' s)
    · split
      · exact comb (and_mem h h1 hg) (and_mem h h1' hg) (mono2 and4 (map_r4 h h1) (map_r4 h h1') (map_r4 h hg) (map_r4 h hg) (len_eq h h1 h1') rfl s (subM_refl h _ hg))
      · exact hm
/-- the making of f over the maps L -/
def mkOf (L : List (List Int)) (f : List Int → List Int) : Mk := L.map fun m => (Ky.one m [], some ((f m).map V.int))
theorem valA_mk {f : List Int → List Int} {m : List Int} : ∀ {L : List (List Int)}, m ∈ L → valA (mkOf L f) m = f m
  | [], h => by cases h
  | x :: L, h => by
    unfold valA mkOf
    rw [List.map_cons, List.find?_cons]
    by_cases e : x = m
    · rw [e, decide_eq_true rfl]
      exact map_intOf _
    · rw [decide_eq_false fun z => e (one_inj z)]
      have h' : m ∈ L := (List.mem_cons.mp h).resolve_left (Ne.symm e)
      have ih := valA_mk (f := f) h'
      unfold valA mkOf at ih
      exact ih
theorem mk_right (h : N12 n) {L : List (List Int)} (hL : L.Perm (mapsM n)) {f : List Int → List Int} (h1 : ∀ m ∈ mapsM n, f m ∈ mapsM n) (h2 : ∀ a ∈ mapsM n, ∀ b ∈ mapsM n, subM a b = true → subM (f a) (f b) = true) : makB n (mkOf L f) = true := by
  have e1 : (mkOf L f).length = cntM n := by unfold mkOf; rw [List.length_map, hL.length_eq, maps_len h]
  unfold makB
  rw [decide_eq_true e1, Bool.true_and, Bool.and_eq_true, Bool.and_eq_true]
  refine ⟨?_, ?_, ?_⟩
  · rw [List.all_eq_true]
    intro a ha
    obtain ⟨m, hm, e⟩ := List.mem_map.mp ha
    rw [← e]
    exact (mon_iff h m).mpr (hL.mem_iff.mp hm)
  · rw [List.all_eq_true]
    intro a ha
    obtain ⟨m, hm, e⟩ := List.mem_map.mp ha
    rw [← e]
    exact (mon_iff h _).mpr (h1 m (hL.mem_iff.mp hm))
  · unfold upB
    rw [List.all_eq_true]
    intro p hp
    rw [List.mem_filter, mem_prs] at hp
    rw [valA_mk (hL.mem_iff.mpr hp.1.1), valA_mk (hL.mem_iff.mpr hp.1.2)]
    exact h2 _ hp.1.1 _ hp.1.2 hp.2
end
end Hw
/-! _law_stepped, _law_value -/
namespace Hw
open PySem PySem.Spec PyProof.Rows L2
def StepsAt (H : Hp) (st : Addr) (sts : Stp) : Prop := ∃ ys, H st = some (.lst ys) ∧ Paired (fun (z : List Int × List Int) y => ∃ t a b, y = V.ref t ∧ H t = some (.tup [.ref a, .ref b]) ∧ H a = some (.tup (z.1.map V.int)) ∧ H b = some (.tup (z.2.map V.int))) sts ys
theorem StepsAt.ex {H H' : Hp} {st : Addr} {sts : Stp} (h : StepsAt H st sts) (e : Ex H H') : StepsAt H' st sts := by
  obtain ⟨ys, h1, h2⟩ := h
  exact ⟨ys, e.lst h1, Paired.mapP h2 fun _ _ ⟨t, a, b, e1, e2, e3, e4⟩ => ⟨t, a, b, e1, e.tup e2, e.tup e3, e.tup e4⟩⟩
def planK (st g : Addr) (way : Int) : List (Key × V) := [(.inr "steps", .ref st), (.inr "way", .int way), (.inr "given", .ref g)]
def PlanAt (H : Hp) (pl : Addr) (sts : Stp) (way : Int) (given : List Int) : Prop := ∃ st g, H pl = some (.dK (planK st g way)) ∧ StepsAt H st sts ∧ H g = some (.tup (given.map V.int))
theorem PlanAt.ex {H H' : Hp} {pl : Addr} {sts : Stp} {way : Int} {given : List Int} (h : PlanAt H pl sts way given) (e : Ex H H') : PlanAt H' pl sts way given := by
  obtain ⟨st, g, h1, h2, h3⟩ := h
  exact ⟨st, g, e.dK h1, h2.ex e, e.tup h3⟩
theorem iteFc {c : Bool} {A B : Prop} (h : c = false) (b : B) : if c = true then A else B := by subst h; exact b
theorem iteTc {c : Bool} {A B : Prop} (h : c = true) (a : A) : if c = true then A else B := by subst h; exact a
theorem atI_int {xs : List Int} {i : Int} (h0 : 0 ≤ i) (h1 : i < xs.length) : atI (xs.map V.int) i = some (.int (xs.getD i.toNat 0)) := by
  obtain ⟨v, e1, e2⟩ := atI_get9 (xs := xs.map V.int) h0 (by rw [List.length_map]; exact h1)
  rw [e1, List.getD_eq_getElem?_getD]
  rw [List.getElem?_map] at e2
  cases h : xs[i.toNat]? with
  | none => rw [h] at e2; cases e2
  | some u =>
    rw [h] at e2
    rw [← e2]
    rfl
theorem zip_lenI {n : Int} (h : N12 n) {a b : List Int} (ha : a ∈ mapsM n) (hb : b ∈ mapsM n) : (a.zip b).length ≤ 4 := by
  rw [zip_len (len_eq h ha hb)]
  have := map_rng h ha
  have := pw2_rng h
  omega
section
variable {P : Program} {w : World} {K : PySem.W.Frag} {mg : Str → Option Value} {base : Heap} {C : Addr}
abbrev sStp : Stmt := topS 41
abbrev nStp : List Str := ["_law_steps", "_law_one", "_law_many_here", "_law_found", "_law_at", "_law_more", "_law_first", "_law_second"]
theorem scStp : FnScope nStp ["_law_steps", "_law_one", "_law_many_here"] (defScope sStp) := ⟨rfl, rfl, rfl, by decide +kernel, rfl, by decide +kernel, by decide +kernel⟩
def spStp : Sp := fun vs H Q _ => ∃ (st o : Addr) (n : Int) (sts : Stp) (one : List Int), vs = [.ref st, .ref o, .int (pw2 n)] ∧ N12 n ∧ StepsAt H st sts ∧ StOk n sts ∧ sts.length ≤ 5 ∧ one ∈ mapsM n ∧ H o = some (.tup (one.map V.int)) ∧
  ∀ H' p, Ex H H' → H' p = some (.tup ((stpM sts one (constM n 0)).map V.int)) → Q (.ref p) H'
theorem stp_app (sts : Stp) (s : List Int × List Int) (one acc : List Int) : stpM (sts ++ [s]) one acc = if subM s.1 one = true then zipOr (stpM sts one acc) s.2 else stpM sts one acc := by
  unfold stpM
  rw [List.foldl_append]
  rfl
set_option maxHeartbeats 8000000 in
theorem ok_stp {f : Addr} {fd : FuncData} {k : Nat} (F : Fun K "_law_stepped" "_law_stepped" sStp f fd) (Z : Free mg) (c1 : Ca P w K mg base CX0 k "_law_is_under" ["_law_one", "_law_other"] spMP) : FnOk P w K mg base CX0 (k + 1) f fd ["_law_steps", "_law_one", "_law_many_here"] spStp := by
  refine F.ok scStp (fun vs H Q E h => ?_) (fun cdv A outer s H vs Q E hr h => ?_)
  · obtain ⟨st, o, n, sts, one, rfl, _⟩ := h
    rfl
  · obtain ⟨st, o, n, sts, one, rfl, hn, ⟨ys, hys, hP⟩, hok, h5, hone, ho, q⟩ := h
    refine ⟨_, pss_cons (ps_set (i := 3) scStp.nd rfl (Or.inl rfl) (pe_op op_repT (pe_tup (pa_cons pe_int pa_nil)) (pv 2)))
      (pss_cons (ps_for PassesOwn.never rfl (pi_list (pv 0)) (pg_tup rfl (pgs_cons (pg_name (i := 4) scStp.nd rfl (Or.inl rfl)) (pgs_cons (pg_name (i := 5) scStp.nd rfl (Or.inl rfl)) pgs_nil)))
        (pss_one (ps_if (pt_val (pe_ca c1 hr (by rfl) pass0 (pa_cons (pv 4) (pa_cons (pv 1) pa_nil)))) (pss_one (ps_set (i := 3) scStp.nd rfl (Or.inl rfl) (pe_callTy call_tuple_of (by rfl) Z.tuple B.tuple (pa_cons (pe_lc (own := [("_law_first", 6), ("_law_second", 7)]) (g := gTup K 2 (gCons (gName 6) (gCons (gName 7) gNil))) (tt := tYes) rfl scStp.nd
            (RZ.pi_zipA (by rfl) Z.zip (pa_cons (pv 3) (pa_cons (pv 5) pa_nil))) (blkOk_by (N := nStp) (sc := defScope sStp) (by decide +kernel))
            (fun _ _ _ _ _ => pg_tup rfl (pgs_cons (pg_name (i := 6) scStp.nd rfl (Or.inl rfl)) (pgs_cons (pg_name (i := 7) scStp.nd rfl (Or.inl rfl)) pgs_nil))) (fun _ _ _ _ _ => pts_nil) (fun _ _ _ _ _ => pe_op op_or (pv 6) (pv 7))) pa_nil)))) pss_nil)))
      (pss_one (ps_ret (pv 3)))), ?_⟩
    obtain ⟨hp1, hp2⟩ := pw2_rng hn
    refine ⟨by show 1 ≤ sizeLine; decide, fun t ht => ⟨_, rfl, t, pw2 n, _, rfl, rfl, SqT.of upd_same, by simp, hp1, by omega, by show 1 ≤ 1000; decide, fun f0 hf0 => ?_⟩⟩
    have hl := Paired.length hP
    refine ⟨_, rfl, st, rfl, ⟨ys, SqL.of (((Ex.new ht).then_new hf0).lst hys)⟩, for_list (xs := ys) (fun i σ H1 => ∃ fA t4 t5, σ = [some (.ref st), some (.ref o), some (.int (pw2 n)), some (.ref fA), t4, t5, none, none] ∧ Ex H H1 ∧ H1 fA = some (.tup ((stpM (sts.take i) one (constM n 0)).map V.int)))
      ⟨f0, none, none, rfl, (Ex.new ht).then_new hf0, by rw [upd_same, List.take_zero]; show some (HO.tup _) = some (HO.tup ((constM n 0).map V.int)); rw [constM_map]⟩ (fun i σ H1 _ ⟨fA, t4, t5, _, e1, _⟩ => SqL.of (e1.lst hys)) ?_ ?_⟩
    · rintro i x σ H1 hx ⟨fA, t4, t5, rfl, e1, hfA⟩
      obtain ⟨z, hz, u, a, b, rfl, hu, ha, hb⟩ := paired_ri hP hx
      have hzo := hok z (List.mem_of_getElem? hz)
      have hokt : StOk n (sts.take i) := fun s hs => hok s (List.mem_of_mem_take hs)
      have hfm := stp_mem (one := one) hn hokt (zero_map hn)
      have ht1 : sts.take (i + 1) = sts.take i ++ [z] := by rw [List.take_add_one, hz]; rfl
      have l1 := map_rng hn hzo.1
      refine ⟨u, _, rfl, SqT.of (e1.tup hu), rfl, _, _, rfl, _, _, rfl, rfl, ?_⟩
      refine ⟨_, rfl, _, rfl, a, o, z.1, one, rfl, e1.tup ha, e1.tup ho, len_eq hn hzo.1 hone, by omega, fun H2 e2 => ⟨_, rfl, ?_⟩⟩
      have e12 := e1.trans e2
      cases hs : subM z.1 one with
      | false => exact iteF ⟨fA, _, _, rfl, e12, by rw [ht1, stp_app, hs, if_neg (by decide)]; exact e2.tup hfA⟩
      | true =>
        have hle := len_eq hn hfm hzo.2
        have za : H2 fA = some (.tup (((stpM (sts.take i) one (constM n 0)).zip z.2).map fun p => V.int p.1)) := by rw [zipV_fst hle]; exact e2.tup hfA
        have zb : H2 b = some (.tup (((stpM (sts.take i) one (constM n 0)).zip z.2).map fun p => V.int p.2)) := by rw [zipV_snd hle]; exact e12.tup hb
        refine iteT ⟨_, rfl, _, rfl, fA, b, _, _, rfl, .inr ⟨SqT.of za, SqT.of zb, fun D hD => ?_⟩⟩
        refine lcY2 ((stpM (sts.take i) one (constM n 0)).zip z.2) (fun p => V.int p.1) (fun p => V.int p.2) (fun z y _ => y = .int (Builtin.bitOr z.1 z.2)) hD (wk_zip (SqT.of za) (SqT.of zb)) (by have := zip_lenI hn hfm hzo.2; omega) (fun _ _ _ _ _ h => h) (fun _ _ => rfl) (fun z' H3 Qk hz' e3 k1 => ?_) fun H3 zs e3 hD3 hP3 => ?_
        · exact ⟨_, rfl, _, rfl, z'.1, z'.2, rfl, rfl, k1 _ _ (.refl _) rfl⟩
        · have ey : zs = (zipOr (stpM (sts.take i) one (constM n 0)) z.2).map V.int := by unfold zipOr; rw [paired_eq hP3, List.map_map]; rfl
          subst ey
          refine ⟨D, _, rfl, .inl ⟨SqL.of hD3, fun l hl => ⟨l, _, _, rfl, (e12.trans e3).then_new hl, ?_⟩⟩⟩
          rw [upd_same, ht1, stp_app, hs, if_pos rfl]
    · rintro σ H1 ⟨fA, t4, t5, rfl, e1, hfA⟩
      rw [← hl, List.take_length] at hfA
      exact ⟨_, rfl, q H1 fA e1 hfA⟩
/-! ### _law_value -/
abbrev sVal : Stmt := topS 42
abbrev nVal : List Str := ["_law_plan", "_law_one", "_law_many_here", "_law_found", "_law_way", "_law_given", "_law_first", "_law_good", "_law_second", "_law_third"]
theorem scVal : FnScope nVal ["_law_plan", "_law_one", "_law_many_here"] (defScope sVal) := ⟨rfl, rfl, rfl, by decide +kernel, rfl, by decide +kernel, by decide +kernel⟩
def spVal : Sp := fun vs H Q _ => ∃ (pl o : Addr) (n : Int) (sts : Stp) (way : Int) (given one : List Int), vs = [.ref pl, .ref o, .int (pw2 n)] ∧ N12 n ∧ PlanAt H pl sts way given ∧ StOk n sts ∧ sts.length ≤ 5 ∧ given ∈ mapsM n ∧ one ∈ mapsM n ∧ H o = some (.tup (one.map V.int)) ∧
  ∀ H' p, Ex H H' → H' p = some (.tup ((valM n sts way given one).map V.int)) → Q (.ref p) H'
set_option maxHeartbeats 16000000 in
theorem ok_val {f : Addr} {fd : FuncData} {k : Nat} (F : Fun K "_law_value" "_law_value" sVal f fd) (Z : Free mg) (c1 : Ca P w K mg base CX0 k "_law_stepped" ["_law_steps", "_law_one", "_law_many_here"] spStp) : FnOk P w K mg base CX0 (k + 1) f fd ["_law_plan", "_law_one", "_law_many_here"] spVal := by
  refine F.ok scVal (fun vs H Q E h => ?_) (fun cdv A outer s H vs Q E hr h => ?_)
  · obtain ⟨pl, o, n, sts, way, given, one, rfl, _⟩ := h
    rfl
  · obtain ⟨pl, o, n, sts, way, given, one, rfl, hn, ⟨st, g, hpl, hst, hg⟩, hok, h5, hgiven, hone, ho, q⟩ := h
    have hu : A.units + 3 + 16 * k + 200 < cLine := hr.un
    refine ⟨_, pss_cons (ps_asg (pe_tup (pa_cons (pe_ca c1 hr (by rfl) pass0 (pa_cons (pe_dget (by show A.units + 3 + _ < cLine; omega) (pv 0) pe_str (fun _ _ => rfl)) (pa_cons (pv 1) (pa_cons (pv 2) pa_nil)))) (pa_cons (pe_dget (by show A.units + 3 + _ < cLine; omega) (pv 0) pe_str (fun _ _ => rfl)) (pa_cons (pe_dget (by show A.units + 3 + _ < cLine; omega) (pv 0) pe_str (fun _ _ => rfl)) pa_nil))))
        (pg_tup rfl (pgs_cons (pg_name (i := 3) scVal.nd rfl (Or.inl rfl)) (pgs_cons (pg_name (i := 4) scVal.nd rfl (Or.inl rfl)) (pgs_cons (pg_name (i := 5) scVal.nd rfl (Or.inr rfl)) pgs_nil)))))
      (pss_cons (ps_if (pt_cmpR op_eq (pv 4) pe_int (nomark _)) (pss_one (ps_ret (pe_callTy call_tuple_of (by rfl) Z.tuple B.tuple (pa_cons (pe_lc (own := [("_law_first", 6), ("_law_good", 7)]) (g := gTup K 2 (gCons (gName 6) (gCons (gName 7) gNil))) (tt := tYes) rfl scVal.nd
            (RZ.pi_zipA (by rfl) Z.zip (pa_cons (pv 3) (pa_cons (pv 5) pa_nil))) (blkOk_by (N := nVal) (sc := defScope sVal) (by decide +kernel))
            (fun _ _ _ _ _ => pg_tup rfl (pgs_cons (pg_name (i := 6) scVal.nd rfl (Or.inl rfl)) (pgs_cons (pg_name (i := 7) scVal.nd rfl (Or.inl rfl)) pgs_nil))) (fun _ _ _ _ _ => pts_nil) (fun _ _ _ _ _ => pe_op op_or (pv 6) (pe_ix (ixTK K) (pv 1) (pv 7) (fun _ _ => rfl)))) pa_nil)))) pss_nil)
      (pss_cons (ps_if (pt_cmpR op_eq (pv 4) pe_int (nomark _)) (pss_one (ps_ret (pe_callTy call_tuple_of (by rfl) Z.tuple B.tuple (pa_cons (pe_lc (own := [("_law_first", 6), ("_law_good", 7)]) (g := gTup K 2 (gCons (gName 6) (gCons (gName 7) gNil))) (tt := tYes) rfl scVal.nd
            (RZ.pi_zipA (by rfl) Z.zip (pa_cons (pv 3) (pa_cons (pv 1) pa_nil))) (blkOk_by (N := nVal) (sc := defScope sVal) (by decide +kernel))
            (fun _ _ _ _ _ => pg_tup rfl (pgs_cons (pg_name (i := 6) scVal.nd rfl (Or.inl rfl)) (pgs_cons (pg_name (i := 7) scVal.nd rfl (Or.inl rfl)) pgs_nil))) (fun _ _ _ _ _ => pts_nil) (fun _ _ _ _ _ => pe_op op_or (pv 6) (pe_ix (ixTK K) (pv 5) (pv 7) (fun _ _ => rfl)))) pa_nil)))) pss_nil)
      (pss_cons (ps_if (pt_cmpR op_eq (pv 4) pe_int (nomark _)) (pss_one (ps_ret (pe_callTy call_tuple_of (by rfl) Z.tuple B.tuple (pa_cons (pe_lc (own := [("_law_first", 6), ("_law_second", 8), ("_law_third", 9)]) (g := gTup K 3 (gCons (gName 6) (gCons (gName 8) (gCons (gName 9) gNil)))) (tt := tYes) rfl scVal.nd
            (pi_zip3 (by rfl) Z.zip (pa_cons (pv 3) (pa_cons (pv 1) (pa_cons (pv 5) pa_nil)))) (blkOk_by (N := nVal) (sc := defScope sVal) (by decide +kernel))
            (fun _ _ _ _ _ => pg_tup rfl (pgs_cons (pg_name (i := 6) scVal.nd rfl (Or.inl rfl)) (pgs_cons (pg_name (i := 8) scVal.nd rfl (Or.inl rfl)) (pgs_cons (pg_name (i := 9) scVal.nd rfl (Or.inl rfl)) pgs_nil)))) (fun _ _ _ _ _ => pts_nil) (fun _ _ _ _ _ => pe_op op_or (pv 6) (pe_op op_and (pv 8) (pv 9)))) pa_nil)))) pss_nil)
      (pss_one (ps_ret (pv 3)))))), ?_⟩
    obtain ⟨hp1, hp2⟩ := pw2_rng hn
    have hfm := stp_mem (one := one) hn hok (zero_map hn)
    refine ⟨_, rfl, pl, _, rfl, DGet.k (k := Sum.inr "steps") hpl, _, rfl, _, rfl, st, o, n, sts, one, rfl, hn, hst, hok, h5, hone, ho, fun H1 f1 e1 hf1 => ?_⟩
    refine ⟨_, rfl, pl, _, rfl, DGet.k (k := Sum.inr "way") (e1.dK hpl), _, rfl, pl, _, rfl, DGet.k (k := Sum.inr "given") (e1.dK hpl), ?_⟩
    refine ⟨by show 3 ≤ sizeLine; decide, fun t ht => ⟨t, _, rfl, SqT.of upd_same, rfl, _, _, rfl, _, _, rfl, _, _, rfl, rfl, ?_⟩⟩
    have e2 := e1.then_new (o := .tup [.ref f1, .int way, .ref g]) ht
    have l1 := map_rng hn hfm
    have l2 := map_rng hn hone
    have l3 := map_rng hn hgiven
    have hf2 := (Ex.new (o := HO.tup [.ref f1, .int way, .ref g]) ht).tup hf1
    have rng : ∀ {a : List Int}, a ∈ mapsM n → ∀ x ∈ a, 0 ≤ x ∧ x ≤ pw2 n - 1 := fun ha => (monI_parts ((mon_iff hn _).mpr ha)).2.1
    generalize hH : upd H1 t (HO.tup [V.ref f1, V.int way, V.ref g]) = H2 at *
    by_cases w1 : way = 1
    · have qv : valM n sts way given one = zipOr (stpM sts one (constM n 0)) (throughM given one) := by unfold valM; rw [if_pos w1]
      rw [qv] at q
      have hle := len_eq hn hfm hgiven
      have za : H2 f1 = some (.tup (((stpM sts one (constM n 0)).zip given).map fun p => V.int p.1)) := by rw [zipV_fst hle]; exact hf2
      have zb : H2 g = some (.tup (((stpM sts one (constM n 0)).zip given).map fun p => V.int p.2)) := by rw [zipV_snd hle]; exact e2.tup hg
      refine ⟨_, rfl, rfl, _, rfl, iteTc (by simp [w1]) ?_⟩
      refine ⟨_, rfl, _, rfl, f1, g, _, _, rfl, .inr ⟨SqT.of za, SqT.of zb, fun D hD => ?_⟩⟩
      refine lcY2 ((stpM sts one (constM n 0)).zip given) (fun p => V.int p.1) (fun p => V.int p.2) (fun z y _ => y = .int (Builtin.bitOr z.1 (one.getD z.2.toNat 0))) hD (wk_zip (SqT.of za) (SqT.of zb)) (by have := zip_lenI hn hfm hgiven; omega) (fun _ _ _ _ _ h => h) (fun _ _ => rfl) (fun z' H3 Qk hz' e3 k1 => ?_) fun H3 zs e3 hD3 hP3 => ?_
      · have hr2 := rng hgiven _ (List.of_mem_zip hz').2
        refine ⟨_, rfl, _, rfl, _, rfl, o, _, z'.2, _, rfl, rfl, SqT.of ((e2.trans e3).tup ho), atI_int hr2.1 (by omega), _, _, rfl, rfl, k1 _ _ (.refl _) rfl⟩
      · have ey : zs = (zipOr (stpM sts one (constM n 0)) (throughM given one)).map V.int := by
          rw [paired_eq hP3]
          unfold zipOr throughM
          rw [List.zip_map_right, List.map_map, List.map_map]
          rfl
        subst ey
        refine ⟨D, _, rfl, .inl ⟨SqL.of hD3, fun l hl => q _ l ((e2.trans e3).then_new hl) upd_same⟩⟩
    refine ⟨_, rfl, rfl, _, rfl, iteFc (by simp [w1]) ?_⟩
    by_cases w2 : way = 2
    · have qv : valM n sts way given one = zipOr (stpM sts one (constM n 0)) (throughM one given) := by unfold valM; rw [if_neg w1, if_pos w2]
      rw [qv] at q
      have hle := len_eq hn hfm hone
      have za : H2 f1 = some (.tup (((stpM sts one (constM n 0)).zip one).map fun p => V.int p.1)) := by rw [zipV_fst hle]; exact hf2
      have zb : H2 o = some (.tup (((stpM sts one (constM n 0)).zip one).map fun p => V.int p.2)) := by rw [zipV_snd hle]; exact e2.tup ho
      refine ⟨_, rfl, rfl, _, rfl, iteTc (by simp [w2]) ?_⟩
      refine ⟨_, rfl, _, rfl, f1, o, _, _, rfl, .inr ⟨SqT.of za, SqT.of zb, fun D hD => ?_⟩⟩
      refine lcY2 ((stpM sts one (constM n 0)).zip one) (fun p => V.int p.1) (fun p => V.int p.2) (fun z y _ => y = .int (Builtin.bitOr z.1 (given.getD z.2.toNat 0))) hD (wk_zip (SqT.of za) (SqT.of zb)) (by have := zip_lenI hn hfm hone; omega) (fun _ _ _ _ _ h => h) (fun _ _ => rfl) (fun z' H3 Qk hz' e3 k1 => ?_) fun H3 zs e3 hD3 hP3 => ?_
      · have hr2 := rng hone _ (List.of_mem_zip hz').2
        refine ⟨_, rfl, _, rfl, _, rfl, g, _, z'.2, _, rfl, rfl, SqT.of ((e2.trans e3).tup hg), atI_int hr2.1 (by omega), _, _, rfl, rfl, k1 _ _ (.refl _) rfl⟩
      · have ey : zs = (zipOr (stpM sts one (constM n 0)) (throughM one given)).map V.int := by
          rw [paired_eq hP3]
          unfold zipOr throughM
          rw [List.zip_map_right, List.map_map, List.map_map]
          rfl
        subst ey
        refine ⟨D, _, rfl, .inl ⟨SqL.of hD3, fun l hl => q _ l ((e2.trans e3).then_new hl) upd_same⟩⟩
    refine ⟨_, rfl, rfl, _, rfl, iteFc (by simp [w2]) ?_⟩
    by_cases w3 : way = 3
    · have qv : valM n sts way given one = zipOr (stpM sts one (constM n 0)) (zipAnd one given) := by unfold valM; rw [if_neg w1, if_neg w2, if_pos w3]
      rw [qv] at q
      have hle := len_eq hn hone hgiven
      have hle2 := len_eq hn hfm hone
      have hzl : (one.zip given).length = one.length := by rw [List.length_zip]; omega
      let L3 := (stpM sts one (constM n 0)).zip (one.zip given)
      have hL : L3.length = one.length := by show (List.zip _ _).length = _; rw [List.length_zip]; omega
      have za : H2 f1 = some (.tup (L3.map fun p => V.int p.1)) := by
        have : (L3.map fun p => V.int p.1) = (stpM sts one (constM n 0)).map V.int := by
          rw [show (fun p : Int × Int × Int => V.int p.1) = V.int ∘ Prod.fst from rfl, ← List.map_map, List.map_fst_zip (by omega)]
        rw [this]; exact hf2
      have zb : H2 o = some (.tup (L3.map fun p => V.int p.2.1)) := by
        have : (L3.map fun p => V.int p.2.1) = one.map V.int := by
          rw [show (fun p : Int × Int × Int => V.int p.2.1) = V.int ∘ Prod.fst ∘ Prod.snd from rfl, ← List.map_map, ← List.map_map, List.map_snd_zip (by omega), List.map_fst_zip (by omega)]
        rw [this]; exact e2.tup ho
      have zc : H2 g = some (.tup (L3.map fun p => V.int p.2.2)) := by
        have : (L3.map fun p => V.int p.2.2) = given.map V.int := by
          rw [show (fun p : Int × Int × Int => V.int p.2.2) = V.int ∘ Prod.snd ∘ Prod.snd from rfl, ← List.map_map, ← List.map_map, List.map_snd_zip (by omega), List.map_snd_zip (by omega)]
        rw [this]; exact e2.tup hg
      refine ⟨_, rfl, rfl, _, rfl, iteTc (by simp [w3]) ?_⟩
      refine ⟨_, rfl, _, rfl, _, rfl, f1, o, g, L3, rfl, za, zb, zc, fun J wJ D hD => ?_⟩
      refine lcY3 (K := K) L3 (fun p => V.int p.1) (fun p => V.int p.2.1) (fun p => V.int p.2.2) (fun z y _ => y = .int (Builtin.bitOr z.1 (Builtin.bitAnd z.2.1 z.2.2))) hD wJ (by omega) (fun _ _ _ _ _ h => h) (fun _ _ _ => rfl) (fun z' H3 Qk hz' e3 k1 => ?_) fun H3 zs e3 hD3 hP3 => ?_
      · exact ⟨_, rfl, _, rfl, _, rfl, _, _, rfl, rfl, _, _, rfl, rfl, k1 _ _ (.refl _) rfl⟩
      · have ey : zs = (zipOr (stpM sts one (constM n 0)) (zipAnd one given)).map V.int := by
          rw [paired_eq hP3]
          unfold zipOr zipAnd
          rw [List.zip_map_right, List.map_map, List.map_map]
          rfl
        subst ey
        refine ⟨D, _, rfl, .inl ⟨SqL.of hD3, fun l hl => q _ l ((e2.trans e3).then_new hl) upd_same⟩⟩
    refine ⟨_, rfl, rfl, _, rfl, iteFc (by simp [w3]) ?_⟩
    have qv : valM n sts way given one = stpM sts one (constM n 0) := by unfold valM; rw [if_neg w1, if_neg w2, if_neg w3]
    rw [qv] at q
    exact ⟨_, rfl, q _ f1 e2 hf2⟩
end
end Hw
/-! _law_drawn_making -/
namespace Hw
open PySem PySem.Spec PyProof.Rows L2
/-- rising maps of the maps -/
structure Good (n : Int) (f : List Int → List Int) : Prop where
  mem : ∀ m ∈ mapsM n, f m ∈ mapsM n
  mono : ∀ a ∈ mapsM n, ∀ b ∈ mapsM n, subM a b = true → subM (f a) (f b) = true
theorem StepsAt.exJ {H H' : Hp} {j st : Addr} {sts : Stp} (h : StepsAt H st sts) (e : ExJ j H H') (n : st ≠ j) : StepsAt H' st sts := by
  obtain ⟨ys, h1, h2⟩ := h
  exact ⟨ys, e.lst n h1, Paired.mapP h2 fun _ _ ⟨t, a, b, e1, e2, e3, e4⟩ => ⟨t, a, b, e1, e.tup e2, e.tup e3, e.tup e4⟩⟩
theorem ExJ.dK {H H' : Hp} {j a : Addr} {kvs : List (Key × V)} (e : ExJ j H H') (m : a ≠ j) (h : H a = some (.dK kvs)) : H' a = some (.dK kvs) := e.at_ _ _ m h fun _ z => by cases z
theorem noCode_dK {H1 : Hp} {p : Addr} {kvs : List (Key × V)} (h : H1 p = some (.dK kvs)) : ∀ q, H1 p ≠ some (LamX.CodeO p q) := fun q z => by rw [h] at z; cases z
def RowK (m fm : List Int) (y : V) (H : Hp) : Prop := ∃ t a b, y = .ref t ∧ H t = some (.tup [.ref a, .ref b]) ∧ KyAt H (.one m []) a ∧ H b = some (.tup (fm.map V.int))
theorem RowK.tk {m fm : List Int} {y : V} {A B : Hp} (h : TK A B) (x : RowK m fm y A) : RowK m fm y B := by
  obtain ⟨t, a, b, e, h1, h2, h3⟩ := x
  exact ⟨t, a, b, e, h _ _ h1, h2.tk h, h _ _ h3⟩
theorem rows_ks {K : PySem.W.Frag} {H : Hp} {f : List Int → List Int} : ∀ {L : List (List Int)} {ys : List V}, Paired (fun m y => RowK m (f m) y H) L ys → ∃ ks : List (Ky × Addr × V),
    Paired (fun (k : Ky × Addr × V) y => ∃ t, y = .ref t ∧ H t = some (.tup [.ref k.2.1, k.2.2])) ks ys ∧ ks.map (·.1) = L.map (fun m => Ky.one m []) ∧ (∀ k ∈ ks, KyAt H k.1 k.2.1) ∧ MkAt K H (mkOf L f) ks
  | _, _, .nil => ⟨[], .nil, rfl, (fun _ z => by cases z), .nil⟩
  | m :: L, y :: ys, .cons r t => by
    obtain ⟨ks, h1, h2, h3, h4⟩ := rows_ks (K := K) t
    obtain ⟨u, a, b, e, e1, e2, e3⟩ := r
    refine ⟨(.one m [], a, .ref b) :: ks, .cons ⟨u, e, e1⟩ h1, by rw [List.map_cons, List.map_cons, h2], fun k hk => ?_, .cons ⟨rfl, .tup e3 fun x hx => ?_⟩ h4⟩
    · rcases List.mem_cons.mp hk with rfl | hk
      · exact e2
      · exact h3 k hk
    · obtain ⟨i, _, rfl⟩ := List.mem_map.mp hx
      exact ⟨_, .int i⟩
section
variable {P : Program} {w : World} {K : PySem.W.Frag} {mg : Str → Option Value} {base : Heap} {C : Addr}
abbrev sDM : Stmt := topS 43
abbrev nDM : List Str := ["_law_jar_here", "_law_modes", "_law_listed", "_law_steps", "_law_turn", "_law_plan", "_law_some", "_law_one"]
theorem scDM : FnScope nDM ["_law_jar_here", "_law_modes", "_law_listed"] (defScope sDM) := ⟨rfl, rfl, rfl, by decide +kernel, rfl, by decide +kernel, by decide +kernel⟩
def spDM (w : World) (K : PySem.W.Frag) : Sp := fun vs H Q _ => ∃ (j l : Addr) (n : Int) (L : List (List Int)), vs = [.ref j, .int n, .ref l] ∧ N12 n ∧ JarAt H j ∧ l ≠ j ∧ ListedAt H l n L ∧
  ∀ H' d ks L' f, ExJ j H H' → JarAt H' j → d ≠ j → L'.Perm (mapsM n) → Good n f → DN w H' d ks → MkAt K H' (mkOf L' f) ks → Q (.ref d) H'
theorem ok_DM {f : Addr} {fd : FuncData} {k : Nat} (F : Fun K "_law_drawn_making" "_law_drawn_making" sDM f fd) (Z : Free mg) (c1 : Ca P w K mg base CX0 k "_law_scoop" ["_law_jar_here", "_law_size"] spScoop) (c2 : Ca P w K mg base CX0 k "_law_rising" ["_law_jar_here", "_law_modes"] spRising)
    (c3 : Ca P w K mg base CX0 k "_law_shuffled" ["_law_jar_here", "_law_items"] spShuf) (c4 : Ca P w K mg base CX0 k "_law_value" ["_law_plan", "_law_one", "_law_many_here"] spVal) (c5 : Ca P w K mg base CX0 k "_law_many" ["_law_modes"] spMany) :
    FnOk P w K mg base CX0 (k + 1) f fd ["_law_jar_here", "_law_modes", "_law_listed"] (spDM w K) := by
  refine F.ok scDM (fun vs H Q E h => ?_) (fun cdv A outer s H vs Q E hr h => ?_)
  · obtain ⟨j, l, n, L, rfl, _⟩ := h
    rfl
  · obtain ⟨j, l, n, L, rfl, hn, hj, hlj, ⟨ys0, hl, hLP, hL⟩, q⟩ := h
    have hu : A.units + 3 + 16 * k + 200 < cLine := hr.un
    refine ⟨_, pss_cons (ps_set (i := 3) scDM.nd rfl (Or.inl rfl) (pe_lst pa_nil))
      (pss_cons (ps_for PassesOwn.never rfl (pi_range1 (by rfl) Z.range (pa_cons (pe_ca c1 hr (by rfl) pass0 (pa_cons (pv 0) (pa_cons pe_int pa_nil))) pa_nil)) (pg_name (i := 4) scDM.nd rfl (Or.inl rfl))
        (pss_one (ps_expr (pe_bm PySem.F.plainAttrs_list PySem.F.slot_list_append PySem.F.type_list_append mt_append (pv 3) (pa_cons (pe_tup (pa_cons (pe_ca c2 hr (by rfl) pass0 (pa_cons (pv 0) (pa_cons (pv 1) pa_nil))) (pa_cons (pe_ca c2 hr (by rfl) pass0 (pa_cons (pv 0) (pa_cons (pv 1) pa_nil))) pa_nil))) pa_nil)))))
      (pss_cons (ps_set (i := 5) scDM.nd rfl (Or.inr rfl) (pe_disp (pps_cons pe_str (pv 3) (pps_cons pe_str (pe_ca c1 hr (by rfl) pass0 (pa_cons (pv 0) (pa_cons pe_int pa_nil))) (pps_cons pe_str (pe_ca c2 hr (by rfl) pass0 (pa_cons (pv 0) (pa_cons (pv 1) pa_nil))) pps_nil))) rfl rfl (by decide) (by decide)))
      (pss_cons (ps_set (i := 6) scDM.nd rfl (Or.inl rfl) (pe_ca c3 hr (by rfl) pass0 (pa_cons (pv 0) (pa_cons (pv 2) pa_nil))))
      (pss_one (ps_ret (pe_callTy (cr_dictOf rfl (by show A.units + 3 + _ < cLine; omega)) (by rfl) Z.dict B.dict (pa_cons (pe_lc (own := [("_law_one", 7)]) (g := gName 7) (tt := tYes) rfl scDM.nd (pi_list (pv 6)) (blkOk_by (N := nDM) (sc := defScope sDM) (by decide +kernel))
          (fun _ _ _ _ _ => pg_name (i := 7) scDM.nd rfl (Or.inl rfl)) (fun _ _ _ _ _ => pts_nil)
          (fun _ _ _ _ _ => pe_tup (pa_cons (pe_tup (pa_cons (pv 7) pa_nil)) (pa_cons (pe_ca c4 hr (by rfl) pass0 (pa_cons (pv 5) (pa_cons (pv 7) (pa_cons (pe_ca c5 hr (by rfl) pass0 (pa_cons (pv 1) pa_nil)) pa_nil)))) pa_nil)))) pa_nil))))))), ?_⟩
    refine ⟨by show 0 ≤ sizeLine; decide, fun S hS => ?_⟩
    have hjS := hj.ne hS
    have hlS := ne_of_none hl hS
    refine ⟨_, rfl, j, 5, rfl, by decide, by decide, hj.upd hjS, fun H1 r e1 hj1 r0 r1 => ⟨r, rfl, by omega, by omega, ?_⟩⟩
    have e01 : ExJ j H H1 := (Ex.new hS).toJ.trans e1
    refine for_range (lo := 0) (n := r.toNat) (fun i σ H1 => ∃ t4 sts, σ = [some (.ref j), some (.int n), some (.ref l), some (.ref S), t4, none, none, none] ∧ ExJ j H H1 ∧ JarAt H1 j ∧ StepsAt H1 S sts ∧ StOk n sts ∧ sts.length = i)
      ⟨none, [], rfl, e01, hj1, ⟨[], e1.lst (Ne.symm hjS) upd_same, .nil⟩, (fun _ z => by cases z), rfl⟩ ?_ ?_
    · rintro i σ H1 hi ⟨t4, sts, rfl, e1, hj1, ⟨ys, hys, hP⟩, hok, hl⟩
      refine ⟨_, rfl, .inl ⟨rfl, _, SqL.of hys⟩, _, rfl, _, rfl, j, n, rfl, hn, hj1, fun H2 a m1 e2 hj2 hm1 ha => ⟨_, rfl, _, rfl, j, n, rfl, hn, hj2, fun H3 b m2 e3 hj3 hm2 hb => ⟨by show 2 ≤ sizeLine; decide, fun t ht => ?_⟩⟩⟩
      have e23 := e2.trans e3
      have e24 : ExJ j H1 (upd H3 t (.tup [.ref a, .ref b])) := e23.trans (Ex.new ht).toJ
      have hys4 := e24.lst (Ne.symm hjS) hys
      have hly : ys.length = i := by rw [← Paired.length hP, hl]
      refine ⟨S, ys, .ref t, rfl, rfl, hys4, Nat.lt_of_le_of_lt (show ys.length ≤ 3000 by omega) (by decide), ?_⟩
      have e5 : ExJ j H (upd (upd H3 t (.tup [.ref a, .ref b])) S (.lst (ys ++ [.ref t]))) := (e1.trans e24).put (.of hS) (noCode_lst hys4)
      have tk4 : TK (upd H3 t (.tup [.ref a, .ref b])) (upd (upd H3 t (.tup [.ref a, .ref b])) S (.lst (ys ++ [.ref t]))) := .lst hys4
      refine ⟨_, sts ++ [(m1, m2)], rfl, e5, (hj3.upd (hj3.ne ht)).upd hjS, ⟨ys ++ [.ref t], upd_same, ?_⟩, fun s hs => ?_, by rw [List.length_append, hl]; rfl⟩
      · exact paired_snoc (Paired.mapP hP fun _ _ ⟨t, a, b, q1, q2, q3, q4⟩ => ⟨t, a, b, q1, tk4 _ _ (e24.tup q2), tk4 _ _ (e24.tup q3), tk4 _ _ (e24.tup q4)⟩)
          ⟨t, a, b, rfl, tk4 _ _ upd_same, tk4 _ _ ((Ex.new ht).tup (e3.tup ha)), tk4 _ _ ((Ex.new ht).tup hb)⟩
      · rcases List.mem_append.mp hs with h | h
        · exact hok s h
        · rw [List.mem_singleton.mp h]
          exact ⟨hm1, hm2⟩
    · rintro σ H1 ⟨t4, sts, rfl, e1, hj1, hst, hok, hls⟩
      intro p hp
      have hjp := hj1.ne hp
      have hS1 : ∃ ys, H1 S = some (.lst ys) := ⟨_, hst.choose_spec.1⟩
      obtain ⟨ysS, hysS⟩ := hS1
      have e1p : ExJ j H (upd H1 p (.dK [])) := e1.trans (Ex.new hp).toJ
      refine ⟨_, rfl, _, rfl, j, 4, rfl, by decide, by decide, hj1.upd hjp, fun H2 way e2 hj2 w0 w1 => ⟨_, rfl, _, rfl, j, n, rfl, hn, hj2, fun H3 g given e3 hj3 hgm hg => ?_⟩⟩
      have e23 := e2.trans e3
      have hp3 : H3 p = some (.dK []) := e23.dK (Ne.symm hjp) upd_same
      have hpS : S ≠ p := ne_of_none hysS hp
      refine ⟨hp3, planK S g way, rfl, by show 3 ≤ 15; decide, ?_⟩
      rw [show mergeK [] (planK S g way) = planK S g way by rfl]
      generalize hH4 : upd H3 p (.dK (planK S g way)) = H4
      have e14 : ExJ j H1 H4 := by rw [← hH4]; exact ((Ex.new hp).toJ.trans e23).put (.of hp) (noCode_dK hp3)
      have hj4 : JarAt H4 j := by rw [← hH4]; exact hj3.upd hjp
      have hst4 : StepsAt H4 S sts := hst.exJ e14 (Ne.symm hjS)
      have hp4 : H4 p = some (.dK (planK S g way)) := by rw [← hH4]; exact upd_same
      have hg4 : H4 g = some (.tup (given.map V.int)) := by rw [← hH4, upd_ne (fun z => by rw [z, hp3] at hg; cases hg)]; exact hg
      have hpj : p ≠ j := Ne.symm hjp
      have e04 : ExJ j H H4 := e1.trans e14
      have hl4 := e04.lst hlj hl
      have hjl := Ne.symm hlj
      have hy0 : ys0.length ≤ 36 := by
        rw [← Paired.length hLP, hL.length_eq, maps_len hn]
        rcases hn with rfl | rfl <;> decide
      refine ⟨_, rfl, _, rfl, j, l, ys0, rfl, hlj, hl4, by omega, hj4, fun H5 sp ys5 e5 hj5 hperm hsp => ?_⟩
      obtain ⟨L', hLp, hLP'⟩ := paired_perm hperm hLP
      have hL' : L'.Perm (mapsM n) := hLp.trans hL
      have e05 := e04.trans e5
      have hst5 : StepsAt H5 S sts := hst4.exJ e5 (Ne.symm hjS)
      have hpl5 : PlanAt H5 p sts way given := ⟨S, g, e5.dK hpj hp4, hst5, e5.tup hg4⟩
      have hlen : L'.length ≤ 36 := by rw [hLp.length_eq, Paired.length hLP]; exact hy0
      obtain ⟨us, u1, u2, u3⟩ := paired_zip (Paired.mapP hLP' fun _ _ x => x.tk e05.tk)
      have mem_of : ∀ z ∈ us, z.1 ∈ mapsM n := fun z hz => hL'.mem_iff.mp (by rw [← u1]; exact List.mem_map_of_mem hz)
      refine ⟨_, rfl, sp, rfl, ⟨_, SqL.of hsp⟩, fun D hD => ?_⟩
      refine lcY us (fun z y H => RowK z.1 (valM n sts way given z.1) y H) hD ((w0_listP (E := Ex) (p := Prod.snd) fun H' e' => SqL.ex e' (SqL.of (by rw [u2]; exact hsp))).wk Ex.refl) (by rw [← u1, List.length_map] at hlen; omega) (fun _ _ _ _ h x => x.tk h) (fun _ => rfl) (fun z x H6 Qk hz e6 hY k1 => ?_) fun H6 zs e6 hD6 hP6 => ?_
      · subst hY
        obtain ⟨t1, ht1, ht1'⟩ := u3 z hz
        have hz2 : TupI z.1 z.2 H6 := (u3 z hz).tk e6.tk
        refine ⟨_, rfl, by show 1 ≤ sizeLine; decide, fun ka hka => ?_⟩
        have hkk : KyAt (upd H6 ka (.tup [z.2])) (.one z.1 []) ka := TupI.new hka hz2
        refine ⟨_, rfl, _, rfl, _, rfl, n, rfl, hn, fun H7 e7 => ?_⟩
        have e67 := (Ex.new (o := HO.tup [z.2]) hka).trans e7
        refine ⟨p, t1, n, sts, way, given, z.1, by rw [ht1], hn, hpl5.ex (e6.trans e67), hok, by omega, hgm, mem_of z hz, (e6.trans e67).tup ht1', fun H8 b e8 hb => ⟨by show 2 ≤ sizeLine; decide, fun t ht => ?_⟩⟩
        refine k1 _ _ ((e67.trans e8).then_new ht) ⟨t, ka, b, rfl, upd_same, (hkk.tk e7.tk).tk (e8.then_new ht).tk, (Ex.new ht).tup hb⟩
      · have hR : Paired (fun m y => RowK m (valM n sts way given m) y H6) L' zs := by rw [← u1]; exact paired_gl (F := fun m y => RowK m (valM n sts way given m) y H6) (g := Prod.fst) hP6
        obtain ⟨ks, k1, k2, k3, k4⟩ := rows_ks (K := K) hR
        have hkl : ks.length = L'.length := by rw [← List.length_map (f := fun k : Ky × Addr × V => k.1), k2, List.length_map]
        have hnd : (ks.map (·.1)).Nodup := by
          rw [k2]
          exact List.Pairwise.map _ (fun a b hab h => hab (one_inj h)) (hL'.symm.nodup (maps_nd hn))
        refine ⟨D, zs, ks, rfl, hD6, k1, by omega, hnd, k3, fun d ob hd hDN => ?_⟩
        have e5d : Ex H5 (upd H6 d (fz d ob)) := e6.then_new hd
        have hjd : d ≠ j := Ne.symm ((hj5.ex e6).ne hd)
        exact q _ d ks L' (valM n sts way given) (e05.trans e5d.toJ) (hj5.ex e5d) hjd hL' ⟨fun m hm => val_mem hn hok hgm hm, fun a ha b hb s => val_mono hn hok hgm ha hb s⟩ hDN (k4.ex (Ex.new hd))
end
end Hw
/-! _law_bent -/
namespace Hw
open PySem PySem.Spec PyProof.Rows L2
/-- a tuple of what has a kind -/
def TupK (K : PySem.W.Frag) (H : Hp) (p : Addr) (B : Nat) : Prop := ∃ xs, H p = some (.tup xs) ∧ (∀ x ∈ xs, ∃ T, Kn K H x T) ∧ xs.length ≤ B
section
variable {P : Program} {w : World} {K : PySem.W.Frag} {mg : Str → Option Value} {base : Heap} {C : Addr}
theorem TupK.ex {H H' : Hp} {p : Addr} {B : Nat} (h : TupK K H p B) (e : Ex H H') : TupK K H' p B := by
  obtain ⟨xs, h1, h2, h3⟩ := h
  exact ⟨xs, e.tup h1, fun x hx => ⟨_, (h2 x hx).choose_spec.ex e⟩, h3⟩
theorem TupK.val {H : Hp} {p : Addr} {B : Nat} (h : TupK K H p B) : ∃ o, Val1 K H (.ref p) o := by
  obtain ⟨xs, h1, h2, h3⟩ := h
  exact ⟨_, .tup h1 h2⟩
theorem TupK.new {H : Hp} {p : Addr} {xs : List V} {B : Nat} (hp : H p = none) (h : ∀ x ∈ xs, ∃ T, Kn K H x T) (hl : xs.length ≤ B) : TupK K (upd H p (.tup xs)) p B :=
  ⟨xs, upd_same, fun x hx => ⟨_, (h x hx).choose_spec.ex (.new hp)⟩, hl⟩
theorem mem_cutV {xs : List V} {lo hi : Option Int} {x : V} (h : x ∈ cutV xs lo hi) : x ∈ xs := List.mem_of_mem_drop (List.mem_of_mem_take h)
/-- a slice -/
theorem slK {H : Hp} {p : Addr} {B : Nat} {lo hi : Option Int} {Q : VK} (h : TupK K H p B) (q : ∀ H' r, Ex H H' → TupK K H' r B → Q (.ref r) H') : rSlA K (.ref p) lo hi H Q := by
  obtain ⟨xs, h1, h2, h3⟩ := h
  exact ⟨p, xs, rfl, SqT.of h1, fun _ => q H p (.refl H) ⟨xs, h1, h2, h3⟩, fun _ r hr => q _ r (.new hr) (.new hr (fun x hx => h2 x (mem_cutV hx)) (Nat.le_trans (cutV_length xs lo hi) h3))⟩
/-- one behind the other -/
theorem catK9 {H : Hp} {p p2 : Addr} {B B2 : Nat} {Q : VK} (h : TupK K H p B) (h' : TupK K H p2 B2) (hz : B + B2 ≤ 1000) (q : ∀ H' r, Ex H H' → TupK K H' r (B + B2) → Q (.ref r) H') : rCatA K (.ref p) (.ref p2) H Q := by
  obtain ⟨xs, h1, h2, h3⟩ := h
  obtain ⟨ys, k1, k2, k3⟩ := h'
  have hs : (1000 : Nat) ≤ sizeLine := by decide
  refine ⟨p, p2, xs, ys, rfl, rfl, SqT.of h1, SqT.of k1, by omega, fun _ => q H p2 (.refl H) ⟨ys, k1, k2, by omega⟩, fun _ _ => q H p (.refl H) ⟨xs, h1, h2, by omega⟩, fun _ _ r hr => q _ r (.new hr) (.new hr (fun x hx => ?_) (by rw [List.length_append]; omega))⟩
  rcases List.mem_append.mp hx with hx | hx
  · exact h2 x hx
  · exact k2 x hx
abbrev sBent : Stmt := topS 40
abbrev nBent : List Str := ["_law_jar_here", "_law_one", "_law_many_here", "_law_at", "_law_way", "_law_odd"]
theorem scBent : FnScope nBent ["_law_jar_here", "_law_one", "_law_many_here"] (defScope sBent) := ⟨rfl, rfl, rfl, by decide +kernel, rfl, by decide +kernel, by decide +kernel⟩
def spBent (K : PySem.W.Frag) : Sp := fun vs H Q _ => ∃ (j o : Addr) (n : Int) (one : List Int), vs = [.ref j, .ref o, .int (pw2 n)] ∧ N12 n ∧ JarAt H j ∧ one ∈ mapsM n ∧ H o = some (.tup (one.map V.int)) ∧
  ∀ H' v o', ExJ j H H' → JarAt H' j → Val1 K H' v o' → Q v H'
theorem ok_bent {f : Addr} {fd : FuncData} {k : Nat} (F : Fun K "_law_bent" "_law_bent" sBent f fd) (Z : Free mg) (c1 : Ca P w K mg base CX0 k "_law_scoop" ["_law_jar_here", "_law_size"] spScoop) (c2 : Ca P w K mg base CX0 k "_law_pick" ["_law_jar_here", "_law_items"] spPick) :
    FnOk P w K mg base CX0 (k + 1) f fd ["_law_jar_here", "_law_one", "_law_many_here"] (spBent K) := by
  refine F.ok scBent (fun vs H Q E h => ?_) (fun cdv A outer s H vs Q E hr h => ?_)
  · obtain ⟨j, o, n, one, rfl, _⟩ := h
    rfl
  · obtain ⟨j, o, n, one, rfl, hn, hj, hone, ho, q⟩ := h
    refine ⟨_, pss_cons (ps_par (i := 3) (j := 4) rfl scBent.nd rfl rfl (by decide) rfl rfl (pa_cons (pe_ca c1 hr (by rfl) pass0 (pa_cons (pv 0) (pa_cons (pe_callB call_len_seq (by rfl) Z.len B.len (pa_cons (pv 1) pa_nil)) pa_nil))) (pa_cons (pe_ca c1 hr (by rfl) pass0 (pa_cons (pv 0) (pa_cons pe_int pa_nil))) pa_nil)) rfl)
      (pss_cons (ps_if (pt_cmpR op_eq (pv 4) pe_int (nomark _)) (pss_one (ps_ret (pe_callTy call_list_of (by rfl) Z.list B.list (pa_cons (pv 1) pa_nil)))) pss_nil)
      (pss_cons (ps_if (pt_cmpR op_eq (pv 4) pe_int (nomark _)) (pss_one (ps_ret (pe_slice sl_tupA (pv 1) po_none (po_some (pv 3))))) pss_nil)
      (pss_cons (ps_if (pt_cmpR op_eq (pv 4) pe_int (nomark _)) (pss_one (ps_ret (pe_op op_catA (pv 1) (pe_tup (pa_cons pe_int pa_nil))))) pss_nil)
      (pss_cons (ps_set (i := 5) scBent.nd rfl (Or.inl rfl) (pe_ca c2 hr (by rfl) pass0 (pa_cons (pv 0) (pa_cons (pe_lst (pa_cons (pv 2) (pa_cons (pe_un un_neg pe_int) (pa_cons pe_bl (pa_cons pe_bl (pa_cons pe_non (pa_cons pe_str (pa_cons (pe_tup (pa_cons pe_int pa_nil)) (pa_cons (pe_op op_add (pv 2) (pe_op op_powW pe_int pe_int)) pa_nil))))))))) pa_nil))))
      (pss_one (ps_ret (pe_op op_catA (pe_op op_catA (pe_slice sl_tupA (pv 1) po_none (po_some (pv 3))) (pe_tup (pa_cons (pv 5) pa_nil))) (pe_slice sl_tupA (pv 1) (po_some (pe_op op_add (pv 3) pe_int)) po_none)))))))), ?_⟩
    have hp := pw2_rng hn
    have hl1 := map_rng hn hone
    have TK1 : TupK K H o 4 := ⟨_, ho, fun x hx => by obtain ⟨i, _, rfl⟩ := List.mem_map.mp hx; exact ⟨_, .int i⟩, by rw [List.length_map]; omega⟩
    refine ⟨_, rfl, _, rfl, o, _, rfl, .inr (SqT.of ho), j, _, rfl, by rw [List.length_map]; omega, by rw [List.length_map]; omega, hj, fun H1 at_ e1 hj1 a0 a1 => ⟨_, rfl, j, 7, rfl, by decide, by decide, hj1, fun H3 way e2 hj3 w0 w1 => ⟨_, _, rfl, ?_⟩⟩⟩
    have e03 : ExJ j H H3 := e1.trans e2
    have ho3 := e03.tup ho
    have T3 : TupK K H3 o 4 := by
      obtain ⟨xs, h1, h2, h3⟩ := TK1
      exact ⟨_, ho3, fun x hx => by obtain ⟨i, _, rfl⟩ := List.mem_map.mp hx; exact ⟨_, .int i⟩, by rw [List.length_map]; omega⟩
    clear TK1
    by_cases g0 : way = 0
    · refine ⟨_, rfl, rfl, _, rfl, iteTc (by simp [g0]) ⟨_, rfl, o, _, rfl, .inr (SqT.of ho3), fun l hl => ?_⟩⟩
      exact q _ (.ref l) none (e03.trans (Ex.new hl).toJ) (hj3.upd (hj3.ne hl)) (.no (.lst upd_same) rfl)
    refine ⟨_, rfl, rfl, _, rfl, iteFc (by simp [g0]) ?_⟩
    by_cases g1 : way = 1
    · refine ⟨_, rfl, rfl, _, rfl, iteTc (by simp [g1]) ⟨_, rfl, _, rfl, _, rfl, slK T3 fun H4 r e4 T4 => ?_⟩⟩
      obtain ⟨o', hv⟩ := T4.val
      exact q _ _ o' (e03.trans e4.toJ) (hj3.ex e4) hv
    refine ⟨_, rfl, rfl, _, rfl, iteFc (by simp [g1]) ?_⟩
    by_cases g2 : way = 2
    · refine ⟨_, rfl, rfl, _, rfl, iteTc (by simp [g2]) ⟨_, rfl, by show 1 ≤ sizeLine; decide, fun t ht => ?_⟩⟩
      have e4 := Ex.new (o := HO.tup [V.int 0]) ht
      refine catK9 (T3.ex e4) (B2 := 1) ⟨_, upd_same, fun x hx => ?_, Nat.le_refl _⟩ (by decide) fun H5 r e5 T5 => ?_
      · rw [List.mem_singleton.mp hx]
        exact ⟨_, .int 0⟩
      · obtain ⟨o', hv⟩ := T5.val
        exact q _ _ o' (e03.trans (e4.trans e5).toJ) (hj3.ex (e4.trans e5)) hv
    refine ⟨_, rfl, rfl, _, rfl, iteFc (by simp [g2]) ?_⟩
    refine ⟨_, rfl, _, rfl, _, rfl, by show 1 ≤ sizeLine; decide, fun t ht => ⟨_, rfl, _, _, rfl, rfl, ⟨by decide, by decide⟩, _, _, rfl, rfl, by show 8 ≤ sizeLine; decide, fun L hL => ?_⟩⟩
    have e4 := Ex.new (o := HO.tup [V.int 0]) ht
    have hLj : L ≠ j := Ne.symm ((hj3.ex e4).ne hL)
    refine ⟨j, L, _, rfl, hLj, upd_same, by show 0 < 8; decide, by show 8 ≤ 1000; decide, (hj3.ex e4).ex (.new hL), fun H5 i v e5 hj5 hv => ?_⟩
    have e35 : ExJ j H3 H5 := (e4.then_new hL).toJ.trans e5
    have T5 : TupK K H5 o 4 := ⟨_, e35.tup ho3, fun x hx => by obtain ⟨i, _, rfl⟩ := List.mem_map.mp hx; exact ⟨_, .int i⟩, by rw [List.length_map]; omega⟩
    have ht5 : H5 t = some (.tup [.int 0]) := e5.tup ((Ex.new hL).tup upd_same)
    have hk5 : ∃ T, Kn K H5 v T := by
      have hm := List.mem_of_getElem? hv
      simp only [List.mem_cons, List.not_mem_nil, or_false] at hm
      rcases hm with rfl | rfl | rfl | rfl | rfl | rfl | rfl | rfl
      · exact ⟨_, .int _⟩
      · exact ⟨_, .int _⟩
      · exact ⟨_, .bl _⟩
      · exact ⟨_, .bl _⟩
      · exact ⟨_, .non⟩
      · exact ⟨_, .str _⟩
      · exact ⟨_, .tup ht5⟩
      · exact ⟨_, .int _⟩
    obtain ⟨T, hk5⟩ := hk5
    refine ⟨_, rfl, _, rfl, _, rfl, slK T5 fun H6 r e6 T6 => ⟨_, rfl, by show 1 ≤ sizeLine; decide, fun u hu => ?_⟩⟩
    have eu := Ex.new (o := HO.tup [v]) hu
    refine catK9 (T6.ex eu) (B2 := 1) ⟨_, upd_same, fun x hx => ?_, Nat.le_refl _⟩ (by decide) fun H7 r7 e7 T7 => ?_
    · rw [List.mem_singleton.mp hx]
      exact ⟨T, hk5.ex (e6.trans eu)⟩
    have e57 := (e6.trans eu).trans e7
    refine ⟨_, rfl, _, rfl, _, _, rfl, rfl, _, rfl, ?_⟩
    dsimp only [tNoPart]
    refine slK (T5.ex e57) fun H8 r8 e8 T8 => ?_
    refine catK9 (T7.ex e8) T8 (by decide) fun H9 r9 e9 T9 => ?_
    obtain ⟨o', hv⟩ := T9.val
    have e59 := (e57.trans e8).trans e9
    exact q _ _ o' ((e03.trans e35).trans e59.toJ) (hj5.ex e59) hv
end
end Hw
/-! for _law_spoilt: dicts with a key put, dicts of rows -/
namespace Hw
open PySem PySem.Spec PyProof.Rows L2
theorem PSet.or {X : Cx} {t t' : TSet} (h : PSet X t) (h' : PSet X t') : PSet X (fun x y v H Q => t x y v H Q ∨ t' x y v H Q) := by
  intro pins s σ H o i v ov iv u Q I ro ri rv q
  rcases q with q | q
  · exact h pins s σ H o i v ov iv u Q I ro ri rv q
  · exact h' pins s σ H o i v ov iv u Q I ro ri rv q
theorem noCode_fz {H : Hp} {d : Addr} {ob : Obj} {es : Array DictEntry} {ep : Nat} (h : H d = some (fz d ob)) (hd : ob.data = .dict es ep) : ∀ q, H d ≠ some (LamX.CodeO d q) := fun q z => by
  rw [h] at z
  have e := HO.ext.inj (Option.some.inj z)
  let hp : Heap := (⟨Array.replicate d default, {}⟩ : Heap).push ob
  have hs : (⟨Array.replicate d default, {}⟩ : Heap).objs.size = d := Array.size_replicate
  have g : hp.get? d = some ob := by
    have q := Heap.get?_push_size (⟨Array.replicate d default, {}⟩ : Heap) (o := ob) (by
      obtain ⟨c, dd, da, sl⟩ := ob
      cases hd
      rfl)
    rw [hs] at q
    exact q
  have g2 := (congrFun e hp).mp g
  obtain ⟨oc, vs, t, g3, g4, _⟩ := g2
  rw [g] at g3
  rw [← Option.some.inj g3, hd] at g4
  cases g4
/-- lists and tuples stay -/
structure LK (H H' : Hp) : Prop where
  t : TK H H'
  l : ∀ b xs, H b = some (.lst xs) → H' b = some (.lst xs)
theorem LK.fz {H : Hp} {d : Addr} {ob : Obj} {o : HO} (h : H d = some (fz d ob)) : LK H (upd H d o) := ⟨.put h (fun _ z => by cases z), fun b xs e => by
  rw [upd_ne (fun z => by rw [z, h] at e; cases e)]
  exact e⟩
section
variable {P : Program} {w : World} {K : PySem.W.Frag} {H H' : Hp}
theorem Kn.lk {v : V} {T : String} (h : Kn K H v T) (e : LK H H') : Kn K H' v T := by
  cases h with
  | non => exact .non
  | bl b => exact .bl b
  | int i => exact .int i
  | str x => exact .str x
  | tup h => exact .tup (e.t _ _ h)
  | lst h => exact .lst (e.l _ _ h)
theorem Val1.lk {v : V} {o : Option (List V)} (h : Val1 K H v o) (e : LK H H') : Val1 K H' v o := by
  cases h with
  | tup h k => exact .tup (e.t _ _ h) fun x hx => ⟨_, (k x hx).choose_spec.lk e⟩
  | no k n => exact .no (k.lk e) n
theorem MkAt.lk {as : Mk} {ks : List (Ky × Addr × V)} (h : MkAt K H as ks) (e : LK H H') : MkAt K H' as ks := Paired.mapP h fun _ _ ⟨a, b⟩ => ⟨a, b.lk e⟩
def putMk (as : Mk) (k : Ky) (o : Option (List V)) : Mk := if (as.map (·.1)).contains k then as.map (fun a => if a.1 = k then (a.1, o) else a) else as ++ [(k, o)]
theorem valK_has (k : Ky) : ∀ ks : List (Ky × Addr × V), (valK ks k).isSome = (ks.map (·.1)).contains k := fun ks => by
  cases h : valK ks k with
  | none =>
    have q := valK_none h
    symm
    rw [show (none : Option V).isSome = false from rfl, ← Bool.not_eq_true, List.contains_iff_mem]
    intro hm
    obtain ⟨x, hx, e⟩ := List.mem_map.mp hm
    exact q x hx e
  | some v =>
    obtain ⟨x, hx, e, _⟩ := valK_some h
    symm
    rw [show (some v : Option V).isSome = true from rfl, List.contains_iff_mem, ← e]
    exact List.mem_map_of_mem hx
theorem put_map {k : Ky} {v : V} {o : Option (List V)} (hv : Val1 K H v o) : ∀ {as : Mk} {ks : List (Ky × Addr × V)}, MkAt K H as ks → MkAt K H (as.map fun a => if a.1 = k then (a.1, o) else a) (ks.map fun x => if x.1 = k then (x.1, x.2.1, v) else x)
  | _, _, .nil => .nil
  | x :: _, y :: _, .cons r t => by
    refine .cons ?_ (put_map hv t)
    by_cases e : x.1 = k
    · show (if x.1 = k then (x.1, o) else x).1 = (if y.1 = k then (y.1, y.2.1, v) else y).1 ∧ Val1 K H (if y.1 = k then (y.1, y.2.1, v) else y).2.2 (if x.1 = k then (x.1, o) else x).2
      rw [if_pos e, if_pos (r.1 ▸ e)]
      exact ⟨r.1, hv⟩
    · show (if x.1 = k then (x.1, o) else x).1 = (if y.1 = k then (y.1, y.2.1, v) else y).1 ∧ Val1 K H (if y.1 = k then (y.1, y.2.1, v) else y).2.2 (if x.1 = k then (x.1, o) else x).2
      rw [if_neg e, if_neg (r.1 ▸ e)]
      exact r
theorem MkAt.put {as : Mk} {ks : List (Ky × Addr × V)} {k : Ky} {a : Addr} {v : V} {o : Option (List V)} (h : MkAt K H as ks) (hv : Val1 K H v o) : MkAt K H (putMk as k o) (putKy ks k a v) := by
  unfold putMk putKy
  have ek := h.keys
  rw [valK_has, ← ek]
  split
  · exact put_map hv h
  · exact paired_snoc h ⟨rfl, hv⟩
theorem putMk_ok {as : Mk} {k : Ky} {o : Option (List V)} (h : as.all (fun a => a.1.ok) = true) (hk : k.ok = true) : (putMk as k o).all (fun a => a.1.ok) = true := by
  rw [List.all_eq_true] at h ⊢
  unfold putMk
  split
  · intro a ha
    obtain ⟨x, hx, e⟩ := List.mem_map.mp ha
    rw [← e]
    split
    · exact h x hx
    · exact h x hx
  · intro a ha
    rcases List.mem_append.mp ha with ha | ha
    · exact h a ha
    · rw [List.mem_singleton.mp ha]
      exact hk
/-- a dict of rows -/
theorem rows_gen {α : Type} {H : Hp} {kf : α → Ky} {vf : α → V} : ∀ {l : List α} {ys : List V}, Paired (fun z y => ∃ t a, y = .ref t ∧ H t = some (.tup [.ref a, vf z]) ∧ KyAt H (kf z) a) l ys → ∃ ks : List (Ky × Addr × V),
    Paired (fun (k : Ky × Addr × V) y => ∃ t, y = .ref t ∧ H t = some (.tup [.ref k.2.1, k.2.2])) ks ys ∧ ks.map (·.1) = l.map kf ∧ (∀ k ∈ ks, KyAt H k.1 k.2.1) ∧ Paired (fun z (k : Ky × Addr × V) => k.1 = kf z ∧ k.2.2 = vf z) l ks
  | _, _, .nil => ⟨[], .nil, rfl, (fun _ z => by cases z), .nil⟩
  | m :: L, y :: ys, .cons r t => by
    obtain ⟨ks, h1, h2, h3, h4⟩ := rows_gen t
    obtain ⟨u, a, e, e1, e2⟩ := r
    refine ⟨(kf m, a, vf m) :: ks, .cons ⟨u, e, e1⟩ h1, by rw [List.map_cons, List.map_cons, h2], fun k hk => ?_, .cons ⟨rfl, rfl⟩ h4⟩
    rcases List.mem_cons.mp hk with rfl | hk
    · exact e2
    · exact h3 k hk
theorem rows_mk {α : Type} {kf : α → Ky} {vf : α → V} {oF : α → Option (List V)} : ∀ {l : List α} {ks : List (Ky × Addr × V)}, Paired (fun z (k : Ky × Addr × V) => k.1 = kf z ∧ k.2.2 = vf z) l ks → (∀ z ∈ l, Val1 K H (vf z) (oF z)) → MkAt K H (l.map fun z => (kf z, oF z)) ks
  | _, _, .nil, _ => .nil
  | z :: l, k :: ks, .cons r t, h => .cons ⟨r.1.symm, by rw [r.2]; exact h z List.mem_cons_self⟩ (rows_mk t fun x hx => h x (List.mem_cons_of_mem _ hx))
theorem paired_un {α β γ : Type} {F : γ → β → Prop} {g : α → γ} : ∀ {l : List α} {ys : List β}, Paired F (l.map g) ys → Paired (fun z y => F (g z) y) l ys
  | [], _, .nil => .nil
  | _ :: _, _, .cons r t => .cons r (paired_un t)
end
end Hw
/-! _law_spoilt -/
namespace Hw
open PySem PySem.Spec PyProof.Rows L2
section
variable {P : Program} {w : World} {K : PySem.W.Frag} {mg : Str → Option Value} {base : Heap} {C : Addr}
def kyM : Ky → List Int
  | .one m _ => m
  | .flat m => m
theorem rep_map : ∀ m : Nat, (List.replicate m [V.int 0]).flatten = (List.replicate m (0 : Int)).map V.int
  | 0 => rfl
  | m + 1 => by
    rw [List.replicate_succ, List.flatten_cons, rep_map m, List.replicate_succ]
    rfl
theorem kn_ints {H : Hp} {ns : List Int} {xs : List V} (h : ∀ x ∈ xs, x ∈ ns.map V.int) : ∀ x ∈ xs, ∃ T, Kn K H x T := fun x hx => by
  obtain ⟨i, _, rfl⟩ := List.mem_map.mp (h x hx)
  exact ⟨_, .int i⟩
theorem mk_tk {H H' : Hp} {L : List (List Int)} {f : List Int → List Int} {ks : List (Ky × Addr × V)} (h : MkAt K H (mkOf L f) ks) (e : TK H H') : MkAt K H' (mkOf L f) ks :=
  paired_gl (F := fun (a : Ky × Option (List V)) (k : Ky × Addr × V) => a.1 = k.1 ∧ Val1 K H' k.2.2 a.2) (g := fun m => (Ky.one m [], some ((f m).map V.int))) (Paired.mapP (paired_un (g := fun m => (Ky.one m [], some ((f m).map V.int))) h) fun m k ⟨a, b⟩ => ⟨a, by
    have b' : Val1 K H k.2.2 (some ((f m).map V.int)) := b
    show Val1 K H' k.2.2 (some ((f m).map V.int))
    generalize k.2.2 = v at b' ⊢
    generalize hx : (f m).map V.int = xs at b' ⊢
    cases b' with
    | tup h hk => exact .tup (e _ _ h) (kn_ints (ns := f m) (by rw [hx]; exact fun _ h => h))⟩)
theorem mk_mem {H : Hp} {f : List Int → List Int} : ∀ {L : List (List Int)} {ks : List (Ky × Addr × V)}, MkAt K H (mkOf L f) ks → ∀ k ∈ ks, ∃ m ∈ L, k.1 = .one m [] ∧ Val1 K H k.2.2 (some ((f m).map V.int))
  | [], _, .nil, k, h => by cases h
  | m :: L, _ :: _, .cons r t, k, h => by
    rcases List.mem_cons.mp h with rfl | h
    · exact ⟨m, List.mem_cons_self, r.1.symm, r.2⟩
    · obtain ⟨m', a, b⟩ := mk_mem (L := L) t k h
      exact ⟨m', List.mem_cons_of_mem _ a, b⟩
theorem dp_one {H : Hp} {m : List Int} {a : Addr} (h : KyAt H (.one m []) a) : Dp K H (.ref a) (.tuple [.tuple (m.map PyData.int)]) := by
  obtain ⟨xs, h1, h2⟩ := h
  cases h2 with
  | cons r t =>
    cases t
    obtain ⟨u, rfl, hu⟩ := r
    exact .tup (SqT.of h1) (.cons (dp_tup hu) .nil)
theorem shaped_one (m : List Int) : SeqAt.shaped (.tuple [.tuple (m.map PyData.int)]) = true := by
  unfold SeqAt.shaped
  rw [PyData.canLay0, PyData.canLayAll0, PyData.canLay0, canlay_ints, PyData.canLayAll0, PyData.depth, PyData.depthAll, PyData.depth, depth_ints, PyData.depthAll]
  rfl
abbrev sSp : Stmt := topS 46
abbrev nSp : List Str := ["_law_jar_here", "_law_making", "_law_modes", "_law_listed", "_law_found", "_law_way", "_law_one", "_law_row"]
theorem scSp : FnScope nSp ["_law_jar_here", "_law_making", "_law_modes", "_law_listed"] (defScope sSp) := ⟨rfl, rfl, rfl, by decide +kernel, rfl, by decide +kernel, by decide +kernel⟩
def spSp (w : World) (K : PySem.W.Frag) : Sp := fun vs H Q _ => ∃ (j d l : Addr) (n : Int) (L L' : List (List Int)) (f : List Int → List Int) (ks : List (Ky × Addr × V)), vs = [.ref j, .ref d, .int n, .ref l] ∧ N12 n ∧ JarAt H j ∧ d ≠ j ∧ l ≠ j ∧ ListedAt H l n L ∧ L'.Perm (mapsM n) ∧ DN w H d ks ∧ MkAt K H (mkOf L' f) ks ∧
  ∀ H' d' b, ExJ j H H' → JarAt H' j → d' ≠ j → DkV w K H' n d' b → Q (.ref d') H'
set_option maxHeartbeats 16000000 in
theorem ok_sp {f : Addr} {fd : FuncData} {k : Nat} (F : Fun K "_law_spoilt" "_law_spoilt" sSp f fd) (Z : Free mg) (c1 : Ca P w K mg base CX0 k "_law_scoop" ["_law_jar_here", "_law_size"] spScoop) (c2 : Ca P w K mg base CX0 k "_law_pick" ["_law_jar_here", "_law_items"] spPick)
    (c3 : Ca P w K mg base CX0 k "_law_bent" ["_law_jar_here", "_law_one", "_law_many_here"] (spBent K)) (c4 : Ca P w K mg base CX0 k "_law_many" ["_law_modes"] spMany) (c5 : Ca P w K mg base CX0 k "_law_any_map" ["_law_jar_here", "_law_modes"] spAny) (c6 : Ca P w K mg base CX0 k "_law_rising" ["_law_jar_here", "_law_modes"] spRising) :
    FnOk P w K mg base CX0 (k + 1) f fd ["_law_jar_here", "_law_making", "_law_modes", "_law_listed"] (spSp w K) := by
  refine F.ok scSp (fun vs H Q E h => ?_) (fun cdv A outer s H vs Q E hr h => ?_)
  · obtain ⟨j, d, l, n, L, L', f, ks, rfl, _⟩ := h
    rfl
  · obtain ⟨j, d, l, n, L, L', f, ks, rfl, hn, hj, hdj, hlj, ⟨ys0, hl, hLP, hL⟩, hL', hDN, hM, q⟩ := h
    have hu : A.units + 3 + 16 * k + 200 < cLine := hr.un
    refine ⟨_, pss_cons (ps_par (i := 4) (j := 5) rfl scSp.nd rfl rfl (by decide) rfl rfl (pa_cons (pe_callTy (cr_dictOf rfl (by show A.units + 3 + _ < cLine; omega)) (by rfl) Z.dict B.dict (pa_cons (pe_listItems9 rfl (pv 1) (by rfl) Z.list) pa_nil)) (pa_cons (pe_ca c1 hr (by rfl) pass0 (pa_cons (pv 0) (pa_cons pe_int pa_nil))) pa_nil)) rfl)
      (pss_cons (ps_set (i := 6) scSp.nd rfl (Or.inr rfl) (pe_ca c2 hr (by rfl) pass0 (pa_cons (pv 0) (pa_cons (pv 3) pa_nil))))
      (pss_cons (ps_if (pt_cmpR op_eq (pv 5) pe_int (nomark _)) (pss_one (ps_ret (pe_callTy (cr_dictOf rfl (by show A.units + 3 + _ < cLine; omega)) (by rfl) Z.dict B.dict (pa_cons (pe_lc (own := [("_law_row", 7)]) (g := gName 7) rfl scSp.nd (pi_list (pe_listItems9 rfl (pv 1) (by rfl) Z.list)) (blkOk_by (N := nSp) (sc := defScope sSp) (by decide +kernel))
          (fun _ _ _ _ _ => pg_name (i := 7) scSp.nd rfl (Or.inl rfl)) (fun _ _ _ _ _ => pts_one (pt_cmpR (neK K (by show A.units + 3 + _ < cLine; omega)) (pe_ix (ixTK K) (pv 7) pe_int (fun _ _ => rfl)) (pe_tup (pa_cons (pv 6) pa_nil)) (nomark _))) (fun _ _ _ _ _ => pv 7)) pa_nil)))) pss_nil)
      (pss_cons (ps_if (pt_cmpR op_eq (pv 5) pe_int (nomark _)) (pss_one (ps_asg (pv 6) (pg_sub (pv 4) (pe_ca c2 hr (by rfl) pass0 (pa_cons (pv 0) (pa_cons (pe_lst (pa_cons (pv 6) (pa_cons pe_str (pa_cons (pe_tup (pa_cons (pv 6) (pa_cons (pv 6) pa_nil))) (pa_cons (pe_tup (pa_cons (pe_op op_repT (pe_tup (pa_cons pe_int pa_nil)) (pe_op op_add (pe_callB call_len_seq (by rfl) Z.len B.len (pa_cons (pv 6) pa_nil)) pe_int)) pa_nil)) (pa_cons pe_int (pa_cons pe_non pa_nil))))))) pa_nil)))
            (PSet.or (ps_dN (by show A.units + 3 + _ < cLine; omega)) (ps_dS (by show A.units + 3 + _ < cLine; omega))))))
        (pss_one (ps_if (pt_cmpR op_eq (pv 5) pe_int (nomark _)) (pss_one (ps_asg (pe_ca c3 hr (by rfl) pass0 (pa_cons (pv 0) (pa_cons (pv 6) (pa_cons (pe_ca c4 hr (by rfl) pass0 (pa_cons (pv 2) pa_nil)) pa_nil)))) (pg_sub (pv 4) (pe_tup (pa_cons (pv 6) pa_nil)) (ps_dN (by show A.units + 3 + _ < cLine; omega)))))
          (pss_one (ps_if (pt_cmpR op_eq (pv 5) pe_int (nomark _)) (pss_one (ps_asg (pe_ca c5 hr (by rfl) pass0 (pa_cons (pv 0) (pa_cons (pv 2) pa_nil))) (pg_sub (pv 4) (pe_tup (pa_cons (pv 6) pa_nil)) (ps_dN (by show A.units + 3 + _ < cLine; omega)))))
            (pss_one (ps_if (pt_cmpR op_eq (pv 5) pe_int (nomark _)) (pss_one (ps_ret (pe_callTy (cr_dictOf rfl (by show A.units + 3 + _ < cLine; omega)) (by rfl) Z.dict B.dict (pa_cons (pe_lc (own := [("_law_row", 7)]) (g := gName 7) (tt := tYes) rfl scSp.nd (pi_list (pe_listItems9 rfl (pv 1) (by rfl) Z.list)) (blkOk_by (N := nSp) (sc := defScope sSp) (by decide +kernel))
                (fun _ _ _ _ _ => pg_name (i := 7) scSp.nd rfl (Or.inl rfl)) (fun _ _ _ _ _ => pts_nil) (fun _ _ _ _ _ => pe_tup (pa_cons (pe_ix (ixTK K) (pe_ix (ixTK K) (pv 7) pe_int (fun _ _ => rfl)) pe_int (fun _ _ => rfl)) (pa_cons (pe_ix (ixTK K) (pv 7) pe_int (fun _ _ => rfl)) pa_nil)))) pa_nil))))
              (pss_one (ps_asg (pe_ca c6 hr (by rfl) pass0 (pa_cons (pv 0) (pa_cons (pv 2) pa_nil))) (pg_sub (pv 4) (pe_tup (pa_cons (pv 6) pa_nil)) (ps_dN (by show A.units + 3 + _ < cLine; omega))))))))))))
      (pss_one (ps_ret (pv 4)))))), ?_⟩
    have hu2 : A.units + 3 + 16 * k + 200 < cLine := hu
    have hcn : cntM n ≤ 36 := by rcases hn with rfl | rfl <;> decide
    have hcn0 : 0 < cntM n := by rcases hn with rfl | rfl <;> decide
    have hy0 : ys0.length = cntM n := by rw [← Paired.length hLP, hL.length_eq, maps_len hn]
    have hkl : ks.length = cntM n := by rw [← Paired.length hM]; unfold mkOf; rw [List.length_map, hL'.length_eq, maps_len hn]
    have hok : (mkOf L' f).all (fun a => a.1.ok) = true := by
      rw [List.all_eq_true]
      intro a ha
      obtain ⟨m, _, e⟩ := List.mem_map.mp ha
      rw [← e]
      rfl
    refine ⟨_, rfl, d, ks, rfl, hDN, fun H1 p ys e1 hp hys hP => ⟨p, ys, ks, rfl, hys, hP, hDN.len, hDN.nd, (hDN.ex e1).kd, fun d0 ob hd0 hD0 => ?_⟩⟩
    have n0 : Nw H d0 := e1.nw hd0
    have e01 := e1.then_new (o := fz d0 ob) hd0
    have hd0j : d0 ≠ j := Ne.symm ((hj.ex e1).ne hd0)
    refine ⟨_, rfl, j, 7, rfl, by decide, by decide, hj.ex e01, fun H2 way e2 hj2 w0 w1 => ⟨_, _, rfl, ?_⟩⟩
    have e02 : ExJ j H H2 := e01.toJ.trans e2
    have hD2 : DN w H2 d0 ks := hD0.exJ e2 hd0j
    have hDd2 : DN w H2 d ks := hDN.exJ e02 hdj
    refine ⟨_, rfl, _, rfl, j, l, ys0, rfl, hlj, e02.lst hlj hl, by omega, by omega, hj2, fun H3 i v e3 hj3 hv => ?_⟩
    have e03 := e02.trans e3
    have hD3 := hD2.exJ e3 hd0j
    have hDd3 := hDd2.exJ e3 hdj
    obtain ⟨one, hone, o1, rfl, ho1⟩ := paired_ri hLP hv
    have honem : one ∈ mapsM n := hL.mem_iff.mp (List.mem_of_getElem? hone)
    have ho3 := e03.tup ho1
    have hM3 : MkAt K H3 (mkOf L' f) ks := mk_tk hM e03.tk
    have mem3 := mk_mem hM3
    -- a key put
    have fin : ∀ (Hc : Hp) (v : V) (o' : Option (List V)) (kk : Ky) (a : Addr), ExJ j H Hc → JarAt Hc j → DN w Hc d0 ks → Val1 K Hc v o' → kk.ok = true → ∀ ob', DN w (upd Hc d0 (fz d0 ob')) d0 (putKy ks kk a v) → Q (.ref d0) (upd Hc d0 (fz d0 ob')) := by
      intro Hc v o' kk a ec hjc hDc hv hkk ob' hD'
      obtain ⟨ob0, ep, xs, g1, _, _, g4, _⟩ := hDc.ob
      have hMc : MkAt K Hc (mkOf L' f) ks := mk_tk hM ec.tk
      exact q _ d0 _ (ec.put n0 (noCode_fz g1 g4)) (hjc.upd (Ne.symm hd0j)) hd0j (.dct hD' ((hMc.put hv).lk (.fz g1)) (putMk_ok hok hkk))
    have finO : ∀ (Hc : Hp) (v : V) (o' : Option (List V)), ExJ j H Hc → JarAt Hc j → DN w Hc d0 ks → Val1 K Hc v o' → ∀ p5, Hc p5 = none → Hc o1 = some (.tup (one.map V.int)) → ∀ Q' : Hp → Prop, (∀ H', Q (.ref d0) H' → Q' H') → tPutD w (.ref d0) (.ref p5) v (upd Hc p5 (.tup [.ref o1])) Q' := by
      intro Hc v o' ec hjc hDc hv p5 hp5 ho Q' hQ'
      have e5 := Ex.new (o := HO.tup [V.ref o1]) hp5
      exact ⟨d0, ks, p5, .one one [], rfl, rfl, hDc.ex e5, by omega, TupI.new hp5 ⟨o1, rfl, ho⟩, fun ob' hD' => hQ' _ (fin _ v o' _ p5 (ec.trans e5.toJ) (hjc.ex e5) (hDc.ex e5) (hv.ex e5) rfl ob' hD')⟩
    by_cases g0 : way = 0
    · refine ⟨_, rfl, rfl, _, rfl, iteTc (by simp [g0]) ?_⟩
      refine ⟨_, rfl, d, ks, rfl, hDd3, fun H4 p4 ys4 e4 hp4 hys4 hP4 => ⟨p4, rfl, ⟨_, SqL.of hys4⟩, fun D hD => ?_⟩⟩
      obtain ⟨cs, q1, q2, q3⟩ := paired_zip hP4
      have hcl : cs.length = ks.length := by rw [← q1, List.length_map]
      have memk : ∀ z ∈ cs, z.1 ∈ ks := fun z hz => by rw [← q1]; exact List.mem_map_of_mem hz
      refine lcT cs (fun z => !(PyData.eqv (.tuple [.tuple ((kyM z.1.1).map PyData.int)]) (.tuple [.tuple (one.map PyData.int)]))) (fun z y H => ∃ t a, y = .ref t ∧ H t = some (.tup [.ref a, z.1.2.2]) ∧ KyAt H z.1.1 a) hD ((w0_listP (E := Ex) (p := Prod.snd) fun H' e => SqL.ex e (SqL.of (by rw [q2]; exact hys4))).wk Ex.refl) (by omega)
        (fun _ _ _ _ h ⟨t, a, x1, x2, x3⟩ => ⟨t, a, x1, h _ _ x2, x3.tk h⟩) (fun _ => rfl) (fun z x H5 Qk Qs hz e5 hY k1 k2 => ?_) fun H5 zs e5 hD5 hP5 => ?_
      · subst hY
        obtain ⟨m, hmL, ekm, _⟩ := mem3 z.1 (memk z hz)
        have hka : KyAt H5 z.1.1 z.1.2.1 := (hDd3.kd z.1 (memk z hz)).tk (e4.trans e5).tk
        obtain ⟨t, et, ht⟩ := q3 z hz
        have ht5 := e5.tup ht
        have hka' : KyAt H5 (.one m []) z.1.2.1 := ekm ▸ hka
        refine ⟨_, rfl, t, _, 0, _, et, rfl, SqT.of ht5, rfl, _, rfl, by show 1 ≤ sizeLine; decide, fun p5 hp5 => ?_⟩
        have e6 := Ex.new (o := HO.tup [V.ref o1]) hp5
        refine ⟨_, _, dp_one (hka'.tk e6.tk), dp_one (TupI.new hp5 ⟨o1, rfl, (e4.trans e5).tup ho3⟩), shaped_one m, shaped_one one, _, rfl, ?_⟩
        have ekk : kyM z.1.1 = m := by rw [ekm]; rfl
        rw [← ekk]
        cases hb : !(PyData.eqv (.tuple [.tuple ((kyM z.1.1).map PyData.int)]) (.tuple [.tuple (one.map PyData.int)])) with
        | true => exact iteT ⟨_, rfl, k1 _ _ hb e6 ⟨t, _, et, e6.tup ht5, hka.tk e6.tk⟩⟩
        | false => exact iteF (k2 _ hb e6)
      · obtain ⟨ks', r1, r2, r3, r4⟩ := rows_gen (kf := fun z : (Ky × Addr × V) × V => z.1.1) (vf := fun z => z.1.2.2) hP5
        have hsub : ks'.map (·.1) = (cs.filter _).map (fun z => z.1.1) := r2
        have hkl' : ks'.length ≤ 1000 := by
          have h1 : ks'.length = (ks'.map (·.1)).length := (List.length_map ..).symm
          rw [h1, r2, List.length_map]
          exact Nat.le_trans (List.length_filter_le _ _) (by omega)
        have hnd : (ks'.map (·.1)).Nodup := by
          rw [r2]
          refine List.Nodup.sublist (List.filter_sublist.map _) ?_
          rw [show cs.map (fun z => z.1.1) = ks.map (·.1) by rw [← q1, List.map_map]; rfl]
          exact hDd3.nd
        refine ⟨D, zs, ks', rfl, hD5, r1, hkl', hnd, r3, fun d' ob' hd' hDN' => ?_⟩
        have e45 := e4.trans e5
        have e3d := e45.then_new (o := fz d' ob') hd'
        have hMk := rows_mk (K := K) (H := upd H5 d' (fz d' ob')) (oF := fun z : (Ky × Addr × V) × V => some ((f (kyM z.1.1)).map V.int)) r4 fun z hz => by
          obtain ⟨m, hmL, ekm, hv⟩ := mem3 z.1 (memk z (List.mem_filter.mp hz).1)
          rw [ekm]
          exact hv.ex e3d
        refine q _ d' _ (e03.trans e3d.toJ) (hj3.ex e3d) (Ne.symm ((hj3.ex e45).ne hd')) (.dct hDN' hMk ?_)
        rw [List.all_eq_true]
        intro a ha
        obtain ⟨z, hz, e⟩ := List.mem_map.mp ha
        obtain ⟨m, hmL, ekm, hv⟩ := mem3 z.1 (memk z (List.mem_filter.mp hz).1)
        rw [← e]
        show Ky.ok z.1.1 = true
        rw [ekm]
        rfl
    refine ⟨_, rfl, rfl, _, rfl, iteFc (by simp [g0]) ?_⟩
    by_cases g1 : way = 1
    · refine ⟨_, rfl, rfl, _, rfl, iteTc (by simp [g1]) ?_⟩
      have hpw := pw2_rng hn
      have hlen1 := map_rng hn honem
      refine ⟨_, rfl, _, rfl, _, rfl, _, rfl, _, rfl, _, rfl, by show 2 ≤ sizeLine; decide, fun pa hpa => ⟨by show 1 ≤ sizeLine; decide, fun pb hpb => ⟨_, rfl, o1, _, rfl, .inr (SqT.of (((Ex.new hpa).then_new hpb).tup ho3)), ?_⟩⟩⟩
      have eab : Ex H3 (upd (upd H3 pa (.tup [.ref o1, .ref o1])) pb (.tup [.int 0])) := (Ex.new hpa).then_new hpb
      have hpa' : upd (upd H3 pa (.tup [.ref o1, .ref o1])) pb (.tup [.int 0]) pa = some (.tup [.ref o1, .ref o1]) := (Ex.new hpb).tup upd_same
      have hpb' : upd (upd H3 pa (.tup [.ref o1, .ref o1])) pb (.tup [.int 0]) pb = some (.tup [.int 0]) := upd_same
      generalize upd (upd H3 pa (.tup [.ref o1, .ref o1])) pb (.tup [.int 0]) = H4 at eab hpa' hpb' ⊢
      refine ⟨_, _, rfl, rfl, pb, _, _, rfl, rfl, SqT.of hpb', by simp, by rw [List.length_map]; omega, by rw [List.length_map]; omega, by show 1 ≤ 1000; decide, fun pc hpc => ⟨by show 1 ≤ sizeLine; decide, fun pd hpd => ⟨by show 6 ≤ sizeLine; decide, fun pL hpL => ?_⟩⟩⟩
      rw [rep_map] at hpd hpL ⊢
      have hne0 : one ≠ [] := fun z => by rw [z] at hlen1; simp at hlen1; omega
      have hzc : ∃ H6, H6 = upd H4 pc (.tup ((List.replicate (((one.map V.int).length : Nat) + 1 : Int).toNat (0 : Int)).map V.int)) := ⟨_, rfl⟩
      obtain ⟨H6, hH6⟩ := hzc
      have e46 : Ex H4 H6 := by rw [hH6]; exact .new hpc
      have hpc6 : H6 pc = some (.tup ((List.replicate (((one.map V.int).length : Nat) + 1 : Int).toNat (0 : Int)).map V.int)) := by rw [hH6]; exact upd_same
      rw [← hH6] at hpd hpL ⊢
      have hpd7 : KyAt (upd H6 pd (.tup [.ref pc])) (.one (List.replicate (((one.map V.int).length : Nat) + 1 : Int).toNat (0 : Int)) []) pd := TupI.new hpd ⟨pc, rfl, hpc6⟩
      have e67 := Ex.new (o := HO.tup [V.ref pc]) hpd
      generalize upd H6 pd (.tup [.ref pc]) = H7 at hpL hpd7 e67 ⊢
      have e37 := (eab.trans e46).trans e67
      have hLj : pL ≠ j := Ne.symm ((hj3.ex e37).ne hpL)
      refine ⟨j, pL, _, rfl, hLj, upd_same, by show 0 < 6; decide, by show 6 ≤ 1000; decide, (hj3.ex e37).ex (.new hpL), fun H8 i8 v8 e8 hj8 hv8 => ?_⟩
      have e38 : ExJ j H3 H8 := (e37.then_new hpL).toJ.trans e8
      have e78 : TK H7 H8 := (Ex.new hpL).tk.trans e8.tk
      have hD8 := hD3.exJ e38 hd0j
      have ho8 := e38.tup ho3
      have hval : Val1 K H8 (.ref o1) (some (one.map V.int)) := .tup ho8 (kn_ints fun _ h => h)
      have hdl : ∀ ob', DLen (upd H8 d0 (fz d0 ob')) d0 (ks.length + 1) → Q (.ref d0) (upd H8 d0 (fz d0 ob')) := fun ob' hL' => by
        obtain ⟨ob0, ep, xs, g1, _, _, g4, _⟩ := hD8.ob
        exact q _ d0 false ((e03.trans e38).put n0 (noCode_fz g1 g4)) (hj8.upd (Ne.symm hd0j)) hd0j (.len hL' (by omega))
      have hks0 : ks ≠ [] := fun z => by rw [z] at hkl; simp at hkl; omega
      have hm := List.mem_of_getElem? hv8
      simp only [List.mem_cons, List.not_mem_nil, or_false] at hm
      rcases hm with rfl | rfl | rfl | rfl | rfl | rfl
      · exact .inl ⟨d0, ks, o1, .flat one, rfl, rfl, hD8, by omega, ho8, fun ob' hD' => ⟨_, rfl, fin _ _ _ (.flat one) o1 (e03.trans e38) hj8 hD8 hval (decide_eq_true (by omega)) ob' hD'⟩⟩
      · exact .inr ⟨d0, ks, rfl, rfl, hD8, by omega, hks0, fun ob' hL' => ⟨_, rfl, hdl ob' hL'⟩⟩
      · have hpa8 : KyAt H8 (.one one [one]) pa := ⟨_, e78 _ _ ((e46.trans e67).tup hpa'), .cons ⟨o1, rfl, ho8⟩ (.cons ⟨o1, rfl, ho8⟩ .nil)⟩
        exact .inl ⟨d0, ks, pa, .one one [one], rfl, rfl, hD8, by omega, hpa8, fun ob' hD' => ⟨_, rfl, fin _ _ _ (.one one [one]) pa (e03.trans e38) hj8 hD8 hval rfl ob' hD'⟩⟩
      · have hpd8 := hpd7.tk e78
        exact .inl ⟨d0, ks, pd, _, rfl, rfl, hD8, by omega, hpd8, fun ob' hD' => ⟨_, rfl, fin _ _ _ (.one _ []) pd (e03.trans e38) hj8 hD8 hval rfl ob' hD'⟩⟩
      · exact .inr ⟨d0, ks, rfl, rfl, hD8, by omega, hks0, fun ob' hL' => ⟨_, rfl, hdl ob' hL'⟩⟩
      · exact .inr ⟨d0, ks, rfl, rfl, hD8, by omega, hks0, fun ob' hL' => ⟨_, rfl, hdl ob' hL'⟩⟩
    refine ⟨_, rfl, rfl, _, rfl, iteFc (by simp [g1]) ?_⟩
    by_cases g2 : way = 2
    · refine ⟨_, rfl, rfl, _, rfl, iteTc (by simp [g2]) ?_⟩
      refine ⟨_, rfl, _, rfl, _, rfl, n, rfl, hn, fun H4 e4 => ⟨j, o1, n, one, rfl, hn, hj3.ex e4, honem, e4.tup ho3, fun H5 v o' e5 hj5 hv => ⟨_, rfl, _, rfl, by show 1 ≤ sizeLine; decide, fun p5 hp5 => ?_⟩⟩⟩
      have e35 := e4.toJ.trans e5
      exact finO H5 v o' (e03.trans e35) hj5 (hD3.exJ e35 hd0j) hv p5 hp5 (e35.tup ho3) _ fun H' h => ⟨_, rfl, h⟩
    refine ⟨_, rfl, rfl, _, rfl, iteFc (by simp [g2]) ?_⟩
    by_cases g3 : way = 3
    · refine ⟨_, rfl, rfl, _, rfl, iteTc (by simp [g3]) ?_⟩
      refine ⟨_, rfl, _, rfl, j, n, rfl, hn, hj3, fun H5 p m e35 hj5 hm hp => ⟨_, rfl, _, rfl, by show 1 ≤ sizeLine; decide, fun p5 hp5 => ?_⟩⟩
      exact finO H5 (.ref p) _ (e03.trans e35) hj5 (hD3.exJ e35 hd0j) (.tup hp (kn_ints fun _ h => h)) p5 hp5 (e35.tup ho3) _ fun H' h => ⟨_, rfl, h⟩
    refine ⟨_, rfl, rfl, _, rfl, iteFc (by simp [g3]) ?_⟩
    by_cases g4 : way = 4
    · refine ⟨_, rfl, rfl, _, rfl, iteTc (by simp [g4]) ?_⟩
      refine ⟨_, rfl, d, ks, rfl, hDd3, fun H4 p4 ys4 e4 hp4 hys4 hP4 => ⟨p4, rfl, ⟨_, SqL.of hys4⟩, fun D hD => ?_⟩⟩
      obtain ⟨cs, q1, q2, q3⟩ := paired_zip hP4
      have hcl : cs.length = ks.length := by rw [← q1, List.length_map]
      have memk : ∀ z ∈ cs, z.1 ∈ ks := fun z hz => by rw [← q1]; exact List.mem_map_of_mem hz
      refine lcY cs (fun z y H => ∃ t a, y = .ref t ∧ H t = some (.tup [.ref a, z.1.2.2]) ∧ KyAt H (.flat (kyM z.1.1)) a) hD ((w0_listP (E := Ex) (p := Prod.snd) fun H' e => SqL.ex e (SqL.of (by rw [q2]; exact hys4))).wk Ex.refl) (by omega)
        (fun _ _ _ _ h ⟨t, a, x1, x2, x3⟩ => ⟨t, a, x1, h _ _ x2, x3.tk h⟩) (fun _ => rfl) (fun z x H5 Qk hz e5 hY k1 => ?_) fun H5 zs e5 hD5 hP5 => ?_
      · subst hY
        obtain ⟨m, hmL, ekm, _⟩ := mem3 z.1 (memk z hz)
        have hka : KyAt H5 z.1.1 z.1.2.1 := (hDd3.kd z.1 (memk z hz)).tk (e4.trans e5).tk
        obtain ⟨t, et, ht⟩ := q3 z hz
        have ht5 := e5.tup ht
        have hka' : KyAt H5 (.one m []) z.1.2.1 := ekm ▸ hka
        obtain ⟨xs, hx1, hx2⟩ := hka'
        cases hx2 with
        | cons r tt =>
          cases tt
          obtain ⟨u, rfl, hu⟩ := r
          refine ⟨_, rfl, t, _, 0, _, et, rfl, SqT.of ht5, rfl, z.1.2.1, _, 0, _, rfl, rfl, SqT.of hx1, rfl, _, rfl, t, _, 1, _, et, rfl, SqT.of ht5, rfl, by show 2 ≤ sizeLine; decide, fun p5 hp5 => ?_⟩
          have e6 := Ex.new (o := HO.tup [V.ref u, z.1.2.2]) hp5
          refine k1 _ _ e6 ⟨p5, u, rfl, upd_same, ?_⟩
          rw [ekm]
          exact e6.tup hu
      · obtain ⟨ks', r1, r2, r3, r4⟩ := rows_gen (kf := fun z : (Ky × Addr × V) × V => Ky.flat (kyM z.1.1)) (vf := fun z => z.1.2.2) hP5
        have hkl' : ks'.length ≤ 1000 := by
          have h1 : ks'.length = (ks'.map (·.1)).length := (List.length_map ..).symm
          rw [h1, r2, List.length_map]
          omega
        have hkk : cs.map (fun z => Ky.flat (kyM z.1.1)) = L'.map Ky.flat := by
          have h1 : cs.map (fun z => Ky.flat (kyM z.1.1)) = (ks.map (·.1)).map (fun k => Ky.flat (kyM k)) := by rw [← q1, List.map_map, List.map_map]; rfl
          rw [h1, hM3.keys]
          unfold mkOf
          rw [List.map_map, List.map_map]
          rfl
        have hnd : (ks'.map (·.1)).Nodup := by
          rw [r2, hkk]
          exact List.Pairwise.map _ (fun a b hab h => hab (by cases h; rfl)) (hL'.symm.nodup (maps_nd hn))
        refine ⟨D, zs, ks', rfl, hD5, r1, hkl', hnd, r3, fun d' ob' hd' hDN' => ?_⟩
        have e45 := e4.trans e5
        have e3d := e45.then_new (o := fz d' ob') hd'
        have hMk := rows_mk (K := K) (H := upd H5 d' (fz d' ob')) (oF := fun z : (Ky × Addr × V) × V => some ((f (kyM z.1.1)).map V.int)) r4 fun z hz => by
          obtain ⟨m, hmL, ekm, hv⟩ := mem3 z.1 (memk z hz)
          rw [ekm]
          exact hv.ex e3d
        refine q _ d' _ (e03.trans e3d.toJ) (hj3.ex e3d) (Ne.symm ((hj3.ex e45).ne hd')) (.dct hDN' hMk ?_)
        rw [List.all_eq_true]
        intro a ha
        obtain ⟨z, hz, e⟩ := List.mem_map.mp ha
        obtain ⟨m, hmL, ekm, hv⟩ := mem3 z.1 (memk z hz)
        rw [← e]
        show Ky.ok (Ky.flat (kyM z.1.1)) = true
        rw [ekm]
        have h1 := map_rng hn (hL'.mem_iff.mp hmL)
        have h2 := pw2_rng hn
        exact decide_eq_true (by show m.length ≠ 1; omega)
    refine ⟨_, rfl, rfl, _, rfl, iteFc (by simp [g4]) ?_⟩
    refine ⟨_, rfl, _, rfl, j, n, rfl, hn, hj3, fun H5 p m e35 hj5 hm hp => ⟨_, rfl, _, rfl, by show 1 ≤ sizeLine; decide, fun p5 hp5 => ?_⟩⟩
    exact finO H5 (.ref p) _ (e03.trans e35) hj5 (hD3.exJ e35 hd0j) (.tup hp (kn_ints fun _ h => h)) p5 hp5 (e35.tup ho3) _ fun H' h => ⟨_, rfl, h⟩
end
end Hw
/-! _law_settled -/
namespace Hw
open PySem PySem.Spec PyProof.Rows L2
/-- the fixed maps, and of them those under (above) all -/
def fixM (L : List (List Int)) (as : Mk) : List (List Int) := L.filter fun m => decide (valA as m = m)
def endM (L : List (List Int)) (as : Mk) (kp : Bool) : List (List Int) := (fixM L as).filter fun m => ((fixM L as).all fun o => if kp = true then subM o m else subM m o)
theorem pmap {α : Type} {F : List Int → V → Prop} {p : α → List Int} {r : α → V} : ∀ {l : List α}, (∀ z ∈ l, F (p z) (r z)) → Paired F (l.map p) (l.map r)
  | [], _ => .nil
  | z :: l, h => .cons (h z List.mem_cons_self) (pmap fun x hx => h x (List.mem_cons_of_mem _ hx))
section
variable {P : Program} {w : World} {K : PySem.W.Frag} {mg : Str → Option Value} {base : Heap} {C : Addr}
abbrev sLS : Stmt := topS 47
abbrev nLS : List Str := ["_law_making", "_law_listed", "_law_is_keep", "_law_fixed", "_law_one", "_law_other"]
theorem scLS : FnScope nLS ["_law_making", "_law_listed", "_law_is_keep"] (defScope sLS) := ⟨rfl, rfl, rfl, by decide +kernel, rfl, by decide +kernel, by decide +kernel⟩
def spLS (w : World) (K : PySem.W.Frag) : Sp := fun vs H Q _ => ∃ (d l : Addr) (n : Int) (kp : Bool) (L : List (List Int)) (as : Mk) (ks : List (Ky × Addr × V)), vs = [.ref d, .ref l, .bl kp] ∧ N12 n ∧ ListedAt H l n L ∧ DN w H d ks ∧ MkAt K H as ks ∧ makB n as = true ∧
  ∀ H' p ys, Ex H H' → H' p = some (.lst ys) → Paired (fun r y => TupI r y H') (endM L as kp) ys → Q (.ref p) H'
set_option maxHeartbeats 16000000 in
theorem ok_LS {f : Addr} {fd : FuncData} {k : Nat} (F : Fun K "_law_settled" "_law_settled" sLS f fd) (c3 : Ca P w K mg base CX0 k "_law_is_under" ["_law_one", "_law_other"] spMP) : FnOk P w K mg base CX0 (k + 1) f fd ["_law_making", "_law_listed", "_law_is_keep"] (spLS w K) := by
  refine F.ok scLS (fun vs H Q E h => ?_) (fun cdv A outer s H vs Q E hr h => ?_)
  · obtain ⟨d, l, n, kp, L, as, ks, rfl, _⟩ := h
    rfl
  · obtain ⟨d, l, n, kp, L, as, ks, rfl, hn, ⟨ys, hys, hP, hL⟩, hDN, hM, hB, q⟩ := h
    have hu : A.units + 3 + 16 * k + 200 < cLine := hr.un
    refine ⟨_, pss_cons (ps_set (i := 3) scLS.nd rfl (Or.inr rfl) (pe_lc (own := [("_law_one", 4)]) (g := gName 4) rfl scLS.nd (pi_list (pv 1)) (blkOk_by (N := nLS) (sc := defScope sLS) (by decide +kernel))
          (fun _ _ _ _ _ => pg_name (i := 4) scLS.nd rfl (Or.inl rfl)) (fun _ _ _ _ _ => pts_one (pt_cmpR (eqK K (by show A.units + 3 + _ < cLine; omega)) (pe_ix (ixDK w (by show A.units + 3 + _ < cLine; omega)) (pv 0) (pe_tup (pa_cons (pv 4) pa_nil)) (fun _ _ => rfl)) (pv 4) (nomark _))) (fun _ _ _ _ _ => pv 4)))
      (pss_cons (ps_if (pt_val (pv 2)) (pss_one (ps_ret (pe_lc (own := [("_law_one", 4)]) (g := gName 4) rfl scLS.nd (pi_list (pv 3)) (blkOk_by (N := nLS) (sc := defScope sLS) (by decide +kernel))
          (fun _ _ _ _ _ => pg_name (i := 4) scLS.nd rfl (Or.inr rfl)) (fun _ _ _ _ _ => pts_one (pt_cmpR (eqK K (by show A.units + 3 + _ < cLine; omega)) (pe_lc (own := [("_law_other", 5)]) (g := gName 5) rfl scLS.nd (piLK K (pv 3)) (blkOk_by (N := nLS) (by kernel_rfl))
            (fun _ _ _ _ _ => pg_name (i := 5) scLS.nd rfl (Or.inl rfl)) (fun _ _ _ _ _ => pts_one (pt_not (pt_val (pe_ca c3 hr (by rfl) pass0 (pa_cons (pv 5) (pa_cons (pv 4) pa_nil)))))) (fun _ _ _ _ _ => pe_int)) (pe_lst pa_nil) (nomark _))) (fun _ _ _ _ _ => pv 4)))) pss_nil)
      (pss_one (ps_ret (pe_lc (own := [("_law_one", 4)]) (g := gName 4) rfl scLS.nd (pi_list (pv 3)) (blkOk_by (N := nLS) (sc := defScope sLS) (by decide +kernel))
          (fun _ _ _ _ _ => pg_name (i := 4) scLS.nd rfl (Or.inr rfl)) (fun _ _ _ _ _ => pts_one (pt_cmpR (eqK K (by show A.units + 3 + _ < cLine; omega)) (pe_lc (own := [("_law_other", 5)]) (g := gName 5) rfl scLS.nd (piLK K (pv 3)) (blkOk_by (N := nLS) (by kernel_rfl))
            (fun _ _ _ _ _ => pg_name (i := 5) scLS.nd rfl (Or.inl rfl)) (fun _ _ _ _ _ => pts_one (pt_not (pt_val (pe_ca c3 hr (by rfl) pass0 (pa_cons (pv 4) (pa_cons (pv 5) pa_nil)))))) (fun _ _ _ _ _ => pe_int)) (pe_lst pa_nil) (nomark _))) (fun _ _ _ _ _ => pv 4))))), ?_⟩
    have em : makB n as = (decide (as.length = cntM n) && (as.all (fun a => keyKy n a.1) && (as.all (fun a => monB n a.2) && upB n as))) := rfl
    rw [em, Bool.and_eq_true, Bool.and_eq_true, Bool.and_eq_true] at hB
    obtain ⟨hl, hk, hv, _⟩ := hB
    have hcn : cntM n ≤ 36 := by rcases hn with rfl | rfl <;> decide
    have hp := pw2_rng hn
    obtain ⟨us, u1, u2, u3⟩ := paired_zip hP
    have hul : us.length = cntM n := by rw [← List.length_map (f := Prod.fst), u1, hL.length_eq, maps_len hn]
    have mem_of : ∀ z ∈ us, z.1 ∈ mapsM n := fun z hz => hL.mem_iff.mp (by rw [← u1]; exact List.mem_map_of_mem hz)
    have hndk : (as.map (·.1)).Nodup := by rw [← hM.keys]; exact hDN.nd
    have hkall := keys_all hn hndk (of_decide_eq_true hl) hk
    refine ⟨_, rfl, l, rfl, ⟨_, SqL.of hys⟩, fun D hD => ?_⟩
    refine lcT us (fun z => decide (valA as z.1 = z.1)) (fun z y _ => y = z.2) hD ((w0_listP (E := Ex) (p := Prod.snd) fun H' e' => SqL.ex e' (SqL.of (by rw [u2]; exact hys))).wk Ex.refl) (by omega) (fun _ _ _ _ _ h => h) (fun _ => rfl) (fun z x H2 Qk Qs hz e2 hY k1 k2 => ?_) fun H2 zs e2 hD2 hP2 => ?_
    · subst hY
      obtain ⟨t1, ht1, ht1'⟩ := u3 z hz
      obtain ⟨b1, w1, w1', w1''⟩ := look_ok hn hM (hkall _ (mem_of z hz)) hv
      refine ⟨_, rfl, _, rfl, by show 1 ≤ sizeLine; decide, fun p5 hp5 => ⟨d, ks, p5, .one z.1 [], .ref b1, rfl, rfl, hDN.ex (e2.then_new hp5), TupI.new hp5 ⟨t1, ht1, e2.tup ht1'⟩, w1, _, rfl, ?_⟩⟩
      have e5 := e2.then_new (o := .tup [z.2]) hp5
      refine ⟨_, _, dp_tup (e5.tup w1'), (by have q := dp_tup (K := K) (e5.tup ht1'); rw [← ht1] at q; exact q), shaped_tup _, shaped_tup _, _, rfl, ?_⟩
      rw [eqv_tup]
      cases hb : decide (valA as z.1 = z.1) with
      | true => exact iteT ⟨_, rfl, k1 _ _ hb (.new hp5) rfl⟩
      | false => exact iteF (k2 _ hb (.new hp5))
    have ez : zs = (us.filter fun z => decide (valA as z.1 = z.1)).map Prod.snd := paired_eq hP2
    have hfx : fixM L as = (us.filter fun z => decide (valA as z.1 = z.1)).map Prod.fst := by
      unfold fixM
      rw [← u1, List.filter_map]
      rfl
    have fmem : ∀ z ∈ us.filter fun z => decide (valA as z.1 = z.1), z ∈ us := fun z hz => (List.mem_filter.mp hz).1
    have hfl : (us.filter fun z => decide (valA as z.1 = z.1)).length ≤ 3000 := Nat.le_trans (List.length_filter_le _ _) (by omega)
    generalize (us.filter fun z => decide (valA as z.1 = z.1)) = fs at *
    subst ez
    have wfs : ∀ {A : Hp}, Ex H2 A → Wk Ex (Itl K D) A fs fun z x _ => x = z.2 := fun {A} e => (w0_listP (E := Ex) (p := Prod.snd) fun H' e' => SqL.ex e' (SqL.of (e.lst hD2))).wk Ex.refl
    refine ⟨_, rfl, _, rfl, ?_⟩
    cases kp with
    | true =>
      refine iteT ⟨_, rfl, D, rfl, ⟨_, SqL.of hD2⟩, fun D3 hD3 => ?_⟩
      refine lcT fs (fun z => fs.all fun z8 => subM z8.1 z.1) (fun z y _ => y = z.2) hD3 (wfs (.refl _)) hfl (fun _ _ _ _ _ h => h) (fun _ => rfl) (fun z x H3 Qk Qs hz e3 hY k1 k2 => ?_) fun H3 zs3 e3 hD3' hP3 => ?_
      · subst hY
        obtain ⟨t1, ht1, ht1'⟩ := u3 z (fmem z hz)
        have l1 := map_rng hn (mem_of z (fmem z hz))
        refine ⟨_, rfl, D, rfl, ⟨_, SqL.of (e3.lst hD2)⟩, fun D4 hD4 => ?_⟩
        refine lcT fs (fun z8 => !(subM z8.1 z.1)) (fun _ y _ => y = .int 1) hD4 (wfs e3) hfl (fun _ _ _ _ _ h => h) (fun _ => rfl) (fun z8 x8 H4 Qk8 Qs8 hz8 e4 hY8 j1 j2 => ?_) fun H4 zs4 e4 hD4' hP4 => ?_
        · subst hY8
          obtain ⟨t8, ht8, ht8'⟩ := u3 z8 (fmem z8 hz8)
          have l8 := map_rng hn (mem_of z8 (fmem z8 hz8))
          have e48 := (e2.trans e3).trans e4
          refine ⟨_, rfl, _, rfl, t8, t1, z8.1, z.1, by rw [ht8, ht1], e48.tup ht8', e48.tup ht1', by omega, by omega, fun H5 e5 => ⟨_, rfl, ?_⟩⟩
          cases hs : subM z8.1 z.1 with
          | true => exact iteF (j2 H5 (by rw [hs]; rfl) e5)
          | false => exact iteT (j1 _ H5 (by rw [hs]; rfl) e5 rfl)
        have ez := ones_of hP4
        subst ez
        refine ⟨by show 0 ≤ sizeLine; decide, fun D5 hD5 => ⟨_, _, ones_dp (by rw [upd_ne (ne_of_none hD4' hD5)]; exact hD4'), nil_dp upd_same, shaped_lst _, shaped_lst [], _, rfl, ?_⟩⟩
        rw [eqv_nil, List.isEmpty_map, filt_all]
        cases hb : fs.all fun z8 => subM z8.1 z.1 with
        | true => exact iteT ⟨_, rfl, k1 _ _ hb (e4.then_new hD5) rfl⟩
        | false => exact iteF (k2 _ hb (e4.then_new hD5))
      · have ez : zs3 = (fs.filter fun z => fs.all fun z8 => subM z8.1 z.1).map Prod.snd := paired_eq hP3
        refine q H3 D3 zs3 (e2.trans e3) hD3' ?_
        have hend : endM L as true = (fs.filter fun z => fs.all fun z8 => subM z8.1 z.1).map Prod.fst := by
          unfold endM
          rw [hfx, List.filter_map]
          congr 1
          refine List.filter_congr fun z _ => ?_
          show ((fs.map Prod.fst).all _) = _
          rw [List.all_map]
          rfl
        rw [hend, ez]
        exact pmap fun z hz => (u3 z (fmem z (List.mem_filter.mp hz).1)).tk (e2.trans e3).tk
    | false =>
      refine iteF ⟨_, rfl, D, rfl, ⟨_, SqL.of hD2⟩, fun D3 hD3 => ?_⟩
      refine lcT fs (fun z => fs.all fun z8 => subM z.1 z8.1) (fun z y _ => y = z.2) hD3 (wfs (.refl _)) hfl (fun _ _ _ _ _ h => h) (fun _ => rfl) (fun z x H3 Qk Qs hz e3 hY k1 k2 => ?_) fun H3 zs3 e3 hD3' hP3 => ?_
      · subst hY
        obtain ⟨t1, ht1, ht1'⟩ := u3 z (fmem z hz)
        have l1 := map_rng hn (mem_of z (fmem z hz))
        refine ⟨_, rfl, D, rfl, ⟨_, SqL.of (e3.lst hD2)⟩, fun D4 hD4 => ?_⟩
        refine lcT fs (fun z8 => !(subM z.1 z8.1)) (fun _ y _ => y = .int 1) hD4 (wfs e3) hfl (fun _ _ _ _ _ h => h) (fun _ => rfl) (fun z8 x8 H4 Qk8 Qs8 hz8 e4 hY8 j1 j2 => ?_) fun H4 zs4 e4 hD4' hP4 => ?_
        · subst hY8
          obtain ⟨t8, ht8, ht8'⟩ := u3 z8 (fmem z8 hz8)
          have l8 := map_rng hn (mem_of z8 (fmem z8 hz8))
          have e48 := (e2.trans e3).trans e4
          refine ⟨_, rfl, _, rfl, t1, t8, z.1, z8.1, by rw [ht8, ht1], e48.tup ht1', e48.tup ht8', by omega, by omega, fun H5 e5 => ⟨_, rfl, ?_⟩⟩
          cases hs : subM z.1 z8.1 with
          | true => exact iteF (j2 H5 (by rw [hs]; rfl) e5)
          | false => exact iteT (j1 _ H5 (by rw [hs]; rfl) e5 rfl)
        have ez := ones_of hP4
        subst ez
        refine ⟨by show 0 ≤ sizeLine; decide, fun D5 hD5 => ⟨_, _, ones_dp (by rw [upd_ne (ne_of_none hD4' hD5)]; exact hD4'), nil_dp upd_same, shaped_lst _, shaped_lst [], _, rfl, ?_⟩⟩
        rw [eqv_nil, List.isEmpty_map, filt_all]
        cases hb : fs.all fun z8 => subM z.1 z8.1 with
        | true => exact iteT ⟨_, rfl, k1 _ _ hb (e4.then_new hD5) rfl⟩
        | false => exact iteF (k2 _ hb (e4.then_new hD5))
      · have ez : zs3 = (fs.filter fun z => fs.all fun z8 => subM z.1 z8.1).map Prod.snd := paired_eq hP3
        refine q H3 D3 zs3 (e2.trans e3) hD3' ?_
        have hend : endM L as false = (fs.filter fun z => fs.all fun z8 => subM z.1 z8.1).map Prod.fst := by
          unfold endM
          rw [hfx, List.filter_map]
          congr 1
          refine List.filter_congr fun z _ => ?_
          show ((fs.map Prod.fst).all _) = _
          rw [List.all_map]
          rfl
        rw [hend, ez]
        exact pmap fun z hz => (u3 z (fmem z (List.mem_filter.mp hz).1)).tk (e2.trans e3).tk
end
end Hw
/-! the least and the greatest fixed map, plainly -/
namespace Hw
open PySem PySem.Spec PyProof.Rows L2
def sumL (m : List Int) : Int := m.foldl (· + ·) 0
/-- below, or above -/
def leK (kp : Bool) (a b : List Int) : Bool := if kp = true then subM b a else subM a b
def rankK (kp : Bool) (m : List Int) : Nat := if kp = true then (sumL m).toNat else (12 - sumL m).toNat
def rankB (n : Int) : Bool := (prs (mapsM n) (mapsM n)).all fun p => !(subM p.1 p.2) || decide (p.1 = p.2) || (decide (rankK true p.1 < rankK true p.2) && decide (rankK false p.2 < rankK false p.1))
theorem rank1 : rankB 1 = true := by decide +kernel
theorem rank2 : rankB 2 = true := by decide +kernel
theorem rank_ok {n : Int} (h : N12 n) : rankB n = true := by
  rcases h with rfl | rfl
  · exact rank1
  · exact rank2
theorem leK_rank {n : Int} (h : N12 n) {kp : Bool} {a b : List Int} (ha : a ∈ mapsM n) (hb : b ∈ mapsM n) (s : leK kp a b = true) : a = b ∨ rankK kp b < rankK kp a := by
  have q := List.all_eq_true.mp (rank_ok h)
  cases kp with
  | true =>
    have s' : subM b a = true := s
    have q1 := q (b, a) (mem_prs.mpr ⟨hb, ha⟩)
    simp only [s', Bool.not_true, Bool.false_or, Bool.or_eq_true, Bool.and_eq_true, decide_eq_true_eq] at q1
    rcases q1 with e | e
    · exact .inl e.symm
    · exact .inr e.1
  | false =>
    have s' : subM a b = true := s
    have q1 := q (a, b) (mem_prs.mpr ⟨ha, hb⟩)
    simp only [s', Bool.not_true, Bool.false_or, Bool.or_eq_true, Bool.and_eq_true, decide_eq_true_eq] at q1
    rcases q1 with e | e
    · exact .inl e
    · exact .inr e.2
theorem leK_anti {n : Int} (h : N12 n) {kp : Bool} {a b : List Int} (ha : a ∈ mapsM n) (hb : b ∈ mapsM n) (s : leK kp a b = true) (s' : leK kp b a = true) : a = b := by
  rcases leK_rank h ha hb s with e | e
  · exact e
  · rcases leK_rank h hb ha s' with e' | e'
    · exact e'.symm
    · omega
theorem start_ok {n : Int} (h : N12 n) (kp : Bool) : startM n kp ∈ mapsM n ∧ ∀ m ∈ mapsM n, leK kp (startM n kp) m = true := by
  have q : ((mapsM n).contains (startM n kp) && (mapsM n).all fun m => leK kp (startM n kp) m) = true := by
    rcases h with rfl | rfl <;> cases kp <;> decide +kernel
  rw [Bool.and_eq_true] at q
  exact ⟨by simpa using q.1, List.all_eq_true.mp q.2⟩
theorem sub_rfl {n : Int} (h : N12 n) : ∀ m ∈ mapsM n, subM m m = true := by
  have q : ((mapsM n).all fun m => subM m m) = true := by rcases h with rfl | rfl <;> decide +kernel
  exact List.all_eq_true.mp q
section
variable {n : Int} {f : List Int → List Int} {kp : Bool}
theorem leK_mono (g : Good n f) {a b : List Int} (ha : a ∈ mapsM n) (hb : b ∈ mapsM n) (s : leK kp a b = true) : leK kp (f a) (f b) = true := by
  cases kp with
  | true => exact g.mono b hb a ha s
  | false => exact g.mono a ha b hb s
theorem iter_mem (h : N12 n) (g : Good n f) : ∀ i, iter f i (startM n kp) ∈ mapsM n
  | 0 => (start_ok h kp).1
  | i + 1 => by
    rw [iter_succ]
    exact g.mem _ (iter_mem h g i)
theorem iter_up (h : N12 n) (g : Good n f) : ∀ i, leK kp (iter f i (startM n kp)) (iter f (i + 1) (startM n kp)) = true
  | 0 => (start_ok h kp).2 _ (iter_mem h g 1)
  | i + 1 => by
    rw [iter_succ f (i + 1), iter_succ f i]
    have q := iter_up h g i
    rw [iter_succ f i] at q
    exact leK_mono g (iter_mem h g i) (g.mem _ (iter_mem h g i)) q
theorem iter_below (h : N12 n) (g : Good n f) {m : List Int} (hm : m ∈ mapsM n) (e : f m = m) : ∀ i, leK kp (iter f i (startM n kp)) m = true
  | 0 => (start_ok h kp).2 _ hm
  | i + 1 => by
    rw [iter_succ]
    have q := leK_mono g (iter_mem h g i) hm (iter_below h g hm e i)
    rw [e] at q
    exact q
theorem iter_ends (h : N12 n) (g : Good n f) : ∀ (r i : Nat), rankK kp (iter f i (startM n kp)) ≤ r → ∃ N, f (iter f N (startM n kp)) = iter f N (startM n kp)
  | r, i, hr => by
    rcases leK_rank h (iter_mem h g i) (iter_mem h g (i + 1)) (iter_up (kp := kp) h g i) with e | e
    · exact ⟨i, (iter_succ f i (startM n kp)).symm.trans e.symm⟩
    · cases r with
      | zero => omega
      | succ r => exact iter_ends h g r (i + 1) (by omega)
/-- it settles -/
theorem settles (h : N12 n) (g : Good n f) (kp : Bool) : ∃ N, (∀ i, i ≤ N → iter f i (startM n kp) ∈ mapsM n) ∧ f (iter f N (startM n kp)) = iter f N (startM n kp) ∧ ∀ m ∈ mapsM n, f m = m → leK kp (iter f N (startM n kp)) m = true := by
  obtain ⟨N, hN⟩ := iter_ends (kp := kp) h g _ 0 (Nat.le_refl _)
  exact ⟨N, fun i _ => iter_mem h g i, hN, fun m hm e => iter_below h g hm e N⟩
end
theorem filter_one {α : Type} {p : α → Bool} {x : α} : ∀ {l : List α}, l.Nodup → x ∈ l → (∀ y ∈ l, p y = true ↔ y = x) → l.filter p = [x]
  | [], _, hx, _ => by cases hx
  | y :: l, hn, hx, hp => by
    rw [List.nodup_cons] at hn
    by_cases e : y = x
    · subst e
      rw [List.filter_cons, if_pos ((hp y List.mem_cons_self).mpr rfl)]
      have z : l.filter p = [] := by
        rw [List.filter_eq_nil_iff]
        intro z hz q
        have := (hp z (List.mem_cons_of_mem _ hz)).mp q
        rw [this] at hz
        exact hn.1 hz
      rw [z]
    · rw [List.filter_cons, if_neg (fun q => e ((hp y List.mem_cons_self).mp q))]
      rcases List.mem_cons.mp hx with q | q
      · exact absurd q.symm e
      · exact filter_one hn.2 q fun z hz => hp z (List.mem_cons_of_mem _ hz)
theorem mak_good {n : Int} (hn : N12 n) {K : PySem.W.Frag} {H : Hp} {as : Mk} {ks : List (Ky × Addr × V)} (hM : MkAt K H as ks) (hnd : (ks.map (·.1)).Nodup) (hB : makB n as = true) : Good n (valA as) := by
  have em : makB n as = (decide (as.length = cntM n) && (as.all (fun a => keyKy n a.1) && (as.all (fun a => monB n a.2) && upB n as))) := rfl
  rw [em, Bool.and_eq_true, Bool.and_eq_true, Bool.and_eq_true] at hB
  obtain ⟨hl, hk, hv, hu⟩ := hB
  have hndk : (as.map (·.1)).Nodup := by rw [← hM.keys]; exact hnd
  have hkall := keys_all hn hndk (of_decide_eq_true hl) hk
  refine ⟨fun m hm => ?_, fun a ha b hb s => ?_⟩
  · obtain ⟨b1, _, _, w⟩ := look_ok hn hM (hkall m hm) hv
    exact (mon_iff hn _).mp w
  · exact List.all_eq_true.mp hu (a, b) (List.mem_filter.mpr ⟨mem_prs.mpr ⟨ha, hb⟩, s⟩)
theorem end_one {n : Int} (hn : N12 n) {L : List (List Int)} (hL : L.Perm (mapsM n)) {as : Mk} (g : Good n (valA as)) {kp : Bool} {x : List Int} (hx : x ∈ mapsM n) (fx : valA as x = x) (hle : ∀ m ∈ mapsM n, valA as m = m → leK kp x m = true) : endM L as kp = [x] := by
  have hnd : (fixM L as).Nodup := List.Nodup.sublist List.filter_sublist (hL.symm.nodup (maps_nd hn))
  have mem_fix : ∀ m, m ∈ fixM L as ↔ m ∈ mapsM n ∧ valA as m = m := fun m => by
    unfold fixM
    rw [List.mem_filter, hL.mem_iff, decide_eq_true_eq]
  unfold endM
  refine filter_one hnd ((mem_fix x).mpr ⟨hx, fx⟩) fun y hy => ?_
  obtain ⟨hy1, hy2⟩ := (mem_fix y).mp hy
  rw [List.all_eq_true]
  constructor
  · intro q
    exact leK_anti hn hy1 hx (q x ((mem_fix x).mpr ⟨hx, fx⟩)) (hle y hy1 hy2)
  · rintro rfl o ho
    obtain ⟨ho1, ho2⟩ := (mem_fix o).mp ho
    exact hle o ho1 ho2
end Hw
/-! repr of nested lists: it asks that nothing is being shown around it; defs that are called so -/
namespace Hw
open PySem PySem.Spec PyProof.Rows L2
section
variable {X : Cx}
/-- repr of a list or tuple that stands -/
def rReprD (K : PySem.W.Frag) : List V → Hp → VK → Prop := fun xs H Q => ∃ a d, xs = [.ref a] ∧ Dp K H (.ref a) d ∧ d.showable = true ∧ d.hasDict = false ∧ d.depth ≤ 8 ∧ d.shown.length ≤ sizeLine ∧ Q (.str d.shown) H
theorem call_reprD (hG : X.A.guards = some []) (hu : X.A.units + 80 < cLine) : CallR X (.builtin "repr") (rReprD X.K) := by
  intro pins s σ H xs us Q I r h
  obtain ⟨a, d, rfl, hd, hs, hn, hdp, hsz, q⟩ := h
  obtain ⟨u, rfl, hu1⟩ := vals1 r
  obtain rfl : u = Value.ref a := hu1
  obtain ⟨as, rd⟩ := Dp.reads I d _ _ hd rfl
  exact repr_of_reads' rd hs (PyData.noDict_hsm hn) hG (by omega) (fun _ _ e => e) (fun h' u tk k => ⟨.str _, H, I.kept k, ⟨_, rfl⟩, q⟩) hsz
theorem call_reprB : CallR X (.builtin "repr") (fun xs H Q => ∃ b : Bool, xs = [.bl b] ∧ Q (.str (if b = true then "True" else "False")) H) := by
  intro pins s σ H xs us Q I r h
  obtain ⟨b, rfl, q⟩ := h
  obtain ⟨u, rfl, hu1⟩ := vals1 r
  obtain rfl : u = Value.bool b := hu1
  exact PySem.P.repr_of_bool ⟨.str _, H, I.tok _, ⟨_, rfl⟩, q⟩
end
/-- what a call asks whose body shows lists: nothing is being shown around it -/
structure FnG (P : Program) (w : World) (K : PySem.W.Frag) (mg : Str → Option Value) (base : Heap) (k : Nat) (f : Addr) (fd : FuncData) (ps : List Str) (sp : Sp) : Prop where
  run : ∀ (A : Around) (outer : List Env) (s : Shared) (H : Hp) (us : List Value) (vs : List V) (Q : VK), A.guards = some [] → Room k A → Env0 P w K mg base A outer s H → Vals vs us → vs.length = ps.length → BindsTo s fd ⟨us, []⟩ (ps.zip us) → sp vs H Q E0 →
    codeAny (model P w) A (.call (.ref f) ⟨us, []⟩) (CR CX0 outer P w H s Q E0) s
structure CaG (P : Program) (w : World) (K : PySem.W.Frag) (mg : Str → Option Value) (base : Heap) (k : Nat) (x : Str) (ps : List Str) (sp : Sp) : Prop where
  ex : ∃ (f : Addr) (fd : FuncData), FnG P w K mg base k f fd ps sp ∧ mg x = some (.ref f) ∧ PySem.W.keepIn K (.ref f) = true ∧ Binds K fd ps []
  len : ∀ vs H Q, sp vs H Q E0 → vs.length = ps.length
section
variable {P : Program} {w : World} {K : PySem.W.Frag} {mg : Str → Option Value} {base : Heap}
theorem DefAt.caG {x : Str} {st : Stmt} {ps : List Str} {f : Addr} {fd : FuncData} {k : Nat} {sp : Sp} (D : DefAt K mg x st ps f fd) (F : FnG P w K mg base k f fd ps sp) (len : ∀ vs H Q, sp vs H Q E0 → vs.length = ps.length) : CaG P w K mg base k x ps sp :=
  ⟨⟨f, fd, F, D.g, D.F.kp, D.b⟩, len⟩
/-- a def, by its body -/
theorem okG {x qual : Str} {st : Stmt} {f : Addr} {fd : FuncData} {N ps : List Str} {k : Nat} {sp : Sp} (F : Fun K x qual st f fd) (S : FnScope N ps (defScope st))
    (body : ∀ (cdv : Value) (A : Around) (outer : List Env) (s : Shared) (H : Hp) (vs : List V) (Q : VK), A.guards = some [] → Room k (A.deeper (envOfC qual (defScope st) s.heap.objs.size f cdv)) → sp vs H Q E0 →
      ∃ t, PSs (cxOf CX0 P w K mg base N qual (defScope st) f cdv A outer s H E0).nox (defBody st) t ∧ t { nx := fun _ H' => Q .non H', rt := Q } (L2.start N vs) H) : FnG P w K mg base (k + 1) f fd ps sp := by
  obtain ⟨oc, od, kV, doc, pm, an, cdv, ct, osl, rfl, lk, hcd⟩ := F.ex
  refine ⟨fun A outer s H us vs Q hG hr e0 r hl hb hsp => LamX.run_ofS lk hcd S hr e0 hb r hl fun hr' => ?_⟩
  obtain ⟨t, h, q⟩ := body cdv A outer s H vs Q hG hr' hsp
  exact ⟨t, h.nox, q⟩
/-- .. one that makes lambdas: its code object is known -/
theorem okGL {x : Str} {st : Stmt} {c f : Addr} {fd : FuncData} {N ps : List Str} {k : Nat} {sp : Sp} (F : MkD K x st c [] f fd) (S : FnScope N ps (defScope st))
    (body : ∀ (A : Around) (outer : List Env) (s : Shared) (H : Hp) (vs : List V) (Q : VK), A.guards = some [] → Room k (A.deeper (envOfC x (defScope st) s.heap.objs.size f (.ref c))) → sp vs H Q E0 →
      ∃ t, PSs (cxOf CX0 P w K mg base N x (defScope st) f (.ref c) A outer s H E0).nox (defBody st) t ∧ t { nx := fun _ H' => Q .non H', rt := Q } (L2.start N vs) H) : FnG P w K mg base (k + 1) f fd ps sp := by
  obtain ⟨oc, od, kV, doc, pm, an, ct, osl, rfl, lk, hcd, kv⟩ := F.ex
  refine ⟨fun A outer s H us vs Q hG hr e0 r hl hb hsp => LamX.run_ofS lk hcd S hr e0 hb r hl fun hr' => ?_⟩
  obtain ⟨t, h, q⟩ := body A outer s H vs Q hG hr' hsp
  exact ⟨t, h.nox, q⟩
end
section
variable {X : Cx} {k : Nat} {ps : List Str} {sp : Sp} {x : Str} {p pos : Pos} {e : Expr} {es : List Expr} {t : TA}
/-- its call by name -/
theorem pe_caG (c : CaG X.prog X.w X.K X.mg X.base k x ps sp) (hG : X.A.guards = some []) (hr : Room k X.A) (hg : Gl X x) (ha : PA X (e :: es) t) (hdb : (x == ("__debug__" : Str)) = false := by decide)
    (he : starEach (e :: es) X.env = (false, eval e X.env) :: starEach es X.env := by rfl) (hpl : (backTo pos (starEach es X.env)).any (·.1) = false := by rfl) : PE X (.Call (.Name x p) (e :: es) [] pos) (tCa sp E0 t) := by
  obtain ⟨f, fd, F, hm, hk, hb⟩ := c.ex
  refine ⟨fun pins s σ H Q I h => wpAny_Call_Name_kw (ld_glob I hg hm ?_ hdb)⟩
  refine PySem.W.callWith_K (h₀ := X.base) I.ok.mod.kin hk (thn (ha.run pos pins s σ H _ I h) fun us s1 ⟨vs, H1, I1, r, q⟩ => ⟨I1.kIn, ?_⟩) he hpl
  have hl := c.len _ _ _ q
  have hlu : (us ++ []).length = ps.length := by rw [List.append_nil, ← r.length, hl]
  have hbt := hb s1 us I1.kIn hlu
  rw [List.append_nil] at hbt
  refine wpAny_call (codeAny_mono (F.run X.A X.stack s1 H1 us vs Q hG hr I1.env0 r hl hbt q) fun res s' hq => ?_)
  match res, hq with
  | .ok (.ret u), hq => exact I1.after hq
  | .ok .next, hq => exact hq.elim
  | .ok .brk, hq => exact hq.elim
  | .ok .cont, hq => exact hq.elim
  | .error e, hq => exact (show False from hq).elim
end
end Hw
/-! _law_settled_right -/
namespace Hw
open PySem PySem.Spec PyProof.Rows L2
/-! ### three maps in a list, shown -/
def told3 (x y z : List Int) : PyData := .list [.tuple (x.map PyData.int), .tuple (y.map PyData.int), .tuple (z.map PyData.int)]
theorem weight_ints : ∀ ns : List Int, (∀ i ∈ ns, 0 ≤ i ∧ i ≤ 3) → PyData.weightAll (ns.map PyData.int) ≤ 3 * ns.length
  | [], _ => by rw [List.map_nil, PyData.weightAll]; exact Nat.zero_le _
  | n :: r, h => by
    have ih := weight_ints r fun i hi => h i (List.mem_cons_of_mem _ hi)
    have hn := h n List.mem_cons_self
    have w : PyData.weight (.int n) ≤ 2 := by
      have e : n = 0 ∨ n = 1 ∨ n = 2 ∨ n = 3 := by omega
      rcases e with rfl | rfl | rfl | rfl <;> decide
    rw [List.map_cons, PyData.weightAll, List.length_cons]
    omega
structure Shows (d : PyData) : Prop where
  s : d.showable = true
  n : d.hasDict = false
  dp : d.depth ≤ 8
  l : d.shown.length ≤ sizeLine
theorem told3_shows {n : Int} (h : N12 n) {x y z : List Int} (hx : x ∈ mapsM n) (hy : y ∈ mapsM n) (hz : z ∈ mapsM n) : Shows (told3 x y z) := by
  have rng : ∀ {m : List Int}, m ∈ mapsM n → m.length ≤ 4 ∧ ∀ i ∈ m, 0 ≤ i ∧ i ≤ 3 := fun {m} hm => by
    obtain ⟨h1, h2, _⟩ := monI_parts ((mon_iff h m).mpr hm)
    have hp := pw2_rng h
    refine ⟨by omega, fun i hi => ?_⟩
    have := h2 i hi
    omega
  have sh : ∀ {m : List Int}, m ∈ mapsM n → PyData.showableAll (m.map PyData.int) = true := fun {m} hm => PyData.showableAll_ints m fun i hi => by
    have := (rng hm).2 i hi
    have e : i = 0 ∨ i = 1 ∨ i = 2 ∨ i = 3 := by omega
    rcases e with rfl | rfl | rfl | rfl <;> decide
  have sm : ∀ {m : List Int}, m ∈ mapsM n → PyData.intsShortAll 13 (m.map PyData.int) = true := fun {m} hm => PyData.intsShortAll_ints m fun i hi => by
    have := (rng hm).2 i hi
    have e : i = 0 ∨ i = 1 ∨ i = 2 ∨ i = 3 := by omega
    rcases e with rfl | rfl | rfl | rfl <;> decide
  have hc : (told3 x y z).canLay0 = true := by
    unfold told3
    simp only [PyData.canLay0, PyData.canLayAll0, canlay_ints]
    rfl
  have hdp : (told3 x y z).depth = 2 := by
    unfold told3
    simp only [PyData.depth, PyData.depthAll, depth_ints]
    rfl
  refine ⟨?_, PyData.hasDict_of_canLay _ hc, by rw [hdp]; decide, PyData.shown_fits (B := 13) (by decide) (by decide) (PyData.leavesShort_of_canLay0 13 _ hc ?_) ?_⟩
  · unfold told3
    simp only [PyData.showable, PyData.showableAll, sh hx, sh hy, sh hz]
    rfl
  · unfold told3
    simp only [PyData.intsShort, PyData.intsShortAll, sm hx, sm hy, sm hz]
    rfl
  · unfold told3
    simp only [PyData.weight, PyData.weightAll]
    have w1 := weight_ints x (rng hx).2
    have w2 := weight_ints y (rng hy).2
    have w3 := weight_ints z (rng hz).2
    have l1 := (rng hx).1
    have l2 := (rng hy).1
    have l3 := (rng hz).1
    have e : (2 : Nat) ^ 20 = 1048576 := by decide
    omega
theorem told3_dp {K : PySem.W.Frag} {H : Hp} {p a b c : Addr} {x y z : List Int} (hp : H p = some (.lst [.ref a, .ref b, .ref c])) (ha : H a = some (.tup (x.map V.int))) (hb : H b = some (.tup (y.map V.int))) (hc : H c = some (.tup (z.map V.int))) : Dp K H (.ref p) (told3 x y z) :=
  .lst (SqL.of hp) (.cons (dp_tup ha) (.cons (dp_tup hb) (.cons (dp_tup hc) .nil)))
section
variable {P : Program} {w : World} {K : PySem.W.Frag} {mg : Str → Option Value} {base : Heap} {C CI : Addr}
/-- settled, called by name: with its default, with its keyword -/
structure CaS (P : Program) (w : World) (K : PySem.W.Frag) (mg : Str → Option Value) (base : Heap) (k : Nat) (CI : Addr) : Prop where
  ex : ∃ (f : Addr) (fd : FuncData), FnOk P w K mg base (L2.CX P w) k f fd ["modes", "making", "keep"] (spSet w K CI) ∧ mg "settled" = some (.ref f) ∧ PySem.W.keepIn K (.ref f) = true ∧
    (∃ ds, Vals [V.bl false] ds ∧ Binds K fd ["modes", "making", "keep"] ds) ∧ KBn K fd ["modes", "making", "keep"] 2 ["keep"] (fun us ws => us ++ ws) (fun vs zs => vs ++ zs)
theorem caS_of {f : Addr} {fd : FuncData} {k : Nat} (F : MkD K "settled" sSet 393 [("keep", .bl false)] f fd) (hg : mg "settled" = some (.ref f)) (ok : FnOk P w K mg base (L2.CX P w) k f fd ["modes", "making", "keep"] (spSet w K CI)) : CaS P w K mg base k CI := by
  have D := F.funD
  obtain ⟨ds, r, b⟩ := FunD.binds0 (ps := ["modes", "making", "keep"]) D 2 (by simp) rfl fun D doc pm an cdv ct us ks h1 h2 => by
    match us, ks, h1, h2 with
    | [a, b], [c], _, _ => exact ⟨_, _, _, _, _, _, rfl, rfl, rfl⟩
  obtain ⟨mv, kb⟩ := FunD.kbinds0 (ps := ["modes", "making", "keep"]) D 2 ["keep"] [] (fun us _ ws => us ++ ws) (by simp) (fun _ z => by cases z) (fun r1 _ r3 => r1.append r3) fun D doc pm an cdv ct us mv ws h1 h2 h3 => by
    match us, ws, mv, h1, h3, h2 with
    | [a, b], [c], [], _, _, _ => rfl
  exact ⟨f, fd, ok, hg, F.kp, ⟨ds, r, b⟩, kb⟩
abbrev sSR : Stmt := topS 48
abbrev nSR : List Str := ["_law_making", "_law_modes", "_law_listed", "_law_told", "_law_least", "_law_most"]
theorem scSR : FnScope nSR ["_law_making", "_law_modes", "_law_listed"] (defScope sSR) := ⟨rfl, rfl, rfl, by decide +kernel, rfl, by decide +kernel, by decide +kernel⟩
def spSR (w : World) (K : PySem.W.Frag) : Sp := fun vs H Q _ => ∃ (d l : Addr) (n : Int) (L : List (List Int)) (as : Mk) (ks : List (Ky × Addr × V)), vs = [.ref d, .int n, .ref l] ∧ N12 n ∧ ListedAt H l n L ∧ DN w H d ks ∧ MkAt K H as ks ∧ as.all (fun a => a.1.ok) = true ∧ makB n as = true ∧ LamX.Tabs tbs9 H ∧
  ∀ H', Ex H H' → Q (.bl true) H'
theorem one_of {H : Hp} {x : List Int} {ys : List V} (h : Paired (fun r y => TupI r y H) [x] ys) : ∃ a, ys = [.ref a] ∧ H a = some (.tup (x.map V.int)) := by
  cases h with
  | cons r t =>
    cases t
    obtain ⟨u, rfl, hu⟩ := r
    exact ⟨u, rfl, hu⟩
set_option maxHeartbeats 8000000 in
theorem ok_SR {f : Addr} {fd : FuncData} {k : Nat} (F : Fun K "_law_settled_right" "_law_settled_right" sSR f fd) (Z : Free mg) (c1 : CaS P w K mg base k CI) (c2 : Ca P w K mg base CX0 k "_law_settled" ["_law_making", "_law_listed", "_law_is_keep"] (spLS w K)) :
    FnG P w K mg base (k + 1) f fd ["_law_making", "_law_modes", "_law_listed"] (spSR w K) := by
  obtain ⟨fS, fdS, FS, gS, kS, ⟨ds, rds, bS⟩, kbS⟩ := c1.ex
  refine okG F scSR fun cdv A outer s H vs Q hG hr h => ?_
  obtain ⟨d, l, n, L, as, ks, rfl, hn, hLs, hDN, hM, ho, hB, hT, q⟩ := h
  have hu : A.units + 3 + 16 * k + 200 < cLine := hr.un
  refine ⟨_, pss_cons (ps_set (i := 3) scSR.nd rfl (Or.inl rfl) (pe_lst (pa_cons (pe_call FS hr (by rfl) gS kS bS rds passL (pa_cons (pv 1) (pa_cons (pv 0) pa_nil)))
        (pa_cons (pe_callN FS hr (by rfl) gS kS kbS passL (pa_cons (pv 1) (pa_cons (pv 0) pa_nil)) (pk_cons pe_bl pk_nil))
          (pa_cons (pe_callN FS hr (by rfl) gS kS kbS passL (pa_cons (pv 1) (pa_cons (pv 0) pa_nil)) (pk_cons pe_bl pk_nil)) pa_nil)))))
    (pss_cons (ps_par (i := 4) (j := 5) rfl scSR.nd rfl rfl (by decide) rfl rfl (pa_cons (pe_ca c2 hr (by rfl) pass0 (pa_cons (pv 0) (pa_cons (pv 2) (pa_cons pe_bl pa_nil)))) (pa_cons (pe_ca c2 hr (by rfl) pass0 (pa_cons (pv 0) (pa_cons (pv 2) (pa_cons pe_bl pa_nil)))) pa_nil)) rfl)
    (pss_one (ps_ret (pe_cmpR op_eq (pe_callB (call_reprD hG (by show A.units + 3 + _ < cLine; omega)) (by rfl) Z.repr B.repr (pa_cons (pv 3) pa_nil))
      (pe_callB (call_reprD hG (by show A.units + 3 + _ < cLine; omega)) (by rfl) Z.repr B.repr (pa_cons (pe_op op_cat (pe_op op_cat (pv 4) (pv 5)) (pv 4)) pa_nil)) (nomark _))))), ?_⟩
  obtain ⟨ys, hys, hP, hL⟩ := id hLs
  have g := mak_good hn hM hDN.nd hB
  obtain ⟨N1, i1, x1, l1⟩ := settles hn g false
  obtain ⟨N2, i2, x2, l2⟩ := settles hn g true
  have end1 := end_one hn hL g (i1 N1 (Nat.le_refl _)) x1 l1
  have end2 := end_one hn hL g (i2 N2 (Nat.le_refl _)) x2 l2
  have hv : MkV w K H n (.ref d) true := hB ▸ MkV.dct hDN hM ho
  obtain ⟨m1, hm1⟩ : ∃ m, iter (valA as) N1 (startM n false) = m := ⟨_, rfl⟩
  obtain ⟨m2, hm2⟩ : ∃ m, iter (valA as) N2 (startM n true) = m := ⟨_, rfl⟩
  have mem1 : m1 ∈ mapsM n := by rw [← hm1]; exact i1 N1 (Nat.le_refl _)
  have mem2 : m2 ∈ mapsM n := by rw [← hm2]; exact i2 N2 (Nat.le_refl _)
  refine ⟨_, rfl, _, rfl, n, .ref d, true, false, rfl, hn, hv, hT, (fun z => by cases z), fun _ => ⟨d, as, ks, N1, rfl, hDN, hM, hB, i1, x1, fun H1 p1 e1 hp1 => ?_⟩⟩
  refine ⟨_, rfl, _, rfl, rfl, rfl, n, .ref d, true, true, rfl, hn, hv.ex e1, e1.tb hT, (fun z => by cases z), fun _ => ⟨d, as, ks, N2, rfl, hDN.ex e1, hM.ex e1, hB, i2, x2, fun H2 p2 e2 hp2 => ?_⟩⟩
  have e12 := e1.trans e2
  refine ⟨_, rfl, _, rfl, rfl, rfl, n, .ref d, true, false, rfl, hn, hv.ex e12, e12.tb hT, (fun z => by cases z), fun _ => ⟨d, as, ks, N1, rfl, hDN.ex e12, hM.ex e12, hB, i1, x1, fun H3 p3 e3 hp3 => ?_⟩⟩
  rw [hm1] at hp1 hp3 end1
  rw [hm2] at hp2 end2
  refine ⟨by show 3 ≤ sizeLine; decide, fun pl hpl => ?_⟩
  have e4 := (e12.trans e3).then_new (o := .lst [.ref p1, .ref p2, .ref p3]) hpl
  have hpl4 : upd H3 pl (.lst [.ref p1, .ref p2, .ref p3]) pl = some (.lst [.ref p1, .ref p2, .ref p3]) := upd_same
  have dp4 : Dp K (upd H3 pl (.lst [.ref p1, .ref p2, .ref p3])) (.ref pl) (told3 m1 m2 m1) := told3_dp hpl4 ((Ex.new hpl).tup (e3.tup (e2.tup hp1))) ((Ex.new hpl).tup (e3.tup hp2)) ((Ex.new hpl).tup hp3)
  have t4 := (Ex.new (o := .lst [.ref p1, .ref p2, .ref p3]) hpl).tup (e3.tup (e2.tup hp1))
  have t5 := (Ex.new (o := .lst [.ref p1, .ref p2, .ref p3]) hpl).tup (e3.tup hp2)
  have t6 := (Ex.new (o := .lst [.ref p1, .ref p2, .ref p3]) hpl).tup hp3
  generalize upd H3 pl (.lst [.ref p1, .ref p2, .ref p3]) = H4 at *
  refine ⟨_, rfl, _, rfl, d, l, n, false, L, as, ks, rfl, hn, hLs.ex e4, hDN.ex e4, hM.ex e4, hB, fun H5 q1 ys5 e5 hq1 hP5 => ?_⟩
  have e45 := e4.trans e5
  refine ⟨_, rfl, _, rfl, d, l, n, true, L, as, ks, rfl, hn, hLs.ex e45, hDN.ex e45, hM.ex e45, hB, fun H6 q2 ys6 e6 hq2 hP6 => ⟨_, _, rfl, ?_⟩⟩
  rw [end1] at hP5
  rw [end2] at hP6
  obtain ⟨a1, rfl, ha1⟩ := one_of hP5
  obtain ⟨a2, rfl, ha2⟩ := one_of hP6
  have e46 := e5.trans e6
  have sh := told3_shows hn mem1 mem2 mem1
  refine ⟨_, rfl, pl, told3 m1 m2 m1, rfl, told3_dp (e46.lst hpl4) (e46.tup t4) (e46.tup t5) (e46.tup t6), sh.s, sh.n, sh.dp, sh.l, ?_⟩
  have hq1' := e6.lst hq1
  refine ⟨_, rfl, _, rfl, q1, q2, [.ref a1], [.ref a2], rfl, rfl, hq1', hq2, by show 2 ≤ sizeLine; decide, fun pa hpa => ?_⟩
  have n1 : q1 ≠ pa := ne_of_none hq1' hpa
  refine ⟨_, rfl, pa, q1, _, _, rfl, rfl, upd_same, (Ex.new hpa).lst hq1', by show 3 ≤ sizeLine; decide, fun pb hpb => ?_⟩
  have e68 := (Ex.new (o := HO.lst ([V.ref a1] ++ [V.ref a2])) hpa).then_new (o := HO.lst ([V.ref a1] ++ [V.ref a2] ++ [V.ref a1])) hpb
  refine ⟨pb, told3 m1 m2 m1, rfl, told3_dp (a := a1) (b := a2) (c := a1) upd_same (e68.tup (e6.tup ha1)) (e68.tup ha2) (e68.tup (e6.tup ha1)), sh.s, sh.n, sh.dp, sh.l, rfl, ?_⟩
  rw [decide_eq_true rfl]
  exact q _ ((e4.trans e46).trans e68)
end
end Hw
/-! a try whose second clause takes the exception, the first (it may have a name) does not; _law_outcome -/
namespace Hw
open PySem PySem.Spec PyProof.Rows L2
/-- what is wished of an exception: no instance of c1, one of c2; then ts -/
def wTwo (K : PySem.W.Frag) (c1 c2 : Value) (ts : Addr → Value → Option Addr → TS) (D : Ends) : WX := fun cls d σ H => PySem.W.exmOne K cls c1 = some false ∧ PySem.W.exmOne K cls c2 = some true ∧ ∀ a, H a = none → ts a cls d D σ H
section
variable {X : Cx} {pins : List (Addr × Obj)}
/-- an exception of the body, noted and on the ground: the state at every later look -/
theorem grounded (ok : X.Ok) (hs : X.stack = X.env :: X.outer) (hf : X.env.frame = some X.env.locals) {W : WX} {xe : Value → Shared → Prop} {u : Value} {s' : Shared} (xx : XE (X.tr (X.pn ++ pins) xe) W u s') {Q : Shared → Prop} {E : Value → Shared → Prop}
    (go : ∀ (a : Addr) (cls : Value) (d : Option Addr) (σ' : L2.St) (H' : Hp) (B h : Heap), u = .ref a → HandSPX.FlyingZ B (X.env :: X.outer) a (Zc cls d) h → (∀ h2, HandSPX.FlyingZ B (X.env :: X.outer) a (Zc cls d) h2 → h.UpToSlots h2 → Inv X pins σ' H' { s' with heap := h2 }) → Inv X pins σ' H' { s' with heap := h } →
      H' a = none → a ≠ X.env.locals → a ∉ X.fs → W cls d σ' H' → Q { s' with heap := h }) :
    wpAny (model X.prog X.w) X.A (noteFrame u X.env) (fun _ s2 => wpAny (model X.prog X.w) X.A (setFlight u none) (fun _ s3 => Q s3) E s2) E s' := by
  obtain ⟨a, B, sI, pins', σ', H', cls, d, rfl, J', nb, up, sky, na, os, ag, w⟩ := xx
  have J := J'.ofTry ok
  have frm : X.A.frames = some (X.env :: X.outer) := by rw [ok.frames, hs]
  refine Sky.land Zc.steady frm hf (by rw [← hs]; exact sky) fun h fl uph => ?_
  obtain ⟨o, vs, ho, _, hd⟩ := fl.there
  have out : a ∉ frs (X.env :: X.outer) := fun hm => by
    obtain ⟨_, o', e', hnf⟩ := fl.2.2.1.mem hm
    rw [ho] at e'
    cases e'
    exact hnf _ hd
  refine go a cls d σ' H' B h rfl fl (fun h2 fl2 up2 => J.landed nb fl2.1 ((up.trans uph).trans up2) os ag) (J.landed nb fl.1 (up.trans uph) os ag) na (fun z => out ?_) (fun hm => out ?_) w
  · exact List.mem_filterMap.mpr ⟨X.env, List.mem_cons_self, by rw [hf, z]⟩
  · obtain ⟨e, he, q⟩ := List.mem_filterMap.mp hm
    exact List.mem_filterMap.mpr ⟨e, List.mem_cons_of_mem _ he, q⟩
/-- the name of a clause's class, looked up while the exception is handled -/
theorem named {x : Str} {c : Value} {np : Pos} (hc : Names X x c) {a : Addr} {oe : Obj} {pn : List (Addr × Obj)} {σ : L2.St} {H : Hp} {s : Shared} (I : Inv (X.suite a ((a, oe) :: pn)) [] σ H s) {Q : Value → Shared → Prop} {E : Value → Shared → Prop} (q : Q c s) :
    wpAny (model X.prog X.w) (X.A.mark (some (.ref a))) (eval (.Name x np) X.env) Q E s := by
  obtain ⟨hg, nd, h | ⟨h, hv, hn⟩⟩ := hc
  · exact ld_glob (X := X.suite a ((a, oe) :: pn)) I hg h q nd
  · exact ld_blt (X := X.suite a ((a, oe) :: pn)) I hg h hv q hn nd
variable {x1 x2 : Str} {c1 c2 : Value} {on : Option Str} {body su1 su2 : List Stmt} {b1 b2 : Stmt} {np1 np2 pos pos1 pos2 : Pos} {hds : List ExceptHandler} {tb : WX → TS} {ts : Addr → Value → Option Addr → TS}
theorem ps_try_two (hs : X.stack = X.env :: X.outer) (hf : X.env.frame = some X.env.locals) (hc1 : Names X x1 c1) (hc2 : Names X x2 c2)
    (hb : ∀ (W : WX) (pn : List (Addr × Obj)) (xe : Value → Shared → Prop), Takes (X.tr pn xe) W → PassesOwn (model X.prog X.w) X.A X.env xe → PSs (X.tr pn xe) body (tb W))
    (hsu : ∀ (a : Addr) (oe : Obj) (cls : Value) (d : Option Addr) (pn : List (Addr × Obj)), PSs (X.suite a ((a, oe) :: pn)) (b2 :: su2) (ts a cls d)) :
    PS X (.Try body (.ExceptHandler (some (.Name x1 np1)) on (b1 :: su1) pos1 :: .ExceptHandler (some (.Name x2 np2)) none (b2 :: su2) pos2 :: hds) [] [] pos) (fun D σ H => tb (wTwo X.K c1 c2 ts D) D σ H) := by
  refine ⟨fun pins s σ H D I h => wpAny_Try_except ?_⟩
  have ok := I.ok
  refine wpAny_mono ((hb (wTwo X.K c1 c2 ts D) (X.pn ++ pins) (fun e s₁ => wpAny (model X.prog X.w) X.A (noteFrame e X.env) (fun _ s₂ => wpAny (model X.prog X.w) X.A (setFlight e none) (fun _ s₃ =>
    wpAny (model X.prog X.w) X.A (handleBy e X.env (.ExceptHandler (some (.Name x1 np1)) on (b1 :: su1) pos1 :: .ExceptHandler (some (.Name x2 np2)) none (b2 :: su2) pos2 :: hds)) (SP X pins D) X.xe s₃) X.xe s₂) X.xe s₁) (fun u s' xx => ?_) PassesOwn.looking).run [] s σ H D (I.toTry _) h) (fun f s1 hsp => ?_) fun _ _ he => he
  · refine grounded ok hs hf xx fun a cls d σ' H' B h3 eu fl later J na nL nF w => ?_
    subst eu
    obtain ⟨w1, w2, w3⟩ := w
    obtain ⟨oe, vs, he, hz, hd⟩ := fl.there
    have S := J.suite he hd na nL nF
    have ty : PySem.W.Looks (model X.prog X.w) h3 (typeOf (.ref a)) cls := fun A Q E s k q => wpAny_typeOf_ref (k _ _ he) (by rw [hz.1]; exact q)
    refine wpAny_handleBy_cons (codeAny_handlers_test (named hc1 S ((PySem.W.exm_one (M := model X.prog X.w) J.kIn ty w1).here ?_))) (by intro q; cases q)
    show wpAny _ X.A (handleBy (.ref a) X.env (.ExceptHandler (some (.Name x2 np2)) none (b2 :: su2) pos2 :: hds)) _ _ _
    refine wpAny_handleBy_cons (codeAny_handlers_test (named hc2 S ((PySem.W.exm_one (M := model X.prog X.w) J.kIn ty w2).here ?_))) (by intro q; cases q)
    refine codeAny_handlers_suite (HandSPX.lands_againZ fl fun h4 fl4 up4 => ?_)
    obtain ⟨oe4, vs4, he4, _, hd4⟩ := fl4.there
    have S4 := (later h4 fl4 up4).suite he4 hd4 na nL nF
    refine wpAny_mono ((hsu a oe4 cls d (X.pn ++ pins)).run [] _ _ H' _ S4 (w3 a na)) (fun f s6 hsp => ?_) fun _ _ z => False.elim z
    match f, hsp with
    | .next, ⟨_, _, S6, q6⟩ => exact ⟨_, _, S6.unsuite ok, q6⟩
    | .brk, ⟨_, _, S6, q6⟩ => exact ⟨_, _, S6.unsuite ok, q6⟩
    | .cont, ⟨_, _, S6, q6⟩ => exact ⟨_, _, S6.unsuite ok, q6⟩
    | .ret _, ⟨_, _, _, S6, r6, q6⟩ => exact ⟨_, _, _, S6.unsuite ok, r6, q6⟩
  · match f, hsp with
    | .next, ⟨_, _, J, q⟩ => exact wpAny_execs_nil ⟨_, _, J.ofTry ok, q⟩
    | .brk, ⟨_, _, J, q⟩ => exact ⟨_, _, J.ofTry ok, q⟩
    | .cont, ⟨_, _, J, q⟩ => exact ⟨_, _, J.ofTry ok, q⟩
    | .ret _, ⟨_, _, _, J, r, q⟩ => exact ⟨_, _, _, J.ofTry ok, r, q⟩
end
end Hw
/-! _law_outcome, _law_right -/
namespace Hw
open PySem PySem.Spec PyProof.Rows L2
section
variable {P : Program} {w : World} {K : PySem.W.Frag} {mg : Str → Option Value} {base : Heap} {C CI CN : Addr}
abbrev sOut : Stmt := topS 39
theorem scOut : FnScope ["_law_call", "e"] ["_law_call"] (defScope sOut) := ⟨rfl, rfl, rfl, by decide +kernel, rfl, by decide +kernel, by decide +kernel⟩
/-- the classes of the clauses -/
structure Exc2 (K : PySem.W.Frag) (mg : Str → Option Value) (CI CN : Addr) : Prop where
  n : mg "InvalidNumber" = some (.ref CN)
  i : mg "InvalidMeaning" = some (.ref CI)
  no : PySem.W.exmOne K (.ref CI) (.ref CN) = some false
  yes : PySem.W.exmOne K (.ref CI) (.ref CI) = some true
/-- what it makes of a call that raises InvalidMeaning -/
def TOut (K : PySem.W.Frag) (CI CN : Addr) : (XK → Hp → VK → Prop) → Hp → VK → Prop := fun tl H Q =>
  tl (fun cls _ H' => PySem.W.exmOne K cls (.ref CN) = some false ∧ PySem.W.exmOne K cls (.ref CI) = some true ∧ ∀ p, H' p = none → Q (.ref p) (upd H' p (.lst [.str "meaning"]))) H Q
theorem out_gives {X : Cx} (x : Exc2 X.K X.mg CI CN) {g : Addr} {cdg : Value} {q : Str} : LamX.GivesTo X ["_law_call", "e"] "_law_outcome" (defScope sOut) g cdg (defBody sOut) "_law_call" q (TOut X.K CI CN) := by
  intro f c' s H Q tl act hc h
  refine ⟨_, pss_one (ps_try_two (X := (cxOf CX0 X.prog X.w X.K X.mg X.base ["_law_call", "e"] "_law_outcome" (defScope sOut) g cdg X.A X.stack s H E0).nox) (c1 := .ref CN) (c2 := .ref CI)
    (tb := fun W D σ H => ∃ E : XK, (∀ cls d σ' H', E cls d H' → W cls d σ' H') ∧ σ[0]? = some (some (.ref f)) ∧ H c' = some (LamX.CodeO c' q) ∧ tl E H D.rt)
    rfl rfl ⟨by rfl, by decide, .inl x.n⟩ ⟨by rfl, by decide, .inl x.i⟩ (fun W pn xe tk _ => ⟨fun pins s' σ H' D I h' => ?_⟩) (fun a oe cls d pn => pss_one (ps_ret (pe_lst (pa_cons pe_str pa_nil))))), ?_⟩
  · obtain ⟨E, hW, h1, h2, h3⟩ := h'
    exact (pss_one (ps_ret (act W pn xe E _ _ tk hW))).run pins s' σ H' D I ⟨h1, h2, h3⟩
  · exact ⟨_, fun cls d σ' H' z => ⟨z.1, z.2.1, fun a _ => ⟨by show 1 ≤ sizeLine; decide, fun p hp => z.2.2 p hp⟩⟩, rfl, hc, h⟩
end
end Hw
/-! _law_right -/
namespace Hw
open PySem PySem.Spec PyProof.Rows L2
section
variable {P : Program} {w : World} {K : PySem.W.Frag} {mg : Str → Option Value} {base : Heap} {C CI CN : Addr}
abbrev sRt : Stmt := topS 49
abbrev nRt : List Str := ["_law_jar_here", "_law_lists", "_law_modes", "_law_listed", "_law_making", "_law_other", "_law_due"]
theorem scRt : FnScope nRt ["_law_jar_here", "_law_lists"] (defScope sRt) := ⟨rfl, rfl, rfl, by decide +kernel, rfl, by decide +kernel, by decide +kernel⟩
def spRight (w : World) (K : PySem.W.Frag) : Sp := fun vs H Q _ => ∃ (j ll l1 l2 : Addr) (L1 L2 : List (List Int)), vs = [.ref j, .ref ll] ∧ JarAt H j ∧ ll ≠ j ∧ l1 ≠ j ∧ l2 ≠ j ∧ H ll = some (.lst [.ref l1, .ref l2]) ∧ ListedAt H l1 1 L1 ∧ ListedAt H l2 2 L2 ∧ LamX.Tabs tbs9 H ∧
  ∀ H', ExJ j H H' → Q (.bl true) H'
theorem DkV.ex {H H' : Hp} {n : Int} {d : Addr} {b : Bool} (h : DkV w K H n d b) (e : Ex H H') : DkV w K H' n d b := by
  cases h with
  | len h ne => exact .len (h.ex e) ne
  | dct h m o => exact .dct (h.ex e) (m.ex e) o
theorem N12.other {n : Int} (h : N12 n) : N12 (3 - n) := by
  rcases h with rfl | rfl
  · exact .inr rfl
  · exact .inl rfl
theorem mk_ok (L : List (List Int)) (f : List Int → List Int) : (mkOf L f).all (fun a => a.1.ok) = true := by
  rw [List.all_eq_true]
  intro a ha
  obtain ⟨m, _, e⟩ := List.mem_map.mp ha
  rw [← e]
  rfl
theorem mean_dp {H : Hp} {p : Addr} (h : H p = some (.lst [.str "meaning"])) : Dp K H (.ref p) (.list [.str "meaning"]) := .lst (SqL.of h) (.cons (.str _) .nil)
theorem mean_shaped : SeqAt.shaped (.list [.str "meaning"]) = true := by decide +kernel
theorem mean_eqv : PyData.eqv (.list [.str "meaning"]) (.list [.str "meaning"]) = true := by decide +kernel
theorem DkV.yes {H : Hp} {n : Int} {d : Addr} {b : Bool} (h : DkV w K H n d b) (e : b = true) : ∃ as ks, DN w H d ks ∧ MkAt K H as ks ∧ as.all (fun a => a.1.ok) = true ∧ makB n as = true := by
  cases h with
  | len h ne => cases e
  | dct h m o => exact ⟨_, _, h, m, o, e⟩
set_option maxHeartbeats 16000000 in
theorem ok_right {f go : Addr} {fd fdo : FuncData} {k kS : Nat} (F : MkD K "_law_right" sRt 533 [] f fd) (Z : Free mg) (x : Exc2 K mg CI CN) (TB : LamX.TabB base mg 533 529) (hkS : kS + 2 ≤ k)
    (c1 : Ca P w K mg base CX0 k "_law_pick" ["_law_jar_here", "_law_items"] spPick) (c2 : Ca P w K mg base CX0 k "_law_drawn_making" ["_law_jar_here", "_law_modes", "_law_listed"] (spDM w K)) (c3 : Ca P w K mg base CX0 k "is_making" ["modes", "value"] (spIM w K))
    (c4 : CaG P w K mg base k "_law_settled_right" ["_law_making", "_law_modes", "_law_listed"] (spSR w K)) (c5 : Ca P w K mg base CX0 k "_law_spoilt" ["_law_jar_here", "_law_making", "_law_modes", "_law_listed"] (spSp w K))
    (c6 : Ca P w K mg base CX0 k "_law_is_right_making" ["_law_value_here", "_law_listed", "_law_many_here"] (spRM w K)) (c7 : Ca P w K mg base CX0 k "_law_many" ["_law_modes"] spMany) (cS : CaS P w K mg base kS CI)
    (ho : mg "_law_outcome" = some (.ref go)) (O : Fun K "_law_outcome" "_law_outcome" sOut go fdo) (bO : Binds K fdo ["_law_call"] []) : FnG P w K mg base (k + 1) f fd ["_law_jar_here", "_law_lists"] (spRight w K) := by
  obtain ⟨fS, fdS, FS, gS, kpS, ⟨ds, rds, bS⟩, kbS⟩ := cS.ex
  obtain ⟨oc, od, kV, doc, pm, an, cdv, ct, osl, rfl, lkO, hcO⟩ := O.ex
  refine okGL F scRt fun A outer s H vs Q hG hr h => ?_
  obtain ⟨j, ll, l1, l2, L1, L2, rfl, hj, hllj, hl1j, hl2j, hll, hL1, hL2, hT, q⟩ := h
  have hu : A.units + 3 + 16 * k + 200 < cLine := hr.un
  refine ⟨_, pss_cons (ps_set (i := 2) scRt.nd rfl (Or.inr rfl) (pe_ca c1 hr (by rfl) pass0 (pa_cons (pv 0) (pa_cons (pe_lst (pa_cons pe_int (pa_cons pe_int (pa_cons pe_int pa_nil)))) pa_nil))))
    (pss_cons (ps_set (i := 3) scRt.nd rfl (Or.inl rfl) (pe_ix ix_list (pv 1) (pe_op op_sub (pv 2) pe_int) (fun _ _ => rfl)))
    (pss_cons (ps_set (i := 4) scRt.nd rfl (Or.inl rfl) (pe_ca c2 hr (by rfl) pass0 (pa_cons (pv 0) (pa_cons (pv 2) (pa_cons (pv 3) pa_nil)))))
    (pss_cons (ps_if (PW.pt (pw_or (pt_cmpR op_notBl (pe_ca c3 hr (by rfl) pass0 (pa_cons (pv 2) (pa_cons (pv 4) pa_nil))) pe_bl (nomark _)) (pw_or1 (pt_not (pt_val (pe_caG c4 hG hr (by rfl) (pa_cons (pv 4) (pa_cons (pv 2) (pa_cons (pv 3) pa_nil))))))))) (pss_one (ps_ret pe_bl)) pss_nil)
    (pss_cons (ps_set (i := 5) scRt.nd rfl (Or.inr rfl) (pe_ca c5 hr (by rfl) pass0 (pa_cons (pv 0) (pa_cons (pv 4) (pa_cons (pv 2) (pa_cons (pv 3) pa_nil))))))
    (pss_cons (ps_set (i := 6) scRt.nd rfl (Or.inl rfl) (pe_ca c6 hr (by rfl) pass0 (pa_cons (pv 5) (pa_cons (pv 3) (pa_cons (pe_ca c7 hr (by rfl) pass0 (pa_cons (pv 2) pa_nil)) pa_nil)))))
    (pss_cons (ps_if (pt_cmpR op_ne (pe_callB call_reprB (by rfl) Z.repr B.repr (pa_cons (pe_ca c3 hr (by rfl) pass0 (pa_cons (pv 2) (pa_cons (pv 5) pa_nil))) pa_nil)) (pe_callB call_reprB (by rfl) Z.repr B.repr (pa_cons (pv 6) pa_nil)) (nomark _)) (pss_one (ps_ret pe_bl)) pss_nil)
    (pss_cons (ps_if (pt_val (pv 6)) (pss_one (ps_ret (pe_caG c4 hG hr (by rfl) (pa_cons (pv 5) (pa_cons (pv 2) (pa_cons (pv 3) pa_nil)))))) pss_nil)
    (pss_cons (ps_if (PW.pt (pw_or (pt_cmpR op_notBl (pe_ca c3 hr (by rfl) pass0 (pa_cons (pv 2) (pa_cons (pe_listItems9 rfl (pv 4) (by rfl) Z.list) pa_nil))) pe_bl (nomark _)) (pw_or1 (pt_cmpR op_notBl (pe_ca c3 hr (by rfl) pass0 (pa_cons (pe_op op_sub pe_int (pv 2)) (pa_cons (pv 4) pa_nil))) pe_bl (nomark _))))) (pss_one (ps_ret pe_bl)) pss_nil)
    (pss_one (ps_ret (pe_cmpR (eqK K (by show A.units + 3 + _ < cLine; omega))
      (LamX.pe_lamcall (T := tbs9) (TT := TOut K CI CN) (k := kS) (c := 533) (P := 529) (by rfl) ho O.kp lkO hcO bO scOut rfl (Or.inl rfl) (out_gives x) TB rfl (by show (529, ("_law_right" : Str) ++ ".<locals>." ++ "<lambda>") ∈ tbs9; decide +kernel) (by show ∀ p ∈ tbs9, p.1 = 529 → p.2 = ("_law_right" : Str) ++ ".<locals>." ++ "<lambda>"; decide +kernel)
        (hr.mono hkS) (LamX.lamS_by (sc := defScope sRt) (by decide +kernel)) rfl (fun _ _ _ _ _ => rfl)
        (fun A' outer' s' H' E f' c' hr' => pe_call FS hr' (by rfl) gS kpS bS rds (passes_call (takes_of rfl rfl rfl rfl) fun _ _ _ _ z => z) (pa_cons (pe_var (i := 2) rfl (.inr (.inr (by rfl)))) (pa_cons (pe_var (i := 5) rfl (.inr (.inr (by rfl)))) pa_nil))))
      (pe_lst (pa_cons pe_str pa_nil)) (nomark _)))))))))))), ?_⟩
  -- one or two modes, and their maps
  refine ⟨_, rfl, by show 3 ≤ sizeLine; decide, fun pl hpl => ?_⟩
  have hjl := hj.ne hpl
  refine ⟨j, pl, _, rfl, Ne.symm hjl, upd_same, by show 0 < 3; decide, by show 3 ≤ 1000; decide, hj.upd hjl, fun H1 i v e1 hj1 hv => ?_⟩
  have e01 : ExJ j H H1 := (Ex.new hpl).toJ.trans e1
  have hnv : ∃ n, v = .int n ∧ N12 n := by
    have hm := List.mem_of_getElem? hv
    simp only [List.mem_cons, List.not_mem_nil, or_false] at hm
    rcases hm with rfl | rfl | rfl
    · exact ⟨1, rfl, .inl rfl⟩
    · exact ⟨1, rfl, .inl rfl⟩
    · exact ⟨2, rfl, .inr rfl⟩
  obtain ⟨n, rfl, hn⟩ := hnv
  have hl : ∃ l L, atI [V.ref l1, V.ref l2] (n - 1) = some (.ref l) ∧ l ≠ j ∧ ListedAt H l n L := by
    rcases hn with rfl | rfl
    · exact ⟨l1, L1, rfl, hl1j, hL1⟩
    · exact ⟨l2, L2, rfl, hl2j, hL2⟩
  obtain ⟨l, L, hat, hlj, hLs⟩ := hl
  refine ⟨_, rfl, _, rfl, n, 1, rfl, rfl, ll, [V.ref l1, V.ref l2], n - 1, .ref l, rfl, rfl, SqL.of (e01.lst hllj hll), hat, ?_⟩
  -- the drawn making
  refine ⟨_, rfl, _, rfl, _, rfl, j, l, n, L, rfl, hn, hj1, hlj, hLs.exJ e01 hlj, fun H2 d ks L' g e2 hj2 hdj hL' hg hD hM => ?_⟩
  have e02 := e01.trans e2
  have hB : makB n (mkOf L' g) = true := mk_right hn hL' hg.mem hg.mono
  have mkv : MkV w K H2 n (.ref d) true := hB ▸ MkV.dct hD hM (mk_ok L' g)
  refine ⟨_, rfl, _, rfl, n, .ref d, true, rfl, hn, mkv, fun H3 e3 => ⟨true, true, rfl, rfl, _, rfl, iteFc rfl ?_⟩⟩
  have hl2 : ListedAt H2 l n L := hLs.exJ e02 hlj
  refine ⟨_, rfl, _, rfl, _, rfl, d, l, n, L, mkOf L' g, ks, rfl, hn, hl2.ex e3, hD.ex e3, hM.ex e3, mk_ok L' g, hB, e3.tb (e02.tb hT), fun H4 e4 => ⟨_, rfl, iteF ?_⟩⟩
  have e24 := e3.trans e4
  -- the spoilt one
  refine ⟨_, rfl, _, rfl, _, rfl, _, rfl, j, d, l, n, L, L', g, ks, rfl, hn, hj2.ex e24, hdj, hlj, hl2.ex e24, hL', hD.ex e24, hM.ex e24, fun H5 d' b e5 hj5 hdj' hk => ?_⟩
  have e25 : ExJ j H2 H5 := e24.toJ.trans e5
  have e05 := e02.trans e25
  have hl5 : ListedAt H5 l n L := hLs.exJ e05 hlj
  refine ⟨_, rfl, _, rfl, _, rfl, n, rfl, hn, fun H6 e6 => ⟨d', l, n, L, b, rfl, hn, hl5.ex e6, hk.ex e6, fun H7 e7 => ?_⟩⟩
  have e57 := e6.trans e7
  refine ⟨_, rfl, _, rfl, n, .ref d', b, rfl, hn, (hk.ex e57).mkV, fun H8 e8 => ⟨b, rfl, _, rfl, b, rfl, by cases b <;> rfl, _, rfl, iteFc (by simp) ?_⟩⟩
  have e58 := e57.trans e8
  refine ⟨_, rfl, _, rfl, ?_⟩
  cases b with
  | true =>
    obtain ⟨as, ks', hD', hM', ho', hB'⟩ := (hk.ex e58).yes rfl
    exact iteT ⟨_, rfl, _, rfl, _, rfl, d', l, n, L, as, ks', rfl, hn, hl5.ex e58, hD', hM', ho', hB', e58.tb (e05.tb hT), fun H9 e9 => q H9 (e05.trans (e58.trans e9).toJ)⟩
  | false =>
    have hDj : DN w H8 d ks := (hD.exJ e25 hdj).ex e58
    refine iteF ⟨_, rfl, _, rfl, d, ks, rfl, hDj, fun H9 p ys e9 hp hys hP => ?_⟩
    refine ⟨n, .ref p, false, rfl, hn, .lst hys, fun H10 e10 => ⟨false, false, rfl, rfl, _, rfl, iteFc rfl ?_⟩⟩
    have hkl : ks.length = cntM n := by
      rw [← Paired.length hM]
      unfold mkOf
      rw [List.length_map, hL'.length_eq, maps_len hn]
    have hne : ks.length ≠ cntM (3 - n) := by
      rw [hkl]
      rcases hn with rfl | rfl <;> decide
    have e810 := e9.trans e10
    refine ⟨_, rfl, 3, n, rfl, rfl, _, rfl, 3 - n, .ref d, false, rfl, hn.other, .len (hDj.ex e810).dlen hne, fun H11 e11 => ⟨false, false, rfl, rfl, _, rfl, iteFc rfl ?_⟩⟩
    have e511 := (e58.trans e810).trans e11
    refine ⟨e511.tb (e05.tb hT), fun H12 eN T12 => ?_⟩
    have e12 : Ex H11 H12 := ⟨eN, fun _ => T12⟩
    refine ⟨_, rfl, _, rfl, n, .ref d', false, false, rfl, hn, (hk.ex (e511.trans e12)).mkV, T12, (fun _ H13 e13 => ⟨x.no, x.yes, fun p1 hp1 => ?_⟩), fun z => by cases z⟩
    refine ⟨by show 1 ≤ sizeLine; decide, fun p2 hp2 => ⟨_, _, mean_dp (by rw [upd_ne (Ne.symm (apart hp2))]; exact upd_same), mean_dp upd_same, mean_shaped, mean_shaped, ?_⟩⟩
    rw [mean_eqv]
    exact q _ (e05.trans (((e511.trans e12).trans e13).then_new hp1 |>.then_new hp2).toJ)
end
end Hw
/-! law -/
namespace Hw
open PySem PySem.Spec PyProof.Rows L2
/-- what changed beside j, new, changed beside nothing -/
theorem Ex.ofJ {H H1 H2 : Hp} {j : Addr} (e : Ex H H1) (n : Nw H j) (f : ExJ j H1 H2) : Ex H H2 :=
  ⟨fun b o h no => f.at_ b o (n.ne h no) (e b o h no) no, fun t => f.tb (e.tb t)⟩
/-- an object told whole is no code object told by its name -/
theorem noCode_fz2 {H : Hp} {d : Addr} {ob : Obj} (h : H d = some (fz d ob)) : ∀ q, H d ≠ some (LamX.CodeO d q) := fun q z => by
  rw [h] at z
  have e := HO.ext.inj (Option.some.inj z)
  have all : ∀ c : Value, (⟨c, none, .fields #[.none, .str q 0], #[]⟩ : Obj) = ob := fun c => by
    have hs : (⟨Array.replicate d default, {}⟩ : Heap).objs.size = d := Array.size_replicate
    have g := Heap.get?_push_size (⟨Array.replicate d default, {}⟩ : Heap) (o := ⟨c, none, .fields #[.none, .str q 0], #[]⟩) rfl
    rw [hs] at g
    have g2 := (congrFun e _).mpr ⟨_, _, 0, g, rfl, rfl⟩
    exact Option.some.inj (g.symm.trans g2)
  cases (all .none).trans (all (.bool true)).symm
def L0 : List (List Int) := [[0, 0], [0, 1], [1, 1]]
def f0 (m : List Int) : List Int := if m = [1, 1] then [1, 1] else [0, 1]
theorem mak0 : makB 1 (mkOf L0 f0) = true := by decide +kernel
theorem it0 : ∀ i, i ≤ 1 → iter (valA (mkOf L0 f0)) i (startM 1 false) ∈ mapsM 1 := by
  intro i hi
  have : i = 0 ∨ i = 1 := by omega
  rcases this with rfl | rfl
  · exact List.contains_iff_mem.mp (by decide +kernel)
  · exact List.contains_iff_mem.mp (by decide +kernel)
theorem it0' : iter (valA (mkOf L0 f0)) 1 (startM 1 false) = [0, 1] := by decide +kernel
theorem fx0 : valA (mkOf L0 f0) [0, 1] = [0, 1] := by decide +kernel
theorem it1 : ∀ i, i ≤ 0 → iter (valA (mkOf L0 f0)) i (startM 1 true) ∈ mapsM 1 := by
  intro i hi
  have : i = 0 := by omega
  subst this
  exact List.contains_iff_mem.mp (by decide +kernel)
theorem it1' : iter (valA (mkOf L0 f0)) 0 (startM 1 true) = [1, 1] := by decide +kernel
theorem fx1 : valA (mkOf L0 f0) [1, 1] = [1, 1] := by decide +kernel
def tellD : PyData := .list [.bool true, .tuple [.int 0, .int 1], .tuple [.int 1, .int 1], .bool false]
theorem tell_shaped : SeqAt.shaped tellD = true := by decide +kernel
theorem tell_eqv : PyData.eqv tellD tellD = true := by decide +kernel
section
variable {P : Program} {w : World} {K : PySem.W.Frag} {mg : Str → Option Value} {base : Heap} {C CI CN : Addr}
theorem tell_dp {H : Hp} {p a b : Addr} (h : H p = some (.lst [.bl true, .ref a, .ref b, .bl false])) (ha : H a = some (.tup [.int 0, .int 1])) (hb : H b = some (.tup [.int 1, .int 1])) : Dp K H (.ref p) tellD :=
  .lst (SqL.of h) (.cons (.bl true) (.cons (dp_tup (ns := [0, 1]) ha) (.cons (dp_tup (ns := [1, 1]) hb) (.cons (.bl false) .nil))))
/-- one entry of the written making -/
theorem pair_entry {x y z u : Int} {trs : List (TE × TE)} {σ : L2.St} {H : Hp} {Q : List (V × V) → Hp → Prop} (h : ∀ H' k v, Ex H H' → KyAt H' (.one [x, y] []) k → H' v = some (.tup [.int z, .int u]) → tPairs trs σ H' fun ps H3 => Q ((.ref k, .ref v) :: ps) H3) :
    tPairs ((tTup (tCons (tTup (tCons (tC (.int x)) (tCons (tC (.int y)) tNil))) tNil), tTup (tCons (tC (.int z)) (tCons (tC (.int u)) tNil))) :: trs) σ H Q := by
  refine ⟨by show 2 ≤ sizeLine; decide, fun t ht => ⟨by show 1 ≤ sizeLine; decide, fun k hk => ⟨by show 2 ≤ sizeLine; decide, fun v hv => ?_⟩⟩⟩
  have e1 := Ex.new (o := HO.tup [.int x, .int y]) ht
  have kk : KyAt (upd (upd H t (.tup [.int x, .int y])) k (.tup [.ref t])) (.one [x, y] []) k := TupI.new hk ⟨t, rfl, upd_same⟩
  exact h _ k v ((e1.then_new hk).then_new hv) (kk.tk (Ex.new hv).tk) upd_same
abbrev sLaw : Stmt := topS 50
abbrev nLaw : List Str := ["_law_script", "_law_lists", "_law_at", "_law_making", "_law_told"]
theorem scLaw : FnScope nLaw ["_law_script"] (defScope sLaw) := ⟨rfl, rfl, rfl, by decide +kernel, rfl, by decide +kernel, by decide +kernel⟩
def spLaw (K : PySem.W.Frag) : Sp := fun vs H Q _ => ∃ (a : Addr) (ns : List Int), vs = [.ref a] ∧ SqL K H a (ns.map V.int) ∧ LamX.Tabs tbs9 H ∧ ∀ H', Q (.bl true) H'
theorem int2_kn {H : Hp} {x y : Int} : ∀ z ∈ [V.int x, V.int y], ∃ T, Kn K H z T := fun z hz => by
  simp only [List.mem_cons, List.not_mem_nil, or_false] at hz
  rcases hz with rfl | rfl
  · exact ⟨_, .int _⟩
  · exact ⟨_, .int _⟩
set_option maxHeartbeats 16000000 in
theorem ok_law {f : Addr} {fd : FuncData} {k : Nat} (F : Fun K "law" "law" sLaw f fd) (Z : Free mg) (c1 : Ca P w K mg base CX0 k "_law_all_rising" ["_law_modes"] spAllR) (c2 : CaG P w K mg base k "_law_right" ["_law_jar_here", "_law_lists"] (spRight w K))
    (c3 : Ca P w K mg base CX0 k "_law_jar" ["_law_script", "_law_at"] (spJar K)) (c4 : Ca P w K mg base CX0 k "is_making" ["modes", "value"] (spIM w K)) (cS : CaS P w K mg base k CI) : FnG P w K mg base (k + 1) f fd ["_law_script"] (spLaw K) := by
  obtain ⟨fS, fdS, FS, gS, kpS, ⟨ds, rds, bS⟩, kbS⟩ := cS.ex
  refine okG F scLaw fun cdv A outer s H vs Q hG hr h => ?_
  obtain ⟨a, ns, rfl, ha, hT, q⟩ := h
  have hu : A.units + 3 + 16 * k + 200 < cLine := hr.un
  refine ⟨_, pss_cons (ps_set (i := 1) scLaw.nd rfl (Or.inl rfl) (pe_lst (pa_cons (pe_ca c1 hr (by rfl) pass0 (pa_cons pe_int pa_nil)) (pa_cons (pe_ca c1 hr (by rfl) pass0 (pa_cons pe_int pa_nil)) pa_nil))))
    (pss_cons (ps_for PassesOwn.never rfl (pi_range1 (by rfl) Z.range (pa_cons (pe_callB (call_max2 rfl) (by rfl) Z.max B.max (pa_cons pe_int (pa_cons (pe_callB (call_min2 rfl) (by rfl) Z.min B.min (pa_cons pe_int (pa_cons (pe_callB call_len_seq (by rfl) Z.len B.len (pa_cons (pv 0) pa_nil)) pa_nil))) pa_nil))) pa_nil)) (pg_name (i := 2) scLaw.nd rfl (Or.inl rfl))
      (pss_one (ps_if (pt_not (pt_val (pe_caG c2 hG hr (by rfl) (pa_cons (pe_ca c3 hr (by rfl) pass0 (pa_cons (pv 0) (pa_cons (pv 2) pa_nil))) (pa_cons (pv 1) pa_nil))))) (pss_one (ps_ret pe_bl)) pss_nil)))
    (pss_cons (ps_set (i := 3) scLaw.nd rfl (Or.inl rfl) (pe_disp9 (by show A.units + 3 + _ < cLine; omega) (pps_cons (pe_tup (pa_cons (pe_tup (pa_cons pe_int (pa_cons pe_int pa_nil))) pa_nil)) (pe_tup (pa_cons pe_int (pa_cons pe_int pa_nil)))
        (pps_cons (pe_tup (pa_cons (pe_tup (pa_cons pe_int (pa_cons pe_int pa_nil))) pa_nil)) (pe_tup (pa_cons pe_int (pa_cons pe_int pa_nil))) (pps_cons (pe_tup (pa_cons (pe_tup (pa_cons pe_int (pa_cons pe_int pa_nil))) pa_nil)) (pe_tup (pa_cons pe_int (pa_cons pe_int pa_nil))) pps_nil))) rfl rfl (by decide) (by decide)))
    (pss_cons (ps_set (i := 4) scLaw.nd rfl (Or.inl rfl) (pe_lst (pa_cons (pe_ca c4 hr (by rfl) pass0 (pa_cons pe_int (pa_cons (pv 3) pa_nil))) (pa_cons (pe_call FS hr (by rfl) gS kpS bS rds passL (pa_cons pe_int (pa_cons (pv 3) pa_nil)))
        (pa_cons (pe_callN FS hr (by rfl) gS kpS kbS passL (pa_cons pe_int (pa_cons (pv 3) pa_nil)) (pk_cons pe_bl pk_nil)) (pa_cons (pe_ca c4 hr (by rfl) pass0 (pa_cons pe_int (pa_cons pe_dnew9 pa_nil))) pa_nil))))))
    (pss_one (ps_ret (pe_cmpR (eqK K (by show A.units + 3 + _ < cLine; omega)) (pv 4) (pe_lst (pa_cons pe_bl (pa_cons (pe_tup (pa_cons pe_int (pa_cons pe_int pa_nil))) (pa_cons (pe_tup (pa_cons pe_int (pa_cons pe_int pa_nil))) (pa_cons pe_bl pa_nil))))) (nomark _)))))))
    , ?_⟩
  refine ⟨1, rfl, .inl rfl, fun H1 l1 ys1 L1 e1 hL1 hy1 hP1 => ⟨2, rfl, .inr rfl, fun H2 l2 ys2 L2 e2 hL2 hy2 hP2 => ⟨by show 2 ≤ sizeLine; decide, fun ll hll => ?_⟩⟩⟩
  have e02 := e1.trans e2
  have e03 := e02.then_new (o := .lst [.ref l1, .ref l2]) hll
  have en := Ex.new (o := .lst [.ref l1, .ref l2]) hll
  have hLs1 : ListedAt (upd H2 ll (.lst [.ref l1, .ref l2])) l1 1 L1 := (ListedAt.ex ⟨ys1, hy1, hP1, hL1⟩ e2).ex en
  have hLs2 : ListedAt (upd H2 ll (.lst [.ref l1, .ref l2])) l2 2 L2 := ListedAt.ex ⟨ys2, hy2, hP2, hL2⟩ en
  have hll3 : upd H2 ll (.lst [.ref l1, .ref l2]) ll = some (.lst [.ref l1, .ref l2]) := upd_same
  generalize upd H2 ll (.lst [.ref l1, .ref l2]) = H3 at *
  obtain ⟨r, hr3⟩ : ∃ r : Int, r = (if (if ((ns.map V.int).length : Int) < 3 then ((ns.map V.int).length : Int) else 3) > 1 then (if ((ns.map V.int).length : Int) < 3 then ((ns.map V.int).length : Int) else 3) else 1) := ⟨_, rfl⟩
  have hrr : 1 ≤ r ∧ r ≤ 3 := by
    rw [hr3]
    split <;> split <;> omega
  refine ⟨_, rfl, a, _, rfl, .inl (SqL.ex e03 ha), _, _, rfl, _, _, rfl, ?_⟩
  refine ⟨r, congrArg (fun z => [V.int z]) hr3.symm, by omega, by omega, for_range (lo := 0) (n := r.toNat) (fun i σ H4 => ∃ t2, σ = [some (.ref a), some (.ref ll), t2, none, none] ∧ Ex H3 H4) ⟨none, rfl, .refl _⟩ ?_ ?_⟩
  · rintro i σ H4 hi ⟨t2, rfl, e4⟩
    have e0i : (0 : Int) + (i : Nat) = (i : Nat) := Int.zero_add _
    rw [e0i]
    refine ⟨_, rfl, _, rfl, a, ns, i, rfl, by omega, SqL.ex (e03.trans e4) ha, fun H5 j e5 hj0 hj5 => ?_⟩
    have e35 := e4.trans e5
    have njl : ∀ {b : Addr} {o : HO}, H4 b = some o → b ≠ j := fun {b o} hb z => by
      rw [z, hj0] at hb
      cases hb
    have hll4 := e4.lst hll3
    have hy1' := (hLs1.ex e4).choose_spec.1
    have hy2' := (hLs2.ex e4).choose_spec.1
    refine ⟨_, rfl, j, ll, l1, l2, L1, L2, rfl, hj5, njl hll4, njl hy1', njl hy2', e5.lst hll4, hLs1.ex e35, hLs2.ex e35, e35.tb (e03.tb hT), fun H6 e6 => ⟨_, rfl, iteF ?_⟩⟩
    exact ⟨_, rfl, e4.trans (Ex.ofJ e5 (.of hj0) e6)⟩
  · rintro σ H4 ⟨t2, rfl, e4⟩
    have e04 := e03.trans e4
    intro p ob0 hp
    -- the making
    have e4p := Ex.new (o := fz p ob0) hp
    have hfz : upd H4 p (fz p ob0) p = some (fz p ob0) := upd_same
    generalize upd H4 p (fz p ob0) = Hp0 at e4p hfz ⊢
    refine pair_entry fun H5 k1 v1 e5 kk1 hv1 => pair_entry fun H6 k2 v2 e6 kk2 hv2 => pair_entry fun H7 k3 v3 e7 kk3 hv3 => ?_
    have e67 := e6.trans e7
    have e57 := e5.trans e67
    have hfz7 := e57 _ _ hfz fz_nt
    refine ⟨hfz7, [(.one [0, 0] [], k1, .ref v1), (.one [0, 1] [], k2, .ref v2), (.one [1, 1] [], k3, .ref v3)], rfl, by show 3 ≤ 15; decide, by show [Ky.one [0, 0] [], Ky.one [0, 1] [], Ky.one [1, 1] []].Nodup; decide, fun k hk => ?_, fun ob hD => ?_⟩
    · simp only [List.mem_cons, List.not_mem_nil, or_false] at hk
      rcases hk with rfl | rfl | rfl
      · exact kk1.tk e67.tk
      · exact kk2.tk e7.tk
      · exact kk3
    have vne : ∀ {v : Addr} {xs : List V}, H7 v = some (.tup xs) → v ≠ p := fun {v xs} hv z => by
      rw [z, hfz7] at hv
      cases hv
    have hw1 := e67.tup hv1
    have hw2 := e7.tup hv2
    have e08 : Ex H (upd H7 p (fz p ob)) := e04.trans ((e4p.trans e57).put (.of hp) (noCode_fz2 hfz7))
    have put : ∀ {v : Addr} {xs : List V}, H7 v = some (.tup xs) → upd H7 p (fz p ob) v = some (.tup xs) := fun {v xs} hv => by
      rw [upd_ne (vne hv)]
      exact hv
    have u1 := put hw1
    have u2 := put hw2
    have u3 := put hv3
    have hM : MkAt K (upd H7 p (fz p ob)) (mkOf L0 f0) [(.one [0, 0] [], k1, .ref v1), (.one [0, 1] [], k2, .ref v2), (.one [1, 1] [], k3, .ref v3)] :=
      .cons ⟨rfl, .tup u1 int2_kn⟩ (.cons ⟨rfl, .tup u2 int2_kn⟩ (.cons ⟨rfl, .tup u3 int2_kn⟩ .nil))
    generalize hH8 : upd H7 p (fz p ob) = H8 at *
    have hn1 : N12 1 := .inl rfl
    have mv : MkV w K H8 1 (.ref p) true := mak0 ▸ MkV.dct hD hM (mk_ok L0 f0)
    refine ⟨_, rfl, 1, .ref p, true, rfl, hn1, mv, fun H9 e9 => ?_⟩
    refine ⟨_, rfl, 1, .ref p, true, false, rfl, hn1, mv.ex e9, e9.tb (e08.tb hT), (fun z => by cases z), fun _ => ⟨p, mkOf L0 f0, _, 1, rfl, hD.ex e9, hM.ex e9, mak0, it0, by rw [it0']; exact fx0, fun H10 q1 e10 hq1 => ?_⟩⟩
    rw [it0'] at hq1
    have e90 := e9.trans e10
    refine ⟨_, rfl, rfl, rfl, 1, .ref p, true, true, rfl, hn1, mv.ex e90, e90.tb (e08.tb hT), (fun z => by cases z), fun _ => ⟨p, mkOf L0 f0, _, 0, rfl, hD.ex e90, hM.ex e90, mak0, it1, by rw [it1']; exact fx1, fun H11 q2 e11 hq2 => ?_⟩⟩
    rw [it1'] at hq2
    intro d ob' hd0 hDN
    have e12 := Ex.new (o := fz d ob') hd0
    refine ⟨1, .ref d, false, rfl, hn1, .len hDN.dlen (by decide), fun H13 e13 => ⟨by show 4 ≤ sizeLine; decide, fun pt hpt => ?_⟩⟩
    have e23 := e12.trans e13
    have g1 := e23.tup (e11.tup hq1)
    have g2 := e23.tup hq2
    refine ⟨_, rfl, by show 2 ≤ sizeLine; decide, fun w1 hw1' => ⟨by show 2 ≤ sizeLine; decide, fun w2 hw2' => ⟨by show 4 ≤ sizeLine; decide, fun pl hpl => ?_⟩⟩⟩
    have eA := Ex.new (o := HO.lst [V.bl true, V.ref q1, V.ref q2, V.bl false]) hpt
    have eB := ((Ex.new (o := HO.tup [V.int 0, V.int 1]) hw1').then_new (o := HO.tup [V.int 1, V.int 1]) hw2').then_new (o := HO.lst [V.bl true, V.ref w1, V.ref w2, V.bl false]) hpl
    refine ⟨tellD, tellD, tell_dp (eB.lst upd_same) (eB.tup (eA.tup g1)) (eB.tup (eA.tup g2)), tell_dp upd_same ?_ ?_, tell_shaped, tell_shaped, ?_⟩
    · exact ((Ex.new hw2').then_new hpl).tup upd_same
    · exact (Ex.new hpl).tup upd_same
    · rw [tell_eqv]
      exact q _
end
end Hw
/-! the law's call behind the top, for a promise that asks that nothing is being shown; what the written part tells by names -/
namespace Hw
open PySem PySem.Spec PyProof.Rows L2
theorem FnG.mono {P : Program} {w : World} {K : PySem.W.Frag} {mg : Str → Option Value} {base : Heap} {j k : Nat} {f : Addr} {fd : FuncData} {ps : List Str} {sp : Sp} (F : FnG P w K mg base j f fd ps sp) (h : j ≤ k) : FnG P w K mg base k f fd ps sp :=
  ⟨fun A outer s H us vs Q hG hr => F.run A outer s H us vs Q hG (hr.mono h)⟩
theorem CaG.mono {P : Program} {w : World} {K : PySem.W.Frag} {mg : Str → Option Value} {base : Heap} {j k : Nat} {x : Str} {ps : List Str} {sp : Sp} (c : CaG P w K mg base j x ps sp) (h : j ≤ k) : CaG P w K mg base k x ps sp := by
  obtain ⟨f, fd, F, r⟩ := c.ex
  exact ⟨⟨f, fd, F.mono h, r⟩, c.len⟩
theorem CaS.mono {P : Program} {w : World} {K : PySem.W.Frag} {mg : Str → Option Value} {base : Heap} {j k : Nat} {CI : Addr} (c : CaS P w K mg base j CI) (h : j ≤ k) : CaS P w K mg base k CI := by
  obtain ⟨f, fd, F, r⟩ := c.ex
  exact ⟨f, fd, F.mono h, r⟩
theorem CaM.mono {P : Program} {w : World} {K : PySem.W.Frag} {mg : Str → Option Value} {base : Heap} {C : Addr} {j k : Nat} {x : Str} {ps : List Str} {sp : Sp} (c : CaM P w K mg base C j x ps sp) (h : j ≤ k) : CaM P w K mg base C k x ps sp := by
  obtain ⟨f, fd, F, r⟩ := c.ex
  exact ⟨f, fd, F.mono h, r⟩
/-! ### the abstract heap at the law's call: the tables, and the script where the written part does not have it -/
def topHp (K : PySem.W.Frag) (cs : List (Addr × Addr)) (a : Addr) (oa : Obj) (xs : List V) : Hp := fun b =>
  if cs.any (fun p => p.2 == b) = true then some (.tbl #[]) else if b = a ∧ (K.lookup a).isSome = false then some (.frz oa (.lst xs)) else none
section
variable {K : PySem.W.Frag} {cs : List (Addr × Addr)} {a : Addr} {oa : Obj} {xs : List V}
theorem topHp_tab {p : Addr × Addr} (h : p ∈ cs) : topHp K cs a oa xs p.2 = some (.tbl #[]) := if_pos (List.any_eq_true.mpr ⟨p, h, by show (p.2 == p.2) = true; exact beq_self_eq_true _⟩)
theorem topHp_is (b : Addr) : topHp K cs a oa xs b = none ∨ (∃ p ∈ cs, p.2 = b ∧ topHp K cs a oa xs b = some (.tbl #[])) ∨ (b = a ∧ K.lookup a = none ∧ topHp K cs a oa xs b = some (.frz oa (.lst xs))) := by
  unfold topHp
  by_cases h1 : cs.any (fun p => p.2 == b) = true
  · obtain ⟨p, hp, e⟩ := List.any_eq_true.mp h1
    exact .inr (.inl ⟨p, hp, beq_iff_eq.mp e, if_pos h1⟩)
  · rw [if_neg h1]
    by_cases h2 : b = a ∧ (K.lookup a).isSome = false
    · refine .inr (.inr ⟨h2.1, ?_, if_pos h2⟩)
      cases q : K.lookup a with
      | none => rfl
      | some o =>
        rw [q] at h2
        cases h2.2
    · exact .inl (if_neg h2)
end
/-- what the top must have left -/
structure TopAt (K : PySem.W.Frag) (mg : Str → Option Value) (h : Heap) (cs : List (Addr × Addr)) : Prop where
  k : K.In h
  g : h.Ns mainGlobals mg
  b : ∃ mb, h.Ns builtinsNs mb ∧ ∀ x : Str, x ≠ "__name__" → mb x = bootBuiltins x
  l : h.NoLimit
  t : ∀ p ∈ cs, h.get? p.2 = some { cls := .none, data := .fields #[] }
  n : ∀ p ∈ cs, K.lookup p.2 = none
  c : ∀ p ∈ cs, PySem.W.CodeHd h p.1 p.2
  m : ∃ (bm : Addr) (ob : Obj), mg "__builtins__" = some (.ref bm) ∧ bm ≠ builtinsNs ∧ h.get? bm = some ob ∧ ob.cls = .type "module" ∧ ob.dict = some builtinsNs ∧ ob.data = .plain
section
variable {P : Program} {w : World} {K : PySem.W.Frag} {mg : Str → Option Value} {h : Heap} {cs : List (Addr × Addr)} {a : Addr} {vs : List Value} {ns : List Int}
/-- what stands hidden is a table, or the script -/
theorem TopAt.untracked (T : TopAt K mg h cs) (ha : h.get? a = some { cls := .type "list", data := .seq vs.toArray }) {xs : List V} {b : Addr} {o : Obj} (e : h.get? b = some o) (h1 : o.data ≠ .fields #[]) (h2 : ∀ its n, o.data ≠ .seq its n) :
    (hidT h (topHp K cs a { cls := .type "list", data := .seq vs.toArray } xs)).get? b = some o := by
  refine hidT_get e ?_
  rcases topHp_is (K := K) (cs := cs) (a := a) (oa := { cls := .type "list", data := .seq vs.toArray }) (xs := xs) b with z | ⟨p, hp, rfl, _⟩ | ⟨rfl, _, _⟩
  · exact z
  · rw [T.t p hp] at e
    cases e
    exact (h1 rfl).elim
  · rw [ha] at e
    cases e
    exact (h2 _ _ rfl).elim
theorem TopAt.names (T : TopAt K mg h cs) (ha : h.get? a = some { cls := .type "list", data := .seq vs.toArray }) {xs : List V} {b : Addr} {m : Str → Option Value} (n : h.Ns b m) : (hidT h (topHp K cs a { cls := .type "list", data := .seq vs.toArray } xs)).Ns b m := by
  obtain ⟨o, es, ep, e, d, r⟩ := n
  refine ⟨o, es, ep, T.untracked ha e (fun z => ?_) (fun _ _ z => ?_), d, r⟩
  · rw [d] at z
    cases z
  · rw [d] at z
    cases z
theorem TopAt.kin (T : TopAt K mg h cs) {oa : Obj} {xs : List V} : K.In (hidT h (topHp K cs a oa xs)) := fun b o e => hidT_get (T.k b o e) (by
  rcases topHp_is (K := K) (cs := cs) (a := a) (oa := oa) (xs := xs) b with z | ⟨p, hp, rfl, _⟩ | ⟨rfl, n, _⟩
  · exact z
  · rw [T.n p hp] at e
    cases e
  · rw [n] at e
    cases e)
theorem TopAt.tab (T : TopAt K mg h cs) (ha : h.get? a = some { cls := .type "list", data := .seq vs.toArray }) {xs : List V} : ∀ p ∈ cs, LamX.TabB (hidT h (topHp K cs a { cls := .type "list", data := .seq vs.toArray } xs)) mg p.1 p.2 := by
  intro p hp
  have tp := T.t p hp
  obtain ⟨oG, esG, epG, eG, dG, _⟩ := T.g
  refine ⟨?_, ?_, fun z => ?_⟩
  · obtain ⟨o, us, file, tf, flags, tg, inF, text, tt, e, c1, c2, c3, r⟩ := T.c p hp
    refine ⟨o, us, file, tf, flags, tg, inF, text, tt, T.untracked ha e (fun z => ?_) (fun _ _ z => ?_), c1, c2, c3, r⟩
    · rw [c2] at z
      cases z
      simp at c3
    · rw [c2] at z
      cases z
  · obtain ⟨bm, ob, m1, m2, m3, m4, m5, m6⟩ := T.m
    refine ⟨bm, ob, m1, m2, fun z => ?_, fun z => ?_, T.untracked ha m3 (fun z => ?_) (fun _ _ z => ?_), m4, m5, m6⟩
    · rw [z, eG] at m3
      cases m3
      rw [dG] at m6
      cases m6
    · rw [z, tp] at m3
      cases m3
      cases m6
    · rw [m6] at z
      cases z
    · rw [m6] at z
      cases z
  · rw [z, tp] at eG
    cases eG
    cases dG
theorem TopAt.hok (T : TopAt K mg h cs) (ha : h.get? a = some { cls := .type "list", data := .seq vs.toArray }) (hi : IntsAre vs ns) (hl : ns.length ≤ sizeLine) : HOk P w (topHp K cs a { cls := .type "list", data := .seq vs.toArray } (ns.map V.int)) h := by
  intro b u e
  rcases topHp_is (K := K) (cs := cs) (a := a) (oa := { cls := .type "list", data := .seq vs.toArray }) (xs := ns.map V.int) b with z | ⟨p, hp, rfl, z⟩ | ⟨rfl, _, z⟩
  · rw [z] at e
    cases e
  · rw [z] at e
    cases e
    exact T.t p hp
  · rw [z] at e
    cases e
    exact ⟨ha, by rw [List.length_map]; exact hl, vs, _, vals_ints hi, ha⟩
theorem TopAt.script (T : TopAt K mg h cs) (ha : h.get? a = some { cls := .type "list", data := .seq vs.toArray }) (hi : IntsAre vs ns) (hl : ns.length ≤ sizeLine) : SqL K (topHp K cs a { cls := .type "list", data := .seq vs.toArray } (ns.map V.int)) a (ns.map V.int) := by
  cases hk : K.lookup a with
  | some o =>
    have e := T.k a o hk
    rw [ha] at e
    cases e
    exact .inr ⟨_, vs.toArray, _, hk, rfl, rfl, rfl, by rw [List.size_toArray, hi.length]; exact hl, by simpa using vals_ints hi⟩
  | none =>
    rcases topHp_is (K := K) (cs := cs) (a := a) (oa := { cls := .type "list", data := .seq vs.toArray }) (xs := ns.map V.int) a with z | ⟨p, hp, e, _⟩ | ⟨_, _, z⟩
    · unfold topHp at z
      split at z
      · cases z
      · rw [if_pos ⟨rfl, by rw [hk]; rfl⟩] at z
        cases z
    · have q := T.t p hp
      rw [e, ha] at q
      cases q
    · exact .inl (.inr ⟨_, z⟩)
/-- the call -/
theorem law_run {fa : Addr} {fd : FuncData} {x : Str} {sp : Sp} {k : Nat} {s : Shared} (T : TopAt K mg s.heap cs) (h0 : s.gens = #[]) (ha : s.heap.get? a = some { cls := .type "list", data := .seq vs.toArray }) (hi : IntsAre vs ns) (hl : ns.length ≤ sizeLine) (hr : Room k callerA)
    (F : ∀ base : Heap, K.In base → base.Ns mainGlobals mg → (∀ p ∈ cs, LamX.TabB base mg p.1 p.2) → FnG P w K mg base k fa fd [x] sp) (hb : ∀ (s : Shared) (u : Value), BindsTo s fd ⟨[u], []⟩ [(x, u)])
    (hsp : ∀ H : Hp, (∀ p ∈ cs, H p.2 = some (.tbl #[])) → SqL K H a (ns.map V.int) → sp [.ref a] H (fun v _ => v = .bl true) E0) :
    codeAny (model P w) callerA (.call (.ref fa) ⟨[.ref a], []⟩) (fun r s' => r = .ok (.ret (.bool true)) ∧ OldK s.heap s'.heap ∧ s'.os = s.os ∧ AllBare s'.gens) s := by
  have nsG := T.names (xs := ns.map V.int) ha T.g
  have M : L2.Mod K mg (hidT s.heap (topHp K cs a { cls := .type "list", data := .seq vs.toArray } (ns.map V.int))) := ⟨T.kin, nsG, T.b.imp fun mb q => ⟨T.names ha q.1, q.2⟩, T.l.imp fun mc q => ⟨T.names ha q.1, q.2⟩⟩
  have hok := T.hok (P := P) (w := w) ha hi hl
  have e0 : Env0 P w K mg (hidT s.heap (topHp K cs a { cls := .type "list", data := .seq vs.toArray } (ns.map V.int))) callerA [] s (topHp K cs a { cls := .type "list", data := .seq vs.toArray } (ns.map V.int)) :=
    ⟨rfl, M, fun b o e => of_hidT e, Nat.le_of_eq (hidT_size _ _), trivial, (fun b hm => by cases hm), hok, .of_eq h0⟩
  have call := (F _ T.kin nsG (T.tab ha)).run callerA [] s (topHp K cs a { cls := .type "list", data := .seq vs.toArray } (ns.map V.int)) [.ref a] [.ref a] (fun v _ => v = .bl true) rfl hr e0 (.cons rfl .nil) rfl (hb s (.ref a)) (hsp _ (fun p hp => topHp_tab hp) (T.script ha hi hl))
  refine codeAny_mono call fun r s' q => ?_
  match r, q with
  | .error e, q => exact (show False from q).elim
  | .ok .next, q => exact (show False from q).elim
  | .ok .brk, q => exact (show False from q).elim
  | .ok .cont, q => exact (show False from q).elim
  | .ok (.ret u), ⟨v, H', os, bare, un, hok', rv, ev⟩ =>
    subst ev
    obtain rfl : u = Value.bool true := rv
    have now : ∀ b o, s.heap.get? b = some o → s'.heap.get? b = some o ∨ ∃ p ∈ cs, p.2 = b ∧ o = { cls := .none, data := .fields #[] } ∧ ∃ more : Array Value, s'.heap.get? b = some { cls := .none, data := .fields more } := fun b o e => by
      rcases topHp_is (K := K) (cs := cs) (a := a) (oa := { cls := .type "list", data := .seq vs.toArray }) (xs := ns.map V.int) b with z | ⟨p, hp, rfl, z⟩ | ⟨rfl, _, z⟩
      · exact .inl (un.keep b o e z (by intro z; cases z) (by intro z; cases z))
      · obtain ⟨more, q⟩ := un.tbls _ _ z
        have e2 := e
        rw [T.t p hp] at e2
        cases e2
        exact .inr ⟨p, hp, rfl, rfl, _, hok' _ _ q⟩
      · obtain ⟨q1, _⟩ := hok _ _ z
        obtain ⟨q2, _⟩ := hok' _ _ (un.frzs _ _ _ z)
        rw [e] at q1
        cases q1
        exact .inl q2
    refine ⟨rfl, ⟨fun b o e => ?_, fun b o e => ?_⟩, os, bare⟩
    · rcases now b o e with q | ⟨p, hp, rfl, rfl, more, q⟩
      · exact .inl q
      · exact .inr (.inl ⟨((T.c p hp).tab (T.t p hp)).isCodeTable, rfl, #[], more, rfl, by rw [Array.empty_append]; exact q⟩)
    · rcases now b o e with q | ⟨_, _, _, _, _, q⟩
      · exact ⟨o, q⟩
      · exact ⟨_, q⟩
end
end Hw
/-! all defs joined, by names -/
namespace Hw
open PySem PySem.Spec PyProof.Rows L2 He
/-- a property's getter -/
def pa (m : Str) (K : PySem.W.Frag) : Addr := match PySem.W.findIn K (.ref (ga K "Space")) m with
  | some (some (.ref p)) => (match PySem.W.recIn K p "property" with
    | some (.ref g :: _) => g
    | _ => 0)
  | _ => 0
def propB (m : Str) (K : PySem.W.Frag) : Bool := match PySem.W.findIn K (.ref (ga K "Space")) m with
  | some (some (.ref p)) => eqO (PySem.W.specialIn K (.ref p) "__get__") (some (some (.builtin "property.__get__"))) && (decide (PySem.W.takesIn K (.ref p) = some true) && (match PySem.W.recIn K p "property" with
    | some (.ref _ :: _) => true
    | _ => false))
  | _ => false
theorem propB_ok {K : PySem.W.Frag} {m : Str} (h : propB m K = true) : ∃ p, PropOf K (ga K "Space") m p (pa m K) := by
  unfold propB at h
  unfold pa
  cases e : PySem.W.findIn K (.ref (ga K "Space")) m with
  | none => rw [e] at h; cases h
  | some o =>
    cases o with
    | none => rw [e] at h; cases h
    | some v =>
      cases v with
      | ref p =>
        rw [e] at h
        obtain ⟨h1, h⟩ := ba h
        obtain ⟨h2, h3⟩ := ba h
        cases e2 : PySem.W.recIn K p "property" with
        | none => rw [e2] at h3; cases h3
        | some l =>
          rw [e2] at h3
          cases l with
          | nil => cases h3
          | cons g r =>
            cases g with
            | ref g => exact ⟨p, e, eqO_ok h1, of_decide_eq_true h2, r, by simp only [e2]⟩
            | _ => cases h3
      | _ => rw [e] at h; cases h
def codeAtB (K : PySem.W.Frag) (f c : Addr) : Bool := match K.lookup f with
  | some ⟨_, _, .func fd, _⟩ => decide (fd.code = .ref c)
  | _ => false
theorem mkD_of {K : PySem.W.Frag} {x : Str} {st : Stmt} {c f : Addr} {fd : FuncData} {kws : List (Str × V)} (F : FunD K x x (defArgs st) (defBody st) (defScope st) [] kws f fd) (h : codeAtB K f c = true) : MkD K x st c kws f fd := by
  obtain ⟨oc, od, dV, kV, doc, pm, an, cdv, ct, osl, e, l, hc, hd, hk⟩ := F.ex
  rcases hd with ⟨_, e2⟩ | ⟨e2, _⟩
  · subst e2
    unfold codeAtB at h
    rw [l, e] at h
    obtain rfl : cdv = .ref c := of_decide_eq_true h
    exact ⟨⟨oc, od, kV, doc, pm, an, ct, osl, e, l, hc, hk⟩, F.kp⟩
  · exact absurd rfl e2
def dF (x : Str) (st : Stmt) : He5.DefA := ⟨fun K => ga K x, x, x, defArgs st, defBody st, defScope st, [], []⟩
def dM (m qn : Str) (st : Stmt) : He5.DefA := ⟨fun K => ma K (ga K "Space") m, m, qn, defArgs st, defBody st, defScope st, [], []⟩
def dP (m qn : Str) (st : Stmt) : He5.DefA := ⟨pa m, m, qn, defArgs st, defBody st, defScope st, [], []⟩
def dS : He5.DefA := ⟨fun K => ga K "settled", "settled", "settled", defArgs sSet, defBody sSet, defScope sSet, [], [("keep", .bl false)]⟩
def fds : List He5.DefA := [dF "is_integer" sIsInt, dF "is_from" sFrom, dF "is_part" sPart, dF "rising_rows" sRR, dF "require_boolean" sRB, dF "resting" sRest, dF "space_of_makings" sSoM, dF "is_key" sKey, dF "is_making_in" sMI, dF "is_map_part" sMP, dF "is_making" sIM, dF "_law_jar" sJar, dF "_law_scoop" sScoop, dF "_law_pick" sPick, dF "_law_shuffled" sShuf, dF "_law_sum" sSum, dF "_law_many" sMany, dF "_law_rows" sRows, dF "_law_up" sUp, dF "_law_rising" sRising, dF "_law_any_map" sAny, dF "_law_is_rising" sIsR, dF "_law_is_under" sUnder, dF "_law_all_rising" sAll, dF "_law_outcome" sOut, dF "_law_bent" sBent, dF "_law_stepped" sStp, dF "_law_value" sVal, dF "_law_drawn_making" sDM, dF "_law_is_map" sLM, dF "_law_is_right_making" sRM, dF "_law_spoilt" sSp, dF "_law_settled" sLS, dF "_law_settled_right" sSR, dF "_law_right" sRt, dF "law" sLaw, dM "__init__" "Space.__init__" (mS 0), dM "with_row" "Space.with_row" (mS 7), dM "is_set" "Space.is_set" (mS 8), dM "is_map" "Space.is_map" (mS 9), dM "is_monotone" "Space.is_monotone" (mS 10), dM "is_rising" "Space.is_rising" (mS 11), dP "maps" "Space.maps" (mS 3), dP "never" "Space.never" (mS 5), dP "always" "Space.always" (mS 6), dS]
def fas : List Fa := [.glo "is_integer", .glo "is_from", .glo "is_part", .glo "rising_rows", .glo "require_boolean", .glo "resting", .glo "space_of_makings", .glo "is_key", .glo "is_making_in", .glo "is_map_part", .glo "is_making", .glo "_law_jar", .glo "_law_scoop", .glo "_law_pick", .glo "_law_shuffled", .glo "_law_sum", .glo "_law_many", .glo "_law_rows", .glo "_law_up", .glo "_law_rising", .glo "_law_any_map", .glo "_law_is_rising", .glo "_law_is_under", .glo "_law_all_rising", .glo "_law_outcome", .glo "_law_bent", .glo "_law_stepped", .glo "_law_value", .glo "_law_drawn_making", .glo "_law_is_map", .glo "_law_is_right_making", .glo "_law_spoilt", .glo "_law_settled", .glo "_law_settled_right", .glo "_law_right", .glo "law", .glo "settled", .glo "Space", .glo "BITS", .glo "InvalidMeaning", .glo "InvalidNumber", .free "isinstance", .free "int", .free "bool", .free "len", .free "all", .free "range", .free "zip", .free "tuple", .free "sorted", .free "list", .free "dict", .free "sum", .free "set", .free "max", .free "min", .free "abs", .free "repr", .int "MAX_MODES" 3, .int "MAX_MAKING_MODES" 2, .cls "Space", .noat "Space" "own_modes", .noat "Space" "own_many", .noat "Space" "own_full", .meth "Space" "__init__", .meth "Space" "with_row", .meth "Space" "is_set", .meth "Space" "is_map", .meth "Space" "is_monotone", .meth "Space" "is_rising", .mkr "Space", .exc "InvalidMeaning", .exm "InvalidMeaning" "InvalidNumber" false, .exm "InvalidMeaning" "InvalidMeaning" true]
def xB (K : PySem.W.Frag) : Bool := tupB K "BITS" [.int 1, .int 2, .int 4, .int 8] && (propB "maps" K && (propB "never" K && (propB "always" K && (codeAtB K (ga K "settled") 393 && (codeAtB K (ga K "_law_right") 533 &&
  (PySem.W.codeHdIn K 533 529 && (PySem.W.codeHdIn K 393 389 && ((K.lookup 529).isNone && (K.lookup 389).isNone))))))))
theorem dat {K : PySem.W.Frag} {mg : Str → Option Value} {h : Heap} {x : Str} {st : Stmt} {ps : List Str} {fd : FuncData} (X : K.In h) (G : h.Ns mainGlobals mg) (F : FunD K x x (defArgs st) (defBody st) (defScope st) [] [] (ga K x) fd) (g : (Fa.glo x).ok K = true)
    (hb : ∀ (kV doc pm : Value) (an : Option Addr) (cdv ct : Value) (us : List Value), us.length = ps.length → bindArgs (PySem.W.fnOf x x (defArgs st) (defBody st) (defScope st) .none kV doc pm an cdv ct) ⟨us, []⟩ = pure (ps.zip us)) : DefAt K mg x st ps (ga K x) fd :=
  ⟨He5.fun_of F, glo_ok X G g, (He5.fun_of F).binds hb⟩
set_option maxHeartbeats 16000000 in
theorem all_ok {w : World} {K : PySem.W.Frag} {mg : Str → Option Value} {h : Heap} (X : K.In h) (G : h.Ns mainGlobals mg) (c : He5.SaysA fas fds K) (x : xB K = true) : ∃ fd : FuncData, (∀ (s : Shared) (u : Value), BindsTo s fd ⟨[u], []⟩ [("_law_script", u)]) ∧
    ∀ base : Heap, LamX.TabB base mg 533 529 → LamX.TabB base mg 393 389 → FnG prg w K mg base 12 (ga K "law") fd ["_law_script"] (spLaw K) := by
  obtain ⟨xb, x⟩ := ba x
  obtain ⟨x1, x⟩ := ba x
  obtain ⟨x2, x⟩ := ba x
  obtain ⟨x3, x⟩ := ba x
  obtain ⟨x4, x⟩ := ba x
  obtain ⟨x5, x⟩ := ba x
  obtain ⟨fd0, F0⟩ := c.def_ (d := dF "is_integer" sIsInt) 0
  have D0 : DefAt K mg "is_integer" sIsInt ["value"] (ga K "is_integer") fd0 := dat X G F0 (c.fact (f := .glo "is_integer") 0) fun _ _ _ _ _ _ us hl => match us, hl with | [_], _ => rfl
  obtain ⟨fd1, F1⟩ := c.def_ (d := dF "is_from" sFrom) 1
  have D1 : DefAt K mg "is_from" sFrom ["value", "first", "last"] (ga K "is_from") fd1 := dat X G F1 (c.fact (f := .glo "is_from") 1) fun _ _ _ _ _ _ us hl => match us, hl with | [_, _, _], _ => rfl
  obtain ⟨fd2, F2⟩ := c.def_ (d := dF "is_part" sPart) 2
  have D2 : DefAt K mg "is_part" sPart ["one", "other"] (ga K "is_part") fd2 := dat X G F2 (c.fact (f := .glo "is_part") 2) fun _ _ _ _ _ _ us hl => match us, hl with | [_, _], _ => rfl
  obtain ⟨fd3, F3⟩ := c.def_ (d := dF "rising_rows" sRR) 3
  have D3 : DefAt K mg "rising_rows" sRR ["modes"] (ga K "rising_rows") fd3 := dat X G F3 (c.fact (f := .glo "rising_rows") 3) fun _ _ _ _ _ _ us hl => match us, hl with | [_], _ => rfl
  obtain ⟨fd4, F4⟩ := c.def_ (d := dF "require_boolean" sRB) 4
  have D4 : DefAt K mg "require_boolean" sRB ["value"] (ga K "require_boolean") fd4 := dat X G F4 (c.fact (f := .glo "require_boolean") 4) fun _ _ _ _ _ _ us hl => match us, hl with | [_], _ => rfl
  obtain ⟨fd5, F5⟩ := c.def_ (d := dF "resting" sRest) 5
  have D5 : DefAt K mg "resting" sRest ["step", "number"] (ga K "resting") fd5 := dat X G F5 (c.fact (f := .glo "resting") 5) fun _ _ _ _ _ _ us hl => match us, hl with | [_, _], _ => rfl
  obtain ⟨fd6, F6⟩ := c.def_ (d := dF "space_of_makings" sSoM) 6
  have D6 : DefAt K mg "space_of_makings" sSoM ["modes"] (ga K "space_of_makings") fd6 := dat X G F6 (c.fact (f := .glo "space_of_makings") 6) fun _ _ _ _ _ _ us hl => match us, hl with | [_], _ => rfl
  obtain ⟨fd7, F7⟩ := c.def_ (d := dF "is_key" sKey) 7
  have D7 : DefAt K mg "is_key" sKey ["space", "value"] (ga K "is_key") fd7 := dat X G F7 (c.fact (f := .glo "is_key") 7) fun _ _ _ _ _ _ us hl => match us, hl with | [_, _], _ => rfl
  obtain ⟨fd8, F8⟩ := c.def_ (d := dF "is_making_in" sMI) 8
  have D8 : DefAt K mg "is_making_in" sMI ["space", "value"] (ga K "is_making_in") fd8 := dat X G F8 (c.fact (f := .glo "is_making_in") 8) fun _ _ _ _ _ _ us hl => match us, hl with | [_, _], _ => rfl
  obtain ⟨fd9, F9⟩ := c.def_ (d := dF "is_map_part" sMP) 9
  have D9 : DefAt K mg "is_map_part" sMP ["one", "other"] (ga K "is_map_part") fd9 := dat X G F9 (c.fact (f := .glo "is_map_part") 9) fun _ _ _ _ _ _ us hl => match us, hl with | [_, _], _ => rfl
  obtain ⟨fd10, F10⟩ := c.def_ (d := dF "is_making" sIM) 10
  have D10 : DefAt K mg "is_making" sIM ["modes", "value"] (ga K "is_making") fd10 := dat X G F10 (c.fact (f := .glo "is_making") 10) fun _ _ _ _ _ _ us hl => match us, hl with | [_, _], _ => rfl
  obtain ⟨fd11, F11⟩ := c.def_ (d := dF "_law_jar" sJar) 11
  have D11 : DefAt K mg "_law_jar" sJar ["_law_script", "_law_at"] (ga K "_law_jar") fd11 := dat X G F11 (c.fact (f := .glo "_law_jar") 11) fun _ _ _ _ _ _ us hl => match us, hl with | [_, _], _ => rfl
  obtain ⟨fd12, F12⟩ := c.def_ (d := dF "_law_scoop" sScoop) 12
  have D12 : DefAt K mg "_law_scoop" sScoop ["_law_jar_here", "_law_size"] (ga K "_law_scoop") fd12 := dat X G F12 (c.fact (f := .glo "_law_scoop") 12) fun _ _ _ _ _ _ us hl => match us, hl with | [_, _], _ => rfl
  obtain ⟨fd13, F13⟩ := c.def_ (d := dF "_law_pick" sPick) 13
  have D13 : DefAt K mg "_law_pick" sPick ["_law_jar_here", "_law_items"] (ga K "_law_pick") fd13 := dat X G F13 (c.fact (f := .glo "_law_pick") 13) fun _ _ _ _ _ _ us hl => match us, hl with | [_, _], _ => rfl
  obtain ⟨fd14, F14⟩ := c.def_ (d := dF "_law_shuffled" sShuf) 14
  have D14 : DefAt K mg "_law_shuffled" sShuf ["_law_jar_here", "_law_items"] (ga K "_law_shuffled") fd14 := dat X G F14 (c.fact (f := .glo "_law_shuffled") 14) fun _ _ _ _ _ _ us hl => match us, hl with | [_, _], _ => rfl
  obtain ⟨fd15, F15⟩ := c.def_ (d := dF "_law_sum" sSum) 15
  have D15 : DefAt K mg "_law_sum" sSum ["_law_modes"] (ga K "_law_sum") fd15 := dat X G F15 (c.fact (f := .glo "_law_sum") 15) fun _ _ _ _ _ _ us hl => match us, hl with | [_], _ => rfl
  obtain ⟨fd16, F16⟩ := c.def_ (d := dF "_law_many" sMany) 16
  have D16 : DefAt K mg "_law_many" sMany ["_law_modes"] (ga K "_law_many") fd16 := dat X G F16 (c.fact (f := .glo "_law_many") 16) fun _ _ _ _ _ _ us hl => match us, hl with | [_], _ => rfl
  obtain ⟨fd17, F17⟩ := c.def_ (d := dF "_law_rows" sRows) 17
  have D17 : DefAt K mg "_law_rows" sRows ["_law_jar_here", "_law_modes"] (ga K "_law_rows") fd17 := dat X G F17 (c.fact (f := .glo "_law_rows") 17) fun _ _ _ _ _ _ us hl => match us, hl with | [_, _], _ => rfl
  obtain ⟨fd18, F18⟩ := c.def_ (d := dF "_law_up" sUp) 18
  have D18 : DefAt K mg "_law_up" sUp ["_law_rows_here", "_law_modes"] (ga K "_law_up") fd18 := dat X G F18 (c.fact (f := .glo "_law_up") 18) fun _ _ _ _ _ _ us hl => match us, hl with | [_, _], _ => rfl
  obtain ⟨fd19, F19⟩ := c.def_ (d := dF "_law_rising" sRising) 19
  have D19 : DefAt K mg "_law_rising" sRising ["_law_jar_here", "_law_modes"] (ga K "_law_rising") fd19 := dat X G F19 (c.fact (f := .glo "_law_rising") 19) fun _ _ _ _ _ _ us hl => match us, hl with | [_, _], _ => rfl
  obtain ⟨fd20, F20⟩ := c.def_ (d := dF "_law_any_map" sAny) 20
  have D20 : DefAt K mg "_law_any_map" sAny ["_law_jar_here", "_law_modes"] (ga K "_law_any_map") fd20 := dat X G F20 (c.fact (f := .glo "_law_any_map") 20) fun _ _ _ _ _ _ us hl => match us, hl with | [_, _], _ => rfl
  obtain ⟨fd21, F21⟩ := c.def_ (d := dF "_law_is_rising" sIsR) 21
  have D21 : DefAt K mg "_law_is_rising" sIsR ["_law_one"] (ga K "_law_is_rising") fd21 := dat X G F21 (c.fact (f := .glo "_law_is_rising") 21) fun _ _ _ _ _ _ us hl => match us, hl with | [_], _ => rfl
  obtain ⟨fd22, F22⟩ := c.def_ (d := dF "_law_is_under" sUnder) 22
  have D22 : DefAt K mg "_law_is_under" sUnder ["_law_one", "_law_other"] (ga K "_law_is_under") fd22 := dat X G F22 (c.fact (f := .glo "_law_is_under") 22) fun _ _ _ _ _ _ us hl => match us, hl with | [_, _], _ => rfl
  obtain ⟨fd23, F23⟩ := c.def_ (d := dF "_law_all_rising" sAll) 23
  have D23 : DefAt K mg "_law_all_rising" sAll ["_law_modes"] (ga K "_law_all_rising") fd23 := dat X G F23 (c.fact (f := .glo "_law_all_rising") 23) fun _ _ _ _ _ _ us hl => match us, hl with | [_], _ => rfl
  obtain ⟨fd24, F24⟩ := c.def_ (d := dF "_law_outcome" sOut) 24
  have D24 : DefAt K mg "_law_outcome" sOut ["_law_call"] (ga K "_law_outcome") fd24 := dat X G F24 (c.fact (f := .glo "_law_outcome") 24) fun _ _ _ _ _ _ us hl => match us, hl with | [_], _ => rfl
  obtain ⟨fd25, F25⟩ := c.def_ (d := dF "_law_bent" sBent) 25
  have D25 : DefAt K mg "_law_bent" sBent ["_law_jar_here", "_law_one", "_law_many_here"] (ga K "_law_bent") fd25 := dat X G F25 (c.fact (f := .glo "_law_bent") 25) fun _ _ _ _ _ _ us hl => match us, hl with | [_, _, _], _ => rfl
  obtain ⟨fd26, F26⟩ := c.def_ (d := dF "_law_stepped" sStp) 26
  have D26 : DefAt K mg "_law_stepped" sStp ["_law_steps", "_law_one", "_law_many_here"] (ga K "_law_stepped") fd26 := dat X G F26 (c.fact (f := .glo "_law_stepped") 26) fun _ _ _ _ _ _ us hl => match us, hl with | [_, _, _], _ => rfl
  obtain ⟨fd27, F27⟩ := c.def_ (d := dF "_law_value" sVal) 27
  have D27 : DefAt K mg "_law_value" sVal ["_law_plan", "_law_one", "_law_many_here"] (ga K "_law_value") fd27 := dat X G F27 (c.fact (f := .glo "_law_value") 27) fun _ _ _ _ _ _ us hl => match us, hl with | [_, _, _], _ => rfl
  obtain ⟨fd28, F28⟩ := c.def_ (d := dF "_law_drawn_making" sDM) 28
  have D28 : DefAt K mg "_law_drawn_making" sDM ["_law_jar_here", "_law_modes", "_law_listed"] (ga K "_law_drawn_making") fd28 := dat X G F28 (c.fact (f := .glo "_law_drawn_making") 28) fun _ _ _ _ _ _ us hl => match us, hl with | [_, _, _], _ => rfl
  obtain ⟨fd29, F29⟩ := c.def_ (d := dF "_law_is_map" sLM) 29
  have D29 : DefAt K mg "_law_is_map" sLM ["_law_value_here", "_law_many_here"] (ga K "_law_is_map") fd29 := dat X G F29 (c.fact (f := .glo "_law_is_map") 29) fun _ _ _ _ _ _ us hl => match us, hl with | [_, _], _ => rfl
  obtain ⟨fd30, F30⟩ := c.def_ (d := dF "_law_is_right_making" sRM) 30
  have D30 : DefAt K mg "_law_is_right_making" sRM ["_law_value_here", "_law_listed", "_law_many_here"] (ga K "_law_is_right_making") fd30 := dat X G F30 (c.fact (f := .glo "_law_is_right_making") 30) fun _ _ _ _ _ _ us hl => match us, hl with | [_, _, _], _ => rfl
  obtain ⟨fd31, F31⟩ := c.def_ (d := dF "_law_spoilt" sSp) 31
  have D31 : DefAt K mg "_law_spoilt" sSp ["_law_jar_here", "_law_making", "_law_modes", "_law_listed"] (ga K "_law_spoilt") fd31 := dat X G F31 (c.fact (f := .glo "_law_spoilt") 31) fun _ _ _ _ _ _ us hl => match us, hl with | [_, _, _, _], _ => rfl
  obtain ⟨fd32, F32⟩ := c.def_ (d := dF "_law_settled" sLS) 32
  have D32 : DefAt K mg "_law_settled" sLS ["_law_making", "_law_listed", "_law_is_keep"] (ga K "_law_settled") fd32 := dat X G F32 (c.fact (f := .glo "_law_settled") 32) fun _ _ _ _ _ _ us hl => match us, hl with | [_, _, _], _ => rfl
  obtain ⟨fd33, F33⟩ := c.def_ (d := dF "_law_settled_right" sSR) 33
  have D33 : DefAt K mg "_law_settled_right" sSR ["_law_making", "_law_modes", "_law_listed"] (ga K "_law_settled_right") fd33 := dat X G F33 (c.fact (f := .glo "_law_settled_right") 33) fun _ _ _ _ _ _ us hl => match us, hl with | [_, _, _], _ => rfl
  obtain ⟨fd34, F34⟩ := c.def_ (d := dF "_law_right" sRt) 34
  have D34 : DefAt K mg "_law_right" sRt ["_law_jar_here", "_law_lists"] (ga K "_law_right") fd34 := dat X G F34 (c.fact (f := .glo "_law_right") 34) fun _ _ _ _ _ _ us hl => match us, hl with | [_, _], _ => rfl
  obtain ⟨fd35, F35⟩ := c.def_ (d := dF "law" sLaw) 35
  have D35 : DefAt K mg "law" sLaw ["_law_script"] (ga K "law") fd35 := dat X G F35 (c.fact (f := .glo "law") 35) fun _ _ _ _ _ _ us hl => match us, hl with | [_], _ => rfl
  obtain ⟨gd0, G0⟩ := c.def_ (d := dM "__init__" "Space.__init__" (mS 0)) 36
  have M0 : Fun K "__init__" "Space.__init__" (mS 0) (ma K (ga K "Space") "__init__") gd0 := He5.fun_of G0
  have B0 : Binds K gd0 ["self", "modes"] [] := M0.binds fun _ _ _ _ _ _ us hl => match us, hl with | [_, _], _ => rfl
  obtain ⟨gd1, G1⟩ := c.def_ (d := dM "with_row" "Space.with_row" (mS 7)) 37
  have M1 : Fun K "with_row" "Space.with_row" (mS 7) (ma K (ga K "Space") "with_row") gd1 := He5.fun_of G1
  have B1 : Binds K gd1 ["self", "one", "row", "mode"] [] := M1.binds fun _ _ _ _ _ _ us hl => match us, hl with | [_, _, _, _], _ => rfl
  have A1 := meth_ok (c.fact (f := .meth "Space" "with_row") 65)
  obtain ⟨gd2, G2⟩ := c.def_ (d := dM "is_set" "Space.is_set" (mS 8)) 38
  have M2 : Fun K "is_set" "Space.is_set" (mS 8) (ma K (ga K "Space") "is_set") gd2 := He5.fun_of G2
  have B2 : Binds K gd2 ["self", "value"] [] := M2.binds fun _ _ _ _ _ _ us hl => match us, hl with | [_, _], _ => rfl
  have A2 := meth_ok (c.fact (f := .meth "Space" "is_set") 66)
  obtain ⟨gd3, G3⟩ := c.def_ (d := dM "is_map" "Space.is_map" (mS 9)) 39
  have M3 : Fun K "is_map" "Space.is_map" (mS 9) (ma K (ga K "Space") "is_map") gd3 := He5.fun_of G3
  have B3 : Binds K gd3 ["self", "value"] [] := M3.binds fun _ _ _ _ _ _ us hl => match us, hl with | [_, _], _ => rfl
  have A3 := meth_ok (c.fact (f := .meth "Space" "is_map") 67)
  obtain ⟨gd4, G4⟩ := c.def_ (d := dM "is_monotone" "Space.is_monotone" (mS 10)) 40
  have M4 : Fun K "is_monotone" "Space.is_monotone" (mS 10) (ma K (ga K "Space") "is_monotone") gd4 := He5.fun_of G4
  have B4 : Binds K gd4 ["self", "value"] [] := M4.binds fun _ _ _ _ _ _ us hl => match us, hl with | [_, _], _ => rfl
  have A4 := meth_ok (c.fact (f := .meth "Space" "is_monotone") 68)
  obtain ⟨gd5, G5⟩ := c.def_ (d := dM "is_rising" "Space.is_rising" (mS 11)) 41
  have M5 : Fun K "is_rising" "Space.is_rising" (mS 11) (ma K (ga K "Space") "is_rising") gd5 := He5.fun_of G5
  have B5 : Binds K gd5 ["self", "one"] [] := M5.binds fun _ _ _ _ _ _ us hl => match us, hl with | [_, _], _ => rfl
  have A5 := meth_ok (c.fact (f := .meth "Space" "is_rising") 69)
  obtain ⟨hd0, H0⟩ := c.def_ (d := dP "maps" "Space.maps" (mS 3)) 42
  have Q0 : Fun K "maps" "Space.maps" (mS 3) (pa "maps" K) hd0 := He5.fun_of H0
  have R0 : Binds K hd0 ["self"] [] := Q0.binds fun _ _ _ _ _ _ us hl => match us, hl with | [_], _ => rfl
  obtain ⟨pp0, O0⟩ := propB_ok x1
  obtain ⟨hd1, H1⟩ := c.def_ (d := dP "never" "Space.never" (mS 5)) 43
  have Q1 : Fun K "never" "Space.never" (mS 5) (pa "never" K) hd1 := He5.fun_of H1
  have R1 : Binds K hd1 ["self"] [] := Q1.binds fun _ _ _ _ _ _ us hl => match us, hl with | [_], _ => rfl
  obtain ⟨pp1, O1⟩ := propB_ok x2
  obtain ⟨hd2, H2⟩ := c.def_ (d := dP "always" "Space.always" (mS 6)) 44
  have Q2 : Fun K "always" "Space.always" (mS 6) (pa "always" K) hd2 := He5.fun_of H2
  have R2 : Binds K hd2 ["self"] [] := Q2.binds fun _ _ _ _ _ _ us hl => match us, hl with | [_], _ => rfl
  obtain ⟨pp2, O2⟩ := propB_ok x3
  obtain ⟨sd, SF⟩ := c.def_ (d := dS) 45
  have SM : MkD K "settled" sSet 393 [("keep", .bl false)] (ga K "settled") sd := mkD_of SF x4
  have RM : MkD K "_law_right" sRt 533 [] (ga K "_law_right") fd34 := mkD_of F34 x5
  have Z : Free mg := ⟨free_ok X G (c.fact (f := .free "isinstance") 41), free_ok X G (c.fact (f := .free "int") 42), free_ok X G (c.fact (f := .free "bool") 43), free_ok X G (c.fact (f := .free "len") 44), free_ok X G (c.fact (f := .free "all") 45), free_ok X G (c.fact (f := .free "range") 46), free_ok X G (c.fact (f := .free "zip") 47), free_ok X G (c.fact (f := .free "tuple") 48), free_ok X G (c.fact (f := .free "sorted") 49), free_ok X G (c.fact (f := .free "list") 50), free_ok X G (c.fact (f := .free "dict") 51), free_ok X G (c.fact (f := .free "sum") 52), free_ok X G (c.fact (f := .free "set") 53), free_ok X G (c.fact (f := .free "max") 54), free_ok X G (c.fact (f := .free "min") 55), free_ok X G (c.fact (f := .free "abs") 56), free_ok X G (c.fact (f := .free "repr") 57)⟩
  obtain ⟨e1, e2, e3, e4⟩ := exc_ok (c.fact (f := .exc "InvalidMeaning") 71)
  have gI : mg "InvalidMeaning" = some (.ref (ga K "InvalidMeaning")) := glo_ok X G (c.fact (f := .glo "InvalidMeaning") 39)
  have T : SpT K mg (ga K "Space") := ⟨cls_ok (c.fact (f := .cls "Space") 60), noat_ok (c.fact (f := .noat "Space" "own_modes") 61), noat_ok (c.fact (f := .noat "Space" "own_many") 62), noat_ok (c.fact (f := .noat "Space" "own_full") 63), glo_ok X G (c.fact (f := .glo "Space") 37), ⟨ga K "BITS", glo_ok X G (c.fact (f := .glo "BITS") 38), tupB_ok xb⟩, int_ok X G (c.fact (f := .int "MAX_MODES" 3) 58), int_ok X G (c.fact (f := .int "MAX_MAKING_MODES" 2) 59)⟩
  have E9 : ExcT K mg (ga K "InvalidMeaning") := ⟨gI, e2, e1, e3, e4⟩
  have E2 : Exc2 K mg (ga K "InvalidMeaning") (ga K "InvalidNumber") := ⟨glo_ok X G (c.fact (f := .glo "InvalidNumber") 40), gI, exm_ok (c.fact (f := .exm "InvalidMeaning" "InvalidNumber" false) 72), exm_ok (c.fact (f := .exm "InvalidMeaning" "InvalidMeaning" true) 73)⟩
  have K9 := mkr_ok (c.fact (f := .mkr "Space") 70)
  refine ⟨fd35, fun s u => ?_, fun base t5 t3 => ?_⟩
  · exact FunD.bindsA (ps := ["_law_script"]) F35 (fun _ _ _ _ _ _ us hl => match us, hl with | [_], _ => rfl) s [u] rfl
  have c_is_integer : Ca prg w K mg base CX0 1 "is_integer" ["value"] (spIsInt K) := D0.ca (ok_isInt D0.F Z)
  have c_is_from : Ca prg w K mg base CX0 2 "is_from" ["value", "first", "last"] (spFrom K) := D1.ca (ok_from D1.F (c_is_integer.mono (by decide)))
  have c_is_part : Ca prg w K mg base CX0 1 "is_part" ["one", "other"] (spPart) := D2.ca (ok_part D2.F)
  have c_rising_rows : Ca prg w K mg base CX0 1 "rising_rows" ["modes"] (spRR) := D3.ca (ok_RR D3.F Z T)
  have c_require_boolean : Ca prg w K mg base CX0 1 "require_boolean" ["value"] (spRB) := D4.ca (ok_RB D4.F Z)
  have o_init : FnOk prg w K mg base CX0 3 (ma K (ga K "Space") "__init__") gd0 ["self", "modes"] (spInit (ga K "Space")) := ok_init M0 T (c_is_from.mono (by decide))
  have c_space_of_makings : Ca prg w K mg base CX0 5 "space_of_makings" ["modes"] (spSoM (ga K "Space")) := D6.ca (ok_SoM (k := 3) D6.F T (c_is_from.mono (by decide)) K9 o_init B0)
  have m_with_row : CaM prg w K mg base (ga K "Space") 1 "with_row" ["self", "one", "row", "mode"] (spWR) := ⟨_, gd1, ok_WR M1 Z T, A1, B1⟩
  have m_is_set : CaM prg w K mg base (ga K "Space") 3 "is_set" ["self", "value"] (spIsSet K (ga K "Space")) := ⟨_, gd2, ok_isSet M2 T (c_is_from.mono (by decide)), A2, B2⟩
  have m_is_map : CaM prg w K mg base (ga K "Space") 4 "is_map" ["self", "value"] (spIsMap K (ga K "Space")) := ⟨_, gd3, ok_isMap M3 Z T (m_is_set.mono (by decide)), A3, B3⟩
  have m_is_rising : CaM prg w K mg base (ga K "Space") 2 "is_rising" ["self", "one"] (spRis (ga K "Space")) := ⟨_, gd5, ok_ris M5 Z T (c_is_part.mono (by decide)), A5, B5⟩
  have m_is_monotone : CaM prg w K mg base (ga K "Space") 5 "is_monotone" ["self", "value"] (spMon K (ga K "Space")) := ⟨_, gd4, ok_mon M4 T (m_is_map.mono (by decide)) (m_is_rising.mono (by decide)), A4, B4⟩
  have c_is_key : Ca prg w K mg base CX0 6 "is_key" ["space", "value"] (spKey K (ga K "Space")) := D7.ca (ok_key D7.F Z T (m_is_monotone.mono (by decide)))
  have c_is_map_part : Ca prg w K mg base CX0 2 "is_map_part" ["one", "other"] (spMP) := D9.ca (ok_MP D9.F Z (c_is_part.mono (by decide)))
  have p_maps : CaP prg w K mg base (ga K "Space") 2 "maps" (spMaps (ga K "Space")) := ⟨pp0, _, hd0, ok_maps Q0 Z T (c_rising_rows.mono (by decide)) (m_with_row.mono (by decide)), O0, R0⟩
  have p_never : CaP prg w K mg base (ga K "Space") 1 "never" (spConst (ga K "Space") fun _ => 0) := ⟨pp1, _, hd1, ok_never Q1 T, O1, R1⟩
  have p_always : CaP prg w K mg base (ga K "Space") 1 "always" (spConst (ga K "Space") fun n => pw2 n - 1) := ⟨pp2, _, hd2, ok_always Q2 T, O2, R2⟩
  have c_is_making_in : Ca prg w K mg base CX0 7 "is_making_in" ["space", "value"] (spMI w K (ga K "Space")) := D8.ca (ok_MI (k := 6) (j := 2) D8.F Z T (c_is_key.mono (by decide)) (m_is_monotone.mono (by decide)) (c_is_map_part.mono (by decide)) p_maps (by decide))
  have c_is_making : Ca prg w K mg base CX0 8 "is_making" ["modes", "value"] (spIM w K) := D10.ca (ok_IM (k := 7) D10.F (c_space_of_makings.mono (by decide)) (c_is_making_in.mono (by decide)))
  have o_set : FnOk prg w K mg base (L2.CX prg w) 8 (ga K "settled") sd ["modes", "making", "keep"] (spSet w K (ga K "InvalidMeaning")) := ok_settled (k := 4) (j := 1) SM T E9 t3 (c_space_of_makings.mono (by decide)) (c_is_making_in.mono (by decide)) (c_require_boolean.mono (by decide)) D5.g D5.F (fun s us hl => FunD.bindsA (ps := ["step", "number"]) F5 (fun _ _ _ _ _ _ us hl => match us, hl with | [_, _], _ => rfl) s us hl) p_always p_never (by decide)
  have cS : CaS prg w K mg base 8 (ga K "InvalidMeaning") := caS_of SM (glo_ok X G (c.fact (f := .glo "settled") 36)) o_set
  have c__law_scoop : Ca prg w K mg base CX0 1 "_law_scoop" ["_law_jar_here", "_law_size"] (spScoop) := D12.ca (ok_scoop D12.F Z)
  have c__law_pick : Ca prg w K mg base CX0 2 "_law_pick" ["_law_jar_here", "_law_items"] (spPick) := D13.ca (ok_pick D13.F Z (c__law_scoop.mono (by decide)))
  have c__law_many : Ca prg w K mg base CX0 1 "_law_many" ["_law_modes"] (spMany) := D16.ca (ok_many D16.F)
  have c__law_jar : Ca prg w K mg base CX0 1 "_law_jar" ["_law_script", "_law_at"] (spJar K) := D11.ca (ok_jar D11.F Z)
  have c__law_sum : Ca prg w K mg base CX0 1 "_law_sum" ["_law_modes"] (spSum) := D15.ca (ok_sum D15.F Z)
  have c__law_any_map : Ca prg w K mg base CX0 2 "_law_any_map" ["_law_jar_here", "_law_modes"] (spAny) := D20.ca (ok_any D20.F Z (c__law_scoop.mono (by decide)) (c__law_many.mono (by decide)))
  have c__law_rows : Ca prg w K mg base CX0 2 "_law_rows" ["_law_jar_here", "_law_modes"] (spRows) := D17.ca (ok_rows D17.F Z (c__law_scoop.mono (by decide)) (c__law_many.mono (by decide)))
  have c__law_up : Ca prg w K mg base CX0 2 "_law_up" ["_law_rows_here", "_law_modes"] (spUp) := D18.ca (ok_up D18.F Z (c__law_sum.mono (by decide)) (c__law_many.mono (by decide)))
  have c__law_rising : Ca prg w K mg base CX0 3 "_law_rising" ["_law_jar_here", "_law_modes"] (spRising) := D19.ca (ok_rising D19.F Z (c__law_scoop.mono (by decide)) (c__law_many.mono (by decide)) (c__law_up.mono (by decide)) (c__law_rows.mono (by decide)))
  have c__law_shuffled : Ca prg w K mg base CX0 2 "_law_shuffled" ["_law_jar_here", "_law_items"] (spShuf) := D14.ca (ok_shuf D14.F Z (c__law_scoop.mono (by decide)))
  have c__law_is_under : Ca prg w K mg base CX0 1 "_law_is_under" ["_law_one", "_law_other"] (spMP) := D22.ca (ok_under D22.F Z)
  have c__law_is_rising : Ca prg w K mg base CX0 1 "_law_is_rising" ["_law_one"] (spIsR) := D21.ca (ok_isR D21.F Z)
  have c__law_all_rising : Ca prg w K mg base CX0 2 "_law_all_rising" ["_law_modes"] (spAllR) := D23.ca (ok_all D23.F Z (c__law_is_rising.mono (by decide)) (c__law_many.mono (by decide)))
  have c__law_is_map : Ca prg w K mg base CX0 1 "_law_is_map" ["_law_value_here", "_law_many_here"] (spLM K) := D29.ca (ok_LM D29.F Z)
  have c__law_is_right_making : Ca prg w K mg base CX0 2 "_law_is_right_making" ["_law_value_here", "_law_listed", "_law_many_here"] (spRM w K) := D30.ca (ok_RM D30.F Z (c__law_is_map.mono (by decide)) (c__law_is_rising.mono (by decide)) (c__law_is_under.mono (by decide)))
  have c__law_stepped : Ca prg w K mg base CX0 2 "_law_stepped" ["_law_steps", "_law_one", "_law_many_here"] (spStp) := D26.ca (ok_stp D26.F Z (c__law_is_under.mono (by decide)))
  have c__law_value : Ca prg w K mg base CX0 3 "_law_value" ["_law_plan", "_law_one", "_law_many_here"] (spVal) := D27.ca (ok_val D27.F Z (c__law_stepped.mono (by decide)))
  have c__law_drawn_making : Ca prg w K mg base CX0 4 "_law_drawn_making" ["_law_jar_here", "_law_modes", "_law_listed"] (spDM w K) := D28.ca (ok_DM D28.F Z (c__law_scoop.mono (by decide)) (c__law_rising.mono (by decide)) (c__law_shuffled.mono (by decide)) (c__law_value.mono (by decide)) (c__law_many.mono (by decide)))
  have c__law_bent : Ca prg w K mg base CX0 3 "_law_bent" ["_law_jar_here", "_law_one", "_law_many_here"] (spBent K) := D25.ca (ok_bent D25.F Z (c__law_scoop.mono (by decide)) (c__law_pick.mono (by decide)))
  have c__law_spoilt : Ca prg w K mg base CX0 4 "_law_spoilt" ["_law_jar_here", "_law_making", "_law_modes", "_law_listed"] (spSp w K) := D31.ca (ok_sp D31.F Z (c__law_scoop.mono (by decide)) (c__law_pick.mono (by decide)) (c__law_bent.mono (by decide)) (c__law_many.mono (by decide)) (c__law_any_map.mono (by decide)) (c__law_rising.mono (by decide)))
  have c__law_settled : Ca prg w K mg base CX0 2 "_law_settled" ["_law_making", "_law_listed", "_law_is_keep"] (spLS w K) := D32.ca (ok_LS D32.F (c__law_is_under.mono (by decide)))
  have c_sr : CaG prg w K mg base 9 "_law_settled_right" ["_law_making", "_law_modes", "_law_listed"] (spSR w K) := D33.caG (ok_SR (k := 8) D33.F Z cS (c__law_settled.mono (by decide))) fun vs H Q hh => by
    obtain ⟨_, _, _, _, _, _, rfl, _⟩ := hh
    rfl
  have c_rt : CaG prg w K mg base 11 "_law_right" ["_law_jar_here", "_law_lists"] (spRight w K) := D34.caG (ok_right (k := 10) (kS := 8) RM Z E2 t5 (by decide) (c__law_pick.mono (by decide)) (c__law_drawn_making.mono (by decide)) (c_is_making.mono (by decide)) (c_sr.mono (by decide)) (c__law_spoilt.mono (by decide)) (c__law_is_right_making.mono (by decide)) (c__law_many.mono (by decide)) cS D24.g D24.F D24.b) fun vs H Q hh => by
    obtain ⟨_, _, _, _, _, _, rfl, _⟩ := hh
    rfl
  exact ok_law (k := 11) D35.F Z (c__law_all_rising.mono (by decide)) c_rt (c__law_jar.mono (by decide)) (c_is_making.mono (by decide)) (cS.mono (by decide))
end Hw
/-! the walk behind the top -/
namespace Hw
open PySem PySem.Spec PyProof.Rows L2 He
theorem walk_all {q : Program} {loose : List Str} {XP : (Str → Option Value) → Heap → Prop} {d : DefRec} {K : Params → PySem.W.Frag} {as : List Addr} {e : ∀ P, as = (K P).map (·.1)} (hdf : d.params.defaults = []) (hdn : d.name = "law")
    (S : ∀ w : World, He5.SaysA fas fds (K w.params)) (x : ∀ w : World, xB (K w.params) = true) :
    PySem.W.WalkO q loose XP (PySem.W.kmHook K as e [529, 389]).says PySem.Challenge.rw_handedworld_k26_whole_makings_and_settle.row.toRowW d [] (fun f vs => PySem.call f vs) := by
  refine Att.attach_callB (l := PySem.Challenge.rw_handedworld_k26_whole_makings_and_settle) (n := 63) rfl hdf fun w s₀ s₁ mg mb fa o pm cd doc a vs ns G Y ho hd hcd hmg hobj hints hlen hbits hg => ?_
  have KX : (K w.params).In s₁.heap := PySem.W.km_in_of Y
  have TT := PySem.W.km_tabs_of Y
  obtain ⟨fd, hb, hF⟩ := all_ok (w := w) KX G.T.g (S w) (x w)
  have hx : xB (K w.params) = true := x w
  obtain ⟨_, hx⟩ := ba hx
  obtain ⟨_, hx⟩ := ba hx
  obtain ⟨_, hx⟩ := ba hx
  obtain ⟨_, hx⟩ := ba hx
  obtain ⟨_, hx⟩ := ba hx
  obtain ⟨_, hx⟩ := ba hx
  obtain ⟨h5, hx⟩ := ba hx
  obtain ⟨h3, hx⟩ := ba hx
  obtain ⟨n5, n3⟩ := ba hx
  have hgl : mg "law" = some (.ref (ga (K w.params) "law")) := glo_ok KX G.T.g ((S w).fact (f := .glo "law") 35)
  have efa : fa = ga (K w.params) "law" := by
    rw [hdn, hgl] at hmg
    cases hmg
    rfl
  subst efa
  have nn : ∀ {b : Addr}, ((K w.params).lookup b).isNone = true → (K w.params).lookup b = none := fun {b} h => Option.isNone_iff_eq_none.mp h
  refine law_run (K := K w.params) (cs := [(533, 529), (393, 389)]) (k := 12) (sp := spLaw (K w.params)) ⟨KX, G.T.g, ⟨mb, G.T.b, G.T.builtins⟩, G.T.nolimit, fun p hp => ?_, fun p hp => ?_, fun p hp => ?_, G.T.bmain⟩ hg hobj hints (Nat.le_trans hlen (by decide)) ⟨rfl, by decide, by decide⟩
    (fun base _ _ TB => hF base (TB (533, 529) (by simp)) (TB (393, 389) (by simp))) hb fun H hH hS => ⟨a, ns, rfl, hS, fun p hp => ?_, fun _ => rfl⟩
  · simp only [List.mem_cons, List.not_mem_nil, or_false] at hp
    rcases hp with rfl | rfl
    · exact TT 529 (by simp)
    · exact TT 389 (by simp)
  · simp only [List.mem_cons, List.not_mem_nil, or_false] at hp
    rcases hp with rfl | rfl
    · exact nn n5
    · exact nn n3
  · simp only [List.mem_cons, List.not_mem_nil, or_false] at hp
    rcases hp with rfl | rfl
    · exact PySem.W.codeHd_of_K KX h5
    · exact PySem.W.codeHd_of_K KX h3
  · unfold tbs9 at hp
    simp only [List.mem_cons, List.not_mem_nil, or_false] at hp
    rcases hp with rfl | rfl
    · exact LamX.TabS.nil (hH (533, 529) (by simp))
    · exact LamX.TabS.nil (hH (393, 389) (by simp))
end Hw
/-! the head, and the end -/
namespace Hw
open PySem PySem.W PyProof.Rows
set_option maxHeartbeats 0
open_top top_ for PySem.Challenge.rw_handedworld_k26_whole_makings_and_settle
end Hw
open PySem PySem.W PyProof.Rows
set_option maxHeartbeats 0
theorem PySem.Challenge.cw_handedworld_k26_whole_makings_and_settle_holds : PySem.Challenge.rw_handedworld_k26_whole_makings_and_settle.Holds := by
  refine Hw.top_ (Hw.walk_all ?_ ?_ (fun w => ?_) fun w => ?_)
  · kernel_rfl
  · kernel_rfl
  · show He5.obsA _ _ _ = He5.valA _
    kernel_rfl
  · kernel_rfl
