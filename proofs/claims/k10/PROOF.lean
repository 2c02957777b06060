import PyProof.Rows.All
import Wide.All
import OpenK.AllK
import Wide.FinOn
import HandS.ForMost
import HandS.Wide
import HandS.Flow
import HandS.Conv
import HandS.Zip
import HandS.IsInst
import HandS.Exc
import HandS.TryOnly
import HandS.ExcOwn
import HandS.WordsExc
import HandS.Style
import PySem.Challenge.RW_primepapers_k10_orders
set_option Elab.async false
set_option linter.all false
section
set_option maxRecDepth 100000
namespace My
open PySem L2
/-! ### the error classes of the text -/
structure EC (K : PySem.W.Frag) (mg : Str → Option Value) (x : Str) (C : Addr) : Prop where
  g : mg x = some (.ref C)
  k : PySem.W.keepIn K (.ref C) = true
  q : PySem.W.excIn K C [.type "ValueError", .type "Exception", .type "BaseException", .type "object"] "ValueError.__new__" = true
  b : PySem.W.subIn K (.ref C) (.type "BaseException") = some true
  t : PySem.W.typeIn K (.ref C) = some (.type "type")
/-! ### kinds of values -/
inductive Ty (K : PySem.W.Frag) (H : Hp) : V → String → Prop where
  | non : Ty K H .non "NoneType"
  | bl (b : Bool) : Ty K H (.bl b) "bool"
  | int (i : Int) : Ty K H (.int i) "int"
  | str (x : Str) : Ty K H (.str x) "str"
  | lst {a : Addr} {xs : List V} (h : H a = some (.lst xs)) : Ty K H (.ref a) "list"
  | tup {a : Addr} {xs : List V} (h : H a = some (.tup xs)) : Ty K H (.ref a) "tuple"
  | dK {a : Addr} {kvs : List (Key × V)} (h : H a = some (.dK kvs)) : Ty K H (.ref a) "dict"
theorem Ty.x {K : PySem.W.Frag} {H : Hp} {v : V} {t : String} (h : Ty K H v t) : TyX K H v (.type t) := by
  cases h with
  | non => exact .base .non
  | bl b => exact .base (.bl b)
  | int i => exact .base (.int i)
  | str x => exact .base (.str x)
  | lst h => exact .base (.lst h)
  | tup h => exact .base (.tup h)
  | dK h => exact .base (.dK h)
theorem Ty.ext {K : PySem.W.Frag} {H H' : Hp} {v : V} {t : String} (h : Ty K H v t) (s : Same H H') : Ty K H' v t := by
  cases h with
  | non => exact .non
  | bl b => exact .bl b
  | int i => exact .int i
  | str x => exact .str x
  | lst h => exact .lst (s _ _ h)
  | tup h => exact .tup (s _ _ h)
  | dK h => exact .dK (s _ _ h)
def isB : V → Bool
  | .bl _ => true
  | _ => false
def isS : V → Bool
  | .str _ => true
  | _ => false
def isI : V → Bool
  | .int _ => true
  | _ => false
def inR (v : V) (lo hi : Int) : Bool := match v with
  | .int i => decide (lo ≤ i) && decide (i ≤ hi)
  | _ => false
theorem Ty.kInt {K : PySem.W.Frag} {H : Hp} {v : V} {t : String} (h : Ty K H v t) : PySem.W.kitOne K (.type t) (.type "int") = some (isI v || isB v) := by
  cases h <;> first | exact kit_ty (r := true) (by decide +kernel) | exact kit_ty (r := false) (by decide +kernel)
theorem Ty.kBool {K : PySem.W.Frag} {H : Hp} {v : V} {t : String} (h : Ty K H v t) : PySem.W.kitOne K (.type t) (.type "bool") = some (isB v) := by
  cases h <;> first | exact kit_ty (r := true) (by decide +kernel) | exact kit_ty (r := false) (by decide +kernel)
theorem Ty.kStr {K : PySem.W.Frag} {H : Hp} {v : V} {t : String} (h : Ty K H v t) : PySem.W.kitOne K (.type t) (.type "str") = some (isS v) := by
  cases h <;> first | exact kit_ty (r := true) (by decide +kernel) | exact kit_ty (r := false) (by decide +kernel)
theorem Ty.kTup {K : PySem.W.Frag} {H : Hp} {v : V} {t : String} (h : Ty K H v t) : PySem.W.kitOne K (.type t) (.type "tuple") = some (t == "tuple") := by
  cases h <;> first | exact kit_ty (r := true) (by decide +kernel) | exact kit_ty (r := false) (by decide +kernel)
theorem Ty.kLst {K : PySem.W.Frag} {H : Hp} {v : V} {t : String} (h : Ty K H v t) : PySem.W.kitOne K (.type t) (.type "list") = some (t == "list") := by
  cases h <;> first | exact kit_ty (r := true) (by decide +kernel) | exact kit_ty (r := false) (by decide +kernel)
/-- isinstance(v, int) and its like -/
theorem isi {K : PySem.W.Frag} {H : Hp} {v : V} {t c : String} {b : Bool} {Q : VK} (h : Ty K H v t) (k : PySem.W.kitOne K (.type t) (.type c) = some b) (q : Q (.bl b) H) : rIsi K [v, .ty c] H Q :=
  ⟨v, .ty c, .type t, .type c, b, rfl, .ty c, h.x, k, q⟩
/-! ### heaps -/
theorem same_new {H : Hp} {p : Addr} (h : H p = none) (o : HO) : Same H (upd H p o) := fun b u q => by rw [upd_ne (ne_of_none q h)]; exact q
theorem inR_int {v : V} {lo hi : Int} (h : inR v lo hi = true) : ∃ i, v = .int i ∧ lo ≤ i ∧ i ≤ hi := by
  cases v with
  | int i =>
    have h' : (decide (lo ≤ i) && decide (i ≤ hi)) = true := h
    rw [Bool.and_eq_true] at h'
    exact ⟨i, rfl, of_decide_eq_true h'.1, of_decide_eq_true h'.2⟩
  | _ => cases h
theorem inR_ok {i lo hi : Int} (h1 : lo ≤ i) (h2 : i ≤ hi) : inR (.int i) lo hi = true := by
  show (decide (lo ≤ i) && decide (i ≤ hi)) = true
  rw [decide_eq_true h1, decide_eq_true h2]; rfl
/-- all but lists stay -/
def NL (H H' : Hp) : Prop := ∀ b o, H b = some o → (∀ ys, o ≠ .lst ys) → H' b = some o
theorem NL.refl (H : Hp) : NL H H := fun _ _ e _ => e
theorem NL.trans {H H1 H2 : Hp} (h : NL H H1) (h' : NL H1 H2) : NL H H2 := fun b o e n => h' b o (h b o e n) n
theorem NL.of {H H' : Hp} (s : Same H H') : NL H H' := fun b o e _ => s b o e
theorem NL.lst {H : Hp} {p : Addr} {xs : List V} (h : H p = some (.lst xs)) (o : HO) : NL H (upd H p o) := fun b u e n => by
  rw [upd_ne (fun z => n xs (by rw [z] at e; exact Option.some.inj (e.symm.trans h)))]; exact e
/-! ### tests -/
theorem decB {c : Prop} [Decidable c] {A B : Prop} (h1 : c → A) (h2 : ¬ c → B) : if decide c = true then A else B := by
  by_cases h : c
  · rw [decide_eq_true h, if_pos rfl]; exact h1 h
  · rw [decide_eq_false h, if_neg Bool.false_ne_true]; exact h2 h
theorem iteB {b : Bool} {A B : Prop} (h1 : b = true → A) (h2 : b = false → B) : if b = true then A else B := by
  cases b with
  | true => exact iteT (h1 rfl)
  | false => exact iteF (h2 rfl)
theorem sz {n : Nat} (h : n ≤ 1000000) : n ≤ sizeLine := Nat.le_trans h (by decide)
theorem szl {n : Nat} (h : n < 1000000) : n < sizeLine := Nat.lt_of_lt_of_le h (by decide)
theorem pow_lt {x : Int} {m : Nat} (k : Nat) (h0 : -(2 ^ k : Int) < x) (h1 : x < (2 ^ k : Int)) : x.natAbs < 2 ^ k := by
  have e : ((2 ^ k : Nat) : Int) = (2 ^ k : Int) := by simp
  omega
theorem mulOk {i j : Int} (hi : -(2 ^ 250 : Int) < i ∧ i < 2 ^ 250) (hj : -(2 ^ 250 : Int) < j ∧ j < 2 ^ 250) : CMulW i j :=
  wide_mul (a := 250) (b := 250) (pow_lt (m := 0) 250 hi.1 hi.2) (pow_lt (m := 0) 250 hj.1 hj.2) (by decide) (by decide) (by decide)
theorem divOk {i j : Int} (h : 0 < j) (hj : j < 2 ^ 250) : CDivW i j := wide_div (b := 250) h (pow_lt (m := 0) 250 (by omega) hj) (by decide) (by decide)
/-! ### what a draw leaves: the state of two ints at a, all else as it was -/
def StAt (H : Hp) (a : Addr) : Prop := ∃ x y : Int, H a = some (.lst [.int x, .int y]) ∧ 0 ≤ x ∧ 0 ≤ y ∧ y < 2 ^ 40
def Draw (a : Addr) (H H' : Hp) : Prop := StAt H' a ∧ ∀ b o, H b = some o → b ≠ a → H' b = some o
theorem Draw.trans {a : Addr} {H H1 H2 : Hp} (h : Draw a H H1) (h' : Draw a H1 H2) : Draw a H H2 := ⟨h'.1, fun b o e n => h'.2 b o (h.2 b o e n) n⟩
theorem Draw.same {a : Addr} {H H1 H2 : Hp} (h : Draw a H H1) (s : Same H1 H2) : Draw a H H2 := by
  obtain ⟨⟨x, y, e, z⟩, k⟩ := h
  exact ⟨⟨x, y, s _ _ e, z⟩, fun b o e n => s _ _ (k b o e n)⟩
theorem StAt.draw {a : Addr} {H H1 : Hp} (h : StAt H a) (s : Same H H1) : Draw a H H1 := by
  obtain ⟨x, y, e, z⟩ := h
  exact ⟨⟨x, y, s _ _ e, z⟩, fun b o e n => s _ _ e⟩
theorem Draw.refl {a : Addr} {H : Hp} (h : StAt H a) : Draw a H H := h.draw (Same.refl H)
theorem StAt.ext {a : Addr} {H H1 : Hp} (h : StAt H a) (s : Same H H1) : StAt H1 a := (h.draw s).1
/-- an object new since H is not the state's -/
theorem Draw.keep {a b : Addr} {H H' : Hp} {o : HO} (h : Draw a H H') (e : H b = some o) (n : b ≠ a) : H' b = some o := h.2 b o e n
theorem NL.draw {a : Addr} {H H' : Hp} (h : Draw a H H') (s : StAt H a) : NL H H' := fun b o e n => h.2 b o e fun z => by
  obtain ⟨x, y, q, _⟩ := s
  exact n _ (by rw [z] at e; exact Option.some.inj (e.symm.trans q))
theorem cxK {CX : CXT} {P : Program} {w : World} {K : PySem.W.Frag} {mg : Str → Option Value} {base : Heap} {N : List Str} {qual : Str} {scope : Scope} {f : Addr} {cd : Value} {A : Around} {outer : List Env} {s : Shared} {H : Hp} {E : XK} : (cxOf CX P w K mg base N qual scope f cd A outer s H E).K = K := rfl
theorem tyL {K : PySem.W.Frag} {H : Hp} {p : Addr} {xs : List V} (h : H p = some (.lst xs)) : tyV K "list" (.ref p) H := Or.inl ⟨rfl, _, Or.inl (Or.inl h)⟩
theorem pe_gi {X : Cx} {x : Str} {pos : Pos} {i : Int} {t : Tok} (hg : Gl X x) (hm : X.mg x = some (.int i t)) (hdb : (x == ("__debug__" : Str)) = false := by decide) : PE X (.Name x pos) (tC (.int i)) :=
  pe_glob hg hm (show RelV (V.int i) (Value.int i t) from ⟨t, rfl⟩) hdb
theorem ixL {K : PySem.W.Frag} {H : Hp} {a : Addr} {xs : List V} {i : Int} {v : V} {Q : VK} (h : SqL K H a xs) (e : atI xs i = some v) (q : Q v H) : rIxL K (.ref a) (.int i) H Q := ⟨a, xs, i, v, rfl, rfl, h, e, q⟩
theorem ixT {K : PySem.W.Frag} {H : Hp} {a : Addr} {xs : List V} {i : Int} {v : V} {Q : VK} (h : SqT K H a xs) (e : atI xs i = some v) (q : Q v H) : rIxT K (.ref a) (.int i) H Q := ⟨a, xs, i, v, rfl, rfl, h, e, q⟩
theorem ix0 {K : PySem.W.Frag} {H : Hp} {a : Addr} {v : V} {r : List V} {Q : VK} (h : H a = some (.lst (v :: r))) (q : Q v H) : rIxL K (.ref a) (.int 0) H Q := ixL (SqL.of h) (atI_nat (j := 0) rfl) q
theorem ix1 {K : PySem.W.Frag} {H : Hp} {a : Addr} {u v : V} {r : List V} {Q : VK} (h : H a = some (.lst (u :: v :: r))) (q : Q v H) : rIxL K (.ref a) (.int 1) H Q := ixL (SqL.of h) (atI_nat (j := 1) rfl) q
theorem st0 {H : Hp} {a : Addr} {u v x : V} {Q : Hp → Prop} (h : H a = some (.lst [u, v])) (q : Q (upd H a (.lst [x, v]))) : rSetL (.ref a) (.int 0) x H Q := ⟨a, [u, v], 0, 0, rfl, rfl, h, rfl, q⟩
theorem st1 {H : Hp} {a : Addr} {u v x : V} {Q : Hp → Prop} (h : H a = some (.lst [u, v])) (q : Q (upd H a (.lst [u, x]))) : rSetL (.ref a) (.int 1) x H Q := ⟨a, [u, v], 1, 1, rfl, rfl, h, rfl, q⟩
theorem cp10 {j : Int} : CPow 10 j = (0 ≤ j ∧ j ≤ 1000000) := by
  unfold CPow
  exact propext ⟨fun h => ⟨h.1, h.2.1⟩, fun h => ⟨h.1, h.2, by decide⟩⟩
/-- an item of a written list, at a drawn place -/
theorem ixD {K : PySem.W.Frag} {H : Hp} {a : Addr} {xs : List V} {i : Int} {Q : VK} (h : SqL K H a xs) (h0 : 0 ≤ i) (h1 : i < xs.length) (q : ∀ (j : Nat) (v : V), i = j → xs[j]? = some v → Q v H) : rIxL K (.ref a) (.int i) H Q := by
  obtain ⟨j, rfl⟩ := Int.eq_ofNat_of_zero_le h0
  have hj : j < xs.length := by omega
  exact ixL h (atI_nat (List.getElem?_eq_getElem hj)) (q j _ rfl (List.getElem?_eq_getElem hj))
theorem memD {K : PySem.W.Frag} {H : Hp} {a : Addr} {xs : List V} {i : Int} {Q : VK} (h : SqL K H a xs) (h0 : 0 ≤ i) (h1 : i < xs.length) (q : ∀ v ∈ xs, Q v H) : rIxL K (.ref a) (.int i) H Q :=
  ixD h h0 h1 fun j v _ e => q v (List.mem_of_getElem? e)
/-- a new object is not the state's -/
theorem Draw.ne {a p : Addr} {H H' : Hp} (h : Draw a H H') (e : H' p = none) : p ≠ a := fun z => by
  obtain ⟨⟨x, y, q, _⟩, _⟩ := h
  rw [z, q] at e
  cases e
theorem StAt.ne {a p : Addr} {H : Hp} (h : StAt H a) (e : H p = none) : p ≠ a := fun z => by
  obtain ⟨x, y, q, _⟩ := h
  rw [z, q] at e
  cases e
theorem sc_ii {i j : Int} : scal (.int i) (.int j) = true := rfl
theorem sc_ss {i j : Str} : scal (.str i) (.str j) = true := rfl
theorem sc_bb {i j : Bool} : scal (.bl i) (.bl j) = true := rfl
theorem sc_nn : scal .non .non = true := rfl
theorem sc_ni {i : Int} : scal .non (.int i) = true := rfl
theorem sc_in {i : Int} : scal (.int i) .non = true := rfl
theorem sc_nb {i : Bool} : scal .non (.bl i) = true := rfl
theorem sc_bn {i : Bool} : scal (.bl i) .non = true := rfl
theorem sc_ns {i : Str} : scal .non (.str i) = true := rfl
theorem sc_sn {i : Str} : scal (.str i) .non = true := rfl
end My

end
section
set_option maxRecDepth 100000
open PySem PySem.Spec PyProof.Rows L2
namespace My
/-! ### promises that hold where nothing is being shown (repr asks that) -/
structure FnG (P : Program) (w : World) (K : PySem.W.Frag) (mg : Str → Option Value) (base : Heap) (CX : CXT) (k : Nat) (f : Addr) (fd : FuncData) (ps : List Str) (sp : Sp) : Prop where
  len : ∀ as h q e, sp as h q e → as.length = ps.length
  run : ∀ (A : Around) (out : List Env) (s : Shared) (h : Hp) (args : Args) (us : List Value) (as : List V) (q : VK) (e : XK),
    Room k A → A.guards = some [] → Env0 P w K mg base A out s h → BindsTo s fd args (ps.zip us) → Vals as us → sp as h q e →
      codeAny (model P w) A (.call (.ref f) args) (CR CX out P w h s q e) s
section
variable {P : Program} {w : World} {K : PySem.W.Frag} {mg : Str → Option Value} {base : Heap} {CX : CXT}
theorem FnG.of {k : Nat} {f : Addr} {fd : FuncData} {ps : List Str} {sp : Sp} (F : FnOk P w K mg base CX k f fd ps sp) : FnG P w K mg base CX k f fd ps sp :=
  ⟨F.len, fun A out s h args us as q e r _ => F.run A out s h args us as q e r⟩
theorem FnG.mono {j k : Nat} {f : Addr} {fd : FuncData} {ps : List Str} {sp : Sp} (F : FnG P w K mg base CX j f fd ps sp) (h : j ≤ k) : FnG P w K mg base CX k f fd ps sp :=
  ⟨F.len, fun A out s h' args us as q e r => F.run A out s h' args us as q e (r.mono h)⟩
theorem FnG.imp {k : Nat} {f : Addr} {fd : FuncData} {ps : List Str} {sp sp' : Sp} (F : FnG P w K mg base CX k f fd ps sp) (h : ∀ as H q e, sp' as H q e → sp as H q e) : FnG P w K mg base CX k f fd ps sp' :=
  ⟨fun as H q e z => F.len as H q e (h _ _ _ _ z), fun A out s H args us as q e r g a b c d => F.run A out s H args us as q e r g a b c (h _ _ _ _ d)⟩
/-- a def's body gives its promise -/
theorem fnG {x qual : Str} {st : Stmt} {f : Addr} {fd : FuncData} {N ps : List Str} {k : Nat} {sp : Sp} (F : Fun K x qual st f fd) (S : FnScope N ps (defScope st)) (len : ∀ as h q e, sp as h q e → as.length = ps.length)
    (hb : ∀ (cdv : Value) (A : Around) (out : List Env) (s : Shared) (h : Hp) (as : List V) (q : VK) (e : XK), Room k (A.deeper (envOfC qual (defScope st) s.heap.objs.size f cdv)) → A.guards = some [] → sp as h q e →
      ∃ t, PSs (cxOf CX P w K mg base N qual (defScope st) f cdv A out s h e) (defBody st) t ∧ t { nx := fun _ h' => q .non h', rt := q } (L2.start N as) h) : FnG P w K mg base CX (k + 1) f fd ps sp := by
  obtain ⟨oc, od, kV, doc, pm, an, cdv, ct, osl, rfl, lk, hcd⟩ := F.ex
  refine ⟨len, fun A out s h args us as q e hr hg e0 bd rv hsp => ?_⟩
  have ln := len as h q e hsp
  have kin : K.In s.heap := e0.mod.kin.keeps (fun b o z => (e0.bs b o z).1)
  have nolim : s.heap.NoLimit := e0.mod.nolimit.keeps (fun b o z => (e0.bs b o z).1)
  have pk : ∀ y ∈ ps.zip us, (defScope st).names.lookup y.1 = some .local ∨ ((defScope st).names.lookup y.1 = some .cell ∧ ((cellsFrom (s.heap.objs.size + 1) (defScope st).names []).lookup y.1).isSome = true) := by
    rintro ⟨nm, vl⟩ hy
    exact (S.par nm (List.of_mem_zip hy).1).elim Or.inl fun z => Or.inr ⟨z, PySem.W.cellsFrom_some _ _ _ (Or.inl z)⟩
  refine codeAny_call_function hr.depth (kin _ _ lk) rfl S.co S.gen rfl (PySem.W.codeRec_of kin hcd) (bd _ _ _ _ (wpAny_newFunctionEnv_cells S.kind pk ?_))
  intro env he s1 x
  subst he
  refine ⟨nolim.keeps x.toInCall.keep, codeAny_func ?_⟩
  obtain ⟨t, ht, hq⟩ := hb cdv A out s h as q e (hr.deeper _) hg hsp
  have I0 : Inv (cxOf CX P w K mg base N qual (defScope st) f cdv A out s h e) [] (L2.start N as) h s1 := inv_start S hr.hd e0 ln rv x
  refine wpAny_mono (ht.run [] s1 (L2.start N as) h _ I0 hq) (fun fl s' hs => ?_) (fun _ _ z => z)
  have goes : ∀ {σ' : L2.St} {h' : Hp} {v : V} {u : Value}, Inv (cxOf CX P w K mg base N qual (defScope st) f cdv A out s h e) [] σ' h' s' → RelV v u → q v h' → CE out P w h s q u s' := by
    intro σ' h' v u J r z
    exact ⟨v, h', J.os, J.bare, J.base, J.hok, r, z⟩
  match fl, hs with
  | .ret u, ⟨v, σ', h', J, r, z⟩ => exact goes J r z
  | .next, ⟨σ', h', J, z⟩ => exact goes (v := V.non) (u := Value.none) J rfl z
  | .brk, ⟨_, _, _, z⟩ => exact z.elim
  | .cont, ⟨_, _, _, z⟩ => exact z.elim
/-- .. where no exception leaves it -/
theorem fnG0 {x qual : Str} {st : Stmt} {f : Addr} {fd : FuncData} {N ps : List Str} {k : Nat} {sp : Sp} (F : Fun K x qual st f fd) (S : FnScope N ps (defScope st)) (len : ∀ as h q e, sp as h q e → as.length = ps.length)
    (hb : ∀ (cdv : Value) (A : Around) (out : List Env) (s : Shared) (h : Hp) (as : List V) (q : VK) (e : XK), Room k (A.deeper (envOfC qual (defScope st) s.heap.objs.size f cdv)) → A.guards = some [] → sp as h q e →
      ∃ t, PSs (cxOf CX0 P w K mg base N qual (defScope st) f cdv A out s h e).nox (defBody st) t ∧ t { nx := fun _ h' => q .non h', rt := q } (L2.start N as) h) : FnG P w K mg base CX0 (k + 1) f fd ps sp :=
  fnG F S len fun cdv A out s h as q e hr hg z => by
    obtain ⟨t, a, b⟩ := hb cdv A out s h as q e hr hg z
    exact ⟨t, a.nox, b⟩
end
/-! ### calls -/
structure Cl (P : Program) (w : World) (K : PySem.W.Frag) (mg : Str → Option Value) (base : Heap) (CX : CXT) (k : Nat) (x : Str) (sp : Sp) : Prop where
  ex : ∃ (f : Addr) (fd : FuncData) (ps : List Str), FnG P w K mg base CX k f fd ps sp ∧ mg x = some (.ref f) ∧ PySem.W.keepIn K (.ref f) = true ∧ Binds K fd ps []
def tCl (sp : Sp) (E : XK) (t : TA) : TE := fun σ H Q => t σ H fun vs H1 => sp vs H1 Q E
section
variable {X : Cx} {CX : CXT} {k j : Nat} {x : Str} {sp : Sp} {p pos : Pos} {e : Expr} {es : List Expr} {t : TA} {E : XK} {f : Addr} {fd : FuncData} {ps : List Str}
theorem run_fnG {pins : List (Addr × Obj)} {σ : L2.St} {h : Hp} {s : Shared} {q : VK} {us : List Value} {as : List V} (F : FnG X.prog X.w X.K X.mg X.base CX k f fd ps sp) (hr : Room k X.A) (hgd : X.A.guards = some []) (hb : Binds X.K fd ps []) (hx : Passes CX X E)
    (I : Inv X pins σ h s) (r : Vals as us) (z : sp as h q E) : wpAny (model X.prog X.w) X.A (PySem.call (.ref f) us) (EP X pins σ q) X.xe s := by
  have ln : us.length = ps.length := by rw [← r.length]; exact F.len _ _ _ _ z
  have bd := hb s us I.kIn (by rw [List.append_nil]; exact ln)
  rw [List.append_nil] at bd
  refine wpAny_call (codeAny_mono (F.run X.A X.stack s h ⟨us, []⟩ us as q E hr hgd I.env0 bd r z) fun res s' hq => ?_)
  match res, hq with
  | .error er, hq => exact hx pins σ h s er s' I hq
  | .ok (.ret u), hq => exact I.after hq
  | .ok .next, hq => exact False.elim hq
  | .ok .brk, hq => exact False.elim hq
  | .ok .cont, hq => exact False.elim hq
theorem pe_clg (c : Cl X.prog X.w X.K X.mg X.base CX k x sp) (hr : Room j X.A) (hgd : X.A.guards = some []) (hk : k ≤ j) (hg : Gl X x) (hx : Passes CX X E) (ha : PA X (e :: es) t)
    (hdb : (x == ("__debug__" : Str)) = false := by decide) (he : starEach (e :: es) X.env = (false, eval e X.env) :: starEach es X.env := by rfl) (hpl : (backTo pos (starEach es X.env)).any (·.1) = false := by rfl) :
    PE X (.Call (.Name x p) (e :: es) [] pos) (tCl sp E t) := by
  obtain ⟨f, fd, ps, F, hm, kp, b⟩ := c.ex
  refine ⟨fun pins s σ h q I z => wpAny_Call_Name_kw (ld_glob I hg hm ?_ hdb)⟩
  refine PySem.W.callWith_K (h₀ := X.base) I.ok.mod.kin kp (thn (ha.run pos pins s σ h _ I z) ?_) he hpl
  rintro us s1 ⟨as, h1, I1, r, y⟩
  exact ⟨I1.kIn, run_fnG F (hr.mono hk) hgd b hx I1 r y⟩
end
section
variable {X : Cx} {CX : CXT} {k j : Nat} {x : Str} {sp : Sp} {p pos : Pos} {e : Expr} {es : List Expr} {t : TA} {E : XK}
/-- a def that raises nothing is called -/
theorem pe_cl (c : Cl X.prog X.w X.K X.mg X.base CX0 k x sp) (hr : Room j X.A) (hgd : X.A.guards = some []) (hk : k ≤ j) (hg : Gl X x) (ha : PA X (e :: es) t)
    (hdb : (x == ("__debug__" : Str)) = false := by decide) (he : starEach (e :: es) X.env = (false, eval e X.env) :: starEach es X.env := by rfl) (hpl : (backTo pos (starEach es X.env)).any (·.1) = false := by rfl) :
    PE X (.Call (.Name x p) (e :: es) [] pos) (tCl sp E0 t) := pe_clg c hr hgd hk hg pass0 ha hdb he hpl
/-- a def that may raise is called where nothing is let out -/
theorem pe_cln (c : Cl X.prog X.w X.K X.mg X.base (L2.CX X.prog X.w) k x sp) (hr : Room j X.A) (hgd : X.A.guards = some []) (hk : k ≤ j) (hg : Gl X x) (ha : PA X (e :: es) t)
    (hdb : (x == ("__debug__" : Str)) = false := by decide) (he : starEach (e :: es) X.env = (false, eval e X.env) :: starEach es X.env := by rfl) (hpl : (backTo pos (starEach es X.env)).any (·.1) = false := by rfl) :
    PE X (.Call (.Name x p) (e :: es) [] pos) (tCl sp E0 t) := pe_clg c hr hgd hk hg passL ha hdb he hpl
/-- .. in a def that lets the same out -/
theorem pe_clx {W : WX} (tk : Takes X W) (hW : ∀ cls d σ H, E cls d H → W cls d σ H) (c : Cl X.prog X.w X.K X.mg X.base (L2.CX X.prog X.w) k x sp) (hr : Room j X.A) (hgd : X.A.guards = some []) (hk : k ≤ j) (hg : Gl X x) (ha : PA X (e :: es) t)
    (hdb : (x == ("__debug__" : Str)) = false := by decide) (he : starEach (e :: es) X.env = (false, eval e X.env) :: starEach es X.env := by rfl) (hpl : (backTo pos (starEach es X.env)).any (·.1) = false := by rfl) :
    PE X (.Call (.Name x p) (e :: es) [] pos) (tCl sp E t) := pe_clg c hr hgd hk hg (passes_call tk hW) ha hdb he hpl
end
section
variable {P : Program} {w : World} {K : PySem.W.Frag} {mg : Str → Option Value} {base : Heap}
theorem Cl.mk' {CX : CXT} {k : Nat} {x : Str} {st : Stmt} {f : Addr} {fd : FuncData} {ps : List Str} {sp : Sp} (F : Fun K x x st f fd) (hm : mg x = some (.ref f)) (b : Binds K fd ps []) (G : FnG P w K mg base CX k f fd ps sp) : Cl P w K mg base CX k x sp :=
  ⟨f, fd, ps, G, hm, F.kp, b⟩
theorem Cl.mono {CX : CXT} {j k : Nat} {x : Str} {sp : Sp} (c : Cl P w K mg base CX j x sp) (h : j ≤ k) : Cl P w K mg base CX k x sp := by
  obtain ⟨f, fd, ps, F, a, b, d⟩ := c.ex
  exact ⟨f, fd, ps, F.mono h, a, b, d⟩
theorem Cl.imp {CX : CXT} {k : Nat} {x : Str} {sp sp' : Sp} (c : Cl P w K mg base CX k x sp) (h : ∀ as H q e, sp' as H q e → sp as H q e) : Cl P w K mg base CX k x sp' := by
  obtain ⟨f, fd, ps, F, a, b, d⟩ := c.ex
  exact ⟨f, fd, ps, F.imp h, a, b, d⟩
end
/-! ### the end -/
theorem law_callG {P : Program} {w : World} {K : PySem.W.Frag} {mg mb : Str → Option Value} {CX : CXT} {k : Nat} {fa a : Addr} {fd : FuncData} {x : Str} {sp : Sp} {s₁ : Shared} {vs : List Value} {ns : List Int}
    (kin : K.In s₁.heap) (hns : s₁.heap.Ns mainGlobals mg) (hb : s₁.heap.Ns builtinsNs mb) (hbb : ∀ x : Str, x ≠ "__name__" → mb x = bootBuiltins x) (hlim : s₁.heap.NoLimit) (hg : s₁.gens = #[])
    (ha : s₁.heap.get? a = some { cls := .type "list", data := .seq vs.toArray }) (hi : IntsAre vs ns) (hl : ns.length ≤ sizeLine) (hr : Room k callerA)
    (F : ∀ base : Heap, K.In base → base.Ns mainGlobals mg → FnG P w K mg base CX k fa fd [x] sp) (bd : ∀ (s : Shared) (u : Value), BindsTo s fd ⟨[u], []⟩ [(x, u)])
    (hsp : ∀ H : Hp, Only H → SqL K H a (ns.map V.int) → sp [.ref a] H (fun v _ => v = .bl true) fun _ _ _ => False)
    (hCX : ∀ H e s', CX [] H s₁ (fun _ _ _ => False) e s' → False) :
    codeAny (model P w) callerA (.call (.ref fa) ⟨[.ref a], []⟩) (fun r s' => r = .ok (.ret (.bool true)) ∧ OldK s₁.heap s'.heap ∧ s'.os = s₁.os ∧ AllBare s'.gens) s₁ := by
  have len := hi.length
  -- an abstract heap that tracks the script at most
  have main : ∀ H : Hp, Only H → SqL K H a (ns.map V.int) → HOk P w H s₁.heap → (∀ b, H b ≠ none → b = a) → (H a ≠ none → K.lookup a = none) →
      codeAny (model P w) callerA (.call (.ref fa) ⟨[.ref a], []⟩) (fun r s' => r = .ok (.ret (.bool true)) ∧ OldK s₁.heap s'.heap ∧ s'.os = s₁.os ∧ AllBare s'.gens) s₁ := by
    intro H only sq hok just hK
    have out : ∀ {b : Addr} {o : Obj} {es : Array DictEntry} {ep : Nat}, s₁.heap.get? b = some o → o.data = .dict es ep → H b = none := by
      intro b o es ep z1 z2
      refine Classical.byContradiction fun z => ?_
      obtain rfl := just b z
      rw [ha] at z1
      cases z1
      exact Data.noConfusion (show Data.seq vs.toArray _ = Data.dict es ep from z2)
    have ns2 : ∀ {b : Addr} {m : Str → Option Value}, s₁.heap.Ns b m → (hidT s₁.heap H).Ns b m := by
      rintro b m ⟨o, es, ep, z1, z2, z3⟩
      exact ⟨o, es, ep, hidT_get z1 (out z1 z2), z2, z3⟩
    have kb : K.In (hidT s₁.heap H) := by
      intro b o z
      refine hidT_get (kin b o z) (Classical.byContradiction fun y => ?_)
      have eb := just b y
      subst eb
      rw [hK y] at z
      cases z
    obtain ⟨mc, lm1, lm2⟩ := hlim
    have md : Mod K mg (hidT s₁.heap H) := ⟨kb, ns2 hns, ⟨mb, ns2 hb, hbb⟩, mc, ns2 lm1, lm2⟩
    have e0 : Env0 P w K mg (hidT s₁.heap H) callerA [] s₁ H := ⟨rfl, md, fun b o z => of_hidT z, Nat.le_of_eq (hidT_size _ _), trivial, (fun b z => nomatch (show b ∈ ([] : List Addr) from z)), hok, .of_eq hg⟩
    have go := (F _ kb (ns2 hns)).run callerA [] s₁ H ⟨[.ref a], []⟩ [.ref a] [.ref a] _ _ hr rfl e0 (bd s₁ (.ref a)) (.cons rfl .nil) (hsp H only sq)
    refine codeAny_mono go fun res s' z => ?_
    match res, z with
    | .error e, z => exact (hCX H e s' z).elim
    | .ok .next, z => exact False.elim z
    | .ok .brk, z => exact False.elim z
    | .ok .cont, z => exact False.elim z
    | .ok (.ret u), ⟨v, H', os, bare, un, hok', rv, z⟩ =>
      have ev : v = .bl true := z
      subst ev
      obtain rfl : u = Value.bool true := rv
      refine ⟨rfl, OldK.of_keep fun b o y => ?_, os, bare⟩
      rcases only b with n | ⟨ob, xs, n⟩
      · exact un.keep b o y n (fun z => nomatch (show b ∈ ([] : List Addr) from z)) (by simp)
      · obtain ⟨y1, _⟩ := hok b _ n
        obtain ⟨y2, _⟩ := hok' b _ (un.frzs b ob _ n)
        rw [y] at y1
        cases y1
        exact y2
  have rv := vals_ints hi
  cases hk : K.lookup a with
  | some o =>
    have z := kin a o hk
    rw [ha] at z
    cases z
    exact main (fun _ => none) (fun _ => Or.inl rfl) (Or.inr ⟨_, vs.toArray, _, hk, rfl, rfl, rfl, by rw [List.size_toArray, len]; exact hl, by simpa using rv⟩) (fun b u y => nomatch (show (none : Option HO) = some u from y)) (fun b y => (y rfl).elim) (fun y => (y rfl).elim)
  | none =>
    have at_ : ∀ b, b ≠ a → (if b = a then some (HO.frz { cls := .type "list", data := .seq vs.toArray } (.lst (ns.map V.int))) else none) = none := fun b n => if_neg n
    refine main (fun b => if b = a then some (.frz { cls := .type "list", data := .seq vs.toArray } (.lst (ns.map V.int))) else none) (fun b => ?_) (Or.inl (Or.inr ⟨_, if_pos rfl⟩)) (fun b u z => ?_) (fun b z => Classical.byContradiction fun n => z (at_ b n)) (fun _ => hk)
    · by_cases n : b = a
      · exact Or.inr ⟨_, _, if_pos n⟩
      · exact Or.inl (at_ b n)
    · by_cases n : b = a
      · subst n
        have z' := (if_pos rfl).symm.trans z
        cases z'
        exact ⟨ha, by rw [List.length_map]; exact hl, vs, _, rv, ha⟩
      · exact nomatch (at_ b n).symm.trans z
theorem walk_ofG {l : PySem.W.OpenLaw} {n k : Nat} {q : Program} {loose : List Str} {XP : (Str → Option Value) → Heap → Prop} {YP : World → Heap → Prop} {d : DefRec} {K : Params → PySem.W.Frag} {x : Str}
    (hn : l.most = some n) (hn2 : n ≤ sizeLine) (hdf : d.params.defaults = []) (hr : Room k callerA) {sp : PySem.W.Frag → Sp}
    (hY : ∀ (w : World) (h : Heap), YP w h → (K w.params).In h)
    (F : ∀ (w : World) (mg : Str → Option Value) (fa : Addr) (h : Heap), (K w.params).In h → h.Ns mainGlobals mg → mg d.name = some (.ref fa) →
      ∃ fd : FuncData, (∀ (s : Shared) (u : Value), BindsTo s fd ⟨[u], []⟩ [(x, u)]) ∧ ∀ base : Heap, (K w.params).In base → base.Ns mainGlobals mg → FnG l.prog w (K w.params) mg base CX0 k fa fd [x] (sp (K w.params)))
    (hsp : ∀ (K : PySem.W.Frag) (H : Hp) (a : Addr) (ns : List Int), ns.length ≤ n → Only H → SqL K H a (ns.map V.int) → sp K [.ref a] H (fun v _ => v = .bl true) fun _ _ _ => False) :
    PySem.W.WalkO q loose XP YP l.row.toRowW d [] (fun f vs => PySem.call f vs) := by
  refine Att.attach_call hn hdf ?_
  intro w s₀ s₁ mg mb fa o pm cd doc a vs ns G Y ho hd hcd hmg hobj hints hlen hg
  have kin := hY w _ Y
  obtain ⟨fd, bd, hF⟩ := F w mg fa _ kin G.T.g hmg
  exact law_callG kin G.T.g G.T.b G.T.builtins G.T.nolimit hg hobj hints (Nat.le_trans hlen hn2) hr hF bd (fun H o s => hsp (K w.params) H a ns hlen o s) (fun _ _ _ z => z)
end My

end
section
namespace NT
/-! ### primes -/
def Pr (p : Nat) : Prop := 2 ≤ p ∧ ∀ d, d ∣ p → d = 1 ∨ d = p
theorem Pr.two {p : Nat} (h : Pr p) : 2 ≤ p := h.1
theorem Pr.pos {p : Nat} (h : Pr p) : 0 < p := Nat.lt_of_lt_of_le (by decide) h.1
theorem Pr.cop {p a : Nat} (h : Pr p) (ha : ¬ p ∣ a) : Nat.gcd p a = 1 := by
  rcases h.2 _ (Nat.gcd_dvd_left p a) with e | e
  · exact e
  · exact absurd (e ▸ Nat.gcd_dvd_right p a) ha
theorem Pr.dvd_mul {p a b : Nat} (h : Pr p) (hd : p ∣ a * b) : p ∣ a ∨ p ∣ b := by
  by_cases ha : p ∣ a
  · exact .inl ha
  · exact .inr (Nat.Coprime.dvd_of_dvd_mul_left (show Nat.Coprime p a from h.cop ha) hd)
theorem Pr.dvd_pow {p a : Nat} (h : Pr p) : ∀ {k : Nat}, p ∣ a ^ k → p ∣ a
  | 0, hd => by
    have := Nat.le_of_dvd (by decide) (by simpa using hd : p ∣ 1)
    have := h.1
    omega
  | k + 1, hd => by
    rw [Nat.pow_succ] at hd
    rcases h.dvd_mul hd with e | e
    · exact h.dvd_pow e
    · exact e
theorem Pr.eq_of_dvd {p q : Nat} (hp : Pr p) (hq : Pr q) (h : p ∣ q) : p = q := by
  rcases hq.2 _ h with e | e
  · have := hp.1
    omega
  · exact e
/-- no divisor from 2 to below p, and p divides: p is a prime -/
theorem pr_of_least {p L : Nat} (h2 : 2 ≤ p) (hd : p ∣ L) (hn : ∀ q, 2 ≤ q → q < p → ¬ q ∣ L) : Pr p := by
  refine ⟨h2, fun d hdp => ?_⟩
  have hdpos : 0 < d := by
    rcases Nat.eq_zero_or_pos d with e | e
    · subst e
      have := Nat.eq_zero_of_zero_dvd hdp
      omega
    · exact e
  have hle : d ≤ p := Nat.le_of_dvd (by omega) hdp
  by_cases h1 : d = 1
  · exact .inl h1
  · by_cases h3 : d = p
    · exact .inr h3
    · exact absurd (Nat.dvd_trans hdp hd) (hn d (by omega) (by omega))
/-- beyond the root nothing is left but a prime -/
theorem pr_of_root {p L : Nat} (hL : 1 < L) (hpp : L < p * p) (hn : ∀ q, 2 ≤ q → q < p → ¬ q ∣ L) : Pr L := by
  refine ⟨hL, fun d hd => ?_⟩
  obtain ⟨c, hc⟩ := hd
  have hd0 : 0 < d := by
    rcases Nat.eq_zero_or_pos d with e | e
    · rw [e, Nat.zero_mul] at hc; omega
    · exact e
  have hc0 : 0 < c := by
    rcases Nat.eq_zero_or_pos c with e | e
    · rw [e, Nat.mul_zero] at hc; omega
    · exact e
  by_cases h1 : d = 1
  · exact .inl h1
  by_cases h2 : c = 1
  · right; rw [h2, Nat.mul_one] at hc; exact hc.symm
  exfalso
  by_cases h3 : d < p
  · exact hn d (by omega) h3 ⟨c, hc⟩
  by_cases h4 : c < p
  · exact hn c (by omega) h4 ⟨d, by rw [Nat.mul_comm]; exact hc⟩
  have : p * p ≤ d * c := Nat.mul_le_mul (by omega) (by omega)
  omega
/-! ### the parts of a number -/
def pprod : List (Nat × Nat) → Nat
  | [] => 1
  | q :: r => q.1 ^ q.2 * pprod r
theorem pprod_app : ∀ l r : List (Nat × Nat), pprod (l ++ r) = pprod l * pprod r
  | [], r => by simp [pprod]
  | q :: l, r => by simp [pprod, pprod_app l r, Nat.mul_assoc]
structure Parts (n : Nat) (l : List (Nat × Nat)) : Prop where
  pr : ∀ q ∈ l, Pr q.1 ∧ 1 ≤ q.2
  up : l.Pairwise fun a b => a.1 < b.1
  prod : pprod l = n
theorem dvd_pprod {p : Nat} (hp : Pr p) : ∀ {l : List (Nat × Nat)}, (∀ q ∈ l, Pr q.1) → p ∣ pprod l → ∃ q ∈ l, q.1 = p
  | [], _, h => by
    have h2 : p ≤ 1 := Nat.le_of_dvd (by decide) (h : p ∣ 1)
    have := hp.1
    omega
  | q :: l, hl, h => by
    rcases hp.dvd_mul (h : p ∣ q.1 ^ q.2 * pprod l) with e | e
    · exact ⟨q, List.mem_cons_self, (hp.eq_of_dvd (hl q List.mem_cons_self) (hp.dvd_pow e)).symm⟩
    · obtain ⟨r, h1, h2⟩ := dvd_pprod hp (fun q h => hl q (List.mem_cons_of_mem _ h)) e
      exact ⟨r, List.mem_cons_of_mem _ h1, h2⟩
theorem mem_dvd : ∀ {l : List (Nat × Nat)} {q : Nat × Nat}, q ∈ l → q.1 ^ q.2 ∣ pprod l
  | a :: l, q, h => by
    rcases List.mem_cons.mp h with e | e
    · subst e
      exact Nat.dvd_mul_right _ _
    · exact Nat.dvd_trans (mem_dvd e) (Nat.dvd_mul_left _ _)
theorem pow_cancel {p a b x y : Nat} (hp : Pr p) (hx : ¬ p ∣ x) (hy : ¬ p ∣ y) (h : p ^ a * x = p ^ b * y) : a = b ∧ x = y := by
  have pos : ∀ k, 0 < p ^ k := fun k => Nat.pow_pos hp.pos
  have key : ∀ {a b x y : Nat}, ¬ p ∣ y → a ≤ b → p ^ b * x = p ^ a * y → a = b := by
    intro a b x y hy hab h
    by_cases e : a = b
    · exact e
    exfalso
    obtain ⟨c, hc⟩ : ∃ c, b = a + (c + 1) := ⟨b - a - 1, by omega⟩
    rw [hc, Nat.pow_add, Nat.mul_assoc] at h
    have h2 := Nat.eq_of_mul_eq_mul_left (pos a) h
    apply hy
    rw [← h2, Nat.pow_succ, Nat.mul_comm (p ^ c) p, Nat.mul_assoc]
    exact Nat.dvd_mul_right _ _
  have e : a = b := by
    rcases Nat.le_total a b with hab | hab
    · exact key hx hab h.symm
    · exact (key hy hab h).symm
  subst e
  exact ⟨rfl, Nat.eq_of_mul_eq_mul_left (pos a) h⟩
theorem Parts.nil_uniq {q : Nat × Nat} {r : List (Nat × Nat)} {n : Nat} (h1 : Parts n []) (h2 : Parts n (q :: r)) : False := by
  have e : q.1 ^ q.2 * pprod r = 1 := h2.prod.trans h1.prod.symm
  have hq := h2.pr q List.mem_cons_self
  have e1 := Nat.eq_one_of_mul_eq_one_right e
  have := hq.1.1
  have h3 : q.1 ∣ q.1 ^ q.2 := by
    obtain ⟨k, hk⟩ : ∃ k, q.2 = k + 1 := ⟨q.2 - 1, by omega⟩
    rw [hk, Nat.pow_succ]; exact Nat.dvd_mul_left _ _
  rw [e1] at h3
  have := Nat.le_of_dvd (by decide) h3
  omega
theorem Parts.uniq : ∀ {l r : List (Nat × Nat)} {n : Nat}, Parts n l → Parts n r → l = r
  | [], [], _, _, _ => rfl
  | [], q :: r, n, h1, h2 => (h1.nil_uniq h2).elim
  | q :: l, [], n, h1, h2 => (h2.nil_uniq h1).elim
  | q :: l, s :: r, n, h1, h2 => by
    have hq := h1.pr q List.mem_cons_self
    have hs := h2.pr s List.mem_cons_self
    have ul := List.pairwise_cons.mp h1.up
    have ur := List.pairwise_cons.mp h2.up
    have self_dvd : ∀ {q : Nat × Nat}, 1 ≤ q.2 → q.1 ∣ q.1 ^ q.2 := fun {q} h => by
      obtain ⟨k, hk⟩ : ∃ k, q.2 = k + 1 := ⟨q.2 - 1, by omega⟩
      rw [hk, Nat.pow_succ]; exact Nat.dvd_mul_left _ _
    have least : ∀ {q s : Nat × Nat} {r : List (Nat × Nat)}, Pr q.1 → (∀ t ∈ s :: r, Pr t.1) → (∀ t ∈ r, s.1 < t.1) → q.1 ∣ pprod (s :: r) → s.1 ≤ q.1 := fun {q s r} hq hr hu hd => by
      obtain ⟨t, ht, e⟩ := dvd_pprod hq hr hd
      rcases List.mem_cons.mp ht with z | z
      · rw [← e, z]; exact Nat.le_refl _
      · rw [← e]; exact Nat.le_of_lt (hu t z)
    have d1 : q.1 ∣ pprod (s :: r) := by rw [h2.prod, ← h1.prod]; exact Nat.dvd_trans (self_dvd hq.2) (Nat.dvd_mul_right _ _)
    have d2 : s.1 ∣ pprod (q :: l) := by rw [h1.prod, ← h2.prod]; exact Nat.dvd_trans (self_dvd hs.2) (Nat.dvd_mul_right _ _)
    have e1 : q.1 = s.1 := Nat.le_antisymm (least hs.1 (fun t h => (h1.pr t h).1) ul.1 d2) (least hq.1 (fun t h => (h2.pr t h).1) ur.1 d1)
    have no : ∀ {q : Nat × Nat} {l : List (Nat × Nat)}, Pr q.1 → (∀ t ∈ l, Pr t.1) → (∀ t ∈ l, q.1 < t.1) → ¬ q.1 ∣ pprod l := fun {q l} hq hl hu hd => by
      obtain ⟨t, ht, e⟩ := dvd_pprod hq hl hd
      have := hu t ht
      omega
    have n1 := no hq.1 (fun t h => (h1.pr t (List.mem_cons_of_mem _ h)).1) ul.1
    have n2 := no hs.1 (fun t h => (h2.pr t (List.mem_cons_of_mem _ h)).1) ur.1
    have e : q.1 ^ q.2 * pprod l = q.1 ^ s.2 * pprod r := by
      have z : q.1 ^ q.2 * pprod l = s.1 ^ s.2 * pprod r := h1.prod.trans h2.prod.symm
      rw [z, e1]
    rw [← e1] at n2
    obtain ⟨e2, e3⟩ := pow_cancel hq.1 n1 n2 e
    have ih := Parts.uniq (l := l) (r := r) (n := pprod l) ⟨fun t h => h1.pr t (List.mem_cons_of_mem _ h), ul.2, rfl⟩ ⟨fun t h => h2.pr t (List.mem_cons_of_mem _ h), ur.2, e3.symm⟩
    rw [ih]
    congr 1
    exact Prod.ext e1 e2
theorem Parts.one : Parts 1 [] := ⟨fun _ h => absurd h List.not_mem_nil, List.Pairwise.nil, rfl⟩
theorem Parts.prime {p : Nat} (h : Pr p) : Parts p [(p, 1)] := ⟨fun q hq => by
  rw [List.mem_singleton] at hq; subst hq; exact ⟨h, Nat.le_refl _⟩, List.pairwise_singleton _ _, by simp [pprod]⟩
theorem Parts.is_prime {p : Nat} {l : List (Nat × Nat)} (h : Parts p l) : Pr p ↔ l = [(p, 1)] :=
  ⟨fun hp => h.uniq (Parts.prime hp), fun e => by subst e; exact (h.pr (p, 1) List.mem_cons_self).1⟩
/-! ### the loop of trial: what holds between two turns -/
structure Tried (n : Nat) (acc : List (Nat × Nat)) (L p : Nat) : Prop where
  pr : ∀ q ∈ acc, Pr q.1 ∧ 1 ≤ q.2
  up : acc.Pairwise fun a b => a.1 < b.1
  lt : ∀ q ∈ acc, q.1 < p
  prod : pprod acc * L = n
  no : ∀ q, 2 ≤ q → q < p → ¬ q ∣ L
  two : 2 ≤ p
  pos : 1 ≤ L
theorem Tried.start {n : Nat} (h : 1 ≤ n) : Tried n [] n 2 := ⟨fun _ h => absurd h List.not_mem_nil, .nil, fun _ h => absurd h List.not_mem_nil, by simp [pprod], fun q h1 h2 => by omega, Nat.le_refl _, h⟩
theorem snoc_up {acc : List (Nat × Nat)} {p e : Nat} (up : acc.Pairwise fun a b => a.1 < b.1) (lt : ∀ q ∈ acc, q.1 < p) : (acc ++ [(p, e)]).Pairwise fun a b => a.1 < b.1 :=
  List.pairwise_append.mpr ⟨up, List.pairwise_singleton _ _, fun a ha b hb => by rw [List.mem_singleton] at hb; subst hb; exact lt a ha⟩
/-- one p tried: it goes e times, L is left -/
theorem Tried.next {n : Nat} {acc : List (Nat × Nat)} {L0 L p e : Nat} (h : Tried n acc L0 p) (hL : L0 = p ^ e * L) (hn : ¬ p ∣ L) : Tried n (if 0 < e then acc ++ [(p, e)] else acc) L (p + 1) := by
  have hL1 : 1 ≤ L := by
    rcases Nat.eq_zero_or_pos L with z | z
    · exact absurd (z ▸ Nat.dvd_zero p) hn
    · exact z
  have no' : ∀ q, 2 ≤ q → q < p + 1 → ¬ q ∣ L := fun q h1 h2 hd => by
    by_cases z : q = p
    · exact hn (z ▸ hd)
    · exact h.no q h1 (by omega) (hL ▸ Nat.dvd_trans hd (Nat.dvd_mul_left _ _))
  split
  · rename_i he
    have hp : Pr p := pr_of_least h.two (by
      obtain ⟨k, hk⟩ : ∃ k, e = k + 1 := ⟨e - 1, by omega⟩
      rw [hL, hk, Nat.pow_succ, Nat.mul_comm (p ^ k) p, Nat.mul_assoc]; exact Nat.dvd_mul_right _ _) h.no
    refine ⟨fun q hq => ?_, snoc_up h.up h.lt, fun q hq => ?_, ?_, no', by have := h.two; omega, hL1⟩
    · rcases List.mem_append.mp hq with z | z
      · exact h.pr q z
      · rw [List.mem_singleton] at z; subst z; exact ⟨hp, he⟩
    · rcases List.mem_append.mp hq with z | z
      · exact Nat.lt_succ_of_lt (h.lt q z)
      · rw [List.mem_singleton] at z; subst z; exact Nat.lt_succ_self _
    · rw [pprod_app, ← h.prod, hL]; simp [pprod, Nat.mul_assoc]
  · rename_i he
    have e0 : e = 0 := by omega
    subst e0
    rw [Nat.pow_zero, Nat.one_mul] at hL
    exact ⟨h.pr, h.up, fun q hq => Nat.lt_succ_of_lt (h.lt q hq), hL ▸ h.prod, no', by have := h.two; omega, hL1⟩
theorem pow_len : ∀ {l : List (Nat × Nat)}, (∀ q ∈ l, Pr q.1 ∧ 1 ≤ q.2) → 2 ^ l.length ≤ pprod l
  | [], _ => Nat.le_refl _
  | q :: l, h => by
    have h1 := pow_len fun r hr => h r (List.mem_cons_of_mem _ hr)
    have h2 := h q List.mem_cons_self
    have h3 : 2 ≤ q.1 ^ q.2 := Nat.le_trans h2.1.1 (Nat.le_self_pow (by omega) _)
    rw [List.length_cons, Nat.pow_succ, Nat.mul_comm]
    exact Nat.mul_le_mul h3 h1
theorem Tried.le {n : Nat} {acc : List (Nat × Nat)} {L p : Nat} (h : Tried n acc L p) (hn : 1 ≤ n) : L ≤ n := by
  have : L ∣ n := ⟨pprod acc, by rw [Nat.mul_comm]; exact h.prod.symm⟩
  exact Nat.le_of_dvd hn this
/-- beyond the root: the end -/
theorem Tried.last {n : Nat} {acc : List (Nat × Nat)} {L p : Nat} (h : Tried n acc L p) (hp : L < p * p) : Parts n (if 1 < L then acc ++ [(L, 1)] else acc) := by
  split
  · rename_i hL
    have pL : Pr L := pr_of_root hL hp h.no
    have lt : ∀ q ∈ acc, q.1 < L := fun q hq => by
      have h1 := h.lt q hq
      by_cases z : L < p
      · exact absurd (Nat.dvd_refl L) (h.no L hL z)
      · omega
    refine ⟨fun q hq => ?_, snoc_up h.up lt, ?_⟩
    · rcases List.mem_append.mp hq with z | z
      · exact h.pr q z
      · rw [List.mem_singleton] at z; subst z; exact ⟨pL, Nat.le_refl _⟩
    · rw [pprod_app, ← h.prod]; simp [pprod]
  · rename_i hL
    have : L = 1 := by have := h.pos; omega
    subst this
    exact ⟨h.pr, h.up, by have := h.prod; simpa using this⟩
/-- p raised to the rest itself, where it is beyond the root -/
theorem Tried.jump {n : Nat} {acc : List (Nat × Nat)} {L p : Nat} (h : Tried n acc L p) (hL : 1 < L) (hp : L < p * p) : Tried n acc L L := by
  have pL : Pr L := pr_of_root hL hp h.no
  refine ⟨h.pr, h.up, fun q hq => ?_, h.prod, fun q h1 h2 hd => ?_, hL, h.pos⟩
  · have h1 := h.lt q hq
    by_cases z : L < p
    · exact absurd (Nat.dvd_refl L) (h.no L hL z)
    · omega
  · rcases pL.2 q hd with e | e <;> omega
theorem Tried.done {n : Nat} {acc : List (Nat × Nat)} {p : Nat} (h : Tried n acc 1 p) : Parts n acc := ⟨h.pr, h.up, by have := h.prod; simpa using this⟩
end NT
namespace NT
theorem len_of {l : List (Nat × Nat)} {n k : Nat} (h : ∀ q ∈ l, Pr q.1 ∧ 1 ≤ q.2) (hn : pprod l ≤ n) (hk : n < 2 ^ k) : l.length < k := by
  have h1 := pow_len h
  have h2 : 2 ^ l.length < 2 ^ k := Nat.lt_of_le_of_lt h1 (Nat.lt_of_le_of_lt hn hk)
  exact (Nat.pow_lt_pow_iff_right (by decide)).mp h2
theorem Tried.len {n : Nat} {acc : List (Nat × Nat)} {L p k : Nat} (h : Tried n acc L p) (hk : n < 2 ^ k) : acc.length < k := by
  refine len_of h.pr ?_ hk
  rw [← h.prod]
  exact Nat.le_mul_of_pos_right _ h.pos
theorem Parts.len {n : Nat} {l : List (Nat × Nat)} {k : Nat} (h : Parts n l) (hk : n < 2 ^ k) : l.length < k := len_of h.pr (Nat.le_of_eq h.prod) hk
end NT

end
section
namespace PowN
theorem sq (s : Int) : ∀ k : Nat, (s * s) ^ k = s ^ (2 * k) := fun k => by rw [Int.pow_mul, Int.pow_succ, Int.pow_succ, Int.pow_zero, Int.one_mul]
theorem mod_pow (s n : Int) : ∀ k : Nat, (s % n) ^ k % n = s ^ k % n
  | 0 => by rw [Int.pow_zero, Int.pow_zero]
  | k + 1 => by
    rw [Int.pow_succ, Int.pow_succ, Int.mul_emod, mod_pow s n k, Int.emod_emod_of_dvd _ (Int.dvd_refl n), ← Int.mul_emod]
theorem start (b o n : Int) : (1 % n) * (b % n) ^ o.toNat % n = b ^ o.toNat % n := by
  rw [Int.mul_emod, Int.emod_emod_of_dvd _ (Int.dvd_refl n), mod_pow, ← Int.mul_emod, Int.one_mul]
theorem odd {f s l n : Int} (hl : 0 ≤ l) (h1 : l % 2 = 1) : (f * s % n) * (s * s % n) ^ (l / 2).toNat % n = f * s ^ l.toNat % n := by
  have e : l.toNat = 2 * (l / 2).toNat + 1 := by omega
  rw [Int.mul_emod, Int.emod_emod_of_dvd _ (Int.dvd_refl n), mod_pow, ← Int.mul_emod, sq, e, Int.pow_succ, Int.mul_assoc, Int.mul_comm s]
theorem even {f s l n : Int} (hl : 0 ≤ l) (h1 : l % 2 = 0) : f * (s * s % n) ^ (l / 2).toNat % n = f * s ^ l.toNat % n := by
  have e : l.toNat = 2 * (l / 2).toNat := by omega
  rw [Int.mul_emod, mod_pow, ← Int.mul_emod, sq, e]
end PowN
namespace GcdN
theorem step {x y : Int} (hx : 0 ≤ x) (hy : 0 ≤ y) : Int.gcd y (x % y) = Int.gcd x y := by
  obtain ⟨a, rfl⟩ := Int.eq_ofNat_of_zero_le hx
  obtain ⟨b, rfl⟩ := Int.eq_ofNat_of_zero_le hy
  show Int.gcd (b : Int) ((a % b : Nat) : Int) = Int.gcd (a : Int) (b : Int)
  rw [Int.gcd_natCast_natCast, Int.gcd_natCast_natCast, Nat.gcd_comm a b]
  rw [Nat.gcd_comm b (a % b), ← Nat.gcd_rec]
end GcdN
namespace EgcN
theorem gcd_mod (a n : Int) : Int.gcd (a % n) n = Int.gcd a n := by
  rw [Int.emod_def, Int.gcd_sub_mul_left_left]
/-- the loop of divisions, with what undoes a by n -/
structure Inv (a n x y f s : Int) : Prop where
  x0 : 1 ≤ x
  y0 : 0 ≤ y
  xn : x ≤ n
  yn : y ≤ n
  e1 : f * a % n = x % n
  e2 : s * a % n = y % n
  bd : s.natAbs * x.natAbs + f.natAbs * y.natAbs ≤ n.natAbs
  g : Int.gcd x y = Int.gcd a n
theorem start {a n : Int} (h : 0 < n) : Inv a n n (a % n) 0 1 := by
  have h1 := Int.emod_lt_of_pos a h
  have h2 := Int.emod_nonneg a (show n ≠ 0 by omega)
  refine ⟨by omega, h2, by omega, by omega, by simp, by rw [Int.one_mul, Int.emod_emod_of_dvd _ (Int.dvd_refl n)], by simp, ?_⟩
  rw [Int.gcd_comm, gcd_mod]
theorem Inv.bounds {a n x y f s : Int} (I : Inv a n x y f s) (hy : 0 < y) : -n ≤ s ∧ s ≤ n ∧ -n ≤ f ∧ f ≤ n := by
  have h := I.bd
  have x0 := I.x0
  have xn := I.xn
  have h1 : f.natAbs ≤ f.natAbs * y.natAbs := Nat.le_mul_of_pos_right _ (by omega)
  have h2 : s.natAbs ≤ s.natAbs * x.natAbs := Nat.le_mul_of_pos_right _ (by omega)
  omega
theorem Inv.fin {a n x f s : Int} (I : Inv a n x 0 f s) : x = (Int.gcd a n : Nat) := by
  have h := I.g
  rw [Int.gcd_zero_right] at h
  have := I.x0
  omega
theorem natAbs_sub_mul (f q s : Int) (hq : 0 ≤ q) : (f - q * s).natAbs ≤ f.natAbs + q.natAbs * s.natAbs := by
  have h := Int.natAbs_sub_le f (q * s)
  rw [Int.natAbs_mul] at h
  exact h
theorem Inv.step {a n x y f s : Int} (I : Inv a n x y f s) (hy : 0 < y) : Inv a n y (x - x / y * y) s (f - x / y * s) := by
  have e : x - x / y * y = x % y := by rw [Int.emod_def, Int.mul_comm]
  have m0 := Int.emod_nonneg x (show y ≠ 0 by omega)
  have m1 := Int.emod_lt_of_pos x hy
  have x0 := I.x0
  have hq0 : 0 ≤ x / y := Int.ediv_nonneg (by omega) (by omega)
  have yn := I.yn
  refine ⟨by omega, by omega, yn, by omega, I.e2, ?_, ?_, ?_⟩
  · have h : (f - x / y * s) * a % n = (x - x / y * y) % n := by
      rw [Int.sub_mul, Int.sub_emod, I.e1, Int.mul_assoc, Int.mul_emod (x / y) (s * a), I.e2, ← Int.mul_emod, ← Int.sub_emod]
    exact h
  · have h1 := natAbs_sub_mul f (x / y) s hq0
    have h2 : (x.natAbs : Int) = (x / y).natAbs * y.natAbs + (x - x / y * y).natAbs := by
      have e1 : ((x.natAbs : Nat) : Int) = x := by omega
      have e2 : (((x / y).natAbs : Nat) : Int) = x / y := by omega
      have e3 : ((y.natAbs : Nat) : Int) = y := by omega
      have e4 : (((x - x / y * y).natAbs : Nat) : Int) = x - x / y * y := by omega
      rw [e1, e2, e3, e4]; omega
    have h3 : x.natAbs = (x / y).natAbs * y.natAbs + (x - x / y * y).natAbs := by exact_mod_cast h2
    have h := I.bd
    have h4 : (f - x / y * s).natAbs * y.natAbs ≤ (f.natAbs + (x / y).natAbs * s.natAbs) * y.natAbs := Nat.mul_le_mul_right _ h1
    rw [Nat.add_mul] at h4
    have key : ∀ S X C Y D : Nat, X = C * Y + D → S * X = C * S * Y + S * D := fun S X C Y D e => by
      rw [e, Nat.mul_add, ← Nat.mul_assoc, Nat.mul_comm S C]
    have h5 := key s.natAbs _ _ _ _ h3
    omega
  · rw [← I.g, e, Int.gcd_comm, gcd_mod]
end EgcN

end
section
namespace NT
/-! ### lists without twice: arrangements -/
theorem perm_of_sub {α : Type} [DecidableEq α] : ∀ {l r : List α}, l.Nodup → (∀ x ∈ l, x ∈ r) → r.length ≤ l.length → l.Perm r
  | [], r, _, _, h => by
    have : r = [] := List.eq_nil_of_length_eq_zero (by simpa using h)
    rw [this]
  | a :: l, r, hn, hs, h => by
    have ha : a ∈ r := hs a List.mem_cons_self
    have hn' := List.nodup_cons.mp hn
    have p := List.perm_cons_erase ha
    refine List.Perm.trans (List.Perm.cons a ?_) p.symm
    refine perm_of_sub hn'.2 (fun x hx => ?_) ?_
    · refine (List.mem_erase_of_ne (fun (z : x = a) => hn'.1 (z ▸ hx))).mpr (hs x (List.mem_cons_of_mem _ hx))
    · rw [List.length_erase_of_mem ha]
      rw [List.length_cons] at h
      omega
theorem nodup_map {α β : Type} {f : α → β} : ∀ {l : List α}, l.Nodup → (∀ x ∈ l, ∀ y ∈ l, f x = f y → x = y) → (l.map f).Nodup
  | [], _, _ => List.nodup_nil
  | a :: l, hn, hi => by
    have hn' := List.nodup_cons.mp hn
    rw [List.map_cons, List.nodup_cons]
    refine ⟨fun h => ?_, nodup_map hn'.2 fun x hx y hy => hi x (List.mem_cons_of_mem _ hx) y (List.mem_cons_of_mem _ hy)⟩
    obtain ⟨x, hx, e⟩ := List.mem_map.mp h
    have := hi x (List.mem_cons_of_mem _ hx) a List.mem_cons_self e
    exact hn'.1 (this ▸ hx)
theorem perm_map {α : Type} [DecidableEq α] {f : α → α} {l : List α} (hn : l.Nodup) (hc : ∀ x ∈ l, f x ∈ l) (hi : ∀ x ∈ l, ∀ y ∈ l, f x = f y → x = y) : (l.map f).Perm l :=
  perm_of_sub (nodup_map hn hi) (fun y hy => by obtain ⟨x, hx, e⟩ := List.mem_map.mp hy; exact e ▸ hc x hx) (by rw [List.length_map]; exact Nat.le_refl _)
def lprod : List Nat → Nat
  | [] => 1
  | x :: l => x * lprod l
theorem lprod_perm {l r : List Nat} (h : l.Perm r) : lprod l = lprod r := by
  induction h with
  | nil => rfl
  | cons x _ ih => simp only [lprod, ih]
  | swap x y l => simp only [lprod]; rw [← Nat.mul_assoc, ← Nat.mul_assoc, Nat.mul_comm y x]
  | trans _ _ h1 h2 => exact h1.trans h2
theorem cop_mul {a b n : Nat} (ha : Nat.gcd a n = 1) (hb : Nat.gcd b n = 1) : Nat.gcd (a * b) n = 1 := Nat.Coprime.mul_left (m := a) (n := b) (k := n) ha hb
theorem cop_lprod {n : Nat} : ∀ {l : List Nat}, (∀ x ∈ l, Nat.gcd x n = 1) → Nat.gcd (lprod l) n = 1
  | [], _ => Nat.gcd_one_left n
  | x :: l, h => cop_mul (h x List.mem_cons_self) (cop_lprod fun y hy => h y (List.mem_cons_of_mem _ hy))
theorem dvd_of_cop {n c : Nat} {z : Int} (hc : Nat.gcd c n = 1) (h : (n : Int) ∣ c * z) : (n : Int) ∣ z := by
  have h1 : n ∣ c * z.natAbs := by
    have := Int.natAbs_dvd_natAbs.mpr h
    rw [Int.natAbs_mul] at this
    exact this
  have h2 : n ∣ z.natAbs := Nat.Coprime.dvd_of_dvd_mul_left (show Nat.Coprime n c by rw [Nat.coprime_iff_gcd_eq_one, Nat.gcd_comm]; exact hc) h1
  exact Int.dvd_natAbs.mp (by exact_mod_cast h2)
theorem mod_iff {a b n : Int} : a % n = b % n ↔ n ∣ a - b := by
  constructor
  · intro h
    exact Int.dvd_of_emod_eq_zero (by rw [Int.sub_emod, h, Int.sub_self, Int.zero_emod])
  · intro h
    exact Int.emod_eq_emod_iff_emod_sub_eq_zero.mpr (Int.emod_eq_zero_of_dvd h)
theorem cancel {c n x y : Nat} (hc : Nat.gcd c n = 1) (h : c * x % n = c * y % n) : x % n = y % n := by
  have h' : ((c * x : Nat) : Int) % n = ((c * y : Nat) : Int) % n := by exact_mod_cast h
  have h1 := mod_iff.mp h'
  have h2 : (n : Int) ∣ (c : Int) * ((x : Int) - y) := by
    rw [Int.mul_sub]; simpa using h1
  have h3 := mod_iff.mpr (dvd_of_cop hc h2)
  exact_mod_cast h3
theorem lprod_map (a n : Nat) : ∀ l : List Nat, lprod (l.map fun x => a * x % n) % n = a ^ l.length * lprod l % n
  | [] => by simp [lprod]
  | x :: l => by
    simp only [List.map_cons, lprod, List.length_cons]
    rw [Nat.mul_mod, lprod_map a n l, Nat.mod_mod, ← Nat.mul_mod, Nat.pow_succ]
    congr 1
    rw [Nat.mul_assoc (a ^ l.length), Nat.mul_comm a x, Nat.mul_assoc x a, ← Nat.mul_assoc a, Nat.mul_comm a (a ^ l.length), ← Nat.mul_assoc x, Nat.mul_comm x (a ^ l.length * a)]
    rw [Nat.mul_assoc, Nat.mul_assoc]
/-- Euler: over a list of numbers that share just 1 with n, closed under times a -/
theorem euler {n a : Nat} {U : List Nat} (hn : U.Nodup) (hl : ∀ x ∈ U, x < n) (hx : ∀ x ∈ U, Nat.gcd x n = 1) (ha : Nat.gcd a n = 1) (hc : ∀ x ∈ U, a * x % n ∈ U) : a ^ U.length % n = 1 % n := by
  have p : (U.map fun x => a * x % n).Perm U := perm_map hn hc fun x h1 y h2 e => by
    have := cancel ha e
    rwa [Nat.mod_eq_of_lt (hl x h1), Nat.mod_eq_of_lt (hl y h2)] at this
  have e := lprod_map a n U
  rw [lprod_perm p] at e
  have e2 : lprod U * a ^ U.length % n = lprod U * 1 % n := by rw [Nat.mul_comm, ← e, Nat.mul_one]
  exact cancel (cop_lprod hx) e2
/-- Fermat -/
theorem fermat {p a : Nat} (hp : Pr p) (ha : ¬ p ∣ a) : a ^ (p - 1) % p = 1 := by
  have hp2 := hp.two
  have ga : Nat.gcd a p = 1 := by rw [Nat.gcd_comm]; exact hp.cop ha
  have h := euler (n := p) (a := a) (U := (List.range (p - 1)).map (· + 1)) (nodup_map List.nodup_range fun x _ y _ e => by omega)
    (fun x hx => by obtain ⟨y, hy, rfl⟩ := List.mem_map.mp hx; have := List.mem_range.mp hy; omega)
    (fun x hx => by
      obtain ⟨y, hy, rfl⟩ := List.mem_map.mp hx
      have := List.mem_range.mp hy
      rw [Nat.gcd_comm]
      exact hp.cop fun z => by have := Nat.le_of_dvd (by omega) z; omega) ga (fun x hx => by
      obtain ⟨y, hy, rfl⟩ := List.mem_map.mp hx
      have := List.mem_range.mp hy
      have hlt := Nat.mod_lt (a * (y + 1)) hp.pos
      have h0 : a * (y + 1) % p ≠ 0 := fun z => by
        rcases hp.dvd_mul (Nat.dvd_of_mod_eq_zero z) with e | e
        · exact ha e
        · have := Nat.le_of_dvd (by omega) e; omega
      exact List.mem_map.mpr ⟨a * (y + 1) % p - 1, List.mem_range.mpr (by omega), by omega⟩)
  rw [List.length_map, List.length_range, Nat.mod_eq_of_lt (show 1 < p by omega)] at h
  exact h
theorem fermat_int {p : Nat} (hp : Pr p) (a : Int) : a ^ p % (p : Int) = a % p := by
  have hpos : (0 : Int) < p := by have := hp.pos; omega
  rw [← PowN.mod_pow]
  obtain ⟨r, hr⟩ := Int.eq_ofNat_of_zero_le (Int.emod_nonneg a (show (p : Int) ≠ 0 by omega))
  rw [hr]
  have hlt : r < p := by have := Int.emod_lt_of_pos a hpos; omega
  have key : r ^ p % p = r := by
    by_cases h0 : r = 0
    · subst h0
      rw [Nat.zero_pow hp.pos, Nat.zero_mod]
    · have hnd : ¬ p ∣ r := fun z => by have := Nat.le_of_dvd (by omega) z; omega
      have e : p = (p - 1) + 1 := by have := hp.pos; omega
      have e2 : r ^ p = r ^ (p - 1) * r := by
        have := Nat.pow_succ (n := r) (m := p - 1)
        rwa [show (p - 1).succ = p by omega] at this
      rw [e2, Nat.mul_mod, fermat hp hnd, Nat.one_mul, Nat.mod_mod, Nat.mod_eq_of_lt hlt]
  have := congrArg (fun x : Nat => (x : Int)) key
  simpa using this
/-! ### powers, what undoes -/
theorem pow_mod_add (b : Int) (i j : Nat) (n : Int) : (b ^ i % n) * (b ^ j % n) % n = b ^ (i + j) % n := by rw [← Int.mul_emod, Int.pow_add]
theorem pow_mod_mul (a c : Int) (i : Nat) (n : Int) : (a ^ i % n) * (c ^ i % n) % n = (a * c) ^ i % n := by rw [← Int.mul_emod, Int.mul_pow]
theorem pow_mod_pow (a : Int) (i j : Nat) (n : Int) : (a ^ i % n) ^ j % n = (a ^ j % n) ^ i % n := by rw [PowN.mod_pow, PowN.mod_pow, ← Int.pow_mul, ← Int.pow_mul, Nat.mul_comm]
theorem und_uniq {a x y n : Int} (hn : 0 < n) (hx0 : 0 ≤ x) (hx : x < n) (hy0 : 0 ≤ y) (hy : y < n) (ex : x * a % n = 1 % n) (ey : y * a % n = 1 % n) : x = y := by
  have h : x % n = y % n := by
    have e1 : x * (y * a) % n = x % n := by rw [Int.mul_emod, ey, ← Int.mul_emod, Int.mul_one]
    have e2 : x * (y * a) % n = y % n := by
      rw [show x * (y * a) = y * (x * a) by rw [← Int.mul_assoc, Int.mul_comm x y, Int.mul_assoc], Int.mul_emod, ex, ← Int.mul_emod, Int.mul_one]
    rw [← e1, e2]
  rwa [Int.emod_eq_of_lt hx0 hx, Int.emod_eq_of_lt hy0 hy] at h
theorem und_pow {a x n : Int} (j : Nat) (ex : x * a % n = 1 % n) : (x ^ j % n) * (a ^ j % n) % n = 1 % n := by
  rw [← Int.mul_emod, ← Int.mul_pow, ← PowN.mod_pow, ex, PowN.mod_pow, Int.one_pow]
theorem und_gcd {a x n : Int} (ex : x * a % n = 1 % n) : Int.gcd a n = 1 := by
  have h := mod_iff.mp ex
  have h1 : ((Int.gcd a n : Nat) : Int) ∣ 1 := by
    have d1 : ((Int.gcd a n : Nat) : Int) ∣ x * a - 1 := Int.dvd_trans (Int.gcd_dvd_right a n) h
    have d2 : ((Int.gcd a n : Nat) : Int) ∣ x * a := Int.dvd_mul_of_dvd_right (Int.gcd_dvd_left a n)
    have := Int.dvd_sub d2 d1
    rwa [show x * a - (x * a - 1) = 1 by omega] at this
  have h2 : (Int.gcd a n) ∣ 1 := by exact_mod_cast h1
  exact Nat.dvd_one.mp h2
theorem take_snoc {α : Type} : ∀ {l : List α} {i : Nat} {x : α}, l[i]? = some x → l.take (i + 1) = l.take i ++ [x]
  | [], i, x, h => by simp at h
  | a :: l, 0, x, h => by
    simp only [List.getElem?_cons_zero, Option.some.injEq] at h
    subst h; rfl
  | a :: l, i + 1, x, h => by
    simp only [List.getElem?_cons_succ] at h
    rw [List.take_succ_cons, List.take_succ_cons, take_snoc h]; rfl
theorem pprod_take {l : List (Nat × Nat)} {i : Nat} {q : Nat × Nat} (h : l[i]? = some q) : pprod (l.take (i + 1)) = pprod (l.take i) * q.1 ^ q.2 := by
  rw [take_snoc h, pprod_app]; simp [pprod]
theorem pprod_take_le {l : List (Nat × Nat)} {n : Nat} (hn : 1 ≤ n) (h : Parts n l) (i : Nat) : pprod (l.take i) ≤ n := by
  have e : pprod (l.take i) * pprod (l.drop i) = n := by rw [← pprod_app, List.take_append_drop]; exact h.prod
  exact Nat.le_of_dvd hn ⟨_, e.symm⟩
/-- trial: is a number a prime -/
def pdiv (n d : Nat) : Nat → Bool
  | 0 => true
  | k + 1 => if n < d * d then true else if n % d = 0 then false else pdiv n (d + 1) k
theorem pdiv_ok {n : Nat} : ∀ (k d : Nat), pdiv n d k = true → n < (d + k) * (d + k) → (∀ q, 2 ≤ q → q < d → ¬ q ∣ n) → ∃ e, n < e * e ∧ ∀ q, 2 ≤ q → q < e → ¬ q ∣ n
  | 0, d, _, h2, h3 => ⟨d, h2, h3⟩
  | k + 1, d, h1, h2, h3 => by
    unfold pdiv at h1
    split at h1
    · exact ⟨d, by assumption, h3⟩
    · split at h1
      · cases h1
      · rename_i hnd
        refine pdiv_ok k (d + 1) h1 (by rwa [Nat.add_right_comm]) fun q h4 h5 hd => ?_
        by_cases e : q = d
        · subst e
          exact hnd (Nat.mod_eq_zero_of_dvd hd)
        · exact h3 q h4 (by omega) hd
theorem pr_by {n k : Nat} (h1 : 1 < n) (h : pdiv n 2 k = true) (h2 : n < (2 + k) * (2 + k)) : Pr n := by
  obtain ⟨e, h3, h4⟩ := pdiv_ok k 2 h h2 fun q a b => by omega
  exact pr_of_root h1 h3 h4
set_option maxRecDepth 100000 in
theorem pr_1000003 : Pr 1000003 := pr_by (k := 1000) (by decide) (by decide +kernel) (by decide)
end NT

end
section
set_option maxRecDepth 100000
namespace NT
/-! ### prime factors -/
theorem least_div (n : Nat) (h : 2 ≤ n) : ∃ p, Pr p ∧ p ∣ n := by
  have key : ∀ k d, 2 ≤ d → d + k = n → (∀ q, 2 ≤ q → q < d → ¬ q ∣ n) → ∃ p, Pr p ∧ p ∣ n := by
    intro k
    induction k with
    | zero =>
      intro d h1 h2 h3
      have e : d = n := by omega
      rw [e] at h3
      exact ⟨n, pr_of_least h (Nat.dvd_refl n) h3, Nat.dvd_refl n⟩
    | succ k ih =>
      intro d h1 h2 h3
      by_cases hd : d ∣ n
      · exact ⟨d, pr_of_least h1 hd h3, hd⟩
      · refine ih (d + 1) (by omega) (by omega) fun q a b => ?_
        by_cases e : q = d
        · rw [e]; exact hd
        · exact h3 q a (by omega)
  exact key (n - 2) 2 (Nat.le_refl 2) (by omega) fun q a b => by omega
/-! ### the count of rests, by its prime parts -/
def phi : List (Nat × Nat) → Nat
  | [] => 1
  | q :: r => q.1 ^ (q.2 - 1) * (q.1 - 1) * phi r
theorem phi_app : ∀ l r : List (Nat × Nat), phi (l ++ r) = phi l * phi r
  | [], r => by simp [phi]
  | q :: l, r => by simp only [List.cons_append, phi, phi_app l r, Nat.mul_assoc]
theorem phi_take {l : List (Nat × Nat)} {i : Nat} {q : Nat × Nat} (h : l[i]? = some q) : phi (l.take (i + 1)) = phi (l.take i) * (q.1 ^ (q.2 - 1) * (q.1 - 1)) := by
  rw [take_snoc h, phi_app]; simp [phi]
theorem phi_pos : ∀ {l : List (Nat × Nat)}, (∀ q ∈ l, Pr q.1 ∧ 1 ≤ q.2) → 1 ≤ phi l
  | [], _ => Nat.le_refl _
  | q :: l, h => by
    have h1 := phi_pos fun r hr => h r (List.mem_cons_of_mem _ hr)
    have h2 := (h q List.mem_cons_self).1.two
    exact Nat.mul_pos (Nat.mul_pos (Nat.pow_pos (by omega)) (by omega)) h1
theorem pow_pred {p e : Nat} (h : 1 ≤ e) : p ^ e = p ^ (e - 1) * p := by
  rw [← Nat.pow_succ]; congr 1; omega
theorem phi_le : ∀ {l : List (Nat × Nat)}, (∀ q ∈ l, Pr q.1 ∧ 1 ≤ q.2) → phi l ≤ pprod l
  | [], _ => Nat.le_refl _
  | q :: l, h => by
    have h1 := phi_le fun r hr => h r (List.mem_cons_of_mem _ hr)
    have h2 := h q List.mem_cons_self
    simp only [phi, pprod]
    rw [pow_pred h2.2]
    exact Nat.mul_le_mul (Nat.mul_le_mul_left _ (Nat.sub_le _ _)) h1
theorem drop_get {α : Type} : ∀ {l : List α} {i : Nat} {x : α}, l[i]? = some x → l.drop i = x :: l.drop (i + 1)
  | [], i, x, h => by simp at h
  | a :: l, 0, x, h => by
    simp only [List.getElem?_cons_zero, Option.some.injEq] at h
    subst h; rfl
  | a :: l, i + 1, x, h => by
    simp only [List.getElem?_cons_succ] at h
    simp only [List.drop_succ_cons]
    exact drop_get h
/-- what the loop over the parts holds -/
def phiAt (l : List (Nat × Nat)) (i : Nat) : Nat := phi (l.take i) * pprod (l.drop i)
theorem phiAt_zero (l : List (Nat × Nat)) : phiAt l 0 = pprod l := by simp [phiAt, phi]
theorem phiAt_end (l : List (Nat × Nat)) : phiAt l l.length = phi l := by simp [phiAt, pprod]
theorem phiAt_step {l : List (Nat × Nat)} {i : Nat} {q : Nat × Nat} (h : l[i]? = some q) (h2 : Pr q.1 ∧ 1 ≤ q.2) : phiAt l i / q.1 * (q.1 - 1) = phiAt l (i + 1) := by
  unfold phiAt
  rw [phi_take h, drop_get h]
  simp only [pprod]
  rw [pow_pred h2.2, show phi (l.take i) * (q.1 ^ (q.2 - 1) * q.1 * pprod (l.drop (i + 1))) = (phi (l.take i) * q.1 ^ (q.2 - 1) * pprod (l.drop (i + 1))) * q.1 by
    simp only [Nat.mul_assoc, Nat.mul_comm, Nat.mul_left_comm]]
  rw [Nat.mul_div_cancel _ h2.1.pos]
  simp only [Nat.mul_assoc, Nat.mul_comm, Nat.mul_left_comm]
theorem phiAt_le {l : List (Nat × Nat)} (h : ∀ q ∈ l, Pr q.1 ∧ 1 ≤ q.2) (i : Nat) : phiAt l i ≤ pprod l := by
  have h1 := phi_le (l := l.take i) fun q hq => h q (List.mem_of_mem_take hq)
  calc phiAt l i ≤ pprod (l.take i) * pprod (l.drop i) := Nat.mul_le_mul_right _ h1
    _ = pprod l := by rw [← pprod_app, List.take_append_drop]
theorem phiAt_pos {l : List (Nat × Nat)} (h : ∀ q ∈ l, Pr q.1 ∧ 1 ≤ q.2) (i : Nat) : 1 ≤ phiAt l i := by
  refine Nat.mul_pos (phi_pos fun q hq => h q (List.mem_of_mem_take hq)) (Nat.pos_of_ne_zero fun z => ?_)
  have e : pprod l = 0 := by rw [← List.take_append_drop i l, pprod_app, z, Nat.mul_zero]
  have := phi_le h
  have := phi_pos h
  omega
/-! ### Euler, by prime powers -/
theorem nat_dvd {n : Nat} {z : Int} : (n : Int) ∣ z ↔ n ∣ z.natAbs := by
  rw [← Int.natAbs_dvd_natAbs, Int.natAbs_natCast]
/-- 1 + y + .. -/
def geo (y : Int) : Nat → Int
  | 0 => 0
  | k + 1 => geo y k + y ^ k
theorem geo_mul (y : Int) : ∀ k, (y - 1) * geo y k = y ^ k - 1
  | 0 => by simp [geo]
  | k + 1 => by
    rw [geo, Int.mul_add, geo_mul y k, Int.pow_succ, Int.sub_mul, Int.one_mul, Int.mul_comm y]
    omega
theorem geo_mod {y m : Int} (h : m ∣ y - 1) : ∀ k : Nat, m ∣ geo y k - k
  | 0 => by simp [geo]
  | k + 1 => by
    have h1 := geo_mod h k
    have h2 : m ∣ y ^ k - 1 := by rw [← geo_mul]; exact Int.dvd_trans h (Int.dvd_mul_right _ _)
    have e : geo y (k + 1) - ((k + 1 : Nat) : Int) = (geo y k - k) + (y ^ k - 1) := by rw [geo]; omega
    rw [e]
    exact Int.dvd_add h1 h2
theorem lift {p : Nat} {y : Int} {m : Int} (hm : (p : Int) ∣ m) (h : m ∣ y - 1) : m * p ∣ y ^ p - 1 := by
  rw [← geo_mul]
  refine Int.mul_dvd_mul h ?_
  have h1 := geo_mod (Int.dvd_trans hm h) p
  have h2 := Int.dvd_add h1 (Int.dvd_refl (p : Int))
  have e : geo y p - (p : Int) + p = geo y p := by omega
  rwa [e] at h2
theorem fermat_dvd {p : Nat} (hp : Pr p) {x : Int} (hx : ¬ (p : Int) ∣ x) : (p : Int) ∣ x ^ (p - 1) - 1 := by
  have hpos : (0 : Int) < p := by have := hp.pos; omega
  obtain ⟨r, hr⟩ := Int.eq_ofNat_of_zero_le (Int.emod_nonneg x (show (p : Int) ≠ 0 by omega))
  have nd : ¬ p ∣ r := fun z => hx (by
    have : (p : Int) ∣ x % p := by rw [hr]; exact Int.natCast_dvd_natCast.mpr z
    have e := Int.emod_add_mul_ediv x p
    rw [← e]
    exact Int.dvd_add this (Int.dvd_mul_right _ _))
  have h := fermat hp nd
  refine mod_iff.mp ?_
  rw [← PowN.mod_pow, hr]
  have h1 : ((r ^ (p - 1) % p : Nat) : Int) = 1 := by rw [h]; rfl
  have h2 : (1 : Int) % p = 1 := Int.emod_eq_of_lt (by decide) (by have := hp.two; omega)
  rw [h2, ← h1]
  simp
theorem euler_pow {p : Nat} (hp : Pr p) {x : Int} (hx : ¬ (p : Int) ∣ x) : ∀ e : Nat, ((p ^ (e + 1) : Nat) : Int) ∣ x ^ (p ^ e * (p - 1)) - 1
  | 0 => by
    rw [Nat.pow_zero, Nat.one_mul, Nat.pow_one]
    exact fermat_dvd hp hx
  | e + 1 => by
    have h := euler_pow hp hx e
    have h1 := lift (p := p) (m := ((p ^ (e + 1) : Nat) : Int)) (by rw [Nat.pow_succ]; exact Int.natCast_dvd_natCast.mpr (Nat.dvd_mul_left _ _)) h
    rw [← Int.pow_mul] at h1
    have e1 : p ^ e * (p - 1) * p = p ^ (e + 1) * (p - 1) := by rw [Nat.pow_succ, Nat.mul_assoc, Nat.mul_assoc, Nat.mul_comm p]
    rw [e1] at h1
    have e2 : ((p ^ (e + 1 + 1) : Nat) : Int) = ((p ^ (e + 1) : Nat) : Int) * p := by rw [Nat.pow_succ (n := p) (m := e + 1)]; exact Int.natCast_mul _ _
    rw [e2]
    exact h1
theorem cop_pows {p q a b : Nat} (hp : Pr p) (hq : Pr q) (h : p ≠ q) : Nat.gcd (p ^ a) (q ^ b) = 1 :=
  Nat.Coprime.pow a b (show Nat.Coprime p q from hp.cop fun z => h (hp.eq_of_dvd hq z))
theorem cop_pprod {p a : Nat} (hp : Pr p) : ∀ {l : List (Nat × Nat)}, (∀ q ∈ l, Pr q.1 ∧ p ≠ q.1) → Nat.gcd (p ^ a) (pprod l) = 1
  | [], _ => Nat.gcd_one_right _
  | q :: l, h => Nat.Coprime.mul_right (show Nat.Coprime (p ^ a) (q.1 ^ q.2) from cop_pows hp (h q List.mem_cons_self).1 (h q List.mem_cons_self).2) (cop_pprod hp fun r hr => h r (List.mem_cons_of_mem _ hr))
/-- each prime power goes, so the product goes -/
theorem pprod_dvd {z : Int} : ∀ {l : List (Nat × Nat)}, (∀ q ∈ l, Pr q.1) → (l.Pairwise fun a b => a.1 < b.1) → (∀ q ∈ l, ((q.1 ^ q.2 : Nat) : Int) ∣ z) → ((pprod l : Nat) : Int) ∣ z
  | [], _, _, _ => Int.one_dvd _
  | q :: l, h1, h2, h3 => by
    have h4 := List.pairwise_cons.mp h2
    have ih := pprod_dvd (fun r hr => h1 r (List.mem_cons_of_mem _ hr)) h4.2 fun r hr => h3 r (List.mem_cons_of_mem _ hr)
    have c : Nat.gcd (q.1 ^ q.2) (pprod l) = 1 := cop_pprod (h1 q List.mem_cons_self) fun r hr => ⟨h1 r (List.mem_cons_of_mem _ hr), Nat.ne_of_lt (h4.1 r hr)⟩
    have d1 := nat_dvd.mp (h3 q List.mem_cons_self)
    have d2 := nat_dvd.mp ih
    exact nat_dvd.mpr (Nat.Coprime.mul_dvd_of_dvd_of_dvd c d1 d2)
theorem phi_dvd : ∀ {l : List (Nat × Nat)} {q : Nat × Nat}, q ∈ l → q.1 ^ (q.2 - 1) * (q.1 - 1) ∣ phi l
  | a :: l, q, h => by
    rcases List.mem_cons.mp h with e | e
    · subst e; exact Nat.dvd_mul_right _ _
    · exact Nat.dvd_trans (phi_dvd e) (Nat.dvd_mul_left _ _)
theorem pow_dvd_one {x m : Int} {a b : Nat} (h : m ∣ x ^ a - 1) (hab : a ∣ b) : m ∣ x ^ b - 1 := by
  obtain ⟨c, rfl⟩ := hab
  rw [Int.pow_mul, ← geo_mul]
  exact Int.dvd_trans h (Int.dvd_mul_right _ _)
theorem euler_parts {n : Nat} {l : List (Nat × Nat)} (h : Parts n l) {x : Int} (hx : Int.gcd x n = 1) : x ^ phi l % (n : Int) = 1 % n := by
  refine mod_iff.mpr ?_
  rw [← h.prod]
  refine pprod_dvd (fun q hq => (h.pr q hq).1) h.up fun q hq => ?_
  obtain ⟨hp, he⟩ := h.pr q hq
  have nd : ¬ (q.1 : Int) ∣ x := fun z => by
    have d1 : q.1 ∣ n := by
      rw [← h.prod]
      refine Nat.dvd_trans ?_ (mem_dvd hq)
      exact Nat.dvd_trans (by rw [Nat.pow_one]; exact Nat.dvd_refl _) (Nat.pow_dvd_pow q.1 he)
    have d2 : q.1 ∣ Int.gcd x n := Nat.dvd_gcd (nat_dvd.mp z) (by simpa using d1)
    rw [hx] at d2
    have := Nat.le_of_dvd (by decide) d2
    have := hp.two
    omega
  have h1 := euler_pow hp nd (q.2 - 1)
  rw [show q.2 - 1 + 1 = q.2 by omega] at h1
  exact pow_dvd_one h1 (phi_dvd hq)
theorem part_le {n : Nat} {l : List (Nat × Nat)} (hn : 1 ≤ n) (h : Parts n l) {q : Nat × Nat} (hq : q ∈ l) : q.1 ≤ n ∧ q.1 ^ q.2 ≤ n := by
  have hqp := h.pr q hq
  have h1 := mem_dvd hq
  rw [h.prod] at h1
  have h2 : q.1 ∣ q.1 ^ q.2 := by
    have := Nat.pow_dvd_pow q.1 hqp.2
    rwa [Nat.pow_one] at this
  exact ⟨Nat.le_of_dvd hn (Nat.dvd_trans h2 h1), Nat.le_of_dvd hn h1⟩
/-! ### orders -/
structure Ord (x n : Int) (m : Nat) : Prop where
  pos : 0 < m
  one : x ^ m % n = 1 % n
  least : ∀ j, 0 < j → j < m → x ^ j % n ≠ 1 % n
theorem pow_mul_one {x n : Int} {a : Nat} (h : x ^ a % n = 1 % n) (c : Nat) : x ^ (a * c) % n = 1 % n := mod_iff.mpr (pow_dvd_one (mod_iff.mp h) (Nat.dvd_mul_right _ _))
theorem pow_add_one {x n : Int} {a : Nat} (h : x ^ a % n = 1 % n) (c : Nat) : x ^ (a + c) % n = x ^ c % n := by
  rw [Int.pow_add, Int.mul_emod, h, ← Int.mul_emod, Int.one_mul]
theorem Ord.ex {x n : Int} {m : Nat} (hp : 0 < m) (h : x ^ m % n = 1 % n) : ∃ d, Ord x n d ∧ d ≤ m := by
  have key : ∀ k d, 0 < d → d + k = m → (∀ j, 0 < j → j < d → x ^ j % n ≠ 1 % n) → ∃ d, Ord x n d ∧ d ≤ m := by
    intro k
    induction k with
    | zero =>
      intro d h1 h2 h3
      have : d = m := by omega
      subst this
      exact ⟨d, ⟨h1, h, h3⟩, Nat.le_refl _⟩
    | succ k ih =>
      intro d h1 h2 h3
      by_cases hd : x ^ d % n = 1 % n
      · exact ⟨d, ⟨h1, hd, h3⟩, by omega⟩
      · refine ih (d + 1) (by omega) (by omega) fun j a b => ?_
        by_cases e : j = d
        · rw [e]; exact hd
        · exact h3 j a (by omega)
  exact key (m - 1) 1 (by decide) (by omega) fun j a b => by omega
theorem Ord.dvd {x n : Int} {d m : Nat} (o : Ord x n d) (h : x ^ m % n = 1 % n) : d ∣ m := by
  have e := Nat.div_add_mod m d
  have h1 : x ^ (m % d) % n = 1 % n := by
    rw [← pow_add_one (pow_mul_one o.one (m / d)) (m % d), e]
    exact h
  have h2 := Nat.mod_lt m o.pos
  rcases Nat.eq_zero_or_pos (m % d) with z | z
  · exact Nat.dvd_of_mod_eq_zero z
  · exact absurd h1 (o.least _ z h2)
theorem Ord.of_primes {x n : Int} {f : Nat} (hf : 0 < f) (h : x ^ f % n = 1 % n) (hp : ∀ p, Pr p → p ∣ f → x ^ (f / p) % n ≠ 1 % n) : Ord x n f := by
  obtain ⟨d, o, hd⟩ := Ord.ex hf h
  obtain ⟨k, hk⟩ := o.dvd h
  have dpos := o.pos
  by_cases h1 : k = 1
  · rw [h1, Nat.mul_one] at hk
    rw [hk]; exact o
  · have k2 : 2 ≤ k := by
      rcases Nat.eq_zero_or_pos k with z | z
      · rw [z, Nat.mul_zero] at hk; omega
      · omega
    obtain ⟨p, pp, c, hc⟩ := least_div k k2
    refine absurd ?_ (hp p pp ⟨d * c, by rw [hk, hc, Nat.mul_left_comm]⟩)
    have e : f / p = d * c := by
      rw [hk, hc, Nat.mul_left_comm]
      exact Nat.mul_div_cancel_left _ pp.pos
    rw [e]
    exact pow_mul_one o.one c
theorem Ord.uniq {x n : Int} {a b : Nat} (h : Ord x n a) (h' : Ord x n b) : a = b := Nat.dvd_antisymm (h.dvd h'.one) (h'.dvd h.one)
theorem Ord.gcd {x n : Int} {m : Nat} (o : Ord x n m) : Int.gcd x n = 1 := by
  refine und_gcd (x := x ^ (m - 1)) ?_
  rw [← Int.pow_succ, show (m - 1).succ = m by have := o.pos; omega]
  exact o.one
/-! ### small numbers in parts, by trial -/
def mult (p : Nat) : Nat → Nat → Nat × Nat
  | 0, L => (0, L)
  | k + 1, L => if L % p = 0 then ((mult p k (L / p)).1 + 1, (mult p k (L / p)).2) else (0, L)
def facL : Nat → Nat → Nat → List (Nat × Nat)
  | 0, _, _ => []
  | k + 1, d, L => if L ≤ 1 then [] else if L < d * d then [(L, 1)] else if L % d = 0 then (d, (mult d 40 L).1) :: facL k (d + 1) (mult d 40 L).2 else facL k (d + 1) L
def upB : List (Nat × Nat) → Bool
  | [] => true
  | q :: l => l.all (fun r => decide (q.1 < r.1)) && upB l
theorem upB_ok : ∀ {l : List (Nat × Nat)}, upB l = true → l.Pairwise fun a b => a.1 < b.1
  | [], _ => .nil
  | q :: l, h => by
    simp only [upB, Bool.and_eq_true, List.all_eq_true, decide_eq_true_eq] at h
    exact .cons h.1 (upB_ok h.2)
def partsB (f n : Nat) (l : List (Nat × Nat)) : Bool := l.all (fun q => decide (1 < q.1) && decide (1 ≤ q.2) && pdiv q.1 2 f && decide (q.1 < (2 + f) * (2 + f))) && upB l && decide (pprod l = n)
theorem parts_of {f n : Nat} {l : List (Nat × Nat)} (h : partsB f n l = true) : Parts n l := by
  simp only [partsB, Bool.and_eq_true, List.all_eq_true, decide_eq_true_eq] at h
  exact ⟨fun q hq => ⟨pr_by (h.1.1 q hq).1.1.1 (h.1.1 q hq).1.2 (h.1.1 q hq).2, (h.1.1 q hq).1.1.2⟩, upB_ok h.1.2, h.2⟩
/-- how many of 1 .. i have no part with n -/
def cop (n : Nat) : Nat → Nat
  | 0 => 0
  | i + 1 => cop n i + if Nat.gcd (i + 1) n = 1 then 1 else 0
theorem cop_le (n : Nat) : ∀ i, cop n i ≤ i
  | 0 => Nat.le_refl _
  | i + 1 => by
    have := cop_le n i
    simp only [cop]
    split <;> omega
def smallB (n : Nat) : Bool := partsB 30 n (facL 40 2 n) && decide (phi (facL 40 2 n) = cop n n)
theorem small_all : (List.range 400).all (fun i => smallB (i + 1)) = true := by decide +kernel
theorem small_of {n : Nat} (h1 : 1 ≤ n) (h2 : n ≤ 400) : Parts n (facL 40 2 n) ∧ phi (facL 40 2 n) = cop n n := by
  have h := List.all_eq_true.mp small_all (n - 1) (List.mem_range.mpr (by omega))
  rw [show n - 1 + 1 = n by omega] at h
  simp only [smallB, Bool.and_eq_true, decide_eq_true_eq] at h
  exact ⟨parts_of h.1, h.2⟩
theorem small_phi {n : Nat} (h1 : 1 ≤ n) (h2 : n ≤ 400) {l : List (Nat × Nat)} (h : Parts n l) : phi l = cop n n := by
  rw [h.uniq (small_of h1 h2).1]
  exact (small_of h1 h2).2
theorem small_ord {n : Nat} (h1 : 1 ≤ n) (h2 : n ≤ 400) {x : Int} (g : Int.gcd x n = 1) : ∃ m, Ord x n m ∧ m ≤ n := by
  have p := (small_of h1 h2).1
  have h3 := phi_le p.pr
  rw [p.prod] at h3
  obtain ⟨d, hd, h4⟩ := Ord.ex (phi_pos p.pr) (euler_parts p g)
  exact ⟨d, hd, Nat.le_trans h4 h3⟩
end NT

end
section
set_option maxRecDepth 100000
open PySem L2 NT
namespace My
end My
namespace L2
/-! ### data -/
theorem Dp.int_inv {K : PySem.W.Frag} {H : Hp} {v : V} {i : Int} (h : Dp K H v (.int i)) : v = .int i := by cases h; rfl
theorem seqT_same {K : PySem.W.Frag} {H H' : Hp} {a : Addr} {xs : List V} (e : Same H H') (h : SqT K H a xs) : SqT K H' a xs := by
  rcases h with (h | ⟨o, h⟩) | h
  · exact .inl (.inl (e _ _ h))
  · exact .inl (.inr ⟨o, e _ _ h⟩)
  · exact .inr h
mutual
theorem Dp.ext {K : PySem.W.Frag} {H H' : Hp} (e : Same H H') : ∀ {d : PyData} {v : V}, Dp K H v d → Dp K H' v d
  | _, _, .non => .non
  | _, _, .bl b => .bl b
  | _, _, .int i => .int i
  | _, _, .str x => .str x
  | _, _, .lst h k => .lst (e.seq h) (DpAll.ext e k)
  | _, _, .tup h k => .tup (seqT_same e h) (DpAll.ext e k)
theorem DpAll.ext {K : PySem.W.Frag} {H H' : Hp} (e : Same H H') : ∀ {ds : List PyData} {vs : List V}, DpAll K H vs ds → DpAll K H' vs ds
  | _, _, .nil => .nil
  | _, _, .cons h k => .cons (Dp.ext e h) (DpAll.ext e k)
end
theorem DpAll.len {K : PySem.W.Frag} {H : Hp} : ∀ {vs : List V} {ds : List PyData}, DpAll K H vs ds → vs.length = ds.length
  | _, _, .nil => rfl
  | _, _, .cons _ k => by rw [List.length_cons, List.length_cons, DpAll.len k]
theorem DpAll.get {K : PySem.W.Frag} {H : Hp} : ∀ {vs : List V} {ds : List PyData}, DpAll K H vs ds → ∀ {i : Nat} {v : V}, vs[i]? = some v → ∃ d, ds[i]? = some d ∧ Dp K H v d
  | _, _, .nil, i, v, h => by simp at h
  | _, _, .cons h k, 0, v, e => by
    simp only [List.getElem?_cons_zero, Option.some.injEq] at e
    subst e
    exact ⟨_, rfl, h⟩
  | _, _, .cons h k, i + 1, v, e => by
    simp only [List.getElem?_cons_succ] at e ⊢
    exact DpAll.get k e
theorem DpAll.snoc {K : PySem.W.Frag} {H : Hp} {v : V} {d : PyData} (hd : Dp K H v d) : ∀ {vs : List V} {ds : List PyData}, DpAll K H vs ds → DpAll K H (vs ++ [v]) (ds ++ [d])
  | _, _, .nil => .cons hd .nil
  | _, _, .cons h k => .cons h (DpAll.snoc hd k)
end L2
namespace My
/-! ### data without lists -/
mutual
def noL : PyData → Bool
  | .list _ | .dict _ => false
  | .tuple ds => noLs ds
  | .none | .bool _ | .int _ | .str _ => true
def noLs : List PyData → Bool
  | [] => true
  | d :: ds => noL d && noLs ds
end
end My
namespace L2
open My
theorem seqT_nl {K : PySem.W.Frag} {H H' : Hp} {a : Addr} {xs : List V} (e : NL H H') (h : SqT K H a xs) : SqT K H' a xs := by
  rcases h with (h | ⟨o, h⟩) | h
  · exact .inl (.inl (e _ _ h fun _ z => by cases z))
  · exact .inl (.inr ⟨o, e _ _ h fun _ z => by cases z⟩)
  · exact .inr h
mutual
theorem Dp.nl {K : PySem.W.Frag} {H H' : Hp} (e : NL H H') : ∀ {d : PyData} {v : V}, noL d = true → Dp K H v d → Dp K H' v d
  | _, _, _, .non => .non
  | _, _, _, .bl b => .bl b
  | _, _, _, .int i => .int i
  | _, _, _, .str x => .str x
  | _, _, n, .lst h k => by cases n
  | _, _, n, .tup h k => .tup (seqT_nl e h) (DpAll.nl e n k)
theorem DpAll.nl {K : PySem.W.Frag} {H H' : Hp} (e : NL H H') : ∀ {ds : List PyData} {vs : List V}, noLs ds = true → DpAll K H vs ds → DpAll K H' vs ds
  | _, _, _, .nil => .nil
  | _, _, n, .cons h k => .cons (Dp.nl e (Bool.and_eq_true_iff.mp n).1 h) (DpAll.nl e (Bool.and_eq_true_iff.mp n).2 k)
end
end L2
namespace My
def pairD (q : Nat × Nat) : PyData := .tuple [.int q.1, .int q.2]
def partsT (l : List (Nat × Nat)) : PyData := .tuple (l.map pairD)
def partsL (l : List (Nat × Nat)) : PyData := .list (l.map pairD)
theorem pair_inv {K : PySem.W.Frag} {H : Hp} {v : V} {q : Nat × Nat} (h : Dp K H v (pairD q)) : ∃ a, v = .ref a ∧ SqT K H a [.int q.1, .int q.2] := by
  cases h with
  | tup h k =>
    cases k with
    | cons h1 k1 =>
      cases k1 with
      | cons h2 k2 =>
        cases k2
        cases h1; cases h2
        exact ⟨_, rfl, h⟩
theorem pair_dp {K : PySem.W.Frag} {H : Hp} {a : Addr} {p e : Int} {q : Nat × Nat} (h : SqT K H a [.int p, .int e]) (e1 : p = q.1) (e2 : e = q.2) : Dp K H (.ref a) (pairD q) := by
  subst e1 e2
  exact .tup h (.cons (.int _) (.cons (.int _) .nil))
theorem partsT_inv {K : PySem.W.Frag} {H : Hp} {v : V} {l : List (Nat × Nat)} (h : Dp K H v (partsT l)) : ∃ a xs, v = .ref a ∧ SqT K H a xs ∧ DpAll K H xs (l.map pairD) := by
  cases h with
  | tup h k => exact ⟨_, _, rfl, h, k⟩
theorem partsL_inv {K : PySem.W.Frag} {H : Hp} {v : V} {l : List (Nat × Nat)} (h : Dp K H v (partsL l)) : ∃ a xs, v = .ref a ∧ SqL K H a xs ∧ DpAll K H xs (l.map pairD) := by
  cases h with
  | lst h k => exact ⟨_, _, rfl, h, k⟩
theorem eqv_pair (q r : Nat × Nat) : PyData.eqv (pairD q) (pairD r) = decide (q = r) := by
  have e1 : ((q.1 : Int) == (r.1 : Int)) = decide (q.1 = r.1) := by
    by_cases h : q.1 = r.1
    · simp [h]
    · have : ¬ (q.1 : Int) = r.1 := by omega
      simp [h, this]
  have e2 : ((q.2 : Int) == (r.2 : Int)) = decide (q.2 = r.2) := by
    by_cases h : q.2 = r.2
    · simp [h]
    · have : ¬ (q.2 : Int) = r.2 := by omega
      simp [h, this]
  simp only [pairD, PyData.eqv, PyData.eqvAll, Bool.and_true, e1, e2]
  rw [← Bool.decide_and]
  congr 1
  exact propext ⟨fun h => Prod.ext h.1 h.2, fun h => by subst h; exact ⟨rfl, rfl⟩⟩
theorem eqvAll_pairs : ∀ l r : List (Nat × Nat), PyData.eqvAll (l.map pairD) (r.map pairD) = decide (l = r)
  | [], [] => rfl
  | [], _ :: _ => rfl
  | _ :: _, [] => rfl
  | q :: l, s :: r => by
    simp only [List.map_cons, PyData.eqvAll, eqv_pair, eqvAll_pairs l r]
    rw [← Bool.decide_and]
    congr 1
    exact propext ⟨fun h => by rw [h.1, h.2], fun h => by injection h with a b; exact ⟨a, b⟩⟩
theorem eqv_partsT (l r : List (Nat × Nat)) : PyData.eqv (partsT l) (partsT r) = decide (l = r) := by simp only [partsT, PyData.eqv, eqvAll_pairs]
theorem eqv_partsL (l r : List (Nat × Nat)) : PyData.eqv (partsL l) (partsL r) = decide (l = r) := by simp only [partsL, PyData.eqv, eqvAll_pairs]
theorem noL_pairs : ∀ l : List (Nat × Nat), noLs (l.map pairD) = true
  | [] => rfl
  | q :: l => by simp only [List.map_cons, noLs, noL_pairs l, Bool.and_true]; rfl
theorem noL_partsT (l : List (Nat × Nat)) : noL (partsT l) = true := noL_pairs l
theorem lay_pairs : ∀ l : List (Nat × Nat), PyData.canLayAll0 (l.map pairD) = true
  | [] => rfl
  | q :: l => by
    simp only [List.map_cons, PyData.canLayAll0, lay_pairs l, pairD, PyData.canLay0, Bool.and_true]
theorem depth_pairs : ∀ l : List (Nat × Nat), PyData.depthAll (l.map pairD) ≤ 1
  | [] => by simp only [List.map_nil, PyData.depthAll]; omega
  | q :: l => by
    have := depth_pairs l
    simp only [List.map_cons, PyData.depthAll, pairD, PyData.depth]
    omega
theorem shaped_partsT (l : List (Nat × Nat)) : SeqAt.shaped (partsT l) = true := by
  have := depth_pairs l
  simp only [SeqAt.shaped, partsT, PyData.canLay0, lay_pairs, PyData.depth, Bool.true_and]
  exact decide_eq_true (by omega)
theorem shaped_partsL (l : List (Nat × Nat)) : SeqAt.shaped (partsL l) = true := by
  have := depth_pairs l
  simp only [SeqAt.shaped, partsL, PyData.canLay0, lay_pairs, PyData.depth, Bool.true_and]
  exact decide_eq_true (by omega)
/-! ### the promises: rests, parts -/
abbrev BIG : Int := 1000000000000000000000000000000
def Kd (K : PySem.W.Frag) (H : Hp) (v : V) : Prop := ∃ t, Ty K H v t
def spIsWhole (K : PySem.W.Frag) : Sp := fun vs H Q _ => ∃ v, vs = [v] ∧ Kd K H v ∧ Q (.bl (isI v)) H
def spIsBetween (K : PySem.W.Frag) : Sp := fun vs H Q _ => ∃ v lo hi, vs = [v, .int lo, .int hi] ∧ Kd K H v ∧ Q (.bl (inR v lo hi)) H
def spNeed (K : PySem.W.Frag) (er : String → Addr) : Sp := fun vs H Q E => ∃ v lo hi, vs = [v, .int lo, .int hi] ∧ Kd K H v ∧ (inR v lo hi = true → Q .non H) ∧ (inR v lo hi = false → E (.ref (er "NoNumber")) none H)
def spNeed1 (K : PySem.W.Frag) (er : String → Addr) (lo hi : Int) : Sp := fun vs H Q E => ∃ v, vs = [v] ∧ Kd K H v ∧ (inR v lo hi = true → Q .non H) ∧ (inR v lo hi = false → E (.ref (er "NoNumber")) none H)
def spPow : Sp := fun vs H Q _ => ∃ b o n : Int, vs = [.int b, .int o, .int n] ∧ 0 ≤ o ∧ 0 < n ∧ n < 2 ^ 200 ∧ Q (.int (b ^ o.toNat % n)) H
def spRaised (K : PySem.W.Frag) (er : String → Addr) : Sp := fun vs H Q E => ∃ vb vo vn, vs = [vb, vo, vn] ∧ Kd K H vb ∧ Kd K H vo ∧ Kd K H vn ∧
  (∀ b o n : Int, vb = .int b → vo = .int o → vn = .int n → -BIG ≤ b → b ≤ BIG → 0 ≤ o → o ≤ BIG → 1 ≤ n → n ≤ BIG → Q (.int (b ^ o.toNat % n)) H) ∧
  ((inR vb (-BIG) BIG && inR vo 0 BIG && inR vn 1 BIG) = false → E (.ref (er "NoNumber")) none H)
def spCommon : Sp := fun vs H Q _ => ∃ a b : Int, vs = [.int a, .int b] ∧ Q (.int (Int.gcd a b : Nat)) H
def spShared (K : PySem.W.Frag) (er : String → Addr) : Sp := fun vs H Q E => ∃ va vb, vs = [va, vb] ∧ Kd K H va ∧ Kd K H vb ∧
  (∀ a b : Int, va = .int a → vb = .int b → -BIG ≤ a → a ≤ BIG → -BIG ≤ b → b ≤ BIG → Q (.int (Int.gcd a b : Nat)) H) ∧
  ((inR va (-BIG) BIG && inR vb (-BIG) BIG) = false → E (.ref (er "NoNumber")) none H)
/-- what undoes a by n, or None -/
def Und (a n : Int) (Q : V → Prop) : Prop := (Int.gcd a n ≠ 1 → Q .non) ∧ (Int.gcd a n = 1 → ∀ x : Int, 0 ≤ x → x < n → (x * a) % n = 1 % n → Q (.int x))
def spUndoneBy : Sp := fun vs H Q _ => ∃ a n : Int, vs = [.int a, .int n] ∧ 1 ≤ n ∧ n < 2 ^ 200 ∧ Und a n fun v => ∀ H', Same H H' → Q v H'
def spUndone (K : PySem.W.Frag) (er : String → Addr) : Sp := fun vs H Q E => ∃ va vn, vs = [va, vn] ∧ Kd K H va ∧ Kd K H vn ∧
  (∀ a n : Int, va = .int a → vn = .int n → -BIG ≤ a → a ≤ BIG → 1 ≤ n → n ≤ BIG → Und a n fun v => ∀ H', Same H H' → Q v H') ∧
  ((inR va (-BIG) BIG && inR vn 1 BIG) = false → E (.ref (er "NoNumber")) none H)
def spParts (K : PySem.W.Frag) : Sp := fun vs H Q _ => ∃ n : Nat, vs = [.int n] ∧ 1 ≤ n ∧ n ≤ 10 ^ 31 ∧ ∀ l v H', Parts n l → Same H H' → Dp K H' v (partsT l) → Q v H'
def spToldPrime : Sp := fun vs H Q _ => ∃ n : Nat, vs = [.int n] ∧ n ≤ 10 ^ 31 ∧ ∀ b H', (b = true ↔ Pr n) → Same H H' → Q (.bl b) H'
def spIsPrime (K : PySem.W.Frag) (er : String → Addr) : Sp := fun vs H Q E => ∃ v, vs = [v] ∧ Kd K H v ∧ (∀ n : Nat, v = .int n → n ≤ 10 ^ 9 → ∀ b H', (b = true ↔ Pr n) → Same H H' → Q (.bl b) H') ∧ (inR v 0 (10 ^ 9) = false → E (.ref (er "NoNumber")) none H)
def spPartsOf (K : PySem.W.Frag) (er : String → Addr) : Sp := fun vs H Q E => ∃ v, vs = [v] ∧ Kd K H v ∧ (∀ n : Nat, v = .int n → 1 ≤ n → n ≤ 10 ^ 9 → ∀ l v H', Parts n l → Same H H' → Dp K H' v (partsT l) → Q v H') ∧ (inR v 1 (10 ^ 9) = false → E (.ref (er "NoNumber")) none H)
/-! ### the promises: the laws' own -/
def spCellAt (K : PySem.W.Frag) : Sp := fun vs H Q _ => ∃ (a : Addr) (ns : List Int) (k : Nat), vs = [.ref a, .int k] ∧ SqL K H a (ns.map V.int) ∧ ∀ z : Int, Q (.int z) H
def spState (K : PySem.W.Frag) : Sp := fun vs H Q _ => ∃ (a : Addr) (ns : List Int) (k : Nat), vs = [.ref a, .int k] ∧ SqL K H a (ns.map V.int) ∧ ∀ p H', H p = none → Same H H' → StAt H' p → Q (.ref p) H'
def spTake : Sp := fun vs H Q _ => ∃ (a : Addr) (m : Int), vs = [.ref a, .int m] ∧ StAt H a ∧ 0 < m ∧ m < 2 ^ 200 ∧ ∀ r H', 0 ≤ r → r < m → Draw a H H' → Q (.int r) H'
def spDraw1 (lo hi : Int) : Sp := fun vs H Q _ => ∃ (a : Addr), vs = [.ref a] ∧ StAt H a ∧ ∀ r H', lo ≤ r → r ≤ hi → Draw a H H' → Q (.int r) H'
def spPartsLaw (K : PySem.W.Frag) : Sp := fun vs H Q _ => ∃ n : Nat, vs = [.int n] ∧ 1 ≤ n ∧ n ≤ 10 ^ 31 ∧ ∀ l v H', Parts n l → Same H H' → Dp K H' v (partsL l) → Q v H'
def spPrimeLaw : Sp := fun vs H Q _ => ∃ (a : Addr) (m : Int) (top : Nat), vs = [.ref a, .int m] ∧ StAt H a ∧ 0 < m ∧ Pr top ∧ m + 1 ≤ top ∧ top ≤ 10 ^ 10 ∧ ∀ (p : Nat) H', Pr p → p ≤ top → Draw a H H' → Q (.int p) H'
def spLaw (K : PySem.W.Frag) : Sp := fun vs H Q _ => ∃ (a : Addr) (ns : List Int), vs = [.ref a] ∧ SqL K H a (ns.map V.int) ∧ ns.length ≤ 63 ∧ ∀ H', Q (.bl true) H'
end My

end
section
set_option maxRecDepth 100000
open PySem L2 NT
namespace My
/-! ### calls that are known to be answered -/
section
variable {K : PySem.W.Frag} {er : String → Addr} {H : Hp} {Q : VK} {E : XK}
theorem kI (i : Int) : Kd K H (.int i) := ⟨_, .int i⟩
theorem nR {i lo hi : Int} {p : Prop} (h1 : lo ≤ i) (h2 : i ≤ hi) : inR (.int i) lo hi = false → p := fun z => by
  rw [inR_ok h1 h2] at z; cases z
theorem okRaised {b o n : Int} (b1 : -BIG ≤ b) (b2 : b ≤ BIG) (o1 : 0 ≤ o) (o2 : o ≤ BIG) (n1 : 1 ≤ n) (n2 : n ≤ BIG) (q : Q (.int (b ^ o.toNat % n)) H) : spRaised K er [.int b, .int o, .int n] H Q E :=
  ⟨_, _, _, rfl, kI _, kI _, kI _, fun b' o' n' e1 e2 e3 _ _ _ _ _ _ => by cases e1; cases e2; cases e3; exact q, fun z => by
    rw [inR_ok b1 b2, inR_ok o1 o2, inR_ok n1 n2] at z; cases z⟩
theorem okShared {a b : Int} (a1 : -BIG ≤ a) (a2 : a ≤ BIG) (b1 : -BIG ≤ b) (b2 : b ≤ BIG) (q : Q (.int (Int.gcd a b : Nat)) H) : spShared K er [.int a, .int b] H Q E :=
  ⟨_, _, rfl, kI _, kI _, fun a' b' e1 e2 _ _ _ _ => by cases e1; cases e2; exact q, fun z => by
    rw [inR_ok a1 a2, inR_ok b1 b2] at z; cases z⟩
theorem okUndone {a n : Int} (a1 : -BIG ≤ a) (a2 : a ≤ BIG) (n1 : 1 ≤ n) (n2 : n ≤ BIG) (q : Und a n fun v => ∀ H', Same H H' → Q v H') : spUndone K er [.int a, .int n] H Q E :=
  ⟨_, _, rfl, kI _, kI _, fun a' b' e1 e2 _ _ _ _ => by cases e1; cases e2; exact q, fun z => by
    rw [inR_ok a1 a2, inR_ok n1 n2] at z; cases z⟩
theorem okIsPrime {n : Nat} (h : n ≤ 10 ^ 9) (q : ∀ b H', (b = true ↔ Pr n) → Same H H' → Q (.bl b) H') : spIsPrime K er [.int n] H Q E :=
  ⟨_, rfl, kI _, fun m e _ => by
    have : n = m := by have := V.int.inj e; omega
    subst this; exact q, nR (by omega) (by omega)⟩
theorem okPartsOf {n : Nat} (h1 : 1 ≤ n) (h : n ≤ 10 ^ 9) (q : ∀ l v H', Parts n l → Same H H' → Dp K H' v (partsT l) → Q v H') : spPartsOf K er [.int n] H Q E :=
  ⟨_, rfl, kI _, fun m e _ _ => by
    have : n = m := by have := V.int.inj e; omega
    subst this; exact q, nR (by omega) (by omega)⟩
end
end My
namespace L2
open My
theorem Same.draw {a : Addr} {H H1 H2 : Hp} (s : Same H H1) (h : H a = none) (D : Draw a H1 H2) : Same H H2 := fun b o e => D.2 b o (s b o e) (ne_of_none e h)
end L2
namespace My
/-! ### the laws' outermost loop -/
def rMax2 : List V → Hp → VK → Prop := fun xs H Q => ∃ i j, xs = [.int i, .int j] ∧ Q (.int (if j > i then j else i)) H
def rMin2 : List V → Hp → VK → Prop := fun xs H Q => ∃ i j, xs = [.int i, .int j] ∧ Q (.int (if j < i then j else i)) H
def rLenQ (K : PySem.W.Frag) : List V → Hp → VK → Prop := fun xs H Q => ∃ p ys, xs = [.ref p] ∧ (SqL K H p ys ∨ SqT K H p ys) ∧ Q (.int ys.length) H
theorem lawFor {K : PySem.W.Frag} {c : Int} {g : TG} {tb : TS} {D : Ends} {σ : L2.St} {H : Hp} {a : Addr} {xs : List V} (Pv : Nat → L2.St → Hp → Prop) (hS : SqL K H a xs) (hσ : σ[0]? = some (some (.ref a))) (hx : xs.length ≤ 1000) (hc : 0 ≤ c) (hc2 : c ≤ 1000) (h0 : Pv 0 σ H)
    (hs : ∀ (i : Nat) σ H, Pv i σ H → g (.int i) σ H fun σ2 H2 => tb { D with nx := Pv (i + 1), ct := Pv (i + 1), bk := D.nx } σ2 H2) (hd : ∀ i σ H, Pv i σ H → D.nx σ H) :
    tFor (iRng1 (tCons (tCB rMax2 (tCons (tC (V.int 1)) (tCons (tCB rMin2 (tCons (tCB (rLenQ K) (tCons (tVar 0) tNil)) (tCons (tC (V.int c)) tNil))) tNil))) tNil)) g tb D σ H := by
  refine ⟨_, hσ, _, _, rfl, .inl hS, _, _, rfl, _, _, rfl, _, rfl, ?_, ?_, for_range Pv h0 (fun i σ H hi h => ?_) fun σ H h => hd _ σ H h⟩
  · split <;> split <;> omega
  · split <;> split <;> omega
  · rw [Int.zero_add]
    exact hs i σ H h
/-- for prime, often in parts (a tuple of pairs) -/
theorem forParts {K : PySem.W.Frag} {l : List (Nat × Nat)} {v : V} {g : TG} {tb : TS} {D : Ends} {σ : L2.St} {H : Hp} (dp : Dp K H v (partsT l)) (Pv : Nat → L2.St → Hp → Prop) (h0 : Pv 0 σ H) (hsm : ∀ i σ H', Pv i σ H' → NL H H')
    (hs : ∀ (i : Nat) (q : Nat × Nat) (b : Addr) σ H', l[i]? = some q → Pv i σ H' → SqT K H' b [.int q.1, .int q.2] → g (.ref b) σ H' fun σ2 H2 => tb { D with nx := Pv (i + 1), ct := Pv (i + 1), bk := D.nx } σ2 H2) (hd : ∀ σ H, Pv l.length σ H → D.nx σ H) :
    ∃ a, v = .ref a ∧ (∃ xs, SqT K H a xs) ∧ ∃ W : Nat → Nat → L2.St → Hp → Prop, (∃ m, W 0 m σ H) ∧ ∀ i m σ H, W i m σ H → ((Itt K a).stop i H ∧ D.nx σ H) ∨ ((Itt K a).go i H ∧ ∃ N : L2.St → Hp → Prop, (∀ σ' H', N σ' H' → ∃ m', m' < m ∧ W (i + 1) m' σ' H') ∧ ∀ x H', (Itt K a).yld i H x H' → g x σ H' fun σ2 H2 => tb { D with nx := N, ct := N, bk := D.nx } σ2 H2) := by
  obtain ⟨a, xs, rfl, hs1, dx⟩ := partsT_inv dp
  have hlen : xs.length = l.length := by rw [dx.len, List.length_map]
  refine ⟨a, rfl, ⟨xs, hs1⟩, for_tup (xs := xs) Pv h0 (fun i σ H' _ h => seqT_nl (hsm i σ H' h) hs1) (fun i x σ H' hx h => ?_) (fun σ H' h => hd σ H' (hlen ▸ h))⟩
  obtain ⟨d, hd1, hd2⟩ := dx.get hx
  rw [List.getElem?_map] at hd1
  cases hq : l[i]? with
  | none => rw [hq] at hd1; cases hd1
  | some q =>
    rw [hq] at hd1
    have e : pairD q = d := Option.some.inj hd1
    subst e
    obtain ⟨b, rfl, hb⟩ := pair_inv hd2
    exact hs i q b σ H' hq h (seqT_nl (hsm i σ H' h) hb)
theorem iteF2 {c A B : Prop} [Decidable c] (hc : c) (h : B) : if (!decide c) = true then A else B := iteNS hc h
end My

end
section
set_option maxRecDepth 100000
open PySem PySem.Spec PyProof.Rows L2 NT
namespace My
/-! ### repr of data -/
mutual
def wt : PyData → Nat
  | .none => 4
  | .bool _ => 5
  | .int i => i.natAbs.log2 + 2
  | .str x => (reprText x).length
  | .list ds => wts ds + 2
  | .tuple ds => wts ds + 4
  | .dict _ => 0
def wts : List PyData → Nat
  | [] => 0
  | d :: ds => wt d + 2 + wts ds
end
theorem list_len (ts : List Str) : (listText ts).length ≤ piled ts + 2 := by
  unfold listText
  rw [strLen_append]
  have e1 : ((("]" : String) : Str)).length = 1 := rfl
  have e2 : ((("[" : String) : Str)).length = 1 := rfl
  rw [e1]
  cases ts with
  | nil => show (("[" : String) : Str).length + 1 ≤ _; rw [e2]; omega
  | cons t r =>
    show (textFrom 1 _ r).length + 1 ≤ _
    rw [textFrom_length_pos r 1 _ (by decide), strLen_append, strLen_append, piled_cons, e2]
    have e3 : ((((if 0 > 0 then ", " else "") : String) : Str)).length = 0 := rfl
    rw [e3]
    omega
theorem tuple_len (ts : List Str) : (tupleText ts).length ≤ piled ts + 4 := by
  unfold tupleText
  rw [strLen_append, strLen_append]
  have e1 : ((("(" : String) : Str)).length = 1 := rfl
  have e3 : (((if ts.length == 1 then ",)" else ")" : String) : Str)).length ≤ 2 := by split <;> decide
  rw [e1]
  by_cases h : ts = []
  · subst h
    have : (Str.join ", " []).length = 0 := rfl
    rw [this]
    omega
  · have := join_length_add ts h
    omega
mutual
theorem shown_len : ∀ d : PyData, d.showable = true → d.hasDict = false → d.shown.length ≤ wt d
  | .none, _, _ => Nat.le_refl _
  | .bool b, _, _ => by cases b <;> decide
  | .int i, _, _ => by
    have := int_text_length_le (a := i) (k := i.natAbs.log2 + 1) (by omega) (by omega)
    show (Str.ofString (toString i)).length ≤ i.natAbs.log2 + 2
    rw [PySem.ofString_length]
    exact this
  | .str x, _, _ => Nat.le_refl _
  | .list ds, h, n => by
    have := shown_lens ds h n
    have h2 := list_len (PyData.shownAll ds)
    simp only [PyData.shown, wt]
    omega
  | .tuple ds, h, n => by
    have := shown_lens ds h n
    have h2 := tuple_len (PyData.shownAll ds)
    simp only [PyData.shown, wt]
    omega
  | .dict _, _, n => by cases n
theorem shown_lens : ∀ ds : List PyData, PyData.showableAll ds = true → PyData.hasDictAll ds = false → piled (PyData.shownAll ds) ≤ wts ds
  | [], _, _ => Nat.le_refl _
  | d :: ds, h, n => by
    simp only [PyData.showableAll, Bool.and_eq_true] at h
    simp only [PyData.hasDictAll, Bool.or_eq_false_iff] at n
    have h1 := shown_len d h.1 n.1
    have h2 := shown_lens ds h.2 n.2
    simp only [PyData.shownAll, piled_cons, wts]
    omega
end
/-- data that repr serves -/
structure RD (x : PyData) : Prop where
  s : x.showable = true
  n : x.hasDict = false
  d : x.depth ≤ 60
  w : wt x ≤ 16000000
theorem RD.int {i : Int} (h : i.natAbs.log2 < 1920) : RD (.int i) := ⟨decide_eq_true h, rfl, by simp only [PyData.depth]; omega, by simp only [wt]; omega⟩
theorem log_lt {i : Int} {k : Nat} (h : i.natAbs < 2 ^ k) (hk : k < 1920) : i.natAbs.log2 < 1920 := by
  by_cases z : i.natAbs = 0
  · rw [z]; decide
  · have := (Nat.log2_lt z).mpr h
    omega
theorem RD.intB {i : Int} (h : -(2 ^ 250 : Int) < i ∧ i < 2 ^ 250) : RD (.int i) := RD.int (log_lt (k := 250) (pow_lt (m := 0) 250 h.1 h.2) (by decide))
theorem RD.bool (b : Bool) : RD (.bool b) := ⟨rfl, rfl, by simp only [PyData.depth]; omega, by simp only [wt]; omega⟩
theorem RD.none : RD .none := ⟨rfl, rfl, by simp only [PyData.depth]; omega, by simp only [wt]; omega⟩
/-- many short ones -/
structure RDs (ds : List PyData) (k m : Nat) : Prop where
  s : PyData.showableAll ds = true
  n : PyData.hasDictAll ds = false
  d : PyData.depthAll ds ≤ k
  w : wts ds ≤ m
theorem RDs.nil {k m : Nat} : RDs [] k m := ⟨rfl, rfl, by simp only [PyData.depthAll]; omega, by simp only [wts]; omega⟩
theorem RDs.cons {d : PyData} {ds : List PyData} {k m c : Nat} (hs : d.showable = true) (hn : d.hasDict = false) (hd : d.depth ≤ k) (hw : wt d + 2 ≤ c) (h : RDs ds k m) : RDs (d :: ds) k (c + m) := by
  refine ⟨?_, ?_, ?_, ?_⟩
  · simp only [PyData.showableAll, hs, h.s, Bool.and_self]
  · simp only [PyData.hasDictAll, hn, h.n, Bool.or_self]
  · have := h.d
    simp only [PyData.depthAll]
    omega
  · have := h.w
    simp only [wts]
    omega
theorem RDs.all {ds : List PyData} {k c : Nat} (h : ∀ d ∈ ds, d.showable = true ∧ d.hasDict = false ∧ d.depth ≤ k ∧ wt d + 2 ≤ c) : RDs ds k (c * ds.length) := by
  induction ds with
  | nil => exact RDs.nil
  | cons d ds ih =>
    obtain ⟨a, b, e, f⟩ := h d List.mem_cons_self
    have := RDs.cons a b e f (ih fun x hx => h x (List.mem_cons_of_mem _ hx))
    rw [List.length_cons, Nat.mul_succ, Nat.add_comm]
    exact this
theorem RDs.list {ds : List PyData} {k m : Nat} (h : RDs ds k m) (hk : k < 60) (hm : m ≤ 15000000) : RD (.list ds) :=
  ⟨h.s, h.n, by have := h.d; simp only [PyData.depth]; omega, by have := h.w; simp only [wt]; omega⟩
theorem RDs.tuple {ds : List PyData} {k m : Nat} (h : RDs ds k m) (hk : k < 60) (hm : m ≤ 15000000) : RD (.tuple ds) :=
  ⟨h.s, h.n, by have := h.d; simp only [PyData.depth]; omega, by have := h.w; simp only [wt]; omega⟩
def rReprD (K : PySem.W.Frag) : List V → Hp → VK → Prop := fun xs H Q => ∃ v d, xs = [v] ∧ Dp K H v d ∧ RD d ∧ Q (.str d.shown) H
theorem call_reprD {X : Cx} (hg : X.A.guards = some []) (hu : X.A.units + 64 < cLine) : CallR X (.builtin "repr") (rReprD X.K) := by
  intro pins s σ H xs us Q I r h
  obtain ⟨v, d, rfl, hd, hr, q⟩ := h
  obtain ⟨u, rfl, ru⟩ := vals1 r
  have hw : d.shown.length ≤ sizeLine := by
    have h1 := shown_len d hr.s hr.n
    have h2 := hr.w
    rw [sizeLine_eq]
    omega
  have hdp := hr.d
  obtain ⟨as, rd⟩ := Dp.reads I d v u hd ru
  have fin : ∀ (h' : Heap) (u : Tok) (tk : Nat), (∀ b o, s.heap.get? b = some o → h'.get? b = some o) → EP X pins σ Q (.str d.shown u) { s with heap := h', toks := tk } :=
    fun h' u tk hk => ⟨.str d.shown, H, I.kept hk, ⟨_, rfl⟩, q⟩
  cases hd with
  | non => cases ru; exact PySem.P.repr_of_none (fin s.heap _ _ fun _ _ e => e)
  | bl b => cases ru; exact PySem.P.repr_of_bool (fin s.heap _ _ fun _ _ e => e)
  | int i => obtain ⟨t, rfl⟩ := ru; exact PySem.P.repr_of_int (of_decide_eq_true hr.s) (fin s.heap _ _ fun _ _ e => e)
  | str x => obtain ⟨t, rfl⟩ := ru; exact PySem.P.repr_of_str (fin s.heap _ _ fun _ _ e => e) hw
  | lst hs ha => cases ru; exact repr_of_reads' rd hr.s (PyData.noDict_hsm hr.n) hg (by omega) (fun _ _ e => e) (fun h' u tk hk => fin h' u tk hk) hw
  | tup hs ha => cases ru; exact repr_of_reads' rd hr.s (PyData.noDict_hsm hr.n) hg (by omega) (fun _ _ e => e) (fun h' u tk hk => fin h' u tk hk) hw
/-- _law_same by repr: what is told, of the same data -/
def spSame (K : PySem.W.Frag) : Sp := fun vs H Q _ => ∃ v u d, vs = [v, u] ∧ Dp K H v d ∧ Dp K H u d ∧ RD d ∧ Q (.bl true) H
theorem okSameI {K : PySem.W.Frag} {H : Hp} {Q : VK} {E : XK} {i j : Int} (h : -(2 ^ 250 : Int) < i ∧ i < 2 ^ 250) (e : i = j) (q : Q (.bl true) H) : spSame K [.int i, .int j] H Q E := by
  subst e
  exact ⟨_, _, _, rfl, .int _, .int _, RD.intB h, q⟩
theorem okSameN {K : PySem.W.Frag} {H : Hp} {Q : VK} {E : XK} (q : Q (.bl true) H) : spSame K [.non, .non] H Q E := ⟨_, _, _, rfl, .non, .non, RD.none, q⟩
theorem okSameB {K : PySem.W.Frag} {H : Hp} {Q : VK} {E : XK} {b c : Bool} (e : b = c) (q : Q (.bl true) H) : spSame K [.bl b, .bl c] H Q E := by
  subst e
  exact ⟨_, _, _, rfl, .bl _, .bl _, RD.bool _, q⟩
end My

end
section
set_option maxRecDepth 100000
open PySem L2 NT
namespace My
theorem iteT' {b : Bool} {A B : Prop} (e : b = true) (h : A) : if b = true then A else B := by rw [if_pos e]; exact h
theorem decN {c : Prop} [Decidable c] {A B : Prop} (h1 : ¬ c → A) (h2 : c → B) : if (!decide c) = true then A else B := by
  by_cases h : c
  · rw [decide_eq_true h]; exact h2 h
  · rw [decide_eq_false h]; exact h1 h
/-! ### the promises: orders -/
def spRestsOf : Sp := fun vs H Q _ => ∃ n : Nat, vs = [.int n] ∧ 1 ≤ n ∧ n ≤ 10 ^ 31 ∧ ∀ l H', Parts n l → Same H H' → Q (.int (phi l : Nat)) H'
def spManyRests (K : PySem.W.Frag) (er : String → Addr) : Sp := fun vs H Q E => ∃ v, vs = [v] ∧ Kd K H v ∧ (∀ n : Nat, v = .int n → 1 ≤ n → n ≤ 10 ^ 9 → ∀ l H', Parts n l → Same H H' → Q (.int (phi l : Nat)) H') ∧ (inR v 1 (10 ^ 9) = false → E (.ref (er "NoNumber")) none H)
def spOrderIn : Sp := fun vs H Q _ => ∃ (x n : Int) (w : Nat), vs = [.int x, .int n, .int w] ∧ 1 ≤ n ∧ n < 2 ^ 200 ∧ 1 ≤ w ∧ w ≤ 10 ^ 31 ∧ x ^ w % n = 1 % n ∧ ∀ (m : Nat) H', Ord x n m → m ≤ w → Same H H' → Q (.int m) H'
def spOrderOf (K : PySem.W.Frag) (er : String → Addr) : Sp := fun vs H Q E => ∃ va vn, vs = [va, vn] ∧ Kd K H va ∧ Kd K H vn ∧
  (∀ (x : Int) (n : Nat), va = .int x → vn = .int n → -BIG ≤ x → x ≤ BIG → 1 ≤ n → n ≤ 10 ^ 9 → (Int.gcd x n ≠ 1 → Q .non H) ∧ (Int.gcd x n = 1 → ∀ (m : Nat) H', Ord x n m → m ≤ n → Same H H' → Q (.int m) H')) ∧
  ((inR va (-BIG) BIG && inR vn 1 (10 ^ 9)) = false → E (.ref (er "NoNumber")) none H)
section
variable {K : PySem.W.Frag} {er : String → Addr} {H : Hp} {Q : VK} {E : XK}
theorem okManyRests {n : Nat} (h1 : 1 ≤ n) (h : n ≤ 10 ^ 9) (q : ∀ l H', Parts n l → Same H H' → Q (.int (phi l : Nat)) H') : spManyRests K er [.int n] H Q E :=
  ⟨_, rfl, kI _, fun m e _ _ => by
    have : n = m := by have := V.int.inj e; omega
    subst this; exact q, nR (by omega) (by omega)⟩
theorem okOrderOf {x : Int} {n : Nat} (x1 : -BIG ≤ x) (x2 : x ≤ BIG) (h1 : 1 ≤ n) (h : n ≤ 10 ^ 9) (q : (Int.gcd x n ≠ 1 → Q .non H) ∧ (Int.gcd x n = 1 → ∀ (m : Nat) H', Ord x n m → m ≤ n → Same H H' → Q (.int m) H')) : spOrderOf K er [.int x, .int n] H Q E :=
  ⟨_, _, rfl, kI _, kI _, fun x' m e1 e2 _ _ _ _ => by
    cases e1
    have : n = m := by have := V.int.inj e2; omega
    subst this; exact q, fun z => by rw [inR_ok x1 x2, inR_ok (by omega) (by omega)] at z; cases z⟩
end
end My
namespace My
/-- a part of a law that tells True, whatever is drawn -/
def spRight : Sp := fun vs H Q _ => ∃ (a : Addr), vs = [.ref a] ∧ StAt H a ∧ ∀ H', Draw a H H' → Q (.bl true) H'
end My
namespace My
/-- for prime, often in a list of pairs -/
theorem forPartsL {K : PySem.W.Frag} {l : List (Nat × Nat)} {v : V} {g : TG} {tb : TS} {D : Ends} {σ : L2.St} {H : Hp} (dp : Dp K H v (partsL l)) (Pv : Nat → L2.St → Hp → Prop) (h0 : Pv 0 σ H) (hsm : ∀ i σ H', Pv i σ H' → Same H H')
    (hs : ∀ (i : Nat) (q : Nat × Nat) (b : Addr) σ H', l[i]? = some q → Pv i σ H' → SqT K H' b [.int q.1, .int q.2] → g (.ref b) σ H' fun σ2 H2 => tb { D with nx := Pv (i + 1), ct := Pv (i + 1), bk := D.nx } σ2 H2) (hd : ∀ σ H, Pv l.length σ H → D.nx σ H) :
    ∃ a, v = .ref a ∧ (∃ xs, SqL K H a xs) ∧ ∃ W : Nat → Nat → L2.St → Hp → Prop, (∃ m, W 0 m σ H) ∧ ∀ i m σ H, W i m σ H → ((Itl K a).stop i H ∧ D.nx σ H) ∨ ((Itl K a).go i H ∧ ∃ N : L2.St → Hp → Prop, (∀ σ' H', N σ' H' → ∃ m', m' < m ∧ W (i + 1) m' σ' H') ∧ ∀ x H', (Itl K a).yld i H x H' → g x σ H' fun σ2 H2 => tb { D with nx := N, ct := N, bk := D.nx } σ2 H2) := by
  obtain ⟨a, xs, rfl, hs1, dx⟩ := partsL_inv dp
  have hlen : xs.length = l.length := by rw [dx.len, List.length_map]
  refine ⟨a, rfl, ⟨xs, hs1⟩, for_list (xs := xs) Pv h0 (fun i σ H' _ h => (hsm i σ H' h).seq hs1) (fun i x σ H' hx h => ?_) (fun σ H' h => hd σ H' (hlen ▸ h))⟩
  obtain ⟨d, hd1, hd2⟩ := dx.get hx
  rw [List.getElem?_map] at hd1
  cases hq : l[i]? with
  | none => rw [hq] at hd1; cases hd1
  | some q =>
    rw [hq] at hd1
    have e : pairD q = d := Option.some.inj hd1
    subst e
    obtain ⟨b, rfl, hb⟩ := pair_inv hd2
    exact hs i q b σ H' hq h (seqT_same (hsm i σ H' h) hb)
/-- [.. for prime, often in a list of pairs ..] -/
theorem lcPartsL {K : PySem.W.Frag} {l : List (Nat × Nat)} {v : V} {g : TG} {tt : TT} {te : TE} {vs : List Nat} {σ : L2.St} {H1 : Hp} {Qd : Addr → Hp → Prop} (dp : Dp K H1 v (partsL l)) (Pv : Addr → Nat → Hp → Prop) (h0 : ∀ D, H1 D = none → Pv D 0 (upd H1 D (.lst []))) (hsm : ∀ D, H1 D = none → ∀ i H', Pv D i H' → Same H1 H')
    (hs : ∀ D, H1 D = none → ∀ (i : Nat) (q : Nat × Nat) (b : Addr) H, l[i]? = some q → Pv D i H → SqT K H b [.int q.1, .int q.2] → g (.ref b) (wipe σ vs) H fun σ2 H2 => wipe σ2 vs = wipe σ vs ∧ tt σ2 H2 fun b H3 =>
      if b = true then te σ2 H3 fun y H4 => ∃ acc, H4 D = some (.lst acc) ∧ acc.length < sizeLine ∧ Pv D (i + 1) (upd H4 D (.lst (acc ++ [y]))) else Pv D (i + 1) H3) (hd : ∀ D, H1 D = none → ∀ H, Pv D l.length H → Qd D H) :
    ∃ a, v = .ref a ∧ (∃ xs, SqL K H1 a xs) ∧ ∀ D, H1 D = none → ∃ W : Nat → Nat → Hp → Prop, (∃ m, W 0 m (upd H1 D (.lst []))) ∧ ∀ i m H, W i m H →
      ((Itl K a).stop i H ∧ Qd D H) ∨ ((Itl K a).go i H ∧ ∃ Nx : Hp → Prop, (∀ H', Nx H' → ∃ m', m' < m ∧ W (i + 1) m' H') ∧ ∀ x H', (Itl K a).yld i H x H' → g x (wipe σ vs) H' fun σ2 H2 => wipe σ2 vs = wipe σ vs ∧ tt σ2 H2 fun b H3 =>
        if b = true then te σ2 H3 fun y H4 => ∃ acc, H4 D = some (.lst acc) ∧ acc.length < sizeLine ∧ Nx (upd H4 D (.lst (acc ++ [y]))) else Nx H3) := by
  obtain ⟨a, xs, rfl, hs1, dx⟩ := partsL_inv dp
  have hlen : xs.length = l.length := by rw [dx.len, List.length_map]
  refine ⟨a, rfl, ⟨xs, hs1⟩, fun D hD => lc_list (xs := xs) (Qd := fun H => Qd D H) (Pv D) (h0 D hD) (fun i H _ h => (hsm D hD i H h).seq hs1) (fun i x H hx h => ?_) (fun H h => hd D hD H (hlen ▸ h))⟩
  obtain ⟨d, hd1, hd2⟩ := dx.get hx
  rw [List.getElem?_map] at hd1
  cases hq : l[i]? with
  | none => rw [hq] at hd1; cases hd1
  | some q =>
    rw [hq] at hd1
    have e : pairD q = d := Option.some.inj hd1
    subst e
    obtain ⟨b, rfl, hb⟩ := pair_inv hd2
    exact hs D hD i q b H hq h (seqT_same (hsm D hD i H h) hb)
end My

end
set_option Elab.async false
set_option linter.all false
set_option maxRecDepth 100000
set_option maxHeartbeats 4000000
namespace My
open PySem L2 NT
local macro_rules | `(tactic| walk_at "rd") => `(tactic| simp only [tSeq, tAsg, tOp, tVar, tC, tIfS, tTest, tRet, tRetN, tNext, tDrop, tB, tAnd, tOr, tNot, tNotV, tAndV, tOrV, tIf, tUn, tPar, tPar3, tNever, tBreak, tCont, gName, gNil, gCons, gTup, gSub, L2.start, rI0, rI, rU, rEq, rNe, tCons, tNil, tCl, tCB, tBM, tBM0, tTup, tLst, rAppend, cxK, rIsB, rNotB, cp10, sizeLine_eq, Int.zero_add, Int.reduceToNat, Int.reducePow, Int.reduceNeg, Int.reduceSub, Int.reduceAdd, Int.reduceMul, Int.reduceLT, Int.reduceLE, Nat.reduceLeDiff, Nat.reduceLT, tChain, sc_ii, sc_ss, sc_bb, sc_nn, sc_ni, sc_in, sc_nb, sc_bn, sc_ns, sc_sn, List.length_cons, List.length_nil, List.length, List.replicate, List.map, List.append_nil, List.nil_append, List.cons_append, List.getElem?_cons_zero, List.getElem?_cons_succ, List.set_cons_zero, List.set_cons_succ, wipe, Option.some.injEq, V.int.injEq, V.bl.injEq, V.str.injEq, V.ref.injEq, List.cons.injEq, exists_eq_left', exists_eq_left, exists_eq_right, exists_eq_right', exists_and_left, exists_and_right, and_true, true_and, exists_const, exists_prop, Nat.reduceSub, Nat.reduceAdd, and_assoc, reduceCtorEq, false_and, and_false, exists_false, false_or, or_false, Bool.not_true, Bool.not_false, if_true, if_false, Bool.false_eq_true, decide_true, decide_false])
local macro_rules | `(tactic| walk_at "om") => `(tactic| (simp only [BIG] at *; omega))
def top (i : Nat) : Stmt := PySem.Challenge.pw_primepapers_k10_orders.main.body.getD i (.Pass ⟨0, 0, 0, 0⟩)
section
variable {P : Program} {w : World} {K : PySem.W.Frag} {mg : Str → Option Value} {base : Heap} {er : String → Addr}
abbrev s_is_whole : Stmt := top 5
theorem sc_is_whole : FnScope ["thing"] ["thing"] (defScope s_is_whole) := ⟨rfl, rfl, rfl, by decide +kernel, rfl, by decide +kernel, by decide +kernel⟩
theorem ok_is_whole {f : Addr} {fd : FuncData} (F : Fun K "is_whole" "is_whole" s_is_whole f fd) (z_bool : mg "bool" = none) (z_int : mg "int" = none) (z_isinstance : mg "isinstance" = none) : FnG P w K mg base CX0 1 f fd ["thing"] (spIsWhole K) := by
  refine fnG0 F sc_is_whole (fun vs H Q E h => ?_) (fun cdv A outer s H vs Q E hr hgd h => ?_)
  · obtain ⟨v, rfl, _⟩ := h
    rfl
  · obtain ⟨v, rfl, ⟨t, ht⟩, q⟩ := h
    have nd := sc_is_whole.nd
    refine ⟨_, (pss_one (ps_ret (pe_and (pe_callB call_isi (by rfl) z_isinstance (by decide +kernel) (pa_cons (pv 0) (pa_cons (pe_bltn (v := .ty "int") (by rfl) z_int (by decide +kernel) rfl) pa_nil))) (pe_one (pe_not (pe_callB call_isi (by rfl) z_isinstance (by decide +kernel) (pa_cons (pv 0) (pa_cons (pe_bltn (v := .ty "bool") (by rfl) z_bool (by decide +kernel) rfl) pa_nil)))))))), ?_⟩
    walk_at "rd"
    refine isi ht ht.kInt ?_
    refine ⟨_, rfl, ?_⟩
    cases hv : isI v with
    | true =>
      refine iteT ?_
      refine isi ht ht.kBool ⟨_, rfl, ?_⟩
      have : isB v = false := by cases v <;> first | rfl | cases hv
      rw [this]
      rw [hv] at q
      exact q
    | false =>
      rw [hv] at q
      rw [Bool.false_or]
      cases hb : isB v with
      | true =>
        refine iteT ?_
        refine isi ht ht.kBool ⟨_, rfl, ?_⟩
        rw [hb]
        exact q
      | false => exact iteF q
abbrev s_is_between : Stmt := top 6
theorem sc_is_between : FnScope ["thing", "low", "high"] ["thing", "low", "high"] (defScope s_is_between) := ⟨rfl, rfl, rfl, by decide +kernel, rfl, by decide +kernel, by decide +kernel⟩
theorem ok_is_between {f : Addr} {fd : FuncData} (F : Fun K "is_between" "is_between" s_is_between f fd) (c_is_whole : Cl P w K mg base CX0 1 "is_whole" (spIsWhole K)) : FnG P w K mg base CX0 2 f fd ["thing", "low", "high"] (spIsBetween K) := by
  refine fnG0 F sc_is_between (fun vs H Q E h => ?_) (fun cdv A outer s H vs Q E hr hgd h => ?_)
  · obtain ⟨v, lo, hi, rfl, _⟩ := h
    rfl
  · obtain ⟨v, lo, hi, rfl, ht, q⟩ := h
    have nd := sc_is_between.nd
    refine ⟨_, (pss_one (ps_ret (pe_and (pe_cl c_is_whole hr hgd (by decide) rfl (pa_cons (pv 0) pa_nil)) (pe_one (pe_chain op_le op_le (pv 1) (pv 0) (pv 2)))))), ?_⟩
    walk_at "rd"
    refine ⟨v, rfl, ht, _, rfl, ?_⟩
    cases v with
    | int i =>
      refine iteT ⟨i, rfl, decB (fun h1 => ⟨i, rfl, ?_⟩) (fun h1 => ?_)⟩
      · simp only [inR, h1, decide_true, Bool.true_and] at q
        exact q
      · simp only [inR, h1, decide_false, Bool.false_and] at q
        exact q
    | _ => exact iteF q
abbrev s_need_between : Stmt := top 7
theorem sc_need_between : FnScope ["thing", "low", "high"] ["thing", "low", "high"] (defScope s_need_between) := ⟨rfl, rfl, rfl, by decide +kernel, rfl, by decide +kernel, by decide +kernel⟩
theorem ok_need_between {f : Addr} {fd : FuncData} (F : Fun K "need_between" "need_between" s_need_between f fd) (c_is_between : Cl P w K mg base CX0 2 "is_between" (spIsBetween K)) (x_NoNumber : EC K mg "NoNumber" (er "NoNumber")) : FnG P w K mg base (L2.CX P w) 3 f fd ["thing", "low", "high"] (spNeed K er) := by
  refine fnG F sc_need_between (fun vs H Q E h => ?_) (fun cdv A outer s H vs Q E hr hgd h => ?_)
  · obtain ⟨v, lo, hi, rfl, _⟩ := h
    rfl
  · obtain ⟨v, lo, hi, rfl, ht, q1, q2⟩ := h
    have nd := sc_need_between.nd
    refine ⟨_, (pss_one (ps_if (pt_not (pt_val (pe_cl c_is_between hr hgd (by decide) rfl (pa_cons (pv 0) (pa_cons (pv 1) (pa_cons (pv 2) pa_nil))))))
        (pss_one (ps_raise rfl (takes_of rfl rfl rfl rfl) (pmk_own PySem.F.excBase_ValueError x_NoNumber.q x_NoNumber.g x_NoNumber.k (raises_own x_NoNumber.b x_NoNumber.t) rfl)))
        pss_nil)), ?_⟩
    walk_at "rd"
    refine ⟨v, lo, hi, rfl, ht, _, rfl, ?_⟩
    cases e : inR v lo hi with
    | true => exact iteF (q1 e)
    | false => exact iteT (q2 e)
abbrev s_need_far : Stmt := top 8
theorem sc_need_far : FnScope ["number"] ["number"] (defScope s_need_far) := ⟨rfl, rfl, rfl, by decide +kernel, rfl, by decide +kernel, by decide +kernel⟩
theorem ok_need_far {f : Addr} {fd : FuncData} (F : Fun K "need_far" "need_far" s_need_far f fd) (c_need_between : Cl P w K mg base (L2.CX P w) 3 "need_between" (spNeed K er)) {t_MOST_rests : Tok} (m_MOST_rests : mg "MOST_rests" = some (.int 1000000000000000000000000000000 t_MOST_rests)) : FnG P w K mg base (L2.CX P w) 4 f fd ["number"] (spNeed1 K er (-BIG) BIG) := by
  refine fnG F sc_need_far (fun vs H Q E h => ?_) (fun cdv A outer s H vs Q E hr hgd h => ?_)
  · obtain ⟨v, rfl, _⟩ := h
    rfl
  · obtain ⟨v, rfl, ht, q1, q2⟩ := h
    have nd := sc_need_far.nd
    refine ⟨_, (pss_one (ps_expr (pe_clx (takes_of rfl rfl rfl rfl) (fun _ _ _ _ h => h) c_need_between hr hgd (by decide) rfl (pa_cons (pv 0) (pa_cons (pe_op op_sub pe_int (pe_gi rfl m_MOST_rests)) (pa_cons (pe_gi rfl m_MOST_rests) pa_nil)))))), ?_⟩
    walk_at "rd"
    exact ⟨v, -BIG, BIG, rfl, ht, q1, q2⟩
abbrev s_common : Stmt := top 10
theorem sc_common : FnScope ["one", "other"] ["one", "other"] (defScope s_common) := ⟨rfl, rfl, rfl, by decide +kernel, rfl, by decide +kernel, by decide +kernel⟩
theorem ok_common {f : Addr} {fd : FuncData} (F : Fun K "common" "common" s_common f fd) (z_abs : mg "abs" = none) : FnG P w K mg base CX0 1 f fd ["one", "other"] (spCommon) := by
  refine fnG0 F sc_common (fun vs H Q E h => ?_) (fun cdv A outer s H vs Q E hr hgd h => ?_)
  · obtain ⟨a, b, rfl, _⟩ := h
    rfl
  · obtain ⟨a, b, rfl, q⟩ := h
    have nd := sc_common.nd
    refine ⟨_, (pss_cons (ps_par (i := 0) (j := 1) (by rfl) nd rfl rfl (by decide) rfl rfl (pa_cons (pe_callB call_abs (by rfl) z_abs (by decide +kernel) (pa_cons (pv 0) pa_nil)) (pa_cons (pe_callB call_abs (by rfl) z_abs (by decide +kernel) (pa_cons (pv 1) pa_nil)) pa_nil)) (by rfl))
      (pss_cons (ps_while PassesOwn.never (pt_cmpR op_gt (pv 1) pe_int (nomark _))
        (pss_one (ps_par (i := 0) (j := 1) (by rfl) nd rfl rfl (by decide) rfl rfl (pa_cons (pv 1) (pa_cons (pe_op op_mod (pv 0) (pv 1)) pa_nil)) (by rfl))))
      (pss_one (ps_ret (pv 0))))), ?_⟩
    walk_at "rd"
    obtain ⟨W, hW⟩ : ∃ W : Nat → L2.St → Hp → Prop, W = fun m σ H' => ∃ x y : Int, m = y.toNat ∧ σ = [some (V.int x), some (V.int y)] ∧ H' = H ∧ 0 ≤ x ∧ 0 ≤ y ∧ Int.gcd x y = Int.gcd a b := ⟨_, rfl⟩
    have mk : ∀ x y : Int, 0 ≤ x → 0 ≤ y → Int.gcd x y = Int.gcd a b → W y.toNat [some (V.int x), some (V.int y)] H := fun x y h1 h2 h3 => by rw [hW]; exact ⟨x, y, rfl, rfl, rfl, h1, h2, h3⟩
    refine ⟨W, ⟨_, mk _ _ (by split <;> omega) (by split <;> omega) (by split <;> split <;> simp)⟩, fun m σ H' h => ?_⟩
    rw [hW] at h
    obtain ⟨x, y, rfl, rfl, rfl, x0, y0, inv⟩ := h
    walk_at "rd"
    refine decB (fun h0 => ?_) (fun h0 => ?_)
    · refine ⟨_, fun _ _ h => h, h0, ?_⟩
      have := Int.emod_lt_of_pos x h0
      have := Int.emod_nonneg x (show y ≠ 0 by omega)
      exact ⟨_, by omega, mk _ _ y0 this ((GcdN.step x0 y0).trans inv)⟩
    · have : y = 0 := by omega
      subst this
      rw [← inv, Int.gcd_zero_right] at q
      have e : ((x.natAbs : Nat) : Int) = x := by omega
      rw [e] at q
      exact q
abbrev s_prime_parts : Stmt := top 12
theorem sc_prime_parts : FnScope ["number", "found", "left", "prime", "often"] ["number"] (defScope s_prime_parts) := ⟨rfl, rfl, rfl, by decide +kernel, rfl, by decide +kernel, by decide +kernel⟩
theorem ok_prime_parts {f : Addr} {fd : FuncData} (F : Fun K "prime_parts" "prime_parts" s_prime_parts f fd) (z_tuple : mg "tuple" = none) : FnG P w K mg base CX0 1 f fd ["number"] (spParts K) := by
  refine fnG0 F sc_prime_parts (fun vs H Q E h => ?_) (fun cdv A outer s H vs Q E hr hgd h => ?_)
  · obtain ⟨n, rfl, _⟩ := h
    rfl
  · obtain ⟨n, rfl, hn1, hn2, q⟩ := h
    have nd := sc_prime_parts.nd
    refine ⟨_, (pss_cons (ps_set (i := 1) nd rfl (.inl rfl) (pe_lst pa_nil))
      (pss_cons (ps_set (i := 2) nd rfl (.inl rfl) (pv 0))
      (pss_cons (ps_set (i := 3) nd rfl (.inl rfl) pe_int)
      (pss_cons (ps_while PassesOwn.never (pt_cmpR op_le (pe_op op_mulW (pv 3) (pv 3)) (pv 2) (nomark _))
        (pss_cons (ps_set (i := 4) nd rfl (.inl rfl) pe_int)
          (pss_cons (ps_while PassesOwn.never (pt_cmpR op_eq (pe_op op_mod (pv 2) (pv 3)) pe_int (nomark _))
            (pss_cons (ps_set (i := 2) nd rfl (.inl rfl) (pe_op op_fdivW (pv 2) (pv 3)))
              (pss_one (ps_set (i := 4) nd rfl (.inl rfl) (pe_op op_add (pv 4) pe_int)))))
          (pss_cons (ps_if (pt_cmpR op_gt (pv 4) pe_int (nomark _))
            (pss_one (ps_expr (pe_bm PySem.F.plainAttrs_list PySem.F.slot_list_append PySem.F.type_list_append mt_append (pv 1) (pa_cons (pe_tup (pa_cons (pv 3) (pa_cons (pv 4) pa_nil))) pa_nil))))
            pss_nil)
          (pss_one (ps_set (i := 3) nd rfl (.inl rfl) (pe_op op_add (pv 3) pe_int)))))))
      (pss_cons (ps_if (pt_cmpR op_gt (pv 2) pe_int (nomark _))
        (pss_one (ps_expr (pe_bm PySem.F.plainAttrs_list PySem.F.slot_list_append PySem.F.type_list_append mt_append (pv 1) (pa_cons (pe_tup (pa_cons (pv 2) (pa_cons pe_int pa_nil))) pa_nil))))
        pss_nil)
      (pss_one (ps_ret (pe_callTy call_tuple_of (by rfl) z_tuple (by decide +kernel) (pa_cons (pv 1) pa_nil))))))))), ?_⟩
    walk_at "rd"
    intro p hp
    obtain ⟨W, hW⟩ : ∃ W : Nat → L2.St → Hp → Prop, W = fun m σ H' => ∃ (acc : List (Nat × Nat)) (L pr : Nat) (o : Option V) (xs : List V), m = n + 2 - pr ∧ σ = [some (V.int n), some (V.ref p), some (V.int L), some (V.int pr), o] ∧ Same H H' ∧ H' p = some (.lst xs) ∧ DpAll K H' xs (acc.map pairD) ∧ pr ≤ n + 2 ∧ Tried n acc L pr := ⟨_, rfl⟩
    have mk : ∀ (acc : List (Nat × Nat)) (L pr : Nat) (o : Option V) (xs : List V) (H' : Hp), Same H H' → H' p = some (.lst xs) → DpAll K H' xs (acc.map pairD) → pr ≤ n + 2 → Tried n acc L pr → W (n + 2 - pr) [some (V.int n), some (V.ref p), some (V.int L), some (V.int pr), o] H' :=
      fun acc L pr o xs H' h1 h2 h3 h4 h5 => by rw [hW]; exact ⟨acc, L, pr, o, xs, rfl, rfl, h1, h2, h3, h4, h5⟩
    refine ⟨W, ⟨_, mk [] n 2 none [] _ (same_new hp _) upd_same .nil (by omega) (Tried.start hn1)⟩, fun m σ H' h => ?_⟩
    rw [hW] at h
    obtain ⟨acc, L, pr, o, xs, rfl, rfl, sm, hx, dx, hle, T⟩ := h
    have Lle := T.le hn1
    have p2 := T.two
    have len := T.len (show n < 2 ^ 110 by omega)
    have xlen : xs.length = acc.length := by rw [dx.len, List.length_map]
    have snoc : ∀ (H2 : Hp) (t : Addr) (a b : Nat), H2 p = some (.lst xs) → DpAll K H2 xs (acc.map pairD) → H2 t = none →
        DpAll K (upd (upd H2 t (.tup [V.int a, V.int b])) p (.lst (xs ++ [V.ref t]))) (xs ++ [V.ref t]) ((acc ++ [(a, b)]).map pairD) := fun H2 t a b h1 h2 h3 => by
      have s1 := same_new h3 (.tup [V.int a, V.int b])
      have n2 : NL (upd H2 t (.tup [V.int a, V.int b])) _ := NL.lst (s1 _ _ h1) (.lst (xs ++ [V.ref t]))
      rw [List.map_append]
      refine DpAll.snoc ?_ (DpAll.nl n2 (noL_pairs acc) (h2.ext s1))
      exact pair_dp (q := (a, b)) (SqT.of (n2 _ _ upd_same fun _ z => by cases z)) rfl rfl
    have sml : ∀ (H2 : Hp) (t : Addr) (a b : Nat), Same H H2 → H2 p = some (.lst xs) → H2 t = none → Same H (upd (upd H2 t (.tup [V.int a, V.int b])) p (.lst (xs ++ [V.ref t]))) := fun H2 t a b h1 h2 h3 c u e => by
      rw [upd_ne (ne_of_none e hp)]
      exact same_new h3 _ _ _ (h1 _ _ e)
    walk_at "rd"
    refine ⟨mulOk ⟨by omega, by omega⟩ ⟨by omega, by omega⟩, decB (fun h1 => ?_) (fun h1 => ?_)⟩
    · refine ⟨_, fun _ _ h => h, ?_⟩
      have hpL : pr ≤ L := by
        have h2 : pr * pr ≤ L := by exact_mod_cast h1
        exact Nat.le_trans (Nat.le_mul_of_pos_right _ (by omega)) h2
      obtain ⟨W2, hW2⟩ : ∃ W : Nat → L2.St → Hp → Prop, W = fun m σ H2 => ∃ (M e : Nat), m = M ∧ σ = [some (V.int n), some (V.ref p), some (V.int M), some (V.int pr), some (V.int e)] ∧ H2 = H' ∧ L = pr ^ e * M ∧ 1 ≤ M := ⟨_, rfl⟩
      have mk2 : ∀ (M e : Nat), L = pr ^ e * M → 1 ≤ M → W2 M [some (V.int n), some (V.ref p), some (V.int M), some (V.int pr), some (V.int e)] H' := fun M e h1 h2 => by rw [hW2]; exact ⟨M, e, rfl, rfl, rfl, h1, h2⟩
      refine ⟨W2, ⟨_, mk2 L 0 (by simp) T.pos⟩, fun m σ H2 h => ?_⟩
      rw [hW2] at h
      obtain ⟨M, e, em, rfl, rfl, hM, pos2⟩ := h
      walk_at "rd"
      refine ⟨by omega, decB (fun h2 => ?_) (fun h2 => ?_)⟩
      · refine ⟨_, fun _ _ h => h, divOk (by omega) (by omega), ?_⟩
        have h3 : M % pr = 0 := by exact_mod_cast h2
        have h4 : M = pr * (M / pr) := by have := Nat.div_add_mod M pr; omega
        have h5 : 1 ≤ M / pr := by
          rcases Nat.eq_zero_or_pos (M / pr) with z | z
          · rw [z, Nat.mul_zero] at h4; omega
          · exact z
        refine ⟨M / pr, by rw [em]; exact Nat.div_lt_self pos2 p2, mk2 (M / pr) (e + 1) ?_ h5⟩
        rw [Nat.pow_succ, Nat.mul_assoc, ← h4]
        exact hM
      · have hnd : ¬ pr ∣ M := fun z => h2 (by exact_mod_cast Nat.mod_eq_zero_of_dvd z)
        have T2 := T.next hM hnd
        refine decB (fun h3 => ?_) (fun h3 => ?_)
        · refine ⟨tyL hx, fun t ht => ?_⟩
          refine ⟨xs, by rw [upd_ne (ne_of_none hx ht)]; exact hx, by omega, ?_⟩
          rw [if_pos (by omega)] at T2
          exact ⟨_, by omega, mk _ M (pr + 1) _ _ _ (sml _ t pr e sm hx ht) upd_same (snoc _ t pr e hx dx ht) (by omega) T2⟩
        · rw [if_neg (by omega)] at T2
          exact ⟨_, by omega, mk _ M (pr + 1) _ _ _ sm hx dx (by omega) T2⟩
    · have hlt : L < pr * pr := by
        have h2 : ¬ pr * pr ≤ L := fun z => h1 (by exact_mod_cast z)
        omega
      have E := T.last hlt
      have fin : ∀ (H2 : Hp) (ys : List V) (l : List (Nat × Nat)), Parts n l → Same H H2 → H2 p = some (.lst ys) → DpAll K H2 ys (l.map pairD) → ∀ t, H2 t = none → Q (.ref t) (upd H2 t (.tup ys)) := fun H2 ys l h1 h2 h3 h4 t ht =>
        q l _ _ h1 (h2.trans (same_new ht _)) (.tup (SqT.of upd_same) (h4.ext (same_new ht _)))
      refine decB (fun h3 => ?_) (fun h3 => ?_)
      · refine ⟨tyL hx, fun t ht => ?_⟩
        refine ⟨xs, by rw [upd_ne (ne_of_none hx ht)]; exact hx, by omega, ?_⟩
        rw [if_pos (by omega)] at E
        exact ⟨_, .inl ⟨SqL.of upd_same, fin _ _ _ E (sml _ t L 1 sm hx ht) upd_same (snoc _ t L 1 hx dx ht)⟩⟩
      · rw [if_neg (by omega)] at E
        exact ⟨_, .inl ⟨SqL.of hx, fin _ _ _ E sm hx dx⟩⟩
abbrev s_rests_of : Stmt := top 15
theorem sc_rests_of : FnScope ["n", "found", "prime", "often"] ["n"] (defScope s_rests_of) := ⟨rfl, rfl, rfl, by decide +kernel, rfl, by decide +kernel, by decide +kernel⟩
theorem ok_rests_of {f : Addr} {fd : FuncData} (F : Fun K "rests_of" "rests_of" s_rests_of f fd) (c_prime_parts : Cl P w K mg base CX0 1 "prime_parts" (spParts K)) : FnG P w K mg base CX0 2 f fd ["n"] (spRestsOf) := by
  refine fnG0 F sc_rests_of (fun vs H Q E h => ?_) (fun cdv A outer s H vs Q E hr hgd h => ?_)
  · obtain ⟨n, rfl, _⟩ := h
    rfl
  · obtain ⟨n, rfl, hn1, hn2, q⟩ := h
    have nd := sc_rests_of.nd
    refine ⟨_, (pss_cons (ps_set (i := 1) nd rfl (.inl rfl) (pv 0))
      (pss_cons (ps_for PassesOwn.never rfl (pi_tup (pe_cl c_prime_parts hr hgd (by decide) rfl (pa_cons (pv 0) pa_nil))) (pg_tup rfl (pgs_cons (pg_name (i := 2) nd rfl (.inl rfl)) (pgs_cons (pg_name (i := 3) nd rfl (.inl rfl)) pgs_nil)))
        (pss_one (ps_set (i := 1) nd rfl (.inl rfl) (pe_op op_mulW (pe_op op_fdivW (pv 1) (pv 2)) (pe_op op_sub (pv 2) pe_int)))))
      (pss_one (ps_ret (pv 1))))), ?_⟩
    walk_at "rd"
    refine ⟨_, rfl, n, rfl, hn1, by omega, fun l v H1 hp s1 dp => ?_⟩
    obtain ⟨Pv, hP⟩ : ∃ Pv : Nat → L2.St → Hp → Prop, Pv = fun i σ H' => ∃ o1 o2 : Option V, σ = [some (V.int n), some (V.int (phiAt l i : Nat)), o1, o2] ∧ H' = H1 := ⟨_, rfl⟩
    have mk : ∀ (i : Nat) {o1 o2 : Option V} (z : Int), z = (phiAt l i : Nat) → Pv i [some (V.int n), some (V.int z), o1, o2] H1 := fun i _ _ z h1 => by rw [hP, h1]; exact ⟨_, _, rfl, rfl⟩
    refine forParts dp Pv (mk 0 _ (by rw [phiAt_zero, hp.prod])) (fun i σ H' h => ?_) (fun i qq t σ H' hq h ht => ?_) (fun σ H' h => ?_)
    · rw [hP] at h
      obtain ⟨_, _, rfl, rfl⟩ := h
      exact NL.refl _
    · rw [hP] at h
      obtain ⟨p1, p2, rfl, rfl⟩ := h
      have hqp := hp.pr qq (List.mem_of_getElem? hq)
      have b1 := phiAt_le hp.pr i
      rw [hp.prod] at b1
      have b2 := hqp.1.two
      have b4 : qq.1 ≤ n := by
        have h1 := mem_dvd (List.mem_of_getElem? hq)
        rw [hp.prod] at h1
        have h2 : qq.1 ∣ qq.1 ^ qq.2 := by
          have := Nat.pow_dvd_pow qq.1 hqp.2
          rwa [Nat.pow_one] at this
        exact Nat.le_of_dvd hn1 (Nat.dvd_trans h2 h1)
      refine ⟨t, _, rfl, ht, rfl, ?_⟩
      walk_at "rd"
      have b5 : (phiAt l i : Int) / qq.1 ≤ n := by
        have : phiAt l i / qq.1 ≤ n := Nat.le_trans (Nat.div_le_self _ _) b1
        exact_mod_cast this
      have b6 : 0 ≤ (phiAt l i : Int) / qq.1 := by
        have : 0 ≤ phiAt l i / qq.1 := Nat.zero_le _
        exact_mod_cast this
      refine ⟨divOk (by omega) (by omega), mulOk ⟨by omega, by omega⟩ ⟨by omega, by omega⟩, mk (i + 1) _ ?_⟩
      rw [← phiAt_step hq hqp, Int.natCast_mul, Int.natCast_ediv, Int.natCast_sub hqp.1.pos]
      rfl
    · rw [hP] at h
      obtain ⟨p1, p2, rfl, rfl⟩ := h
      rw [phiAt_end]
      walk_at "rd"
      exact q _ _ hp s1
abbrev s_power_of : Stmt := top 9
theorem sc_power_of : FnScope ["base", "often", "n", "found", "square", "left"] ["base", "often", "n"] (defScope s_power_of) := ⟨rfl, rfl, rfl, by decide +kernel, rfl, by decide +kernel, by decide +kernel⟩
theorem ok_power_of {f : Addr} {fd : FuncData} (F : Fun K "power_of" "power_of" s_power_of f fd)  : FnG P w K mg base CX0 1 f fd ["base", "often", "n"] (spPow) := by
  refine fnG0 F sc_power_of (fun vs H Q E h => ?_) (fun cdv A outer s H vs Q E hr hgd h => ?_)
  · obtain ⟨b, o, n, rfl, _⟩ := h
    rfl
  · obtain ⟨b, o, n, rfl, ho, hn, hm, q⟩ := h
    have nd := sc_power_of.nd
    refine ⟨_, (pss_cons (ps_set (i := 3) nd rfl (.inl rfl) (pe_op op_mod pe_int (pv 2)))
      (pss_cons (ps_set (i := 4) nd rfl (.inl rfl) (pe_op op_mod (pv 0) (pv 2)))
      (pss_cons (ps_set (i := 5) nd rfl (.inl rfl) (pv 1))
      (pss_cons (ps_while PassesOwn.never (pt_cmpR op_gt (pv 5) pe_int (nomark _))
        (pss_cons (ps_if (pt_cmpR op_eq (pe_op op_mod (pv 5) pe_int) pe_int (nomark _))
            (pss_one (ps_set (i := 3) nd rfl (.inl rfl) (pe_op op_mod (pe_op op_mulW (pv 3) (pv 4)) (pv 2))))
            pss_nil)
          (pss_cons (ps_set (i := 4) nd rfl (.inl rfl) (pe_op op_mod (pe_op op_mulW (pv 4) (pv 4)) (pv 2)))
          (pss_one (ps_set (i := 5) nd rfl (.inl rfl) (pe_op op_fdivW (pv 5) pe_int))))))
      (pss_one (ps_ret (pv 3))))))), ?_⟩
    walk_at "rd"
    refine ⟨hn, hn, ?_⟩
    obtain ⟨W, hW⟩ : ∃ W : Nat → L2.St → Hp → Prop, W = fun m σ H' => ∃ f s l : Int, m = l.toNat ∧ σ = [some (V.int b), some (V.int o), some (V.int n), some (V.int f), some (V.int s), some (V.int l)] ∧ H' = H ∧ 0 ≤ l ∧ 0 ≤ f ∧ f < n ∧ 0 ≤ s ∧ s < n ∧ f * s ^ l.toNat % n = b ^ o.toNat % n := ⟨_, rfl⟩
    have mk : ∀ f s l : Int, 0 ≤ l → 0 ≤ f → f < n → 0 ≤ s → s < n → f * s ^ l.toNat % n = b ^ o.toNat % n → W l.toNat [some (V.int b), some (V.int o), some (V.int n), some (V.int f), some (V.int s), some (V.int l)] H :=
      fun f s l h1 h2 h3 h4 h5 h6 => by rw [hW]; exact ⟨f, s, l, rfl, rfl, rfl, h1, h2, h3, h4, h5, h6⟩
    refine ⟨W, ⟨_, mk _ _ _ ho (Int.emod_nonneg _ (by omega)) (Int.emod_lt_of_pos _ hn) (Int.emod_nonneg _ (by omega)) (Int.emod_lt_of_pos _ hn) (PowN.start _ _ _)⟩, fun m σ H' h => ?_⟩
    rw [hW] at h
    obtain ⟨f, s, l, rfl, rfl, rfl, hl, f0, f1, s0, s1, inv⟩ := h
    walk_at "rd"
    have b200 : (2:Int) ^ 200 ≤ 2 ^ 250 := by decide
    have ok : ∀ x y : Int, 0 ≤ x → x < n → 0 ≤ y → y < n → CMulW x y := fun x y h1 h2 h3 h4 => mulOk ⟨by omega, by omega⟩ ⟨by omega, by omega⟩
    refine decB (fun hl0 => ?_) (fun hl0 => ?_)
    · refine ⟨_, fun _ _ h => h, ?_⟩
      have e0 : 0 ≤ l / 2 := by omega
      have lt : (l / 2).toNat < l.toNat := by omega
      refine decB (fun h1 => ?_) (fun h1 => ?_)
      · refine ⟨ok _ _ f0 f1 s0 s1, hn, ok _ _ s0 s1 s0 s1, hn, divOk (by decide) (by decide), ?_⟩
        exact ⟨_, lt, mk _ _ _ e0 (Int.emod_nonneg _ (by omega)) (Int.emod_lt_of_pos _ hn) (Int.emod_nonneg _ (by omega)) (Int.emod_lt_of_pos _ hn) ((PowN.odd hl h1).trans inv)⟩
      · refine ⟨ok _ _ s0 s1 s0 s1, hn, divOk (by decide) (by decide), ?_⟩
        exact ⟨_, lt, mk _ _ _ e0 f0 f1 (Int.emod_nonneg _ (by omega)) (Int.emod_lt_of_pos _ hn) ((PowN.even hl (by omega)).trans inv)⟩
    · have : l = 0 := by omega
      subst this
      rw [Int.toNat_zero, Int.pow_zero, Int.mul_one, Int.emod_eq_of_lt f0 f1] at inv
      rw [← inv] at q
      exact q
abbrev s_order_in : Stmt := top 16
theorem sc_order_in : FnScope ["number", "n", "whole", "found", "prime", "often"] ["number", "n", "whole"] (defScope s_order_in) := ⟨rfl, rfl, rfl, by decide +kernel, rfl, by decide +kernel, by decide +kernel⟩
theorem ok_order_in {f : Addr} {fd : FuncData} (F : Fun K "order_in" "order_in" s_order_in f fd) (c_power_of : Cl P w K mg base CX0 1 "power_of" (spPow)) (c_prime_parts : Cl P w K mg base CX0 1 "prime_parts" (spParts K)) : FnG P w K mg base CX0 2 f fd ["number", "n", "whole"] (spOrderIn) := by
  refine fnG0 F sc_order_in (fun vs H Q E h => ?_) (fun cdv A outer s H vs Q E hr hgd h => ?_)
  · obtain ⟨x, n, w', rfl, _⟩ := h
    rfl
  · obtain ⟨x, n, wh, rfl, hn1, hn2, hw1, hw2, hw, q⟩ := h
    have nd := sc_order_in.nd
    refine ⟨_, (pss_cons (ps_set (i := 3) nd rfl (.inl rfl) (pv 2))
      (pss_cons (ps_for PassesOwn.never rfl (pi_tup (pe_cl c_prime_parts hr hgd (by decide) rfl (pa_cons (pv 2) pa_nil))) (pg_tup rfl (pgs_cons (pg_name (i := 4) nd rfl (.inl rfl)) (pgs_cons (pg_name (i := 5) nd rfl (.inl rfl)) pgs_nil)))
        (pss_one (ps_while PassesOwn.never (PW.pt (pw_and (pt_cmpR op_eq (pe_op op_mod (pv 3) (pv 4)) pe_int (nomark _)) (pw_and1 (pt_cmpR op_eq (pe_cl c_power_of hr hgd (by decide) rfl (pa_cons (pv 0) (pa_cons (pe_op op_fdivW (pv 3) (pv 4)) (pa_cons (pv 1) pa_nil)))) (pe_op op_mod pe_int (pv 1)) (nomark _)))))
            (pss_one (ps_set (i := 3) nd rfl (.inl rfl) (pe_op op_fdivW (pv 3) (pv 4)))))))
      (pss_one (ps_ret (pv 3))))), ?_⟩
    walk_at "rd"
    refine ⟨_, rfl, wh, rfl, hw1, by omega, fun l v H1 hp s1 dp => ?_⟩
    obtain ⟨Good, hGood⟩ : ∃ G : Nat → Nat → Prop, G = fun i f => 1 ≤ f ∧ f ≤ wh ∧ f ∣ wh ∧ x ^ f % n = 1 % n ∧ ∀ qq ∈ l.take i, qq.1 ∣ f → x ^ (f / qq.1) % n ≠ 1 % n := ⟨_, rfl⟩
    obtain ⟨Pv, hP⟩ : ∃ Pv : Nat → L2.St → Hp → Prop, Pv = fun i σ H' => ∃ (f : Nat) (o1 o2 : Option V), σ = [some (V.int x), some (V.int n), some (V.int wh), some (V.int f), o1, o2] ∧ H' = H1 ∧ Good i f := ⟨_, rfl⟩
    have mk : ∀ (i f : Nat) {o1 o2 : Option V}, Good i f → Pv i [some (V.int x), some (V.int n), some (V.int wh), some (V.int f), o1, o2] H1 := fun i f _ _ h1 => by rw [hP]; exact ⟨_, _, _, rfl, rfl, h1⟩
    refine forParts dp Pv (mk 0 wh (by rw [hGood]; exact ⟨hw1, Nat.le_refl _, Nat.dvd_refl _, hw, fun _ z => by simp at z⟩)) (fun i σ H' h => ?_) (fun i qq t σ H' hq h ht => ?_) (fun σ H' h => ?_)
    · rw [hP] at h
      obtain ⟨_, _, _, rfl, rfl, _⟩ := h
      exact NL.refl _
    · rw [hP] at h
      obtain ⟨f, p1, p2, rfl, rfl, g⟩ := h
      have hqp := hp.pr qq (List.mem_of_getElem? hq)
      have pq := hqp.1.two
      have pl := (part_le hw1 hp (List.mem_of_getElem? hq)).1
      refine ⟨t, _, rfl, ht, rfl, ?_⟩
      walk_at "rd"
      obtain ⟨W2, hW2⟩ : ∃ W : Nat → L2.St → Hp → Prop, W = fun m σ H2 => ∃ f : Nat, m = f ∧ σ = [some (V.int x), some (V.int n), some (V.int wh), some (V.int f), some (V.int qq.1), some (V.int qq.2)] ∧ H2 = H' ∧ Good i f := ⟨_, rfl⟩
      have mk2 : ∀ f : Nat, Good i f → W2 f [some (V.int x), some (V.int n), some (V.int wh), some (V.int f), some (V.int qq.1), some (V.int qq.2)] H' := fun f h1 => by rw [hW2]; exact ⟨f, rfl, rfl, rfl, h1⟩
      refine ⟨W2, ⟨_, mk2 f g⟩, fun m σ H2 h => ?_⟩
      rw [hW2] at h
      obtain ⟨f, rfl, rfl, rfl, g⟩ := h
      have g0 := g
      rw [hGood] at g
      obtain ⟨f1, f2, f3, f4, f5⟩ := g
      walk_at "rd"
      have upq : ∀ r ∈ l.take (i + 1), r ∈ l.take i ∨ r = qq := fun r hr => by
        rw [take_snoc hq] at hr
        simpa using hr
      refine ⟨by omega, decB (fun h2 => ?_) (fun h2 => ?_)⟩
      · have h3 : m % qq.1 = 0 := by exact_mod_cast h2
        have h4 : m = qq.1 * (m / qq.1) := by have := Nat.div_add_mod m qq.1; omega
        have h5 : 1 ≤ m / qq.1 := by
          rcases Nat.eq_zero_or_pos (m / qq.1) with z | z
          · rw [z, Nat.mul_zero] at h4; omega
          · exact z
        have h6 : m / qq.1 < m := Nat.div_lt_self f1 (by omega)
        have e1 : ((m : Int) / qq.1) = ((m / qq.1 : Nat) : Int) := (Int.natCast_ediv _ _).symm
        refine ⟨divOk (by omega) (by omega), _, _, _, rfl, by rw [e1]; omega, by omega, by omega, ?_⟩
        rw [e1]
        walk_at "rd"
        have e2 : ((m / qq.1 : Nat) : Int).toNat = m / qq.1 := by omega
        rw [e2]
        refine ⟨by omega, decB (fun h7 => ?_) (fun h7 => ?_)⟩
        · refine ⟨_, fun _ _ h => h, divOk (by omega) (by omega), ?_⟩
          refine ⟨_, h6, mk2 _ ?_⟩
          rw [hGood]
          refine ⟨h5, by omega, Nat.dvd_trans ⟨qq.1, by rw [Nat.mul_comm]; exact h4⟩ f3, h7, fun r hr hd => ?_⟩
          obtain ⟨c, hc⟩ := hd
          have rp := (hp.pr r (List.mem_of_mem_take hr)).1.pos
          have e3 : m / r.1 = qq.1 * c := by
            rw [h4, hc, Nat.mul_left_comm]
            exact Nat.mul_div_cancel_left _ rp
          have e4 : m / qq.1 / r.1 = c := by rw [hc]; exact Nat.mul_div_cancel_left _ rp
          intro z
          rw [e4] at z
          refine f5 r hr ⟨qq.1 * c, by rw [← Nat.mul_left_comm, ← hc]; exact h4⟩ ?_
          rw [e3, Nat.mul_comm]
          exact pow_mul_one z _
        · refine mk (i + 1) m ?_
          rw [hGood]
          refine ⟨f1, f2, f3, f4, fun r hr hd => ?_⟩
          rcases upq r hr with h8 | rfl
          · exact f5 r h8 hd
          · exact h7
      · refine mk (i + 1) m ?_
        rw [hGood]
        refine ⟨f1, f2, f3, f4, fun r hr hd => ?_⟩
        rcases upq r hr with h8 | rfl
        · exact f5 r h8 hd
        · exact absurd (by exact_mod_cast Nat.mod_eq_zero_of_dvd hd) h2
    · rw [hP] at h
      obtain ⟨f, p1, p2, rfl, rfl, g⟩ := h
      rw [hGood, List.take_length] at g
      obtain ⟨f1, f2, f3, f4, f5⟩ := g
      walk_at "rd"
      refine q _ _ (Ord.of_primes f1 f4 fun p pp hd => ?_) f2 s1
      have hd2 : p ∣ pprod l := by rw [hp.prod]; exact Nat.dvd_trans hd f3
      obtain ⟨r, hr, e⟩ := dvd_pprod pp (fun r hr => (hp.pr r hr).1) hd2
      subst e
      exact f5 r hr hd
abbrev s_order_of : Stmt := top 17
theorem sc_order_of : FnScope ["number", "n"] ["number", "n"] (defScope s_order_of) := ⟨rfl, rfl, rfl, by decide +kernel, rfl, by decide +kernel, by decide +kernel⟩
theorem ok_order_of {f : Addr} {fd : FuncData} (F : Fun K "order_of" "order_of" s_order_of f fd) (c_need_between : Cl P w K mg base (L2.CX P w) 3 "need_between" (spNeed K er)) (c_need_far : Cl P w K mg base (L2.CX P w) 4 "need_far" (spNeed1 K er (-BIG) BIG)) (c_common : Cl P w K mg base CX0 1 "common" (spCommon)) (c_rests_of : Cl P w K mg base CX0 2 "rests_of" (spRestsOf)) (c_order_in : Cl P w K mg base CX0 2 "order_in" (spOrderIn)) {t_MOST_orders : Tok} (m_MOST_orders : mg "MOST_orders" = some (.int 1000000000 t_MOST_orders)) : FnG P w K mg base (L2.CX P w) 5 f fd ["number", "n"] (spOrderOf K er) := by
  refine fnG F sc_order_of (fun vs H Q E h => ?_) (fun cdv A outer s H vs Q E hr hgd h => ?_)
  · obtain ⟨va, vb, rfl, _⟩ := h
    rfl
  · obtain ⟨va, vb, rfl, ha, hb, q1, q2⟩ := h
    have nd := sc_order_of.nd
    refine ⟨_, (pss_cons (ps_expr (pe_clx (takes_of rfl rfl rfl rfl) (fun _ _ _ _ h => h) c_need_far hr hgd (by decide) rfl (pa_cons (pv 0) pa_nil)))
      (pss_cons (ps_expr (pe_clx (takes_of rfl rfl rfl rfl) (fun _ _ _ _ h => h) c_need_between hr hgd (by decide) rfl (pa_cons (pv 1) (pa_cons pe_int (pa_cons (pe_gi rfl m_MOST_orders) pa_nil)))))
      (pss_cons (ps_if (pt_cmpR op_ne (pe_cl c_common hr hgd (by decide) rfl (pa_cons (pv 0) (pa_cons (pv 1) pa_nil))) pe_int (nomark _))
        (pss_one (ps_ret pe_non))
        pss_nil)
      (pss_one (ps_ret (pe_cl c_order_in hr hgd (by decide) rfl (pa_cons (pv 0) (pa_cons (pv 1) (pa_cons (pe_cl c_rests_of hr hgd (by decide) rfl (pa_cons (pv 1) pa_nil)) pa_nil))))))))), ?_⟩
    walk_at "rd"
    refine ⟨va, rfl, ha, fun g1 => ?_, fun g => q2 (by rw [g]; rfl)⟩
    refine ⟨vb, 1, 10 ^ 9, rfl, hb, fun g2 => ?_, fun g => q2 (by rw [g1, g]; rfl)⟩
    obtain ⟨x, rfl, a1, a2⟩ := inR_int g1
    obtain ⟨b, rfl, b1, b2⟩ := inR_int g2
    obtain ⟨n, rfl⟩ := Int.eq_ofNat_of_zero_le (show 0 ≤ b by omega)
    obtain ⟨c1, c2⟩ := q1 x n rfl rfl a1 a2 (by omega) (by omega)
    refine ⟨x, n, rfl, ?_⟩
    walk_at "rd"
    refine decN (fun h => ?_) (fun h => ?_)
    · exact c1 fun z => by rw [z] at h; exact h rfl
    · have g : Int.gcd x n = 1 := by
        exact_mod_cast h
      refine ⟨n, rfl, by omega, by omega, fun l H' hp s1 => ?_⟩
      have ph := phi_le hp.pr
      rw [hp.prod] at ph
      exact ⟨x, n, phi l, rfl, by omega, by omega, phi_pos hp.pr, by omega, euler_parts hp g, fun m H2 o hm s2 => c2 g m H2 o (by omega) (s1.trans s2)⟩
abbrev s__law_cell_at : Stmt := top 20
theorem sc__law_cell_at : FnScope ["_law_script", "_law_k"] ["_law_script", "_law_k"] (defScope s__law_cell_at) := ⟨rfl, rfl, rfl, by decide +kernel, rfl, by decide +kernel, by decide +kernel⟩
theorem ok__law_cell_at {f : Addr} {fd : FuncData} (F : Fun K "_law_cell_at" "_law_cell_at" s__law_cell_at f fd) (z_len : mg "len" = none) : FnG P w K mg base CX0 1 f fd ["_law_script", "_law_k"] (spCellAt K) := by
  refine fnG0 F sc__law_cell_at (fun vs H Q E h => ?_) (fun cdv A outer s H vs Q E hr hgd h => ?_)
  · obtain ⟨a, ns, k, rfl, _⟩ := h
    rfl
  · obtain ⟨a, ns, k, rfl, hS, q⟩ := h
    have nd := sc__law_cell_at.nd
    refine ⟨_, (pss_cons (ps_if (pt_cmpR op_lt (pv 1) (pe_callB call_len_seq (by rfl) z_len PySem.boot_len (pa_cons (pv 0) pa_nil)) (nomark _))
        (pss_one (ps_ret (pe_ix ix_list (pv 0) (pv 1) (fun _ _ => rfl))))
        pss_nil)
      (pss_one (ps_ret pe_int))), ?_⟩
    walk_at "rd"
    refine ⟨_, .inl hS, decB (fun h => ?_) (fun _ => q 0)⟩
    rw [List.length_map] at h
    have hk : k < ns.length := by omega
    refine ⟨a, _, k, _, rfl, rfl, hS, atI_nat (by rw [List.getElem?_map, List.getElem?_eq_getElem hk]; rfl), q _⟩
abbrev s__law_state : Stmt := top 21
theorem sc__law_state : FnScope ["_law_script", "_law_k", "_law_cell"] ["_law_script", "_law_k"] (defScope s__law_state) := ⟨rfl, rfl, rfl, by decide +kernel, rfl, by decide +kernel, by decide +kernel⟩
theorem ok__law_state {f : Addr} {fd : FuncData} (F : Fun K "_law_state" "_law_state" s__law_state f fd) (c__law_cell_at : Cl P w K mg base CX0 1 "_law_cell_at" (spCellAt K)) (z_max : mg "max" = none) : FnG P w K mg base CX0 2 f fd ["_law_script", "_law_k"] (spState K) := by
  refine fnG0 F sc__law_state (fun vs H Q E h => ?_) (fun cdv A outer s H vs Q E hr hgd h => ?_)
  · obtain ⟨a, ns, k, rfl, _⟩ := h
    rfl
  · obtain ⟨a, ns, k, rfl, hS, q⟩ := h
    have nd := sc__law_state.nd
    refine ⟨_, (pss_cons (ps_set (i := 2) nd rfl (.inl rfl) (pe_cl c__law_cell_at hr hgd (by decide) rfl (pa_cons (pv 0) (pa_cons (pv 1) pa_nil))))
      (pss_one (ps_ret (pe_lst (pa_cons (pe_callB (call_max2 rfl) (by rfl) z_max (by decide +kernel) (pa_cons pe_int (pa_cons (pe_op op_sub (pv 2) (pe_op op_pow pe_int pe_int)) pa_nil))) (pa_cons (pe_op op_mod (pv 2) pe_int) pa_nil)))))), ?_⟩
    walk_at "rd"
    refine ⟨a, ns, k, rfl, hS, fun z => ?_⟩
    walk_at "rd"
    intro p hp
    exact q p _ hp (same_new hp _) ⟨_, _, upd_same, by split <;> omega, by omega, by omega⟩
abbrev s_many_rests : Stmt := top 18
theorem sc_many_rests : FnScope ["n"] ["n"] (defScope s_many_rests) := ⟨rfl, rfl, rfl, by decide +kernel, rfl, by decide +kernel, by decide +kernel⟩
theorem ok_many_rests {f : Addr} {fd : FuncData} (F : Fun K "many_rests" "many_rests" s_many_rests f fd) (c_need_between : Cl P w K mg base (L2.CX P w) 3 "need_between" (spNeed K er)) (c_rests_of : Cl P w K mg base CX0 2 "rests_of" (spRestsOf)) {t_MOST_orders : Tok} (m_MOST_orders : mg "MOST_orders" = some (.int 1000000000 t_MOST_orders)) : FnG P w K mg base (L2.CX P w) 4 f fd ["n"] (spManyRests K er) := by
  refine fnG F sc_many_rests (fun vs H Q E h => ?_) (fun cdv A outer s H vs Q E hr hgd h => ?_)
  · obtain ⟨v, rfl, _⟩ := h
    rfl
  · obtain ⟨v, rfl, hv, q1, q2⟩ := h
    have nd := sc_many_rests.nd
    refine ⟨_, (pss_cons (ps_expr (pe_clx (takes_of rfl rfl rfl rfl) (fun _ _ _ _ h => h) c_need_between hr hgd (by decide) rfl (pa_cons (pv 0) (pa_cons pe_int (pa_cons (pe_gi rfl m_MOST_orders) pa_nil)))))
      (pss_one (ps_ret (pe_cl c_rests_of hr hgd (by decide) rfl (pa_cons (pv 0) pa_nil))))), ?_⟩
    walk_at "rd"
    refine ⟨v, 1, 10 ^ 9, rfl, hv, fun g => ?_, q2⟩
    obtain ⟨i, rfl, i1, i2⟩ := inR_int g
    obtain ⟨n, rfl⟩ := Int.eq_ofNat_of_zero_le (show 0 ≤ i by omega)
    exact ⟨n, rfl, by omega, by omega, q1 n rfl (by omega) (by omega)⟩
abbrev s__law_choice : Stmt := top 22
theorem sc__law_choice : FnScope ["_law_state_here", "_law_many", "_law_found", "_law_mixed"] ["_law_state_here", "_law_many"] (defScope s__law_choice) := ⟨rfl, rfl, rfl, by decide +kernel, rfl, by decide +kernel, by decide +kernel⟩
theorem ok__law_choice {f : Addr} {fd : FuncData} (F : Fun K "_law_choice" "_law_choice" s__law_choice f fd)  : FnG P w K mg base CX0 1 f fd ["_law_state_here", "_law_many"] (spTake) := by
  refine fnG0 F sc__law_choice (fun vs H Q E h => ?_) (fun cdv A outer s H vs Q E hr hgd h => ?_)
  · obtain ⟨a, m, rfl, _⟩ := h
    rfl
  · obtain ⟨a, m, rfl, ⟨x, y, hx, x0, y0, y1⟩, hm, hm2, q⟩ := h
    have nd := sc__law_choice.nd
    refine ⟨_, (pss_cons (ps_if (pt_cmpR op_gt (pe_ix ix_list (pv 0) pe_int (fun _ _ => rfl)) pe_int (nomark _))
        (pss_cons (ps_set (i := 2) nd rfl (.inl rfl) (pe_op op_mod (pe_ix ix_list (pv 0) pe_int (fun _ _ => rfl)) (pv 1)))
          (pss_cons (ps_asg (pe_op op_fdivW (pe_ix ix_list (pv 0) pe_int (fun _ _ => rfl)) (pv 1)) (pg_sub (pv 0) pe_int set_list))
          (pss_one (ps_ret (pv 2)))))
        pss_nil)
      (pss_cons (ps_asg (pe_op op_mod (pe_op op_add (pe_op op_mulW (pe_ix ix_list (pv 0) pe_int (fun _ _ => rfl)) pe_int) pe_int) pe_int) (pg_sub (pv 0) pe_int set_list))
      (pss_cons (ps_set (i := 3) nd rfl (.inl rfl) (pe_op op_mod (pe_op op_add (pe_op op_add (pe_op op_mulW (pe_ix ix_list (pv 0) pe_int (fun _ _ => rfl)) (pe_ix ix_list (pv 0) pe_int (fun _ _ => rfl))) (pe_op op_mulW pe_int (pe_ix ix_list (pv 0) pe_int (fun _ _ => rfl)))) pe_int) pe_int))
      (pss_cons (ps_set (i := 3) nd rfl (.inl rfl) (pe_op op_mod (pe_op op_add (pe_op op_mulW (pv 3) (pv 3)) (pe_op op_mulW pe_int (pv 3))) pe_int))
      (pss_one (ps_ret (pe_op op_mod (pe_op op_fdivW (pv 3) pe_int) (pv 1)))))))), ?_⟩
    walk_at "rd"
    refine ix0 hx ⟨x, rfl, decB (fun h => ?_) (fun h => ?_)⟩
    · refine ix0 hx ⟨x, rfl, hm, ix0 hx ⟨x, rfl, divOk hm (by omega), st0 hx ?_⟩⟩
      exact q _ _ (Int.emod_nonneg _ (by omega)) (Int.emod_lt_of_pos _ hm) ⟨⟨_, _, upd_same, Int.ediv_nonneg x0 (by omega), y0, y1⟩, fun b o e n => by rw [upd_ne n]; exact e⟩
    · refine ix1 hx ⟨y, rfl, mulOk ⟨by omega, by omega⟩ ⟨by omega, by omega⟩, st1 hx ?_⟩
      have hz0 : 0 ≤ (y * 48271 + 29) % 2147483647 := by omega
      have hz1 : (y * 48271 + 29) % 2147483647 < 2147483647 := by omega
      generalize (y * 48271 + 29) % 2147483647 = z at hz0 hz1 ⊢
      have hx2 : (upd H a (.lst [V.int x, V.int z])) a = some (.lst [V.int x, V.int z]) := upd_same
      refine ix1 hx2 (ix1 hx2 ⟨z, rfl, z, rfl, mulOk ⟨by omega, by omega⟩ ⟨by omega, by omega⟩, ix1 hx2 ⟨z, rfl, mulOk ⟨by omega, by omega⟩ ⟨by omega, by omega⟩, ?_⟩⟩)
      have hs0 : 0 ≤ (z * z + 39373 * z + 7) % 2147483629 := by omega
      have hs1 : (z * z + 39373 * z + 7) % 2147483629 < 2147483629 := by omega
      generalize (z * z + 39373 * z + 7) % 2147483629 = s at hs0 hs1 ⊢
      refine ⟨mulOk ⟨by omega, by omega⟩ ⟨by omega, by omega⟩, mulOk ⟨by omega, by omega⟩ ⟨by omega, by omega⟩, divOk (by omega) (by omega), hm, ?_⟩
      exact q _ _ (Int.emod_nonneg _ (by omega)) (Int.emod_lt_of_pos _ hm) ⟨⟨_, _, upd_same, x0, by omega, by omega⟩, fun b o e n => by rw [upd_ne n]; exact e⟩
abbrev s__law_same : Stmt := top 23
theorem sc__law_same : FnScope ["_law_found", "_law_due"] ["_law_found", "_law_due"] (defScope s__law_same) := ⟨rfl, rfl, rfl, by decide +kernel, rfl, by decide +kernel, by decide +kernel⟩
theorem ok__law_same {f : Addr} {fd : FuncData} (F : Fun K "_law_same" "_law_same" s__law_same f fd) (z_repr : mg "repr" = none) : FnG P w K mg base CX0 1 f fd ["_law_found", "_law_due"] (spSame K) := by
  refine fnG0 F sc__law_same (fun vs H Q E h => ?_) (fun cdv A outer s H vs Q E hr hgd h => ?_)
  · obtain ⟨v, u, d, rfl, _⟩ := h
    rfl
  · obtain ⟨v, u, d, rfl, h1, h2, h3, q⟩ := h
    have nd := sc__law_same.nd
    refine ⟨_, (pss_one (ps_ret (pe_cmpR op_eq (pe_callB (call_reprD hgd hr.units) (by rfl) z_repr (by decide +kernel) (pa_cons (pv 0) pa_nil)) (pe_callB (call_reprD hgd hr.units) (by rfl) z_repr (by decide +kernel) (pa_cons (pv 1) pa_nil)) (nomark _)))), ?_⟩
    walk_at "rd"
    refine ⟨v, d, rfl, h1, h3, u, d, rfl, h2, h3, ?_⟩
    show scal (.str d.shown) (.str d.shown) = true ∧ Q (V.bl (decide (V.str d.shown = V.str d.shown))) H
    exact ⟨rfl, by rw [decide_eq_true rfl]; exact q⟩
abbrev s__law_common : Stmt := top 25
theorem sc__law_common : FnScope ["_law_one", "_law_other"] ["_law_one", "_law_other"] (defScope s__law_common) := ⟨rfl, rfl, rfl, by decide +kernel, rfl, by decide +kernel, by decide +kernel⟩
theorem ok__law_common {f : Addr} {fd : FuncData} (F : Fun K "_law_common" "_law_common" s__law_common f fd) (z_max : mg "max" = none) : FnG P w K mg base CX0 1 f fd ["_law_one", "_law_other"] (spCommon) := by
  refine fnG0 F sc__law_common (fun vs H Q E h => ?_) (fun cdv A outer s H vs Q E hr hgd h => ?_)
  · obtain ⟨a, b, rfl, _⟩ := h
    rfl
  · obtain ⟨a, b, rfl, q⟩ := h
    have nd := sc__law_common.nd
    refine ⟨_, (pss_cons (ps_par (i := 0) (j := 1) (by rfl) nd rfl rfl (by decide) rfl rfl (pa_cons (pe_callB (call_max2 rfl) (by rfl) z_max (by decide +kernel) (pa_cons (pv 0) (pa_cons (pe_op op_sub pe_int (pv 0)) pa_nil))) (pa_cons (pe_callB (call_max2 rfl) (by rfl) z_max (by decide +kernel) (pa_cons (pv 1) (pa_cons (pe_op op_sub pe_int (pv 1)) pa_nil))) pa_nil)) (by rfl))
      (pss_cons (ps_while PassesOwn.never (pt_cmpR op_gt (pv 1) pe_int (nomark _))
        (pss_one (ps_par (i := 0) (j := 1) (by rfl) nd rfl rfl (by decide) rfl rfl (pa_cons (pv 1) (pa_cons (pe_op op_mod (pv 0) (pv 1)) pa_nil)) (by rfl))))
      (pss_one (ps_ret (pv 0))))), ?_⟩
    walk_at "rd"
    obtain ⟨W, hW⟩ : ∃ W : Nat → L2.St → Hp → Prop, W = fun m σ H' => ∃ x y : Int, m = y.toNat ∧ σ = [some (V.int x), some (V.int y)] ∧ H' = H ∧ 0 ≤ x ∧ 0 ≤ y ∧ Int.gcd x y = Int.gcd a b := ⟨_, rfl⟩
    have mk : ∀ x y : Int, 0 ≤ x → 0 ≤ y → Int.gcd x y = Int.gcd a b → W y.toNat [some (V.int x), some (V.int y)] H := fun x y h1 h2 h3 => by rw [hW]; exact ⟨x, y, rfl, rfl, rfl, h1, h2, h3⟩
    have ab : ∀ z : Int, (if 0 - z > z then 0 - z else z) = (z.natAbs : Int) := fun z => by split <;> omega
    rw [ab, ab]
    refine ⟨W, ⟨_, mk _ _ (by omega) (by omega) (by show Nat.gcd _ _ = _; simp [Int.gcd])⟩, fun m σ H' h => ?_⟩
    rw [hW] at h
    obtain ⟨x, y, rfl, rfl, rfl, x0, y0, inv⟩ := h
    walk_at "rd"
    refine decB (fun h0 => ?_) (fun h0 => ?_)
    · refine ⟨_, fun _ _ h => h, h0, ?_⟩
      have := Int.emod_lt_of_pos x h0
      have := Int.emod_nonneg x (show y ≠ 0 by omega)
      exact ⟨_, by omega, mk _ _ y0 this ((GcdN.step x0 y0).trans inv)⟩
    · have : y = 0 := by omega
      subst this
      rw [← inv, Int.gcd_zero_right] at q
      have e : ((x.natAbs : Nat) : Int) = x := by omega
      rw [e] at q
      exact q
abbrev s__law_far : Stmt := top 28
theorem sc__law_far : FnScope ["_law_state_here", "_law_wide"] ["_law_state_here"] (defScope s__law_far) := ⟨rfl, rfl, rfl, by decide +kernel, rfl, by decide +kernel, by decide +kernel⟩
theorem ok__law_far {f : Addr} {fd : FuncData} (F : Fun K "_law_far" "_law_far" s__law_far f fd) (c__law_choice : Cl P w K mg base CX0 1 "_law_choice" (spTake)) : FnG P w K mg base CX0 2 f fd ["_law_state_here"] (spDraw1 (-BIG) BIG) := by
  refine fnG0 F sc__law_far (fun vs H Q E h => ?_) (fun cdv A outer s H vs Q E hr hgd h => ?_)
  · obtain ⟨a, rfl, _⟩ := h
    rfl
  · obtain ⟨a, rfl, hS, q⟩ := h
    have nd := sc__law_far.nd
    refine ⟨_, (pss_cons (ps_set (i := 1) nd rfl (.inl rfl) (pe_ix ix_list (pe_lst (pa_cons pe_int (pa_cons (pe_op op_pow pe_int pe_int) (pa_cons (pe_op op_pow pe_int pe_int) pa_nil)))) (pe_cl c__law_choice hr hgd (by decide) rfl (pa_cons (pv 0) (pa_cons pe_int pa_nil))) (fun _ _ => rfl)))
      (pss_one (ps_ret (pe_op op_sub (pe_cl c__law_choice hr hgd (by decide) rfl (pa_cons (pv 0) (pa_cons (pe_op op_add (pe_op op_mulW pe_int (pv 1)) pe_int) pa_nil))) (pv 1))))), ?_⟩
    walk_at "rd"
    intro p hp
    have np := hS.ne hp
    refine ⟨a, _, rfl, hS.ext (same_new hp _), by decide, by decide, fun r H1 r0 r1 D1 => ?_⟩
    refine memD (SqL.of (D1.keep upd_same np)) r0 r1 fun v hv => ?_
    have hv' : ∃ w : Int, v = .int w ∧ 30 ≤ w ∧ w ≤ 10 ^ 29 := by
      simp only [List.mem_cons, List.not_mem_nil, or_false] at hv
      rcases hv with rfl | rfl | rfl <;> exact ⟨_, rfl, by decide, by decide⟩
    obtain ⟨w, rfl, w0, w1⟩ := hv'
    walk_at "rd"
    refine ⟨mulOk ⟨by omega, by omega⟩ ⟨by omega, by omega⟩, a, _, rfl, D1.1, by omega, by omega, fun r2 H2 ra rb D2 => ?_⟩
    exact ⟨_, rfl, q _ _ (by walk_at "om") (by walk_at "om") (((hS.draw (same_new hp _)).trans D1).trans D2)⟩
abbrev s__law_small_right : Stmt := top 29
theorem sc__law_small_right : FnScope ["_law_state_here", "_law_n", "_law_number", "_law_due", "_law_power_here", "_law_many", "_law_one"] ["_law_state_here"] (defScope s__law_small_right) := ⟨rfl, rfl, rfl, by decide +kernel, rfl, by decide +kernel, by decide +kernel⟩
theorem ok__law_small_right {f : Addr} {fd : FuncData} (F : Fun K "_law_small_right" "_law_small_right" s__law_small_right f fd) (c_order_of : Cl P w K mg base (L2.CX P w) 5 "order_of" (spOrderOf K er)) (c_many_rests : Cl P w K mg base (L2.CX P w) 4 "many_rests" (spManyRests K er)) (c__law_choice : Cl P w K mg base CX0 1 "_law_choice" (spTake)) (c__law_same : Cl P w K mg base CX0 1 "_law_same" (spSame K)) (c__law_common : Cl P w K mg base CX0 1 "_law_common" (spCommon)) (c__law_far : Cl P w K mg base CX0 2 "_law_far" (spDraw1 (-BIG) BIG)) (z_len : mg "len" = none) (z_range : mg "range" = none) : FnG P w K mg base CX0 6 f fd ["_law_state_here"] (spRight) := by
  refine fnG0 F sc__law_small_right (fun vs H Q E h => ?_) (fun cdv A outer s H vs Q E hr hgd h => ?_)
  · obtain ⟨a, rfl, _⟩ := h
    rfl
  · obtain ⟨a, rfl, hS, q⟩ := h
    have nd := sc__law_small_right.nd
    refine ⟨_, (pss_cons (ps_asg (pe_tup (pa_cons (pe_op op_add pe_int (pe_cl c__law_choice hr hgd (by decide) rfl (pa_cons (pv 0) (pa_cons pe_int pa_nil)))) (pa_cons (pe_cl c__law_far hr hgd (by decide) rfl (pa_cons (pv 0) pa_nil)) pa_nil))) (pg_tup rfl (pgs_cons (pg_name (i := 1) nd rfl (.inr rfl)) (pgs_cons (pg_name (i := 2) nd rfl (.inl rfl)) pgs_nil))))
      (pss_cons (ps_set (i := 3) nd rfl (.inl rfl) pe_non)
      (pss_cons (ps_if (pt_cmpR op_eq (pe_cl c__law_common hr hgd (by decide) rfl (pa_cons (pv 2) (pa_cons (pv 1) pa_nil))) pe_int (nomark _))
        (pss_cons (ps_par (i := 3) (j := 4) (by rfl) nd rfl rfl (by decide) rfl rfl (pa_cons pe_int (pa_cons (pe_op op_mod (pv 2) (pv 1)) pa_nil)) (by rfl))
          (pss_one (ps_while PassesOwn.never (pt_cmpR op_ne (pv 4) (pe_op op_mod pe_int (pv 1)) (nomark _))
            (pss_one (ps_par (i := 3) (j := 4) (by rfl) nd rfl rfl (by decide) rfl rfl (pa_cons (pe_op op_add (pv 3) pe_int) (pa_cons (pe_op op_mod (pe_op op_mulW (pv 4) (pv 2)) (pv 1)) pa_nil)) (by rfl))))))
        pss_nil)
      (pss_cons (ps_set (i := 5) nd rfl (.inl rfl) (pe_callB call_len_seq (by rfl) z_len PySem.boot_len (pa_cons (pe_lc (own := [("_law_one", 6)]) (g := gName 6) rfl nd (pi_range2 (by rfl) z_range (pa_cons pe_int (pa_cons (pe_op op_add (pv 1) pe_int) pa_nil))) (blkOk_by (N := ["_law_state_here", "_law_n", "_law_number", "_law_due", "_law_power_here", "_law_many", "_law_one"]) (sc := defScope s__law_small_right) (by decide +kernel)) (fun _ _ _ _ _ => pg_name (i := 6) nd rfl (Or.inl rfl)) (fun _ _ _ _ _ => (pts_one (pt_cmpR op_eq (pe_cl c__law_common hr hgd (by decide) rfl (pa_cons (pv 6) (pa_cons (pv 1) pa_nil))) pe_int (nomark _)))) (fun _ _ _ _ _ => (pv 6))) pa_nil)))
      (pss_one (ps_ret (pe_and (pe_cl c__law_same hr hgd (by decide) rfl (pa_cons (pe_cln c_order_of hr hgd (by decide) rfl (pa_cons (pv 2) (pa_cons (pv 1) pa_nil))) (pa_cons (pv 3) pa_nil))) (pe_one (pe_cl c__law_same hr hgd (by decide) rfl (pa_cons (pe_cln c_many_rests hr hgd (by decide) rfl (pa_cons (pv 1) pa_nil)) (pa_cons (pv 5) pa_nil))))))))))), ?_⟩
    walk_at "rd"
    refine ⟨a, 400, rfl, hS, by decide, by decide, fun r H1 r0 r1 D1 => ⟨_, rfl, a, rfl, D1.1, fun x H2 x1 x2 D2 => ?_⟩⟩
    intro t ht
    obtain ⟨n, hn⟩ : ∃ n : Nat, 1 + r = n := ⟨(1 + r).toNat, by omega⟩
    rw [hn]
    refine ⟨_, SqT.of upd_same, rfl, _, _, rfl, _, _, rfl, rfl, x, n, rfl, ?_⟩
    walk_at "rd"
    have n1 : 1 ≤ n := by omega
    have n4 : n ≤ 400 := by omega
    have DH := (D1.trans D2).same (same_new ht (.tup [V.int n, V.int x]))
    obtain ⟨H3, hH3⟩ : ∃ H3, upd H2 t (HO.tup [V.int n, V.int x]) = H3 := ⟨_, rfl⟩
    rw [hH3] at DH ⊢
    refine decB (fun h => ?_) (fun h => ?_)
    · have g : Int.gcd x n = 1 := by exact_mod_cast h
      obtain ⟨m, hm, mn⟩ : ∃ m, NT.Ord x n m ∧ m ≤ n := small_ord n1 n4 g
      refine ⟨by omega, ?_⟩
      obtain ⟨W, hW⟩ : ∃ W : Nat → L2.St → Hp → Prop, W = fun k σ H' => ∃ i : Nat, k + i = m ∧ 1 ≤ i ∧ i ≤ m ∧ σ = [some (V.ref a), some (V.int n), some (V.int x), some (V.int i), some (V.int (x ^ i % n)), none, none] ∧ H' = H3 := ⟨_, rfl⟩
      have mk : ∀ (i : Nat) (z w : Int), 1 ≤ i → i ≤ m → z = i → w = x ^ i % n → W (m - i) [some (V.ref a), some (V.int n), some (V.int x), some (V.int z), some (V.int w), none, none] H3 := fun i z w h1 h2 h3 h4 => by rw [hW, h3, h4]; exact ⟨i, by omega, h1, h2, rfl, rfl⟩
      refine ⟨W, ⟨_, mk 1 _ _ (by decide) hm.pos rfl (by rw [Int.pow_succ, Int.pow_zero, Int.one_mul])⟩, fun k σ H' h => ?_⟩
      rw [hW] at h
      obtain ⟨i, hk, i1, i2, rfl, rfl⟩ := h
      walk_at "rd"
      refine ⟨by omega, decN (fun h2 => ?_) (fun h2 => ?_)⟩
      · have im : i < m := by
          by_cases z : i = m
          · rw [z] at h2; exact absurd hm.one h2
          · omega
        have := Int.emod_lt_of_pos (x ^ i) (show (0 : Int) < n by omega)
        have := Int.emod_nonneg (x ^ i) (show (n : Int) ≠ 0 by omega)
        refine ⟨_, fun _ _ h => h, mulOk ⟨by omega, by omega⟩ ⟨by walk_at "om", by walk_at "om"⟩, by omega, ?_⟩
        refine ⟨_, by omega, mk (i + 1) _ _ (by omega) (by omega) (by omega) ?_⟩
        rw [Int.pow_succ, Int.mul_emod, Int.emod_emod_of_dvd _ (Int.dvd_refl _), ← Int.mul_emod]
      · have im : i = m := by
          by_cases z : i = m
          · exact z
          · exact absurd h2 (hm.least i i1 (by omega))
        subst im
        obtain ⟨Pv, hP⟩ : ∃ Pv : Nat → Addr → Hp → Prop, Pv = fun i D HH => ∃ xs : List V, HH = upd H' D (.lst xs) ∧ xs.length = NT.cop n i := ⟨_, rfl⟩
        refine ⟨_, rfl, _, _, rfl, rfl, _, _, rfl, ⟨by decide, by decide, by omega, by omega⟩, fun D hD => lc_range (fun i HH => Pv i D HH) (by rw [hP]; exact ⟨[], rfl, rfl⟩) (fun i HH hi h => ?_) (fun HH h => ?_)⟩
        · have hP' := hP
          rw [hP] at h
          obtain ⟨xs, rfl, hx⟩ := h
          walk_at "rd"
          have hcl := NT.cop_le n i
          have e1 : ((Int.gcd (1 + (i : Int)) n : Nat) : Int) = 1 ↔ Nat.gcd (i + 1) n = 1 := by
            have : Int.gcd (1 + (i : Int)) n = Nat.gcd (i + 1) n := by
              show Nat.gcd (1 + (i : Int)).natAbs (n : Int).natAbs = _
              rw [show (1 + (i : Int)).natAbs = i + 1 by omega, Int.natAbs_natCast]
            rw [this]
            omega
          refine ⟨_, _, rfl, ?_⟩
          walk_at "rd"
          refine decB (fun h => ?_) (fun h => ?_)
          · refine ⟨xs, upd_same, by omega, ?_⟩
            rw [hP]
            refine ⟨xs ++ [V.int (1 + i)], by rw [upd_upd], ?_⟩
            rw [List.length_append, hx, NT.cop, if_pos (e1.mp h)]
            rfl
          · rw [hP]
            refine ⟨xs, rfl, ?_⟩
            rw [hx, NT.cop, if_neg (fun z => h (e1.mpr z))]
            rfl
        · rw [hP] at h
          obtain ⟨xs, rfl, hx⟩ := h
          have e2 : ((n : Int) + 1 - 1).toNat = n := by omega
          rw [e2] at hx
          have hcl := NT.cop_le n n
          have s3 := same_new hD (.lst xs)
          refine ⟨D, rfl, xs, .inl (SqL.of upd_same), okOrderOf x1 x2 n1 (by omega) ⟨fun g2 => ?_, fun g2 m2 H4 o2 _ s4 => ?_⟩⟩
          · exact absurd g g2
          · refine okSameI (i := (m2 : Int)) ⟨by omega, by omega⟩ (by rw [o2.uniq hm]) ?_
            refine ⟨true, rfl, ?_⟩
            walk_at "rd"
            refine okManyRests n1 (by omega) fun l H5 hp s5 => ?_
            refine okSameI (j := ((xs.length : Nat) : Int)) (i := ((phi l : Nat) : Int)) ⟨by have := small_phi n1 n4 hp; omega, by have := small_phi n1 n4 hp; omega⟩ (by rw [hx, small_phi n1 n4 hp]) ?_
            exact q _ (DH.same ((s3.trans s4).trans s5))
    · have g : ¬ Int.gcd x n = 1 := fun z => h (by exact_mod_cast z)
      obtain ⟨Pv, hP⟩ : ∃ Pv : Nat → Addr → Hp → Prop, Pv = fun i D HH => ∃ xs : List V, HH = upd H3 D (.lst xs) ∧ xs.length = NT.cop n i := ⟨_, rfl⟩
      refine ⟨_, rfl, _, _, rfl, rfl, _, _, rfl, ⟨by decide, by decide, by omega, by omega⟩, fun D hD => lc_range (fun i HH => Pv i D HH) (by rw [hP]; exact ⟨[], rfl, rfl⟩) (fun i HH hi h => ?_) (fun HH h => ?_)⟩
      · have hP' := hP
        rw [hP] at h
        obtain ⟨xs, rfl, hx⟩ := h
        walk_at "rd"
        have hcl := NT.cop_le n i
        have e1 : ((Int.gcd (1 + (i : Int)) n : Nat) : Int) = 1 ↔ Nat.gcd (i + 1) n = 1 := by
          have : Int.gcd (1 + (i : Int)) n = Nat.gcd (i + 1) n := by
            show Nat.gcd (1 + (i : Int)).natAbs (n : Int).natAbs = _
            rw [show (1 + (i : Int)).natAbs = i + 1 by omega, Int.natAbs_natCast]
          rw [this]
          omega
        refine ⟨_, _, rfl, ?_⟩
        walk_at "rd"
        refine decB (fun h => ?_) (fun h => ?_)
        · refine ⟨xs, upd_same, by omega, ?_⟩
          rw [hP]
          refine ⟨xs ++ [V.int (1 + i)], by rw [upd_upd], ?_⟩
          rw [List.length_append, hx, NT.cop, if_pos (e1.mp h)]
          rfl
        · rw [hP]
          refine ⟨xs, rfl, ?_⟩
          rw [hx, NT.cop, if_neg (fun z => h (e1.mpr z))]
          rfl
      · rw [hP] at h
        obtain ⟨xs, rfl, hx⟩ := h
        have e2 : ((n : Int) + 1 - 1).toNat = n := by omega
        rw [e2] at hx
        have hcl := NT.cop_le n n
        have s3 := same_new hD (.lst xs)
        refine ⟨D, rfl, xs, .inl (SqL.of upd_same), okOrderOf x1 x2 n1 (by omega) ⟨fun g2 => ?_, fun g2 => absurd g2 g⟩⟩
        refine okSameN ⟨true, rfl, ?_⟩
        walk_at "rd"
        refine okManyRests n1 (by omega) fun l H5 hp s5 => ?_
        refine okSameI (j := ((xs.length : Nat) : Int)) (i := ((phi l : Nat) : Int)) ⟨by have := small_phi n1 n4 hp; omega, by have := small_phi n1 n4 hp; omega⟩ (by rw [hx, small_phi n1 n4 hp]) ?_
        exact q _ (DH.same (s3.trans s5))
abbrev s__law_power : Stmt := top 24
theorem sc__law_power : FnScope ["_law_base", "_law_often", "_law_n", "_law_found", "_law_square", "_law_left"] ["_law_base", "_law_often", "_law_n"] (defScope s__law_power) := ⟨rfl, rfl, rfl, by decide +kernel, rfl, by decide +kernel, by decide +kernel⟩
theorem ok__law_power {f : Addr} {fd : FuncData} (F : Fun K "_law_power" "_law_power" s__law_power f fd)  : FnG P w K mg base CX0 1 f fd ["_law_base", "_law_often", "_law_n"] (spPow) := by
  refine fnG0 F sc__law_power (fun vs H Q E h => ?_) (fun cdv A outer s H vs Q E hr hgd h => ?_)
  · obtain ⟨b, o, n, rfl, _⟩ := h
    rfl
  · obtain ⟨b, o, n, rfl, ho, hn, hm, q⟩ := h
    have nd := sc__law_power.nd
    refine ⟨_, (pss_cons (ps_par3 (i := 3) (j := 4) (l := 5) (by rfl) nd rfl rfl rfl (by decide) (by decide) (by decide) rfl rfl rfl (pa_cons (pe_op op_mod pe_int (pv 2)) (pa_cons (pe_op op_mod (pv 0) (pv 2)) (pa_cons (pv 1) pa_nil))) (by rfl))
      (pss_cons (ps_while PassesOwn.never (pt_cmpR op_gt (pv 5) pe_int (nomark _))
        (pss_cons (ps_if (pt_cmpR op_eq (pe_op op_mod (pv 5) pe_int) pe_int (nomark _))
            (pss_one (ps_set (i := 3) nd rfl (.inl rfl) (pe_op op_mod (pe_op op_mulW (pv 3) (pv 4)) (pv 2))))
            pss_nil)
          (pss_one (ps_par (i := 4) (j := 5) (by rfl) nd rfl rfl (by decide) rfl rfl (pa_cons (pe_op op_mod (pe_op op_mulW (pv 4) (pv 4)) (pv 2)) (pa_cons (pe_op op_fdivW (pv 5) pe_int) pa_nil)) (by rfl)))))
      (pss_one (ps_ret (pv 3))))), ?_⟩
    walk_at "rd"
    refine ⟨hn, hn, ?_⟩
    obtain ⟨W, hW⟩ : ∃ W : Nat → L2.St → Hp → Prop, W = fun m σ H' => ∃ f s l : Int, m = l.toNat ∧ σ = [some (V.int b), some (V.int o), some (V.int n), some (V.int f), some (V.int s), some (V.int l)] ∧ H' = H ∧ 0 ≤ l ∧ 0 ≤ f ∧ f < n ∧ 0 ≤ s ∧ s < n ∧ f * s ^ l.toNat % n = b ^ o.toNat % n := ⟨_, rfl⟩
    have mk : ∀ f s l : Int, 0 ≤ l → 0 ≤ f → f < n → 0 ≤ s → s < n → f * s ^ l.toNat % n = b ^ o.toNat % n → W l.toNat [some (V.int b), some (V.int o), some (V.int n), some (V.int f), some (V.int s), some (V.int l)] H :=
      fun f s l h1 h2 h3 h4 h5 h6 => by rw [hW]; exact ⟨f, s, l, rfl, rfl, rfl, h1, h2, h3, h4, h5, h6⟩
    refine ⟨W, ⟨_, mk _ _ _ ho (Int.emod_nonneg _ (by omega)) (Int.emod_lt_of_pos _ hn) (Int.emod_nonneg _ (by omega)) (Int.emod_lt_of_pos _ hn) (PowN.start _ _ _)⟩, fun m σ H' h => ?_⟩
    rw [hW] at h
    obtain ⟨f, s, l, rfl, rfl, rfl, hl, f0, f1, s0, s1, inv⟩ := h
    walk_at "rd"
    have b200 : (2:Int) ^ 200 ≤ 2 ^ 250 := by decide
    have ok : ∀ x y : Int, 0 ≤ x → x < n → 0 ≤ y → y < n → CMulW x y := fun x y h1 h2 h3 h4 => mulOk ⟨by omega, by omega⟩ ⟨by omega, by omega⟩
    refine decB (fun hl0 => ?_) (fun hl0 => ?_)
    · refine ⟨_, fun _ _ h => h, ?_⟩
      have e0 : 0 ≤ l / 2 := by omega
      have lt : (l / 2).toNat < l.toNat := by omega
      refine decB (fun h1 => ?_) (fun h1 => ?_)
      · refine ⟨ok _ _ f0 f1 s0 s1, hn, ok _ _ s0 s1 s0 s1, hn, divOk (by decide) (by decide), ?_⟩
        exact ⟨_, lt, mk _ _ _ e0 (Int.emod_nonneg _ (by omega)) (Int.emod_lt_of_pos _ hn) (Int.emod_nonneg _ (by omega)) (Int.emod_lt_of_pos _ hn) ((PowN.odd hl h1).trans inv)⟩
      · refine ⟨ok _ _ s0 s1 s0 s1, hn, divOk (by decide) (by decide), ?_⟩
        exact ⟨_, lt, mk _ _ _ e0 f0 f1 (Int.emod_nonneg _ (by omega)) (Int.emod_lt_of_pos _ hn) ((PowN.even hl (by omega)).trans inv)⟩
    · have : l = 0 := by omega
      subst this
      rw [Int.toNat_zero, Int.pow_zero, Int.mul_one, Int.emod_eq_of_lt f0 f1] at inv
      rw [← inv] at q
      exact q
abbrev s__law_parts : Stmt := top 26
theorem sc__law_parts : FnScope ["_law_number", "_law_found", "_law_left", "_law_prime", "_law_often"] ["_law_number"] (defScope s__law_parts) := ⟨rfl, rfl, rfl, by decide +kernel, rfl, by decide +kernel, by decide +kernel⟩
theorem ok__law_parts {f : Addr} {fd : FuncData} (F : Fun K "_law_parts" "_law_parts" s__law_parts f fd)  : FnG P w K mg base CX0 1 f fd ["_law_number"] (spPartsLaw K) := by
  refine fnG0 F sc__law_parts (fun vs H Q E h => ?_) (fun cdv A outer s H vs Q E hr hgd h => ?_)
  · obtain ⟨n, rfl, _⟩ := h
    rfl
  · obtain ⟨n, rfl, hn1, hn2, q⟩ := h
    have nd := sc__law_parts.nd
    refine ⟨_, (pss_cons (ps_par3 (i := 1) (j := 2) (l := 3) (by rfl) nd rfl rfl rfl (by decide) (by decide) (by decide) rfl rfl rfl (pa_cons (pe_lst pa_nil) (pa_cons (pv 0) (pa_cons pe_int pa_nil))) (by rfl))
      (pss_cons (ps_while PassesOwn.never (pt_cmpR op_gt (pv 2) pe_int (nomark _))
        (pss_cons (ps_if (pt_cmpR op_gt (pe_op op_mulW (pv 3) (pv 3)) (pv 2) (nomark _))
            (pss_one (ps_set (i := 3) nd rfl (.inl rfl) (pv 2)))
            pss_nil)
          (pss_cons (ps_set (i := 4) nd rfl (.inl rfl) pe_int)
          (pss_cons (ps_while PassesOwn.never (pt_cmpR op_eq (pe_op op_mod (pv 2) (pv 3)) pe_int (nomark _))
            (pss_one (ps_par (i := 2) (j := 4) (by rfl) nd rfl rfl (by decide) rfl rfl (pa_cons (pe_op op_fdivW (pv 2) (pv 3)) (pa_cons (pe_op op_add (pv 4) pe_int) pa_nil)) (by rfl))))
          (pss_cons (ps_if (pt_cmpR op_gt (pv 4) pe_int (nomark _))
            (pss_one (ps_expr (pe_bm PySem.F.plainAttrs_list PySem.F.slot_list_append PySem.F.type_list_append mt_append (pv 1) (pa_cons (pe_tup (pa_cons (pv 3) (pa_cons (pv 4) pa_nil))) pa_nil))))
            pss_nil)
          (pss_one (ps_set (i := 3) nd rfl (.inl rfl) (pe_op op_add (pv 3) pe_int))))))))
      (pss_one (ps_ret (pv 1))))), ?_⟩
    walk_at "rd"
    intro p hp
    obtain ⟨W, hW⟩ : ∃ W : Nat → L2.St → Hp → Prop, W = fun m σ H' => ∃ (acc : List (Nat × Nat)) (L pr : Nat) (o : Option V) (xs : List V), m = n + 2 - pr ∧ σ = [some (V.int n), some (V.ref p), some (V.int L), some (V.int pr), o] ∧ Same H H' ∧ H' p = some (.lst xs) ∧ DpAll K H' xs (acc.map pairD) ∧ pr ≤ n + 2 ∧ Tried n acc L pr := ⟨_, rfl⟩
    have mk : ∀ (acc : List (Nat × Nat)) (L pr : Nat) (o : Option V) (xs : List V) (H' : Hp), Same H H' → H' p = some (.lst xs) → DpAll K H' xs (acc.map pairD) → pr ≤ n + 2 → Tried n acc L pr → W (n + 2 - pr) [some (V.int n), some (V.ref p), some (V.int L), some (V.int pr), o] H' :=
      fun acc L pr o xs H' h1 h2 h3 h4 h5 => by rw [hW]; exact ⟨acc, L, pr, o, xs, rfl, rfl, h1, h2, h3, h4, h5⟩
    refine ⟨W, ⟨_, mk [] n 2 none [] _ (same_new hp _) upd_same .nil (by omega) (Tried.start hn1)⟩, fun m σ H' h => ?_⟩
    rw [hW] at h
    obtain ⟨acc, L, pr, o, xs, rfl, rfl, sm, hx, dx, hle, T⟩ := h
    have Lle := T.le hn1
    have p2 := T.two
    have len := T.len (show n < 2 ^ 110 by omega)
    have xlen : xs.length = acc.length := by rw [dx.len, List.length_map]
    have snoc : ∀ (H2 : Hp) (t : Addr) (a b : Nat), H2 p = some (.lst xs) → DpAll K H2 xs (acc.map pairD) → H2 t = none →
        DpAll K (upd (upd H2 t (.tup [V.int a, V.int b])) p (.lst (xs ++ [V.ref t]))) (xs ++ [V.ref t]) ((acc ++ [(a, b)]).map pairD) := fun H2 t a b h1 h2 h3 => by
      have s1 := same_new h3 (.tup [V.int a, V.int b])
      have n2 : NL (upd H2 t (.tup [V.int a, V.int b])) _ := NL.lst (s1 _ _ h1) (.lst (xs ++ [V.ref t]))
      rw [List.map_append]
      refine DpAll.snoc ?_ (DpAll.nl n2 (noL_pairs acc) (h2.ext s1))
      exact pair_dp (q := (a, b)) (SqT.of (n2 _ _ upd_same fun _ z => by cases z)) rfl rfl
    have sml : ∀ (H2 : Hp) (t : Addr) (a b : Nat), Same H H2 → H2 p = some (.lst xs) → H2 t = none → Same H (upd (upd H2 t (.tup [V.int a, V.int b])) p (.lst (xs ++ [V.ref t]))) := fun H2 t a b h1 h2 h3 c u e => by
      rw [upd_ne (ne_of_none e hp)]
      exact same_new h3 _ _ _ (h1 _ _ e)
    walk_at "rd"
    refine decB (fun h0 => ?_) (fun h0 => ?_)
    · have h0' : 1 < L := by omega
      have mok : CMulW (pr : Int) (pr : Int) := mulOk ⟨by omega, by omega⟩ ⟨by omega, by omega⟩
      refine ⟨_, fun _ _ h => h, mok, decB (fun h1 => ?_) (fun h1 => ?_)⟩
      · have h1' : L < pr * pr := by exact_mod_cast h1
        have TT := T.jump h0' h1'
        have hlp : pr ≤ L := by
          by_cases z : L < pr
          · exact absurd (Nat.dvd_refl L) (T.no L h0' z)
          · omega
        obtain ⟨W2, hW2⟩ : ∃ W : Nat → L2.St → Hp → Prop, W = fun m σ H2 => ∃ (M e : Nat), m = M ∧ σ = [some (V.int n), some (V.ref p), some (V.int M), some (V.int L), some (V.int e)] ∧ H2 = H' ∧ L = L ^ e * M ∧ 1 ≤ M := ⟨_, rfl⟩
        have mk2 : ∀ (M e : Nat), L = L ^ e * M → 1 ≤ M → W2 M [some (V.int n), some (V.ref p), some (V.int M), some (V.int L), some (V.int e)] H' := fun M e h1 h2 => by rw [hW2]; exact ⟨M, e, rfl, rfl, rfl, h1, h2⟩
        refine ⟨W2, ⟨_, mk2 L 0 (by simp) T.pos⟩, fun m σ H2 h => ?_⟩
        rw [hW2] at h
        obtain ⟨M, e, em, rfl, rfl, hM, pos2⟩ := h
        walk_at "rd"
        refine ⟨by omega, decB (fun h2 => ?_) (fun h2 => ?_)⟩
        · refine ⟨_, fun _ _ h => h, divOk (by omega) (by omega), ?_⟩
          have h3 : M % L = 0 := by exact_mod_cast h2
          have h4 : M = L * (M / L) := by have := Nat.div_add_mod M L; omega
          have h5 : 1 ≤ M / L := by
            rcases Nat.eq_zero_or_pos (M / L) with z | z
            · rw [z, Nat.mul_zero] at h4; omega
            · exact z
          refine ⟨M / L, by rw [em]; exact Nat.div_lt_self pos2 (by omega), mk2 (M / L) (e + 1) ?_ h5⟩
          rw [Nat.pow_succ, Nat.mul_assoc, ← h4]
          exact hM
        · have hnd : ¬ L ∣ M := fun z => h2 (by exact_mod_cast Nat.mod_eq_zero_of_dvd z)
          have T2 := TT.next hM hnd
          refine decB (fun h3 => ?_) (fun h3 => ?_)
          · refine ⟨tyL hx, fun t ht => ?_⟩
            refine ⟨xs, by rw [upd_ne (ne_of_none hx ht)]; exact hx, by omega, ?_⟩
            rw [if_pos (by omega)] at T2
            exact ⟨_, by omega, mk _ M (L + 1) _ _ _ (sml _ t L e sm hx ht) upd_same (snoc _ t L e hx dx ht) (by omega) T2⟩
          · rw [if_neg (by omega)] at T2
            exact ⟨_, by omega, mk _ M (L + 1) _ _ _ sm hx dx (by omega) T2⟩
      · have h1' : pr * pr ≤ L := by
          have z : ¬ L < pr * pr := fun z => h1 (by exact_mod_cast z)
          omega
        have TT := T
        have hlp : pr ≤ L := Nat.le_trans (Nat.le_mul_of_pos_right _ (by omega)) h1'
        obtain ⟨W2, hW2⟩ : ∃ W : Nat → L2.St → Hp → Prop, W = fun m σ H2 => ∃ (M e : Nat), m = M ∧ σ = [some (V.int n), some (V.ref p), some (V.int M), some (V.int pr), some (V.int e)] ∧ H2 = H' ∧ L = pr ^ e * M ∧ 1 ≤ M := ⟨_, rfl⟩
        have mk2 : ∀ (M e : Nat), L = pr ^ e * M → 1 ≤ M → W2 M [some (V.int n), some (V.ref p), some (V.int M), some (V.int pr), some (V.int e)] H' := fun M e h1 h2 => by rw [hW2]; exact ⟨M, e, rfl, rfl, rfl, h1, h2⟩
        refine ⟨W2, ⟨_, mk2 L 0 (by simp) T.pos⟩, fun m σ H2 h => ?_⟩
        rw [hW2] at h
        obtain ⟨M, e, em, rfl, rfl, hM, pos2⟩ := h
        walk_at "rd"
        refine ⟨by omega, decB (fun h2 => ?_) (fun h2 => ?_)⟩
        · refine ⟨_, fun _ _ h => h, divOk (by omega) (by omega), ?_⟩
          have h3 : M % pr = 0 := by exact_mod_cast h2
          have h4 : M = pr * (M / pr) := by have := Nat.div_add_mod M pr; omega
          have h5 : 1 ≤ M / pr := by
            rcases Nat.eq_zero_or_pos (M / pr) with z | z
            · rw [z, Nat.mul_zero] at h4; omega
            · exact z
          refine ⟨M / pr, by rw [em]; exact Nat.div_lt_self pos2 (by omega), mk2 (M / pr) (e + 1) ?_ h5⟩
          rw [Nat.pow_succ, Nat.mul_assoc, ← h4]
          exact hM
        · have hnd : ¬ pr ∣ M := fun z => h2 (by exact_mod_cast Nat.mod_eq_zero_of_dvd z)
          have T2 := TT.next hM hnd
          refine decB (fun h3 => ?_) (fun h3 => ?_)
          · refine ⟨tyL hx, fun t ht => ?_⟩
            refine ⟨xs, by rw [upd_ne (ne_of_none hx ht)]; exact hx, by omega, ?_⟩
            rw [if_pos (by omega)] at T2
            exact ⟨_, by omega, mk _ M (pr + 1) _ _ _ (sml _ t pr e sm hx ht) upd_same (snoc _ t pr e hx dx ht) (by omega) T2⟩
          · rw [if_neg (by omega)] at T2
            exact ⟨_, by omega, mk _ M (pr + 1) _ _ _ sm hx dx (by omega) T2⟩
    · have e1 : L = 1 := by have := T.pos; omega
      subst e1
      exact q _ _ _ T.done sm (.lst (SqL.of hx) dx)
abbrev s__law_great_right : Stmt := top 30
theorem sc__law_great_right : FnScope ["_law_state_here", "_law_n", "_law_number", "_law_many", "_law_prime", "_law_often", "_law_found"] ["_law_state_here"] (defScope s__law_great_right) := ⟨rfl, rfl, rfl, by decide +kernel, rfl, by decide +kernel, by decide +kernel⟩
theorem ok__law_great_right {f : Addr} {fd : FuncData} (F : Fun K "_law_great_right" "_law_great_right" s__law_great_right f fd) (c_order_of : Cl P w K mg base (L2.CX P w) 5 "order_of" (spOrderOf K er)) (c_many_rests : Cl P w K mg base (L2.CX P w) 4 "many_rests" (spManyRests K er)) (c__law_choice : Cl P w K mg base CX0 1 "_law_choice" (spTake)) (c__law_same : Cl P w K mg base CX0 1 "_law_same" (spSame K)) (c__law_power : Cl P w K mg base CX0 1 "_law_power" (spPow)) (c__law_common : Cl P w K mg base CX0 1 "_law_common" (spCommon)) (c__law_parts : Cl P w K mg base CX0 1 "_law_parts" (spPartsLaw K)) (c__law_far : Cl P w K mg base CX0 2 "_law_far" (spDraw1 (-BIG) BIG)) (z_bool : mg "bool" = none) (z_isinstance : mg "isinstance" = none) : FnG P w K mg base CX0 6 f fd ["_law_state_here"] (spRight) := by
  refine fnG0 F sc__law_great_right (fun vs H Q E h => ?_) (fun cdv A outer s H vs Q E hr hgd h => ?_)
  · obtain ⟨a, rfl, _⟩ := h
    rfl
  · obtain ⟨a, rfl, hS, q⟩ := h
    have nd := sc__law_great_right.nd
    refine ⟨_, (pss_cons (ps_asg (pe_tup (pa_cons (pe_ix ix_list (pe_lst (pa_cons (pe_op op_pow pe_int pe_int) (pa_cons (pe_op op_sub (pe_op op_sub (pe_op op_pow pe_int pe_int) pe_int) (pe_cl c__law_choice hr hgd (by decide) rfl (pa_cons (pv 0) (pa_cons (pe_op op_pow pe_int pe_int) pa_nil)))) pa_nil))) (pe_cl c__law_choice hr hgd (by decide) rfl (pa_cons (pv 0) (pa_cons pe_int pa_nil))) (fun _ _ => rfl)) (pa_cons (pe_cl c__law_far hr hgd (by decide) rfl (pa_cons (pv 0) pa_nil)) pa_nil))) (pg_tup rfl (pgs_cons (pg_name (i := 1) nd rfl (.inr rfl)) (pgs_cons (pg_name (i := 2) nd rfl (.inr rfl)) pgs_nil))))
      (pss_cons (ps_set (i := 3) nd rfl (.inl rfl) (pv 1))
      (pss_cons (ps_for PassesOwn.never rfl (pi_list (pe_cl c__law_parts hr hgd (by decide) rfl (pa_cons (pv 1) pa_nil))) (pg_tup rfl (pgs_cons (pg_name (i := 4) nd rfl (.inl rfl)) (pgs_cons (pg_name (i := 5) nd rfl (.inl rfl)) pgs_nil)))
        (pss_one (ps_set (i := 3) nd rfl (.inl rfl) (pe_op op_mulW (pe_op op_fdivW (pv 3) (pv 4)) (pe_op op_sub (pv 4) pe_int)))))
      (pss_cons (ps_if (pt_not (pt_val (pe_cl c__law_same hr hgd (by decide) rfl (pa_cons (pe_cln c_many_rests hr hgd (by decide) rfl (pa_cons (pv 1) pa_nil)) (pa_cons (pv 3) pa_nil)))))
        (pss_one (ps_ret pe_bl))
        pss_nil)
      (pss_cons (ps_set (i := 6) nd rfl (.inr rfl) (pe_cln c_order_of hr hgd (by decide) rfl (pa_cons (pv 2) (pa_cons (pv 1) pa_nil))))
      (pss_cons (ps_if (pt_cmpR op_ne (pe_cl c__law_common hr hgd (by decide) rfl (pa_cons (pv 2) (pa_cons (pv 1) pa_nil))) pe_int (nomark _))
        (pss_one (ps_ret (pe_cmpR op_isN (pv 6) pe_non (nomark _))))
        pss_nil)
      (pss_cons (ps_if (PW.pt (pw_or (pt_val (pe_callB call_isi (by rfl) z_isinstance (by decide +kernel) (pa_cons (pv 6) (pa_cons (pe_bltn (v := .ty "bool") (by rfl) z_bool (by decide +kernel) rfl) pa_nil)))) (pw_or (pt_cmpR op_lt (pv 6) pe_int (nomark _)) (pw_or1 (pt_cmpR op_ne (pe_cl c__law_power hr hgd (by decide) rfl (pa_cons (pv 2) (pa_cons (pv 6) (pa_cons (pv 1) pa_nil)))) pe_int (nomark _))))))
        (pss_one (ps_ret pe_bl))
        pss_nil)
      (pss_one (ps_ret (pe_cmpR (op_eqD hr.units) (pe_lc (own := [("_law_prime", 4), ("_law_often", 5)]) (g := gTup _ 2 (gCons (gName 4) (gCons (gName 5) gNil))) rfl nd (pi_list (pe_cl c__law_parts hr hgd (by decide) rfl (pa_cons (pv 6) pa_nil))) (blkOk_by (N := ["_law_state_here", "_law_n", "_law_number", "_law_many", "_law_prime", "_law_often", "_law_found"]) (sc := defScope s__law_great_right) (by decide +kernel)) (fun _ _ _ _ _ => (pg_tup rfl (pgs_cons (pg_name (i := 4) nd rfl (.inl rfl)) (pgs_cons (pg_name (i := 5) nd rfl (.inl rfl)) pgs_nil)))) (fun _ _ _ _ _ => (pts_one (pt_cmpR op_eq (pe_cl c__law_power hr hgd (by decide) rfl (pa_cons (pv 2) (pa_cons (pe_op op_fdivW (pv 6) (pv 4)) (pa_cons (pv 1) pa_nil)))) pe_int (nomark _)))) (fun _ _ _ _ _ => (pv 4))) (pe_lst pa_nil) (nomark _))))))))))), ?_⟩
    walk_at "rd"
    refine ⟨a, _, rfl, hS, by decide, by decide, fun r H1 r0 r1 D1 => ⟨_, rfl, fun p hp => ?_⟩⟩
    have np := D1.ne hp
    have s1 := same_new hp (.lst [V.int 1000000000, V.int (999999999 - r)])
    refine ⟨a, _, rfl, D1.1.ext s1, by decide, by decide, fun r2 H2 ra rb D2 => ?_⟩
    refine memD (SqL.of (D2.keep upd_same np)) ra rb fun v hv => ?_
    have hv' : ∃ n : Nat, v = .int n ∧ 900000000 ≤ n ∧ n ≤ 10 ^ 9 := by
      simp only [List.mem_cons, List.not_mem_nil, or_false] at hv
      rcases hv with rfl | rfl
      · exact ⟨1000000000, rfl, by decide, by decide⟩
      · exact ⟨(999999999 - r).toNat, by rw [Int.toNat_of_nonneg (by omega)], by omega, by omega⟩
    obtain ⟨n, rfl, n1, n9⟩ := hv'
    refine ⟨a, rfl, D2.1, fun x H3 x1 x2 D3 => ?_⟩
    intro t ht
    have DH : Draw a H _ := (((D1.same s1).trans D2).trans D3).same (same_new ht (.tup [V.int n, V.int x]))
    obtain ⟨H4, hH4⟩ : ∃ H4, upd H3 t (HO.tup [V.int n, V.int x]) = H4 := ⟨_, rfl⟩
    have ht4 : H4 t = some (.tup [V.int n, V.int x]) := by rw [← hH4]; exact upd_same
    rw [hH4] at DH ⊢
    refine ⟨_, SqT.of ht4, rfl, _, _, rfl, _, _, rfl, rfl, ?_⟩
    refine ⟨_, rfl, n, rfl, by omega, by omega, fun l v H5 hp s5 dp => ?_⟩
    obtain ⟨Pv, hP⟩ : ∃ Pv : Nat → L2.St → Hp → Prop, Pv = fun i σ H' => ∃ o1 o2 o3 : Option V, σ = [some (V.ref a), some (V.int n), some (V.int x), some (V.int (phiAt l i : Nat)), o1, o2, o3] ∧ H' = H5 := ⟨_, rfl⟩
    have mk : ∀ (i : Nat) {o1 o2 o3 : Option V} (z : Int), z = (phiAt l i : Nat) → Pv i [some (V.ref a), some (V.int n), some (V.int x), some (V.int z), o1, o2, o3] H5 := fun i _ _ _ z h1 => by rw [hP, h1]; exact ⟨_, _, _, rfl, rfl⟩
    refine forPartsL dp Pv (mk 0 _ (by rw [phiAt_zero, hp.prod])) (fun i σ H' h => ?_) (fun i qq t σ H' hq h ht => ?_) (fun σ H' h => ?_)
    · rw [hP] at h
      obtain ⟨_, _, _, rfl, rfl⟩ := h
      exact Same.refl _
    · rw [hP] at h
      obtain ⟨p1, p2, p3, rfl, rfl⟩ := h
      have hqp := hp.pr qq (List.mem_of_getElem? hq)
      have b1 := phiAt_le hp.pr i
      rw [hp.prod] at b1
      have b2 := hqp.1.two
      have b4 := (part_le (by omega) hp (List.mem_of_getElem? hq)).1
      refine ⟨t, _, rfl, ht, rfl, ?_⟩
      walk_at "rd"
      have b5 : (phiAt l i : Int) / qq.1 ≤ n := by
        have : phiAt l i / qq.1 ≤ n := Nat.le_trans (Nat.div_le_self _ _) b1
        exact_mod_cast this
      have b6 : 0 ≤ (phiAt l i : Int) / qq.1 := by
        have : 0 ≤ phiAt l i / qq.1 := Nat.zero_le _
        exact_mod_cast this
      refine ⟨divOk (by omega) (by omega), mulOk ⟨by omega, by omega⟩ ⟨by omega, by omega⟩, mk (i + 1) _ ?_⟩
      rw [← phiAt_step hq hqp, Int.natCast_mul, Int.natCast_ediv, Int.natCast_sub hqp.1.pos]
      rfl
    · rw [hP] at h
      obtain ⟨p1, p2, p3, rfl, rfl⟩ := h
      rw [phiAt_end]
      walk_at "rd"
      refine okManyRests (by omega) n9 fun l2 H6 hp2 s6 => ?_
      have ph := phi_le hp.pr
      rw [hp.prod] at ph
      refine okSameI (i := ((phi l2 : Nat) : Int)) (j := ((phi l : Nat) : Int)) ⟨by rw [hp2.uniq hp]; omega, by rw [hp2.uniq hp]; omega⟩ (by rw [hp2.uniq hp]) ?_
      walk_at "rd"
      have s7 := s5.trans s6
      refine okOrderOf x1 x2 (by omega) n9 ⟨fun g => ?_, fun g m H7 om mn s8 => ?_⟩
      · walk_at "rd"
        refine ⟨_, _, rfl, ?_⟩
        walk_at "rd"
        refine decN (fun h => ?_) (fun h => absurd (by exact_mod_cast h) g)
        exact q _ (DH.same s7)
      · walk_at "rd"
        refine ⟨_, _, rfl, ?_⟩
        walk_at "rd"
        refine decN (fun h => absurd (by exact_mod_cast g) h) (fun h => ?_)
        have tm : Ty K H7 (.int (m : Int)) "int" := .int _
        refine isi tm tm.kBool ⟨false, rfl, ?_⟩
        walk_at "rd"
        have mp := om.pos
        refine decB (fun z => absurd z (by omega)) (fun _ => ?_)
        refine ⟨x, m, n, rfl, by omega, by omega, by omega, ?_⟩
        have e1 : (1 : Int) % n = 1 := Int.emod_eq_of_lt (by decide) (by omega)
        rw [show ((m : Int)).toNat = m by omega, om.one, e1]
        refine ⟨rfl, ?_⟩
        walk_at "rd"
        refine ⟨_, rfl, m, rfl, by omega, by omega, fun l3 v3 H8 hp3 s9 dp3 => ?_⟩
        refine lcPartsL dp3 (fun D _ H' => H' = upd H8 D (.lst [])) (fun D hD => rfl) (fun D hD i H' h => by rw [h]; exact same_new hD _) (fun D hD i qq t H' hq h ht => ?_) (fun D hD H' h => ?_)
        · have hqp := hp3.pr qq (List.mem_of_getElem? hq)
          have pq := hqp.1.two
          have pl := (part_le (by omega) hp3 (List.mem_of_getElem? hq)).1
          refine ⟨t, _, rfl, ht, rfl, ?_⟩
          walk_at "rd"
          have e2 : ((m : Int) / qq.1) = ((m / qq.1 : Nat) : Int) := (Int.natCast_ediv _ _).symm
          have e3 : 1 ≤ m / qq.1 := Nat.div_pos pl hqp.1.pos
          have e4 : m / qq.1 < m := Nat.div_lt_self mp (by omega)
          refine ⟨divOk (by omega) (by omega), x, _, n, rfl, by rw [e2]; omega, by omega, by omega, ?_⟩
          rw [e2, show ((m / qq.1 : Nat) : Int).toNat = m / qq.1 by omega]
          refine ⟨rfl, ?_⟩
          have ne : ¬ x ^ (m / qq.1) % n = 1 := fun z => om.least _ e3 e4 (z.trans e1.symm)
          simp only [V.int.injEq, ne, decide_false, Bool.false_eq_true, if_false]
          exact h
        · subst h
          intro p2 hp2
          have s10 := same_new hD (.lst [])
          have s11 := same_new hp2 (.lst [])
          refine ⟨.list [], .list [], .lst (SqL.of (s11 _ _ upd_same)) .nil, .lst (SqL.of upd_same) .nil, by decide, by decide, ?_⟩
          exact q _ (DH.same ((s7.trans s8).trans (s9.trans (s10.trans s11))))
abbrev s_law : Stmt := top 31
theorem sc_law : FnScope ["_law_script", "_law_k", "_law_state_here"] ["_law_script"] (defScope s_law) := ⟨rfl, rfl, rfl, by decide +kernel, rfl, by decide +kernel, by decide +kernel⟩
theorem ok_law {f : Addr} {fd : FuncData} (F : Fun K "law" "law" s_law f fd) (c_order_of : Cl P w K mg base (L2.CX P w) 5 "order_of" (spOrderOf K er)) (c__law_state : Cl P w K mg base CX0 2 "_law_state" (spState K)) (c__law_small_right : Cl P w K mg base CX0 6 "_law_small_right" (spRight)) (c__law_great_right : Cl P w K mg base CX0 6 "_law_great_right" (spRight)) (z_len : mg "len" = none) (z_max : mg "max" = none) (z_min : mg "min" = none) (z_range : mg "range" = none) : FnG P w K mg base CX0 7 f fd ["_law_script"] (spLaw K) := by
  refine fnG0 F sc_law (fun vs H Q E h => ?_) (fun cdv A outer s H vs Q E hr hgd h => ?_)
  · obtain ⟨a, ns, rfl, _⟩ := h
    rfl
  · obtain ⟨a, ns, rfl, hS, hlen, q⟩ := h
    have nd := sc_law.nd
    refine ⟨_, (pss_cons (ps_for PassesOwn.never rfl (pi_range1 (by rfl) z_range (pa_cons (pe_callB (call_max2 rfl) (by rfl) z_max (by decide +kernel) (pa_cons pe_int (pa_cons (pe_callB (call_min2 rfl) (by rfl) z_min (by decide +kernel) (pa_cons (pe_callB call_len_seq (by rfl) z_len PySem.boot_len (pa_cons (pv 0) pa_nil)) (pa_cons pe_int pa_nil))) pa_nil))) pa_nil)) (pg_name (i := 1) nd rfl (.inl rfl))
        (pss_cons (ps_set (i := 2) nd rfl (.inl rfl) (pe_cl c__law_state hr hgd (by decide) rfl (pa_cons (pv 0) (pa_cons (pv 1) pa_nil))))
          (pss_one (ps_if (PW.pt (pw_or (pt_not (pt_val (pe_cl c__law_small_right hr hgd (by decide) rfl (pa_cons (pv 2) pa_nil)))) (pw_or (pt_not (pt_val (pe_cl c__law_small_right hr hgd (by decide) rfl (pa_cons (pv 2) pa_nil)))) (pw_or1 (pt_not (pt_val (pe_cl c__law_great_right hr hgd (by decide) rfl (pa_cons (pv 2) pa_nil))))))))
            (pss_one (ps_ret pe_bl))
            pss_nil))))
      (pss_one (ps_ret (pe_and (pe_cmpR op_eq (pe_cln c_order_of hr hgd (by decide) rfl (pa_cons pe_int (pa_cons pe_int pa_nil))) pe_int (nomark _)) (pe_and (pe_cmpR op_eq (pe_cln c_order_of hr hgd (by decide) rfl (pa_cons pe_int (pa_cons pe_int pa_nil))) pe_int (nomark _)) (pe_and (pe_cmpR op_eq (pe_cln c_order_of hr hgd (by decide) rfl (pa_cons pe_int (pa_cons pe_int pa_nil))) pe_int (nomark _)) (pe_one (pe_cmpR op_isN (pe_cln c_order_of hr hgd (by decide) rfl (pa_cons pe_int (pa_cons pe_int pa_nil))) pe_non (nomark _))))))))), ?_⟩
    obtain ⟨Pv, hP⟩ : ∃ Pv : Nat → L2.St → Hp → Prop, Pv = fun _ σ H' => ∃ o1 o2 : Option V, σ = [some (V.ref a), o1, o2] ∧ Same H H' := ⟨_, rfl⟩
    have mk : ∀ {i : Nat} {o1 o2 : Option V} {H' : Hp}, Same H H' → Pv i [some (V.ref a), o1, o2] H' := fun h => by rw [hP]; exact ⟨_, _, rfl, h⟩
    refine lawFor (K := K) (c := 5) Pv hS rfl (by rw [List.length_map]; omega) (by decide) (by decide) (mk (Same.refl H)) (fun i σ H1 h => ?_) (fun i σ H1 h => ?_)
    · rw [hP] at h
      obtain ⟨o1, o2, rfl, sm⟩ := h
      walk_at "rd"
      refine ⟨a, ns, i, rfl, sm.seq hS, fun p H2 np s2 st2 => ?_⟩
      have np0 : H p = none := sm.free np
      have s2 : Same H H2 := sm.trans s2
      refine ⟨p, rfl, st2, fun H3 D3 => ?_⟩
      refine ⟨true, rfl, ?_⟩
      walk_at "rd"
      refine ⟨p, rfl, D3.1, fun H4 D4 => ⟨true, rfl, ?_⟩⟩
      walk_at "rd"
      refine ⟨p, rfl, D4.1, fun H5 D5 => ⟨true, rfl, ?_⟩⟩
      walk_at "rd"
      exact mk (((s2.draw np0 D3).draw np0 D4).draw np0 D5)
    · rw [hP] at h
      obtain ⟨o1, o2, rfl, sm⟩ := h
      walk_at "rd"
      have o1 : ∀ x : Int, NT.Ord x 1 1 := fun x => ⟨by decide, by rw [Int.emod_one, Int.emod_one], fun j h1 h2 => by omega⟩
      have o2 : NT.Ord 10 7 6 := ⟨by decide, by decide, fun j h1 h2 => by
        have : j = 1 ∨ j = 2 ∨ j = 3 ∨ j = 4 ∨ j = 5 := by omega
        rcases this with rfl | rfl | rfl | rfl | rfl <;> decide⟩
      refine okOrderOf (n := 1) (by walk_at "om") (by walk_at "om") (by omega) (by omega) ⟨fun g => absurd (by decide) g, fun g m H2 om mn s2 => ?_⟩
      rw [om.uniq (o1 5)]
      refine ⟨rfl, iteT' (by decide) ?_⟩
      refine okOrderOf (n := 1) (by walk_at "om") (by walk_at "om") (by omega) (by omega) ⟨fun g => absurd (by decide) g, fun g m H3 om mn s3 => ?_⟩
      rw [om.uniq (o1 0)]
      refine ⟨rfl, iteT' (by decide) ?_⟩
      refine okOrderOf (n := 7) (by walk_at "om") (by walk_at "om") (by omega) (by omega) ⟨fun g => absurd (by decide) g, fun g m H4 om mn s4 => ?_⟩
      rw [om.uniq o2]
      refine ⟨rfl, iteT' (by decide) ?_⟩
      refine okOrderOf (n := 9) (by walk_at "om") (by walk_at "om") (by omega) (by omega) ⟨fun g => ?_, fun g => absurd g (by decide)⟩
      exact q _
end
theorem all_mk {l : PySem.W.OpenLaw} {w : World} {K : PySem.W.Frag} {h : Heap} {mg : Str → Option Value} {fa : Addr} (X : K.In h) (G : h.Ns mainGlobals mg) (hfa : mg "law" = some (.ref fa))
    {f0 : Addr} {od0 an0 : Option Addr} {sl0 : Array (Option Value)} {oc0 kV0 dc0 pm0 cd0 ct0 : Value}
    (a0 : PySem.W.nsIn K mainGlobals "is_whole" = some (some (.ref f0))) (l0 : K.lookup f0 = some ⟨oc0, od0, .func (PySem.W.fnOf "is_whole" "is_whole" (defArgs s_is_whole) (defBody s_is_whole) (defScope s_is_whole) .none kV0 dc0 pm0 an0 cd0 ct0), sl0⟩) (c0 : PySem.W.codeIn K cd0 "is_whole" = true) (k0 : PySem.W.keepIn K (.ref f0) = true)
    {f1 : Addr} {od1 an1 : Option Addr} {sl1 : Array (Option Value)} {oc1 kV1 dc1 pm1 cd1 ct1 : Value}
    (a1 : PySem.W.nsIn K mainGlobals "is_between" = some (some (.ref f1))) (l1 : K.lookup f1 = some ⟨oc1, od1, .func (PySem.W.fnOf "is_between" "is_between" (defArgs s_is_between) (defBody s_is_between) (defScope s_is_between) .none kV1 dc1 pm1 an1 cd1 ct1), sl1⟩) (c1 : PySem.W.codeIn K cd1 "is_between" = true) (k1 : PySem.W.keepIn K (.ref f1) = true)
    {f2 : Addr} {od2 an2 : Option Addr} {sl2 : Array (Option Value)} {oc2 kV2 dc2 pm2 cd2 ct2 : Value}
    (a2 : PySem.W.nsIn K mainGlobals "need_between" = some (some (.ref f2))) (l2 : K.lookup f2 = some ⟨oc2, od2, .func (PySem.W.fnOf "need_between" "need_between" (defArgs s_need_between) (defBody s_need_between) (defScope s_need_between) .none kV2 dc2 pm2 an2 cd2 ct2), sl2⟩) (c2 : PySem.W.codeIn K cd2 "need_between" = true) (k2 : PySem.W.keepIn K (.ref f2) = true)
    {f3 : Addr} {od3 an3 : Option Addr} {sl3 : Array (Option Value)} {oc3 kV3 dc3 pm3 cd3 ct3 : Value}
    (a3 : PySem.W.nsIn K mainGlobals "need_far" = some (some (.ref f3))) (l3 : K.lookup f3 = some ⟨oc3, od3, .func (PySem.W.fnOf "need_far" "need_far" (defArgs s_need_far) (defBody s_need_far) (defScope s_need_far) .none kV3 dc3 pm3 an3 cd3 ct3), sl3⟩) (c3 : PySem.W.codeIn K cd3 "need_far" = true) (k3 : PySem.W.keepIn K (.ref f3) = true)
    {f4 : Addr} {od4 an4 : Option Addr} {sl4 : Array (Option Value)} {oc4 kV4 dc4 pm4 cd4 ct4 : Value}
    (a4 : PySem.W.nsIn K mainGlobals "common" = some (some (.ref f4))) (l4 : K.lookup f4 = some ⟨oc4, od4, .func (PySem.W.fnOf "common" "common" (defArgs s_common) (defBody s_common) (defScope s_common) .none kV4 dc4 pm4 an4 cd4 ct4), sl4⟩) (c4 : PySem.W.codeIn K cd4 "common" = true) (k4 : PySem.W.keepIn K (.ref f4) = true)
    {f5 : Addr} {od5 an5 : Option Addr} {sl5 : Array (Option Value)} {oc5 kV5 dc5 pm5 cd5 ct5 : Value}
    (a5 : PySem.W.nsIn K mainGlobals "prime_parts" = some (some (.ref f5))) (l5 : K.lookup f5 = some ⟨oc5, od5, .func (PySem.W.fnOf "prime_parts" "prime_parts" (defArgs s_prime_parts) (defBody s_prime_parts) (defScope s_prime_parts) .none kV5 dc5 pm5 an5 cd5 ct5), sl5⟩) (c5 : PySem.W.codeIn K cd5 "prime_parts" = true) (k5 : PySem.W.keepIn K (.ref f5) = true)
    {f6 : Addr} {od6 an6 : Option Addr} {sl6 : Array (Option Value)} {oc6 kV6 dc6 pm6 cd6 ct6 : Value}
    (a6 : PySem.W.nsIn K mainGlobals "rests_of" = some (some (.ref f6))) (l6 : K.lookup f6 = some ⟨oc6, od6, .func (PySem.W.fnOf "rests_of" "rests_of" (defArgs s_rests_of) (defBody s_rests_of) (defScope s_rests_of) .none kV6 dc6 pm6 an6 cd6 ct6), sl6⟩) (c6 : PySem.W.codeIn K cd6 "rests_of" = true) (k6 : PySem.W.keepIn K (.ref f6) = true)
    {f7 : Addr} {od7 an7 : Option Addr} {sl7 : Array (Option Value)} {oc7 kV7 dc7 pm7 cd7 ct7 : Value}
    (a7 : PySem.W.nsIn K mainGlobals "power_of" = some (some (.ref f7))) (l7 : K.lookup f7 = some ⟨oc7, od7, .func (PySem.W.fnOf "power_of" "power_of" (defArgs s_power_of) (defBody s_power_of) (defScope s_power_of) .none kV7 dc7 pm7 an7 cd7 ct7), sl7⟩) (c7 : PySem.W.codeIn K cd7 "power_of" = true) (k7 : PySem.W.keepIn K (.ref f7) = true)
    {f8 : Addr} {od8 an8 : Option Addr} {sl8 : Array (Option Value)} {oc8 kV8 dc8 pm8 cd8 ct8 : Value}
    (a8 : PySem.W.nsIn K mainGlobals "order_in" = some (some (.ref f8))) (l8 : K.lookup f8 = some ⟨oc8, od8, .func (PySem.W.fnOf "order_in" "order_in" (defArgs s_order_in) (defBody s_order_in) (defScope s_order_in) .none kV8 dc8 pm8 an8 cd8 ct8), sl8⟩) (c8 : PySem.W.codeIn K cd8 "order_in" = true) (k8 : PySem.W.keepIn K (.ref f8) = true)
    {f9 : Addr} {od9 an9 : Option Addr} {sl9 : Array (Option Value)} {oc9 kV9 dc9 pm9 cd9 ct9 : Value}
    (a9 : PySem.W.nsIn K mainGlobals "order_of" = some (some (.ref f9))) (l9 : K.lookup f9 = some ⟨oc9, od9, .func (PySem.W.fnOf "order_of" "order_of" (defArgs s_order_of) (defBody s_order_of) (defScope s_order_of) .none kV9 dc9 pm9 an9 cd9 ct9), sl9⟩) (c9 : PySem.W.codeIn K cd9 "order_of" = true) (k9 : PySem.W.keepIn K (.ref f9) = true)
    {f10 : Addr} {od10 an10 : Option Addr} {sl10 : Array (Option Value)} {oc10 kV10 dc10 pm10 cd10 ct10 : Value}
    (a10 : PySem.W.nsIn K mainGlobals "_law_cell_at" = some (some (.ref f10))) (l10 : K.lookup f10 = some ⟨oc10, od10, .func (PySem.W.fnOf "_law_cell_at" "_law_cell_at" (defArgs s__law_cell_at) (defBody s__law_cell_at) (defScope s__law_cell_at) .none kV10 dc10 pm10 an10 cd10 ct10), sl10⟩) (c10 : PySem.W.codeIn K cd10 "_law_cell_at" = true) (k10 : PySem.W.keepIn K (.ref f10) = true)
    {f11 : Addr} {od11 an11 : Option Addr} {sl11 : Array (Option Value)} {oc11 kV11 dc11 pm11 cd11 ct11 : Value}
    (a11 : PySem.W.nsIn K mainGlobals "_law_state" = some (some (.ref f11))) (l11 : K.lookup f11 = some ⟨oc11, od11, .func (PySem.W.fnOf "_law_state" "_law_state" (defArgs s__law_state) (defBody s__law_state) (defScope s__law_state) .none kV11 dc11 pm11 an11 cd11 ct11), sl11⟩) (c11 : PySem.W.codeIn K cd11 "_law_state" = true) (k11 : PySem.W.keepIn K (.ref f11) = true)
    {f12 : Addr} {od12 an12 : Option Addr} {sl12 : Array (Option Value)} {oc12 kV12 dc12 pm12 cd12 ct12 : Value}
    (a12 : PySem.W.nsIn K mainGlobals "many_rests" = some (some (.ref f12))) (l12 : K.lookup f12 = some ⟨oc12, od12, .func (PySem.W.fnOf "many_rests" "many_rests" (defArgs s_many_rests) (defBody s_many_rests) (defScope s_many_rests) .none kV12 dc12 pm12 an12 cd12 ct12), sl12⟩) (c12 : PySem.W.codeIn K cd12 "many_rests" = true) (k12 : PySem.W.keepIn K (.ref f12) = true)
    {f13 : Addr} {od13 an13 : Option Addr} {sl13 : Array (Option Value)} {oc13 kV13 dc13 pm13 cd13 ct13 : Value}
    (a13 : PySem.W.nsIn K mainGlobals "_law_choice" = some (some (.ref f13))) (l13 : K.lookup f13 = some ⟨oc13, od13, .func (PySem.W.fnOf "_law_choice" "_law_choice" (defArgs s__law_choice) (defBody s__law_choice) (defScope s__law_choice) .none kV13 dc13 pm13 an13 cd13 ct13), sl13⟩) (c13 : PySem.W.codeIn K cd13 "_law_choice" = true) (k13 : PySem.W.keepIn K (.ref f13) = true)
    {f14 : Addr} {od14 an14 : Option Addr} {sl14 : Array (Option Value)} {oc14 kV14 dc14 pm14 cd14 ct14 : Value}
    (a14 : PySem.W.nsIn K mainGlobals "_law_same" = some (some (.ref f14))) (l14 : K.lookup f14 = some ⟨oc14, od14, .func (PySem.W.fnOf "_law_same" "_law_same" (defArgs s__law_same) (defBody s__law_same) (defScope s__law_same) .none kV14 dc14 pm14 an14 cd14 ct14), sl14⟩) (c14 : PySem.W.codeIn K cd14 "_law_same" = true) (k14 : PySem.W.keepIn K (.ref f14) = true)
    {f15 : Addr} {od15 an15 : Option Addr} {sl15 : Array (Option Value)} {oc15 kV15 dc15 pm15 cd15 ct15 : Value}
    (a15 : PySem.W.nsIn K mainGlobals "_law_common" = some (some (.ref f15))) (l15 : K.lookup f15 = some ⟨oc15, od15, .func (PySem.W.fnOf "_law_common" "_law_common" (defArgs s__law_common) (defBody s__law_common) (defScope s__law_common) .none kV15 dc15 pm15 an15 cd15 ct15), sl15⟩) (c15 : PySem.W.codeIn K cd15 "_law_common" = true) (k15 : PySem.W.keepIn K (.ref f15) = true)
    {f16 : Addr} {od16 an16 : Option Addr} {sl16 : Array (Option Value)} {oc16 kV16 dc16 pm16 cd16 ct16 : Value}
    (a16 : PySem.W.nsIn K mainGlobals "_law_far" = some (some (.ref f16))) (l16 : K.lookup f16 = some ⟨oc16, od16, .func (PySem.W.fnOf "_law_far" "_law_far" (defArgs s__law_far) (defBody s__law_far) (defScope s__law_far) .none kV16 dc16 pm16 an16 cd16 ct16), sl16⟩) (c16 : PySem.W.codeIn K cd16 "_law_far" = true) (k16 : PySem.W.keepIn K (.ref f16) = true)
    {f17 : Addr} {od17 an17 : Option Addr} {sl17 : Array (Option Value)} {oc17 kV17 dc17 pm17 cd17 ct17 : Value}
    (a17 : PySem.W.nsIn K mainGlobals "_law_small_right" = some (some (.ref f17))) (l17 : K.lookup f17 = some ⟨oc17, od17, .func (PySem.W.fnOf "_law_small_right" "_law_small_right" (defArgs s__law_small_right) (defBody s__law_small_right) (defScope s__law_small_right) .none kV17 dc17 pm17 an17 cd17 ct17), sl17⟩) (c17 : PySem.W.codeIn K cd17 "_law_small_right" = true) (k17 : PySem.W.keepIn K (.ref f17) = true)
    {f18 : Addr} {od18 an18 : Option Addr} {sl18 : Array (Option Value)} {oc18 kV18 dc18 pm18 cd18 ct18 : Value}
    (a18 : PySem.W.nsIn K mainGlobals "_law_power" = some (some (.ref f18))) (l18 : K.lookup f18 = some ⟨oc18, od18, .func (PySem.W.fnOf "_law_power" "_law_power" (defArgs s__law_power) (defBody s__law_power) (defScope s__law_power) .none kV18 dc18 pm18 an18 cd18 ct18), sl18⟩) (c18 : PySem.W.codeIn K cd18 "_law_power" = true) (k18 : PySem.W.keepIn K (.ref f18) = true)
    {f19 : Addr} {od19 an19 : Option Addr} {sl19 : Array (Option Value)} {oc19 kV19 dc19 pm19 cd19 ct19 : Value}
    (a19 : PySem.W.nsIn K mainGlobals "_law_parts" = some (some (.ref f19))) (l19 : K.lookup f19 = some ⟨oc19, od19, .func (PySem.W.fnOf "_law_parts" "_law_parts" (defArgs s__law_parts) (defBody s__law_parts) (defScope s__law_parts) .none kV19 dc19 pm19 an19 cd19 ct19), sl19⟩) (c19 : PySem.W.codeIn K cd19 "_law_parts" = true) (k19 : PySem.W.keepIn K (.ref f19) = true)
    {f20 : Addr} {od20 an20 : Option Addr} {sl20 : Array (Option Value)} {oc20 kV20 dc20 pm20 cd20 ct20 : Value}
    (a20 : PySem.W.nsIn K mainGlobals "_law_great_right" = some (some (.ref f20))) (l20 : K.lookup f20 = some ⟨oc20, od20, .func (PySem.W.fnOf "_law_great_right" "_law_great_right" (defArgs s__law_great_right) (defBody s__law_great_right) (defScope s__law_great_right) .none kV20 dc20 pm20 an20 cd20 ct20), sl20⟩) (c20 : PySem.W.codeIn K cd20 "_law_great_right" = true) (k20 : PySem.W.keepIn K (.ref f20) = true)
    {f21 : Addr} {od21 an21 : Option Addr} {sl21 : Array (Option Value)} {oc21 kV21 dc21 pm21 cd21 ct21 : Value}
    (a21 : PySem.W.nsIn K mainGlobals "law" = some (some (.ref f21))) (l21 : K.lookup f21 = some ⟨oc21, od21, .func (PySem.W.fnOf "law" "law" (defArgs s_law) (defBody s_law) (defScope s_law) .none kV21 dc21 pm21 an21 cd21 ct21), sl21⟩) (c21 : PySem.W.codeIn K cd21 "law" = true) (k21 : PySem.W.keepIn K (.ref f21) = true)
    (z_abs : PySem.W.nsIn K mainGlobals "abs" = some none)    (z_bool : PySem.W.nsIn K mainGlobals "bool" = some none)    (z_int : PySem.W.nsIn K mainGlobals "int" = some none)    (z_isinstance : PySem.W.nsIn K mainGlobals "isinstance" = some none)    (z_len : PySem.W.nsIn K mainGlobals "len" = some none)    (z_max : PySem.W.nsIn K mainGlobals "max" = some none)    (z_min : PySem.W.nsIn K mainGlobals "min" = some none)    (z_range : PySem.W.nsIn K mainGlobals "range" = some none)    (z_repr : PySem.W.nsIn K mainGlobals "repr" = some none)    (z_tuple : PySem.W.nsIn K mainGlobals "tuple" = some none)    {t_MOST_orders : Tok} (m_MOST_orders : PySem.W.nsIn K mainGlobals "MOST_orders" = some (some (.int 1000000000 t_MOST_orders)))    {t_MOST_rests : Tok} (m_MOST_rests : PySem.W.nsIn K mainGlobals "MOST_rests" = some (some (.int 1000000000000000000000000000000 t_MOST_rests)))    {C_NoNumber : Addr} (eg_NoNumber : PySem.W.nsIn K mainGlobals "NoNumber" = some (some (.ref C_NoNumber))) (ek_NoNumber : PySem.W.keepIn K (.ref C_NoNumber) = true) (eq_NoNumber : PySem.W.excIn K C_NoNumber [.type "ValueError", .type "Exception", .type "BaseException", .type "object"] "ValueError.__new__" = true) (eb_NoNumber : PySem.W.subIn K (.ref C_NoNumber) (.type "BaseException") = some true) (et_NoNumber : PySem.W.typeIn K (.ref C_NoNumber) = some (.type "type"))
 :
    ∃ fd : FuncData, (∀ (s : Shared) (v : Value), BindsTo s fd ⟨[v], []⟩ [("_law_script", v)]) ∧ ∀ base : Heap, K.In base → base.Ns mainGlobals mg → FnG l.prog w K mg base CX0 7 fa fd ["_law_script"] (spLaw K) := by
  have e := hfa.symm.trans (PySem.W.mg_of X G a21)
  cases e
  have F0 := fun_mk (st := s_is_whole) l0 c0 k0
  have b0 := F0.binds (ps := ["thing"]) fun _ _ _ _ _ _ us hl => match us, hl with | [_], _ => rfl
  have F1 := fun_mk (st := s_is_between) l1 c1 k1
  have b1 := F1.binds (ps := ["thing", "low", "high"]) fun _ _ _ _ _ _ us hl => match us, hl with | [_, _, _], _ => rfl
  have F2 := fun_mk (st := s_need_between) l2 c2 k2
  have b2 := F2.binds (ps := ["thing", "low", "high"]) fun _ _ _ _ _ _ us hl => match us, hl with | [_, _, _], _ => rfl
  have F3 := fun_mk (st := s_need_far) l3 c3 k3
  have b3 := F3.binds (ps := ["number"]) fun _ _ _ _ _ _ us hl => match us, hl with | [_], _ => rfl
  have F4 := fun_mk (st := s_common) l4 c4 k4
  have b4 := F4.binds (ps := ["one", "other"]) fun _ _ _ _ _ _ us hl => match us, hl with | [_, _], _ => rfl
  have F5 := fun_mk (st := s_prime_parts) l5 c5 k5
  have b5 := F5.binds (ps := ["number"]) fun _ _ _ _ _ _ us hl => match us, hl with | [_], _ => rfl
  have F6 := fun_mk (st := s_rests_of) l6 c6 k6
  have b6 := F6.binds (ps := ["n"]) fun _ _ _ _ _ _ us hl => match us, hl with | [_], _ => rfl
  have F7 := fun_mk (st := s_power_of) l7 c7 k7
  have b7 := F7.binds (ps := ["base", "often", "n"]) fun _ _ _ _ _ _ us hl => match us, hl with | [_, _, _], _ => rfl
  have F8 := fun_mk (st := s_order_in) l8 c8 k8
  have b8 := F8.binds (ps := ["number", "n", "whole"]) fun _ _ _ _ _ _ us hl => match us, hl with | [_, _, _], _ => rfl
  have F9 := fun_mk (st := s_order_of) l9 c9 k9
  have b9 := F9.binds (ps := ["number", "n"]) fun _ _ _ _ _ _ us hl => match us, hl with | [_, _], _ => rfl
  have F10 := fun_mk (st := s__law_cell_at) l10 c10 k10
  have b10 := F10.binds (ps := ["_law_script", "_law_k"]) fun _ _ _ _ _ _ us hl => match us, hl with | [_, _], _ => rfl
  have F11 := fun_mk (st := s__law_state) l11 c11 k11
  have b11 := F11.binds (ps := ["_law_script", "_law_k"]) fun _ _ _ _ _ _ us hl => match us, hl with | [_, _], _ => rfl
  have F12 := fun_mk (st := s_many_rests) l12 c12 k12
  have b12 := F12.binds (ps := ["n"]) fun _ _ _ _ _ _ us hl => match us, hl with | [_], _ => rfl
  have F13 := fun_mk (st := s__law_choice) l13 c13 k13
  have b13 := F13.binds (ps := ["_law_state_here", "_law_many"]) fun _ _ _ _ _ _ us hl => match us, hl with | [_, _], _ => rfl
  have F14 := fun_mk (st := s__law_same) l14 c14 k14
  have b14 := F14.binds (ps := ["_law_found", "_law_due"]) fun _ _ _ _ _ _ us hl => match us, hl with | [_, _], _ => rfl
  have F15 := fun_mk (st := s__law_common) l15 c15 k15
  have b15 := F15.binds (ps := ["_law_one", "_law_other"]) fun _ _ _ _ _ _ us hl => match us, hl with | [_, _], _ => rfl
  have F16 := fun_mk (st := s__law_far) l16 c16 k16
  have b16 := F16.binds (ps := ["_law_state_here"]) fun _ _ _ _ _ _ us hl => match us, hl with | [_], _ => rfl
  have F17 := fun_mk (st := s__law_small_right) l17 c17 k17
  have b17 := F17.binds (ps := ["_law_state_here"]) fun _ _ _ _ _ _ us hl => match us, hl with | [_], _ => rfl
  have F18 := fun_mk (st := s__law_power) l18 c18 k18
  have b18 := F18.binds (ps := ["_law_base", "_law_often", "_law_n"]) fun _ _ _ _ _ _ us hl => match us, hl with | [_, _, _], _ => rfl
  have F19 := fun_mk (st := s__law_parts) l19 c19 k19
  have b19 := F19.binds (ps := ["_law_number"]) fun _ _ _ _ _ _ us hl => match us, hl with | [_], _ => rfl
  have F20 := fun_mk (st := s__law_great_right) l20 c20 k20
  have b20 := F20.binds (ps := ["_law_state_here"]) fun _ _ _ _ _ _ us hl => match us, hl with | [_], _ => rfl
  have F21 := fun_mk (st := s_law) l21 c21 k21
  obtain ⟨er, her⟩ : ∃ er : String → Addr, er = (fun x => if x = "NoNumber" then C_NoNumber else (fun _ => 0) x) := ⟨_, rfl⟩
  have q_NoNumber : er "NoNumber" = C_NoNumber := by rw [her]; simp
  have x_NoNumber : EC K mg "NoNumber" (er "NoNumber") := by rw [q_NoNumber]; exact ⟨PySem.W.mg_of X G eg_NoNumber, ek_NoNumber, eq_NoNumber, eb_NoNumber, et_NoNumber⟩
  have y_abs := PySem.W.mg_none_of X G z_abs
  have y_bool := PySem.W.mg_none_of X G z_bool
  have y_int := PySem.W.mg_none_of X G z_int
  have y_isinstance := PySem.W.mg_none_of X G z_isinstance
  have y_len := PySem.W.mg_none_of X G z_len
  have y_max := PySem.W.mg_none_of X G z_max
  have y_min := PySem.W.mg_none_of X G z_min
  have y_range := PySem.W.mg_none_of X G z_range
  have y_repr := PySem.W.mg_none_of X G z_repr
  have y_tuple := PySem.W.mg_none_of X G z_tuple
  have n_MOST_orders := PySem.W.mg_of X G m_MOST_orders
  have n_MOST_rests := PySem.W.mg_of X G m_MOST_rests
  refine ⟨PySem.W.fnOf "law" "law" (defArgs s_law) (defBody s_law) (defScope s_law) .none kV21 dc21 pm21 an21 cd21 ct21, fun s v => .of_eq rfl, fun base _ _ => ?_⟩
  have g0 := Cl.mk' F0 (PySem.W.mg_of X G a0) b0 (ok_is_whole (P := l.prog) (w := w) (base := base) F0 y_bool y_int y_isinstance)
  have g1 := Cl.mk' F1 (PySem.W.mg_of X G a1) b1 (ok_is_between (P := l.prog) (w := w) (base := base) F1 g0)
  have g2 := Cl.mk' F2 (PySem.W.mg_of X G a2) b2 (ok_need_between (P := l.prog) (w := w) (base := base) F2 g1 x_NoNumber)
  have g3 := Cl.mk' F3 (PySem.W.mg_of X G a3) b3 (ok_need_far (P := l.prog) (w := w) (base := base) F3 g2 n_MOST_rests)
  have g4 := Cl.mk' F4 (PySem.W.mg_of X G a4) b4 (ok_common (P := l.prog) (w := w) (base := base) F4 y_abs)
  have g5 := Cl.mk' F5 (PySem.W.mg_of X G a5) b5 (ok_prime_parts (P := l.prog) (w := w) (base := base) F5 y_tuple)
  have g6 := Cl.mk' F6 (PySem.W.mg_of X G a6) b6 (ok_rests_of (P := l.prog) (w := w) (base := base) F6 g5)
  have g7 := Cl.mk' F7 (PySem.W.mg_of X G a7) b7 (ok_power_of (P := l.prog) (w := w) (base := base) F7 )
  have g8 := Cl.mk' F8 (PySem.W.mg_of X G a8) b8 (ok_order_in (P := l.prog) (w := w) (base := base) F8 g7 g5)
  have g9 := Cl.mk' F9 (PySem.W.mg_of X G a9) b9 (ok_order_of (P := l.prog) (w := w) (base := base) F9 g2 g3 g4 g6 g8 n_MOST_orders)
  have g10 := Cl.mk' F10 (PySem.W.mg_of X G a10) b10 (ok__law_cell_at (P := l.prog) (w := w) (base := base) F10 y_len)
  have g11 := Cl.mk' F11 (PySem.W.mg_of X G a11) b11 (ok__law_state (P := l.prog) (w := w) (base := base) F11 g10 y_max)
  have g12 := Cl.mk' F12 (PySem.W.mg_of X G a12) b12 (ok_many_rests (P := l.prog) (w := w) (base := base) F12 g2 g6 n_MOST_orders)
  have g13 := Cl.mk' F13 (PySem.W.mg_of X G a13) b13 (ok__law_choice (P := l.prog) (w := w) (base := base) F13 )
  have g14 := Cl.mk' F14 (PySem.W.mg_of X G a14) b14 (ok__law_same (P := l.prog) (w := w) (base := base) F14 y_repr)
  have g15 := Cl.mk' F15 (PySem.W.mg_of X G a15) b15 (ok__law_common (P := l.prog) (w := w) (base := base) F15 y_max)
  have g16 := Cl.mk' F16 (PySem.W.mg_of X G a16) b16 (ok__law_far (P := l.prog) (w := w) (base := base) F16 g13)
  have g17 := Cl.mk' F17 (PySem.W.mg_of X G a17) b17 (ok__law_small_right (P := l.prog) (w := w) (base := base) F17 g9 g12 g13 g14 g15 g16 y_len y_range)
  have g18 := Cl.mk' F18 (PySem.W.mg_of X G a18) b18 (ok__law_power (P := l.prog) (w := w) (base := base) F18 )
  have g19 := Cl.mk' F19 (PySem.W.mg_of X G a19) b19 (ok__law_parts (P := l.prog) (w := w) (base := base) F19 )
  have g20 := Cl.mk' F20 (PySem.W.mg_of X G a20) b20 (ok__law_great_right (P := l.prog) (w := w) (base := base) F20 g9 g12 g13 g14 g18 g15 g19 g16 y_bool y_isinstance)
  exact ok_law F21 g9 g11 g17 g20 y_len y_max y_min y_range
theorem walk {l : PySem.W.OpenLaw} {q : Program} {loose : List Str} {XP : (Str → Option Value) → Heap → Prop} {YP : World → Heap → Prop} {d : DefRec} {K : Params → PySem.W.Frag} (hn : l.most = some 63) (hdf : d.params.defaults = [])
    (hY : ∀ (w : World) (h : Heap), YP w h → (K w.params).In h)
    (F : ∀ (w : World) (mg : Str → Option Value) (fa : Addr) (h : Heap), (K w.params).In h → h.Ns mainGlobals mg → mg d.name = some (.ref fa) →
      ∃ fd : FuncData, (∀ (s : Shared) (u : Value), BindsTo s fd ⟨[u], []⟩ [("_law_script", u)]) ∧ ∀ base : Heap, (K w.params).In base → base.Ns mainGlobals mg → FnG l.prog w (K w.params) mg base CX0 7 fa fd ["_law_script"] (spLaw (K w.params))) :
    PySem.W.WalkO q loose XP YP l.row.toRowW d [] (fun f vs => PySem.call f vs) :=
  walk_ofG (n := 63) (k := 7) (x := "_law_script") (sp := spLaw) hn (by decide) hdf ⟨rfl, by decide, by decide⟩ hY F (fun _ _ a ns hl _ hS => ⟨a, ns, rfl, hS, hl, fun _ => rfl⟩)
end My
open PySem PySem.W PyProof.Rows
set_option maxRecDepth 100000 in
set_option maxHeartbeats 0 in
theorem PySem.Challenge.cw_primepapers_k10_orders_holds : PySem.Challenge.rw_primepapers_k10_orders.Holds := by
  w_on; o_law; k_head; (case hw => w_witness2)
  k_fill
  refine My.walk (l := PySem.Challenge.rw_primepapers_k10_orders) rfl rfl (fun w h Y => PySem.W.kIn_of Y) ?F
  case F =>
    intro w mg fa h KX G hmg
    refine' My.all_mk KX G hmg ?a0 ?l0 ?c0 ?k0 ?a1 ?l1 ?c1 ?k1 ?a2 ?l2 ?c2 ?k2 ?a3 ?l3 ?c3 ?k3 ?a4 ?l4 ?c4 ?k4 ?a5 ?l5 ?c5 ?k5 ?a6 ?l6 ?c6 ?k6 ?a7 ?l7 ?c7 ?k7 ?a8 ?l8 ?c8 ?k8 ?a9 ?l9 ?c9 ?k9 ?a10 ?l10 ?c10 ?k10 ?a11 ?l11 ?c11 ?k11 ?a12 ?l12 ?c12 ?k12 ?a13 ?l13 ?c13 ?k13 ?a14 ?l14 ?c14 ?k14 ?a15 ?l15 ?c15 ?k15 ?a16 ?l16 ?c16 ?k16 ?a17 ?l17 ?c17 ?k17 ?a18 ?l18 ?c18 ?k18 ?a19 ?l19 ?c19 ?k19 ?a20 ?l20 ?c20 ?k20 ?a21 ?l21 ?c21 ?k21 ?z_abs ?z_bool ?z_int ?z_isinstance ?z_len ?z_max ?z_min ?z_range ?z_repr ?z_tuple ?m_MOST_orders ?m_MOST_rests ?eg_NoNumber ?ek_NoNumber ?eq_NoNumber ?eb_NoNumber ?et_NoNumber
    (case a0 => k_is)
    (case l0 => k_is)
    (case c0 => k_is)
    (case k0 => k_is)
    (case a1 => k_is)
    (case l1 => k_is)
    (case c1 => k_is)
    (case k1 => k_is)
    (case a2 => k_is)
    (case l2 => k_is)
    (case c2 => k_is)
    (case k2 => k_is)
    (case a3 => k_is)
    (case l3 => k_is)
    (case c3 => k_is)
    (case k3 => k_is)
    (case a4 => k_is)
    (case l4 => k_is)
    (case c4 => k_is)
    (case k4 => k_is)
    (case a5 => k_is)
    (case l5 => k_is)
    (case c5 => k_is)
    (case k5 => k_is)
    (case a6 => k_is)
    (case l6 => k_is)
    (case c6 => k_is)
    (case k6 => k_is)
    (case a7 => k_is)
    (case l7 => k_is)
    (case c7 => k_is)
    (case k7 => k_is)
    (case a8 => k_is)
    (case l8 => k_is)
    (case c8 => k_is)
    (case k8 => k_is)
    (case a9 => k_is)
    (case l9 => k_is)
    (case c9 => k_is)
    (case k9 => k_is)
    (case a10 => k_is)
    (case l10 => k_is)
    (case c10 => k_is)
    (case k10 => k_is)
    (case a11 => k_is)
    (case l11 => k_is)
    (case c11 => k_is)
    (case k11 => k_is)
    (case a12 => k_is)
    (case l12 => k_is)
    (case c12 => k_is)
    (case k12 => k_is)
    (case a13 => k_is)
    (case l13 => k_is)
    (case c13 => k_is)
    (case k13 => k_is)
    (case a14 => k_is)
    (case l14 => k_is)
    (case c14 => k_is)
    (case k14 => k_is)
    (case a15 => k_is)
    (case l15 => k_is)
    (case c15 => k_is)
    (case k15 => k_is)
    (case a16 => k_is)
    (case l16 => k_is)
    (case c16 => k_is)
    (case k16 => k_is)
    (case a17 => k_is)
    (case l17 => k_is)
    (case c17 => k_is)
    (case k17 => k_is)
    (case a18 => k_is)
    (case l18 => k_is)
    (case c18 => k_is)
    (case k18 => k_is)
    (case a19 => k_is)
    (case l19 => k_is)
    (case c19 => k_is)
    (case k19 => k_is)
    (case a20 => k_is)
    (case l20 => k_is)
    (case c20 => k_is)
    (case k20 => k_is)
    (case a21 => k_is)
    (case l21 => k_is)
    (case c21 => k_is)
    (case k21 => k_is)
    (case z_abs => k_is)
    (case z_bool => k_is)
    (case z_int => k_is)
    (case z_isinstance => k_is)
    (case z_len => k_is)
    (case z_max => k_is)
    (case z_min => k_is)
    (case z_range => k_is)
    (case z_repr => k_is)
    (case z_tuple => k_is)
    (case m_MOST_orders => k_is)
    (case m_MOST_rests => k_is)
    (case eg_NoNumber => k_is)
    (case ek_NoNumber => k_is)
    (case eq_NoNumber => k_exc)
    (case eb_NoNumber => k_is)
    (case et_NoNumber => k_is)
